/- What the functions do. Conditions: none. -/
import Derived.Test.YtoioonbabnomkaaGreatQa
set_option autoImplicit true
set_option relaxedAutoImplicit true
set_option maxRecDepth 100000
set_option maxHeartbeats 8000000
set_option linter.unusedSimpArgs false
set_option linter.unusedVariables false
set_option linter.unnecessarySimpa false
set_option linter.defProp false
namespace Go.Proofs.YtoioonbabnomkaaGreat.Am
section
open Go
variable {P:Program} {h:aa} {ab mb lb dp:Nat} {S:List Sl} {es:List (Nat×Nat)}
structure pT (S:List Sl) (es:List (Nat×Nat)) (f:Nat->Option (List UInt8)):Prop where
 k:aE0 S es 1000
 f: ∀id,f id=((dw es id).bind fun i=>(S[i]?).bind (·.r)).map (·.2)
 keys:(es.map (·.1)).Nodup
def getElem?_lt {α:Type} {l:List α} {a:α} (h:l[i]? =some a):i<l.length:=by
 grind
def pT.lt {f} (R:pT S es f) {id:Nat} (hn:dw es id=some i):i<S.length:=by
 obtain⟨rec,turn,h1,_⟩:=R.k.rc id i hn
 grind
def pT.sm {f} (R:pT S es f) {id:Nat} {rec:List UInt8} (hf:f id=some rec): ∃i turn,dw es id=some i/\S[i]? =some ⟨some (id,rec),turn⟩/\rec.length<1000:=by
 rw[R.f] at hf
 cases hn:dw es id with
 |none=>grind
 |some i=>
  obtain⟨aUB,turn,h1,h2⟩:=R.k.rc id i hn
  grind
def pT.of {f} (R:pT S es f) {id:Nat} {rec:List UInt8} (h1:S[i]? =some ⟨some (id,rec),turn⟩):f id=some rec/\dw es id=some i:=by
 have hn:=R.k.idx _ _ _ _ h1
 exact⟨by rw[R.f,hn,me,h1];rfl,hn⟩
def pT.mem {f} (R:pT S es f) {id:Nat}:id∈jo S↔(f id).isSome=true:=by
 constructor
 ·intro aM
  obtain⟨s,hs,hr⟩:=List.mem_filterMap.1 aM
  obtain⟨i,hi⟩:=List.mem_iff_getElem?.1 hs
  obtain⟨⟨CC,rec⟩,pd,qh⟩:=Option.map_eq_some_iff.1 hr
  simp only at qh;subst qh
  have Ep:S[i]? =some ⟨some (CC,rec),s.turn⟩:=by rw[hi];cases s;simp_all
  rw[(R.of Ep).1];rfl
 ·intro hf
  obtain⟨rec,hf⟩:=Option.isSome_iff_exists.1 hf
  obtain⟨i,turn,_,h1,_⟩:=R.sm hf
  exact List.mem_filterMap.2 ⟨_,iC h1,rfl⟩
def aG6 (R:pT S es f):(jo S).Nodup:=by
 unfold jo List.Nodup
 rw[List.pairwise_filterMap]
 refine List.pairwise_iff_getElem.2 fun i j hi hj AX a ha b hb=>?_
 obtain⟨⟨ia,ra⟩,h1,h2⟩:=Option.map_eq_some_iff.1 ha
 obtain⟨⟨ib,rb⟩,h3,h4⟩:=Option.map_eq_some_iff.1 hb
 simp only at h2 h4;subst h2;subst h4
 intro e;subst e
 have e1:S[i]? =some ⟨some (ia,ra),S[i].turn⟩:=by rw[bn hi,<-h1]
 have e2:S[j]? =some ⟨some (ia,rb),S[j].turn⟩:=by rw[bn hj,<-h3]
 have:=(R.of e1).2.symm.trans (R.of e2).2
 grind
def amH (R:pT S es f) (hl:l.Pairwise (· < ·)) (hm: ∀id,id∈l↔(f id).isSome=true):qI (jo S)=l:=by
 refine Wt Wb (hl.imp (fun h=>Nat.le_of_lt h)) (Bk.trans ?_)
 refine(List.perm_ext_iff_of_nodup (aG6 R) (hl.imp (fun h=>Nat.ne_of_lt h))).2 fun id=>?_
 rw[R.mem,hm]
def lQ (f:Nat->Option (List UInt8)) (id:Nat) (r:Option (List UInt8)):Nat->Option (List UInt8):=fun x=>if x=id then r else f x
def NV {id:Nat} (hn:dw es id=none):dw (es++[(id,i)]) x=if x=id then some i else dw es x:=by
 unfold dw at*
 grind
def aiY {id:Nat} (hn:dw es id=none):id∉es.map (·.1):=by
 intro hm
 obtain⟨e,he,rfl⟩:=List.mem_map.1 hm
 unfold dw at hn
 rw[Option.map_eq_none_iff,List.find?_eq_none] at hn
 grind
def NT {id:Nat} (hn:dw es id=some i):(id,i)∈es:=by
 unfold dw at hn
 obtain⟨e,he,rfl⟩:=Option.map_eq_some_iff.1 hn
 grind
def aki {id:Nat} (hk:(es.map (·.1)).Nodup) (hm:(id,i)∈es):dw es id=some i:=by
 cases hq:dw es id with
 |none=>exact absurd (List.mem_map.2 ⟨_,hm,rfl⟩) (aiY hq)
 |some j=>
  have hj:=NT hq
  obtain⟨a,ha,e1⟩:=jm hm
  obtain⟨b,hb,e2⟩:=jm hj
  have:=Iy hk (i:=a) (j:=b) (by simpa using ha) (by simpa using hb) (by simp[e1,e2])
  grind
def Oy {i:Nat}:(lj S).2[i]? =some ⟨some r,turn⟩↔S[i]? =some ⟨some r,turn⟩:=by
 unfold lj
 grind
def aJP: ∃turn,(lj S).2[(lj S).1]? =some ⟨none,turn⟩:=by
 unfold lj
 cases hq:GG S with
 |none=>simp_all
 |some k=>
  obtain⟨hk,h1,_⟩:=List.findIdx?_eq_some_iff_getElem.1 hq
  refine⟨S[k].turn,?_⟩
  rw[bn hk]
  cases hs:S[k] with
  |mk r turn=>simp_all
def pT.put {f} (R:pT S es f) {id:Nat} {rec:List UInt8} (aM:id<2^64) (hr:rec.length<1000):pT (qQ S es id rec).1 (qQ S es id rec).2 (lQ f id (some rec)):=by
 unfold qQ
 cases hn:dw es id with
 |some i=>
  have hi:=R.lt hn
  obtain⟨r0,t0,h0,_⟩:=R.k.rc id i hn
  have key: ∀{x j:Nat},dw es x=some j->(j=i↔x=id):=by
   intro x j hx
   constructor
   ·intro e;subst e
    obtain⟨r1,t1,h1,_⟩:=R.k.rc x j hx
    grind
   grind
  simp only
  generalize(Ho (S.getD i ⟨none,0⟩).turn)=T
  refine⟨⟨fun x j hx=>?_,fun x j r t hx=>?_,R.k.id⟩,fun x=>?_,R.keys⟩
  ·by_cases e:j=i
   ·grind
   ·obtain⟨r1,t1,h1,h2⟩:=R.k.rc x j hx
    grind
  ·by_cases e:i=j
   ·grind
   ·rw[J1 e] at hx
    exact R.k.idx x j r t hx
  ·unfold lQ
   by_cases e:x=id
   ·grind
   ·rw[aj e,R.f]
    cases hx:dw es x with
    |none=>rfl
    |some j=>
     grind
 |none=>
  obtain⟨tf,hf⟩:=aJP (S:=S)
  have da:=(Jc (S:=S)).1
  generalize(Ho ((lj S).2.getD (lj S).1 ⟨none,0⟩).turn)=T
  simp only
  have ne: ∀{x j:Nat},dw es x=some j-> ¬(lj S).1=j:=by
   intro x j hx e
   obtain⟨r1,t1,h1,_⟩:=R.k.rc x j hx
   rw[<-Oy,<-e,hf] at h1
   cases h1
  refine⟨⟨fun x j hx=>?_,fun x j r t hx=>?_,fun x j hx=>?_⟩,fun x=>?_,?_⟩
  ·rw[NV hn] at hx
   split at hx
   ·simp_all
   ·obtain⟨r1,t1,h1,h2⟩:=R.k.rc x j hx
    exact⟨r1,t1,by rw[J1 (ne hx),Oy,h1],h2⟩
  ·rw[NV hn]
   by_cases e:(lj S).1=j
   ·grind
   ·rw[J1 e,Oy] at hx
    have:=R.k.idx x j r t hx
    grind
  ·rw[NV hn] at hx
   split at hx
   ·omega
   ·exact R.k.id x j hx
  ·unfold lQ
   rw[NV hn]
   by_cases e:x=id
   ·grind
   ·rw[aj e,aj e,R.f]
    cases hx:dw es x with
    |none=>rfl
    |some j=>
     obtain⟨r1,t1,h1,_⟩:=R.k.rc x j hx
     rw[me,me,J1 (ne hx),h1,Oy.2 h1]
  ·rw[jz,List.nodup_append]
   refine⟨R.keys,by simp,fun a ha b hb=>?_⟩
   have:b=id:=by simpa using hb
   subst this
   intro e;subst e
   exact aiY hn ha
def pT.drop {f} (R:pT S es f) {id:Nat}:pT (zU S es id).1 (zU S es id).2 (lQ f id none):=by
 unfold zU
 cases hn:dw es id with
 |none=>
  refine⟨R.k,fun x=>?_,R.keys⟩
  unfold lQ
  by_cases e:x=id
  ·grind
  ·rw[aj e,R.f]
 |some i=>
  obtain⟨j,hj⟩: ∃j,ti es id=some j:=by
   rw[NU] at hn
   cases hq:ti es id with
   |none=>grind
   |some j=>exact⟨j,rfl⟩
  have hi:=R.lt hn
  obtain⟨r0,t0,h0,_⟩:=R.k.rc id i hn
  rw[hj]
  simp only
  generalize(S.getD i ⟨none,0⟩).turn=T
  obtain⟨iu,wV,sf⟩:=List.findIdx?_eq_some_iff_getElem.1 hj
  have aUR:id=es[j].1:=by grind
  have fe: ∀x,dw (es.eraseIdx j) x=if x=id then none else dw es x:=by
   intro x
   by_cases e:x=id
   ·rw[ax e]
    cases hq:dw (es.eraseIdx j) x with
    |none=>rfl
    |some k=>
     exfalso
     subst e
     obtain⟨a,ha,aT,ea⟩:=List.mem_eraseIdx_iff_getElem.1 (NT hq)
     exact aT (Iy R.keys (i:=a) (j:=j) (by simpa using ha) (by grind) (by grind))
   ·rw[aj e]
    cases hq:dw es x with
    |none=>
     cases yI:dw (es.eraseIdx j) x with
     |none=>rfl
     |some k=>
      have:=aki R.keys (List.mem_of_mem_eraseIdx (NT yI))
      grind
    |some k=>
     refine aki ((R.keys).sublist (List.Sublist.map _ (List.eraseIdx_sublist ..))) ?_
     obtain⟨a,ha,ea⟩:=jm (NT hq)
     refine List.mem_eraseIdx_iff_getElem.2 ⟨a,ha,fun h=>?_,ea⟩
     grind
  have key: ∀{x k:Nat},dw es x=some k->x≠id-> ¬i=k:=by
   intro x k hx e he
   subst he
   obtain⟨r1,t1,h1,_⟩:=R.k.rc x i hx
   grind
  refine⟨⟨fun x k hx=>?_,fun x k r t hx=>?_,fun x k hx=>?_⟩,fun x=>?_,(R.keys).sublist (List.Sublist.map _ (List.eraseIdx_sublist ..))⟩
  ·rw[fe] at hx
   split at hx
   ·cases hx
   ·rename_i e
    obtain⟨r1,t1,h1,h2⟩:=R.k.rc x k hx
    grind
  ·rw[fe]
   by_cases e:i=k
   ·grind
   ·rw[J1 e] at hx
    have:=R.k.idx x k r t hx
    grind
  ·rw[fe] at hx
   split at hx
   ·cases hx
   ·exact R.k.id x k hx
  ·unfold lQ
   rw[fe]
   by_cases e:x=id
   ·grind
   ·rw[aj e,aj e,R.f]
    cases hx:dw es x with
    |none=>rfl
    |some k=>grind
end
section
open Go
variable {P:Program} {h:aa}
def AA (h:aa) (ab mb lb dp N:Nat) (f:Nat->Option (List UInt8)):Prop:= ∃S es,fF h ab mb lb dp S es/\pT S es f/\S.length<=N/\lb<h.next
variable {ab mb lb dp N:Nat} {f:Nat->Option (List UInt8)}
def AA.lt (A:AA h ab mb lb dp N f):ab<h.next/\mb<h.next/\ab≠mb/\lb<h.next:=by
 obtain⟨S,es,A,_,_,hb⟩:=A
 exact⟨A.l1,A.l2,A.n1,hb⟩
def AA.more (A:AA h ab mb lb dp N f) (hn:h.next<=h'.next) (h1:h'.get ab=h.get ab) (h2:h'.get mb=h.get mb) (h3:lb<h.next->h'.get lb=h.get lb) (hM:N<=M):AA h' ab mb lb dp M f:=by
 obtain⟨S,es,A,R,hl,hb⟩:=A
 exact⟨S,es,A.more hn h1 h2 (fun hS=>h3 (A.DW hS).2.2.1),R,by omega,by omega⟩
def AA.old (A:AA h ab mb lb dp N f) (o:Old h h'):AA h' ab mb lb dp N f:=A.more o.next (o.get _ A.lt.1) (o.get _ A.lt.2.1) (fun hl=>o.get _ hl) (ak _)
def AA.fn (A:AA h ab mb lb dp N f) (hg: ∀x,f x=g x):AA h ab mb lb dp N g:=by
 have:f=g:=funext hg
 grind
def AA.new (ok:aA P tb) {v:Nat}: ∃h',al P 40 [.int .u8 v] h (.ptr (h.next+1) 0) h'/\AA h' (h.next+1) h.next (h.next+1) v 0 (fun _=>none)/\h'.next=h.next+2/\Old h h':=by
 obtain⟨h',c,A,e,o⟩:=aT7 ok (h:=h) (v:=v)
 obtain⟨lv,t1,t2⟩:=A.top
 have A':fF h' (h.next+1) h.next (h.next+1) v [] []:=⟨⟨lv,t1,by grind⟩,A.map,A.l1,A.l2,A.n1,A.small⟩
 refine⟨h',c,⟨[],[],A',⟨⟨fun id i hi=>?_,fun id i r t hi=>?_,fun id i hi=>?_⟩,fun id=>rfl,by simp⟩,by simp,A.l1⟩,e,o⟩
 ·cases hi
 ·simp at hi
 ·cases hi
def AA.get (ok:aA P tb) (A:AA h ab mb lb dp N f) {id:Nat}:al P 97 [.ptr ab 0, .int .u64 id] h (match f id with|some r=> .aE [.vs (BS r) .au, .int .i64 0]|none=> .aE [.vs [] .au, .int .i64 7]) h:=by
 obtain⟨S,es,A,R,hl,hb⟩:=A
 have:=aT8 ok A (id:=id) (fun i hi=>by obtain⟨rec,turn,h1,h2⟩:=R.k.rc id i hi;grind)
 rw[R.f]
 grind
def AA.put (ok:aA P tb) (A:AA h ab mb lb dp N f) {id:Nat} {t:aL} (aM:id<2^64) (hv:x.toNat=dp) (hr:rec.length<999) (hN:N<2^19):
 ∃h',al P 42 [.ptr ab 0, .int .u64 id, .vs (BS (x::rec)) t] h (.int .i64 0) h'/\ ∃aW,AA h' ab mb aW dp (N+1) (lQ f id (some (x::rec)))/\(aW=lb\/h.next<=aW)/\m5 h h' ab mb lb:=by
 obtain⟨S,es,A,R,hl,hb⟩:=A
 obtain⟨h',c,aW,A',h1,h2⟩:=aT6 ok A (id:=id) (x:=x) (rec:=rec) (t:=t) hv (by omega) (by omega) (fun i hi=>R.lt hi)
 have aT:(qQ S es id (x::rec)).1≠[]:=by
  intro e
  have e:=congrArg List.length e
  unfold qQ at e
  have:=(Jc (S:=S)).1
  split at e
  ·rename_i i hi;have:=R.lt hi;grind
  grind
 refine⟨h',c,aW,⟨_,_,A',R.put aM (by simp;omega),?_,(A'.DW aT).2.2.1⟩,h1,h2⟩
 unfold qQ
 have:=(Jc (S:=S)).2
 grind
def AA.drop (ok:aA P tb) (A:AA h ab mb lb dp N f) {id:Nat}: ∃e h',al P 232 [.ptr ab 0, .int .u64 id] h (.int .i64 e) h'/\AA h' ab mb lb dp N (lQ f id none)/\m5 h h' ab mb lb:=by
 obtain⟨S,es,A,R,hl,hb⟩:=A
 obtain⟨e,h',c,A',h1⟩:=aOT ok A (id:=id) (fun i hi=>R.lt hi)
 refine⟨e,h',c,⟨_,_,A',R.drop,?_,bJ hb h1.1⟩,h1⟩
 unfold zU
 grind
def AA.ids (ok:aA P tb) (A:AA h ab mb lb dp N f) (hl:l.Pairwise (· < ·)) (hm: ∀id,id∈l↔(f id).isSome=true) (h0:l≠[]) (dU:l.length<=12):al P 51 [.ptr ab 0] h (.vs ((ay .u64).R l) .au) h:=by
 obtain⟨S,es,A,R,hN,_⟩:=A
 have he:=amH R hl hm
 have:=aEX ok A (fun e=>h0 (by rw[<-he,e];rfl)) (by rw[<-Bk.length_eq,he];exact dU)
 grind
def AA.bytes (ok:aA P tb) (A:AA h ab mb lb dp N f) (hl:l.Pairwise (· < ·)) (hm: ∀id,id∈l↔(f id).isSome=true) (h0:l≠[]) (dU:l.length<=12):al P 43 [.ptr ab 0] h (.vs (BS (l.flatMap fun id=>be id 8++cq ((f id).getD []))) .au) h:=by
 obtain⟨S,es,A,R,hN,_⟩:=A
 have he:=amH R hl hm
 have:=aNI ok A (fun e=>h0 (by rw[<-he,e];rfl)) (by rw[<-Bk.length_eq,he];exact dU) R.k
 rw[he] at this
 have e2:vJ S es l=l.flatMap fun id=>be id 8++cq ((f id).getD []):=by
  unfold vJ
  congr 1
  funext id
  congr 2
  rw[R.f]
  unfold J8
  grind
 grind
def bI (l:List UInt8):List Int:=l.map fun b=>(b.toNat:Int)
def ami:qa (bI l)=BS l:=by simp[qa,bI,BS]
def Dk:(bI l).length=l.length:=by simp[bI]
def SG (h:aa) (bs bm bl bp M:Nat) (g:Nat->Option (List UInt8)):Prop:= ∃A,ki h bs bm bl bp 512 A/\(∀id:Nat,kM A id=(g id).map bI)/\qM A<=4*M
variable {bs bm bl bp M:Nat} {g:Nat->Option (List UInt8)}
def SG.lt (S:SG h bs bm bl bp M g):bs<h.next/\bm<h.next/\bl<h.next/\bp<h.next:=by
 obtain⟨A,S,_⟩:=S
 exact S.lt
def ki.same (S:ki h bs bm bl bp n A) (hn:h.next<=h'.next) (h1:h'.get bs=h.get bs) (h2:h'.get bm=h.get bm) (h3:h'.get bl=h.get bl) (h4:h'.get bp=h.get bp):ki h' bs bm bl bp n A:=by
 obtain⟨fs,ts,S,R⟩:=S
 exact⟨fs,ts,⟨by rw[h1,S.top],⟨by rw[h2,S.mem.top],by rw[h3,S.mem.row],S.mem.ne,S.mem.len,S.mem.small⟩,by rw[h4,S.map],S.n1,S.n2,S.n3,S.n4,S.n5,bJ S.l1 hn,bJ S.l2 hn,bJ S.l3 hn,bJ S.l4 hn,S.tn⟩,R⟩
def SG.more (S:SG h bs bm bl bp M g) (hn:h.next<=h'.next) (h1:h'.get bs=h.get bs) (h2:h'.get bm=h.get bm) (h3:h'.get bl=h.get bl) (h4:h'.get bp=h.get bp) (hM:M<=M'):SG h' bs bm bl bp M' g:=by
 obtain⟨A,S,hg,hu⟩:=S
 exact⟨A,S.same hn h1 h2 h3 h4,hg,by omega⟩
def SG.old (S:SG h bs bm bl bp M g) (o:Old h h'):SG h' bs bm bl bp M g:=S.more o.next (o.get _ S.lt.1) (o.get _ S.lt.2.1) (o.get _ S.lt.2.2.1) (o.get _ S.lt.2.2.2) (ak _)
def SG.fn (S:SG h bs bm bl bp M g) (hg: ∀x,g x=g' x):SG h bs bm bl bp M g':=by
 have:g=g':=funext hg
 grind
def SG.new (ok:aA P tb): ∃bs bm bl bp h',al P 107 [.int .i64 512] h (.ptr bs 0) h'/\SG h' bs bm bl bp 0 (fun _=>none)/\h.next<=bs/\h.next<=bm/\h.next<=bl/\h.next<=bp/\Old h h':=by
 obtain⟨bs,bm,bl,bp,h',c,S,h1,h2,h3,h4,h5,h6⟩:=aOZ ok h 512
 exact⟨bs,bm,bl,bp,h',c,⟨[],S,fun _=>rfl,by simp[qM]⟩,h1,h2,h3,h4,h5,h6⟩
def EN (h h':aa) (bl bp:Nat):Prop:=h.next<=h'.next/\ ∀b,b<h.next->b≠bl->b≠bp->h'.get b=h.get b
def aKY {id:Int} (hn:kM A id=none):kM (A++[(id,d)]) x=if x=id then some d else kM A x:=by
 unfold kM at*
 grind
def SG.map (ok:aA P tb) (S:SG h bs bm bl bp M g) {id n:Nat} (hn:n<=64) (hM:M<128): ∃e h',al P 110 [.ptr bs 0, .int .u64 id, .int .i64 n] h (.int .i64 e) h'/\SG h' bs bm bl bp (M+1) (if(g id).isSome then g else lQ g id (some (List.replicate n 0)))/\EN h h' bl bp:=by
 obtain⟨A,S,hg,hu⟩:=S
 obtain⟨h',c,S',h1,h2⟩:=aO0 ok S id n
 refine⟨_,h',c,⟨_,S',?_,?_⟩,h1,h2⟩
 ·intro x
  unfold Dl
  rw[aj (by omega),hg]
  cases hq:g id with
  |some d=>grind
  |none=>
   simp only[Option.map_none,Option.isSome_none,nj,fj]
   rw[aj (by unfold oK;omega),aKY (by grind),lQ]
   by_cases e:x=id
   ·rw[ax (by omega),ax e];simp[bI]
   grind
 ·unfold Dl
  rw[aj (by omega)]
  split
  ·grind
  ·split
   ·grind
   ·show qM (A++_)<=_
    unfold qM at*
    simp only[jz,eG,sQ,List.sum_append,List.sum_cons,List.sum_nil,oK,List.length_replicate,i9] at*
    omega
def ki.keys (S:ki h bs bm bl bp n A):(A.map (·.1)).Nodup:=by
 obtain⟨fs,ts,S,R⟩:=S
 rw[R.yS,List.map_map]
 exact R.keys
theorem akM {id:Int}: ∀{A:Mem},(A.map (·.1)).Nodup->kM (Al A id) x=if x=id then none else kM A x
 |[],_=>by simp[kM,Al]
 |e::A,hn=>by
  have cV:=List.nodup_cons.1 hn
  have ih:=akM (id:=id) (x:=x) (A:=A) cV.2
  unfold kM Al at*
  grind
theorem ajT {id:Int}: ∀{A:Mem},qM (Al A id)<=qM A
 |[]=>by simp[Al]
 |e::A=>by
  have ih:=ajT (id:=id) (A:=A)
  unfold qM Al at*
  grind
theorem aml {id:Int}: ∀{A:Mem},kM (Ch A id off v) x=if x=id then(kM A id).map (fun d=>d.take off++v++d.drop (off+v.length)) else kM A x
 |[]=>by simp[kM,Ch]
 |e::A=>by
  have ih:=aml (id:=id) (x:=x) (off:=off) (v:=v) (A:=A)
  unfold kM Ch at*
  grind
theorem akJ {id:Int}: ∀{A:Mem},(∀d,(id,d)∈A->off+v.length<=d.length)->qM (Ch A id off v)=qM A
 |[],_=>rfl
 |e::A,hd=>by
  have ih:=akJ (id:=id) (off:=off) (v:=v) (A:=A) (fun d h=>hd d (eH _ h))
  unfold qM Ch at*
  simp only[eG,List.sum_cons,ih]
  congr 1
  by_cases h:(id==e.1)=true
  ·have he:id=e.1:=by simpa using h
   have:=hd e.2 (by rw[he];simp)
   rw[ax h]
   congr 1
   simp;omega
  ·rw[aj h]
def aKX {id:Int} (hk:(A.map (·.1)).Nodup) (hm:(id,d)∈A):kM A id=some d:=by
 unfold kM
 cases hq:A.find? (fun e=>id==e.1) with
 |none=>grind
 |some e=>
  have h1:=List.find?_some hq
  have h2:=List.mem_of_find?_eq_some hq
  obtain⟨i,hi,e1⟩:=jm hm
  obtain⟨j,hj,e2⟩:=jm h2
  have:=Iy hk (i:=i) (j:=j) (by simpa using hi) (by simpa using hj) (by grind)
  grind
def SG.acX (ok:aA P tb) (S:SG h bs bm bl bp M g) {id:Nat}: ∃e h',al P 233 [.ptr bs 0, .int .u64 id] h (.int .i64 e) h'/\SG h' bs bm bl bp M (lQ g id none)/\EN h h' bl bp:=by
 obtain⟨A,S,hg,hu⟩:=S
 obtain⟨h',c,S',h1,h2⟩:=aMq ok S id
 have hk:=S.keys
 refine⟨_,h',c,⟨_,S',?_,?_⟩,h1,h2⟩
 ·intro x
  unfold C3
  rw[hg,lQ]
  cases hq:g id with
  |none=>
   grind
  |some d=>
   show kM (Al A id) x=_
   rw[akM hk]
   grind
 ·unfold C3
  have:=ajT (id:=id) (A:=A)
  grind
def SG.len (ok:aA P tb) (S:SG h bs bm bl bp M g) {id:Nat} (hd:g id=some d):al P 99 [.ptr bs 0, .int .u64 id] h (.aE [.int .i64 d.length, .int .i64 0]) h:=by
 obtain⟨A,S,hg,hu⟩:=S
 have:=aO1 ok S id
 rw[hg,hd] at this
 simpa [Dk] using this
def SG.read (ok:aA P tb) (S:SG h bs bm bl bp M g) {id:Nat} (hd:g id=some d) (aN:off+n<=d.length):al P 100 [.ptr bs 0, .int .u64 id, .int .i64 off, .int .i64 n] h (.aE [.vs (BS ((d.drop off).take n)) .au, .int .i64 0]) h:=by
 obtain⟨A,S,hg,hu⟩:=S
 have:=aNK ok S (id:=id) (off:=off) (n:=n) (d:=bI d) (by unfold yd;rw[hg,hd];simp only[iB,Dk];grind)
 have e:((bI d).drop off).take n=bI ((d.drop off).take n):=by simp[bI,List.map_take,List.map_drop]
 rw[e,ami] at this
 exact this
def SG.aLg (ok:aA P tb) (S:SG h bs bm bl bp M g) {id:Nat} (hd:g id=some d) (aN:off<0\/n<0\/(d.length:Int)<off\/(d.length:Int)-off<n):al P 100 [.ptr bs 0, .int .u64 id, .int .i64 off, .int .i64 n] h (.aE [.vs [] .full, .int .i64 11]) h:=by
 obtain⟨A,S,hg,hu⟩:=S
 exact aGY ok S (id:=id) (off:=off) (n:=n) (e:=11) (by unfold yd;rw[hg,hd];simp only[iB,Dk];grind) (by omega)
def my (d:List UInt8) (off:Nat) (v:List UInt8):List UInt8:=d.take off++v++d.drop (off+v.length)
def SG.write (ok:aA P tb) (S:SG h bs bm bl bp M g) {id:Nat} {t:aL} (hd:g id=some d) (aN:off+v.length<=d.length): ∃h',al P 111 [.ptr bs 0, .int .u64 id, .int .i64 off, .vs (BS v) t] h (.int .i64 0) h'/\SG h' bs bm bl bp M (lQ g id (some (my d off v)))/\EN h h' bl bp:=by
 obtain⟨A,S,hg,hu⟩:=S
 obtain⟨h',c,S',h1,h2⟩:=aMp ok S (id:=id) (off:=off) (vs:=bI v) (d:=bI d) (tl:=t) (by unfold yd;rw[hg,hd];simp only[iB,Dk];grind)
 rw[ami] at c
 refine⟨h',c,⟨_,S',?_,?_⟩,h1,fun b hb k1 _=>h2 b hb k1⟩
 ·intro x
  rw[aml,lQ,hg]
  by_cases e:x=id
  ·rw[ax (by omega),ax e,hd]
   simp[my,bI,List.map_take,List.map_drop]
  grind
 ·rw[akJ]
  ·exact hu
  ·intro d' jh
   have:=aKX S.keys jh
   rw[hg,hd] at this
   cases this
   rw[Dk,Dk];exact aN
def SG.aJw (ok:aA P tb) (S:SG h bs bm bl bp M g) {id:Nat} {t:aL} (hd:g id=some d) (aN:off<0\/(d.length:Int)<off\/(d.length:Int)-off<v.length):al P 111 [.ptr bs 0, .int .u64 id, .int .i64 off, .vs (BS v) t] h (.int .i64 11) h:=by
 obtain⟨A,S,hg,hu⟩:=S
 refine aF0 ok S (id:=id) (off:=off) (e:=11) ?_ (by omega)
 unfold yd
 rw[hg,hd]
 simp only[iB,Dk,aY]
 grind
end
section
open Go
variable {P:Program} {h:aa}
structure Th where
 ai:Lb
 st:St
 own:Int
 does:Int
 id:Nat
 to:Nat
 done:Int
 n:Int
 new:Bool
 deriving DecidableEq
def Th.c (x:Th) (t:Nat->aL):List AV:=[.int .u8 x.ai.d, .vs (aB.R x.ai.ps) (t 0), .vs ((ay .u16).R x.st.s) (t 1), .vs ((ay .u16).R x.st.i) (t 2), .vs ((ay .u16).R x.st.o) (t 3), .int .i64 x.own, .int .i64 x.does, .int .u64 x.id, .int .u64 x.to, .int .i64 x.done, .int .i64 x.n, .bool x.new]
def aH:Nat->aL:=fun i=>if i=0 then .au else .full
def aI (τ:Nat->aL) (l:List Th):List (List AV):=l.map fun x=>x.c τ
theorem l7: ∀r∈aI τ l,r.length=12:=fun r hr=>by
 obtain⟨x,_,rfl⟩:=List.mem_map.1 hr;rfl
def gI:(aI τ l).length=l.length:=by simp[aI]
def Fm (hi:i<l.length):(aI τ l)[i]? =some (l[i].c τ):=by simp[aI,bn hi]
def a9 (l:List Ob) (id:Nat):Option Ob:=l.find? fun o=>o.id==id
structure jj (o:Ob):Prop where
 ok:HF o
 may:eS o=true
 norm:mo o=o
structure KS (af:List Ob):Prop where
 aQ:af.Pairwise (·.id< ·.id)
 val: ∀o∈af,jj o
def ix {id:Nat} (h:a9 l id=some o):o∈l/\o.id=id:=⟨List.mem_of_find?_eq_some h,by simpa using List.find?_some h⟩
def lE (hs:l.Pairwise (·.id< ·.id)) (ho:o∈l):a9 l o.id=some o:=by
 induction l with
 |nil=>cases ho
 |cons x l ih=>
  have gu:=List.pairwise_cons.1 hs
  unfold a9 at ih ⊢
  grind
def Hh (f:Nat->Option (List UInt8)) (af:List Ob):Prop:= ∀id,match a9 af id with
 |none=>f id=none
 |some o=> ∃d,d.length=o.data.length/\f id=some (eM {o with data:=d})
def ff (af:List Ob) (id:Nat):Option (List UInt8):=(a9 af id).bind fun o=>if o.kind=2 then some o.data else none
structure KA where
 kb:Nat
 tb:Nat
 ab:Nat
 mb:Nat
 bs:Nat
 bm:Nat
 bl:Nat
 bp:Nat
def FK (a:KA) (b:Nat):Prop:=b=a.kb\/b=a.tb
def FA (a:KA) (lb b:Nat):Prop:=b=a.ab\/b=a.mb\/b=lb
def FS (a:KA) (b:Nat):Prop:=b=a.bs\/b=a.bm\/b=a.bl\/b=a.bp
structure KH (h:aa) (a:KA) (lb N M:Nat) (ah:List Th) (af:List Ob) (g:Nat->Option (List UInt8)):Prop where
 top:h.get a.kb=some (.cells [.rs a.tb 0 ah.length 12, .ptr a.ab 0, .ptr a.bs 0])
 aU:h.get a.tb=some (.cells (aI aH ah).flatten)
 ar: ∃f,AA h a.ab a.mb lb 1 N f/\Hh f af
 sp:SG h a.bs a.bm a.bl a.bp M g
 l1:a.kb<h.next
 l2:a.tb<h.next
 H8:a.kb≠a.tb
 qv: ∀b,FA a lb b-> ¬FS a b
 qu: ∀b,FK a b-> ¬FA a lb b
 tN: ∀b,FK a b-> ¬FS a b
 ks:KS af
def KF (h h':aa) (a:KA) (lb:Nat):Prop:=h.next<=h'.next/\ ∀b,b<h.next-> ¬FK a b-> ¬FA a lb b-> ¬FS a b->h'.get b=h.get b
variable {a:KA} {lb N M:Nat} {ah:List Th} {af:List Ob} {g:Nat->Option (List UInt8)}
def KH.more (K:KH h a lb N M ah af g) (hn:h.next<=h'.next) (hk: ∀b,b<h.next->FK a b\/FA a lb b\/FS a b->h'.get b=h.get b) (hN:N<=N') (hM:M<=M'):KH h' a lb N' M' ah af g:=by
 obtain⟨f,A,R⟩:=K.ar
 have S:=K.sp
 refine⟨by rw[hk _ K.l1 (.inl (.inl rfl)),K.top],by rw[hk _ K.l2 (.inl (.inr rfl)),K.aU],⟨f,A.more hn (hk _ A.lt.1 (.inr (.inl (.inl rfl)))) (hk _ A.lt.2.1 (.inr (.inl (.inr (.inl rfl))))) (fun hl=>hk _ hl (.inr (.inl (.inr (.inr rfl))))) hN,R⟩,
  S.more hn (hk _ S.lt.1 (.inr (.inr (.inl rfl)))) (hk _ S.lt.2.1 (.inr (.inr (.inr (.inl rfl))))) (hk _ S.lt.2.2.1 (.inr (.inr (.inr (.inr (.inl rfl)))))) (hk _ S.lt.2.2.2 (.inr (.inr (.inr (.inr (.inr rfl)))))) hM,bJ K.l1 hn,bJ K.l2 hn,K.H8,K.qv,K.qu,K.tN,K.ks⟩
def KH.old (K:KH h a lb N M ah af g) (o:Old h h'):KH h' a lb N M ah af g:=K.more o.next (fun b hb _=>o.get b hb) (ak _) (ak _)
def KF.refl:KF h h a lb:=⟨ak _,fun _ _ _ _ _=>rfl⟩
def KF.old (o:Old h h'):KF h h' a lb:=⟨o.next,fun b hb _ _ _=>o.get b hb⟩
def KF.trans (x:KF h h1 a lb) (y:KF h1 h2 a aW) (hl:aW=lb\/h.next<=aW):KF h h2 a lb:=⟨fm x.1 y.1,fun b hb h1 h2 h3=>by
 have:=x.1
 rw[y.2 b (by omega) h1 ?_ h3,x.2 b hb h1 h2 h3]
 rintro(e|e|e)
 ·exact h2 (.inl e)
 ·exact h2 (.inr (.inl e))
 ·rcases hl with hl|hl
  ·exact h2 (.inr (.inr (e.trans hl)))
  ·omega⟩
def OH (ok:aA P tb) {m:Int}:al P 61 [.int .i64 x, .int .i64 m] h (.bool (decide (0<=x)&&decide (x<=m))) h:=by
 refine ok.bA Vl ?_
 by_cases h0:0<=x
 ·simp+decide only[sv,Vl,ad4,ad3,h0]
 ·simp+decide only[sv,Vl,ad4,ad3,h0]
  simp
def NQ (ok:aA P tb) {l:Lb} {t:aL} (hl:l.ps.length<2^30):al P 64 [.agg (l.c t)] h (.agg (l.c .au)) h:=by
 refine ok.df (rf:=c64) rfl (bT rfl) (by simp only[Lb.c,AV.bD,AV.cG,aB.jD];rfl) ?_
 simp+decide only[sv,c64,azN,Lb.c]
 generalize hX:aa.at _ _ _=X
 have xo:Old h X:=by rw[<-hX];exact((Old.refl h).at (ak _)).at (by omega)
 have x0:cellsOf X h.next=some [.int .u8 l.d, .vs (aB.R l.ps) t]:=by rw[<-hX];exact aq (by simp[aa.at])
 have x1:cellsOf X (h.next+1)=some [.int .u8 0, .vs [] .full]:=by rw[<-hX];exact aq (by simp[aa.at])
 have xn:X.next=h.next+2:=by rw[<-hX];simp[aa.at]
 have n0:h.next<X.next:=by omega
 have n1:h.next+1<X.next:=by omega
 refine jk 5 7 rfl (by omega) rfl ?_
 simp+decide only[sv,azM,x0,n0]
 refine dh (XE aB ok rfl (l:=l.ps) (t:=t) (by omega) (by omega)) (ba (ak _)) ?_
 simp+decide only[sv,x1,n1,aV]
 refine⟨(jx n1).2 (ba (ak _)),?_⟩
 refine⟨by simp only[AV.strip,AV.a8,aB.dJ],fun b hb=>?_⟩
 rw[aj (by omega),ax (by omega)]
 exact xo.get b hb
def Fi (hm:eS o=true):(eM o).length<990:=by
 have hl:=Bp (IG hm).1
 have hp:=CZ (l:=o.ai)
 have ht:(mH o).length<300:=by
  unfold mH
  split
  ·simp[bG]
  split
  ·rename_i h2;have:=qy hm h2;simp[cq,bG];omega
  split
  ·rename_i h3;have:=Fk (Fa hm h3);rw[Iw];omega
  ·rename_i h1 h2 h3
   have h4:o.kind=4:=by rcases y5 hm with h|h|h|h<;>first|omega|exact h
   have jL:=xj (xg hm h4)
   have da: ∀(m:List (List UInt8)),(∀x∈m,x.length<=16)->(m.flatMap cq).length<=18*m.length:=by
    intro m
    induction m with
    |nil=>intro _;simp
    |cons c m ih=>
     intro hm
     have h1:=ih (fun x hx=>hm x (eH _ hx))
     have h2:=hm c (pY ..)
     simp only[jR,cw,cq,bG,cQ] at h1 ⊢;omega
   have:=da o.ring jL.2
   unfold mf
   rw[cw,bG];omega
 unfold eM
 simp only[cw,cQ,fI,bG,hp];omega
theorem jj.data (v:jj o) (hd:d.length=o.data.length):jj {o with data:=d}:=by
 have hm:eS {o with data:=d}=eS o:=by
  unfold eS uF ko
  simp only[hd]
 refine⟨⟨v.ok.ai,v.ok.id,v.ok.bf,v.ok.ring,v.ok.cat⟩,by rw[hm];exact v.may,?_⟩
 have hn:=v.norm
 cases o with
 |mk tA kind ai aP used next data bf ring st=>
  unfold mo at hn ⊢
  simp only at hn hd ⊢
  by_cases h2:kind=2
  ·grind
  ·have:data=[]:=by
    split at hn
    ·grind
    ·split at hn<;>(simp only[Ob.mk.injEq,bz] at hn;grind)
   grind
def jj.aMH (v:jj o) (h2:o.kind≠2):o.data=[]:=by
 have hn:=v.norm
 cases o with
 |mk tA kind ai aP used next data bf ring st=>
  unfold mo at hn
  simp only at hn h2 ⊢
  split at hn
  ·grind
  ·split at hn<;>(simp only[Ob.mk.injEq,bz] at hn;grind)
def Tm (ok:aA P tb) (K:KH h a lb N M ah af (ff af)) {id:Nat}:al P 52 [.ptr a.kb 0, .int .u64 id] h (match a9 af id with|some o=> .aE [.agg (o.c aC), .bool true]|none=> .aE [.agg (bz.c aC), .bool false]) h:=by
 refine ok.df (rf:=c52) rfl (bT rfl) (by split<;>(simp only[AV.bD,AV.cG,sD];rfl)) ?_
 have c0:=aq K.top
 have l1:=K.l1
 have hnk: ¬a.kb=h.next:=by omega
 simp+decide only[sv,c52,aAG,aAF,c0,hnk]
 generalize hX:aa.at _ _ _=X
 have xo:Old h X:=by rw[<-hX];exact(Old.refl h).at (ak _)
 have xr0:cellsOf X h.next=some (bz.c (jH .full .full .full .full)):=by rw[<-hX];exact aq (by simp[aa.at];rfl)
 have xn:X.next=h.next+1:=by rw[<-hX];simp[aa.at]
 have KX:=K.old xo
 obtain⟨f,A,R⟩:=KX.ar
 refine ao (A.get ok) ?_
 have hR:=R id
 cases ho:a9 af id with
 |none=>
  rw[ho] at hR
  simp only at hR
  rw[hR]
  simp only[bz,Ob.c,jH,qV] at xr0
  simp+decide only[sv,aeh,aAE,xr0,aV]
  refine⟨?_,fun b hb=>?_⟩
  ·rfl
  ·rw[aj (by omega)];exact xo.get b hb
 |some o=>
  rw[ho] at hR
  simp only at hR
  obtain⟨d,hd,hf⟩:=hR
  rw[hf]
  have v:=(KX.ks.val o (ix ho).1)
  have vd:=v.data hd
  simp+decide only[sv,aeh,aAD]
  refine ao (aGj ok vd.ok vd.may vd.norm) ?_
  simp+decide only[sv,aAC,Ob.c]
  generalize hY:aa.set _ _ _=Y
  have yo:Old X Y:=by rw[<-hY];exact((Old.refl X).at (ak _)).set (ak _)
  have y0:cellsOf Y h.next=some (bz.c (jH .full .full .full .full)):=by rw[<-xr0];unfold cellsOf;rw[yo.get _ (by omega)]
  have y1:cellsOf Y (h.next+1)=some (Ob.c {o with data:=d} aC):=by rw[<-hY,<-xn];exact aq (by simp[aa.set,Ob.c])
  have yn:Y.next=h.next+2:=by rw[<-hY];simp[aa.at,aa.set];omega
  simp only[bz,Ob.c,jH,qV] at y0
  simp only[Ob.c] at y1
  have KY:=KX.old yo
  have c0Y:=aq KY.top
  have nb: ¬(h.next=h.next+1):=by omega
  have fin: ∀{ρ:Env} {Z:aa} {t':Nat->aL},ρ 4= .ptr h.next 0->ρ 8= .ptr (h.next+1) 0->cellsOf Z h.next=some (bz.c (jH .full .full .full .full))->cellsOf Z (h.next+1)=some (o.c t')->(∀b,b<h.next->Z.get b=h.get b)->
   exec P aeg ρ Z (iD (WP P .ret (um [.cell 4 true 13, .tmp 5] (.aE [.agg (o.c aC), .bool true]) h)) (um [.cell 4 true 13, .tmp 5] (.aE [.agg (o.c aC), .bool true]) h) .normal):=by
   intro ρ Z t' r4 r8 z0 z1 zo
   simp only[bz,Ob.c,jH,qV] at z0
   simp only[Ob.c] at z1
   simp+decide only[sv,aeg,r4,r8,z0,z1,aV]
   refine⟨?_,fun b hb=>?_⟩
   ·show(AV.aE [.agg (o.c t'), .bool true]).strip=_
    simp only[AV.strip,AV.a8,vj]
   grind
  by_cases h2:o.kind=2
  ·have uI:ff af id=some o.data:=by unfold ff;grind
   have hk:(o.kind=2)=True:=bW h2
   rw[xn]
   simp+decide only[sv,aAB,hk,c0Y]
   refine ao (KY.sp.len ok uI) ?_
   simp+decide only[sv,aAA,c0Y]
   have pc:=KY.sp.read ok (off:=0) (n:=o.data.length) uI (by omega)
   rw[sR,bX (ak _)] at pc
   refine ao pc ?_
   simp+decide only[sv,y1]
   refine fin (t':=aC) rfl rfl ?_ ?_ fun b hb=>?_
   ·rw[show cellsOf (Y.set _ _) h.next=cellsOf Y h.next by simp only[cellsOf,aa.set];rw[aj nb],y0];rfl
   ·exact aq (by simp[aa.set];rfl)
   ·simp only[aa.set]
    rw[aj (by omega),yo.get b (by omega),xo.get b hb]
  ·have uU:d=o.data:=by
    have:=v.aMH h2
    grind
   subst uU
   have hk:(o.kind=2)=False:=bk h2
   rw[xn]
   simp+decide only[sv,hk]
   exact fin (t':=aC) rfl rfl (by rw[y0];rfl) (by rw[y1];rfl) (fun b hb=>by rw[yo.get b (by omega),xo.get b hb])
def bC:List Ob->Ob->List Ob
 |[],o=>[o]
 |x::l,o=>if o.id<x.id then o::x::l else if x.id=o.id then o::l else x::bC l o
theorem Bn: ∀{l:List Ob},x∈bC l o->x=o\/x∈l
 |[],h=>by simpa [bC] using h
 |y::l,h=>by
  unfold bC at h
  split at h
  ·simpa using h
  split at h
  ·grind
  ·rcases List.mem_cons.1 h with h|h
   ·grind
   ·rcases Bn h with h|h
    ·exact .inl h
    grind
theorem IE: ∀{l:List Ob},l.Pairwise (·.id< ·.id)->(bC l o).Pairwise (·.id< ·.id)
 |[],_=>by simp[bC]
 |y::l,h=>by
  have h':=List.pairwise_cons.1 h
  unfold bC
  split
  ·rename_i aS
   refine List.pairwise_cons.2 ⟨fun z hz=>?_,h⟩
   grind
  split
  ·simp_all
  ·refine List.pairwise_cons.2 ⟨fun z hz=>?_,IE h'.2⟩
   rcases Bn hz with rfl|hz
   ·omega
   grind
theorem tS {id:Nat}: ∀{l:List Ob},l.Pairwise (·.id< ·.id)->a9 (bC l o) id=if id=o.id then some o else a9 l id
 |[],_=>by
  unfold bC a9
  grind
 |y::l,hs=>by
  have h':=List.pairwise_cons.1 hs
  have ih:=tS (o:=o) (id:=id) h'.2
  unfold bC
  unfold a9 at ih ⊢
  grind
def KS.put (k:KS af) (v:jj o):KS (bC af o):=by
 refine⟨IE k.aQ,fun x hx=>?_⟩
 rcases Bn hx with rfl|hx
 ·exact v
 ·exact k.val x hx
end
section
open Go
variable {P:Program} {h:aa} {a:KA} {lb N M:Nat} {ah:List Th} {af:List Ob} {g:Nat->Option (List UInt8)}
def akG (k:KS af) {id:Nat}:ff (bC af o) id=if id=o.id then(if o.kind=2 then some o.data else none) else ff af id:=by
 unfold ff
 rw[tS k.aQ]
 grind
def Hh.put (k:KS af) (R:Hh f af) (hd:d.length=o.data.length):Hh (lQ f o.id (some (eM {o with data:=d}))) (bC af o):=by
 intro id
 rw[tS k.aQ]
 unfold lQ
 by_cases e:id=o.id
 ·grind
 ·rw[aj e,aj e]
  exact R id
def EN.kf (s:EN h h' a.bl a.bp):KF h h' a lb:=⟨s.1,fun b hb _ _ h3=>s.2 b hb (fun e=>h3 (.inr (.inr (.inl e)))) (fun e=>h3 (.inr (.inr (.inr e))))⟩
def m5.kf (s:m5 h h' a.ab a.mb lb):KF h h' a lb:=⟨s.1,fun b hb _ h2 _=>s.2 b hb (fun e=>h2 (.inl e)) (fun e=>h2 (.inr (.inl e))) (fun e=>h2 (.inr (.inr e)))⟩
def KH.aDT (K:KH h a lb N M ah af g) (s:m5 h h' a.ab a.mb lb) (hl:aW=lb\/h.next<=aW) (A:AA h' a.ab a.mb aW 1 N' f') (R:Hh f' fK) (ks:KS fK):KH h' a aW N' M ah fK g:=by
 have e: ∀b,FS a b\/FK a b->b<h.next->h'.get b=h.get b:=by
  intro b hb aS
  refine s.2 b aS ?_ ?_ ?_<;>intro e<;>rcases hb with hb|hb
  ·exact K.qv b (.inl e) hb
  ·exact K.qu b hb (.inl e)
  ·exact K.qv b (.inr (.inl e)) hb
  ·exact K.qu b hb (.inr (.inl e))
  ·exact K.qv b (.inr (.inr e)) hb
  ·exact K.qu b hb (.inr (.inr e))
 have S:=K.sp
 refine⟨by rw[e _ (.inr (.inl rfl)) K.l1,K.top],by rw[e _ (.inr (.inr rfl)) K.l2,K.aU],⟨f',A,R⟩,S.more s.1 (e _ (.inl (.inl rfl)) S.lt.1) (e _ (.inl (.inr (.inl rfl))) S.lt.2.1) (e _ (.inl (.inr (.inr (.inl rfl)))) S.lt.2.2.1) (e _ (.inl (.inr (.inr (.inr rfl)))) S.lt.2.2.2) (ak _),
  bJ K.l1 s.1,bJ K.l2 s.1,K.H8,fun b hb hs=>?_,fun b hb ha=>?_,K.tN,ks⟩
 ·rcases hb with hb|hb|hb
  ·exact K.qv b (.inl hb) hs
  ·exact K.qv b (.inr (.inl hb)) hs
  ·rcases hl with hl|hl
   ·exact K.qv b (.inr (.inr (hb.trans hl))) hs
   ·have:=S.lt
    rcases hs with hs|hs|hs|hs<;>omega
 ·rcases ha with ha|ha|ha
  ·exact K.qu b hb (.inl ha)
  ·exact K.qu b hb (.inr (.inl ha))
  ·rcases hl with hl|hl
   ·exact K.qu b hb (.inr (.inr (ha.trans hl)))
   ·have:=K.l1
    have:=K.l2
    rcases hb with hb|hb<;>omega
def KH.RH (K:KH h a lb N M ah af g) (s:EN h h' a.bl a.bp) (S:SG h' a.bs a.bm a.bl a.bp M' g'):KH h' a lb N M' ah af g':=by
 have e: ∀b,FA a lb b\/FK a b->b<h.next->h'.get b=h.get b:=by
  intro b hb aS
  refine s.2 b aS ?_ ?_<;>intro e<;>rcases hb with hb|hb
  ·exact K.qv b hb (.inr (.inr (.inl e)))
  ·exact K.tN b hb (.inr (.inr (.inl e)))
  ·exact K.qv b hb (.inr (.inr (.inr e)))
  ·exact K.tN b hb (.inr (.inr (.inr e)))
 obtain⟨f,A,R⟩:=K.ar
 exact⟨by rw[e _ (.inr (.inl rfl)) K.l1,K.top],by rw[e _ (.inr (.inr rfl)) K.l2,K.aU],⟨f,A.more s.1 (e _ (.inl (.inl rfl)) A.lt.1) (e _ (.inl (.inr (.inl rfl))) A.lt.2.1) (fun hl=>e _ (.inl (.inr (.inr rfl))) hl) (ak _),R⟩,S,
  bJ K.l1 s.1,bJ K.l2 s.1,K.H8,K.qv,K.qu,K.tN,K.ks⟩
def KH.fn (K:KH h a lb N M ah af g) (hg: ∀x,g x=g' x):KH h a lb N M ah af g':=by
 have:g=g':=funext hg
 grind
def aff (ok:aA P tb) (K:KH h a lb N M ah af (ff af)) {t:Nat->aL} (v:jj o) (hs: ∀o',a9 af o.id=some o'->o'.kind≠2/\o.kind≠2) (hN:N<2^19) (hM:M<128):
 ∃h',al P 65 [.ptr a.kb 0, .agg (o.c t)] h (.aE []) h'/\ ∃aW,KH h' a aW (N+1) (if o.kind=2 then M+1 else M) ah (bC af o) (ff (bC af o))/\(aW=lb\/h.next<=aW)/\KF h h' a lb:=by
 suffices hu: ∃h',al P 65 [.ptr a.kb 0, .agg (o.c aC)] h (.aE []) h'/\ ∃aW,KH h' a aW (N+1) (if o.kind=2 then M+1 else M) ah (bC af o) (ff (bC af o))/\(aW=lb\/h.next<=aW)/\KF h h' a lb by
  obtain⟨h',c,hq⟩:=hu
  exact⟨h',al.au (by simp only[AV.a8,Xt];exact c),hq⟩
 refine ok.dr Ia ?_
 have l1:=K.l1
 simp+decide only[sv,Ia,azL,Ob.c]
 generalize hX:aa.at _ _ _=X
 have xo:Old h X:=by rw[<-hX];exact(Old.refl h).at (ak _)
 have x0:cellsOf X h.next=some (o.c aC):=by rw[<-hX];exact aq (by simp[aa.at,Ob.c])
 have xn:X.next=h.next+1:=by rw[<-hX];simp[aa.at]
 have KX:=K.old xo
 have ltS:=K.sp.lt
 obtain⟨f,A0,_⟩:=K.ar
 have ltA:=A0.lt
 have nK: ∀b,FK a b->b<h.next:=fun b hb=>by
  have:=K.l2
  rcases hb with hb|hb<;>omega
 have nA: ∀b,FA a lb b->b<h.next:=fun b hb=>by rcases hb with hb|hb|hb<;>omega
 have nS: ∀b,FS a b->b<h.next:=fun b hb=>by rcases hb with hb|hb|hb|hb<;>omega
 simp only[Ob.c] at x0
 simp+decide only[sv,azK,x0]
 refine ao (aiX ok (o:=o) (t:=aC) v.ok) ?_
 have hp:DE o= .aE [.vs (BS (eM o)) .au, .int .i64 0]:=by unfold DE;rw[v.may,ax rfl]
 rw[hp]
 simp+decide only[sv,Ia]
 refine bq 8 rfl rfl ?_
 have c0:=aq KX.top
 have lX:a.kb<X.next:=by omega
 have hX1:h.next<X.next:=by omega
 simp+decide only[sv,azJ,c0,x0,lX,hX1]
 have KC:=KX.old ((Old.refl X).clean (n:=8))
 obtain⟨f,A,R⟩:=KC.ar
 obtain⟨rec,tp⟩: ∃rec,eM o=1::rec:=⟨_,rfl⟩
 have qY:=Fi v.may
 obtain⟨h1,c1,fQ,A1,ir,k1⟩:=A.put ok (id:=o.id) (x:=1) (rec:=rec) (t:= .au) v.ok.id rfl (by grind) hN
 rw[<-tp] at c1 A1
 refine dX c1 (fun j hj hn=>by omega) ?_
 have kf0:KF h (X.clean 8) a lb:=KF.old (xo.trans ((Old.refl X).clean))
 have kn:=kf0.1
 have lp:KF h h1 a lb:=kf0.trans k1.kf (.inl rfl)
 have K1:KH h1 a fQ (N+1) M ah (bC af o) (ff af):=KC.aDT k1 ir A1 (R.put KC.ks rfl) (KC.ks.put v)
 have x1:cellsOf h1 h.next=some (o.c aC):=by
  rw[show cellsOf h1 h.next=cellsOf X h.next from ?_,x0];rfl
  unfold cellsOf
  rw[k1.2 _ (by simp[aa.clean];omega) (by omega) (by omega) (by omega)]
  simp only[aa.clean]
  grind
 simp only[Ob.c] at x1
 have k11:=k1.1
 have xc8:(X.clean 8).next=X.next+8:=rfl
 have Tq:fQ=lb\/h.next<=fQ:=by
  omega
 by_cases h2:o.kind=2
 ·have hk:(o.kind=2)=True:=bW h2
  simp+decide only[sv,ad0,x1,hk]
  refine bq 10 rfl rfl ?_
  have c1:=aq K1.top
  have ln:=K1.l1
  have uR:h.next<h1.next:=by omega
  simp+decide only[sv,azI,x1,c1,ln,uR,aY]
  have K2:=K1.old ((Old.refl h1).clean (n:=10))
  have MT:=qy v.may h2
  have RU:ff af o.id=none:=by
   unfold ff
   simp_all
  obtain⟨e2,cB,c2,S2,k2⟩:=K2.sp.map ok (id:=o.id) MT hM
  rw[RU,Option.isSome_none,aj (by simp)] at S2
  refine dX c2 (fun j hj hn=>by omega) ?_
  have K3:=K2.RH k2 S2
  have tE:KF h1 cB a fQ:=(KF.old ((Old.refl h1).clean (n:=10))).trans k2.kf (.inl rfl)
  have aSW:=lp.trans tE Tq
  have x2:cellsOf cB h.next=some (o.c aC):=by
   rw[show cellsOf cB h.next=cellsOf h1 h.next from ?_,x1];rfl
   unfold cellsOf
   rw[tE.2 _ uR (fun hb=>by grind) (fun hb=>by rcases hb with hb|hb|hb<;>omega) (fun hb=>by grind)]
  simp only[Ob.c] at x2
  have HT:h.next<cB.next:=by have:=tE.1;omega
  have c3:=aq K3.top
  have l3:=K3.l1
  simp+decide only[sv,Ia]
  refine bq 9 rfl rfl ?_
  simp+decide only[sv,azH,x2,c3,l3,HT]
  have K4:=K3.old ((Old.refl cB).clean (n:=9))
  obtain⟨h3,c4,S4,k4⟩:=K4.sp.write ok (id:=o.id) (off:=0) (v:=o.data) (t:= .au) (by unfold lQ;rw[ax rfl]) (by simp)
  refine dX c4 (fun j hj hn=>by omega) ?_
  simp+decide only[sv,Ia]
  have K5:=K4.RH k4 S4
  have Ef:KF cB h3 a fQ:=(KF.old ((Old.refl cB).clean (n:=9))).trans k4.kf (.inl rfl)
  refine⟨rfl,fQ,K5.fn fun x=>?_,Tq,aSW.trans Ef Tq⟩
  rw[akG KC.ks,ax h2]
  unfold lQ
  by_cases e:x=o.id
  ·rw[ax e,ax e]
   simp[my]
  grind
 ·have hk:(o.kind=2)=False:=bk h2
  simp+decide only[sv,ad0,x1,hk]
  refine⟨rfl,fQ,K1.fn fun x=>?_,Tq,lp⟩
  rw[akG KC.ks,aj h2]
  by_cases e:x=o.id
  ·rw[ax e,e]
   unfold ff
   simp_all
  ·rw[aj e]
def wB (l:List Ob) (id:Nat):List Ob:=l.filter fun o=>!(o.id==id)
theorem NB {id:Nat}: ∀{l:List Ob},a9 (wB l id) x=if x=id then none else a9 l x
 |[]=>by simp[a9,wB]
 |o::l=>by
  have ih:=NB (id:=id) (x:=x) (l:=l)
  unfold a9 wB at*
  grind
def KS.del (k:KS af) {id:Nat}:KS (wB af id):=⟨k.aQ.sublist (List.filter_sublist ..),fun o ho=>k.val o (List.mem_filter.1 ho).1⟩
def aKL {id:Nat}:ff (wB af id) x=if x=id then none else ff af x:=by
 unfold ff
 rw[NB]
 grind
theorem aNV (ok:aA P tb) (K:KH h a lb N M ah af (ff af)) {id:Nat}:
 ∃h',al P 193 [.ptr a.kb 0, .int .u64 id] h (.aE []) h'/\KH h' a lb N M ah (wB af id) (ff (wB af id))/\KF h h' a lb:=by
 refine ok.dr TS ?_
 have c0:=aq K.top
 obtain⟨f,A,R⟩:=K.ar
 obtain⟨e1,br,c1,A1,k1⟩:=A.drop ok (id:=id)
 simp+decide only[sv,TS,aqB,c0]
 refine ao c1 ?_
 have K1:KH br a lb N M ah (wB af id) (ff af):=K.aDT k1 (.inl rfl) A1 (fun x=>by
  rw[NB]
  unfold lQ
  by_cases e:x=id
  ·grind
  ·rw[aj e,aj e];exact R x) K.ks.del
 obtain⟨e2,cB,c2,S2,k2⟩:=K1.sp.acX ok (id:=id)
 have Nc:=aq K1.top
 simp+decide only[sv,aqA,Nc]
 refine ao c2 ?_
 simp+decide only[sv,TS]
 refine⟨rfl,(K1.RH k2 S2).fn fun x=>?_,k1.kf.trans k2.kf (.inl rfl)⟩
 rw[aKL];rfl
def KH.row (K:KH h a lb N M ah af g) {t:Nat} (ht) (hj:j<12):(aI aH ah).flatten[t*12+j]? =(ah[t].c aH)[j]?:=zj l7 (Fm ht) hj
def mV (ah:List Th) (t:Int):Bool:=decide (0<=t)&&decide (t<ah.length)
def ajA (ok:aA P tb) (K:KH h a lb N M ah af g) {t:Int}:al P 39 [.ptr a.kb 0, .int .i64 t] h (.bool (mV ah t)) h:=by
 refine ok.bA Vn ?_
 have c0:=aq K.top
 unfold mV
 by_cases h0:0<=t
 ·simp+decide only[sv,Vn,aey,aex,c0,h0]
 ·simp+decide only[sv,Vn,aey,aex,h0]
  simp
def jB (ah:List Th) (t:Int):Bool:=mV ah t&&!decide (((ah[t.toNat]?).map (·.does)).getD 0=0)
def IW {t:Int} (ht:mV ah t=true): ∃n:Nat,t=n/\n<ah.length:=by
 unfold mV at ht
 simp only[fV,rK] at ht
 obtain⟨n,rfl⟩:=uD ht.1
 grind
def EW (ok:aA P tb) (K:KH h a lb N M ah af g) {t:Int}:al P 13 [.ptr a.kb 0, .int .i64 t] h (.bool (jB ah t)) h:=by
 refine ok.bA Vs ?_
 have c0:=aq K.top
 have c1:=aq K.aU
 unfold jB
 simp+decide only[sv,Vs,aDJ,aDI]
 refine ao (ajA ok K) ?_
 cases hk:mV ah t with
 |false=>
  simp+decide only[sv,Vs]
  grind
 |true=>
  obtain⟨n,rfl,hn⟩:=IW hk
  have cV:(n:Int)<(ah.length:Int):=by omega
  have r6:=K.row hn (j:=6) (by omega)
  have e6:(ah[n].c aH)[6]? =some (.int .i64 ah[n].does):=rfl
  rw[e6] at r6
  simp+decide only[sv,c0,c1,cV,r6]
  grind
def nO (sz:Nat) (h H:aa) (v:AV) (rows:List (List AV)):Prop:=(rows=[]/\v= .vs [] .full)\/ ∃b,rows≠[]/\v= .rs b 0 rows.length sz/\cellsOf H b=some rows.flatten/\h.next<=b/\b<H.next
def nO.to (g:nO sz h H v l) (o:Old H X):nO sz h X v l:=by
 rcases g with g|⟨b,h0,h1,hc,h2,h3⟩
 ·exact .inl g
 ·refine .inr ⟨b,h0,h1,?_,h2,bJ h3 o.next⟩
  unfold cellsOf at hc ⊢
  rw[o.get b h3];exact hc
def nO.app {bytes id:Nat} (g:nO sz h H v l) (ho:h.next<=id) (aM:H.next<=id) (hl:l.length<2^20) (hb:bytes<2^10) (hs: ∀r∈l,r.length=sz): ∃v' H',iS bytes sz id H v (some [x])=some (v',H')/\nO sz h H' v' (l++[x])/\H.next<=H'.next/\v'.one=true/\v'.cells=[v']/\ ∀b,b<h.next->H'.get b=H.get b:=by
 have hmul:(l.length+1)*bytes<2^40:=bJ (Nat.mul_lt_mul_of_lt_of_lt (show l.length+1<2^21 by omega) hb) (by decide)
 rcases g with⟨rfl,rfl⟩|⟨b,h0,rfl,hc,h1,h2⟩
 ·have gw:(1:Nat)*bytes<2^40:=by omega
  refine⟨.rs id 0 1 sz,H.at id (.cells [x].flatten),?_, .inr ⟨id,by simp,rfl,aq (by simp[aa.at]),ho,by simp[aa.at];omega⟩,by simp[aa.at];omega,rfl,rfl,fun b hb=>by simp only[aa.at];grind⟩
  simp only[iS,qH,Gv,fj]
  grind
 ·have hlen:l.flatten.length=l.length*sz:=kS hs
  refine⟨.rs id 0 (l.length+1) sz,(H.set b none).at id (.cells (l++[x]).flatten),?_, .inr ⟨id,by simp,by simp,aq (by simp[aa.at]),ho,by simp[aa.at];omega⟩,by simp[aa.at,aa.set];omega,rfl,rfl,fun c hb=>by simp only[aa.at,aa.set];grind⟩
  simp only[iS,hc,me,qH,Gv,fj]
  grind
theorem lT {x:Th}:x.c aH=[.int .u8 x.ai.d, .vs (aB.R x.ai.ps) .au, .vs ((ay .u16).R x.st.s) .full, .vs ((ay .u16).R x.st.i) .full, .vs ((ay .u16).R x.st.o) .full, .int .i64 x.own, .int .i64 x.does, .int .u64 x.id, .int .u64 x.to, .int .i64 x.done, .int .i64 x.n, .bool x.new]:=rfl
def ald (ok:aA P tb) (hv: ∀h',Old h h'->lz h' v 12 (aI aH l)) (hl:l.length<2^20) (gQ: ∀x∈l,x.ai.ps.length<2^20):
 ∃w h',al P 45 [v] h w h'/\nO 12 h h' w (aI aH l)/\Old h h':=by
 refine ok.kP c45 ?_
 have hlen:jV v=some l.length:=by rw[(hv h (Old.refl h)).len,gI]
 simp+decide only[sv,c45,aBm,aBl,aBk,hlen]
 let I:Nat->Env->aa->Prop:=fun n ρ H=> ∃i,l.length=i+n/\Old h H/\nO 12 h H (ρ 3) (aI aH (l.take i))/\ρ 6=v/\ρ 7= .int .i64 l.length/\ρ 8= .int .i64 i
 refine dv I ?_ l.length ⟨0,by omega,Old.refl h, .inl ⟨rfl,rfl⟩,rfl,rfl,rfl⟩
 rintro n ρ H ⟨i,aN,ho,hg,r6,r7,r8⟩
 have wT:=ho.next
 by_cases hi:i<l.length
 ·have av:(i:Int)<(l.length:Int):=by omega
  have hw:=dj (show i<2^61 by omega)
  obtain⟨p,g1,g2⟩:=(hv H ho).get i (by rw[gI];exact hi)
  have g3:(aI aH l)[i]'(by grind)=l[i].c aH:=by simp[aI]
  rw[g3] at g2
  simp+decide only[sv,aet,aBj,r6,r7,r8,av,g1,g2,lT]
  generalize hX:aa.set _ _ _=X
  have xo:Old H X:=by rw[<-hX];exact((Old.refl H).at (ak _)).set (ak _)
  have x0:cellsOf X H.next=some (l[i].c aH):=by rw[<-hX];exact aq (by simp[aa.set];rfl)
  have xn:X.next=H.next+1:=by rw[<-hX];simp[aa.at,aa.set]
  simp only[lT] at x0
  simp+decide only[sv,aBi,x0]
  refine ao (NQ ok (l:=l[i].ai) (t:= .au) (by grind)) ?_
  have rL:X.set H.next (some (.cells (l[i].c aH)))=X:=by
   refine aa.jy ?_
   rw[<-hX];simp[aa.set];rfl
  simp only[lT] at rL
  simp+decide only[sv,aBh,x0,Lb.c,rL,xr]
  have tI:=uj i l
  obtain⟨v',H',ha,dz,cV,h1,h2,eV⟩:=(hg.to xo).app (bytes:=160) (id:=X.next) (by omega) (ak _) (x:=l[i].c aH) (by rw[gI];omega) (by omega) l7
  simp only[lT] at ha
  simp+decide only[sv,aBg,ha,r8,hw]
  refine⟨n-1,by omega,i+1,by omega,⟨by omega,fun b hb=>by rw[eV b hb,xo.get b (by omega),ho.get b hb]⟩,?_,r6,r7,rfl⟩
  rw[<-lM hi]
  unfold aI at dz ⊢
  rw[jz]
  exact dz
 ·have av: ¬(i:Int)<(l.length:Int):=by omega
  rw[bX (by omega)] at hg
  simp+decide only[sv,aet,aBf,r7,r8,av]
  exact⟨_,rfl,hg,ho⟩
def KH.qg (K:KH h a lb N M ah af g) (o:Old h h'):lz h' (.rs a.tb 0 ah.length 12) 12 (aI aH ah):=by
 have:=lz.rs (h:=h') (b:=a.tb) (sz:=12) (rows:=aI aH ah) (cs:=(aI aH ah).flatten) (aq (by rw[o.get _ K.l2,K.aU])) (by rw[<-kS l7,List.take_length]) l7
 rwa [gI] at this
def aKf (ok:aA P tb) (K:KH h a lb N M ah af g) (hl:ah.length<2^20) (gQ: ∀x∈ah,x.ai.ps.length<2^20):
 ∃w h',al P 15 [.ptr a.kb 0] h w h'/\nO 12 h h' w (aI aH ah)/\Old h h':=by
 refine ok.kP c15 ?_
 have c0:=aq K.top
 obtain⟨w,h',c,hg,ho⟩:=ald ok (v:= .rs a.tb 0 ah.length 12) (l:=ah) (h:=h) (fun h' o=>K.qg o) hl gQ
 simp+decide only[sv,c15,aDz,aDy,aDx,ae2,c0]
 refine ao c ?_
 simp+decide only[sv,ae2]
 exact⟨w,rfl,hg,ho⟩
theorem nO.gE (g:nO sz h H v l) (c:al P f args h v H) (o:Old h H) (hs: ∀r∈l,r.length=sz) (mv: ∀p,AV.kW p l=true) (awV: ∀p,AV.kW p (AV.fU l)=true):al P f args h (.vs (AV.fU l) .au) h:=by
 rcases g with⟨rfl,rfl⟩|⟨b,h0,rfl,hc,h1,h2⟩
 ·exact(c.strip).restore o.get rfl
 ·have hg:H.get b=some (.cells l.flatten):=by
   revert hc;unfold cellsOf;grind
  have hlen:l.flatten.length=l.length*sz:=kS hs
  have hr:rowsOf l.flatten 0 sz l.length=l:=by
   clear hc hg h0 c awV
   induction l with
   |nil=>rfl
   |cons r l ih=>
    have wQ:=hs r (pY ..)
    have ih:=ih (fun x hx=>hs x (eH _ hx)) (fun p=>by have:=mv p;simp only[AV.kW,fV] at this;exact this.2) (kS fun x hx=>hs x (eH _ hx))
    rw[mG,cQ,rowsOf,sR,vi wQ]
    have:(0:Nat)+sz=r.length+0:=by omega
    rw[this,Io (by rw[kS fun x hx=>hs x (eH _ hx)];omega),ih]
  have hf:AV.gE b l.flatten (.rs b 0 l.length sz)= .vs l .au:=by
   unfold AV.gE
   grind
  have c2:=c.freeze hg h1 (by rw[hf];simp only[AV.bD,mv];rfl)
  rw[hf] at c2
  have c3:=c2.strip
  refine al.restore (h':=H.set b none) c3 (fun x hx=>?_) ?_
  ·simp only[aa.set]
   rw[aj (by omega)]
   exact o.get x hx
  ·simp only[AV.bD,awV];rfl
theorem V8: ∀{l:List Th},AV.fU (aI τ l)=aI aC l
 |[]=>rfl
 |x::l=>by
  have ih:=V8 (τ:=τ) (l:=l)
  unfold aI at*
  simp only[eG,AV.fU,ih]
  congr 1
  simp only[Th.c,AV.a8,AV.strip,aB.dJ,(ay .u16).dJ,aC]
theorem akS {p:Nat->Bool}: ∀{l:List Th},AV.kW p (aI aC l)=true
 |[]=>rfl
 |x::l=>by
  have ih:=akS (p:=p) (l:=l)
  have h1:AV.cG p (x.c aC)=true:=by simp only[Th.c,AV.cG,AV.bD,aB.jD,(ay .u16).jD,aC];rfl
  unfold aI at*
  simp only[eG,AV.kW,ih,h1];rfl
theorem aj3 {p:Nat->Bool}: ∀{l:List Th},AV.kW p (aI aH l)=true
 |[]=>rfl
 |x::l=>by
  have ih:=aj3 (p:=p) (l:=l)
  have h1:AV.cG p (x.c aH)=true:=by simp only[lT,AV.cG,AV.bD,aB.jD,(ay .u16).jD];rfl
  unfold aI at*
  simp only[eG,AV.kW,ih,h1];rfl
def NY (ok:aA P tb) (K:KH h a lb N M ah af g) (hl:ah.length<2^20) (gQ: ∀x∈ah,x.ai.ps.length<2^20):al P 15 [.ptr a.kb 0] h (.vs (aI aC ah) .au) h:=by
 obtain⟨w,h',c,hg,ho⟩:=aKf ok K hl gQ
 have:=hg.gE c ho l7 (fun p=>aj3) (fun p=>by rw[V8];exact akS)
 rwa [V8] at this
def bg (l:List Ob):List (List AV):=l.map fun o=>o.c aC
def fD:(bg l).length=l.length:=by simp[bg]
theorem aJ1:bQ 13 (bg l)=true:=by cases l<;>rfl
def Bt (hi:i<l.length):(bg l)[i]? =some (l[i].c aC):=by simp[bg,bn hi]
theorem ajt: ∀{l:List Ob},AV.fU (bg l)=bg l
 |[]=>rfl
 |x::l=>by
  have ih:=ajt (l:=l)
  unfold bg at*
  simp only[eG,AV.fU,ih,vj]
theorem ak3 {p:Nat->Bool}: ∀{l:List Ob},AV.kW p (bg l)=true
 |[]=>rfl
 |x::l=>by
  have ih:=ak3 (p:=p) (l:=l)
  unfold bg at*
  simp only[eG,AV.kW,ih,sD];rfl
theorem dT {o:Ob}:o.c aC=[.int .u64 o.id, .int .i64 o.kind, .int .u8 o.ai.d, .vs (aB.R o.ai.ps) .au, .vs ((ay .u16).R o.st.s) .au, .vs ((ay .u16).R o.st.i) .au, .vs ((ay .u16).R o.st.o) .au, .int .i64 o.aP, .int .i64 o.used, .int .i64 o.next, .vs (BS o.data) .au, .vs ((ay .u16).R o.bf) .au, .vs (aR.R o.ring) .au]:=rfl
def KS.ids (k:KS af) (h0:af≠[]) (R:Hh f af):(af.map (·.id)).Pairwise (· < ·)/\(∀id,id∈af.map (·.id)↔(f id).isSome=true)/\af.map (·.id)≠[]:=by
 refine⟨List.pairwise_map.2 k.aQ,fun id=>?_,?_⟩
 ·have:=R id
  constructor
  ·intro hm
   obtain⟨o,ho,rfl⟩:=List.mem_map.1 hm
   rw[lE k.aQ ho] at this
   grind
  ·intro hf
   cases ho:a9 af id with
   |none=>grind
   |some o=>
    obtain⟨h1,rfl⟩:=ix ho
    grind
 simp_all
def C0 (ok:aA P tb) (K:KH h a lb N M ah af (ff af)) (h0:af≠[]) (dU:af.length<=12):al P 18 [.ptr a.kb 0] h (.vs (bg af) .au) h:=by
 refine ok.df (rf:=c18) rfl (bT rfl) (by simp only[AV.bD,ak3];rfl) ?_
 have c0:=aq K.top
 obtain⟨f,A,R⟩:=K.ar
 obtain⟨i1,i2,i3⟩:=K.ks.ids h0 R
 simp+decide only[sv,c18,aDl,aDk,aDj,aDi,c0]
 refine ao (A.ids ok i1 i2 i3 (by grind)) ?_
 simp+decide only[sv,aF.aD,fp]
 let I:Nat->Env->aa->Prop:=fun n ρ H=> ∃i,af.length=i+n/\Old h H/\App h H (ρ 3) (bg (af.take i))/\ρ 0= .ptr a.kb 0/\ρ 14= .vs ((ay .u64).R (af.map (·.id))) .au/\ρ 15= .int .i64 af.length/\ρ 16= .int .i64 i
 refine dv I ?_ af.length ⟨0,by omega,Old.refl h,App.nil h h,rfl,rfl,rfl,rfl⟩
 rintro n ρ H ⟨i,aN,ho,hg,r0,jg,fZ,jY⟩
 have wT:=ho.next
 by_cases hi:i<af.length
 ·have av:(i:Int)<(af.length:Int):=by omega
  have hw:=dj (show i<2^61 by omega)
  have g1:((ay .u64).R (af.map (·.id)))[i]? =some [.int .u64 af[i].id]:=by
   rw[(ay .u64).cj (by simpa using hi)];simp[ay]
  have KX:=K.old ho
  have bB:=Tm ok KX (id:=af[i].id)
  rw[lE K.ks.aQ (bw hi)] at bB
  simp+decide only[sv,aeZ,aDh,aDg,r0,jg,fZ,jY,av,g1]
  refine ao bB ?_
  simp+decide only[sv,dT]
  generalize hX:aa.set _ _ _=X
  have xo:Old H X:=by rw[<-hX];exact((Old.refl H).at (ak _)).set (ak _)
  have x0:cellsOf X H.next=some (af[i].c aC):=by rw[<-hX];exact aq (by simp[aa.set];rfl)
  simp only[dT] at x0
  have tI:=uj i af
  obtain⟨v',H',a1,a2,a3,a4,a5,a6⟩:=(hg.old xo).app (ho.trans xo) (bytes:=216) (sz:=13) (id:=X.next) (ho.trans xo).next [af[i].c aC] aJ1 (by rw[fD];grind) (by rw[fD];grind)
  simp only[dT] at a1
  simp+decide only[sv,aDf,aDe,x0,a1,jY,hw]
  refine⟨n-1,by omega,i+1,by omega,a3,?_,r0,jg,fZ,rfl⟩
  rw[<-lM hi]
  unfold bg at a2 ⊢
  rw[jz]
  exact a2
 ·have av: ¬(i:Int)<(af.length:Int):=by omega
  rw[bX (by omega)] at hg
  obtain⟨tt,hv,_⟩:=hg
  simp+decide only[sv,aeZ,aqJ,fZ,jY,hv,av,aV]
  exact⟨by simp only[AV.strip,ajt],ho.get⟩
def EH (l:List Ob) (id:Nat):Option (List UInt8):=(a9 l id).map eM
def xD (af:List Ob) (ah:List Th):List UInt8:=(af.flatMap fun o=>be o.id 8++cq (eM o))++ah.flatMap fun x=>cE x.ai
def aI3 (hs:af.Pairwise (·.id< ·.id)):((af.map (·.id)).flatMap fun id=>be id 8++cq ((EH af id).getD []))=af.flatMap fun o=>be o.id 8++cq (eM o):=by
 rw[List.flatMap_map]
 have: ∀(l:List Ob),(∀o∈l,o∈af)->l.flatMap (fun o=>be o.id 8++cq ((EH af o.id).getD []))=l.flatMap fun o=>be o.id 8++cq (eM o):=by
  intro l
  induction l with
  |nil=>intro _;rfl
  |cons o l ih=>
   intro hm
   rw[jR,jR,ih (fun x hx=>hm x (eH _ hx))]
   congr 2
   unfold EH
   rw[lE hs (hm o (pY ..))];rfl
 grind
structure TV (l:List Th):Prop where
 len:l.length<=4
 ai: ∀x∈l,x.ai.ok/\x.ai.ps.length<=16
theorem Wv: ∀{l:List Ob},(∀x∈l,x.id<o.id)->bC l o=l++[o]
 |[],_=>rfl
 |x::l,h=>by
  have h1:=h x (pY ..)
  unfold bC
  rw[aj (by omega),aj (by omega),Wv (fun y hy=>h y (eH _ hy))];rfl
def Nn (ok:aA P tb) (K:KH h a lb N M ah af (ff af)) (h0:af≠[]) (dU:af.length<=12) (ht:TV ah):al P 14 [.ptr a.kb 0] h (.vs (BS (xD af ah)) .au) h:=by
 refine ok.df (rf:=c14) rfl (bT rfl) dt.i7 ?_
 have c0:=aq K.top
 obtain⟨h1,c1,A1,n1,o1⟩:=AA.new ok (h:=h) (v:=1)
 simp+decide only[sv,c14,aDH,aDG,aDF]
 refine ao c1 ?_
 simp+decide only[sv,aDE]
 have K1:=K.old o1
 refine ao (C0 ok K1 h0 dU) ?_
 simp+decide only[sv,fD]
 let I:Nat->Env->aa->Prop:=fun n ρ H=> ∃i aW,af.length=i+n/\Old h H/\AA H (h.next+1) h.next aW 1 i (EH (af.take i))/\h.next<=aW/\ρ 0= .ptr a.kb 0/\ρ 3= .ptr (h.next+1) 0/\ρ 15= .vs (bg af) .au/\ρ 16= .int .i64 af.length/\ρ 17= .int .i64 i
 refine dv I ?_ af.length ⟨0,h.next+1,by omega,o1,A1,by omega,rfl,rfl,rfl,rfl,rfl⟩
 rintro n ρ H ⟨i,aW,aN,ho,A,gQ,r0,r3,fZ,jY,oR⟩
 have wT:=ho.next
 by_cases hi:i<af.length
 ·have av:(i:Int)<(af.length:Int):=by omega
  have hw:=dj (show i<2^61 by omega)
  have g1:=Bt hi
  have v:=K.ks.val _ (bw hi)
  simp only[dT] at g1
  simp+decide only[sv,ae3,aDD,fZ,jY,oR,av,g1]
  generalize hX:aa.set _ _ _=X
  have xo:Old H X:=by rw[<-hX];exact((Old.refl H).at (ak _)).set (ak _)
  have x0:cellsOf X H.next=some (af[i].c aC):=by rw[<-hX];exact aq (by simp[aa.set];rfl)
  simp only[dT] at x0
  simp+decide only[sv,aDC,x0]
  refine ao (aiX ok (o:=af[i]) (t:=aC) v.ok) ?_
  have hp:DE af[i]= .aE [.vs (BS (eM af[i])) .au, .int .i64 0]:=by unfold DE;rw[v.may,ax rfl]
  rw[hp]
  simp+decide only[sv,aDB,r3,x0]
  obtain⟨rec,tp⟩: ∃rec,eM af[i]=1::rec:=⟨_,rfl⟩
  have qY:=Fi v.may
  obtain⟨H2,c2,pK,A2,iq,k2⟩:=(A.old xo).put ok (id:=af[i].id) (x:=1) (rec:=rec) (t:= .au) v.ok.id rfl (by grind) (by omega)
  rw[<-tp] at c2 A2
  refine ao c2 ?_
  simp+decide only[sv,aDA,oR,hw]
  have xn:=xo.next
  have hA:=A.lt
  refine⟨n-1,by omega,i+1,pK,by omega,⟨by have:=k2.1;omega,fun b hb=>?_⟩,A2.fn fun x=>?_,by omega,r0,r3,fZ,jY,rfl⟩
  ·rw[k2.2 b (by omega) (by omega) (by omega) (by omega),xo.get b (by omega),ho.get b hb]
  ·have AJ:=DB (List.take_sublist (i+1) af) K.ks.aQ
   have aS2:=DB (List.take_sublist i af) K.ks.aQ
   have e:af.take (i+1)=bC (af.take i) af[i]:=by
    rw[<-lM hi] at AJ ⊢
    rw[Wv]
    intro y hy
    exact(List.pairwise_append.1 AJ).2.2 y hy _ (by simp)
   unfold lQ EH
   rw[e,tS aS2]
   grind
 ·have av: ¬(i:Int)<(af.length:Int):=by omega
  have MN:i=af.length:=by omega
  rw[bX (by omega)] at A
  have K2:=K.old ho
  obtain⟨i1,i2,i3⟩:=K.ks.ids h0 (f:=EH af) (fun id=>by unfold EH;cases ho:a9 af id with|none=>rfl|some o=>exact⟨o.data,rfl,rfl⟩)
  simp+decide only[sv,ae3,atE,jY,oR,r3,av]
  refine ao (A.bytes ok i1 i2 i3 (by grind)) ?_
  rw[aI3 K.ks.aQ]
  have c2:=aq K2.top
  simp+decide only[sv,atD,r0,c2]
  have lZ:(af.flatMap fun o=>be o.id 8++cq (eM o)).length<=1000*af.length:=by
   have: ∀(l:List Ob),(∀o∈l,(eM o).length<990)->(l.flatMap fun o=>be o.id 8++cq (eM o)).length<=1000*l.length:=by
    intro l
    induction l with
    |nil=>intro _;simp
    |cons c l ih=>
     intro hm
     have h1:=ih (fun x hx=>hm x (eH _ hx))
     have h2:=hm c (pY ..)
     simp only[jR,cw,bG,cq,cQ] at h1 ⊢;omega
   exact this af (fun o ho=>Fi (K.ks.val o ho).may)
  generalize hB:(af.flatMap fun o=>be o.id 8++cq (eM o))=B at*
  let J:Nat->Env->aa->Prop:=fun n ρ H=> ∃i,ah.length=i+n/\Old h H/\ρ 8= .vs (BS (B++(ah.take i).flatMap fun x=>cE x.ai)) .au/\ρ 37= .rs a.tb 0 ah.length 12/\ρ 38= .int .i64 ah.length/\ρ 39= .int .i64 i
  refine dv J ?_ ah.length ⟨0,by omega,ho,by simp only[kD,sS,fE];rfl,rfl,rfl,rfl⟩
  rintro m ρ H2 ⟨j,hjm,AM,q8,Uk,q38,q39⟩
  by_cases hj:j<ah.length
  ·have aUI:=ht.len
   have mZ:(j:Int)<(ah.length:Int):=by omega
   have hwj:=dj (show j<2^61 by omega)
   obtain⟨p,g1,g2⟩:=(K.qg AM).get j (by rw[gI];exact hj)
   have g3:(aI aH ah)[j]'(by grind)=ah[j].c aH:=by simp[aI]
   rw[g3] at g2
   simp+decide only[sv,abi,atC,Uk,q38,q39,mZ,g1,g2,lT]
   generalize hX:aa.set _ _ _=X
   have xo:Old H2 X:=by rw[<-hX];exact((Old.refl H2).at (ak _)).set (ak _)
   have x0:cellsOf X H2.next=some (ah[j].c aH):=by rw[<-hX];exact aq (by simp[aa.set];rfl)
   simp only[lT] at x0
   have htj:=ht.ai _ (bw hj)
   have da:((ah.take j).flatMap fun x=>cE x.ai).length<=50*4:=by
    have: ∀(l:List Th),(∀x∈l,x.ai.ps.length<=16)->(l.flatMap fun x=>cE x.ai).length<=50*l.length:=by
     intro l
     induction l with
     |nil=>intro _;simp
     |cons c l ih=>
      intro hm
      have h1:=ih (fun x hx=>hm x (eH _ hx))
      have h2:=hm c (pY ..)
      simp only[jR,cw,CZ,cQ] at h1 ⊢;omega
    have h1:=this (ah.take j) (fun x hx=>(ht.ai x (uk hx)).2)
    grind
   simp+decide only[sv,atB,q8,x0]
   refine ao (NF ok (l:=ah[j].ai) (t':= .au) htj.1 (by grind)) ?_
   simp+decide only[sv,atA,q39,hwj]
   refine⟨m-1,by omega,j+1,by omega,AM.trans xo,?_,Uk,q38,rfl⟩
   rw[<-lM hj]
   simp only[vX,jR,sS,fE,eR]
   rfl
  ·have mZ: ¬(j:Int)<(ah.length:Int):=by omega
   simp+decide only[sv,abi,atz,q38,q39,q8,mZ,aV]
   rw[bX (by omega)]
   refine⟨?_,AM.get⟩
   unfold xD
   rw[hB]
   exact dt.iy
end
section
open Go
variable {P:Program} {h:aa} {a:KA} {lb N M:Nat} {ah:List Th} {af:List Ob} {g:Nat->Option (List UInt8)} {tv:AV} {t:Nat}
structure KE (h:aa) (a:KA) (lb:Nat) (tv:AV):Prop where
 top:h.get a.kb=some (.cells [tv, .ptr a.ab 0, .ptr a.bs 0])
 ar:AA h a.ab a.mb lb 1 0 (fun _=>none)
 sp:SG h a.bs a.bm a.bl a.bp 0 (fun _=>none)
 l1:a.kb<h.next
 qv: ∀b,FA a lb b-> ¬FS a b
 qu: ∀b,b=a.kb-> ¬FA a lb b
 tN: ∀b,b=a.kb-> ¬FS a b
def wF (n:Nat) (a:KA) (lb:Nat):Prop:=n<=a.kb/\(∀b,FA a lb b->n<=b)/\ ∀b,FS a b->n<=b
def aiD (ok:aA P tb) (ho:tv.one=true) (hc:tv.cells=[tv]) (t0): ∃a lb h',al P 62 [tv] h (.ptr a.kb 0) h'/\a.tb=t0/\KE h' a lb tv/\wF h.next a lb/\Old h h':=by
 obtain⟨h1,c1,A1,n1,o1⟩:=AA.new ok (h:=h) (v:=1)
 obtain⟨bs,bm,bl,bp,h2,c2,S2,b1,b2,b3,b4,o2⟩:=SG.new ok (h:=h1)
 have lS:=S2.lt
 have n2:=o2.next
 refine⟨⟨h2.next,t0,h.next+1,h.next,bs,bm,bl,bp⟩,h.next+1,?_⟩
 have hx: ∃h',al P 62 [tv] h (.ptr h2.next 0) h'/\h'=h2.at h2.next (.cells [tv, .ptr (h.next+1) 0, .ptr bs 0]):=by
  refine ok.dr Vk ?_
  simp+decide only[sv,Vk,azT,azS]
  refine ao c1 ?_
  simp+decide only[sv,Vk]
  refine ao c2 ?_
  simp+decide only[sv,hc,ho]
  exact⟨rfl,rfl⟩
 obtain⟨h',c,rfl⟩:=hx
 have o3:Old h2 (h2.at h2.next (.cells [tv, .ptr (h.next+1) 0, .ptr bs 0])):=(Old.refl h2).at (ak _)
 refine⟨_,c,rfl,⟨by simp[aa.at],(A1.old o2).old o3,S2.old o3,by simp[aa.at],?_,?_,?_⟩,⟨by grind,?_,?_⟩,(o1.trans o2).trans o3⟩
 ·rintro b (e|e|e) (f|f|f|f)<;>(grind)<;>(grind)<;>omega
 ·rintro b e (f|f|f)<;>(grind)<;>(grind)<;>omega
 ·rintro b e (f|f|f|f)<;>(grind)<;>(grind)<;>omega
 ·rintro b (f|f|f)<;>(grind)<;>omega
 ·rintro b (f|f|f|f)<;>(grind)<;>omega
def KE.more (K:KE h a lb tv) (o: ∀b,b<h.next->b=a.kb\/FA a lb b\/FS a b->h'.get b=h.get b) (hn:h.next<=h'.next):KE h' a lb tv:=by
 have A:=K.ar.lt
 have S:=K.sp.lt
 exact⟨by rw[o _ K.l1 (.inl rfl),K.top],K.ar.more hn (o _ A.1 (.inr (.inl (.inl rfl)))) (o _ A.2.1 (.inr (.inl (.inr (.inl rfl))))) (fun h=>o _ h (.inr (.inl (.inr (.inr rfl))))) (ak _),
  K.sp.more hn (o _ S.1 (.inr (.inr (.inl rfl)))) (o _ S.2.1 (.inr (.inr (.inr (.inl rfl))))) (o _ S.2.2.1 (.inr (.inr (.inr (.inr (.inl rfl)))))) (o _ S.2.2.2 (.inr (.inr (.inr (.inr (.inr rfl)))))) (ak _),bJ K.l1 hn,K.qv,K.qu,K.tN⟩
def KE.kh (K:KE h a lb (.rs t 0 ah.length 12)) (ht:h.get t=some (.cells (aI aH ah).flatten)) (l2:t<h.next) (hn:a.kb≠t/\ ¬FA a lb t/\ ¬FS a t):KH h {a with tb:=t} lb 0 0 ah [] (ff []):=
 ⟨K.top,ht,⟨_,K.ar,fun id=>rfl⟩,K.sp,K.l1,l2,hn.1,K.qv,by
   rintro b (e|e)
   ·exact K.qu b e
   ·simp only at e;subst e;exact hn.2.1,by
   rintro b (e|e)
   ·exact K.tN b e
   ·simp only at e;subst e;exact hn.2.2,⟨List.Pairwise.nil,fun o ho=>by cases ho⟩⟩
structure Cf where
 aP:Int
 ot:Int
 aU:List Lb
def zX:aF Lb:=⟨fun l=>l.c .au,2,fun _=>rfl,fun l=>by simp only[Lb.c,AV.a8,AV.strip,aB.dJ],fun p l=>by simp only[Lb.c,AV.cG,AV.bD,aB.jD];rfl⟩
def Cf.c (c:Cf) (t:aL):List AV:=[.int .i64 c.aP, .int .i64 c.ot, .vs (zX.R c.aU) t]
def jX (c:Cf):Bool:=decide (0<=c.aP)&&decide (c.aP<=400)&&decide (0<=c.ot)&&decide (c.ot<=100000)&&decide (1<=c.aU.length)&&decide (c.aU.length<=4)&&c.aU.all dF
def iV (l:Lb):Th:=⟨l,qV,0,0,0,0,0,0,false⟩
def root (q:Int):Ob:={bz with id:=1,kind:=1,ai:=⟨2,[]⟩,aP:=q,next:=1}
def amw (h0:0<=q) (h1:q<=400):jj (root q):=by
 refine⟨⟨⟨show 2<256 by decide,fun p hp=>(by cases hp),show 0<2^20 by decide⟩,show 1<2^64 by decide,show 0<2^20 by decide,show 0<2^20 by decide,fun c hc=>(by cases hc)⟩,?_,rfl⟩
 have e1:cP (root q).id=true:=show cP 1=true by decide
 have e2:uF (root q)=true:=show(dF ⟨2,[]⟩&&(dQ []).length==0)=true by decide
 unfold eS
 rw[e1,e2]
 unfold ko root
 simp[h0,h1,bz]
def KE.lO (K:KE h a lb tv):KE (h.set a.kb (some (.cells [Av, .ptr a.ab 0, .ptr a.bs 0]))) a lb Av:=by
 have e: ∀b,FA a lb b\/FS a b->(h.set a.kb (some (.cells [Av, .ptr a.ab 0, .ptr a.bs 0]))).get b=h.get b:=by
  intro b hb
  simp only[aa.set]
  rw[aj]
  intro he;subst he
  rcases hb with hb|hb
  ·exact K.qu _ rfl hb
  ·exact K.tN _ rfl hb
 have hn:h.next<=(h.set a.kb (some (.cells [Av, .ptr a.ab 0, .ptr a.bs 0]))).next:=ak _
 exact⟨by simp[aa.set],K.ar.more hn (e _ (.inl (.inl rfl))) (e _ (.inl (.inr (.inl rfl)))) (fun _=>e _ (.inl (.inr (.inr rfl)))) (ak _),
  K.sp.more hn (e _ (.inr (.inl rfl))) (e _ (.inr (.inr (.inl rfl)))) (e _ (.inr (.inr (.inr (.inl rfl))))) (e _ (.inr (.inr (.inr (.inr rfl))))) (ak _),K.l1,K.qv,K.qu,K.tN⟩
def nO.Lt (g:nO sz h H v l) (hk:k<h.next):nO sz h (H.set k x) v l:=by
 rcases g with g|⟨b,h0,h1,hc,h2,h3⟩
 ·exact .inl g
 ·refine .inr ⟨b,h0,h1,?_,h2,h3⟩
  unfold cellsOf at hc ⊢
  simp only[aa.set]
  grind
def nO.qT {bytes id:Nat} (g:nO sz h H v l) (ho:h.next<=H.next) (aM:H.next<=id) (aN:id<H.next+n) (hl:l.length<2^20) (hb:bytes<2^10) (hs: ∀r∈l,r.length=sz): ∃v' H',iS bytes sz id (H.clean n) v (some [x])=some (v',H')/\nO sz h H' v' (l++[x])/\H'.next=H.next+n/\v'.one=true/\v'.cells=[v']/\(∀b,b<h.next->H'.get b=H.get b)/\ ∀b,b≠id->H.next<=b->H'.get b=none:=by
 have hmul:(l.length+1)*bytes<2^40:=bJ (Nat.mul_lt_mul_of_lt_of_lt (show l.length+1<2^21 by omega) hb) (by decide)
 rcases g with⟨rfl,rfl⟩|⟨b,h0,rfl,hc,h1,h2⟩
 ·have gw:(1:Nat)*bytes<2^40:=by omega
  refine⟨.rs id 0 1 sz,(H.clean n).at id (.cells [x].flatten),?_, .inr ⟨id,by simp,rfl,aq (by simp[aa.at]),by omega,by simp[aa.at,aa.clean];omega⟩,by simp[aa.at,aa.clean];omega,rfl,rfl,fun b hb=>by simp only[aa.at,aa.clean];grind,fun b hb hn=>by simp only[aa.at,aa.clean];grind⟩
  simp only[iS,qH,Gv,fj]
  grind
 ·have hlen:l.flatten.length=l.length*sz:=kS hs
  have fA:cellsOf (H.clean n) b=some l.flatten:=by
   rw[<-hc];unfold cellsOf;simp only[aa.clean];rw[ax h2]
  refine⟨.rs id 0 (l.length+1) sz,((H.clean n).set b none).at id (.cells (l++[x]).flatten),?_, .inr ⟨id,by simp,by simp,aq (by simp[aa.at]),by omega,by simp[aa.at,aa.clean,aa.set];omega⟩,by simp[aa.at,aa.set,aa.clean];omega,rfl,rfl,fun c hb=>by simp only[aa.at,aa.set,aa.clean];grind,fun c hb hn=>by simp only[aa.at,aa.set,aa.clean];grind⟩
  simp only[iS,fA,me,qH,Gv,fj]
  grind
def ain (ok:aA P tb) {c:Cf} (hv: ∀h',Old h h'->lz h' w 2 (c.aU.map fun l=>l.c τ)) (w1:w.one=true) (w2:w.cells=[w]) (hl: ∀l∈c.aU,l.ok) (hn:c.aU.length<2^20):
 (jX c=false/\ ∃h',al P 26 [.agg [.int .i64 c.aP, .int .i64 c.ot,w]] h (.aE [.nil, .int .i64 1]) h'/\Old h h')\/
 (jX c=true/\ ∃a lb h',al P 26 [.agg [.int .i64 c.aP, .int .i64 c.ot,w]] h (.aE [.ptr a.kb 0, .int .i64 0]) h'/\KH h' a lb 1 0 (c.aU.map iV) [root c.aP] (ff [root c.aP])/\Old h h'/\wF h.next a lb/\h.next<=a.tb):=by
 have key: ∃v h',al P 26 [.agg [.int .i64 c.aP, .int .i64 c.ot,w]] h v h'/\Old h h'/\((jX c=false/\v= .aE [.nil, .int .i64 1])\/(jX c=true/\ ∃a lb,v= .aE [.ptr a.kb 0, .int .i64 0]/\KH h' a lb 1 0 (c.aU.map iV) [root c.aP] (ff [root c.aP])/\wF h.next a lb/\h.next<=a.tb)):=by
  refine ok.kP Vp ?_
  have hlen: ∀h',Old h h'->jV w=some c.aU.length:=fun h' o=>by rw[(hv h' o).len,fp]
  have hlen:=hlen h (Old.refl h)
  simp+decide only[sv,Vp,aCV,w1]
  generalize hX:aa.at _ _ _=X
  have xo:Old h X:=by rw[<-hX];exact(Old.refl h).at (ak _)
  have x0:cellsOf X h.next=some [.int .i64 c.aP, .int .i64 c.ot,w]:=by rw[<-hX];exact aq (by simp[aa.at])
  have xn:X.next=h.next+1:=by rw[<-hX];simp[aa.at]
  simp+decide only[sv,aCU,x0]
  refine ao (OH ok) ?_
  by_cases a1:0<=c.aP/\c.aP<=400
  case neg=>
   have e1:(decide (0<=c.aP)&&decide (c.aP<=400))=false:=by
    grind
   have hb:jX c=false:=by unfold jX;rw[e1];simp
   rw[e1]
   simp+decide only[sv,Lj]
   exact⟨_,rfl,xo, .inl ⟨hb,rfl⟩⟩
  have e1:(decide (0<=c.aP)&&decide (c.aP<=400))=true:=by simpa using a1
  rw[e1]
  simp+decide only[sv,x0]
  refine ao (OH ok) ?_
  by_cases a2:0<=c.ot/\c.ot<=100000
  case neg=>
   have e2:(decide (0<=c.ot)&&decide (c.ot<=100000))=false:=by
    grind
   have hb:jX c=false:=by unfold jX;grind
   rw[e2]
   simp+decide only[sv,Lj]
   exact⟨_,rfl,xo, .inl ⟨hb,rfl⟩⟩
  have e2:(decide (0<=c.ot)&&decide (c.ot<=100000))=true:=by simpa using a2
  rw[e2]
  by_cases a3:c.aU.length<1
  ·have hb:jX c=false:=by unfold jX;grind
   have Vu:(c.aU.length:Int)<1:=by omega
   simp+decide only[sv,Lj,x0,hlen,Vu]
   exact⟨_,rfl,xo, .inl ⟨hb,rfl⟩⟩
  have Vu: ¬(c.aU.length:Int)<1:=by omega
  by_cases a4:4<c.aU.length
  ·have hb:jX c=false:=by unfold jX;grind
   have a4':(4:Int)<(c.aU.length:Int):=by omega
   simp+decide only[sv,Lj,x0,hlen,Vu,a4']
   exact⟨_,rfl,xo, .inl ⟨hb,rfl⟩⟩
  have a4': ¬(4:Int)<(c.aU.length:Int):=by omega
  simp+decide only[sv,aCT,x0,hlen,Vu,a4']
  obtain⟨a,lb,X1,c1,qp,K1,yE,o1⟩:=aiD ok (h:=X) (tv:= .vs [] .full) rfl rfl 0
  refine ao c1 ?_
  have x1:cellsOf X1 h.next=some [.int .i64 c.aP, .int .i64 c.ot,w]:=by rw[<-x0];unfold cellsOf;rw[o1.get _ (by omega)]
  have CA:=o1.next
  simp+decide only[sv,aCS,x1,hlen]
  let I:Nat->Env->aa->Prop:=fun n ρ H=> ∃i tv,c.aU.length=i+n/\KE H a lb tv/\nO 12 X1 H tv (aI aH ((c.aU.take i).map iV))/\X1.next<=H.next/\(∀b,b<X1.next->b≠a.kb->H.get b=X1.get b)/\(∀l∈c.aU.take i,dF l=true)/\ρ 1= .ptr h.next 0/\ρ 4= .ptr a.kb 0/\ρ 31=w/\ρ 32= .int .i64 c.aU.length/\ρ 33= .int .i64 i
  refine dv I ?_ c.aU.length ⟨0,_,by omega,K1, .inl ⟨rfl,rfl⟩,ak _,fun _ _ _=>rfl,fun l hl=>by simp at hl,rfl,rfl,rfl,rfl,rfl⟩
  rintro n ρ H ⟨i,tv,aN,K,hg,wT,ho,hm,r1,r4,r31,yC,r33⟩
  have afD:Old h H:=⟨by omega,fun b hb=>by
   have:=yE.1
   rw[ho b (by omega) (by omega),o1.get b (by omega),xo.get b hb]⟩
  by_cases hi:i<c.aU.length
  ·have av:(i:Int)<(c.aU.length:Int):=by omega
   have hw:=dj (show i<2^61 by omega)
   obtain⟨p,g1,g2⟩:=(hv H afD).get i (by grind)
   have g3:(c.aU.map fun l=>l.c τ)[i]'(by grind)=[.int .u8 c.aU[i].d, .vs (aB.R c.aU[i].ps) τ]:=by simp[Lb.c]
   rw[g3] at g2
   simp+decide only[sv,aeQ,aCR,r31,yC,r33,av,g1,g2]
   generalize hY:aa.set _ _ _=Y
   have yo:Old H Y:=by rw[<-hY];exact((Old.refl H).at (ak _)).set (ak _)
   have y0:cellsOf Y H.next=some [.int .u8 c.aU[i].d, .vs (aB.R c.aU[i].ps) τ]:=by rw[<-hY];exact aq (by simp[aa.set])
   have yn:Y.next=H.next+1:=by rw[<-hY];simp[aa.at,aa.set]
   have lY:=hl _ (bw hi)
   simp+decide only[sv,aCQ,y0]
   refine ao (Wq (l:=c.aU[i]) (t:=τ) ok lY) ?_
   cases UF:dF c.aU[i] with
   |false=>
    have hb:jX c=false:=by
     unfold jX
     grind
    simp+decide only[sv,aCP]
    exact⟨_,rfl,afD.trans yo, .inl ⟨hb,rfl⟩⟩
   |true=>
    have KY:=K.more (h':=Y) (fun b hb _=>yo.get b hb) yo.next
    have cY:=aq KY.top
    have lk:=KY.l1
    have ly:H.next<Y.next:=by omega
    have wS:=Bp UF
    simp+decide only[sv,Vp]
    refine jk 7 13 rfl (by omega) rfl ?_
    simp+decide only[sv,aCO,r4,y0,cY,lk,ly]
    refine dh (NQ ok (l:=c.aU[i]) (t:=τ) (by omega)) (ba (ak _)) ?_
    have tI:=uj i c.aU
    obtain⟨Av,H',ha,dz,cV,h1,h2,eV,ka⟩:=(hg.to yo).qT (bytes:=160) (id:=Y.next+(7+1+1)) (n:=13) (by omega) (by omega) (by omega) (x:=(iV c.aU[i]).c aH) (by rw[gI];simp;omega) (by omega) l7
    have tK:iS 160 12 (Y.next+(7+1+1)) (Y.clean 13) tv (some [[.int .u8 c.aU[i].d, .vs (aB.R c.aU[i].ps) .au, .vs [] .full, .vs [] .full, .vs [] .full, .int .i64 0, .int .i64 0, .int .u64 0, .int .u64 0, .int .i64 0, .int .i64 0, .bool false]])=some (Av,H'):=ha
    have lkX:=K1.l1
    have gk: ∀b,b<Y.next->b<X1.next->H'.get b=Y.get b:=by
     grind
    have cH:cellsOf H' a.kb=some [tv, .ptr a.ab 0, .ptr a.bs 0]:=by
     rw[<-cY];unfold cellsOf;rw[gk _ lk lkX]
    simp+decide only[sv,Lb.c,tK,xr,h1,h2,cH]
    have KA:=KY.ar.lt
    have KSl:=KY.sp.lt
    have hA1:=K1.ar.lt
    have hS1:=K1.sp.lt
    have KH':KE H' a lb tv:=KY.more (fun b hb hf=>gk b hb (by
     rcases hf with hf|hf|hf
     ·omega
     ·rcases hf with hf|hf|hf<;>omega
     ·rcases hf with hf|hf|hf|hf<;>omega)) (by omega)
    refine⟨fun j hj hn=>ka _ (by omega) (by omega),(jx lk).2 (fun j hj hn=>ka _ (by omega) (by omega)),?_⟩
    simp+decide only[sv,aof,r33,hw]
    refine⟨n-1,by omega,i+1,Av,by omega,KH'.lO,?_,by simp only[aa.set];omega,fun b hb hk=>?_,?_,r1,r4,r31,yC,rfl⟩
    ·rw[<-lM hi,jz]
     unfold aI at dz ⊢
     rw[jz]
     exact dz.Lt lkX
    ·simp only[aa.set]
     rw[aj hk,gk b (by omega) hb,yo.get b (by omega),ho b hb hk]
    ·intro l dG
     rw[<-lM hi] at dG
     grind
  ·have av: ¬(i:Int)<(c.aU.length:Int):=by omega
   have MN:i=c.aU.length:=by omega
   rw[bX (by omega)] at hg hm
   have MU:jX c=true:=by
    unfold jX
    grind
   rcases hg with⟨e,_⟩|⟨b,_,rfl,fA,gw,dB⟩
   ·have:=congrArg List.length e
    rw[gI] at this
    grind
   rw[gI,fp] at K
   have MP:H.get b=some (.cells (aI aH (c.aU.map iV)).flatten):=by
    revert fA;unfold cellsOf;grind
   have hA1:=K1.ar.lt
   have hS1:=K1.sp.lt
   have lkX:=K1.l1
   have KK:=(KE.kh (ah:=c.aU.map iV) (t:=b) (by rw[fp];exact K) MP dB ⟨by omega,by rintro(e|e|e)<;>omega,by rintro(e|e|e|e)<;>omega⟩)
   have xH:cellsOf H h.next=some [.int .i64 c.aP, .int .i64 c.ot,w]:=by
    rw[<-x1];unfold cellsOf;rw[ho _ (by omega) (by have:=yE.1;omega)]
   obtain⟨h',c2,aW,K2,iq,tE⟩:=aff ok KK (o:=root c.aP) (t:=fun _=> .full) (amw a1.1 a1.2) (fun o' eV=>by cases eV) (by decide) (by decide)
   simp+decide only[sv,aeQ,aoe,yC,r33,r1,r4,av,xH]
   refine ao c2 ?_
   simp+decide only[sv,aod,r4]
   refine⟨_,rfl,⟨by have:=tE.1;omega,fun x hx=>?_⟩, .inr ⟨MU,{a with tb:=b},aW,rfl,K2,⟨?_,?_,?_⟩,?_⟩⟩
   ·rw[tE.2 x (by omega) ?_ ?_ ?_]
    ·exact afD.get x hx
    ·rintro(e|e)
     ·have:=yE.1;grind
     grind
    ·intro e;have:=yE.2.1 x e;omega
    ·intro e;have:=yE.2.2 x e;omega
   ·have:=yE.1;grind
   ·rintro x (e|e|e)
    ·have:=yE.2.1 x (.inl e);omega
    ·have:=yE.2.1 x (.inr (.inl e));omega
    ·rcases iq with h|h
     ·have:=yE.2.1 x (.inr (.inr (e.trans h)));omega
     ·omega
   ·intro x e;have:=yE.2.2 x e;omega
   grind
 grind
end
section
open Go
variable {P:Program} {h:aa} {a:KA} {lb N M:Nat} {ah:List Th} {af:List Ob} {g:Nat->Option (List UInt8)}
def KF.fN (k:KF h h' a lb) (o:Old h0 h) (kn:wF h0.next a lb) (ht:h0.next<=a.tb):Old h0 h':=by
 have:=o.next
 refine⟨fm o.next k.1,fun x hx=>?_⟩
 rw[k.2 x (by omega) ?_ ?_ ?_,o.get x hx]
 ·rintro(e|e)
  ·have:=kn.1;omega
  ·omega
 ·intro e;have:=kn.2.1 x e;omega
 ·intro e;have:=kn.2.2 x e;omega
def wF.to {m:Nat} (k:wF n a lb) (hl:aW=lb\/m<=aW) (hm:n<=m):wF n a aW:=by
 refine⟨k.1,fun b hb=>?_,k.2.2⟩
 rcases hb with hb|hb|hb
 ·exact k.2.1 b (.inl hb)
 ·exact k.2.1 b (.inr (.inl hb))
 ·rcases hl with h|h
  ·exact k.2.1 b (.inr (.inr (hb.trans h)))
  ·omega
def aGz (ok:aA P tb) (K:KH h a lb N M ah af (ff af)) (h0:af≠[]) (dU:af.length<=12) (ht:TV ah) (AH:ah≠[]):
 ∃b aW M' h',al P 29 [.ptr a.kb 0] h (.ptr b.kb 0) h'/\KH h' b aW af.length M' ah af (ff af)/\M'<=af.length/\Old h h'/\wF h.next b aW/\h.next<=b.tb:=by
 have key: ∃v h',al P 29 [.ptr a.kb 0] h v h'/\ ∃b aW M',v= .ptr b.kb 0/\KH h' b aW af.length M' ah af (ff af)/\M'<=af.length/\Old h h'/\wF h.next b aW/\h.next<=b.tb:=by
  refine ok.kP yV ?_
  have c0:=aq K.top
  have tI:=ht.len
  obtain⟨w,h1,c1,hg,o1⟩:=ald ok (v:= .rs a.tb 0 ah.length 12) (l:=ah) (h:=h) (fun h' o=>K.qg o) (by omega) (fun x hx=>by have:=(ht.ai x hx).2;omega)
  have n1:=o1.next
  rcases hg with⟨e,_⟩|⟨fO,_,rfl,fA,gw,dB⟩
  ·have:=congrArg List.length e
   rw[gI] at this
   grind
  rw[gI] at c1
  obtain⟨b,lb0,h2,c2,hbt,lA,Mr,o2⟩:=aiD ok (h:=h1) (tv:= .rs fO 0 ah.length 12) rfl rfl fO
  simp+decide only[sv,yV,aCA,aCz,SE,c0]
  refine ao c1 ?_
  simp+decide only[sv,yV,SE]
  refine ao c2 ?_
  have n2:=o2.next
  have MP:h2.get fO=some (.cells (aI aH ah).flatten):=by
   rw[o2.get _ dB]
   revert fA;unfold cellsOf;grind
  have hA1:=lA.ar.lt
  have hS1:=lA.sp.lt
  have hA2:=Mr.2.1
  have hS2:=Mr.2.2
  have hK2:=Mr.1
  have KK:=lA.kh MP (by omega) ⟨by omega,fun e=>by grind,fun e=>by grind⟩
  have kn:wF h.next {b with tb:=fO} lb0:=⟨by grind,fun x e=>by have:=hA2 x e;omega,fun x e=>by have:=hS2 x e;omega⟩
  have Kh2:=(K.old o1).old o2
  simp+decide only[sv,yV,SE,aeN]
  refine ao (C0 ok Kh2 h0 dU) ?_
  simp+decide only[sv,yV,aeN,fD]
  let I:Nat->Env->aa->Prop:=fun n ρ H=> ∃i aW M',af.length=i+n/\KH H {b with tb:=fO} aW i M' ah (af.take i) (ff (af.take i))/\M'<=i/\Old h H/\wF h.next {b with tb:=fO} aW/\ρ 3= .ptr b.kb 0/\ρ 15= .vs (bg af) .au/\ρ 16= .int .i64 af.length/\ρ 17= .int .i64 i
  refine dv I ?_ af.length ⟨0,lb0,0,by omega,KK,ak _,o1.trans o2,kn,rfl,rfl,rfl,rfl⟩
  rintro n ρ H ⟨i,aW,M',aN,KI,hM,ho,ML,r3,fZ,jY,oR⟩
  have wT:=ho.next
  by_cases hi:i<af.length
  ·have av:(i:Int)<(af.length:Int):=by omega
   have hw:=dj (show i<2^61 by omega)
   have g1:=Bt hi
   have v:=K.ks.val _ (bw hi)
   simp only[dT] at g1
   simp+decide only[sv,yV,aeM,aCy,fZ,jY,oR,av,g1]
   generalize hX:aa.set _ _ _=X
   have xo:Old H X:=by rw[<-hX];exact((Old.refl H).at (ak _)).set (ak _)
   have x0:cellsOf X H.next=some (af[i].c aC):=by rw[<-hX];exact aq (by simp[aa.set];rfl)
   simp only[dT] at x0
   simp+decide only[sv,yV,aeL,r3,x0]
   have AJ:=DB (List.take_sublist (i+1) af) K.ks.aQ
   have awQ: ∀y∈af.take i,y.id<af[i].id:=by
    rw[<-lM hi] at AJ
    exact fun y hy=>(List.pairwise_append.1 AJ).2.2 y hy _ (by simp)
   have e:af.take (i+1)=bC (af.take i) af[i]:=by
    rw[<-lM hi,Wv awQ]
   obtain⟨H2,c3,pK,K3,CI,Ef⟩:=aff ok (KI.old xo) (o:=af[i]) (t:=aC) v (fun o' eV=>by
    obtain⟨h1,h2⟩:=ix eV
    grind) (by omega) (by omega)
   refine ao c3 ?_
   simp+decide only[sv,yV,aeL,aCx,oR,hw]
   refine⟨n-1,by omega,i+1,pK,_,by omega,by rw[e];exact K3,by grind,Ef.fN (ho.trans xo) ML (by omega),ML.to CI (by have:=xo.next;omega),r3,fZ,jY,rfl⟩
  ·have av: ¬(i:Int)<(af.length:Int):=by omega
   have MN:i=af.length:=by omega
   rw[bX (by omega)] at KI
   simp+decide only[sv,yV,aeM,aCw,jY,oR,r3,av]
   exact⟨_,rfl,{b with tb:=fO},aW,M',rfl,by grind,by omega,ho,ML,by omega⟩
 grind
structure Rp where
 Fv:Int
 err:Int
 ret:Nat
 data:List UInt8
 deriving DecidableEq
structure KX (h:aa) (xb:Nat) (a:KA) (lb N M t:Nat) (ah:List Th) (af:List Ob) (rp:Rp):Prop where
 k:KH h a lb N M ah af (ff af)
 x: ∃tl,h.get xb=some (.cells [.ptr a.kb 0, .ptr a.tb (t*12), .int .i64 t, .int .i64 rp.Fv, .int .i64 rp.err, .int .u64 rp.ret, .vs (BS rp.data) tl])
 lx:xb<h.next
 dK: ¬FK a xb
 dA: ¬FA a lb xb
 dS: ¬FS a xb
 ht:t<ah.length
 tv:TV ah
 root: ∃r,a9 af 1=some r
variable {xb t:Nat} {rp:Rp}
def KX.old (X:KX h xb a lb N M t ah af rp) (o:Old h h'):KX h' xb a lb N M t ah af rp:=by
 obtain⟨tl,hx⟩:=X.x
 exact⟨X.k.old o,⟨tl,by rw[o.get _ X.lx,hx]⟩,bJ X.lx o.next,X.dK,X.dA,X.dS,X.ht,X.tv,X.root⟩
def KX.ai (X:KX h xb a lb N M t ah af rp):(ah[t]'X.ht).ai.ok:=(X.tv.ai _ (bw X.ht)).1
def KX.th (X:KX h xb a lb N M t ah af rp):cellsOf h a.tb=some (aI aH ah).flatten/\t*12+12<=(aI aH ah).flatten.length/\((aI aH ah).flatten.drop (t*12)).take 2=[.int .u8 (ah[t]'X.ht).ai.d, .vs (aB.R (ah[t]'X.ht).ai.ps) .au]:=by
 have hl:(aI aH ah).flatten.length=ah.length*12:=by rw[kS l7,gI]
 have ht:=X.ht
 refine⟨aq X.k.aU,by omega,?_⟩
 have hc:=IA (rows:=aI aH ah) (i:=t) (by rw[gI];exact ht) l7
 have e:((aI aH ah).flatten.drop (t*12)).take 2=(((aI aH ah).flatten.drop (t*12)).take 12).take 2:=by grind
 rw[e,hc]
 simp[aI,lT]
def Kg (ok:aA P tb) (X:KX h xb a lb N M t ah af rp) {o:Ob} (hl:o.ai.ok):al P 188 [.ptr xb 0, .agg (o.c tl)] h (.bool (eI (ah[t]'X.ht).ai o.ai)) h:=by
 refine ok.bA agG ?_
 obtain⟨rt,hx⟩:=X.x
 have cx:=aq hx
 obtain⟨ct,hle,iY⟩:=X.th
 have l2:=X.k.l2
 have lx:=X.lx
 have lg:t*12+2<=(aI aH ah).flatten.length:=by omega
 simp+decide only[sv,agG,aqN,Ob.c]
 generalize hY:aa.at _ _ _=Y
 have yo:Old h Y:=by rw[<-hY];exact(Old.refl h).at (ak _)
 have y0:cellsOf Y h.next=some (o.c tl):=by rw[<-hY];exact aq (by simp[aa.at,Ob.c])
 have yn:h.next<Y.next:=by rw[<-hY];simp[aa.at]
 have tO:cellsOf Y xb=_:=(show cellsOf Y xb=cellsOf h xb by unfold cellsOf;rw[yo.get _ lx]).trans cx
 have CR:cellsOf Y a.tb=_:=(show cellsOf Y a.tb=cellsOf h a.tb by unfold cellsOf;rw[yo.get _ l2]).trans ct
 simp only[Ob.c] at y0
 have n1:xb<Y.next:=by omega
 have n2:a.tb<Y.next:=by omega
 refine bq 11 rfl rfl ?_
 simp+decide only[sv,aqM,tO,CR,y0,n1,n2,yn,lg,iY]
 refine dX (aH9 (a:=(ah[t]'X.ht).ai) (b:=o.ai) (ta:= .au) (fO:=tl 0) ok X.ai hl) (ba (ak _)) ?_
 simp+decide only[sv]
 intro b hb
 rw[ax (by omega)]
 exact yo.get b hb
def Xx (ok:aA P tb) (X:KX h xb a lb N M t ah af rp) {o:Ob} (hl:o.ai.ok):al P 189 [.ptr xb 0, .agg (o.c tl)] h (.bool (cM (ah[t]'X.ht).ai o.ai)) h:=by
 refine ok.bA agF ?_
 obtain⟨rt,hx⟩:=X.x
 have cx:=aq hx
 obtain⟨ct,hle,iY⟩:=X.th
 have l2:=X.k.l2
 have lx:=X.lx
 have lg:t*12+2<=(aI aH ah).flatten.length:=by omega
 simp+decide only[sv,agF,aqL,Ob.c]
 generalize hY:aa.at _ _ _=Y
 have yo:Old h Y:=by rw[<-hY];exact(Old.refl h).at (ak _)
 have y0:cellsOf Y h.next=some (o.c tl):=by rw[<-hY];exact aq (by simp[aa.at,Ob.c])
 have yn:h.next<Y.next:=by rw[<-hY];simp[aa.at]
 have tO:cellsOf Y xb=_:=(show cellsOf Y xb=cellsOf h xb by unfold cellsOf;rw[yo.get _ lx]).trans cx
 have CR:cellsOf Y a.tb=_:=(show cellsOf Y a.tb=cellsOf h a.tb by unfold cellsOf;rw[yo.get _ l2]).trans ct
 simp only[Ob.c] at y0
 have n1:xb<Y.next:=by omega
 have n2:a.tb<Y.next:=by omega
 refine bq 11 rfl rfl ?_
 simp+decide only[sv,aqK,tO,CR,y0,n1,n2,yn,lg,iY]
 refine dX (aGV (a:=(ah[t]'X.ht).ai) (b:=o.ai) (ta:= .au) (fO:=tl 0) ok X.ai hl) (ba (ak _)) ?_
 simp+decide only[sv]
 intro b hb
 rw[ax (by omega)]
 exact yo.get b hb
def dW (l o:Lb):Bool:=eI l o&&cM l o
def RR (ok:aA P tb) (X:KX h xb a lb N M t ah af rp) {o:Ob} (hl:o.ai.ok):al P 181 [.ptr xb 0, .agg (o.c tl)] h (.bool (dW (ah[t]'X.ht).ai o.ai)) h:=by
 refine ok.bA Ma ?_
 simp+decide only[sv,Ma,arb,Ob.c]
 generalize hY:aa.at _ _ _=Y
 have yo:Old h Y:=by rw[<-hY];exact(Old.refl h).at (ak _)
 have y0:cellsOf Y h.next=some (o.c tl):=by rw[<-hY];exact aq (by simp[aa.at,Ob.c])
 simp only[Ob.c] at y0
 have XY:=X.old yo
 unfold dW
 simp+decide only[sv,ara,y0]
 refine ao (Kg ok XY (o:=o) (tl:=tl) hl) ?_
 cases hs:eI (ah[t]'X.ht).ai o.ai with
 |false=>
  simp+decide only[sv,Ma]
  first|exact⟨rfl,yo.get⟩|(refine⟨by simp,yo.get⟩)
 |true=>
  simp+decide only[sv,y0]
  refine ao (Xx ok XY (o:=o) (tl:=tl) hl) ?_
  simp+decide only[sv,Ma]
  first|exact yo.get|(refine⟨?_,yo.get⟩;cases cM (ah[t]'X.ht).ai o.ai<;>rfl)
def gy (af:List Ob) (l:Lb):Ob->List Nat->Ob×Nat
 |o,[]=>(o,0)
 |o,p::ps=>if o.kind≠1 then(bz,7) else if eI l o.ai=false then(bz,6) else match a9 af p with
  |none=>(bz,7)
  |some o'=>gy af l o' ps
def di (af:List Ob) (l:Lb) (id:Nat):Ob×Nat:=match bu id with
 |[]=>(bz,7)
 |r::ps=>gy af l ((a9 af r).getD bz) ps
def Iq {id:Nat} (h:cP id=false):bu id=[]:=by
 unfold cP at h
 unfold bu
 grind
theorem Ip {id:Nat} (h:cP id=true): ∃ps,bu id=1::ps:=by
 unfold cP at h
 unfold bu
 cases hn:eT id with
 |none=>grind
 |some l=>
  have:=(Bv hn).1
  refine⟨(List.range l.length).map fun j=>id/64^(l.length-(j+1)),?_⟩
  simp only[List.range_succ_eq_map,eG,List.map_map,qF,this]
  rfl
theorem akq: ∀{ps:List Nat} {o:Ob},(∃x∈af,x=o)->(gy af l o ps).1=bz\/(gy af l o ps).1∈af
 |[],o,h=>by obtain⟨x,hx,rfl⟩:=h;exact .inr hx
 |p::ps,o,h=>by
  unfold gy
  split
  ·exact .inl rfl
  split
  ·exact .inl rfl
  cases ho:a9 af p with
  |none=>exact .inl rfl
  |some o'=>exact akq ⟨o',(ix ho).1,rfl⟩
def mS:Nat->aL:=fun _=> .full
theorem yD:bz.c mS=[.int .u64 0, .int .i64 0, .int .u8 0, .vs [] .full, .vs [] .full, .vs [] .full, .vs [] .full, .int .i64 0, .int .i64 0, .int .i64 0, .vs [] .full, .vs [] .full, .vs [] .full]:=rfl
def VK (ok:aA P tb) (X:KX h xb a lb N M t ah af rp) {id:Nat} (aM:id<2^64):al P 190 [.ptr xb 0, .int .u64 id] h (.aE [.agg ((di af (ah[t]'X.ht).ai id).1.c aC), .int .i64 (di af (ah[t]'X.ht).ai id).2]) h:=by
 refine ok.df (rf:=TU) rfl (bT rfl) (by simp only[AV.bD,AV.cG,sD];rfl) ?_
 simp+decide only[sv,TU,aqI]
 generalize hY:aa.at _ _ _=Y
 have yo:Old h Y:=by rw[<-hY];exact(Old.refl h).at (ak _)
 have y0:cellsOf Y h.next=some (bz.c mS):=by rw[<-hY];exact aq (by simp[aa.at];rfl)
 have yn:Y.next=h.next+1:=by rw[<-hY];simp[aa.at]
 have lx:=X.lx
 simp only[yD] at y0
 obtain⟨R,hR⟩: ∃R,R=di af (ah[t]'X.ht).ai id:=⟨_,rfl⟩
 rw[<-hR]
 let J:Nat->Env->aa->Prop:=fun n ρ H=> ∃o ps q ob t6,n=ps.length/\Old h H/\o∈af/\gy af (ah[t]'X.ht).ai o ps=R/\ρ 0= .ptr xb 0/\ρ 4= .ptr h.next 0/\ρ 6= .vs ((ay .u64).R (q::ps)) t6/\ρ 7= .ptr ob 0/\h.next<ob/\ob<H.next/\cellsOf H h.next=some (bz.c mS)/\cellsOf H ob=some (o.c aC)
 refine ry 0 rfl rfl J (fun l' ρ h hk=>hk) ?_ ?_
 ·unfold di at hR
  cases hm:cP id with
  |false=>
   rw[Iq hm] at hR
   simp+decide only[sv,aar,pE,List.foldr]
   refine ao (ND ok aM) ?_
   rw[hm]
   simp+decide only[sv,aqH,y0,aV]
   refine⟨by rw[hR];rfl,fun b hb=>?_⟩
   rw[aj (by omega)];exact yo.get b hb
  |true=>
   obtain⟨ps,hp⟩:=Ip hm
   rw[hp] at hR
   simp+decide only[sv,aar,pE,List.foldr]
   refine ao (ND ok aM) ?_
   rw[hm]
   simp+decide only[sv,aqG]
   refine ao (aij ok aM) ?_
   rw[hp]
   have XY:=X.old yo
   obtain⟨rt,hx⟩:=XY.x
   have cx:=aq hx
   have Uq:=XY.lx
   have g0:((ay .u64).R (1::ps))[0]? =some [.int .u64 1]:=rfl
   obtain⟨r,hr⟩:=X.root
   have bB:=Tm ok (XY.old ((Old.refl Y).clean (n:=14))).k (id:=1)
   change R=gy af (ah[t]'X.ht).ai ((a9 af 1).getD bz) ps at hR
   rw[hr] at bB hR
   rw[iQ] at hR
   simp+decide only[sv,TU]
   refine bq 14 rfl rfl ?_
   simp+decide only[sv,aqF,cx,Uq,g0]
   refine dX bB (ba (ak _)) ?_
   simp+decide only[sv,dT]
   have rW:=(ix hr).1
   refine⟨fun j hj hn=>?_,ps.length,r,ps,1,Y.next+11,_,rfl,?_,rW,hR.symm,rfl,rfl,rfl,rfl,by omega,?_,?_,?_⟩
   ·simp only[aa.set,aa.at,aa.clean]
    grind
   ·exact yo.trans (((Old.refl Y).clean.at (by omega)).set (by omega))
   ·simp[aa.set,aa.at,aa.clean]
   ·rw[show∀(Z:aa) (cs:List AV),cellsOf (Z.set (Y.next+(1+1+1+1+1+1+1+1+1+1+1)) (some (.cells cs))) h.next=cellsOf Z h.next from fun Z cs=>by unfold cellsOf;simp only[aa.set];grind]
    rw[yD,<-y0]
    unfold cellsOf
    simp only[aa.at,aa.clean]
    grind
   ·exact aq (by simp[aa.set];rfl)
 ·rintro n ρ H ⟨o,ps,q,ob,t6,hn,ho,eC,hw,r0,r4,r6,r7,aTa,afn,z0,z1⟩
  have XH:=X.old ho
  have wT:=ho.next
  simp only[yD] at z0
  simp only[dT] at z1
  have hv:=XH.k.ks.val o eC
  have nob: ¬ob=h.next:=by omega
  have aSM: ¬h.next=ob:=by omega
  cases ps with
  |nil=>
   have e1:(ay .u64).R [q]=[[.int .u64 q]]:=rfl
   simp+decide only[sv,PQ,PO,aqE,r4,r6,r7,e1,z0,z1,xr,aV]
   unfold gy at hw
   rw[<-hw]
   refine⟨?_,fun b hb=>?_⟩
   ·show(AV.aE [.agg (o.c aC), .int .i64 0]).strip=_
    simp only[AV.strip,AV.a8,vj];rfl
   ·rw[aj (by omega)];exact ho.get b hb
  |cons p ps=>
   have e1:(ay .u64).R (q::p::ps)=[.int .u64 q]::[.int .u64 p]::(ay .u64).R ps:=rfl
   have k1:List.take (((ay .u64).R ps).length+1+1-1) ([AV.int .u64 p]::(ay .u64).R ps)=[AV.int .u64 p]::(ay .u64).R ps:=bX (by simp)
   unfold gy at hw
   by_cases h1:o.kind=1
   case neg=>
    simp+decide only[sv,PQ,PO,aaq,aqD,r4,r6,r7,e1,k1,z0,z1,xr,h1,aV]
    rw[ax h1] at hw
    rw[<-hw]
    refine⟨rfl,fun b hb=>?_⟩
    rw[aj (by omega)];exact ho.get b hb
   rw[aj (fun h=>h h1)] at hw
   have hk:(o.kind=1)=True:=bW h1
   simp+decide only[sv,PQ,PO,aaq,alA,r0,r6,r7,e1,k1,z1,xr,hk]
   refine ao (Kg ok XH (o:=o) (tl:=aC) hv.ok.ai) ?_
   cases hs:eI (ah[t]'X.ht).ai o.ai with
   |false=>
    rw[hs,ax rfl] at hw
    simp+decide only[sv,alz,r4,z0,aV]
    rw[<-hw]
    refine⟨rfl,fun b hb=>?_⟩
    rw[aj (by omega)];exact ho.get b hb
   |true=>
    rw[hs,aj (by simp)] at hw
    obtain⟨rt,hx⟩:=XH.x
    have cx:=aq hx
    have Uq:=XH.lx
    have bB:=Tm ok (XH.old ((Old.refl H).clean (n:=13))).k (id:=p)
    have zc:cellsOf (H.clean 13) ob=_:=(show cellsOf (H.clean 13) ob=cellsOf H ob by unfold cellsOf;simp only[aa.clean];grind).trans z1
    have fr: ∀(cs:List AV) (i:Nat),dY 13 H.next i ((H.clean 13).set ob (some (.cells cs))):=fun cs i=>(jx afn).2 (ba (ak _))
    cases hf:a9 af p with
    |none=>
     rw[hf] at bB hw
     simp+decide only[sv,W4]
     refine bq 13 rfl rfl ?_
     simp+decide only[sv,W3,r0,cx,Uq]
     refine dX bB (ba (ak _)) ?_
     have tJ:h.next<H.next:=by omega
     simp+decide only[sv,W2,aly,r4,r7,z1,z0,afn,tJ,dT,aSM,aV]
     refine⟨fr _ _,?_,fun b hb=>?_⟩
     ·rw[<-hw];rfl
     ·rw[aj (by omega),aj (by omega),ax (by omega)];exact ho.get b hb
    |some o'=>
     rw[hf] at bB hw
     simp+decide only[sv,W4]
     refine bq 13 rfl rfl ?_
     simp+decide only[sv,W3,r0,cx,Uq]
     refine dX bB (ba (ak _)) ?_
     simp+decide only[sv,W2,r7,z1,afn,dT,xr]
     refine⟨fr _ _,ps.length,by grind,o',ps,p,ob,_,rfl,(ho.trans ((Old.refl H).clean)).set (by omega),(ix hf).1,hw,r0,r4,rfl,r7,aTa,by simp only[aa.set,aa.clean];omega,?_,aq (by simp[aa.set];rfl)⟩
     rw[yD,<-z0]
     unfold cellsOf
     simp only[aa.set,aa.clean]
     grind
end
section
open Go
variable {P:Program} {h:aa} {a:KA} {lb N M:Nat} {ah:List Th} {af:List Ob} {g:Nat->Option (List UInt8)} {xb t:Nat} {rp:Rp}
def bh (af:List Ob) (l:Lb) (id:Nat) (kind:Int) (q:Lb->Bool):Ob×Nat:=if(di af l id).2≠0 then(bz,(di af l id).2) else if(di af l id).1.kind≠kind then(bz,8) else if q (di af l id).1.ai=false then(bz,6) else((di af l id).1,0)
def aKq {id:Nat} (hr: ∃r,a9 af 1=some r):(di af l id).1=bz\/(di af l id).1∈af:=by
 unfold di
 cases hm:cP id with
 |false=>rw[Iq hm];exact .inl rfl
 |true=>
  obtain⟨ps,hp⟩:=Ip hm
  obtain⟨r,hr⟩:=hr
  rw[hp]
  show(gy af l ((a9 af 1).getD bz) ps).1=bz\/(gy af l ((a9 af 1).getD bz) ps).1∈af
  rw[hr]
  exact akq ⟨r,(ix hr).1,rfl⟩
def Bu:bz.ai.ok:=⟨by decide,fun p hp=>(by cases hp),by decide⟩
def KX.aMO (X:KX h xb a lb N M t ah af rp) {id:Nat}:(di af l id).1.ai.ok:=by
 rcases aKq (l:=l) (id:=id) X.root with e|e
 ·rw[e];exact Bu
 ·exact(X.k.ks.val _ e).ok.ai
def aMB {o:Ob} {n:Nat}:(AV.aE [.agg (o.c tl), .int .i64 n]).strip= .aE [.agg (o.c aC), .int .i64 n]:=by simp only[AV.strip,AV.a8,vj]
def Bg (ok:aA P tb) (X:KX h xb a lb N M t ah af rp) {id:Nat} (aM:id<2^64) (hf:dV P f=true) (hq: ∀(o:Ob) (h':aa),o.ai.ok->Old h h'->al P f [.ptr xb 0, .agg (o.c aC)] h' (.bool (q o.ai)) h'):
 al P 180 [.ptr xb 0, .int .u64 id, .int .i64 kind, .fn f [.ptr xb 0] []] h (.aE [.agg ((bh af (ah[t]'X.ht).ai id kind q).1.c aC), .int .i64 (bh af (ah[t]'X.ht).ai id kind q).2]) h:=by
 refine ok.df (rf:=agL) rfl (bT rfl) (by simp only[AV.bD,AV.cG,sD];rfl) ?_
 simp+decide only[sv,agL,ark,arj]
 generalize hY:aa.at _ _ _=Y
 have yo:Old h Y:=by rw[<-hY];exact(Old.refl h).at (ak _)
 have y0:cellsOf Y h.next=some (bz.c mS):=by rw[<-hY];exact aq (by simp[aa.at];rfl)
 have yn:Y.next=h.next+1:=by rw[<-hY];simp[aa.at]
 have XY:=X.old yo
 refine ao (VK ok XY aM) ?_
 have i6:=X.aMO (l:=(ah[t]'X.ht).ai) (id:=id)
 obtain⟨V,hV⟩: ∃V,V=bh af (ah[t]'X.ht).ai id kind q:=⟨_,rfl⟩
 rw[<-hV]
 unfold bh at hV
 generalize di af (ah[t]'X.ht).ai id=R at*
 obtain⟨o,e⟩:=R
 simp only at i6 hV ⊢
 simp+decide only[sv,dT]
 generalize hZ:aa.set _ _ _=Z
 have zo:Old Y Z:=by rw[<-hZ];exact((Old.refl Y).at (ak _)).set (ak _)
 have z1:cellsOf Z Y.next=some (o.c aC):=by rw[<-hZ];exact aq (by simp[aa.set];rfl)
 have z0:cellsOf Z h.next=some (bz.c mS):=by rw[<-y0];unfold cellsOf;rw[zo.get _ (by omega)]
 have XZ:=XY.old zo
 have hold:=yo.trans zo
 simp only[yD] at z0
 simp only[dT] at z1
 by_cases he:e=0
 ·subst he
  rw[aj (fun h=>h rfl)] at hV
  by_cases hk:o.kind=kind
  ·have gC:(o.kind=kind)=True:=bW hk
   rw[aj (fun h=>h hk)] at hV
   simp+decide only[sv,P1,aau,arf,z1,gC]
   refine vm hf (hq o Z i6 hold) ?_
   cases hqq:q o.ai with
   |false=>
    rw[hqq,ax rfl] at hV
    rw[hV]
    simp+decide only[sv,ard,z0,aV]
    exact⟨rfl,fun b hb=>by rw[aj (by omega)];exact hold.get b hb⟩
   |true=>
    rw[hqq,aj (by simp)] at hV
    rw[hV]
    simp+decide only[sv,arc,z0,z1,aV]
    exact⟨aMB (o:=o) (n:=0) (tl:=aC),fun b hb=>by rw[aj (by omega)];exact hold.get b hb⟩
  ·have gC:(o.kind=kind)=False:=bk hk
   rw[ax hk] at hV
   rw[hV]
   simp+decide only[sv,P1,aau,arh,z0,z1,gC,aV]
   exact⟨rfl,fun b hb=>by rw[aj (by omega)];exact hold.get b hb⟩
 ·have bP:((e:Int)=0)=False:=bk (by omega)
  rw[ax he] at hV
  rw[hV]
  simp+decide only[sv,P1,ari,z0,bP,aV]
  exact⟨rfl,fun b hb=>by rw[aj (by omega)];exact hold.get b hb⟩
def KX.lO (X:KX h xb a lb N M t ah af rp) {x:Th} (hx:x.ai.ok/\x.ai.ps.length<=16):KX (h.set a.tb (some (.cells (aI aH (ah.set t x)).flatten))) xb a lb N M t (ah.set t x) af rp:=by
 obtain⟨tl,Ek⟩:=X.x
 have ltS:=X.k.sp.lt
 obtain⟨f,A,R⟩:=X.k.ar
 have ltA:=A.lt
 have e: ∀b,b≠a.tb->(h.set a.tb (some (.cells (aI aH (ah.set t x)).flatten))).get b=h.get b:=fun b hb=>by simp only[aa.set];rw[aj hb]
 have nA: ∀b,FA a lb b->b≠a.tb:=fun b hb e=>X.k.qu b (.inr e) hb
 have nS: ∀b,FS a b->b≠a.tb:=fun b hb e=>X.k.tN b (.inr e) hb
 have hn:h.next<=(h.set a.tb (some (.cells (aI aH (ah.set t x)).flatten))).next:=ak _
 refine⟨⟨by rw[e _ X.k.H8,kE,X.k.top],by simp[aa.set],⟨f,A.more hn (e _ (nA _ (.inl rfl))) (e _ (nA _ (.inr (.inl rfl)))) (fun _=>e _ (nA _ (.inr (.inr rfl)))) (ak _),R⟩,
  X.k.sp.more hn (e _ (nS _ (.inl rfl))) (e _ (nS _ (.inr (.inl rfl)))) (e _ (nS _ (.inr (.inr (.inl rfl))))) (e _ (nS _ (.inr (.inr (.inr rfl))))) (ak _),X.k.l1,X.k.l2,X.k.H8,X.k.qv,X.k.qu,X.k.tN,X.k.ks⟩,
  ⟨tl,by rw[e _ (fun e=>X.dK (.inr e)),Ek]⟩,X.lx,X.dK,X.dA,X.dS,by rw[kE];exact X.ht,⟨by rw[kE];exact X.tv.len,fun y hy=>?_⟩,X.root⟩
 rcases List.mem_or_eq_of_mem_set hy with hy|rfl
 ·exact X.tv.ai y hy
 ·exact hx
def mD (l:Lb) (cs:List Nat):Lb:=cs.foldl (fun l c=>tj l c 0) l
theorem amA: ∀{l acc:List (Nat×Nat)},(l.foldl (qW d) acc).length<=acc.length+l.length
 |[],acc=>by simp
 |p::l,acc=>by
  have h1:=amA (d:=d) (l:=l) (acc:=qW d acc p)
  have h2:=ak7 (d:=d) (l:=acc) (p:=p)
  grind
theorem amz: ∀{l acc:List (Nat×Nat)},q∈l.foldl (qW d) acc->q∈acc\/q∈l
 |[],acc,h=> .inl h
 |p::l,acc,h=>by
  rcases amz (l:=l) (acc:=qW d acc p) h with h|h
  ·rcases ak6 h with h|h
   ·grind
   ·exact .inl h
  grind
def aLs {c:Nat} (hl:l.ok) (hs:l.ps.length<2^19) (hc:c<65536) (hv:gB<256):(tj l c gB).ok/\(tj l c gB).ps.length<=l.ps.length+1:=by
 have h1:(tj l c gB).ps.length<=l.ps.length+1:=by
  have:=amA (d:=l.d) (l:=l.ps++[(c,gB)]) (acc:=[])
  simpa [tj,jr] using this
 refine⟨⟨hl.d,fun p hp=>?_,by omega⟩,h1⟩
 rcases amz hp with h|h
 ·cases h
 ·rcases List.mem_append.1 h with h|h
  ·exact hl.ps p h
  grind
def NX: ∀{l:Lb},l.ok->l.ps.length+cs.length<2^19->(∀c∈cs,c<65536)->(mD l cs).ok/\(mD l cs).ps.length<=l.ps.length+cs.length:=by
 induction cs with
 |nil=>intro l hl _ _;exact⟨hl,by simp[mD]⟩
 |cons c cs ih=>
  intro l hl hs hc
  simp only[cQ] at hs
  have h1:=aLs (l:=l) (c:=c) (gB:=0) hl (by omega) (hc c (pY ..)) (by omega)
  have h2:=ih h1.1 (by omega) (fun x hx=>hc x (eH _ hx))
  refine⟨h2.1,?_⟩
  have:=h2.2
  simp only[cQ]
  show(mD (tj l c 0) cs).ps.length<=_
  omega
def XF (h h':aa) (a:KA) (lb xb:Nat):Prop:=h.next<=h'.next/\ ∀b,b<h.next-> ¬FK a b-> ¬FA a lb b-> ¬FS a b->b≠xb->h'.get b=h.get b
def XF.refl:XF h h a lb xb:=⟨ak _,fun _ _ _ _ _ _=>rfl⟩
def KF.xf (k:KF h h' a lb):XF h h' a lb xb:=⟨k.1,fun b hb h1 h2 h3 _=>k.2 b hb h1 h2 h3⟩
def XF.old (o:Old h h'):XF h h' a lb xb:=⟨o.next,fun b hb _ _ _ _=>o.get b hb⟩
def XF.trans (x:XF h h1 a lb xb) (y:XF h1 h2 a aW xb) (hl:aW=lb\/h.next<=aW):XF h h2 a lb xb:=⟨fm x.1 y.1,fun b hb h1 h2 h3 h4=>by
 have:=x.1
 rw[y.2 b (by omega) h1 ?_ h3 h4,x.2 b hb h1 h2 h3 h4]
 rintro(e|e|e)
 ·exact h2 (.inl e)
 ·exact h2 (.inr (.inl e))
 ·rcases hl with hl|hl
  ·exact h2 (.inr (.inr (e.trans hl)))
  ·omega⟩
def pt (ht) (hj:j+v.length<=12) (hx:List.take j (l[t].c aH)++v++List.drop (j+v.length) (l[t].c aH)=x'.c aH):List.take (t*12+j) (aI aH l).flatten++v++List.drop (t*12+j+v.length) (aI aH l).flatten=(aI aH (l.set t x')).flatten:=by
 have:=IM (rows:=aI aH l) (i:=t) (j:=j) (v:=v) l7 (Fm ht) hj
 rw[hx] at this
 unfold aI at*
 simp_all
def dD (x:Th) (cs:List Nat):Nat×Th:=if 16<(mD x.ai cs).ps.length then(9,x) else(0,{x with ai:=mD x.ai cs})
def u9 {α:Type} {l:List α} (h):l.set i l[i]=l:=by
 simp_all
def ah6 (ok:aA P tb) (X:KX h xb a lb N M t ah af rp) (hc: ∀c∈cs,c<65536) (d9:cs.length<2^16):
 ∃h',al P 178 [.ptr xb 0, .vs ((ay .u16).R cs) tl] h (.int .i64 (dD (ah[t]'X.ht) cs).1) h'/\KX h' xb a lb N M t (ah.set t (dD (ah[t]'X.ht) cs).2) af rp/\XF h h' a lb xb:=by
 refine ok.dr agN ?_
 obtain⟨rt,hx⟩:=X.x
 have cx:=aq hx
 obtain⟨ct,hle,iY⟩:=X.th
 have lx:=X.lx
 have lg:t*12+2<=(aI aH ah).flatten.length:=by omega
 have Hu:=X.ai
 have Uy:=(X.tv.ai _ (bw X.ht)).2
 simp+decide only[sv,agN,arA,arz,cx,ct,lg,iY]
 generalize hY:aa.set _ _ _=Y
 have yo:Old h Y:=by rw[<-hY];exact((Old.refl h).at (ak _)).set (ak _)
 have y0:cellsOf Y h.next=some ((ah[t]'X.ht).ai.c .au):=by rw[<-hY];exact aq (by simp[aa.set];rfl)
 have yn:Y.next=h.next+1:=by rw[<-hY];simp[aa.at,aa.set]
 simp+decide only[sv,ary,aF.aD]
 let I:Nat->Env->aa->Prop:=fun n ρ H=> ∃i,cs.length=i+n/\Old h H/\h.next<H.next/\cellsOf H h.next=some ((mD (ah[t]'X.ht).ai (cs.take i)).c .au)/\ρ 0= .ptr xb 0/\ρ 5= .ptr h.next 0/\ρ 15= .vs ((ay .u16).R cs) tl/\ρ 16= .int .i64 cs.length/\ρ 17= .int .i64 i
 refine dv I ?_ cs.length ⟨0,by omega,yo,by omega,y0,rfl,rfl,rfl,rfl,rfl⟩
 rintro n ρ H ⟨i,aN,ho,hhn,hcell,r0,r5,fZ,jY,oR⟩
 by_cases hi:i<cs.length
 ·have av:(i:Int)<(cs.length:Int):=by omega
  have hw:=dj (show i<2^61 by omega)
  have g1:((ay .u16).R cs)[i]? =some [.int .u16 cs[i]]:=(ay .u16).cj hi
  have bO:=NX (cs:=cs.take i) Hu (by grind) (fun c h=>hc c (uk h))
  simp only[Lb.c] at hcell
  simp+decide only[sv,P4,arx,arw,r5,fZ,jY,oR,av,g1,hcell]
  refine ao (aJs (l:=mD (ah[t]'X.ht).ai (cs.take i)) (t:= .au) (c:=cs[i]) (gB:=0) ok bO.1 (hc _ (bw hi)) (by omega)) ?_
  simp+decide only[sv,arv,r5,oR,hw,hcell,Lb.c]
  refine⟨n-1,by omega,i+1,by omega,ho.set (ak _),by simp only[aa.set];omega,aq ?_,r0,r5,fZ,jY,rfl⟩
  rw[<-lM hi]
  unfold mD
  rw[List.foldl_append]
  simp[aa.set];rfl
 ·have av: ¬(i:Int)<(cs.length:Int):=by omega
  rw[bX (by omega)] at hcell
  have bO:=NX (cs:=cs) Hu (by omega) hc
  have XH:=X.old ho
  obtain⟨Ud,qX⟩:=XH.x
  have tO:=aq qX
  unfold dD
  generalize hL:mD (ah[t]'X.ht).ai cs=L at*
  simp only[Lb.c] at hcell
  by_cases MW:16<L.ps.length
  ·have D3:(16:Int)<(L.ps.length:Int):=by omega
   rw[ax MW]
   simp+decide only[sv,P4,aaE,aru,r5,jY,oR,av,hcell,aB.aD,D3]
   refine⟨rfl,?_,XF.old ho⟩
   simp_all
  ·have D3: ¬(16:Int)<(L.ps.length:Int):=by omega
   rw[aj MW]
   have CR:cellsOf H a.tb=some (aI aH ah).flatten:=aq XH.k.aU
   have lx2:=XH.lx
   have lt2:=XH.k.l2
   simp+decide only[sv,P4,aaE,r5,jY,oR,av,hcell,aB.aD,D3]
   refine bq 8 rfl rfl ?_
   simp+decide only[sv,art,r0,r5,tO,CR,hcell,hhn,lx2,lt2]
   have iF:=pt (l:=ah) X.ht (j:=0) (v:=[.int .u8 L.d, .vs (aB.R L.ps) .au]) (x':={ah[t]'X.ht with ai:=L}) (by simp) rfl
   have hlen:t*12+2<=(aI aH ah).flatten.length:=by omega
   rw[show List.take (t*12) (aI aH ah).flatten++[AV.int IntKind.u8 ↑L.d,AV.vs (aB.R L.ps) aL.au]++List.drop (t*12+(1+1)) (aI aH ah).flatten=_ from iF]
   simp+decide only[sv,alB,hlen]
   have XC:=XH.old ((Old.refl H).clean (n:=8))
   refine⟨(jx lt2).2 (ba (ak _)),rfl,XC.lO (x:={ah[t]'X.ht with ai:=L}) ⟨bO.1,by grind⟩,?_⟩
   refine⟨by simp only[aa.set,aa.clean];omega,fun b hb h1 h2 h3 h4=>?_⟩
   simp only[aa.set,aa.clean]
   have wT:=ho.next
   rw[aj (fun e=>h1 (.inr e)),ax (by omega)]
   exact ho.get b hb
structure Cl where
 op:Int
 kind:Int
 id:Nat
 to:Nat
 off:Int
 n:Int
 ai:Lb
 st:St
 data:List UInt8
 bf:List Nat
def Cl.c (c:Cl) (t:Nat->aL):List AV:=[.int .i64 c.op, .int .i64 c.kind, .int .u64 c.id, .int .u64 c.to, .int .i64 c.off, .int .i64 c.n, .int .u8 c.ai.d, .vs (aB.R c.ai.ps) (t 0), .vs ((ay .u16).R c.st.s) (t 1), .vs ((ay .u16).R c.st.i) (t 2), .vs ((ay .u16).R c.st.o) (t 3), .vs (BS c.data) (t 4), .vs ((ay .u16).R c.bf) (t 5)]
structure ik (c:Cl):Prop where
 ai:c.ai.ok
 GM:c.ai.ps.length<=16
 id:c.id<2^64
 to:c.to<2^64
 data:c.data.length<2^20
 bf:c.bf.length<2^16
 cat: ∀x∈c.bf,x<65536
def xm {c:Cl} {t:Nat->aL}:AV.a8 (c.c t)=c.c aC:=by
 simp only[Cl.c,AV.a8,AV.strip,aB.dJ,iz,(ay .u16).dJ,aC]
def amP {c:Cl} {t:Nat->aL}:(AV.agg (c.c t)).strip= .agg (c.c aC):=by simp only[AV.strip,xm]
theorem ed {c:Cl}:c.c aC=[.int .i64 c.op, .int .i64 c.kind, .int .u64 c.id, .int .u64 c.to, .int .i64 c.off, .int .i64 c.n, .int .u8 c.ai.d, .vs (aB.R c.ai.ps) .au, .vs ((ay .u16).R c.st.s) .au, .vs ((ay .u16).R c.st.i) .au, .vs ((ay .u16).R c.st.o) .au, .vs (BS c.data) .au, .vs ((ay .u16).R c.bf) .au]:=rfl
theorem aMV (ok:aA P tb) {g:Nat} {l:List Nat} {t:aL} (hl:l.length<2^30) (hg:dV P g=true) (hq: ∀p∈l,al P g (.int .u16 p::iG) h (.bool (q p)) h):
 al P 261 [.vs ((ay .u16).R l) t, .fn g [] iG] h (.int .i64 (iU q l)) h:=by
 refine ok.gO af7 ?_
 simp+decide only[sv,af7,aop,aoo,aF.aD]
 let I:Nat->Env->aa->Prop:=fun n ρ h'=>h'=h/\ ∃i:Nat,l.length=i+n/\(∀j,j<i-> ∀hj:j<l.length,q l[j]=false)/\ρ 0= .vs ((ay .u16).R l) t/\ρ 1= .fn g [] iG/\ρ 7= .int .i64 l.length/\ρ 8= .int .i64 i
 refine dv I ?_ l.length ⟨rfl,0,by omega,by omega,rfl,rfl,rfl,rfl⟩
 rintro n ρ h' ⟨rfl,i,aN,hf,r0,r1,r7,r8⟩
 by_cases hi:i<l.length
 ·have av:(i:Int)<(l.length:Int):=by omega
  have aK:(0:Int)<=i:=by omega
  have hw:=dj (show i<2^61 by omega)
  have du:((ay .u16).R l)[i]? =some [.int .u16 l[i]]:=(ay .u16).cj hi
  simp+decide only[sv,YB,YA,Yz,Yy,Yx,Yw,r0,r1,r7,r8,av,aK,du]
  refine vm hg (hq l[i] (bw hi)) ?_
  by_cases wR:q l[i]=true
  ·simp+decide only[sv,wR,C4 hi hf wR]
  ·have Eu:q l[i]=false:=by grind
   simp+decide only[sv,Eu,r8,hw]
   refine⟨n-1,by omega,rfl,i+1,by omega,fun j hj iu=>?_,r0,r1,r7,rfl⟩
   grind
 ·have av: ¬(i:Int)<(l.length:Int):=by omega
  have il:=Fq (q:=q) (l:=l) (fun j _ hj=>hf j (by omega) hj)
  simp+decide only[sv,YB,YA,Yz,Yy,Yx,Yw,r7,r8,av,il]
  try rfl
def x9 (l:Lb) (cs:List Nat):Bool:=cs.all fun c=>fx l c==0
def aGv (ok:aA P tb) (X:KX h xb a lb N M t ah af rp) (d9:cs.length<2^16):al P 225 [.ptr xb 0, .vs ((ay .u16).R cs) tl] h (.bool (x9 (ah[t]'X.ht).ai cs)) h:=by
 refine ok.bA TL ?_
 simp+decide only[sv,TL,apr,apq]
 generalize hY:aa.at _ _ _=Y
 have yo:Old h Y:=by rw[<-hY];exact(Old.refl h).at (ak _)
 have y0:cellsOf Y h.next=some [.ptr xb 0]:=by rw[<-hY];exact aq (by simp[aa.at])
 have hc:al P 248 [.vs ((ay .u16).R cs) tl, .fn 249 [] [.ptr h.next 0]] Y (.bool (cs.any fun c=>!(fx (ah[t]'X.ht).ai c==0))) Y:=by
  refine ok.gO agf ?_
  simp+decide only[sv,agf,aoN,aoM]
  refine ao (aMV ok (by omega) (ok.dV _ rfl) (q:=fun c=>!(fx (ah[t]'X.ht).ai c==0)) (fun p hp=>?_)) ?_
  ·refine ok.gO age ?_
   have XY:=X.old yo
   obtain⟨rt,hx⟩:=XY.x
   have cx:=aq hx
   obtain⟨ct,hle,iY⟩:=XY.th
   have lg:t*12+2<=(aI aH ah).flatten.length:=by omega
   simp+decide only[sv,age,aoL,YM,y0,cx,ct,lg,iY]
   refine ao (akO (l:=(ah[t]'X.ht).ai) (t:= .au) ok (by have:=(X.tv.ai _ (bw X.ht)).2;omega)) ?_
   simp+decide only[sv,YM]
   by_cases hz:fx (ah[t]'X.ht).ai p=0<;>simp[hz]
  ·simp+decide only[sv,WG]
 refine ao hc ?_
 simp+decide only[sv,TL]
 have e:x9 (ah[t]'X.ht).ai cs=!(cs.any fun c=>!(fx (ah[t]'X.ht).ai c==0)):=by
  unfold x9
  grind
 rw[e]
 first|exact yo.get|exact⟨rfl,yo.get⟩
def xp {c:Cl} (hc:al P f [.ptr x 0, .agg (c.c aC)] h r h'):al P f [.ptr x 0, .agg (c.c tl)] h r h':=
 al.au (by simp only[AV.a8,amP];exact hc)
def ny (l:Lb) (c:Cl):Nat:=if c.kind=1/\ ¬(0<=c.n/\c.n<=400) then 1 else if c.kind=2/\64<c.data.length then 12 else if c.kind=3/\x9 l c.bf=false then 5 else 0
def aGx (ok:aA P tb) (X:KX h xb a lb N M t ah af rp) {c:Cl} (k:ik c):al P 183 [.ptr xb 0, .agg (c.c tl)] h (.int .i64 (ny (ah[t]'X.ht).ai c)) h:=by
 refine xp ?_
 refine ok.bA agJ ?_
 have yL:=k.bf
 simp+decide only[sv,agJ,aq2,ed]
 generalize hY:aa.at _ _ _=Y
 have yo:Old h Y:=by rw[<-hY];exact(Old.refl h).at (ak _)
 have y0:cellsOf Y h.next=some (c.c aC):=by rw[<-hY];exact aq (by simp[aa.at];rfl)
 simp only[ed] at y0
 have XY:=X.old yo
 obtain⟨V,hV⟩: ∃V,V=ny (ah[t]'X.ht).ai c:=⟨_,rfl⟩
 rw[<-hV]
 unfold ny at hV
 by_cases h1:c.kind=1
 ·have h2: ¬c.kind=2:=by omega
  have h3: ¬c.kind=3:=by omega
  have e1:(c.kind=1)=True:=bW h1
  have e2:(c.kind=2)=False:=bk h2
  have e3:(c.kind=3)=False:=bk h3
  simp+decide only[sv,Gb,y0,e1]
  refine ao (OH ok) ?_
  by_cases hn:0<=c.n/\c.n<=400
  ·have e:(decide (0<=c.n)&&decide (c.n<=400))=true:=by simpa using hn
   rw[aj (fun hh=>hh.2 hn),aj (fun hh=>h2 hh.1),aj (fun hh=>h3 hh.1)] at hV
   subst hV
   rw[e]
   simp+decide only[sv,Ga,JA,Jz,y0,e2,e3]
   first|exact yo.get|exact⟨rfl,yo.get⟩
  ·have e:(decide (0<=c.n)&&decide (c.n<=400))=false:=by grind
   rw[ax ⟨h1,hn⟩] at hV
   subst hV
   rw[e]
   simp+decide only[sv,aq1]
   first|exact yo.get|exact⟨rfl,yo.get⟩
 rw[aj (fun hh=>h1 hh.1)] at hV
 have e1:(c.kind=1)=False:=bk h1
 by_cases h2:c.kind=2
 ·have h3: ¬c.kind=3:=by omega
  have e2:(c.kind=2)=True:=bW h2
  have e3:(c.kind=3)=False:=bk h3
  by_cases hn:64<c.data.length
  ·have cV:(64:Int)<(c.data.length:Int):=by omega
   rw[ax ⟨h2,hn⟩] at hV
   subst hV
   simp+decide only[sv,Gb,Ga,aq0,y0,e1,e2,aY,cV]
   first|exact yo.get|exact⟨rfl,yo.get⟩
  ·have cV: ¬(64:Int)<(c.data.length:Int):=by omega
   rw[aj (fun hh=>hn hh.2),aj (fun hh=>h3 hh.1)] at hV
   subst hV
   simp+decide only[sv,Gb,Ga,JA,Jz,y0,e1,e2,e3,aY,cV]
   first|exact yo.get|exact⟨rfl,yo.get⟩
 rw[aj (fun hh=>h2 hh.1)] at hV
 have e2:(c.kind=2)=False:=bk h2
 by_cases h3:c.kind=3
 ·have e3:(c.kind=3)=True:=bW h3
  simp+decide only[sv,Gb,Ga,JA,y0,e1,e2,e3]
  refine ao (aGv ok XY yL) ?_
  cases ho:x9 (ah[t]'X.ht).ai c.bf with
  |false=>
   rw[ax ⟨h3,ho⟩] at hV
   subst hV
   simp+decide only[sv,aqZ]
   first|exact yo.get|exact⟨rfl,yo.get⟩
  |true=>
   rw[aj (by simp[ho])] at hV
   subst hV
   simp+decide only[sv,Jz]
   first|exact yo.get|exact⟨rfl,yo.get⟩
 ·have e3:(c.kind=3)=False:=bk h3
  rw[aj (fun hh=>h3 hh.1)] at hV
  subst hV
  simp+decide only[sv,Gb,Ga,JA,Jz,y0,e1,e2,e3]
  first|exact yo.get|exact⟨rfl,yo.get⟩
def amo {n:Nat} (h:n<65536):IntKind.wrap .u16 (n:Int)=n:=by
 simp only[IntKind.wrap,IntKind.signed,IntKind.bits]
 simp;omega
def KX.yp (X:KX h xb a lb N M t ah af rp):KX (h.set xb (some (.cells [.ptr a.kb 0, .ptr a.tb (t*12), .int .i64 t, .int .i64 cT.Fv, .int .i64 cT.err, .int .u64 cT.ret, .vs (BS cT.data) tl]))) xb a lb N M t ah af cT:=by
 refine⟨X.k.more (h':=h.set xb _) (ak _) (fun b hb hf=>?_) (ak _) (ak _),⟨tl,by simp[aa.set]⟩,X.lx,X.dK,X.dA,X.dS,X.ht,X.tv,X.root⟩
 simp only[aa.set]
 rw[aj]
 intro e;subst e
 rcases hf with hf|hf|hf
 ·exact X.dK hf
 ·exact X.dA hf
 ·exact X.dS hf
def XF.ym {b:Option lB} (x:XF h h' a lb xb):XF h (h'.set xb b) a lb xb:=⟨x.1,fun c hc h1 h2 h3 h4=>by simp only[aa.set];rw[aj h4];exact x.2 c hc h1 h2 h3 h4⟩
def XF.lO {b:Option lB} (x:XF h h' a lb xb):XF h (h'.set a.tb b) a lb xb:=⟨x.1,fun c hc h1 h2 h3 h4=>by simp only[aa.set];rw[aj (fun e=>h1 (.inr e))];exact x.2 c hc h1 h2 h3 h4⟩
def KX.Lr (X:KX h xb a lb N M t ah af rp):cellsOf h a.tb=some (aI aH ah).flatten/\t*12+12<=(aI aH ah).flatten.length/\ ∀j,j<12->(aI aH ah).flatten[t*12+j]? =((ah[t]'X.ht).c aH)[j]?:=⟨X.th.1,X.th.2.1,fun j hj=>X.k.row X.ht hj⟩
def iH (h:aa) (xb:Nat) (a:KA) (lb N M t:Nat) (ah:List Th) (af:List Ob) (rp:Rp) (h':aa):Prop:= ∃aW N' M',KX h' xb a aW N' M' t ah af rp/\XF h h' a lb xb/\(aW=lb\/h.next<=aW)/\N'<=N+2/\M'<=M+1
def KX.fin (X:KX h xb a lb N M t ah af rp) (o:Old h h'):iH h xb a lb N M t ah af rp h':=⟨lb,N,M,X.old o, .old o, .inl rfl,by omega,by omega⟩
def mO (t:Nat) (x:Th):Nat×Nat×Th:=if 15<=x.own then(9,0,x) else if(dD x [1000+16*t+x.own.toNat+1]).1≠0 then((dD x [1000+16*t+x.own.toNat+1]).1,0,x) else(0,1000+16*t+x.own.toNat+1,{(dD x [1000+16*t+x.own.toNat+1]).2 with own:=x.own+1})
def aHF (ok:aA P tb) (X:KX h xb a lb N M t ah af rp) (ho:0<=(ah[t]'X.ht).own):
 ∃h',al P 142 [.ptr xb 0] h (.int .i64 (mO t (ah[t]'X.ht)).1) h'/\iH h xb a lb N M t (ah.set t (mO t (ah[t]'X.ht)).2.2) af (if(mO t (ah[t]'X.ht)).1=0 then{rp with ret:=(mO t (ah[t]'X.ht)).2.1} else rp) h':=by
 refine ok.dr ahe ?_
 obtain⟨rt,hx⟩:=X.x
 have cx:=aq hx
 obtain⟨ct,hle,cS⟩:=X.Lr
 have lx:=X.lx
 have l2:=X.k.l2
 have ht4:=X.tv.len
 have UP:=X.ht
 have r5:=cS 5 (by omega)
 have e5:((ah[t]'X.ht).c aH)[5]? =some (.int .i64 (ah[t]'X.ht).own):=rfl
 rw[e5] at r5
 obtain⟨V,hV⟩: ∃V,V=mO t (ah[t]'X.ht):=⟨_,rfl⟩
 rw[<-hV]
 unfold mO at hV
 simp+decide only[sv,ahe,aus,aur,cx,ct,r5]
 by_cases A5:15<=(ah[t]'X.ht).own
 ·rw[ax A5] at hV
  subst hV
  simp+decide only[sv,abx,A5,pq]
  refine⟨rfl,?_⟩
  rw[u9]
  exact X.fin (Old.refl h)
 rw[aj A5] at hV
 have w1:IntKind.wrap .i64 ((16:Int)*(t:Int))=16*t:=bj (by omega) (by omega)
 have w2:IntKind.wrap .i64 ((1000:Int)+16*(t:Int))=1000+16*t:=bj (by omega) (by omega)
 have w3:IntKind.wrap .i64 ((1000:Int)+16*(t:Int)+(ah[t]'X.ht).own)=1000+16*t+(ah[t]'X.ht).own:=bj (by omega) (by omega)
 have w4:IntKind.wrap .i64 ((1000:Int)+16*(t:Int)+(ah[t]'X.ht).own+1)=1000+16*t+(ah[t]'X.ht).own+1:=bj (by omega) (by omega)
 have w5:IntKind.wrap .u16 ((1000:Int)+16*(t:Int)+(ah[t]'X.ht).own+1)=((1000+16*t+(ah[t]'X.ht).own.toNat+1:Nat):Int):=by
  have e:(1000:Int)+16*(t:Int)+(ah[t]'X.ht).own+1=((1000+16*t+(ah[t]'X.ht).own.toNat+1:Nat):Int):=by omega
  rw[e];exact amo (by omega)
 simp+decide only[sv,abx,A5]
 refine bq 17 rfl rfl ?_
 simp+decide only[sv,auq,cx,ct,r5,lx,l2,w1,w2,w3,w4,w5]
 generalize oe:1000+16*t+(ah[t]'X.ht).own.toNat+1=cc at*
 have XC:=X.old ((Old.refl h).clean (n:=17))
 have ji: ∀c∈[cc],c<65536:=fun c hc=>by
  grind
 obtain⟨h1,c1,X1,f1⟩:=ah6 ok XC (cs:=[cc]) (tl:= .full) ji (by simp)
 simp+decide only[sv,aup]
 refine ao c1 ?_
 have wU:dD (ah[t]'X.ht) [cc]=(9,ah[t]'X.ht)\/((dD (ah[t]'X.ht) [cc]).1=0/\(dD (ah[t]'X.ht) [cc]).2.own=(ah[t]'X.ht).own):=by
  unfold dD
  grind
 have Cx:XF h h1 a lb xb:=(XF.old ((Old.refl h).clean (n:=17))).trans f1 (.inl rfl)
 rcases wU with wU|⟨mY,mX⟩
 ·rw[wU] at hV X1
  rw[wU]
  rw[ax (by simp)] at hV
  subst hV
  simp+decide only[sv,abw,auo,pq]
  exact⟨lb,N,M,X1,Cx, .inl rfl,by omega,by omega⟩
 ·rw[mY]
  rw[mY,aj (by simp)] at hV
  subst hV
  obtain⟨Ud,qX⟩:=X1.x
  have tO:=aq qX
  obtain⟨CR,lg,aN1⟩:=X1.Lr
  have q5:=aN1 5 (by omega)
  have e5':(((ah.set t (dD (ah[t]'X.ht) [cc]).2)[t]'X1.ht).c aH)[5]? =some (.int .i64 (ah[t]'X.ht).own):=by
   rw[<-mX];simp[lT]
  rw[e5'] at q5
  have w6:IntKind.wrap .i64 ((ah[t]'X.ht).own+1)=(ah[t]'X.ht).own+1:=bj (by omega) (by omega)
  simp+decide only[sv,abw,aum,tO,CR,q5,w6]
  have iF:=pt (l:=ah.set t (dD (ah[t]'X.ht) [cc]).2) X1.ht (j:=5) (v:=[.int .i64 ((ah[t]'X.ht).own+1)]) (x':={(dD (ah[t]'X.ht) [cc]).2 with own:=(ah[t]'X.ht).own+1}) (by simp) (by simp[lT])
  rw[show List.take (t*12+5) (aI aH (ah.set t (dD (ah[t]'X.ht) [cc]).2)).flatten++[AV.int .i64 ((ah[t]'X.ht).own+1)]++List.drop (t*12+5+1) (aI aH (ah.set t (dD (ah[t]'X.ht) [cc]).2)).flatten=_ from iF]
  have aEk:t*12+5+1<=(aI aH (ah.set t (dD (ah[t]'X.ht) [cc]).2)).flatten.length:=by omega
  have X2:=X1.lO (x:={(dD (ah[t]'X.ht) [cc]).2 with own:=(ah[t]'X.ht).own+1}) (by
   have:=X1.tv.ai _ (bw X1.ht)
   grind)
  rw[rH] at X2 ⊢
  have wc:IntKind.wrap .u64 (cc:Int)=cc:=eo (by omega)
  have Mm: ¬xb=a.tb:=fun e=>X.dK (.inr e)
  simp+decide only[sv,aul,auk,aEk,tO,wc,Mm,pq]
  exact⟨lb,N,M,X2.yp (cT:={rp with ret:=cc}),(Cx.lO).ym, .inl rfl,by omega,by omega⟩
theorem ajy: ∀{ps:List Nat} {o:Ob},o∈af->(gy af l o ps).2=0->(gy af l o ps).1∈af
 |[],o,h,_=>h
 |p::ps,o,h,h0=>by
  unfold gy at h0 ⊢
  split at h0
  ·cases h0
  split at h0
  ·cases h0
  rename_i h1 h2
  rw[aj h1,aj h2]
  cases ho:a9 af p with
  |none=>grind
  |some o'=>rw[ho] at h0;exact ajy (ix ho).1 h0
def Wh {id:Nat} (hr: ∃r,a9 af 1=some r) (h0:(di af l id).2=0):(di af l id).1∈af:=by
 unfold di at h0 ⊢
 cases hm:cP id with
 |false=>rw[Iq hm] at h0;cases h0
 |true=>
  obtain⟨ps,hp⟩:=Ip hm
  obtain⟨r,hr⟩:=hr
  rw[hp] at h0 ⊢
  change(gy af l ((a9 af 1).getD bz) ps).2=0 at h0
  change(gy af l ((a9 af 1).getD bz) ps).1∈af
  rw[hr] at h0 ⊢
  exact ajy (ix hr).1 h0
def oq {id:Nat} (hr: ∃r,a9 af 1=some r) (h0:(bh af l id kind q).2=0):(bh af l id kind q).1∈af/\(bh af l id kind q).1.kind=kind/\bh af l id kind q=((di af l id).1,0):=by
 unfold bh at h0 ⊢
 split at h0
 ·omega
 split at h0
 ·cases h0
 split at h0
 ·cases h0
 rename_i h1 h2 h3
 rw[aj h1,aj h2,aj h3]
 exact⟨Wh hr (Classical.not_not.1 h1),Classical.not_not.1 h2,rfl⟩
def WV {Z:aa} (hk: ∀b,Z.next<=b->b<Z.next+n->h'.get b=(Z.clean n).get b):dY n Z.next i h':=fun j hj hn=>by
 rw[hk _ (by omega) (by omega)]
 simp only[aa.clean]
 grind
def KF.free {Z:aa} (k:KF (Z.clean n) h' a lb) (hl: ∀b,FK a b\/FA a lb b\/FS a b->b<Z.next):dY n Z.next i h':=WV fun b h1 h2=>k.2 b h2 (fun e=>by grind) (fun e=>by grind) (fun e=>by grind)
def KH.eO (K:KH h a lb N M ah af g): ∀b,FK a b\/FA a lb b\/FS a b->b<h.next:=by
 have l1:=K.l1
 have l2:=K.l2
 obtain⟨f,A,_⟩:=K.ar
 have hA:=A.lt
 have hS:=K.sp.lt
 rintro b (e|e|e)
 ·rcases e with e|e<;>omega
 ·rcases e with e|e|e<;>omega
 ·rcases e with e|e|e|e<;>omega
def ou (x:Th) (l:Lb):Nat×Th:=if vC x.ai l≠0 then(vC x.ai l,x) else(0,{x with ai:=l})
def aFF (ok:aA P tb) (X:KX h xb a lb N M t ah af rp) {c:Cl} (k:ik c):
 ∃h',al P 143 [.ptr xb 0, .agg (c.c tl)] h (.int .i64 (ou (ah[t]'X.ht) c.ai).1) h'/\iH h xb a lb N M t (ah.set t (ou (ah[t]'X.ht) c.ai).2) af rp h':=by
 suffices hu: ∃h',al P 143 [.ptr xb 0, .agg (c.c aC)] h (.int .i64 (ou (ah[t]'X.ht) c.ai).1) h'/\iH h xb a lb N M t (ah.set t (ou (ah[t]'X.ht) c.ai).2) af rp h' by
  obtain⟨h',c1,hq⟩:=hu
  exact⟨h',xp c1,hq⟩
 refine ok.dr ahd ?_
 simp+decide only[sv,ahd,auj,ed]
 generalize hY:aa.at _ _ _=Y
 have oY:Old h Y:=by rw[<-hY];exact(Old.refl h).at (ak _)
 have cY:cellsOf Y h.next=some (c.c aC):=by rw[<-hY];exact aq (by simp[aa.at];try rfl)
 have nY:Y.next=h.next+1:=by rw[<-hY];simp[aa.at]
 simp only[ed] at cY
 have XY:=X.old oY
 obtain⟨rt,hx⟩:=XY.x
 have cx:=aq hx
 obtain⟨ct,hle,iY⟩:=XY.th
 have lx:=XY.lx
 have l2:=XY.k.l2
 have hny:h.next<Y.next:=by omega
 have lg:t*12+2<=(aI aH ah).flatten.length:=by omega
 refine bq 11 rfl rfl ?_
 simp+decide only[sv,aui,cx,ct,cY,lx,l2,hny,lg,iY]
 refine dX (aGW (a:=(ah[t]'X.ht).ai) (b:=c.ai) (ta:= .au) (fO:= .au) ok X.ai k.ai) (ba (ak _)) ?_
 unfold ou
 by_cases hr:vC (ah[t]'X.ht).ai c.ai=0
 ·have UD: ¬(vC (ah[t]'X.ht).ai c.ai≠0):=fun h=>h hr
  rw[hr]
  have XC:=XY.old ((Old.refl Y).clean (n:=11))
  obtain⟨Ud,qX⟩:=XC.x
  have tO:=aq qX
  obtain⟨CR,aEk,aUK⟩:=XC.th
  simp+decide only[sv,abv]
  refine jk 7 10 rfl (by omega) rfl ?_
  have lC:(Y.clean 11).next=Y.next+11:=rfl
  have n1:xb<Y.next+11:=by omega
  have n2:a.tb<Y.next+11:=by omega
  have n3:h.next<Y.next+11:=by omega
  simp+decide only[sv,aug,cx,cY,lx,hny,n1,n3]
  refine dh (NQ ok (l:=c.ai) (t:= .au) (by have:=k.GM;omega)) (ba (ak _)) ?_
  have iF:=pt (l:=ah) X.ht (j:=0) (v:=[.int .u8 c.ai.d, .vs (aB.R c.ai.ps) .au]) (x':={ah[t]'X.ht with ai:=c.ai}) (by simp) rfl
  simp+decide only[sv,Lb.c,n2,l2,ct,lg]
  rw[show List.take (t*12) (aI aH ah).flatten++[AV.int IntKind.u8 ↑c.ai.d,AV.vs (aB.R c.ai.ps) aL.au]++List.drop (t*12+(1+1)) (aI aH ah).flatten=_ from iF]
  simp+decide only[sv,auf,pq]
  refine⟨(jx n2).2 (ba (by omega)),lb,N,M,(XC.old ((Old.refl _).clean (n:=10))).lO (x:={ah[t]'X.ht with ai:=c.ai}) ⟨k.ai,k.GM⟩,?_, .inl rfl,by omega,by omega⟩
  exact(XF.old ((oY.trans ((Old.refl Y).clean)).trans ((Old.refl _).clean))).lO
 ·have UD:((vC (ah[t]'X.ht).ai c.ai:Int)=0)=False:=bk (by omega)
  rw[ax hr]
  simp+decide only[sv,abv,auh,UD,pq]
  rw[u9]
  exact X.fin (oY.trans ((Old.refl Y).clean))
def lJ (l:Lb) (af:List Ob) (c:Cl):Nat×List UInt8:=if(bh af l c.id 2 (eI l)).2≠0 then((bh af l c.id 2 (eI l)).2,[]) else if 0<=c.off/\0<=c.n/\c.off+c.n<=(bh af l c.id 2 (eI l)).1.data.length then(0,((bh af l c.id 2 (eI l)).1.data.drop c.off.toNat).take c.n.toNat) else(11,[])
def WH (k:KS af) (ho:o∈af) (h2:o.kind=2):ff af o.id=some o.data:=by
 unfold ff
 rw[lE k.aQ ho]
 simp[h2]
def aGu (ok:aA P tb) (X:KX h xb a lb N M t ah af rp) {c:Cl} (k:ik c):
 ∃h' cT,al P 145 [.ptr xb 0, .agg (c.c tl)] h (.int .i64 (lJ (ah[t]'X.ht).ai af c).1) h'/\iH h xb a lb N M t ah af cT h'/\((lJ (ah[t]'X.ht).ai af c).1=0->cT={rp with data:=(lJ (ah[t]'X.ht).ai af c).2}):=by
 obtain⟨V,hV⟩: ∃V,V=lJ (ah[t]'X.ht).ai af c:=⟨_,rfl⟩
 suffices hu: ∃h',al P 145 [.ptr xb 0, .agg (c.c aC)] h (.int .i64 V.1) h'/\ ∃cT,iH h xb a lb N M t ah af cT h'/\(V.1=0->cT={rp with data:=V.2}) by
  obtain⟨h',c1,cT,hq⟩:=hu
  rw[<-hV]
  exact⟨h',cT,xp c1,hq⟩
 unfold lJ at hV
 refine ok.dr ahb ?_
 simp+decide only[sv,ahb,at8,ed]
 generalize hY:aa.at _ _ _=Y
 have oY:Old h Y:=by rw[<-hY];exact(Old.refl h).at (ak _)
 have cY:cellsOf Y h.next=some (c.c aC):=by rw[<-hY];exact aq (by simp[aa.at];try rfl)
 have nY:Y.next=h.next+1:=by rw[<-hY];simp[aa.at]
 simp only[ed] at cY
 have XY:=X.old oY
 simp+decide only[sv,at7,cY]
 refine ao (Bg ok XY k.id (ok.dV _ rfl) (q:=eI (ah[t]'X.ht).ai) (fun o h' hl o'=>Kg ok (XY.old o') (tl:=aC) hl)) ?_
 have eD:=oq (l:=(ah[t]'X.ht).ai) (id:=c.id) (kind:=2) (q:=eI (ah[t]'X.ht).ai) X.root
 generalize bh af (ah[t]'X.ht).ai c.id 2 (eI (ah[t]'X.ht).ai)=R at*
 obtain⟨o,e⟩:=R
 simp only at hV eD
 simp+decide only[sv,dT]
 generalize hZ:aa.set _ _ _=Z
 have oZ:Old Y Z:=by rw[<-hZ];exact((Old.refl Y).at (ak _)).set (ak _)
 have cZ:cellsOf Z Y.next=some (o.c aC):=by rw[<-hZ];exact aq (by simp[aa.set];try rfl)
 have nZ:Z.next=Y.next+1:=by rw[<-hZ];simp[aa.at,aa.set]
 have sr:cellsOf Z h.next=_:=(show cellsOf Z h.next=cellsOf Y h.next by unfold cellsOf;rw[oZ.get _ (by omega)]).trans cY
 simp only[dT] at cZ
 by_cases he:e=0
 ·subst he
  rw[aj (fun h=>h rfl)] at hV
  obtain⟨eC,bO,_⟩:=eD rfl
  have XZ:=XY.old oZ
  have uI:=WH XZ.k.ks eC bO
  obtain⟨rt,hx⟩:=XZ.x
  have cx:=aq hx
  have ck:=aq XZ.k.top
  have lx:=XZ.lx
  have lk:=XZ.k.l1
  have l0:h.next<Z.next:=by omega
  have l1:h.next+1<Z.next:=by omega
  simp+decide only[sv,abq]
  refine bq 23 rfl rfl ?_
  have XC:=XZ.old ((Old.refl Z).clean (n:=23))
  rw[nY] at cZ
  simp+decide only[sv,at5,cx,ck,cZ,sr,lx,lk,l0,l1,nY]
  have lC:(Z.clean 23).next=Z.next+23:=rfl
  have n1:xb<Z.next+23:=by omega
  have hold:Old h (Z.clean 23):=(oY.trans oZ).trans ((Old.refl Z).clean)
  have fr: ∀(cs:List AV) (i:Nat),dY 23 Z.next i ((Z.clean 23).set xb (some (.cells cs))):=fun cs i=>(jx lx).2 (ba (ak _))
  by_cases aN:0<=c.off/\0<=c.n/\c.off+c.n<=o.data.length
  ·rw[ax aN] at hV
   subst hV
   obtain⟨off,LM⟩:=uD aN.1
   obtain⟨n,hn⟩:=uD aN.2.1
   have pc:=XC.k.sp.read ok (id:=o.id) (off:=off) (n:=n) uI (by omega)
   rw[<-LM,<-hn] at pc
   refine dX pc (ba (ak _)) ?_
   simp+decide only[sv,abp,cx,lx]
   refine⟨fr _ _,rfl,{rp with data:=(o.data.drop off).take n},⟨lb,N,M,XC.yp (cT:={rp with data:=(o.data.drop off).take n}),(XF.old hold).ym, .inl rfl,by omega,by omega⟩,?_⟩
   grind
  ·rw[aj aN] at hV
   subst hV
   have pc:=XC.k.sp.aLg ok (id:=o.id) (off:=c.off) (n:=c.n) uI (by omega)
   refine dX pc (ba (ak _)) ?_
   simp+decide only[sv,abp,cx,lx]
   exact⟨fr _ _,rfl,{rp with data:=[]},lb,N,M,XC.yp (cT:={rp with data:=[]}),(XF.old hold).ym, .inl rfl,by omega,by omega⟩
 ·rw[ax he] at hV
  subst hV
  have bP:((e:Int)=0)=False:=bk (by omega)
  simp+decide only[sv,abq,at6,bP,pq]
  exact⟨rp,X.fin (oY.trans oZ),fun h=>absurd h he⟩
def tC (af:List Ob) (o:Ob) (d:List UInt8):List Ob:=bC af {o with data:=d}
def KX.wr (X:KX h xb a lb N M t ah af rp) (ho:o∈af) (h2:o.kind=2) (hd:d.length=o.data.length) (s:EN h h' a.bl a.bp) (S:SG h' a.bs a.bm a.bl a.bp M (lQ (ff af) o.id (some d))):KX h' xb a lb N M t ah (tC af o d) rp:=by
 have v:=X.k.ks.val o ho
 have vd:=v.data hd
 have K1:=X.k.RH s S
 have hfo: ∀id,a9 (tC af o d) id=if id=o.id then some {o with data:=d} else a9 af id:=fun id=>tS X.k.ks.aQ
 obtain⟨f,A,R⟩:=K1.ar
 obtain⟨tl,hx⟩:=X.x
 refine⟨⟨K1.top,K1.aU,⟨f,A,fun id=>?_⟩,K1.sp.fn fun id=>?_,K1.l1,K1.l2,K1.H8,K1.qv,K1.qu,K1.tN,K1.ks.put vd⟩,⟨tl,by rw[s.2 _ X.lx (fun e=>X.dS (.inr (.inr (.inl e)))) (fun e=>X.dS (.inr (.inr (.inr e)))),hx]⟩,bJ X.lx s.1,X.dK,X.dA,X.dS,X.ht,X.tv,?_⟩
 ·rw[hfo]
  by_cases e:id=o.id
  ·rw[ax e]
   have:=R o.id
   rw[lE X.k.ks.aQ ho] at this
   grind
  ·rw[aj e];exact R id
 ·unfold lQ ff
  grind
 ·obtain⟨r,hr⟩:=X.root
  grind
def iN (l:Lb) (af:List Ob) (c:Cl):Nat×List Ob:=if(bh af l c.id 2 (cM l)).2≠0 then((bh af l c.id 2 (cM l)).2,af) else if 0<=c.off/\c.off+c.data.length<=(bh af l c.id 2 (cM l)).1.data.length then(0,tC af (bh af l c.id 2 (cM l)).1 (my (bh af l c.id 2 (cM l)).1.data c.off.toNat c.data)) else(11,af)
def aFE (ok:aA P tb) (X:KX h xb a lb N M t ah af rp) {c:Cl} (k:ik c):
 ∃h',al P 146 [.ptr xb 0, .agg (c.c tl)] h (.int .i64 (iN (ah[t]'X.ht).ai af c).1) h'/\iH h xb a lb N M t ah (iN (ah[t]'X.ht).ai af c).2 rp h':=by
 obtain⟨V,hV⟩: ∃V,V=iN (ah[t]'X.ht).ai af c:=⟨_,rfl⟩
 rw[<-hV]
 suffices hu: ∃h',al P 146 [.ptr xb 0, .agg (c.c aC)] h (.int .i64 V.1) h'/\iH h xb a lb N M t ah V.2 rp h' by
  obtain⟨h',c1,hq⟩:=hu
  exact⟨h',xp c1,hq⟩
 unfold iN at hV
 refine ok.dr Mc ?_
 simp+decide only[sv,Mc,at4,ed]
 generalize hY:aa.at _ _ _=Y
 have oY:Old h Y:=by rw[<-hY];exact(Old.refl h).at (ak _)
 have cY:cellsOf Y h.next=some (c.c aC):=by rw[<-hY];exact aq (by simp[aa.at];try rfl)
 have nY:Y.next=h.next+1:=by rw[<-hY];simp[aa.at]
 simp only[ed] at cY
 have XY:=X.old oY
 simp+decide only[sv,at3,cY]
 refine ao (Bg ok XY k.id (ok.dV _ rfl) (q:=cM (ah[t]'X.ht).ai) (fun o h' hl o'=>Xx ok (XY.old o') (tl:=aC) hl)) ?_
 have eD:=oq (l:=(ah[t]'X.ht).ai) (id:=c.id) (kind:=2) (q:=cM (ah[t]'X.ht).ai) X.root
 generalize bh af (ah[t]'X.ht).ai c.id 2 (cM (ah[t]'X.ht).ai)=R at*
 obtain⟨o,e⟩:=R
 simp only at hV eD
 simp+decide only[sv,dT]
 generalize hZ:aa.set _ _ _=Z
 have oZ:Old Y Z:=by rw[<-hZ];exact((Old.refl Y).at (ak _)).set (ak _)
 have cZ:cellsOf Z Y.next=some (o.c aC):=by rw[<-hZ];exact aq (by simp[aa.set];try rfl)
 have nZ:Z.next=Y.next+1:=by rw[<-hZ];simp[aa.at,aa.set]
 have sr:cellsOf Z h.next=_:=(show cellsOf Z h.next=cellsOf Y h.next by unfold cellsOf;rw[oZ.get _ (by omega)]).trans cY
 simp only[dT] at cZ
 by_cases he:e=0
 ·subst he
  rw[aj (fun h=>h rfl)] at hV
  obtain⟨eC,bO,_⟩:=eD rfl
  have XZ:=XY.old oZ
  have uI:=WH XZ.k.ks eC bO
  obtain⟨rt,hx⟩:=XZ.x
  have cx:=aq hx
  have ck:=aq XZ.k.top
  have lx:=XZ.lx
  have lk:=XZ.k.l1
  have l0:h.next<Z.next:=by omega
  have l1:h.next+1<Z.next:=by omega
  simp+decide only[sv,abo]
  refine bq 15 rfl rfl ?_
  have XC:=XZ.old ((Old.refl Z).clean (n:=15))
  rw[nY] at cZ
  simp+decide only[sv,at0,cx,ck,cZ,sr,lx,lk,l0,l1,nY]
  have lC:(Z.clean 15).next=Z.next+15:=rfl
  have hold:Old h (Z.clean 15):=(oY.trans oZ).trans ((Old.refl Z).clean)
  by_cases aN:0<=c.off/\c.off+c.data.length<=o.data.length
  ·rw[ax aN] at hV
   subst hV
   obtain⟨off,LM⟩:=uD aN.1
   obtain⟨h1,cN,S1,k1⟩:=XC.k.sp.write ok (id:=o.id) (off:=off) (v:=c.data) (t:= .au) uI (by omega)
   rw[<-LM] at cN
   have ltS:=XZ.k.sp.lt
   refine dX cN (WV fun b gw dB=>k1.2 b (by omega) (by omega) (by omega)) ?_
   simp+decide only[sv,Mc]
   refine⟨rfl,lb,N,M,XC.wr eC bO (by simp[my];omega) k1 ?_,(XF.old hold).trans k1.kf.xf (.inl rfl), .inl rfl,by omega,by omega⟩
   grind
  ·rw[aj aN] at hV
   subst hV
   have pc:=XC.k.sp.aJw ok (id:=o.id) (off:=c.off) (v:=c.data) (t:= .au) uI (by omega)
   refine dX pc (ba (ak _)) ?_
   simp+decide only[sv,Mc]
   exact⟨rfl,X.fin hold⟩
 ·rw[ax he] at hV
  subst hV
  have bP:((e:Int)=0)=False:=bk (by omega)
  simp+decide only[sv,abo,at1,bP]
  exact⟨rfl,X.fin (oY.trans oZ)⟩
def mE (x:Th) (af:List Ob) (c:Cl):Nat×Th:=if(bh af x.ai c.id 3 (eI x.ai)).2≠0 then((bh af x.ai c.id 3 (eI x.ai)).2,x) else dD x (bh af x.ai c.id 3 (eI x.ai)).1.bf
def aFH (ok:aA P tb) (X:KX h xb a lb N M t ah af rp) {c:Cl} (k:ik c):
 ∃h',al P 148 [.ptr xb 0, .agg (c.c tl)] h (.int .i64 (mE (ah[t]'X.ht) af c).1) h'/\iH h xb a lb N M t (ah.set t (mE (ah[t]'X.ht) af c).2) af rp h':=by
 obtain⟨V,hV⟩: ∃V,V=mE (ah[t]'X.ht) af c:=⟨_,rfl⟩
 rw[<-hV]
 suffices hu: ∃h',al P 148 [.ptr xb 0, .agg (c.c aC)] h (.int .i64 V.1) h'/\iH h xb a lb N M t (ah.set t V.2) af rp h' by
  obtain⟨h',c1,hq⟩:=hu
  exact⟨h',xp c1,hq⟩
 unfold mE at hV
 refine ok.dr T3 ?_
 simp+decide only[sv,T3,atQ,ed]
 generalize hY:aa.at _ _ _=Y
 have oY:Old h Y:=by rw[<-hY];exact(Old.refl h).at (ak _)
 have cY:cellsOf Y h.next=some (c.c aC):=by rw[<-hY];exact aq (by simp[aa.at];try rfl)
 have nY:Y.next=h.next+1:=by rw[<-hY];simp[aa.at]
 simp only[ed] at cY
 have XY:=X.old oY
 simp+decide only[sv,atO,cY]
 refine ao (Bg ok XY k.id (ok.dV _ rfl) (q:=eI (ah[t]'X.ht).ai) (fun o h' hl o'=>Kg ok (XY.old o') (tl:=aC) hl)) ?_
 have eD:=oq (l:=(ah[t]'X.ht).ai) (id:=c.id) (kind:=3) (q:=eI (ah[t]'X.ht).ai) X.root
 generalize bh af (ah[t]'X.ht).ai c.id 3 (eI (ah[t]'X.ht).ai)=R at*
 obtain⟨o,e⟩:=R
 simp only at hV eD
 simp+decide only[sv,dT]
 generalize hZ:aa.set _ _ _=Z
 have oZ:Old Y Z:=by rw[<-hZ];exact((Old.refl Y).at (ak _)).set (ak _)
 have cZ:cellsOf Z Y.next=some (o.c aC):=by rw[<-hZ];exact aq (by simp[aa.set];try rfl)
 have nZ:Z.next=Y.next+1:=by rw[<-hZ];simp[aa.at,aa.set]
 simp only[dT] at cZ
 by_cases he:e=0
 ·subst he
  rw[aj (fun h=>h rfl)] at hV
  obtain⟨eC,bO,_⟩:=eD rfl
  have XZ:=XY.old oZ
  have v:=XZ.k.ks.val o eC
  have d9:=Fk (Fa v.may bO)
  obtain⟨h1,cN,X1,f1⟩:=ah6 ok XZ (cs:=o.bf) (tl:= .au) v.ok.cat (by omega)
  simp+decide only[sv,abl,atM,cZ]
  rw[<-hV] at cN X1
  refine ao cN ?_
  simp+decide only[sv,T3]
  exact⟨rfl,lb,N,M,X1,(XF.old (oY.trans oZ)).trans f1 (.inl rfl), .inl rfl,by omega,by omega⟩
 ·rw[ax he] at hV
  subst hV
  have bP:((e:Int)=0)=False:=bk (by omega)
  simp+decide only[sv,abl,atN,bP]
  refine⟨rfl,?_⟩
  show iH h xb a lb N M t (ah.set t (ah[t]'X.ht)) af rp _
  rw[u9]
  exact X.fin (oY.trans oZ)
end
section
open Go
def GN (base:Nat) (W:Nat->Prop):Option Nat->Prop
 |none=>True
 |some b=>b<base/\ ¬W b
def xC (base:Nat) (W:Nat->Prop) (h h':aa):Prop:= ∀b,b<base-> ¬W b->h'.get b=h.get b
def rB (P:Program) (W:Nat->Prop) (un:List (List Nat)) (n base:Nat):List RO->Nat->Env->aa->(Env->aa->Prop)->Prop
 |[],_,ρ,h,K=>K ρ h
 |o::os,i,ρ,h,K=> ∃r h',bS P o (base+i) ρ h r h'/\(o.op.dO=true-> ∀j,i<j->j<n->h'.get (base+j)=none)/\xC base W h h'/\
   (∀q,o.op= .p q->jS un i=true->GN base W (q.key ρ))/\rB P W un n base os (i+1) (put ρ o.dst (kU r)) h' K
theorem ajK: ∀(os:List RO) (i:Nat) (ρ:Env) (h:aa) (done:List (Env×aa×Option AV)),
 done.length=i->az.drop i=os->
 (∀k d,done[k]? =some d->xC base W d.2.1 h/\ ∀ok q v,az[k]? =some ok->ok.op= .p q->jS un k=true->d.2.2=some v->bt q d.1 d.2.1=some v/\GN base W (q.key d.1))->
 rB P W un az.length base os i ρ h K->sU P az un base os i ρ h done K
 |[],i,ρ,h,done,_,_,_,he=>he
 |o::os,i,ρ,h,done,hl,hd,hinv,⟨r,h',hs,hf,hk,rT,he⟩=>by
  have uQ:az[i]? =some o:=by
   have:(az.drop i)[0]? =some o:=by rw[hd];rfl
   grind
  have da: ∀k,k∈un.getD i []->jS un i=true/\jS un k=true:=fun k hk=>by
   constructor
   ·unfold jS
    grind
   ·unfold jS
    have:un.any (fun l=>l.contains k)=true:=by
     rw[List.any_eq_true]
     rw[mr] at hk
     cases hq:un[i]? with
     |none=>grind
     |some l=>rw[hq] at hk;exact⟨l,iC hq,by simpa using hk⟩
    grind
  have hval: ∀q v,o.op= .p q->r=some v->bt q ρ h=some v/\h'=h:=fun q v hq hr=>by
   unfold bS at hs
   split at hs
   ·obtain⟨v',h1,h2⟩:=hs
    rw[hr] at h1;cases h1
    rw[hq] at h2
    exact h2
   ·grind
   grind
  refine⟨r,h',hs,fun k Ev ok d bO gv=>?_,hf,?_⟩
  ·obtain⟨f1,f2⟩:=da k Ev
   obtain⟨hold,tp⟩:=hinv k d gv
   unfold tP
   split
   ·split
    ·rename_i v q hv hq
     obtain⟨h1,h2⟩:=tp ok q v bO hq f2 hv
     rw[<-h1]
     refine(xh q d.1 d.2.1 h' (fun b hb=>?_)).symm
     rw[hb] at h2
     rw[hk b h2.1 h2.2,hold b h2.1 h2.2]
    ·trivial
   ·split
    ·rename_i v q hq
     obtain⟨h1,rfl⟩:=hval q v hq rfl
     have h2:=rT q hq f1
     rw[<-h1]
     refine xh q ρ d.2.1 h' (fun b hb=>?_)
     rw[hb] at h2
     exact(hold b h2.1 h2.2).symm
    ·trivial
  ·refine ajK os (i+1) _ h' _ (by simp[hl]) ?_ ?_ he
   ·rw[<-vV,hd];rfl
   ·intro k d gv
    rw[B8] at gv
    split at gv
    ·obtain⟨g1,g2⟩:=hinv k d gv
     exact⟨fun b hb hw=>by rw[hk b hb hw,g1 b hb hw],g2⟩
    grind
def Om (W) (n) (hn:az.length=n) (he:rB P W un n h.next az 0 ρ (h.clean n) (K .normal)):WP P (.jG az un) K ρ h:=by
 subst hn
 obtain⟨ρ1,h1,he,hk⟩:=E4 (ajK (W:=W) az 0 ρ _ [] rfl rfl (fun k d hd=>by simp at hd) he)
 exact⟨_,_,_, .Hq he,hk⟩
section
variable {P:Program} {W:Nat->Prop} {un:List (List Nat)} {n base i:Nat} {ρ:Env} {h:aa} {K:Env->aa->Prop} {d:Option Nat} {os:List RO}
def d4V (P:Program) (W:Nat->Prop) (un:List (List Nat)) (n base:Nat) (os:List RO) (i:Nat) (d:Option Nat) (ρ:Env) (h:aa) (K:Env->aa->Prop) (o:Option AV):Prop:= ∃v,o=some v/\rB P W un n base os (i+1) (put ρ d v) h K
def d4E (P:Program) (W:Nat->Prop) (un:List (List Nat)) (n base:Nat) (os:List RO) (i:Nat) (d:Option Nat) (ρ:Env) (h:aa) (K:Env->aa->Prop) (o:Option (AV×aa)):Prop:= ∃v h',o=some (v,h')/\dY n base i h'/\xC base W h h'/\rB P W un n base os (i+1) (put ρ d v) h' K
def d4C (P:Program) (W:Nat->Prop) (un:List (List Nat)) (n base:Nat) (os:List RO) (i:Nat) (d:Option Nat) (ρ:Env) (h:aa) (K:Env->aa->Prop) (f:Nat) (zas:List AV):Prop:= ∃v h',al P f zas h v h'/\dY n base i h'/\xC base W h h'/\rB P W un n base os (i+1) (put ρ d v) h' K
theorem aNf:rB P W un n base [] i ρ h K↔K ρ h:=Iff.rfl
def aTQ:rB P W un n base (⟨d,none, .p q⟩::os) i ρ h K↔(jS un i=true->GN base W (q.key ρ))/\d4V P W un n base os i d ρ h K (bt q ρ h):=by
 constructor
 ·rintro⟨r,h',hs,_,_,hk,he⟩
  simp only[bS,dc,kB] at hs
  obtain⟨v,rfl,hv,rfl⟩:=hs
  exact⟨hk q rfl,v,hv,he⟩
 ·rintro⟨hk,v,hv,he⟩
  exact⟨some v,h,⟨v,rfl,hv,rfl⟩,fun hh=>by simp[iw.dO] at hh,fun _ _ _=>rfl,(fun q' hq=>by grind),he⟩
def aTR:rB P W un n base (⟨d,none, .e q⟩::os) i ρ h K↔d4E P W un n base os i d ρ h K (dL q ρ (base+i) h):=by
 constructor
 ·rintro⟨r,h',hs,hf,hk,_,he⟩
  simp only[bS,dc,kB] at hs
  obtain⟨v,rfl,hv⟩:=hs
  exact⟨v,h',hv,hf rfl,hk,he⟩
 ·rintro⟨v,h',hv,hf,hk,he⟩
  exact⟨some v,h',⟨v,rfl,hv⟩,fun _=>hf,hk,(fun q' hq=>by cases hq),he⟩
def aTS:rB P W un n base (⟨d,none, .call f zas⟩::os) i ρ h K↔d4C P W un n base os i d ρ h K f (zas.map (aJ.ev ρ)):=by
 constructor
 ·rintro⟨r,h',hs,hf,hk,_,he⟩
  simp only[bS,dc,kB] at hs
  obtain⟨v,rfl,hv⟩:=hs
  exact⟨v,h',hv,hf rfl,hk,he⟩
 ·rintro⟨v,h',hv,hf,hk,he⟩
  exact⟨some v,h',⟨v,rfl,hv⟩,fun _=>hf,hk,fun q' hq=>(by cases hq),he⟩
def aKM:d4V P W un n base os i d ρ h K (some v)↔rB P W un n base os (i+1) (put ρ d v) h K:=by simp[d4V]
def aKN:d4E P W un n base os i d ρ h K (some (v,h'))↔dY n base i h'/\xC base W h h'/\rB P W un n base os (i+1) (put ρ d v) h' K:=by
 constructor
 ·rintro⟨v',h2,e,a,b,c⟩;grind
 ·rintro⟨a,b,c⟩;exact⟨v,h',rfl,a,b,c⟩
theorem aHA:GN base W none↔True:=Iff.rfl
theorem aHz {b:Nat}:GN base W (some b)↔b<base/\ ¬W b:=Iff.rfl
end
def NH {b:Nat} (hw:W b):xC base W h (h.set b x):=fun c _ hc=>by
 simp only[aa.set]
 grind
def Bh {h:aa} {b:Nat} (hw:W b):xC base W (h.set b x) (h.set b y):=fun c _ hc=>by
 have: ¬c=b:=fun e=>hc (e▸hw)
 simp only[aa.set]
 grind
def sw:=aw @aNf<|aw @aTQ<|aw @aTR<|aw @aTS<|aw @aKM<|aw @aKN<|aw @aHA @aHz
end
section
open Go
variable {P:Program} {h:aa} {a:KA} {lb N M:Nat} {ah:List Th} {af:List Ob} {g:Nat->Option (List UInt8)} {xb t:Nat} {rp:Rp}
def Kf (ok:aA P tb) (X:KX h xb a lb N M t ah af rp) (v:jj o) (hs: ∀o',a9 af o.id=some o'->o'.kind≠2/\o.kind≠2) (hN:N<2^19) (hM:M<128):
 ∃h',al P 65 [.ptr a.kb 0, .agg (o.c tl)] h (.aE []) h'/\ ∃aW,KX h' xb a aW (N+1) (if o.kind=2 then M+1 else M) t ah (bC af o) rp/\(aW=lb\/h.next<=aW)/\KF h h' a lb:=by
 obtain⟨h',c,aW,K,hl,kf⟩:=aff ok X.k (t:=tl) v hs hN hM
 obtain⟨rt,hx⟩:=X.x
 refine⟨h',c,aW,⟨K,⟨rt,by rw[kf.2 _ X.lx X.dK X.dA X.dS,hx]⟩,bJ X.lx kf.1,X.dK,?_,X.dS,X.ht,X.tv,?_⟩,hl,kf⟩
 ·rintro(e|e|e)
  ·exact X.dA (.inl e)
  ·exact X.dA (.inr (.inl e))
  ·rcases hl with h|h
   ·exact X.dA (.inr (.inr (e.trans h)))
   ·have:=X.lx;omega
 ·obtain⟨r,hr⟩:=X.root
  rw[tS X.k.ks.aQ]
  grind
def OV (v:jj o) (h4:o.kind=4) (hr:mN r=true):jj {o with ring:=r}:=by
 have hm:=v.may
 have hn:=v.norm
 have jL:=xj hr
 refine⟨⟨v.ok.ai,v.ok.id,v.ok.bf,by grind,v.ok.cat⟩,?_,?_⟩
 ·have h1: ¬o.kind=1:=by omega
  have h2: ¬o.kind=2:=by omega
  have h3: ¬o.kind=3:=by omega
  unfold eS ko at hm ⊢
  simp only[h4,dP] at hm ⊢
  unfold uF at hm ⊢
  grind
 ·cases o with
  |mk tA kind ai aP used next data bf ring st=>
   unfold mo at hn ⊢
   grind
def aj7 {b:List UInt8} (hr:mN l=true) (h0:(py l b).2=0):py l b=(l++[b],0)/\mN (l++[b])=true:=by
 unfold py at h0 ⊢
 split at h0
 ·cases h0
 split at h0
 ·cases h0
 rename_i h1 h2
 rw[aj h1,aj h2]
 refine⟨rfl,?_⟩
 unfold mN at hr ⊢
 grind
def kH (l:Lb) (af:List Ob) (c:Cl):Nat×List Ob:=if(bh af l c.id 4 (dW l)).2≠0 then((bh af l c.id 4 (dW l)).2,af) else if(py (bh af l c.id 4 (dW l)).1.ring c.data).2≠0 then((py (bh af l c.id 4 (dW l)).1.ring c.data).2,af) else(0,bC af {(bh af l c.id 4 (dW l)).1 with ring:=(py (bh af l c.id 4 (dW l)).1.ring c.data).1})
def aGs (ok:aA P tb) (X:KX h xb a lb N M t ah af rp) {c:Cl} (k:ik c) (hN:N<2^19) (hM:M<128):
 ∃h',al P 149 [.ptr xb 0, .agg (c.c tl)] h (.int .i64 (kH (ah[t]'X.ht).ai af c).1) h'/\iH h xb a lb N M t ah (kH (ah[t]'X.ht).ai af c).2 rp h':=by
 obtain⟨V,hV⟩: ∃V,V=kH (ah[t]'X.ht).ai af c:=⟨_,rfl⟩
 rw[<-hV]
 suffices hu: ∃h',al P 149 [.ptr xb 0, .agg (c.c aC)] h (.int .i64 V.1) h'/\iH h xb a lb N M t ah V.2 rp h' by
  obtain⟨h',c1,hq⟩:=hu
  exact⟨h',xp c1,hq⟩
 unfold kH at hV
 refine ok.dr ag9 ?_
 simp+decide only[sv,ag9,atL,ed]
 generalize hY:aa.at _ _ _=Y
 have oY:Old h Y:=by rw[<-hY];exact(Old.refl h).at (ak _)
 have cY:cellsOf Y h.next=some (c.c aC):=by rw[<-hY];exact aq (by simp[aa.at];try rfl)
 have nY:Y.next=h.next+1:=by rw[<-hY];simp[aa.at]
 simp only[ed] at cY
 have XY:=X.old oY
 simp+decide only[sv,atK,cY]
 refine ao (Bg ok XY k.id (ok.dV _ rfl) (q:=dW (ah[t]'X.ht).ai) (fun o h' hl o'=>RR ok (XY.old o') (tl:=aC) hl)) ?_
 have eD:=oq (l:=(ah[t]'X.ht).ai) (id:=c.id) (kind:=4) (q:=dW (ah[t]'X.ht).ai) X.root
 generalize bh af (ah[t]'X.ht).ai c.id 4 (dW (ah[t]'X.ht).ai)=R at*
 obtain⟨o,e⟩:=R
 simp only at hV eD
 simp+decide only[sv,dT]
 generalize hZ:aa.set _ _ _=Z
 have oZ:Old Y Z:=by rw[<-hZ];exact((Old.refl Y).at (ak _)).set (ak _)
 have cZ:cellsOf Z Y.next=some (o.c aC):=by rw[<-hZ];exact aq (by simp[aa.set];try rfl)
 have nZ:Z.next=Y.next+1:=by rw[<-hZ];simp[aa.at,aa.set]
 have sr:cellsOf Z h.next=_:=(show cellsOf Z h.next=cellsOf Y h.next by unfold cellsOf;rw[oZ.get _ (by omega)]).trans cY
 simp only[dT] at cZ
 rw[nY] at cZ
 have hold:=oY.trans oZ
 have n01: ¬h.next=h.next+1:=by omega
 by_cases he:e=0
 ·subst he
  rw[aj (fun h=>h rfl)] at hV
  obtain⟨eC,bO,_⟩:=eD rfl
  have XZ:=XY.old oZ
  have v:=XZ.k.ks.val o eC
  have rW:=xg v.may bO
  have jL:=xj rW
  have hd:=k.data
  simp+decide only[sv,abk,atI,cZ,sr,nY]
  refine ao (aIb ok (l:=o.ring) (b:=c.data) (t:= .au) (t':= .au) (by omega) (fun b hb=>by grind) (by omega)) ?_
  have hpo:=aj7 (b:=c.data) rW
  generalize hQ:py o.ring c.data=Q at*
  obtain⟨r,e2⟩:=Q
  simp only at hV hpo
  simp+decide only[sv,cZ,xr]
  obtain⟨W,hW⟩: ∃W,W=Z.set (h.next+1) (some (.cells (Ob.c {o with ring:=r} aC))):=⟨_,rfl⟩
  have hW':=hW
  simp only[dT] at hW'
  rw[<-hW']
  have oW:Old h W:=by rw[hW];exact hold.set (by omega)
  have cW:cellsOf W (h.next+1)=some (Ob.c {o with ring:=r} aC):=by rw[hW];exact aq (by simp[aa.set])
  have XW:=X.old oW
  simp only[dT] at cW
  by_cases HY:e2=0
  ·subst HY
   rw[aj (fun h=>h rfl)] at hV
   obtain⟨rX,ME⟩:=hpo rfl
   cases rX
   subst hV
   obtain⟨rt,hx⟩:=XW.x
   have cx:=aq hx
   have lx:=XW.lx
   have lW:h.next+1<W.next:=by rw[hW];simp only[aa.set];omega
   simp+decide only[sv,abj]
   refine bq 6 rfl rfl ?_
   simp+decide only[sv,atG,cx,cW,lx,lW]
   have XC:=XW.old ((Old.refl W).clean (n:=6))
   obtain⟨h1,cN,fQ,X1,ir,lp⟩:=Kf ok XC (o:={o with ring:=o.ring++[c.data]}) (tl:=aC) (OV v bO ME) (fun o' eV=>by
    have AJ:=lE XC.k.ks.aQ eC
    grind) hN hM
   refine dX cN (lp.free XW.k.eO) ?_
   simp+decide only[sv,atF]
   have lC:(W.clean 6).next=W.next+6:=rfl
   have onW:=oW.next
   refine⟨rfl,fQ,N+1,_,X1,(XF.old (oW.trans ((Old.refl W).clean))).trans lp.xf (.inl rfl),?_,by omega,by grind⟩
   omega
  ·rw[ax HY] at hV
   subst hV
   have bP:((e2:Int)=0)=False:=bk (by omega)
   simp+decide only[sv,abj,atH,bP]
   exact⟨rfl,X.fin oW⟩
 ·rw[ax he] at hV
  subst hV
  have bP:((e:Int)=0)=False:=bk (by omega)
  simp+decide only[sv,abk,atJ,bP]
  exact⟨rfl,X.fin hold⟩
def gN (x:Th) (af:List Ob) (c:Cl):Bool×Nat×Th×List Ob×List UInt8:=if(bh af x.ai c.id 4 (dW x.ai)).2≠0 then(true,(bh af x.ai c.id 4 (dW x.ai)).2,x,af,[]) else match(bh af x.ai c.id 4 (dW x.ai)).1.ring with
 |[]=>(false,0,{x with does:=1,id:=c.id},af,[])
 |b::m=>(true,0,x,bC af {(bh af x.ai c.id 4 (dW x.ai)).1 with ring:=m},b)
def ajo {b:List UInt8} {m:List (List UInt8)} (h:mN (b::m)=true):mN m=true:=by
 unfold mN at h ⊢
 grind
def aGt (ok:aA P tb) (X:KX h xb a lb N M t ah af rp) {c:Cl} (k:ik c) (hN:N<2^19) (hM:M<128):
 ∃h' cT,al P 150 [.ptr xb 0, .agg (c.c tl)] h (.aE [.bool (gN (ah[t]'X.ht) af c).1, .int .i64 (gN (ah[t]'X.ht) af c).2.1]) h'/\iH h xb a lb N M t (ah.set t (gN (ah[t]'X.ht) af c).2.2.1) (gN (ah[t]'X.ht) af c).2.2.2.1 cT h'/\((gN (ah[t]'X.ht) af c).1=true->(gN (ah[t]'X.ht) af c).2.1=0->cT={rp with data:=(gN (ah[t]'X.ht) af c).2.2.2.2}):=by
 obtain⟨V,hV⟩: ∃V,V=gN (ah[t]'X.ht) af c:=⟨_,rfl⟩
 rw[<-hV]
 obtain⟨Q,hQ⟩: ∃Q:aa->Prop,∀h',Q h'↔ ∃cT,iH h xb a lb N M t (ah.set t V.2.2.1) V.2.2.2.1 cT h'/\(V.1=true->V.2.1=0->cT={rp with data:=V.2.2.2.2}):=⟨_,fun _=>Iff.rfl⟩
 suffices hu: ∃h',al P 150 [.ptr xb 0, .agg (c.c aC)] h (.aE [.bool V.1, .int .i64 V.2.1]) h'/\Q h' by
  obtain⟨h',c1,hq⟩:=hu
  obtain⟨cT,hq⟩:=(hQ h').1 hq
  exact⟨h',cT,xp c1,hq⟩
 unfold gN at hV
 refine ok.dr ag8 ?_
 simp+decide only[sv,ag8,aty,ed]
 generalize hY:aa.at _ _ _=Y
 have oY:Old h Y:=by rw[<-hY];exact(Old.refl h).at (ak _)
 have cY:cellsOf Y h.next=some (c.c aC):=by rw[<-hY];exact aq (by simp[aa.at];try rfl)
 have nY:Y.next=h.next+1:=by rw[<-hY];simp[aa.at]
 simp only[ed] at cY
 have XY:=X.old oY
 simp+decide only[sv,atx,cY]
 refine ao (Bg ok XY k.id (ok.dV _ rfl) (q:=dW (ah[t]'X.ht).ai) (fun o h' hl o'=>RR ok (XY.old o') (tl:=aC) hl)) ?_
 have eD:=oq (l:=(ah[t]'X.ht).ai) (id:=c.id) (kind:=4) (q:=dW (ah[t]'X.ht).ai) X.root
 generalize bh af (ah[t]'X.ht).ai c.id 4 (dW (ah[t]'X.ht).ai)=R at*
 obtain⟨o,e⟩:=R
 simp only at hV eD
 simp+decide only[sv,dT]
 generalize hZ:aa.set _ _ _=Z
 have oZ:Old Y Z:=by rw[<-hZ];exact((Old.refl Y).at (ak _)).set (ak _)
 have cZ:cellsOf Z Y.next=some (o.c aC):=by rw[<-hZ];exact aq (by simp[aa.set];try rfl)
 have nZ:Z.next=Y.next+1:=by rw[<-hZ];simp[aa.at,aa.set]
 have sr:cellsOf Z h.next=_:=(show cellsOf Z h.next=cellsOf Y h.next by unfold cellsOf;rw[oZ.get _ (by omega)]).trans cY
 simp only[dT] at cZ
 rw[nY] at cZ
 have hold:=oY.trans oZ
 have n01: ¬h.next=h.next+1:=by omega
 by_cases he:e=0
 ·subst he
  rw[aj (fun h=>h rfl)] at hV
  obtain⟨eC,bO,_⟩:=eD rfl
  have XZ:=XY.old oZ
  have v:=XZ.k.ks.val o eC
  have rW:=xg v.may bO
  have jL:=xj rW
  simp+decide only[sv,abh,atv,cZ,nY]
  refine ao (aJt ok (l:=o.ring) (t:= .au) (by omega) (fun b hb=>by grind)) ?_
  cases ac5:o.ring with
  |nil=>
   rw[ac5] at hV
   subst hV
   obtain⟨rt,hx⟩:=XZ.x
   have cx:=aq hx
   obtain⟨ct,hle,cS⟩:=XZ.Lr
   have lx:=XZ.lx
   have l2:=XZ.k.l2
   have nb0: ¬h.next=a.tb:=by have:=X.k.l2;omega
   have nbx: ¬xb=a.tb:=fun e=>X.dK (.inr e)
   have l0:h.next<Z.next:=by omega
   have Es:List.take (t*12+6) (aI aH ah).flatten++[AV.int .i64 1]++List.drop (t*12+6+1) (aI aH ah).flatten=(aI aH (ah.set t {ah[t]'X.ht with does:=1})).flatten:=pt (l:=ah) X.ht (j:=6) (v:=[.int .i64 1]) (x':={ah[t]'X.ht with does:=1}) (by simp) (by simp[lT])
   have Er:List.take (t*12+7) (aI aH (ah.set t {ah[t]'X.ht with does:=1})).flatten++[AV.int .u64 c.id]++List.drop (t*12+7+1) (aI aH (ah.set t {ah[t]'X.ht with does:=1})).flatten=(aI aH (ah.set t {ah[t]'X.ht with does:=1,id:=c.id})).flatten:=by
    have:=pt (l:=ah.set t {ah[t]'X.ht with does:=1}) (t:=t) (by grind) (j:=7) (v:=[.int .u64 c.id]) (x':={ah[t]'X.ht with does:=1,id:=c.id}) (by simp) (by simp[lT])
    simp_all
   have ir:t*12+6+1<=(aI aH ah).flatten.length:=by omega
   have iq:t*12+7+1<=(aI aH (ah.set t {ah[t]'X.ht with does:=1})).flatten.length:=by
    grind
   simp+decide only[sv,abg]
   refine Om (fun b=>b=a.tb) 16 rfl ?_
   simp+decide only[sv,atu,att,sw,cx,ct,sr,lx,l2,l0,nb0,nbx,ir,Es,Er,iq,xr]
   have fz:=fun i=>ba (h:=Z) (n:=16) (m:=16) (base:=Z.next) (i:=i) (ak _)
   have Uy:=XZ.tv.ai _ (bw XZ.ht)
   refine⟨(jx l2).2 (fz _),NH rfl,?_⟩
   refine⟨(jx l2).2 (fz _),Bh rfl,rfl,(hQ _).2 ⟨rp,⟨lb,N,M,(XZ.old ((Old.refl Z).clean (n:=16))).lO (x:={ah[t]'X.ht with does:=1,id:=c.id}) Uy,(XF.old (hold.trans ((Old.refl Z).clean))).lO, .inl rfl,by omega,by omega⟩,fun h=>by cases h⟩⟩
  |cons b m=>
   rw[ac5] at hV
   subst hV
   rw[ac5] at rW
   have aS4:=ajo rW
   simp+decide only[sv,abg,ats,cZ,xr]
   obtain⟨W,hW⟩: ∃W,W=Z.set (h.next+1) (some (.cells (Ob.c {o with ring:=m} aC))):=⟨_,rfl⟩
   have hW':=hW
   simp only[dT] at hW'
   rw[<-hW']
   have oW:Old h W:=by rw[hW];exact hold.set (by omega)
   have cW:cellsOf W (h.next+1)=some (Ob.c {o with ring:=m} aC):=by rw[hW];exact aq (by simp[aa.set])
   have XW:=X.old oW
   simp only[dT] at cW
   obtain⟨rt,hx⟩:=XW.x
   have cx:=aq hx
   have lx:=XW.lx
   have lW:h.next+1<W.next:=by rw[hW];simp only[aa.set];omega
   refine bq 6 rfl rfl ?_
   simp+decide only[sv,atr,cx,cW,lx,lW]
   have XC:=XW.old ((Old.refl W).clean (n:=6))
   obtain⟨h1,cN,fQ,X1,ir,lp⟩:=Kf ok XC (o:={o with ring:=m}) (tl:=aC) (OV v bO aS4) (fun o' eV=>by
    have AJ:=lE XC.k.ks.aQ eC
    grind) hN hM
   refine dX cN (lp.free XW.k.eO) ?_
   obtain⟨rt1,pM⟩:=X1.x
   have H9:=aq pM
   simp+decide only[sv,alV,alU,H9]
   have lC:(W.clean 6).next=W.next+6:=rfl
   have onW:=oW.next
   have e0:ah.set t (ah[t]'X.ht)=ah:=u9 X.ht
   refine⟨rfl,(hQ _).2 ⟨{rp with data:=b},⟨fQ,N+1,_,by rw[e0];exact X1.yp (cT:={rp with data:=b}),((XF.old (oW.trans ((Old.refl W).clean))).trans lp.xf (.inl rfl)).ym,?_,by omega,by grind⟩,fun _ _=>rfl⟩⟩
   omega
 ·rw[ax he] at hV
  subst hV
  have bP:((e:Int)=0)=False:=bk (by omega)
  simp+decide only[sv,abh,atw,bP]
  refine⟨rfl,(hQ _).2 ⟨rp,?_,fun _ h=>absurd h he⟩⟩
  show iH h xb a lb N M t (ah.set t (ah[t]'X.ht)) af rp _
  rw[u9]
  exact X.fin hold
def lI (l:Lb) (af:List Ob) (c:Cl):Nat×Nat×List UInt8:=if(di af l c.id).2≠0 then((di af l c.id).2,0,[]) else(0,if(di af l c.id).1.kind=2 then(di af l c.id).1.data.length else if(di af l c.id).1.kind=1 then(di af l c.id).1.aP.toNat else 0,UInt8.ofNat (di af l c.id).1.kind.toNat::cE (di af l c.id).1.ai)
def aGr (ok:aA P tb) (X:KX h xb a lb N M t ah af rp) {c:Cl} (k:ik c) (wQ:rp.ret=0):
 ∃h' cT,al P 152 [.ptr xb 0, .agg (c.c tl)] h (.int .i64 (lI (ah[t]'X.ht).ai af c).1) h'/\iH h xb a lb N M t ah af cT h'/\((lI (ah[t]'X.ht).ai af c).1=0->cT={rp with ret:=(lI (ah[t]'X.ht).ai af c).2.1,data:=(lI (ah[t]'X.ht).ai af c).2.2}):=by
 obtain⟨V,hV⟩: ∃V,V=lI (ah[t]'X.ht).ai af c:=⟨_,rfl⟩
 rw[<-hV]
 obtain⟨Q,hQ⟩: ∃Q:aa->Prop,∀h',Q h'↔ ∃cT,iH h xb a lb N M t ah af cT h'/\(V.1=0->cT={rp with ret:=V.2.1,data:=V.2.2}):=⟨_,fun _=>Iff.rfl⟩
 suffices hu: ∃h',al P 152 [.ptr xb 0, .agg (c.c aC)] h (.int .i64 V.1) h'/\Q h' by
  obtain⟨h',c1,hq⟩:=hu
  obtain⟨cT,hq⟩:=(hQ h').1 hq
  exact⟨h',cT,xp c1,hq⟩
 unfold lI at hV
 refine ok.dr ag6 ?_
 simp+decide only[sv,ag6,ati,ed]
 generalize hY:aa.at _ _ _=Y
 have oY:Old h Y:=by rw[<-hY];exact(Old.refl h).at (ak _)
 have cY:cellsOf Y h.next=some (c.c aC):=by rw[<-hY];exact aq (by simp[aa.at];try rfl)
 have nY:Y.next=h.next+1:=by rw[<-hY];simp[aa.at]
 simp only[ed] at cY
 have XY:=X.old oY
 simp+decide only[sv,ath,cY]
 refine ao (VK ok XY k.id) ?_
 have eD:=Wh (l:=(ah[t]'X.ht).ai) (id:=c.id) X.root
 generalize di af (ah[t]'X.ht).ai c.id=R at*
 obtain⟨o,e⟩:=R
 simp only at hV eD
 simp+decide only[sv,dT]
 generalize hZ:aa.set _ _ _=Z
 have oZ:Old Y Z:=by rw[<-hZ];exact((Old.refl Y).at (ak _)).set (ak _)
 have cZ:cellsOf Z Y.next=some (o.c aC):=by rw[<-hZ];exact aq (by simp[aa.set];try rfl)
 have nZ:Z.next=Y.next+1:=by rw[<-hZ];simp[aa.at,aa.set]
 have sr:cellsOf Z h.next=_:=(show cellsOf Z h.next=cellsOf Y h.next by unfold cellsOf;rw[oZ.get _ (by omega)]).trans cY
 simp only[dT] at cZ
 rw[nY] at cZ
 have hold:=oY.trans oZ
 by_cases he:e=0
 ·subst he
  rw[aj (fun h=>h rfl)] at hV
  have eC:=eD rfl
  have XZ:=XY.old oZ
  have v:=XZ.k.ks.val o eC
  obtain⟨rt,hx⟩:=XZ.x
  have cx:=aq hx
  have lx:=XZ.lx
  have iJ: ¬h.next+1=xb:=by grind
  obtain⟨kk,hk,mY,UO⟩: ∃kk:UInt8,o.kind=kk.toNat/\1<=kk.toNat/\kk.toNat<=4:=by
   rcases y5 v.may with h|h|h|h<;>rw[h]
   ·exact⟨1,rfl,by decide⟩
   ·exact⟨2,rfl,by decide⟩
   ·exact⟨3,rfl,by decide⟩
   ·exact⟨4,rfl,by decide⟩
  have ph:UInt8.ofNat o.kind.toNat=kk:=by rw[hk];simp
  have w1:IntKind.wrap .u8 o.kind=kk.toNat:=by rw[hk,wrap_u8];unfold wG;simp;omega
  simp+decide only[sv,abd,atf,cZ,nY,w1]
  refine ao (NF ok (b:=[kk]) (t:= .full) (l:=o.ai) (t':= .au) v.ok.ai (by simp)) ?_
  simp+decide only[sv,ate,cZ,cx,iJ]
  have ac7:=XF.old (a:=a) (lb:=lb) (xb:=xb) hold
  by_cases h2:o.kind=2
  ·have e2:(o.kind=2)=True:=bW h2
   have CK:=qy v.may h2
   have w2:IntKind.wrap .u64 (o.data.length:Int)=o.data.length:=eo (by omega)
   rw[ax h2,ph] at hV
   simp+decide only[sv,Qh,atd,OO,e2,cZ,cx,iJ,aY,w2,xr]
   subst hV
   refine⟨rfl,(hQ _).2 ⟨{rp with ret:=o.data.length,data:=kk::cE o.ai},⟨lb,N,M,XZ.yp (cT:={rp with ret:=o.data.length,data:=kk::cE o.ai}),ac7.ym, .inl rfl,by omega,by omega⟩,fun _=>rfl⟩⟩
  have e2:(o.kind=2)=False:=bk h2
  rw[aj h2] at hV
  by_cases h1:o.kind=1
  ·have e1:(o.kind=1)=True:=bW h1
   obtain⟨b1,b2,b3,b4,b5⟩:=zf v.may h1
   obtain⟨q,hq⟩:=uD (show 0<=o.aP by omega)
   have w2:IntKind.wrap .u64 o.aP=q:=by rw[hq];exact eo (by omega)
   rw[ax h1,ph,hq,i9] at hV
   simp+decide only[sv,Qh,abc,atc,OO,e1,e2,cZ,cx,iJ,w2,xr]
   subst hV
   refine⟨rfl,(hQ _).2 ⟨{rp with ret:=q,data:=kk::cE o.ai},⟨lb,N,M,XZ.yp (cT:={rp with ret:=q,data:=kk::cE o.ai}),ac7.ym, .inl rfl,by omega,by omega⟩,fun _=>rfl⟩⟩
  ·have e1:(o.kind=1)=False:=bk h1
   rw[aj h1,ph] at hV
   simp+decide only[sv,Qh,abc,OO,e1,e2,xr]
   subst hV
   refine⟨rfl,(hQ _).2 ⟨{rp with data:=kk::cE o.ai},⟨lb,N,M,XZ.yp (cT:={rp with data:=kk::cE o.ai}),ac7.ym, .inl rfl,by omega,by omega⟩,fun _=>by rw[<-wQ]⟩⟩
 ·rw[ax he] at hV
  subst hV
  have bP:((e:Int)=0)=False:=bk (by omega)
  simp+decide only[sv,abd,atg,bP]
  exact⟨rfl,(hQ _).2 ⟨rp,X.fin hold,fun h=>absurd h he⟩⟩
def tD (x:Th) (af:List Ob) (c:Cl) (done:Int) (fr to:Ob):Bool×Nat×Th×List Ob×Nat:=
 let d:=(max 0 (min done c.n)).toNat
 let e:=min (d+4) c.n.toNat
 let fK:=tC af to (my to.data d ((fr.data.take e).drop d))
 if e<c.n.toNat then(false,0,{x with does:=2,id:=c.id,to:=c.to,done:=e,n:=c.n},fK,0) else(true,0,x,fK,c.n.toNat)
def gz (x:Th) (af:List Ob) (c:Cl) (done:Int):Bool×Nat×Th×List Ob×Nat:=
 if(bh af x.ai c.id 2 (eI x.ai)).2≠0 then(true,(bh af x.ai c.id 2 (eI x.ai)).2,x,af,0)
 else if(bh af x.ai c.to 2 (cM x.ai)).2≠0 then(true,(bh af x.ai c.to 2 (cM x.ai)).2,x,af,0)
 else if¬(0<=c.n/\c.n<=min ((bh af x.ai c.id 2 (eI x.ai)).1.data.length:Int) (bh af x.ai c.to 2 (cM x.ai)).1.data.length) then(true,11,x,af,0)
 else tD x af c done (bh af x.ai c.id 2 (eI x.ai)).1 (bh af x.ai c.to 2 (cM x.ai)).1
def aGw (ok:aA P tb) (X:KX h xb a lb N M t ah af rp) {c:Cl} (k:ik c):
 ∃h' cT,al P 151 [.ptr xb 0, .agg (c.c tl), .int .i64 done] h (.aE [.bool (gz (ah[t]'X.ht) af c done).1, .int .i64 (gz (ah[t]'X.ht) af c done).2.1]) h'/\iH h xb a lb N M t (ah.set t (gz (ah[t]'X.ht) af c done).2.2.1) (gz (ah[t]'X.ht) af c done).2.2.2.1 cT h'/\((gz (ah[t]'X.ht) af c done).1=true->(gz (ah[t]'X.ht) af c done).2.1=0->cT={rp with ret:=(gz (ah[t]'X.ht) af c done).2.2.2.2}):=by
 obtain⟨V,hV⟩: ∃V,V=gz (ah[t]'X.ht) af c done:=⟨_,rfl⟩
 rw[<-hV]
 obtain⟨Q,hQ⟩: ∃Q:aa->Prop,∀h',Q h'↔ ∃cT,iH h xb a lb N M t (ah.set t V.2.2.1) V.2.2.2.1 cT h'/\(V.1=true->V.2.1=0->cT={rp with ret:=V.2.2.2.2}):=⟨_,fun _=>Iff.rfl⟩
 suffices hu: ∃h',al P 151 [.ptr xb 0, .agg (c.c aC), .int .i64 done] h (.aE [.bool V.1, .int .i64 V.2.1]) h'/\Q h' by
  obtain⟨h',c1,hq⟩:=hu
  obtain⟨cT,hq⟩:=(hQ h').1 hq
  exact⟨h',cT,al.au (by simp only[AV.a8,amP];exact c1),hq⟩
 unfold gz at hV
 refine ok.dr ag7 ?_
 have e0:ah.set t (ah[t]'X.ht)=ah:=u9 X.ht
 have fC: ∀{e:Nat} {H:aa},Old h H->e≠0->V=(true,e,(ah[t]'X.ht),af,0)->Q H:=by
  intro e H o he hv
  refine(hQ _).2 ⟨rp,?_,fun _ h=>by grind⟩
  rw[hv]
  show iH h xb a lb N M t (ah.set t (ah[t]'X.ht)) af rp H
  rw[e0]
  exact X.fin o
 simp+decide only[sv,ag7,atq,ed]
 generalize hY:aa.at _ _ _=Y
 have oY:Old h Y:=by rw[<-hY];exact(Old.refl h).at (ak _)
 have cY:cellsOf Y h.next=some (c.c aC):=by rw[<-hY];exact aq (by simp[aa.at];try rfl)
 have nY:Y.next=h.next+1:=by rw[<-hY];simp[aa.at]
 simp only[ed] at cY
 have XY:=X.old oY
 simp+decide only[sv,atp,cY]
 refine ao (Bg ok XY k.id (ok.dV _ rfl) (q:=eI (ah[t]'X.ht).ai) (fun o h' hl o'=>Kg ok (XY.old o') (tl:=aC) hl)) ?_
 have eD:=oq (l:=(ah[t]'X.ht).ai) (id:=c.id) (kind:=2) (q:=eI (ah[t]'X.ht).ai) X.root
 generalize bh af (ah[t]'X.ht).ai c.id 2 (eI (ah[t]'X.ht).ai)=R at*
 obtain⟨o,e⟩:=R
 simp only at hV eD
 simp+decide only[sv,dT]
 generalize hZ:aa.set _ _ _=Z
 have oZ:Old Y Z:=by rw[<-hZ];exact((Old.refl Y).at (ak _)).set (ak _)
 have cZ:cellsOf Z Y.next=some (o.c aC):=by rw[<-hZ];exact aq (by simp[aa.set];try rfl)
 have nZ:Z.next=Y.next+1:=by rw[<-hZ];simp[aa.at,aa.set]
 have sr:cellsOf Z h.next=_:=(show cellsOf Z h.next=cellsOf Y h.next by unfold cellsOf;rw[oZ.get _ (by omega)]).trans cY
 simp only[dT] at cZ
 have hold:=oY.trans oZ
 by_cases he:e=0
 case neg=>
  rw[ax he] at hV
  have bP:((e:Int)=0)=False:=bk (by omega)
  rw[show V.1=true by rw[hV],show V.2.1=e by rw[hV]]
  simp+decide only[sv,abf,ato,bP]
  exact⟨rfl,fC hold he hV⟩
 subst he
 rw[aj (fun h=>h rfl)] at hV
 obtain⟨eC,bO,_⟩:=eD rfl
 have XZ:=XY.old oZ
 simp+decide only[sv,abf,atn,sr]
 refine ao (Bg ok XZ k.to (ok.dV _ rfl) (q:=cM (ah[t]'X.ht).ai) (fun o h' hl o'=>Xx ok (XZ.old o') (tl:=aC) hl)) ?_
 have Ts:=oq (l:=(ah[t]'X.ht).ai) (id:=c.to) (kind:=2) (q:=cM (ah[t]'X.ht).ai) X.root
 generalize bh af (ah[t]'X.ht).ai c.to 2 (cM (ah[t]'X.ht).ai)=R2 at*
 obtain⟨o2,e2⟩:=R2
 simp only at hV Ts
 simp+decide only[sv,dT]
 generalize hW:aa.set _ _ _=W
 have oW:Old Z W:=by rw[<-hW];exact((Old.refl Z).at (ak _)).set (ak _)
 have cW:cellsOf W Z.next=some (o2.c aC):=by rw[<-hW];exact aq (by simp[aa.set];try rfl)
 have nW:W.next=Z.next+1:=by rw[<-hW];simp[aa.at,aa.set]
 have M5:cellsOf W h.next=_:=(show cellsOf W h.next=cellsOf Z h.next by unfold cellsOf;rw[oW.get _ (by omega)]).trans sr
 have Ve:cellsOf W Y.next=_:=(show cellsOf W Y.next=cellsOf Z Y.next by unfold cellsOf;rw[oW.get _ (by omega)]).trans cZ
 simp only[dT] at cW
 have GQ:=hold.trans oW
 by_cases HY:e2=0
 case neg=>
  rw[ax HY] at hV
  have bP:((e2:Int)=0)=False:=bk (by omega)
  rw[show V.1=true by rw[hV],show V.2.1=e2 by rw[hV]]
  simp+decide only[sv,abe,atm,bP]
  exact⟨rfl,fC GQ HY hV⟩
 subst HY
 rw[aj (fun h=>h rfl)] at hV
 obtain⟨afl,afm,_⟩:=Ts rfl
 have XW:=XZ.old oW
 have v:=XW.k.ks.val o eC
 have v2:=XW.k.ks.val o2 afl
 have CL:=qy v.may bO
 have sg:=qy v2.may afm
 simp+decide only[sv,abe,atl,M5,Ve,cW,aY]
 refine ao (OH ok) ?_
 by_cases aN:0<=c.n/\c.n<=min (o.data.length:Int) o2.data.length
 case neg=>
  rw[ax aN] at hV
  have e:(decide (0<=c.n)&&decide (c.n<=min (o.data.length:Int) o2.data.length))=false:=by grind
  rw[show V.1=true by rw[hV],show V.2.1=11 by rw[hV],e]
  simp+decide only[sv,atk]
  exact⟨rfl,fC GQ (by decide) hV⟩
 rw[aj (fun h=>h aN)] at hV
 have e:(decide (0<=c.n)&&decide (c.n<=min (o.data.length:Int) o2.data.length))=true:=by grind
 rw[e]
 obtain⟨n,hn⟩:=uD aN.1
 unfold tD at hV
 dsimp only at hV
 rw[hn,i9] at hV
 generalize hD:(max 0 (min done (n:Int))).toNat=d at*
 have mA:max 0 (min done (n:Int))=(d:Int):=by omega
 have Ey:d<=n:=by omega
 have MH:n<=o.data.length/\n<=o2.data.length:=by omega
 have w1:IntKind.wrap .i64 ((d:Int)+4)=(d:Int)+4:=bj (by omega) (by omega)
 have aTs:min ((d:Int)+4) (n:Int)=((min (d+4) n:Nat):Int):=by omega
 generalize hE:min (d+4) n=en at*
 have HZ:d<=en:=by omega
 have hen:en<=n:=by omega
 simp+decide only[sv,atj,alT,M5,hn,mA,w1,aTs]
 obtain⟨rt,hx⟩:=XW.x
 have cx:=aq hx
 have ck:=aq XW.k.top
 have lx:=XW.lx
 have lk:=XW.k.l1
 have l0:h.next<W.next:=by omega
 have l1:Y.next<W.next:=by omega
 have l2:Z.next<W.next:=by omega
 have k1:d<=en/\en<=o.data.length:=by omega
 have k2:bQ 1 (BS o.data)=true:=iM
 have k3:List.take (en-d) (List.drop d (BS o.data))=BS ((o.data.take en).drop d):=by
  rw[vw,Fu,List.drop_take]
 refine bq 16 rfl rfl ?_
 simp+decide only[sv,alS,cx,ck,cW,Ve,lx,lk,l1,l2,aY,k1,k2,k3]
 have XC:=XW.old ((Old.refl W).clean (n:=16))
 have lC:(W.clean 16).next=W.next+16:=rfl
 have uI:=WH XC.k.ks afl afm
 have hlw:((o.data.take en).drop d).length=en-d:=by simp;omega
 obtain⟨h1,cN,S1,Ms⟩:=XC.k.sp.write ok (id:=o2.id) (off:=d) (v:=(o.data.take en).drop d) (t:= .au) uI (by omega)
 have ltS:=XW.k.sp.lt
 refine dX cN (WV fun b gw dB=>Ms.2 b (by omega) (by omega) (by omega)) ?_
 have X1:=XC.wr afl afm (by simp[my];omega) Ms S1
 have lp:XF h h1 a lb xb:=(XF.old (GQ.trans ((Old.refl W).clean))).trans Ms.kf.xf (.inl rfl)
 have iK:cellsOf h1 h.next=_:=(show cellsOf h1 h.next=cellsOf W h.next by
  have ns:=X.k.eO
  unfold cellsOf
  rw[Ms.2 _ (by omega) (fun e=>by have:=ns _ (.inr (.inr (.inr (.inr (.inl e)))));omega) (fun e=>by have:=ns _ (.inr (.inr (.inr (.inr (.inr e)))));omega)]
  simp only[aa.clean]
  rw[ax l0]).trans M5
 have l1n:h.next<h1.next:=by have:=Ms.1;omega
 simp+decide only[sv]
 generalize hρ:put _ _ _=ρ1
 have r0:ρ1 0= .ptr xb 0:=by rw[<-hρ];rfl
 have r4:ρ1 4= .ptr h.next 0:=by rw[<-hρ];rfl
 have gd:ρ1 11= .int .i64 en:=by rw[<-hρ];rfl
 clear hρ
 obtain⟨rt1,pM⟩:=X1.x
 have H9:=aq pM
 by_cases aS:en<n
 ·have jK:(en:Int)<(n:Int):=by omega
  rw[ax aS] at hV
  rw[show V.1=false by rw[hV],show V.2.1=0 by rw[hV]]
  obtain⟨ct,hle,_⟩:=X1.Lr
  have lx1:=X1.lx
  have lt1:=X1.k.l2
  have nb0: ¬h.next=a.tb:=by have:=X.k.l2;omega
  have nbx: ¬xb=a.tb:=fun e=>X.dK (.inr e)
  have UP:=X.ht
  have qe: ∀{x x':Th} {j:Nat} {v:AV},(j+1<=12)->List.take j (x.c aH)++[v]++List.drop (j+1) (x.c aH)=x'.c aH->List.take (t*12+j) (aI aH (ah.set t x)).flatten++[v]++List.drop (t*12+j+1) (aI aH (ah.set t x)).flatten=(aI aH (ah.set t x')).flatten/\t*12+j+1<=(aI aH (ah.set t x)).flatten.length:=by
   intro x x' j v hj My
   have:=pt (l:=ah.set t x) (t:=t) (by grind) (j:=j) (v:=[v]) (x':=x') hj (by grind)
   rw[rH] at this
   refine⟨this,?_⟩
   rw[kS l7,gI,kE];omega
  have s1:=qe (x:=ah[t]'X.ht) (x':={ah[t]'X.ht with does:=2}) (j:=6) (v:= .int .i64 2) (by omega) (by simp[lT])
  rw[e0] at s1
  have s2:=qe (x:={ah[t]'X.ht with does:=2}) (x':={ah[t]'X.ht with does:=2,id:=c.id}) (j:=7) (v:= .int .u64 c.id) (by omega) (by simp[lT])
  have s3:=qe (x:={ah[t]'X.ht with does:=2,id:=c.id}) (x':={ah[t]'X.ht with does:=2,id:=c.id,to:=c.to}) (j:=8) (v:= .int .u64 c.to) (by omega) (by simp[lT])
  have s4:=qe (x:={ah[t]'X.ht with does:=2,id:=c.id,to:=c.to}) (x':={ah[t]'X.ht with does:=2,id:=c.id,to:=c.to,done:=en}) (j:=9) (v:= .int .i64 en) (by omega) (by simp[lT])
  have s5:=qe (x:={ah[t]'X.ht with does:=2,id:=c.id,to:=c.to,done:=en}) (x':={ah[t]'X.ht with does:=2,id:=c.id,to:=c.to,done:=en,n:=n}) (j:=10) (v:= .int .i64 n) (by omega) (by simp[lT])
  simp+decide only[sv,W8,r4,gd,iK,hn,jK]
  refine Om (fun b=>b=a.tb) 42 rfl ?_
  have fz:=fun i=>ba (h:=h1) (n:=42) (m:=42) (base:=h1.next) (i:=i) (ak _)
  simp+decide only[sv,alR,alQ,sw,r0,r4,gd,H9,ct,iK,lx1,lt1,l1n,nb0,nbx,hn,s1,s2,s3,s4,s5,xr]
  have fs:=fun(x:Option lB) i=>(jx (x:=x) lt1).2 (fz i)
  have Uy:=X1.tv.ai _ (bw X1.ht)
  refine⟨fs _ _,NH rfl,fs _ _,Bh rfl,fs _ _,Bh rfl,fs _ _,Bh rfl,fs _ _,Bh rfl,rfl,(hQ _).2 ⟨rp,?_,fun h=>by grind⟩⟩
  rw[hV]
  exact⟨lb,N,M,(X1.old ((Old.refl h1).clean (n:=42))).lO (x:={ah[t]'X.ht with does:=2,id:=c.id,to:=c.to,done:=en,n:=n}) Uy,(lp.trans (XF.old ((Old.refl h1).clean (n:=42))) (.inl rfl)).lO, .inl rfl,by omega,by omega⟩
 ·have jK: ¬(en:Int)<(n:Int):=by omega
  rw[aj aS] at hV
  rw[show V.1=true by rw[hV],show V.2.1=0 by rw[hV]]
  have wn:IntKind.wrap .u64 (n:Int)=n:=eo (by omega)
  simp+decide only[sv,W8,alP,alO,r0,r4,gd,H9,iK,hn,jK,wn]
  refine⟨rfl,(hQ _).2 ⟨{rp with ret:=n},?_,fun _ _=>by rw[hV]⟩⟩
  rw[hV]
  show iH h xb a lb N M t (ah.set t (ah[t]'X.ht)) _ _ _
  rw[e0]
  exact⟨lb,N,M,X1.yp (cT:={rp with ret:=n}),lp.ym, .inl rfl,by omega,by omega⟩
def aih {id:Nat} (hm:cP id=true) (h1:id≠1): ∃ps,bu id=ps++[cR id,id]/\(ps=[]->cR id=1)/\ ∀x∈bu id,x≠id->x<id:=by
 unfold cP at hm
 unfold cR iT bu
 cases hn:eT id with
 |none=>grind
 |some l=>
  obtain⟨e1,_⟩:=Bv hn
  have hl:l≠[]:=by
   grind
  obtain⟨n,hlen⟩: ∃n,l.length=n+1:=⟨l.length-1,by grind⟩
  simp only[iQ,hlen]
  rw[aj (by omega)]
  refine⟨(List.range n).map fun j=>id/64^(n+1-j),?_,?_,?_⟩
  ·rw[B4,B4,jz,jz]
   simp
  ·intro e
   simp_all
  ·intro x hx aT
   obtain⟨j,hj,rfl⟩:=List.mem_map.1 hx
   have mZ:=List.mem_range.1 hj
   have lP:0<id:=by
    rcases Gy id with h|h
    ·simp_all
    ·exact h
   by_cases iu:j=n+1
   ·grind
   ·refine Nat.div_lt_self lP ?_
    grind
theorem NG {p:Nat}: ∀{ps:List Nat} {o:Ob},(gy af l o (ps++[p])).2=0-> ∃o',gy af l o ps=(o',0)/\o'.kind=1/\eI l o'.ai=true/\a9 af p=some (gy af l o (ps++[p])).1
 |[],o,h=>by
  simp only[kF] at h ⊢
  unfold gy at h ⊢
  split at h
  ·cases h
  split at h
  ·cases h
  rename_i h1 h2
  rw[aj h1,aj h2]
  cases ho:a9 af p with
  |none=>grind
  |some o'=>exact⟨o,rfl,Classical.not_not.1 h1,by simpa using h2,rfl⟩
 |q::ps,o,h=>by
  rw[Gw] at h ⊢
  rw[gy] at h ⊢
  rw[gy]
  split at h
  ·cases h
  split at h
  ·cases h
  rename_i h1 h2
  rw[aj h1,aj h2,aj h1,aj h2]
  cases ho:a9 af q with
  |none=>grind
  |some o'=>rw[ho] at h;exact NG h
def N4 {id:Nat} (hr: ∃r,a9 af 1=some r) (h1:id≠1) (h0:(di af l id).2=0):a9 af id=some (di af l id).1/\ ∃b,a9 af (cR id)=some b/\b.kind=1/\cP id=true:=by
 cases hm:cP id with
 |false=>unfold di at h0;rw[Iq hm] at h0;cases h0
 |true=>
  obtain⟨ps,hp,rX,_⟩:=aih hm h1
  obtain⟨qs,hq⟩:=Ip hm
  obtain⟨r,hr⟩:=hr
  unfold di at h0 ⊢
  rw[hq] at h0 ⊢
  change(gy af l ((a9 af 1).getD bz) qs).2=0 at h0
  change a9 af id=some (gy af l ((a9 af 1).getD bz) qs).1/\_
  rw[hr,iQ] at h0 ⊢
  cases ps with
  |nil=>
   rw[hq] at hp
   have hn:=rX rfl
   rw[hn] at hp ⊢
   have hqs:qs=[id]:=by simpa using hp
   subst hqs
   obtain⟨o',e1,e2,_,e3⟩:=NG (ps:=[]) (p:=id) h0
   unfold gy at e1
   grind
  |cons p ps=>
   rw[hq] at hp
   have hqs:qs=ps++[cR id,id]:=by grind
   subst hqs
   have e:ps++[cR id,id]=(ps++[cR id])++[id]:=by simp
   rw[e] at h0 ⊢
   obtain⟨o',e1,e2,_,e3⟩:=NG h0
   have EG:(gy af l r (ps++[cR id])).2=0:=by rw[e1]
   obtain⟨o'',_,_,_,e4⟩:=NG EG
   grind
def aMP (ok:aA P tb) (X:KX h xb a lb N M t ah af rp) {id:Nat} (h1:id≠1):
 ∃h',al P 193 [.ptr a.kb 0, .int .u64 id] h (.aE []) h'/\KX h' xb a lb N M t ah (wB af id) rp/\KF h h' a lb:=by
 obtain⟨h',c,K,kf⟩:=aNV ok X.k (id:=id)
 obtain⟨rt,hx⟩:=X.x
 refine⟨h',c,⟨K,⟨rt,by rw[kf.2 _ X.lx X.dK X.dA X.dS,hx]⟩,bJ X.lx kf.1,X.dK,X.dA,X.dS,X.ht,X.tv,?_⟩,kf⟩
 obtain⟨r,hr⟩:=X.root
 exact⟨r,by rw[NB,aj (fun e=>h1 e.symm),hr]⟩
def Cm (kR:Nat) (af:List Ob) (id:Nat):List Ob:=if iA id kR then wB af id else af
def kL (kR:Nat) (af:List Ob):List Ob:=af.filter fun o=>!iA o.id kR
theorem ajZ: ∀{l:List Nat} {af:List Ob},l.foldl (Cm kR) af=af.filter fun o=>!(l.any fun id=>o.id==id&&iA id kR)
 |[],af=>(List.filter_eq_self.2 (fun _ _=>rfl)).symm
 |id::l,af=>by
  rw[Dx,ajZ]
  unfold Cm
  by_cases hw:iA id kR=true
  ·rw[ax hw]
   unfold wB
   rw[List.filter_filter]
   grind
  grind
def aJC:(af.map (·.id)).foldl (Cm kR) af=kL kR af:=by
 rw[ajZ]
 unfold kL
 refine List.filter_congr fun o ho=>?_
 grind
def amj (v:jj o) (h1:o.kind=1) {c:Int}:jj (kY o c):=by
 obtain⟨b1,b2,b3,b4,b5⟩:=zf v.may h1
 unfold kY
 split
 ·refine⟨⟨v.ok.ai,v.ok.id,v.ok.bf,v.ok.ring,v.ok.cat⟩,?_,?_⟩
  ·have hm:=v.may
   unfold eS ko at hm ⊢
   rw[ax h1] at hm
   rw[ax (show({o with used:=max (o.used-c) 0}:Ob).kind=1 from h1)]
   unfold uF at hm ⊢
   simp only[fV,rK] at hm ⊢
   grind
  ·have hn:=v.norm
   cases o with
   |mk tA kind ai aP used next data bf ring st=>
    simp only at h1
    subst h1
    unfold mo at hn ⊢
    grind
 ·exact v
def OA {c:Int}:(kY o c).id=o.id/\(kY o c).kind=o.kind:=by unfold kY;grind
def Fg (m:eS o=true) (hn:mo o=o):(-(2^61)<=o.aP/\o.aP<=400)/\o.data.length<=64/\0<=o.aP:=by
 have hq:0<=o.aP/\o.aP<=400:=by
  by_cases h1:o.kind=1
  ·have:=zf m h1;omega
  ·rw[<-hn];unfold mo
   rw[aj h1]
   split
   ·exact⟨Int.le_refl 0,(by decide:(0:Int)<=400)⟩
   split<;>exact⟨Int.le_refl 0,(by decide:(0:Int)<=400)⟩
 have hd:o.data.length<=64:=by
  by_cases h2:o.kind=2
  ·exact qy m h2
  ·rw[<-hn];unfold mo
   split
   ·grind
   split<;>exact bM _
 omega
def kA (l:Lb) (af:List Ob) (c:Cl):Nat×List Ob:=if c.id=1 then(1,af) else if(di af l c.id).2≠0 then((di af l c.id).2,af) else if dW l ((a9 af (cR c.id)).getD bz).ai=false then(6,af) else(0,bC (kL c.id af) (kY ((a9 af (cR c.id)).getD bz) (cost (di af l c.id).1)))
def aIf (h1:kR≠1) {l:List Nat} (hr: ∃r,a9 af 1=some r): ∀id∈l,iA id kR=true->id≠1:=by
 intro id _ hw e
 subst e
 unfold iA at hw
 have e:bu 1=[1]:=by decide
 grind
def aFI (ok:aA P tb) (X:KX h xb a lb N M t ah af rp) {c:Cl} (k:ik c) (hN:N<2^19) (hM:M<128) (dU:af.length<=12):
 ∃h',al P 147 [.ptr xb 0, .agg (c.c tl)] h (.int .i64 (kA (ah[t]'X.ht).ai af c).1) h'/\iH h xb a lb N M t ah (kA (ah[t]'X.ht).ai af c).2 rp h':=by
 obtain⟨V,hV⟩: ∃V,V=kA (ah[t]'X.ht).ai af c:=⟨_,rfl⟩
 rw[<-hV]
 obtain⟨Q,hQ⟩: ∃Q:aa->Prop,∀h',Q h'↔iH h xb a lb N M t ah V.2 rp h':=⟨_,fun _=>Iff.rfl⟩
 suffices hu: ∃h',al P 147 [.ptr xb 0, .agg (c.c aC)] h (.int .i64 V.1) h'/\Q h' by
  obtain⟨h',c1,hq⟩:=hu
  exact⟨h',xp c1,(hQ h').1 hq⟩
 unfold kA at hV
 refine ok.dr aha ?_
 have fC: ∀{e:Nat} {H:aa},Old h H->V=(e,af)->Q H:=by
  intro e H o hv
  refine(hQ _).2 ?_
  rw[hv]
  exact X.fin o
 simp+decide only[sv,aha,atZ,ed]
 generalize hY:aa.at _ _ _=Y
 have oY:Old h Y:=by rw[<-hY];exact(Old.refl h).at (ak _)
 have cY:cellsOf Y h.next=some (c.c aC):=by rw[<-hY];exact aq (by simp[aa.at];try rfl)
 have nY:Y.next=h.next+1:=by rw[<-hY];simp[aa.at]
 simp only[ed] at cY
 have XY:=X.old oY
 by_cases h1:c.id=1
 ·have e1:((c.id:Int)=1)=True:=bW (by omega)
  rw[ax h1] at hV
  rw[show V.1=1 by rw[hV]]
  simp+decide only[sv,abn,atY,cY,e1]
  exact⟨rfl,fC oY hV⟩
 have e1:((c.id:Int)=1)=False:=bk (by omega)
 rw[aj h1] at hV
 simp+decide only[sv,abn,atX,cY,e1]
 refine ao (VK ok XY k.id) ?_
 have eD:=Wh (l:=(ah[t]'X.ht).ai) (id:=c.id) X.root
 have yN:=N4 (l:=(ah[t]'X.ht).ai) X.root h1
 generalize di af (ah[t]'X.ht).ai c.id=R at*
 obtain⟨o,e⟩:=R
 simp only at hV eD yN
 simp+decide only[sv,dT]
 generalize hZ:aa.set _ _ _=Z
 have oZ:Old Y Z:=by rw[<-hZ];exact((Old.refl Y).at (ak _)).set (ak _)
 have cZ:cellsOf Z Y.next=some (o.c aC):=by rw[<-hZ];exact aq (by simp[aa.set];try rfl)
 have nZ:Z.next=Y.next+1:=by rw[<-hZ];simp[aa.at,aa.set]
 have sr:cellsOf Z h.next=_:=(show cellsOf Z h.next=cellsOf Y h.next by unfold cellsOf;rw[oZ.get _ (by omega)]).trans cY
 simp only[dT] at cZ
 have hold:=oY.trans oZ
 by_cases he:e=0
 case neg=>
  rw[ax he] at hV
  have bP:((e:Int)=0)=False:=bk (by omega)
  rw[show V.1=e by rw[hV]]
  simp+decide only[sv,abm,atW,bP]
  exact⟨rfl,fC hold hV⟩
 subst he
 rw[aj (fun h=>h rfl)] at hV
 have eC:=eD rfl
 obtain⟨_,b,hb,gw,jZ⟩:=yN rfl
 rw[hb,iQ] at hV
 have XZ:=XY.old oZ
 have v:=XZ.k.ks.val o eC
 have si:=ix hb
 have vb:=XZ.k.ks.val b si.1
 obtain⟨rt,hx⟩:=XZ.x
 have cx:=aq hx
 have lx:=XZ.lx
 have lk:=XZ.k.l1
 have l0:h.next<Z.next:=by omega
 simp+decide only[sv,abm]
 refine jk 7 14 rfl (by omega) rfl ?_
 simp+decide only[sv,atV,cx,sr,lx,l0]
 refine dh (aFg ok k.id) (ba (ak _)) ?_
 have bB:=fun H (o:Old Z H)=>Tm ok (XZ.old o).k (id:=cR c.id)
 rw[hb] at bB
 simp+decide only[sv,lx]
 refine dX (bB _ ((Old.refl Z).clean)) (ba (ak _)) ?_
 simp+decide only[sv,dT]
 refine⟨fun j hj hn=>?_,?_⟩
 ·simp only[aa.set,aa.at,aa.clean]
  grind
 generalize hW:aa.set _ _ _=W
 have oW:Old Z W:=by rw[<-hW];exact((Old.refl Z).clean.at (by omega)).set (by omega)
 have cW:cellsOf W (Z.next+11)=some (b.c aC):=by rw[<-hW];exact aq (by simp[aa.set];rfl)
 have nW:W.next=Z.next+14:=by rw[<-hW];simp[aa.set,aa.at,aa.clean]
 have M5:cellsOf W h.next=_:=(show cellsOf W h.next=cellsOf Z h.next by unfold cellsOf;rw[oW.get _ (by omega)]).trans sr
 have Ve:cellsOf W Y.next=_:=(show cellsOf W Y.next=cellsOf Z Y.next by unfold cellsOf;rw[oW.get _ (by omega)]).trans cZ
 have XW:=XZ.old oW
 have GQ:=hold.trans oW
 simp only[dT] at cW
 generalize hρ:put _ _ _=ρ1
 have r0:ρ1 0= .ptr xb 0:=by rw[<-hρ];rfl
 have r3:ρ1 3= .ptr h.next 0:=by rw[<-hρ];rfl
 have r5:ρ1 5= .ptr Y.next 0:=by rw[<-hρ];rfl
 have r7:ρ1 7= .ptr (Z.next+11) 0:=by rw[<-hρ];rfl
 clear hρ
 simp+decide only[sv,atU,r0,r7,cW]
 refine ao (RR ok XW (o:=b) (tl:=aC) vb.ok.ai) ?_
 cases hbo:dW (ah[t]'X.ht).ai b.ai with
 |false=>
  rw[ax hbo] at hV
  rw[show V.1=6 by rw[hV]]
  simp+decide only[sv,atT]
  exact⟨rfl,fC GQ hV⟩
 |true=>
  rw[aj (by simp[hbo])] at hV
  obtain⟨Ud,qX⟩:=XW.x
  have tO:=aq qX
  have ck2:=aq XW.k.top
  obtain⟨f,A,Rr⟩:=XW.k.ar
  have aT:af≠[]:=fun e=>by grind
  obtain⟨i1,i2,i3⟩:=XW.k.ks.ids aT Rr
  simp+decide only[sv,atS,r0,tO,ck2]
  refine ao (A.ids ok i1 i2 i3 (by grind)) ?_
  simp+decide only[sv,aF.aD,fp]
  have aTl: ∀x∈af.map (·.id),x<2^64:=fun x hx=>by
   obtain⟨o',eV,rfl⟩:=List.mem_map.1 hx
   exact(XW.k.ks.val o' eV).ok.id
  have Tv:=aJC (kR:=c.id) (af:=af)
  have hlen:(af.map (·.id)).length=af.length:=by simp
  generalize af.map (·.id)=l at*
  let I:Nat->Env->aa->Prop:=fun n ρ H=> ∃i,l.length=i+n/\KX H xb a lb N M t ah ((l.take i).foldl (Cm c.id) af) rp/\XF h H a lb xb/\cellsOf H h.next=cellsOf Y h.next/\cellsOf H Y.next=cellsOf Z Y.next/\cellsOf H (Z.next+11)=cellsOf W (Z.next+11)/\W.next<=H.next/\ρ 0= .ptr xb 0/\ρ 3= .ptr h.next 0/\ρ 5= .ptr Y.next 0/\ρ 7= .ptr (Z.next+11) 0/\ρ 46= .vs ((ay .u64).R l) .au/\ρ 47= .int .i64 l.length/\ρ 48= .int .i64 i
  have ir:l.length<2^20:=by omega
  have eO:=X.k.eO
  refine dv I ?_ l.length ⟨0,by omega,XW,XF.old GQ,by rw[M5,cY],by rw[Ve,cZ],rfl,ak _,r0,r3,r5,r7,rfl,by rw[hlen];rfl,rfl⟩
  rintro n ρ H ⟨i,aN,KI,xf,d0,d1,d2,hWn,r0,r3,r5,r7,r46,Uh,Ug⟩
  rw[cY] at d0
  rw[cZ] at d1
  rw[cW] at d2
  by_cases hi:i<l.length
  ·have av:(i:Int)<(l.length:Int):=by omega
   have hw:=dj (show i<2^61 by omega)
   have g1:((ay .u64).R l)[i]? =some [.int .u64 l[i]]:=(ay .u64).cj hi
   have wN:l.take (i+1)=l.take i++[l[i]]:=(lM hi).symm
   simp+decide only[sv,Xa,al0,alZ,r3,r46,Uh,Ug,av,g1,d0]
   refine ao (aFf ok (aTl _ (bw hi))) ?_
   cases pN:iA l[i] c.id with
   |false=>
    simp+decide only[sv,W9,Ug,hw]
    refine⟨n-1,by omega,i+1,by omega,?_,xf,by rw[d0,cY],by rw[d1,cZ],by rw[d2,cW],hWn,r0,r3,r5,r7,r46,Uh,rfl⟩
    rw[wN,List.foldl_append]
    show KX H xb a lb N M t ah (Cm c.id _ l[i]) rp
    unfold Cm
    rw[aj (by simp[pN])]
    exact KI
   |true=>
    have uR:=aIf h1 (l:=l) X.root _ (bw hi) pN
    obtain⟨rt3,Mx⟩:=KI.x
    have M4:=aq Mx
    obtain⟨H1,cN,K1,lp⟩:=aMP ok KI uR
    simp+decide only[sv,alY,r0,M4]
    refine ao cN ?_
    simp+decide only[sv,W9,Ug,hw]
    have same: ∀b,h.next<=b->b<W.next->H1.get b=H.get b:=fun b gw dB=>lp.2 b (by omega) (fun e=>by grind) (fun e=>by grind) (fun e=>by grind)
    have sc: ∀b,h.next<=b->b<W.next->cellsOf H1 b=cellsOf H b:=fun b gw dB=>by unfold cellsOf;grind
    refine⟨n-1,by omega,i+1,by omega,?_,xf.trans lp.xf (.inl rfl),by grind,by grind,by grind,by have:=lp.1;omega,r0,r3,r5,r7,r46,Uh,rfl⟩
    rw[wN,List.foldl_append]
    show KX H1 xb a lb N M t ah (Cm c.id _ l[i]) rp
    unfold Cm
    rw[ax pN]
    exact K1
  ·have av: ¬(i:Int)<(l.length:Int):=by omega
   rw[bX (by omega),Tv] at KI
   obtain⟨rt3,Mx⟩:=KI.x
   have M4:=aq Mx
   have lx3:=KI.lx
   have l3a:h.next<H.next:=by omega
   have l3b:Y.next<H.next:=by omega
   have l3c:Z.next+11<H.next:=by omega
   simp+decide only[sv,Xa,Uh,Ug,av]
   refine jk 8 9 rfl (by omega) rfl ?_
   simp+decide only[sv,alX,r0,r5,r7,M4,d1,d2,lx3,l3b,l3c]
   have vq:=y5 v.may
   have Kq:cost o<2^60/\ -(2^61)<=o.aP/\o.aP<2^61/\o.data.length<2^30:=by
    have hv:=Fg v.may v.norm
    refine⟨?_,by omega,by omega,by omega⟩
    unfold cost
    omega
   refine dh (ajh ok (o:=o) (t:=aC) ⟨Kq.2.1,Kq.2.2.1⟩ Kq.2.2.2) (ba (ak _)) ?_
   simp+decide only[sv,l3c]
   have pR:=zf vb.may gw
   refine dh (aJr ok (o:=b) (t:=aC) (c:=cost o) (by omega) Kq.1) (ba (ak _)) ?_
   have KC:=KI.old ((Old.refl H).clean (n:=9))
   have qk:=OA (o:=b) (c:=cost o)
   obtain⟨br,cN,fQ,X1,ir,lp⟩:=Kf ok KC (o:=kY b (cost o)) (tl:=aC) (amj vb gw) (fun o' eV=>by
    have hm:=ix eV
    have hmo:=(List.mem_filter.1 hm.1).1
    have AJ:=lE XW.k.ks.aQ hmo
    grind) hN hM
   simp+decide only[sv]
   refine dX cN (lp.free KI.k.eO) ?_
   simp+decide only[sv,alW]
   rw[show V.1=0 by rw[hV]]
   refine⟨rfl,(hQ _).2 ?_⟩
   rw[hV]
   have lC:(H.clean 9).next=H.next+9:=rfl
   refine⟨fQ,N+1,_,X1,(xf.trans (XF.old ((Old.refl H).clean)) (.inl rfl)).trans lp.xf (.inl rfl),?_,by omega,by grind⟩
   omega
def dZ (c:Cl) (id:Nat):Ob:={bz with id:=id,kind:=c.kind,ai:=c.ai,aP:=if c.kind=1 then c.n else 0,next:=if c.kind=1 then 1 else 0,data:=if c.kind=2 then c.data else [],bf:=if c.kind=3 then c.bf else []}
theorem aHu (ok:aA P tb) {c:Cl} {id:Nat} (k:ik c):al P 185 [.agg (c.c tl), .int .u64 id] h (.agg ((dZ c id).c aC)) h:=by
 suffices hu:al P 185 [.agg (c.c aC), .int .u64 id] h (.agg ((dZ c id).c aC)) h from al.au (by simp only[AV.a8,AV.strip,xm];exact hu)
 refine ok.df (rf:=agH) rfl (bT rfl) (by simp only[AV.bD,sD]) ?_
 have hl:=k.GM
 have hd:=k.data
 have hc:=k.bf
 simp+decide only[sv,agH,aqT,ed]
 generalize hX:aa.at _ _ _=X
 have xo:Old h X:=by rw[<-hX];exact((Old.refl h).at (ak _)).at (by omega)
 have x0:cellsOf X h.next=some (c.c aC):=by rw[<-hX];exact aq (by simp[aa.at];rfl)
 have x1:cellsOf X (h.next+1)=some (bz.c mS):=by rw[<-hX];exact aq (by simp[aa.at];rfl)
 have xn:X.next=h.next+2:=by rw[<-hX];simp[aa.at]
 simp only[ed] at x0
 simp only[yD] at x1
 have n0:h.next<X.next:=by omega
 have n1:h.next+1<X.next:=by omega
 refine jk 6 9 rfl (by omega) rfl ?_
 simp+decide only[sv,aqS,x0,n0]
 refine dh (NQ ok (l:=c.ai) (t:= .au) (by omega)) (ba (ak _)) ?_
 simp+decide only[sv,Lb.c]
 refine⟨fun j hj hn=>?_,?_⟩
 ·omega
 generalize hW:aa.set _ _ _=W
 have oW:Old X W:=by rw[<-hW];exact((Old.refl X).clean.at (by omega)).set (by omega)
 have cW:cellsOf W (X.next+7)=some (Ob.c {bz with id:=id,kind:=c.kind,ai:=c.ai} (jH .au .full .full .full)):=by rw[<-hW];exact aq (by simp[aa.set];rfl)
 have nW:W.next=X.next+9:=by rw[<-hW];simp[aa.set,aa.at,aa.clean]
 have c0:cellsOf W h.next=_:=(show cellsOf W h.next=cellsOf X h.next by unfold cellsOf;rw[oW.get _ (by omega)]).trans x0
 have c1:cellsOf W (h.next+1)=_:=(show cellsOf W (h.next+1)=cellsOf X (h.next+1) by unfold cellsOf;rw[oW.get _ (by omega)]).trans x1
 have hold:=xo.trans oW
 rw[xn] at cW nW
 generalize hρ:put _ _ _=ρ1
 have r1:ρ1 1= .int .u64 id:=by rw[<-hρ];rfl
 have r2:ρ1 2= .ptr h.next 0:=by rw[<-hρ];rfl
 have r4:ρ1 4= .ptr (h.next+1) 0:=by rw[<-hρ];rfl
 have r5:ρ1 5= .ptr (h.next+9) 0:=by rw[<-hρ];simp[put,xn];try rfl
 have q0:h.next<W.next:=by omega
 obtain⟨V,hV⟩: ∃V,V=dZ c id:=⟨_,rfl⟩
 rw[<-hV]
 unfold dZ at hV
 have Nc:cellsOf W (h.next+1)=some (bz.c mS):=c1
 clear c1
 have fin: ∀(ρ':Env) (H:aa) (t':Nat->aL),ρ' 4= .ptr (h.next+1) 0->ρ' 5= .ptr (h.next+9) 0->cellsOf H (h.next+9)=some (V.c t')->cellsOf H (h.next+1)=some (bz.c mS)->Old h H->exec P aas ρ' H (iD (WP P cO.ret (um [mQ.cell 4 true 13] (AV.agg (V.c aC)) h)) (um [mQ.cell 4 true 13] (AV.agg (V.c aC)) h) cC.normal):=by
  intro ρ' H t' r4 r5 cc cd o
  simp only[Ob.c] at cc cd
  simp+decide only[sv,aas,r4,r5,cc,cd,aV]
  refine⟨?_,(o.set (by omega)).get⟩
  exact Xt (o:=V) (t:=t')
 simp only[Ob.c] at cW
 have hs: ∀(b:Option lB),cellsOf (W.set (h.next+9) b) (h.next+1)=some (bz.c mS):=fun b=>by unfold cellsOf;simp only[aa.set];rw[aj (by omega)];exact Nc
 simp+decide only[sv,aqR,c0,r2]
 by_cases h1:c.kind=1
 ·have e1:(c.kind=1)=True:=bW h1
  simp+decide only[sv,Jy,aqQ,c0,r2,r5,cW,e1]
  refine fin _ _ (jH .au .full .full .full) r4 r5 (aq ?_) ?_ ((hold.set (by omega)).set (by omega))
  ·simp only[aa.set]
   rw[ax trivial,hV]
   simp only[Ob.c,h1,dP]
   rfl
  ·unfold cellsOf;simp only[aa.set];rw[aj (by omega),aj (by omega)];exact Nc
 have e1:(c.kind=1)=False:=bk h1
 by_cases h2:c.kind=2
 ·have e2:(c.kind=2)=True:=bW h2
  simp+decide only[sv,Jy,PZ,aqP,c0,r2,e1,e2]
  refine ao (XE dt ok rfl (l:=c.data) (by omega) (by omega)) ?_
  simp+decide only[sv,r5,cW]
  refine fin _ _ (jH .au .au .full .full) r4 r5 (aq ?_) (hs _) (hold.set (by omega))
  simp only[aa.set]
  rw[ax trivial,hV]
  simp only[Ob.c,h2,dP]
  rfl
 have e2:(c.kind=2)=False:=bk h2
 by_cases h3:c.kind=3
 ·have e3:(c.kind=3)=True:=bW h3
  simp+decide only[sv,Jy,PZ,aat,aqO,c0,r2,e1,e2,e3]
  refine ao (XE (ay .u16) ok rfl (l:=c.bf) (by omega) (by omega)) ?_
  simp+decide only[sv,r5,cW]
  refine fin _ _ (jH .au .full .au .full) r4 r5 (aq ?_) (hs _) (hold.set (by omega))
  simp only[aa.set]
  rw[ax trivial,hV]
  simp only[Ob.c,h3,dP]
  rfl
 have e3:(c.kind=3)=False:=bk h3
 simp+decide only[sv,Jy,PZ,aat,e1,e2,e3]
 refine fin _ _ (jH .au .full .full .full) r4 r5 ?_ Nc hold
 rw[cW,hV]
 simp only[Ob.c,h1,h2,h3,fj]
 rfl
theorem Oa: ∀{k id j:Nat} {l:List Nat},eU k id=some l->l.length<=j->eU j id=some l
 |0,id,j,l,h,hj=>by
  simp only[eU] at h
  split at h
  ·rename_i e;subst e;cases h;exact IH
  ·cases h
 |k+1,id,j,l,h,hj=>by
  simp only[eU] at h
  split at h
  ·rename_i e;subst e;cases h;exact IH
  ·split at h
   ·rename_i h1 h2
    obtain⟨m,hm,rfl⟩:=Option.map_eq_some_iff.1 h
    obtain⟨j',rfl⟩: ∃j',j=j'+1:=⟨j-1,by grind⟩
    simp only[cQ] at hj
    simp only[eU]
    rw[aj h1,ax h2,Oa hm (by omega)]
    rfl
   ·cases h
def Jf {b:Nat} (h0:(iW b n).2=0): ∃k:Nat,n=k/\1<=k/\k<=63/\cP b=true/\(iW b n).1=b*64+k/\cP (b*64+k)=true/\cR (b*64+k)=b/\(b*64+k)<2^40/\1<=b:=by
 unfold iW at h0 ⊢
 split at h0
 ·cases h0
 rename_i h1
 split at h0
 ·cases h0
 rename_i h2
 rw[aj h1,aj h2]
 have hm:cP b=true:=by
  grind
 obtain⟨k,hk⟩:=uD (show 0<=n by omega)
 subst hk
 unfold cP at hm
 cases hn:eT b with
 |none=>grind
 |some l=>
  unfold iT at h2
  rw[hn] at h2
  simp only[iQ] at h2
  have hl:=tT hn
  have hl5:l.length<=5:=by omega
  have h5:=Oa hn hl5
  have aS:=OB hn
  have hp:2^(1+6*l.length)<=2^31:=DA (by decide) (by omega)
  have gw:1<=b:=by
   rcases Gy b with e|e
   ·subst e
    unfold eT at hn
    simp[eU] at hn
   ·exact e
  have hn6:eT (b*64+k)=some (k::l):=by
   unfold eT
   show eU (5+1) _=_
   rw[eU]
   grind
  refine⟨k,rfl,by omega,by omega,by grind,by simp,by unfold cP;rw[hn6];rfl,?_,by omega,gw⟩
  unfold cR iT
  grind
def amk (v:jj o) (h1:o.kind=1) {c:Int} (hc:0<=c) (hq:c<=o.aP-o.used) (hn:o.next<=63):jj {o with used:=o.used+c,next:=o.next+1}:=by
 obtain⟨b1,b2,b3,b4,b5⟩:=zf v.may h1
 refine⟨⟨v.ok.ai,v.ok.id,v.ok.bf,v.ok.ring,v.ok.cat⟩,?_,?_⟩
 ·have hm:=v.may
  unfold eS ko at hm ⊢
  rw[ax h1] at hm
  rw[ax (show({o with used:=o.used+c,next:=o.next+1}:Ob).kind=1 from h1)]
  unfold uF at hm ⊢
  grind
 ·have hn:=v.norm
  cases o with
  |mk tA kind ai aP used next data bf ring st=>
   simp only at h1
   subst h1
   unfold mo at hn ⊢
   grind
def amE {c:Cl} (k:ik c) {id:Nat} (aM:id<2^64) (hn:cP id=true) (hl:dF c.ai=true) (hm:vD l c.ai=0) (hf:ny l c=0) (hc:lL c.bf=true) (hk:1<=c.kind/\c.kind<=4):jj (dZ c id):=by
 have hs:(dQ c.ai.ps).length=0:=by
  unfold vD at hm
  grind
 have yL:=k.bf
 have ji:((if c.kind=3 then c.bf else []):List Nat).length<=c.bf.length:=by split<;>simp
 refine⟨⟨k.ai,aM,by simp only[dZ];omega,by simp[dZ,bz],?_⟩,?_,?_⟩
 ·simp only[dZ]
  intro x hx
  split at hx
  ·exact k.cat x hx
  ·cases hx
 ·unfold eS ko uF dZ
  simp only[hn,hl,hs,zR,xW,Dw]
  unfold ny at hf
  by_cases h1:c.kind=1
  ·rw[ax h1]
   have:0<=c.n/\c.n<=400:=by
    grind
   simp only[h1,dP,bz]
   grind
  rw[aj h1]
  rw[aj (fun hh=>h1 hh.1)] at hf
  by_cases h2:c.kind=2
  ·grind
  rw[aj h2]
  by_cases h3:c.kind=3
  ·grind
  rw[aj h3,ax (by omega)]
  rfl
 ·unfold mo dZ
  by_cases h1:c.kind=1
  ·simp only[h1,dP]
   simp[bz]
  by_cases h2:c.kind=2
  ·simp[h2,bz]
  by_cases h3:c.kind=3
  ·simp[h3,bz]
  ·simp[h1,h2,h3,bz]
def Tree (af:List Ob):Prop:= ∀o∈af,o.id≠1-> ∃b∈af,b.id=cR o.id/\b.kind=1/\((o.id%64:Nat):Int)<b.next
def Ws {b:Ob} (k:KS af) (T:Tree af) (hb:b∈af) (h0:(iW b.id b.next).2=0):a9 af (iW b.id b.next).1=none:=by
 obtain⟨n,e1,e2,e3,e4,e5,e6,e7,e8,e9⟩:=Jf h0
 rw[e5]
 cases ho:a9 af (b.id*64+n) with
 |none=>rfl
 |some o=>
  obtain⟨hm,hi⟩:=ix ho
  obtain⟨b',cF,h1,h2,h3⟩:=T o hm (by omega)
  rw[hi,e7] at h1
  rw[hi] at h3
  have:=lE k.aQ hb
  have h4:=lE k.aQ cF
  grind
def xw (l:Lb) (af:List Ob) (c:Cl) (box:Ob):Nat×Nat×List Ob:=
 if vD l c.ai≠0 then(vD l c.ai,0,af) else if ny l c≠0 then(ny l c,0,af) else if 63<box.next then(9,0,af) else if(iW box.id box.next).2≠0 then((iW box.id box.next).2,0,af) else if(mu box (cost (dZ c (iW box.id box.next).1))).2≠0 then((mu box (cost (dZ c (iW box.id box.next).1))).2,0,af) else(0,(iW box.id box.next).1,bC (bC af {(mu box (cost (dZ c (iW box.id box.next).1))).1 with next:=box.next+1}) (dZ c (iW box.id box.next).1))
def l8 (l:Lb) (af:List Ob) (c:Cl):Nat×Nat×List Ob:=
 if c.kind<1\/4<c.kind then(8,0,af) else if(bh af l c.id 1 (dW l)).2≠0 then((bh af l c.id 1 (dW l)).2,0,af) else xw l af c (bh af l c.id 1 (dW l)).1
def aFG (ok:aA P tb) (X:KX h xb a lb N M t ah af rp) {c:Cl} (k:ik c) (T:Tree af) (hl:dF c.ai=true) (EA:lL c.bf=true) (hN:N+1<2^19) (hM:M<128):
 ∃h' cT,al P 144 [.ptr xb 0, .agg (c.c tl)] h (.int .i64 (l8 (ah[t]'X.ht).ai af c).1) h'/\iH h xb a lb N M t ah (l8 (ah[t]'X.ht).ai af c).2.2 cT h'/\((l8 (ah[t]'X.ht).ai af c).1=0->cT={rp with ret:=(l8 (ah[t]'X.ht).ai af c).2.1}):=by
 obtain⟨V,hV⟩: ∃V,V=l8 (ah[t]'X.ht).ai af c:=⟨_,rfl⟩
 rw[<-hV]
 obtain⟨Q,hQ⟩: ∃Q:aa->Prop,∀h',Q h'↔ ∃cT,iH h xb a lb N M t ah V.2.2 cT h'/\(V.1=0->cT={rp with ret:=V.2.1}):=⟨_,fun _=>Iff.rfl⟩
 suffices hu: ∃h',al P 144 [.ptr xb 0, .agg (c.c aC)] h (.int .i64 V.1) h'/\Q h' by
  obtain⟨h',c1,hq⟩:=hu
  obtain⟨cT,hq⟩:=(hQ h').1 hq
  exact⟨h',cT,xp c1,hq⟩
 unfold l8 at hV
 refine ok.dr ahc ?_
 have fC: ∀{e:Nat} {H:aa},e≠0->Old h H->V=(e,0,af)->Q H:=by
  intro e H he o hv
  refine(hQ _).2 ⟨rp,?_⟩
  rw[hv]
  exact⟨X.fin o,fun h=>absurd h he⟩
 simp+decide only[sv,ahc,aue,ed]
 generalize hY:aa.at _ _ _=Y
 have oY:Old h Y:=by rw[<-hY];exact(Old.refl h).at (ak _)
 have cY:cellsOf Y h.next=some (c.c aC):=by rw[<-hY];exact aq (by simp[aa.at];try rfl)
 have nY:Y.next=h.next+1:=by rw[<-hY];simp[aa.at]
 simp only[ed] at cY
 refine V7 (Rw ?_)
 generalize hK:wL _ _=K1
 have kr: ∀(ρ:Env) (H:aa),ρ 4= .int .i64 V.1->Q H->K1 .ret ρ H:=by
  intro ρ H r4 hq
  rw[<-hK]
  exact⟨by show Option.map ja (ft ρ H [mQ.tmp 4])=_;simp[ft,C8,ja,r4],hq⟩
 have kg: ∀(ρ:Env) (H:aa),ρ 4= .int .i64 V.1->Q H->K1 (.goto 0) ρ H:=by
  intro ρ H r4 hq
  rw[<-hK]
  refine aKt rfl ?_
  refine Rw ?_
  simp+decide only[sv,Xb,r4,xi]
  exact⟨rfl,hq⟩
 clear hK
 simp+decide only[sv,aud,auc]
 generalize hZ:aa.at _ _ _=Z
 have oZ:Old Y Z:=by rw[<-hZ];exact((Old.refl Y).at (ak _)).at (by omega)
 have nZ:Z.next=h.next+3:=by rw[<-hZ];simp[aa.at,nY]
 have z1:cellsOf Z Y.next=some (bz.c mS):=by rw[<-hZ];exact aq (by simp[aa.at,nY];rfl)
 have z2:cellsOf Z (Y.next+1)=some (bz.c mS):=by rw[<-hZ];exact aq (by simp[aa.at,nY];rfl)
 have z0:cellsOf Z h.next=_:=(show cellsOf Z h.next=cellsOf Y h.next by unfold cellsOf;rw[oZ.get _ (by omega)]).trans cY
 have hold:=oY.trans oZ
 have XZ:=X.old hold
 simp only[yD] at z1 z2
 have s1:c.kind<1\/1<=c.kind:=by omega
 by_cases k1:c.kind<1
 ·have e1:(c.kind<1)=True:=bW k1
  rw[ax (.inl k1)] at hV
  simp+decide only[sv,Qi,abu,z0,e1,xi]
  exact kr _ _ (by rw[hV];rfl) (fC (by decide) hold hV)
 have e1:(c.kind<1)=False:=bk k1
 by_cases k4:4<c.kind
 ·have e4:(4<c.kind)=True:=bW k4
  rw[ax (.inr k4)] at hV
  simp+decide only[sv,Qi,abu,z0,e1,e4,xi]
  exact kr _ _ (by rw[hV];rfl) (fC (by decide) hold hV)
 have e4:(4<c.kind)=False:=bk k4
 rw[aj (by omega)] at hV
 simp+decide only[sv,Qi,aub,z0,e1,e4,xi]
 refine ao (Bg ok XZ k.id (ok.dV _ rfl) (q:=dW (ah[t]'X.ht).ai) (fun o h' hl o'=>RR ok (XZ.old o') (tl:=aC) hl)) ?_
 have eD:=oq (l:=(ah[t]'X.ht).ai) (id:=c.id) (kind:=1) (q:=dW (ah[t]'X.ht).ai) X.root
 generalize bh af (ah[t]'X.ht).ai c.id 1 (dW (ah[t]'X.ht).ai)=R at*
 obtain⟨o,e⟩:=R
 simp only at hV eD
 simp+decide only[sv,dT,z1]
 obtain⟨W,hW⟩: ∃W,W=Z.set Y.next (some (.cells (o.c aC))):=⟨_,rfl⟩
 have hW':=hW
 simp only[dT] at hW'
 rw[<-hW']
 have oW:Old h W:=by rw[hW];exact hold.set (by omega)
 have w1:cellsOf W Y.next=some (o.c aC):=by rw[hW];exact aq (by simp[aa.set])
 have w0:cellsOf W h.next=_:=(show cellsOf W h.next=cellsOf Z h.next by rw[hW];unfold cellsOf;simp only[aa.set];grind).trans z0
 have w2:cellsOf W (Y.next+1)=_:=(show cellsOf W (Y.next+1)=cellsOf Z (Y.next+1) by rw[hW];unfold cellsOf;simp only[aa.set];grind).trans z2
 have nW:W.next=h.next+3:=by rw[hW,<-nZ];rfl
 have XW:=X.old oW
 simp only[dT] at w1
 generalize hρ:put _ _ _=ρ1
 have r0:ρ1 0= .ptr xb 0:=by rw[<-hρ];rfl
 have r3:ρ1 3= .ptr h.next 0:=by rw[<-hρ];rfl
 have r4:ρ1 4= .int .i64 e:=by rw[<-hρ];rfl
 have r5:ρ1 5= .ptr Y.next 0:=by rw[<-hρ];rfl
 have r6:ρ1 6= .ptr (Y.next+1) 0:=by rw[<-hρ];rfl
 have r7:ρ1 7= .int .u64 0:=by rw[<-hρ];rfl
 clear hρ
 by_cases he:e=0
 case neg=>
  rw[ax he] at hV
  have bP:((e:Int)=0)=False:=bk (by omega)
  simp+decide only[sv,abt,r4,bP,xi]
  exact kg _ _ (by rw[hV];exact r4) (fC he oW hV)
 subst he
 rw[aj (fun h=>h rfl)] at hV
 obtain⟨eC,bO,_⟩:=eD rfl
 have v:=XW.k.ks.val o eC
 simp+decide only[sv,abt,r4,xi]
 have xx:=XW.x
 obtain⟨rt,hx⟩:=xx
 have cx:=aq hx
 obtain⟨ct,hle,iY⟩:=XW.th
 have lx:=XW.lx
 have l2:=XW.k.l2
 have lg:t*12+2<=(aI aH ah).flatten.length:=by omega
 have q0:h.next<W.next:=by omega
 have q1:Y.next<W.next:=by omega
 have q2:Y.next+1<W.next:=by omega
 refine bq 11 rfl rfl ?_
 simp+decide only[sv,aua,r0,r3,cx,ct,w0,lx,l2,q0,lg,iY]
 refine dX (aGX (a:=(ah[t]'X.ht).ai) (b:=c.ai) (ta:= .au) (fO:= .au) ok X.ai k.ai) (ba (ak _)) ?_
 unfold xw at hV
 obtain⟨B,hB⟩: ∃B,B=W.clean 11:=⟨_,rfl⟩
 have oB:Old W B:=by rw[hB];exact(Old.refl W).clean
 have nB:B.next=h.next+14:=by rw[hB];show W.next+11=_;omega
 rw[<-hB]
 clear hB
 have b1:cellsOf B Y.next=_:=(show cellsOf B Y.next=cellsOf W Y.next by unfold cellsOf;rw[oB.get _ (by omega)]).trans w1
 have b0:cellsOf B h.next=_:=(show cellsOf B h.next=cellsOf W h.next by unfold cellsOf;rw[oB.get _ (by omega)]).trans w0
 have b2:cellsOf B (Y.next+1)=_:=(show cellsOf B (Y.next+1)=cellsOf W (Y.next+1) by unfold cellsOf;rw[oB.get _ (by omega)]).trans w2
 have HN:=oW.trans oB
 have XB:=X.old HN
 simp+decide only[sv,r0]
 by_cases hm:vD (ah[t]'X.ht).ai c.ai=0
 case neg=>
  rw[ax hm] at hV
  have pg:((vD (ah[t]'X.ht).ai c.ai:Int)=0)=False:=bk (by omega)
  simp+decide only[sv,abr,pg]
  exact kg _ _ (by rw[hV];rfl) (fC hm HN hV)
 rw[aj (fun h=>h hm)] at hV
 rw[hm]
 simp+decide only[sv,abr,at9,r0,r3,b0]
 refine ao (aGx ok XB (tl:=aC) k) ?_
 by_cases hf:ny (ah[t]'X.ht).ai c=0
 case neg=>
  rw[ax hf] at hV
  have wY:((ny (ah[t]'X.ht).ai c:Int)=0)=False:=bk (by omega)
  simp+decide only[sv,OP,wY]
  exact kg _ _ (by rw[hV];rfl) (fC hf HN hV)
 rw[aj (fun h=>h hf)] at hV
 rw[hf]
 obtain⟨bx1,bx2,bx3,bx4,bx5⟩:=zf v.may bO
 by_cases pS:63<o.next
 ·rw[ax pS] at hV
  have afF:(63<o.next)=True:=bW pS
  simp+decide only[sv,OP,Xe,al8,r5,b1,afF]
  exact kr _ _ (by rw[hV];rfl) (fC (by decide) HN hV)
 rw[aj pS] at hV
 have afF:(63<o.next)=False:=bk pS
 simp+decide only[sv,OP,Xe,al7,r5,b1,afF]
 refine ao (aID ok (box:=o.id) (n:=o.next) v.ok.id) ?_
 have il:=Jf (b:=o.id) (n:=o.next)
 have kZ:=Ws XB.k.ks T eC
 generalize iW o.id o.next=F at*
 obtain⟨id,fe⟩:=F
 simp only at hV il kZ
 by_cases hfe:fe=0
 case neg=>
  rw[ax hfe] at hV
  have wY:((fe:Int)=0)=False:=bk (by omega)
  simp+decide only[sv,Xd,wY]
  exact kg _ _ (by rw[hV];rfl) (fC hfe HN hV)
 subst hfe
 rw[aj (fun h=>h rfl)] at hV
 obtain⟨n,yR,tM,U9,e4',e5',e6',e7',e8',e9'⟩:=il rfl
 have kZ:=kZ rfl
 simp+decide only[sv,Xd,al6,r3,b0]
 have aN8:id<2^64:=by omega
 refine ao (aHu ok (id:=id) (tl:=aC) k) ?_
 have vo:=amE k aN8 (by grind) hl hm hf EA (by omega)
 generalize Ts:dZ c id=p at*
 simp+decide only[sv,r6,b2,dT]
 obtain⟨C,hC⟩: ∃C,C=B.set (Y.next+1) (some (.cells (p.c aC))):=⟨_,rfl⟩
 have hC':=hC
 simp only[dT] at hC'
 rw[<-hC']
 have oC:Old h C:=by rw[hC];exact HN.set (by omega)
 have d1:cellsOf C Y.next=_:=(show cellsOf C Y.next=cellsOf B Y.next by rw[hC];unfold cellsOf;simp only[aa.set];grind).trans b1
 have d2:cellsOf C (Y.next+1)=some (p.c aC):=by rw[hC];exact aq (by simp[aa.set])
 have nC:C.next=h.next+14:=by rw[hC];exact nB
 simp only[dT] at d2
 clear hC hC'
 generalize hρ:put _ _ _=ρ2
 have s0:ρ2 0= .ptr xb 0:=by rw[<-hρ];exact r0
 have s5:ρ2 5= .ptr Y.next 0:=by rw[<-hρ];exact r5
 have s6:ρ2 6= .ptr (Y.next+1) 0:=by rw[<-hρ];exact r6
 have s7:ρ2 7= .int .u64 id:=by rw[<-hρ];rfl
 clear hρ
 have q1:Y.next<C.next:=by omega
 have q2:Y.next+1<C.next:=by omega
 have hv:=Fg vo.may vo.norm
 have hcp:0<=cost p/\cost p<2^60:=by
  unfold cost
  omega
 refine jk 4 9 rfl (by omega) rfl ?_
 simp+decide only[sv,al5,s5,s6,d1,d2,q1,q2]
 refine dh (ajh ok (o:=p) (t:=aC) ⟨by omega,by omega⟩ (by omega)) (ba (ak _)) ?_
 simp+decide only[sv]
 refine dh (aJv ok (o:=o) (t:=aC) (c:=cost p) ⟨by omega,by omega⟩ ⟨by omega,by omega⟩ hcp.2) (ba (ak _)) ?_
 have AL:mu o (cost p)=(bz,10)\/mu o (cost p)=({o with used:=o.used+cost p},0)/\cost p<=o.aP-o.used:=by
  unfold mu
  grind
 generalize mu o (cost p)=A at*
 obtain⟨oo,ae⟩:=A
 simp only at hV
 simp+decide only[sv,dT,s5,d1,q1]
 refine⟨(jx q1).2 (ba (ak _)),?_⟩
 by_cases hae:ae=0
 case neg=>
  rw[ax hae] at hV
  have wY:((ae:Int)=0)=False:=bk (by omega)
  simp+decide only[sv,Xc,wY]
  exact kg _ _ (by rw[hV];rfl) (fC hae ((oC.trans (Old.refl C).clean).set (by omega)) hV)
 subst hae
 rw[aj (fun h=>h rfl)] at hV
 have AL:=AL.resolve_left (fun e=>by cases e)
 obtain⟨hoe,hle⟩:=AL
 obtain⟨E,hE⟩: ∃E,E=(C.clean 9).set Y.next (some (.cells (oo.c aC))):=⟨_,rfl⟩
 have hE':=hE
 simp only[dT] at hE'
 rw[<-hE']
 have oE:Old h E:=by rw[hE];exact(oC.trans (Old.refl C).clean).set (by omega)
 have g1:cellsOf E Y.next=some (oo.c aC):=by rw[hE];exact aq (by simp[aa.set])
 have g2:cellsOf E (Y.next+1)=_:=(show cellsOf E (Y.next+1)=cellsOf C (Y.next+1) by rw[hE];unfold cellsOf;simp only[aa.set,aa.clean];grind).trans d2
 have nE:E.next=h.next+23:=by rw[hE];show C.next+9=_;omega
 clear hE hE'
 have hoo:oo={o with used:=o.used+cost p}:=(Prod.mk.inj hoe).1
 have Mi:IntKind.wrap .i64 (oo.next+1)=oo.next+1:=bj (by grind) (by grind)
 simp only[dT] at g1
 simp+decide only[sv,Xc,al4,s5,g1,Mi]
 generalize hρ:put _ _ _=ρ3
 have u0:ρ3 0= .ptr xb 0:=by rw[<-hρ];exact s0
 have u4:ρ3 4= .int .i64 0:=by rw[<-hρ];rfl
 have u5:ρ3 5= .ptr Y.next 0:=by rw[<-hρ];exact s5
 have u6:ρ3 6= .ptr (Y.next+1) 0:=by rw[<-hρ];exact s6
 have u7:ρ3 7= .int .u64 id:=by rw[<-hρ];exact s7
 clear hρ
 obtain⟨B2,hB2⟩: ∃B2,B2={o with used:=o.used+cost p,next:=o.next+1}:=⟨_,rfl⟩
 have eB2:B2={oo with next:=o.next+1}:=by rw[hB2,hoo]
 obtain⟨G,hG⟩: ∃G,G=E.set Y.next (some (.cells (B2.c aC))):=⟨_,rfl⟩
 have U5:=hG
 rw[eB2] at U5
 simp only[dT] at U5
 rw[show oo.next=o.next by rw[hoo],<-U5]
 have oG:Old h G:=by rw[hG];exact oE.set (by omega)
 have i1:cellsOf G Y.next=some (B2.c aC):=by rw[hG];exact aq (by simp[aa.set])
 have i2:cellsOf G (Y.next+1)=_:=(show cellsOf G (Y.next+1)=cellsOf E (Y.next+1) by rw[hG];unfold cellsOf;simp only[aa.set];grind).trans g2
 have nG:G.next=h.next+23:=by rw[hG];exact nE
 clear hG U5
 simp only[dT] at i1
 rw[<-eB2] at hV
 have XG:=X.old oG
 obtain⟨Ud,qX⟩:=XG.x
 have tO:=aq qX
 have lx2:=XG.lx
 have q3:Y.next<G.next:=by omega
 have ck2:=aq XG.k.top
 have lk2:=XG.k.l1
 refine bq 6 rfl rfl ?_
 simp+decide only[sv,al3,u0,u5,tO,i1,lx2,q3]
 have vb:jj B2:=by rw[hB2];exact amk v bO hcp.1 hle (by omega)
 have XC:=XG.old ((Old.refl G).clean (n:=6))
 obtain⟨H1,cN,fQ,X1,ir,lp⟩:=Kf ok XC (o:=B2) (tl:=aC) vb (fun o' eV=>by
  have dB:B2.id=o.id/\B2.kind=1:=by grind
  have hmo:=ix eV
  have AJ:=lE XW.k.ks.aQ eC
  grind) (by omega) hM
 refine dX cN (lp.free XG.k.eO) ?_
 simp+decide only[sv,al2]
 have eO:=X.k.eO
 have lC:(G.clean 6).next=G.next+6:=rfl
 have dB:B2.id=o.id/\B2.kind=1:=by grind
 have j2:cellsOf H1 (Y.next+1)=_:=(show cellsOf H1 (Y.next+1)=cellsOf G (Y.next+1) by
  unfold cellsOf
  rw[lp.2 _ (by omega) (fun e=>by grind) (fun e=>by grind) (fun e=>by grind)]
  simp only[aa.clean]
  grind).trans i2
 have nH1:=lp.1
 obtain⟨rt3,Mx⟩:=X1.x
 have M4:=aq Mx
 have lx3:=X1.lx
 have q4:Y.next+1<H1.next:=by omega
 refine bq 6 rfl rfl ?_
 simp+decide only[sv,u0,u6,M4,j2,lx3,q4]
 rw[aj (by omega)] at X1
 have X2:=X1.old ((Old.refl H1).clean (n:=6))
 have aS5:p.id=id:=by rw[<-Ts];rfl
 obtain⟨H2,cI,pK,X3,iq,tE⟩:=Kf ok X2 (o:=p) (tl:=aC) vo (fun o' eV=>by
  rw[tS XG.k.ks.aQ,aS5,aj (by omega),kZ] at eV
  cases eV) (by omega) hM
 refine dX cI (tE.free X1.k.eO) ?_
 obtain⟨rt4,hx4⟩:=X3.x
 have cx4:=aq hx4
 simp+decide only[sv,al1,Xb,u0,u4,u7,cx4]
 refine kr _ _ (by rw[hV];rfl) ((hQ _).2 ?_)
 rw[hV]
 have lC2:(H1.clean 6).next=H1.next+6:=rfl
 have Cx:XF h H1 a lb xb:=(XF.old (oG.trans (Old.refl G).clean)).trans lp.xf (.inl rfl)
 have afs:fQ=lb\/h.next<=fQ:=by
  omega
 have xf2:XF h H2 a lb xb:=(Cx.trans (XF.old (lb:=lb) (Old.refl H1).clean) (.inl rfl)).trans tE.xf afs
 refine⟨{rp with ret:=id},⟨pK,N+1+1,_,X3.yp (cT:={rp with ret:=id}),xf2.ym,?_,by omega,by grind⟩,fun _=>rfl⟩
 omega
structure Dr where
 is:Bool
 err:Nat
 th:Th
 af:List Ob
 ret:Nat
 data:List UInt8
def iO (t:Nat) (x:Th) (af:List Ob) (c:Cl) (done:Int):Dr:=
 if c.op=1 then⟨true,(mO t x).1,(mO t x).2.2,af,(mO t x).2.1,[]⟩
 else if c.op=2 then⟨true,(ou x c.ai).1,(ou x c.ai).2,af,0,[]⟩
 else if c.op=3 then⟨true,(l8 x.ai af c).1,x,(l8 x.ai af c).2.2,(l8 x.ai af c).2.1,[]⟩
 else if c.op=4 then⟨true,(lJ x.ai af c).1,x,af,0,(lJ x.ai af c).2⟩
 else if c.op=5 then⟨true,(iN x.ai af c).1,x,(iN x.ai af c).2,0,[]⟩
 else if c.op=6 then⟨true,(kA x.ai af c).1,x,(kA x.ai af c).2,0,[]⟩
 else if c.op=7 then⟨true,(mE x af c).1,(mE x af c).2,af,0,[]⟩
 else if c.op=8 then⟨true,(kH x.ai af c).1,x,(kH x.ai af c).2,0,[]⟩
 else if c.op=9 then⟨(gN x af c).1,(gN x af c).2.1,(gN x af c).2.2.1,(gN x af c).2.2.2.1,0,(gN x af c).2.2.2.2⟩
 else if c.op=10 then⟨(gz x af c done).1,(gz x af c done).2.1,(gz x af c done).2.2.1,(gz x af c done).2.2.2.1,(gz x af c done).2.2.2.2,[]⟩
 else if c.op=11 then⟨true,(lI x.ai af c).1,x,af,(lI x.ai af c).2.1,(lI x.ai af c).2.2⟩
 else if c.op=12 then⟨true,0,x,af,t,cE x.ai⟩
 else if c.op=13 then⟨true,0,x,af,0,[]⟩
 else⟨true,2,x,af,0,[]⟩
def dE (t:Nat) (x:Th) (af:List Ob) (c:Cl) (done:Int):Dr:=if(c.op=2\/c.op=3)/\names c.ai=false then⟨true,4,x,af,0,[]⟩ else iO t x af c done
def iH.from (o:Old h Y) (e:iH Y xb a lb N M t ah af rp h'):iH h xb a lb N M t ah af rp h':=by
 obtain⟨aW,N',M',X,xf,hl,hN,hM⟩:=e
 refine⟨aW,N',M',X,(XF.old (lb:=lb) o).trans xf (.inl rfl),?_,hN,hM⟩
 rcases hl with e|e
 ·exact .inl e
 ·exact .inr (fm o.next e)
def aEY (h:aa) (xb:Nat) (a:KA) (lb N M t:Nat) (ah:List Th) (rp:Rp) (D:Dr) (h':aa):Prop:= ∃cT,iH h xb a lb N M t (ah.set t D.th) D.af cT h'/\(D.is=true->D.err=0->cT={rp with ret:=D.ret,data:=D.data})
def aGy (ok:aA P tb) (X:KX h xb a lb N M t ah af rp) {c:Cl} (k:ik c) (kZ:c.op=3->Tree af/\dF c.ai=true/\lL c.bf=true) (hN:N+1<2^19) (hM:M<128) (dU:c.op=6->af.length<=12) (ho:0<=(ah[t]'X.ht).own) (hr:rp.ret=0) (hd:rp.data=[]):
 ∃h',al P 95 [.ptr xb 0, .agg (c.c tl), .int .i64 done] h (.aE [.bool (dE t (ah[t]'X.ht) af c done).is, .int .i64 (dE t (ah[t]'X.ht) af c done).err]) h'/\aEY h xb a lb N M t ah rp (dE t (ah[t]'X.ht) af c done) h':=by
 obtain⟨V,hV⟩: ∃V,V=dE t (ah[t]'X.ht) af c done:=⟨_,rfl⟩
 rw[<-hV]
 obtain⟨Q,hQ⟩: ∃Q:aa->Prop,∀h',Q h'↔aEY h xb a lb N M t ah rp V h':=⟨_,fun _=>Iff.rfl⟩
 suffices hu: ∃h',al P 95 [.ptr xb 0, .agg (c.c aC), .int .i64 done] h (.aE [.bool V.is, .int .i64 V.err]) h'/\Q h' by
  obtain⟨h',c1,hq⟩:=hu
  refine⟨h',al.au ?_,(hQ h').1 hq⟩
  simp only[AV.a8,AV.strip,xm]
  exact c1
 refine ok.dr c95 ?_
 have i5:ah.set t (ah[t]'X.ht)=ah:=u9 X.ht
 have er: ∀n d,({rp with ret:=n,data:=d}:Rp)={rp with ret:=n,data:=d}:=fun _ _=>rfl
 have erd: ∀n,({rp with ret:=n}:Rp)={rp with ret:=n,data:=[]}:=fun n=>by rw[<-hd]
 have err: ∀d,({rp with data:=d}:Rp)={rp with ret:=0,data:=d}:=fun d=>by rw[<-hr]
 have aUZ:rp={rp with ret:=0,data:=[]}:=by rw[<-hr,<-hd]
 have aUP:=k.GM
 simp+decide only[sv,c95,axm,axl,ed]
 generalize hY:aa.at _ _ _=Y
 have oY:Old h Y:=by rw[<-hY];exact(Old.refl h).at (ak _)
 have cY:cellsOf Y h.next=some (c.c aC):=by rw[<-hY];exact aq (by simp[aa.at];try rfl)
 have nY:Y.next=h.next+1:=by rw[<-hY];simp[aa.at]
 simp only[ed] at cY
 have XY:=X.old oY
 generalize iY:ah[t]'X.ht=x at*
 unfold dE at hV
 by_cases Ai:(c.op=2\/c.op=3)/\names c.ai=false
 ·rw[ax Ai] at hV
  have hq:Q Y:=(hQ _).2 ⟨rp,by rw[hV,i5];exact X.fin oY,fun _ e=>by grind⟩
  rcases Ai.1 with e|e
  ·have e2:(c.op=2)=True:=bW e
   simp+decide only[sv,pB,cY,e2]
   refine ao (EX ok (l:=c.ai) (t:= .au) (by omega)) ?_
   rw[Ai.2]
   simp+decide only[sv,adj]
   exact⟨by rw[hV];rfl,hq⟩
  ·have e2:(c.op=2)=False:=bk (by omega)
   have e3:(c.op=3)=True:=bW e
   simp+decide only[sv,pB,cY,e2,e3]
   refine ao (EX ok (l:=c.ai) (t:= .au) (by omega)) ?_
   rw[Ai.2]
   simp+decide only[sv,adj]
   exact⟨by rw[hV];rfl,hq⟩
 rw[aj Ai] at hV
 unfold iO at hV
 by_cases h1:c.op=1
 ·rw[ax h1] at hV
  have e1:(c.op=1)=True:=bW h1
  have z2:(c.op=2)=False:=bk (by omega)
  have z3:(c.op=3)=False:=bk (by omega)
  simp+decide only[sv,pB,qL,qK,axk,cY,z2,z3,e1]
  obtain⟨h1,hc,he⟩:=aHF ok XY (by grind)
  rw[iY] at hc he
  refine ao hc ?_
  simp+decide only[sv,qC]
  refine⟨by rw[hV];rfl,(hQ _).2 ⟨_,by rw[hV];exact he.from oY,fun _ e=>?_⟩⟩
  grind
 rw[aj h1] at hV
 have n1:(c.op=1)=False:=bk h1
 by_cases h2:c.op=2
 ·rw[ax h2] at hV
  have e2:(c.op=2)=True:=bW h2
  have z3:(c.op=3)=False:=bk (by omega)
  simp+decide only[sv,pB,cY,e2]
  refine ao (EX ok (l:=c.ai) (t:= .au) (by omega)) ?_
  have jZ:names c.ai=true:=by
   grind
  rw[jZ]
  simp+decide only[sv,qL,qK,rO,axj,cY,e2,n1]
  obtain⟨h1,hc,he⟩:=aFF ok XY (tl:=aC) k
  rw[iY] at hc he
  refine ao hc ?_
  simp+decide only[sv,qC]
  exact⟨by rw[hV];rfl,(hQ _).2 ⟨_,by rw[hV];exact he.from oY,fun _ e=>by grind⟩⟩
 rw[aj h2] at hV
 have n2:(c.op=2)=False:=bk h2
 by_cases h3:c.op=3
 ·rw[ax h3] at hV
  have e3:(c.op=3)=True:=bW h3
  simp+decide only[sv,pB,cY,n2,e3]
  refine ao (EX ok (l:=c.ai) (t:= .au) (by omega)) ?_
  have jZ:names c.ai=true:=by
   grind
  rw[jZ]
  simp+decide only[sv,qL,qK,rO,sV,am0,cY,e3,n1,n2]
  obtain⟨T,hl,EA⟩:=kZ h3
  obtain⟨h1,uL,hc,he,wP⟩:=aFG ok XY (tl:=aC) k T hl EA hN hM
  rw[iY] at hc he wP
  refine ao hc ?_
  simp+decide only[sv,qC]
  refine⟨by rw[hV];rfl,(hQ _).2 ⟨uL,by rw[hV,i5];exact he.from oY,fun _ e=>?_⟩⟩
  grind
 rw[aj h3] at hV
 have n3:(c.op=3)=False:=bk h3
 by_cases h4:c.op=4
 ·rw[ax h4] at hV
  have e4:(c.op=4)=True:=bW h4
  simp+decide only[sv,pB,qL,qK,rO,sV,tY,amZ,cY,e4,n1,n2,n3]
  obtain⟨h1,uL,hc,he,wP⟩:=aGu ok XY (tl:=aC) k
  rw[iY] at hc wP
  refine ao hc ?_
  simp+decide only[sv,qC]
  refine⟨by rw[hV];rfl,(hQ _).2 ⟨uL,by rw[hV,i5];exact he.from oY,fun _ e=>?_⟩⟩
  grind
 rw[aj h4] at hV
 have n4:(c.op=4)=False:=bk h4
 by_cases h5:c.op=5
 ·rw[ax h5] at hV
  have e5:(c.op=5)=True:=bW h5
  simp+decide only[sv,pB,qL,qK,rO,sV,tY,vG,amY,cY,e5,n1,n2,n3,n4]
  obtain⟨h1,hc,he⟩:=aFE ok XY (tl:=aC) k
  rw[iY] at hc he
  refine ao hc ?_
  simp+decide only[sv,qC]
  exact⟨by rw[hV];rfl,(hQ _).2 ⟨_,by rw[hV,i5];exact he.from oY,fun _ e=>by grind⟩⟩
 rw[aj h5] at hV
 have n5:(c.op=5)=False:=bk h5
 by_cases h6:c.op=6
 ·rw[ax h6] at hV
  have e6:(c.op=6)=True:=bW h6
  simp+decide only[sv,pB,qL,qK,rO,sV,tY,vG,xE,amX,cY,e6,n1,n2,n3,n4,n5]
  obtain⟨h1,hc,he⟩:=aFI ok XY (tl:=aC) k (by omega) hM (dU h6)
  rw[iY] at hc he
  refine ao hc ?_
  simp+decide only[sv,qC]
  exact⟨by rw[hV];rfl,(hQ _).2 ⟨_,by rw[hV,i5];exact he.from oY,fun _ e=>by grind⟩⟩
 rw[aj h6] at hV
 have n6:(c.op=6)=False:=bk h6
 by_cases h7:c.op=7
 ·rw[ax h7] at hV
  have e7:(c.op=7)=True:=bW h7
  simp+decide only[sv,pB,qL,qK,rO,sV,tY,vG,xE,zq,amW,cY,e7,n1,n2,n3,n4,n5,n6]
  obtain⟨h1,hc,he⟩:=aFH ok XY (tl:=aC) k
  rw[iY] at hc he
  refine ao hc ?_
  simp+decide only[sv,qC]
  exact⟨by rw[hV];rfl,(hQ _).2 ⟨_,by rw[hV];exact he.from oY,fun _ e=>by grind⟩⟩
 rw[aj h7] at hV
 have n7:(c.op=7)=False:=bk h7
 by_cases h8:c.op=8
 ·rw[ax h8] at hV
  have e8:(c.op=8)=True:=bW h8
  simp+decide only[sv,pB,qL,qK,rO,sV,tY,vG,xE,zq,BF,amV,cY,e8,n1,n2,n3,n4,n5,n6,n7]
  obtain⟨h1,hc,he⟩:=aGs ok XY (tl:=aC) k (by omega) hM
  rw[iY] at hc he
  refine ao hc ?_
  simp+decide only[sv,qC]
  exact⟨by rw[hV];rfl,(hQ _).2 ⟨_,by rw[hV,i5];exact he.from oY,fun _ e=>by grind⟩⟩
 rw[aj h8] at hV
 have n8:(c.op=8)=False:=bk h8
 by_cases h9:c.op=9
 ·rw[ax h9] at hV
  have e9:(c.op=9)=True:=bW h9
  simp+decide only[sv,pB,qL,qK,rO,sV,tY,vG,xE,zq,BF,De,amU,cY,e9,n1,n2,n3,n4,n5,n6,n7,n8]
  obtain⟨h1,uL,hc,he,wP⟩:=aGt ok XY (tl:=aC) k (by omega) hM
  rw[iY] at hc he wP
  refine ao hc ?_
  simp+decide only[sv,qC]
  refine⟨by rw[hV];rfl,(hQ _).2 ⟨uL,by rw[hV];exact he.from oY,fun e0 e=>?_⟩⟩
  grind
 rw[aj h9] at hV
 have n9:(c.op=9)=False:=bk h9
 by_cases jv:c.op=10
 ·rw[ax jv] at hV
  have EJ:(c.op=10)=True:=bW jv
  simp+decide only[sv,pB,qL,qK,rO,sV,tY,vG,xE,zq,BF,De,FM,amT,cY,EJ,n1,n2,n3,n4,n5,n6,n7,n8,n9]
  obtain⟨h1,uL,hc,he,wP⟩:=aGw ok XY (tl:=aC) (done:=done) k
  rw[iY] at hc he wP
  refine ao hc ?_
  simp+decide only[sv,qC]
  refine⟨by rw[hV];rfl,(hQ _).2 ⟨uL,by rw[hV];exact he.from oY,fun e0 e=>?_⟩⟩
  grind
 rw[aj jv] at hV
 have wJ:(c.op=10)=False:=bk jv
 by_cases m4:c.op=11
 ·rw[ax m4] at hV
  have Va:(c.op=11)=True:=bW m4
  simp+decide only[sv,pB,qL,qK,rO,sV,tY,vG,xE,zq,BF,De,FM,Jl,amS,cY,Va,n1,n2,n3,n4,n5,n6,n7,n8,n9,wJ]
  obtain⟨h1,uL,hc,he,wP⟩:=aGr ok XY (tl:=aC) k hr
  rw[iY] at hc wP
  refine ao hc ?_
  simp+decide only[sv,qC]
  refine⟨by rw[hV];rfl,(hQ _).2 ⟨uL,by rw[hV,i5];exact he.from oY,fun _ e=>?_⟩⟩
  grind
 rw[aj m4] at hV
 have Eb:(c.op=11)=False:=bk m4
 by_cases dU:c.op=12
 ·rw[ax dU] at hV
  have e12:(c.op=12)=True:=bW dU
  simp+decide only[sv,pB,qL,qK,rO,sV,tY,vG,xE,zq,BF,De,FM,Jl,O5,cY,e12,n1,n2,n3,n4,n5,n6,n7,n8,n9,wJ,Eb]
  obtain⟨rt,hx⟩:=XY.x
  have cx:=aq hx
  obtain⟨ct,hle,cS⟩:=XY.th
  rw[iY] at cS
  have lx:=XY.lx
  have l2:=XY.k.l2
  have lg:t*12+2<=(aI aH ah).flatten.length:=by omega
  have i6:=X.ai
  rw[iY] at i6
  have ht4:=X.tv.len
  have UP:=X.ht
  have Mi:IntKind.wrap .u64 (t:Int)=t:=eo (by omega)
  refine jk 14 23 rfl (by omega) rfl ?_
  simp+decide only[sv,amR,cx,ct,lx,l2,lg,cS]
  refine dh (NF ok (b:=[]) (t:= .full) (l:=x.ai) (t':= .au) i6 (by simp)) (ba (ak _)) ?_
  simp+decide only[sv,cx,lx,Mi,xr]
  refine⟨(jx lx).2 (ba (ak _)),(jx lx).2 (ba (ak _)),?_⟩
  have XC:=(XY.old ((Old.refl Y).clean (n:=23))).yp (cT:={rp with ret:=t,data:=cE x.ai}) (tl:= .au)
  simp+decide only[sv,qC]
  exact⟨by rw[hV];rfl,(hQ _).2 ⟨{rp with ret:=t,data:=cE x.ai},by rw[hV,i5];exact⟨lb,N,M,XC,(XF.old (oY.trans (Old.refl Y).clean)).ym, .inl rfl,by omega,by omega⟩,fun _ _=>by rw[hV]⟩⟩
 rw[aj dU] at hV
 have Mn:(c.op=12)=False:=bk dU
 by_cases rh:c.op=13
 ·rw[ax rh] at hV
  have e13:(c.op=13)=True:=bW rh
  simp+decide only[sv,pB,qL,qK,rO,sV,tY,vG,xE,zq,BF,De,FM,Jl,O5,XJ,qC,cY,e13,n1,n2,n3,n4,n5,n6,n7,n8,n9,wJ,Eb,Mn]
  exact⟨by rw[hV];rfl,(hQ _).2 ⟨rp,by rw[hV,i5];exact X.fin oY,fun _ _=>by grind⟩⟩
 rw[aj rh] at hV
 have n13:(c.op=13)=False:=bk rh
 simp+decide only[sv,pB,qL,qK,rO,sV,tY,vG,xE,zq,BF,De,FM,Jl,O5,XJ,amQ,qC,cY,n1,n2,n3,n4,n5,n6,n7,n8,n9,wJ,Eb,Mn,n13]
 exact⟨by rw[hV];rfl,(hQ _).2 ⟨rp,by rw[hV,i5];exact X.fin oY,fun _ e=>by grind⟩⟩
def fH (x:Th):Th:={x with does:=0,id:=0,to:=0,done:=0,n:=0}
def Rp.c (r:Rp) (t:aL):List AV:=[.int .i64 r.Fv, .int .i64 r.err, .int .u64 r.ret, .vs (BS r.data) t]
def fY:Rp:=⟨0,0,0,[]⟩
structure Cr where
 r:Rp
 is:Bool
 ah:List Th
 af:List Ob
 deriving DecidableEq
def told (t:Nat) (D:Dr) (ah:List Th):Cr:=⟨if D.is=false then fY else if D.err≠0 then⟨t,D.err,0,[]⟩ else⟨t,0,D.ret,D.data⟩,D.is,ah.set t D.th,D.af⟩
def hP (t:Nat) (ah:List Th) (x:Th) (af:List Ob) (c:Cl) (done:Int):Cr:=told t (dE t (fH x) af c done) ah
def lA (h:aa) (a:KA) (lb N M:Nat) (ah:List Th) (af:List Ob) (h':aa):Prop:= ∃aW N' M',KH h' a aW N' M' ah af (ff af)/\KF h h' a lb/\(aW=lb\/h.next<=aW)/\N'<=N+2/\M'<=M+1/\TV ah/\ ∃r,a9 af 1=some r
def Cr.v (r:Cr):AV:= .aE [.agg (r.r.c .au), .bool r.is]
def VB (ok:aA P tb) (K:KH h a lb N M ah af (ff af)) (tv:TV ah) (root: ∃r,a9 af 1=some r) (ht) {c:Cl} (k:ik c) (kZ:c.op=3->Tree af/\dF c.ai=true/\lL c.bf=true) (hN:N+1<2^19) (hM:M<128) (dU:c.op=6->af.length<=12) (ho:0<=ah[t].own):
 ∃h',al P 46 [.ptr a.kb 0, .int .i64 t, .agg (c.c tl), .int .i64 done] h (hP t ah ah[t] af c done).v h'/\lA h a lb N M (hP t ah ah[t] af c done).ah (hP t ah ah[t] af c done).af h':=by
 obtain⟨V,hV⟩: ∃V,V=hP t ah ah[t] af c done:=⟨_,rfl⟩
 rw[<-hV]
 obtain⟨Q,hQ⟩: ∃Q:aa->Prop,∀h',Q h'↔lA h a lb N M V.ah V.af h':=⟨_,fun _=>Iff.rfl⟩
 obtain⟨Q2,sj⟩: ∃Q2:AV->aa->Prop,∀v h',Q2 v h'↔(v.strip=V.v/\Q h'):=⟨_,fun _ _=>Iff.rfl⟩
 suffices hu: ∃v h',al P 46 [.ptr a.kb 0, .int .i64 t, .agg (c.c aC), .int .i64 done] h v h'/\Q2 v h' by
  obtain⟨v,h',c1,yI⟩:=hu
  obtain⟨hv,hq⟩:=(sj _ _).1 yI
  refine⟨h',al.au ?_,(hQ h').1 hq⟩
  simp only[AV.a8,AV.strip,xm]
  rw[<-hv]
  exact c1.strip
 unfold hP at hV
 refine ok.kP c46 ?_
 have eO:=K.eO
 simp+decide only[sv,c46,aBe,ed]
 generalize hX:aa.at _ _ _=X
 have xo:Old h X:=by rw[<-hX];exact((Old.refl h).at (ak _)).at (by omega)
 have x0:cellsOf X h.next=some (c.c aC):=by rw[<-hX];exact aq (by simp[aa.at];rfl)
 have x1:cellsOf X (h.next+1)=some (fY.c .full):=by rw[<-hX];exact aq (by simp[aa.at];rfl)
 have xn:X.next=h.next+2:=by rw[<-hX];simp[aa.at]
 have uZ:=K.old xo
 have ck:=aq uZ.top
 have aS:(t:Int)<(ah.length:Int):=by omega
 simp+decide only[sv,aBd,ck,aS]
 generalize hY:aa.at _ _ _=Y
 have oY:Old X Y:=by rw[<-hY];exact(Old.refl X).at (ak _)
 have y2:Y.get X.next=some (.cells [.ptr a.kb 0, .ptr a.tb (t*12), .int .i64 t, .int .i64 t, .int .i64 0, .int .u64 0, .vs [] .full]):=by rw[<-hY];simp[aa.at]
 have yn:Y.next=h.next+3:=by rw[<-hY];simp[aa.at,xn]
 have y0:cellsOf Y h.next=_:=(show cellsOf Y h.next=cellsOf X h.next by unfold cellsOf;rw[oY.get _ (by omega)]).trans x0
 have y1:cellsOf Y (h.next+1)=_:=(show cellsOf Y (h.next+1)=cellsOf X (h.next+1) by unfold cellsOf;rw[oY.get _ (by omega)]).trans x1
 have hold:=xo.trans oY
 have XY:KX Y X.next a lb N M t ah af ⟨t,0,0,[]⟩:=⟨uZ.old oY,⟨.full,y2⟩,by omega,fun e=>by grind,fun e=>by grind,fun e=>by grind,ht,tv,root⟩
 have cy:=aq y2
 obtain⟨ct,hle,_⟩:=XY.Lr
 have l2:=K.l2
 have qe: ∀{x x':Th} {j:Nat} {v:AV},(j+1<=12)->List.take j (x.c aH)++[v]++List.drop (j+1) (x.c aH)=x'.c aH->List.take (t*12+j) (aI aH (ah.set t x)).flatten++[v]++List.drop (t*12+j+1) (aI aH (ah.set t x)).flatten=(aI aH (ah.set t x')).flatten/\t*12+j+1<=(aI aH (ah.set t x)).flatten.length:=by
  intro x x' j v hj My
  have:=pt (l:=ah.set t x) (t:=t) (by simpa using ht) (j:=j) (v:=[v]) (x':=x') hj (by grind)
  rw[rH] at this
  refine⟨this,?_⟩
  rw[kS l7,gI,kE];omega
 have e0:ah.set t ah[t]=ah:=u9 ht
 have s1:=qe (x:=ah[t]) (x':={ah[t] with does:=0}) (j:=6) (v:= .int .i64 0) (by omega) (by simp[lT])
 rw[e0] at s1
 have s2:=qe (x:={ah[t] with does:=0}) (x':={ah[t] with does:=0,id:=0}) (j:=7) (v:= .int .u64 0) (by omega) (by simp[lT])
 have s3:=qe (x:={ah[t] with does:=0,id:=0}) (x':={ah[t] with does:=0,id:=0,to:=0}) (j:=8) (v:= .int .u64 0) (by omega) (by simp[lT])
 have s4:=qe (x:={ah[t] with does:=0,id:=0,to:=0}) (x':={ah[t] with does:=0,id:=0,to:=0,done:=0}) (j:=9) (v:= .int .i64 0) (by omega) (by simp[lT])
 have s5:=qe (x:={ah[t] with does:=0,id:=0,to:=0,done:=0}) (x':={ah[t] with does:=0,id:=0,to:=0,done:=0,n:=0}) (j:=10) (v:= .int .i64 0) (by omega) (by simp[lT])
 simp+decide only[sv,aBc,aBb,cy,ct,s1,s2,s3,s4,s5,@set_set]
 generalize hρ:put _ _ _=ρ1
 have r0:ρ1 1= .int .i64 t:=by rw[<-hρ];rfl
 have r3:ρ1 3= .int .i64 done:=by rw[<-hρ];rfl
 have r6:ρ1 6= .ptr h.next 0:=by rw[<-hρ];rfl
 have r8:ρ1 8= .ptr (h.next+1) 0:=by rw[<-hρ];rfl
 have bK:ρ1 10= .ptr X.next 0:=by rw[<-hρ];rfl
 clear hρ
 obtain⟨W,hW⟩: ∃W,W=Y.set a.tb (some (.cells (aI aH (ah.set t (fH ah[t]))).flatten)):=⟨_,rfl⟩
 have hW':=hW
 unfold fH at hW'
 rw[<-hW']
 have XW:KX W X.next a lb N M t (ah.set t (fH ah[t])) af ⟨t,0,0,[]⟩:=by
  have tI:=tv.ai _ (bw ht)
  rw[hW];exact XY.lO (x:=fH ah[t]) tI
 have xfW:XF h W a lb X.next:=by rw[hW];exact(XF.old hold).lO
 have ntb: ∀b,h.next<=b->b≠a.tb:=fun b hb=>by omega
 have w0:cellsOf W h.next=_:=(show cellsOf W h.next=cellsOf Y h.next by rw[hW];unfold cellsOf;simp only[aa.set];simp_all).trans y0
 have w1:cellsOf W (h.next+1)=_:=(show cellsOf W (h.next+1)=cellsOf Y (h.next+1) by rw[hW];unfold cellsOf;simp only[aa.set];simp_all).trans y1
 have nW:W.next=h.next+3:=by rw[hW];exact yn
 clear hW hW'
 simp only[ed] at w0
 have hx:(ah.set t (fH ah[t]))[t]'XW.ht=fH ah[t]:=by simp
 obtain⟨h1,hc,hD⟩:=aGy ok XW (tl:=aC) (done:=done) k kZ hN hM dU (by rw[hx];exact ho) rfl rfl
 rw[hx] at hc hD
 generalize hDD:dE t (fH ah[t]) af c done=D at*
 obtain⟨uL,⟨fQ,N1,M1,X1,Cx,ir,hN1,hM1⟩,wP⟩:=hD
 rw[rH] at X1
 simp+decide only[sv,aBa,r3,r6,bK,w0]
 refine ao hc ?_
 simp+decide only[sv,xr]
 have ltw:=XW.k.eO
 have Ly: ∀b,h.next<=b-> ¬FK a b/\ ¬FA a lb b/\ ¬FS a b:=fun b hb=>⟨fun e=>by grind,fun e=>by grind,fun e=>by grind⟩
 have z1:cellsOf h1 (h.next+1)=_:=(show cellsOf h1 (h.next+1)=cellsOf W (h.next+1) by
  unfold cellsOf
  rw[Cx.2 _ (by omega) (Ly _ (by omega)).1 (Ly _ (by omega)).2.1 (Ly _ (by omega)).2.2 (by omega)]).trans w1
 have nh1:=Cx.1
 have l1x:=X1.lx
 obtain⟨rt,pM⟩:=X1.x
 have H9:=aq pM
 have aT: ¬X.next=h.next+1:=by omega
 have afs:fQ=lb\/h.next<=fQ:=by
  omega
 have hq: ∀(b:Option lB),V.ah=ah.set t D.th->V.af=D.af->Q (h1.set (h.next+1) b):=by
  intro b e1 e2
  refine(hQ _).2 ?_
  rw[e1,e2]
  have hz: ∀b',b'≠h.next+1->(h1.set (h.next+1) b).get b'=h1.get b':=fun b' cF=>by simp only[aa.set];grind
  have lt1:=X1.k.eO
  refine⟨fQ,N1,M1,X1.k.more (h':=h1.set (h.next+1) b) (ak _) (fun b' cF hf=>hz b' ?_) (ak _) (ak _),⟨by show h.next<=h1.next;omega,fun b' cF f1 f2 f3=>?_⟩,afs,hN1,hM1,X1.tv,X1.root⟩
  ·intro e
   subst e
   rcases hf with f|f|f
   ·grind
   ·rcases ir with e|e
    ·grind
    ·rcases f with f|f|f
     ·exact(Ly _ (by omega)).2.1 (.inl f)
     ·exact(Ly _ (by omega)).2.1 (.inr (.inl f))
     ·omega
   grind
  ·rw[hz b' (by omega),Cx.2 b' (by omega) f1 f2 f3 (by omega),xfW.2 b' cF f1 f2 f3 (by omega)]
 simp only[Rp.c] at z1
 unfold told at hV
 cases pj:D.is with
 |false=>
  simp+decide only[sv,Sz,aA9,r8,z1,eK]
  rw[pj] at hV
  exact(sj _ _).2 ⟨by rw[hV];rfl,hq _ (by rw[hV]) (by rw[hV])⟩
 |true=>
  by_cases he:D.err=0
  ·have bP:((D.err:Int)=0)=True:=bW (by omega)
   simp+decide only[sv,Sz,aes,aA7,r8,bK,z1,H9,bP,eK]
   have e1:=wP pj he
   rw[pj,he] at hV
   refine(sj _ _).2 ⟨?_,hq _ (by rw[hV]) (by rw[hV])⟩
   rw[hV,e1]
   simp only[AV.strip,AV.a8,iz]
   rfl
  ·have bP:((D.err:Int)=0)=False:=bk (by omega)
   simp+decide only[sv,Sz,aes,aA8,r0,r8,z1,bP,eK]
   rw[pj,aj (by decide),ax he] at hV
   exact(sj _ _).2 ⟨by rw[hV];rfl,hq _ (by rw[hV]) (by rw[hV])⟩
end
section
open Go
variable {P:Program} {h:aa} {a:KA} {lb N M:Nat} {ah:List Th} {af:List Ob} {g:Nat->Option (List UInt8)} {xb:Nat} {rp:Rp}
def bU (t:Int) (ah:List Th) (af:List Ob) (c:Cl):Cr:=if mV ah t=false then⟨fY,false,ah,af⟩ else if jB ah t then⟨fY,false,ah,af⟩ else match ah[t.toNat]? with
 |some x=>hP t.toNat ah x af c 0
 |none=>⟨fY,false,ah,af⟩
def iv:Cl:=⟨0,0,0,0,0,0,⟨0,[]⟩,qV,[],[]⟩
def gf (t:Int) (ah:List Th) (af:List Ob):Cr:=if jB ah t=false then⟨fY,false,ah,af⟩ else match ah[t.toNat]? with
 |some x=>if x.does=1 then hP t.toNat ah x af {iv with op:=9,id:=x.id} 0 else hP t.toNat ah x af {iv with op:=10,id:=x.id,to:=x.to,n:=x.n} x.done
 |none=>⟨fY,false,ah,af⟩
structure qd (ah:List Th) (af:List Ob):Prop where
 tv:TV ah
 root: ∃r,a9 af 1=some r
 tree:Tree af
 own: ∀x∈ah,0<=x.own/\x.id<2^64/\x.to<2^64
def lA.same (K:KH h a lb N M ah af (ff af)) (I:qd ah af) (o:Old h h'):lA h a lb N M ah af h':=⟨lb,N,M,K.old o, .old o, .inl rfl,by omega,by omega,I.tv,I.root⟩
def lA.from (o:Old h Y) (e:lA Y a lb N M ah af h'):lA h a lb N M ah af h':=by
 obtain⟨aW,N',M',K,kf,hl,hN,hM,tv,rt⟩:=e
 refine⟨aW,N',M',K,(KF.old (lb:=lb) o).trans kf (.inl rfl),?_,hN,hM,tv,rt⟩
 rcases hl with e|e
 ·exact .inl e
 ·exact .inr (fm o.next e)
def lA.get (e:lA Y a lb N M ah af h1) (eO: ∀b,FK a b\/FA a lb b\/FS a b->b<h.next) (hi:h.next<=i) (yM:i<Y.next):h1.get i=Y.get i:=by
 obtain⟨fQ,N1,M1,K,kf,hl,hN,hM,tv,rt⟩:=e
 exact kf.2 i yM (fun e=>by grind) (fun e=>by grind) (fun e=>by grind)
def lA.kK (o:Old h Y) (e:lA Y a lb N M ah af h1) (eO: ∀b,FK a b\/FA a lb b\/FS a b->b<h.next) (hi:h.next<=i) (yM:i<Y.next) (b):lA h a lb N M ah af (h1.set i b):=by
 obtain⟨fQ,N1,M1,K,kf,hl,hN,hM,tv,rt⟩:=e
 have hz: ∀b',b'≠i->(h1.set i b).get b'=h1.get b':=fun b' cF=>by simp only[aa.set];grind
 have on:=o.next
 refine⟨fQ,N1,M1,K.more (h':=h1.set i b) (ak _) (fun b' cF hf=>hz b' ?_) (ak _) (ak _),⟨by have:=kf.1;show h.next<=h1.next;omega,fun b' cF f1 f2 f3=>?_⟩,?_,hN,hM,tv,rt⟩
 ·intro e
  subst e
  rcases hf with f|f|f
  ·grind
  ·rcases hl with e|e
   ·grind
   ·rcases f with f|f|f
    ·have:=eO _ (.inr (.inl (.inl f)));omega
    ·have:=eO _ (.inr (.inl (.inr (.inl f))));omega
    ·omega
  grind
 ·rw[hz b' (by omega),kf.2 b' (by omega) f1 f2 f3,o.get b' cF]
 omega
def aIY (ok:aA P tb) (K:KH h a lb N M ah af (ff af)) (I:qd ah af) {t:Int} {c:Cl} (k:ik c) (kZ:c.op=3->dF c.ai=true/\lL c.bf=true) (hN:N+1<2^19) (hM:M<128) (dU:c.op=6->af.length<=12):
 ∃h',al P 16 [.ptr a.kb 0, .int .i64 t, .agg (c.c tl)] h (bU t ah af c).v h'/\lA h a lb N M (bU t ah af c).ah (bU t ah af c).af h':=by
 obtain⟨V,hV⟩: ∃V,V=bU t ah af c:=⟨_,rfl⟩
 rw[<-hV]
 obtain⟨Q,hQ⟩: ∃Q:aa->Prop,∀h',Q h'↔lA h a lb N M V.ah V.af h':=⟨_,fun _=>Iff.rfl⟩
 obtain⟨Q2,sj⟩: ∃Q2:AV->aa->Prop,∀v h',Q2 v h'↔(v.strip=V.v/\Q h'):=⟨_,fun _ _=>Iff.rfl⟩
 suffices hu: ∃v h',al P 16 [.ptr a.kb 0, .int .i64 t, .agg (c.c aC)] h v h'/\Q2 v h' by
  obtain⟨v,h',c1,yI⟩:=hu
  obtain⟨hv,hq⟩:=(sj _ _).1 yI
  refine⟨h',al.au ?_,(hQ h').1 hq⟩
  simp only[AV.a8,AV.strip,xm]
  rw[<-hv]
  exact c1.strip
 unfold bU at hV
 refine ok.kP Ig ?_
 have eO:=K.eO
 simp+decide only[sv,Ig,aDw,ed]
 generalize hX:aa.at _ _ _=X
 have xo:Old h X:=by rw[<-hX];exact((Old.refl h).at (ak _)).at (by omega)
 have x0:cellsOf X h.next=some (c.c aC):=by rw[<-hX];exact aq (by simp[aa.at];rfl)
 have x1:cellsOf X (h.next+1)=some (fY.c .full):=by rw[<-hX];exact aq (by simp[aa.at];rfl)
 have xn:X.next=h.next+2:=by rw[<-hX];simp[aa.at]
 have uZ:=K.old xo
 simp only[ed] at x0
 simp only[Rp.c] at x1
 have no:V=⟨fY,false,ah,af⟩-> ∀b,Q (X.set (h.next+1) b):=fun e b=>(hQ _).2 (by
  rw[e]
  exact(lA.same uZ I (Old.refl X)).kK xo eO (by omega) (by omega) b)
 simp+decide only[sv,aDv]
 refine ao (ajA ok uZ) ?_
 cases pj:mV ah t with
 |false=>
  rw[ax pj] at hV
  simp+decide only[sv,ae1,x1,eK]
  exact(sj _ _).2 ⟨by rw[hV];rfl,no hV _⟩
 |true=>
  rw[aj (by simp[pj])] at hV
  simp+decide only[sv,Ig]
  refine ao (EW ok uZ) ?_
  cases hb:jB ah t with
  |true=>
   rw[ax hb] at hV
   simp+decide only[sv,ae1,x1,eK]
   exact(sj _ _).2 ⟨by rw[hV];rfl,no hV _⟩
  |false=>
   rw[aj (by simp[hb])] at hV
   obtain⟨n,rfl,hn⟩:=IW pj
   rw[i9,bn hn] at hV
   simp only at hV
   have oO:=I.own _ (bw hn)
   obtain⟨h1,hc,hE⟩:=VB ok uZ I.tv I.root hn (tl:=aC) (done:=0) k (fun e=>⟨I.tree,kZ e⟩) hN hM dU oO.1
   rw[<-hV] at hc hE
   have z1:cellsOf h1 (h.next+1)=_:=(show cellsOf h1 (h.next+1)=cellsOf X (h.next+1) by unfold cellsOf;rw[hE.get eO (by omega) (by omega)]).trans x1
   simp+decide only[sv,aDu,x0]
   refine ao hc ?_
   simp+decide only[sv,z1,Cr.v,Rp.c,eK]
   exact(sj _ _).2 ⟨by simp only[AV.strip,AV.a8,iz];rfl,(hQ _).2 (hE.kK xo eO (by omega) (by omega) _)⟩
def aIS (ok:aA P tb) (K:KH h a lb N M ah af (ff af)) (I:qd ah af) {t:Int} (hN:N+1<2^19) (hM:M<128):
 ∃h',al P 28 [.ptr a.kb 0, .int .i64 t] h (gf t ah af).v h'/\lA h a lb N M (gf t ah af).ah (gf t ah af).af h':=by
 obtain⟨V,hV⟩: ∃V,V=gf t ah af:=⟨_,rfl⟩
 rw[<-hV]
 obtain⟨Q,hQ⟩: ∃Q:aa->Prop,∀h',Q h'↔lA h a lb N M V.ah V.af h':=⟨_,fun _=>Iff.rfl⟩
 obtain⟨Q2,sj⟩: ∃Q2:AV->aa->Prop,∀v h',Q2 v h'↔(v.strip=V.v/\Q h'):=⟨_,fun _ _=>Iff.rfl⟩
 suffices hu: ∃v h',al P 28 [.ptr a.kb 0, .int .i64 t] h v h'/\Q2 v h' by
  obtain⟨v,h',c1,yI⟩:=hu
  obtain⟨hv,hq⟩:=(sj _ _).1 yI
  refine⟨h',?_,(hQ h').1 hq⟩
  rw[<-hv]
  exact c1.strip
 unfold gf at hV
 refine ok.kP c28 ?_
 have eO:=K.eO
 simp+decide only[sv,c28,aCG]
 generalize hX:aa.at _ _ _=X
 have xo:Old h X:=by rw[<-hX];exact(Old.refl h).at (ak _)
 have x1:cellsOf X h.next=some (fY.c .full):=by rw[<-hX];exact aq (by simp[aa.at];rfl)
 have xn:X.next=h.next+1:=by rw[<-hX];simp[aa.at]
 have uZ:=K.old xo
 simp only[Rp.c] at x1
 have no:V=⟨fY,false,ah,af⟩-> ∀b,Q (X.set h.next b):=fun e b=>(hQ _).2 (by
  rw[e]
  exact(lA.same uZ I (Old.refl X)).kK xo eO (by omega) (by omega) b)
 simp+decide only[sv,aCF]
 refine ao (EW ok uZ) ?_
 cases hb:jB ah t with
 |false=>
  rw[ax hb] at hV
  simp+decide only[sv,aCE,x1,eK]
  exact(sj _ _).2 ⟨by rw[hV];rfl,no hV _⟩
 |true=>
  rw[aj (by simp[hb])] at hV
  have pj:mV ah t=true:=by
   unfold jB at hb
   grind
  obtain⟨n,rfl,hn⟩:=IW pj
  rw[i9,bn hn] at hV
  simp only at hV
  have oO:=I.own _ (bw hn)
  have ck:=aq uZ.top
  have ct:=aq uZ.aU
  have aS:(n:Int)<(ah.length:Int):=by omega
  have hle:(aI aH ah).flatten.length=ah.length*12:=by rw[kS l7,gI]
  have lg:n*12+12<=(aI aH ah).flatten.length:=by omega
  have cS:=IA (rows:=aI aH ah) (i:=n) (by rw[gI];exact hn) l7
  rw[show(aI aH ah)[n]'(by grind)=ah[n].c aH by simp[aI]] at cS
  generalize hx:ah[n]=x at*
  simp only[Th.c] at cS
  simp+decide only[sv,aCD,ck,ct,aS,lg,cS]
  generalize hY:aa.set _ _ _=Y
  have oY:Old X Y:=by rw[<-hY];exact((Old.refl X).at (ak _)).set (ak _)
  have cY:cellsOf Y X.next=some (x.c aH):=by rw[<-hY];exact aq (by simp[aa.set];try rfl)
  have nY:Y.next=X.next+1:=by rw[<-hY];simp[aa.at,aa.set]
  have hold:=xo.trans oY
  have KY:=K.old hold
  have y1:cellsOf Y h.next=_:=(show cellsOf Y h.next=cellsOf X h.next by unfold cellsOf;rw[oY.get _ (by omega)]).trans x1
  simp only[Th.c] at cY
  by_cases hd:x.does=1
  ·have jh:(x.does=1)=True:=bW hd
   rw[ax hd] at hV
   simp+decide only[sv,aeO,aCC,cY,jh]
   obtain⟨h1,hc,hE⟩:=VB ok KY I.tv I.root hn (c:={iv with op:=9,id:=x.id}) (tl:=fun _=> .full) (done:=0) ⟨Bu,bM _,oO.2.1,(by decide:0<2^64),(by decide:0<2^20),(by decide:0<2^16),fun _ h=>by cases h⟩ (fun e=>by cases e) hN hM (fun e=>by cases e) (by grind)
   rw[hx,<-hV] at hc hE
   have z1:cellsOf h1 h.next=_:=(show cellsOf h1 h.next=cellsOf Y h.next by unfold cellsOf;rw[hE.get eO (by omega) (by omega)]).trans y1
   refine ao hc ?_
   simp+decide only[sv,z1,Cr.v,Rp.c,eK]
   exact(sj _ _).2 ⟨by simp only[AV.strip,AV.a8,iz];rfl,(hQ _).2 (hE.kK hold eO (by omega) (by omega) _)⟩
  ·have jh:(x.does=1)=False:=bk hd
   rw[aj hd] at hV
   simp+decide only[sv,aeO,aCB,cY,jh]
   obtain⟨h1,hc,hE⟩:=VB ok KY I.tv I.root hn (c:={iv with op:=10,id:=x.id,to:=x.to,n:=x.n}) (tl:=fun _=> .full) (done:=x.done) ⟨Bu,bM _,oO.2.1,oO.2.2,(by decide:0<2^20),(by decide:0<2^16),fun _ h=>by cases h⟩ (fun e=>by cases e) hN hM (fun e=>by cases e) (by grind)
   rw[hx,<-hV] at hc hE
   have z1:cellsOf h1 h.next=_:=(show cellsOf h1 h.next=cellsOf Y h.next by unfold cellsOf;rw[hE.get eO (by omega) (by omega)]).trans y1
   refine ao hc ?_
   simp+decide only[sv,z1,Cr.v,Rp.c,eK]
   exact(sj _ _).2 ⟨by simp only[AV.strip,AV.a8,iz];rfl,(hQ _).2 (hE.kK hold eO (by omega) (by omega) _)⟩
end
section
open Go
variable {ah:List Th} {af:List Ob} {t:Nat}
def akj (hs:af.Pairwise (·.id< ·.id)):o∈bC af o:=by
 have:=tS (o:=o) (id:=o.id) hs
 rw[ax rfl] at this
 exact(ix this).1
def We {b:Ob} (hs:af.Pairwise (·.id< ·.id)) (hb:b∈af) (aT:b.id≠o.id):b∈bC af o:=by
 have:=tS (o:=o) (id:=b.id) hs
 rw[aj aT,lE hs hb] at this
 exact(ix this).1
def ID (hs:af.Pairwise (·.id< ·.id)) (T:Tree af) (h0:o0∈af) (e1:o.id=o0.id) (e2:o.kind=o0.kind) (e3:o0.next<=o.next):Tree (bC af o):=by
 have key: ∀x:Ob,x.id≠1->(∃b∈af,b.id=cR x.id/\b.kind=1/\((x.id%64:Nat):Int)<b.next)-> ∃b∈bC af o,b.id=cR x.id/\b.kind=1/\((x.id%64:Nat):Int)<b.next:=by
  rintro x _ ⟨b,hb,b1,b2,b3⟩
  by_cases e:b.id=o.id
  ·have CM:b=o0:=by
    have f1:=lE hs hb
    have f2:=lE hs h0
    grind
   subst CM
   exact⟨o,akj hs,by rw[e1,b1],by rw[e2,b2],by omega⟩
  ·exact⟨b,We hs hb e,b1,b2,b3⟩
 intro x hx h1
 rcases Bn hx with rfl|hx
 ·refine key _ h1 ?_
  rw[e1] at h1 ⊢
  exact T o0 h0 h1
 ·exact key _ h1 (T x hx h1)
def aJE {b:Ob} (hs:af.Pairwise (·.id< ·.id)) (T:Tree af) (hb:b∈af) (hn:a9 af o.id=none) (b1:b.id=cR o.id) (b2:b.kind=1) (b3:((o.id%64:Nat):Int)<b.next):Tree (bC af o):=by
 have aT: ∀x∈af,x.id≠o.id:=fun x hx e=>by
  have:=lE hs hx
  grind
 intro x hx h1
 rcases Bn hx with rfl|hx
 ·exact⟨b,We hs hb (aT b hb),b1,b2,b3⟩
 ·obtain⟨b',cF,q⟩:=T x hx h1
  exact⟨b',We hs cF (aT b' cF),q⟩
def aIA {id:Nat} (hm:cP id=true) (h1:id≠1):bu id=bu (cR id)++[id]:=by
 unfold cP at hm
 cases hn:eT id with
 |none=>grind
 |some l=>
  have cV:=hn
  unfold eT at hn
  rw[eU] at hn
  rw[aj h1] at hn
  split at hn
  ·rename_i hc
   obtain⟨m,hm,rfl⟩:=Option.map_eq_some_iff.1 hn
   have hp:cR id=id/64:=by unfold cR iT;rw[cV];simp
   have HU:eT (id/64)=some m:=Oa hm (by have:=tT hm;omega)
   unfold bu
   rw[hp,cV,HU]
   simp only[cQ]
   rw[B4,jz]
   congr 1
   ·refine xX fun j hj=>?_
    have mZ:=List.mem_range.1 hj
    rw[J5,<-Nat.pow_succ',show m.length+1-j=m.length-j+1 by omega]
   ·simp
  ·cases hn
def aJ4 {id:Nat} (hm:cP id=true) (h1:id≠1):cP (cR id)=true/\cR id<id:=by
 unfold cP at hm
 cases hn:eT id with
 |none=>grind
 |some l=>
  have cV:=hn
  unfold eT at hn
  rw[eU] at hn
  rw[aj h1] at hn
  split at hn
  ·rename_i hc
   obtain⟨m,hm,rfl⟩:=Option.map_eq_some_iff.1 hn
   have hp:cR id=id/64:=by unfold cR iT;rw[cV];simp
   have HU:eT (id/64)=some m:=Oa hm (by have:=tT hm;omega)
   rw[hp]
   exact⟨by unfold cP;rw[HU];rfl,by omega⟩
  ·cases hn
def aJ2 {id:Nat} (hm:cP id=true): ∀x∈bu id,x<=id:=by
 intro x hx
 by_cases h1:id=1
 ·subst h1
  have e:bu 1=[1]:=by decide
  grind
 ·obtain⟨ps,_,_,h3⟩:=aih hm h1
  grind
def aGk {id:Nat} (hm:cP id=true) (h1:id≠1) (hw:iA id kR=false):iA (cR id) kR=false:=by
 unfold iA at hw ⊢
 rw[aIA hm h1] at hw
 grind
def ah3 (hm:cP kR=true) (h1:kR≠1):iA (cR kR) kR=false:=by
 obtain⟨m1,m2⟩:=aJ4 hm h1
 unfold iA
 rw[<-Gx,GA]
 intro hh
 have:=aJ2 m1 _ hh
 omega
def N8 (hs:af.Pairwise (·.id< ·.id)):(kL kR af).Pairwise (·.id< ·.id):=hs.sublist List.filter_sublist
def jj.cP (v:jj o):cP o.id=true:=by
 have:=v.may
 unfold eS at this
 grind
def aJD (ks:KS af) (T:Tree af):Tree (kL kR af):=by
 intro o ho h1
 obtain⟨hm,hw⟩:=List.mem_filter.1 ho
 obtain⟨b,hb,b1,b2⟩:=T o hm h1
 refine⟨b,List.mem_filter.2 ⟨hb,?_⟩,b1,b2⟩
 rw[b1]
 simpa using aGk (ks.val o hm).cP h1 (by simpa using hw)
theorem aIx {c:Int}:(kY o c).next=o.next:=by unfold kY;split<;>rfl
def akR (ks:KS af) (T:Tree af) (ho:o∈af):Tree (tC af o d):=ID ks.aQ T ho rfl rfl (Int.le_refl _)
def aHD {c:Cl} (ks:KS af) (hr: ∃r,a9 af 1=some r) (T:Tree af):Tree (dE t x af c done).af:=by
 unfold dE
 by_cases o0:(c.op=2\/c.op=3)/\names c.ai=false
 ·grind
 rw[aj o0]
 unfold iO
 by_cases o1:c.op=1
 ·grind
 rw[aj o1]
 by_cases o2:c.op=2
 ·grind
 rw[aj o2]
 by_cases o3:c.op=3
 ·rw[ax o3]
  show Tree (l8 x.ai af c).2.2
  unfold l8
  split
  ·exact T
  have eD:=oq (l:=x.ai) (id:=c.id) (kind:=1) (q:=dW x.ai) hr
  generalize bh af x.ai c.id 1 (dW x.ai)=R at*
  obtain⟨o,e⟩:=R
  simp only at eD ⊢
  split
  ·exact T
  rename_i he
  obtain⟨eC,bO,_⟩:=eD (Classical.not_not.1 he)
  unfold xw
  split
  ·exact T
  split
  ·exact T
  split
  ·exact T
  split
  ·exact T
  rename_i il
  have il:=Classical.not_not.1 il
  split
  ·exact T
  rename_i AL
  have AL:=Classical.not_not.1 AL
  have kZ:=Ws ks T eC il
  obtain⟨n,e1,e2,e3,e4,e5,e6,e7,e8,e9⟩:=Jf il
  have hoe: ∃u,(mu o (cost (dZ c (iW o.id o.next).1))).1={o with used:=u}:=by
   unfold mu at AL ⊢
   grind
  obtain⟨u,hu⟩:=hoe
  rw[hu]
  have s1:=IE (o:={o with used:=u,next:=o.next+1}) ks.aQ
  have T1:=ID (o:={o with used:=u,next:=o.next+1}) ks.aQ T eC rfl rfl (by grind)
  show Tree (bC (bC af {o with used:=u,next:=o.next+1}) (dZ c (iW o.id o.next).1))
  refine aJE s1 T1 (b:={o with used:=u,next:=o.next+1}) (akj ks.aQ) ?_ ?_ bO ?_
  ·rw[tS ks.aQ]
   show(if(iW o.id o.next).1=o.id then _ else a9 af (iW o.id o.next).1)=none
   grind
  ·show o.id=cR (iW o.id o.next).1
   rw[e5,e7]
  ·show(((iW o.id o.next).1%64:Nat):Int)<o.next+1
   omega
 rw[aj o3]
 by_cases o4:c.op=4
 ·grind
 rw[aj o4]
 by_cases o5:c.op=5
 ·rw[ax o5]
  show Tree (iN x.ai af c).2
  unfold iN
  have eD:=oq (l:=x.ai) (id:=c.id) (kind:=2) (q:=cM x.ai) hr
  generalize bh af x.ai c.id 2 (cM x.ai)=R at*
  obtain⟨o,e⟩:=R
  simp only at eD ⊢
  split
  ·exact T
  rename_i he
  obtain⟨eC,bO,_⟩:=eD (Classical.not_not.1 he)
  split
  ·exact akR ks T eC
  ·exact T
 rw[aj o5]
 by_cases o6:c.op=6
 ·rw[ax o6]
  show Tree (kA x.ai af c).2
  unfold kA
  split
  ·exact T
  rename_i h1
  have yN:=N4 (l:=x.ai) hr h1
  split
  ·exact T
  rename_i he
  obtain⟨_,b,hb,gw,jZ⟩:=yN (Classical.not_not.1 he)
  rw[hb,iQ]
  split
  ·exact T
  have si:=ix hb
  refine ID (o0:=b) (N8 ks.aQ) (aJD ks T) (List.mem_filter.2 ⟨si.1,?_⟩) OA.1 OA.2 (by rw[aIx];omega)
  rw[si.2,ah3 jZ h1];rfl
 rw[aj o6]
 by_cases o7:c.op=7
 ·grind
 rw[aj o7]
 by_cases o8:c.op=8
 ·rw[ax o8]
  show Tree (kH x.ai af c).2
  unfold kH
  have eD:=oq (l:=x.ai) (id:=c.id) (kind:=4) (q:=dW x.ai) hr
  generalize bh af x.ai c.id 4 (dW x.ai)=R at*
  obtain⟨o,e⟩:=R
  simp only at eD ⊢
  split
  ·exact T
  rename_i he
  obtain⟨eC,bO,_⟩:=eD (Classical.not_not.1 he)
  split
  ·exact T
  ·exact ID ks.aQ T eC rfl rfl (Int.le_refl _)
 rw[aj o8]
 by_cases o9:c.op=9
 ·rw[ax o9]
  show Tree (gN x af c).2.2.2.1
  unfold gN
  have eD:=oq (l:=x.ai) (id:=c.id) (kind:=4) (q:=dW x.ai) hr
  generalize bh af x.ai c.id 4 (dW x.ai)=R at*
  obtain⟨o,e⟩:=R
  simp only at eD ⊢
  split
  ·exact T
  rename_i he
  obtain⟨eC,bO,_⟩:=eD (Classical.not_not.1 he)
  split
  ·exact T
  ·exact ID ks.aQ T eC rfl rfl (Int.le_refl _)
 rw[aj o9]
 by_cases AD:c.op=10
 ·rw[ax AD]
  show Tree (gz x af c done).2.2.2.1
  unfold gz
  have eD:=oq (l:=x.ai) (id:=c.to) (kind:=2) (q:=cM x.ai) hr
  generalize bh af x.ai c.to 2 (cM x.ai)=R at*
  obtain⟨o,e⟩:=R
  simp only at eD ⊢
  split
  ·exact T
  split
  ·exact T
  rename_i he
  obtain⟨eC,bO,_⟩:=eD (Classical.not_not.1 he)
  split
  ·exact T
  unfold tD
  simp only
  split<;>exact akR ks T eC
 grind
def ai4:(dD x cs).2.own=x.own/\(dD x cs).2.id=x.id/\(dD x cs).2.to=x.to:=by unfold dD;grind
def aIV {c:Cl} (k:ik c) (ho:0<=x.own/\x.id<2^64/\x.to<2^64):0<=(dE t x af c done).th.own/\(dE t x af c done).th.id<2^64/\(dE t x af c done).th.to<2^64:=by
 unfold dE
 by_cases o0:(c.op=2\/c.op=3)/\names c.ai=false
 ·grind
 rw[aj o0]
 unfold iO
 by_cases o1:c.op=1
 ·rw[ax o1]
  show 0<=(mO t x).2.2.own/\(mO t x).2.2.id<2^64/\(mO t x).2.2.to<2^64
  unfold mO
  split
  ·exact ho
  split
  ·exact ho
  ·obtain⟨e1,e2,e3⟩:=ai4 (x:=x) (cs:=[1000+16*t+x.own.toNat+1])
   grind
 rw[aj o1]
 by_cases o2:c.op=2
 ·rw[ax o2]
  show 0<=(ou x c.ai).2.own/\(ou x c.ai).2.id<2^64/\(ou x c.ai).2.to<2^64
  unfold ou
  grind
 rw[aj o2]
 by_cases o3:c.op=3
 ·grind
 rw[aj o3]
 by_cases o4:c.op=4
 ·grind
 rw[aj o4]
 by_cases o5:c.op=5
 ·grind
 rw[aj o5]
 by_cases o6:c.op=6
 ·grind
 rw[aj o6]
 by_cases o7:c.op=7
 ·rw[ax o7]
  show 0<=(mE x af c).2.own/\(mE x af c).2.id<2^64/\(mE x af c).2.to<2^64
  unfold mE
  split
  ·exact ho
  ·obtain⟨e1,e2,e3⟩:=ai4 (x:=x) (cs:=(bh af x.ai c.id 3 (eI x.ai)).1.bf)
   omega
 rw[aj o7]
 by_cases o8:c.op=8
 ·grind
 rw[aj o8]
 by_cases o9:c.op=9
 ·rw[ax o9]
  show 0<=(gN x af c).2.2.1.own/\(gN x af c).2.2.1.id<2^64/\(gN x af c).2.2.1.to<2^64
  unfold gN
  split
  ·exact ho
  split
  ·exact⟨ho.1,k.id,ho.2.2⟩
  ·exact ho
 rw[aj o9]
 by_cases AD:c.op=10
 ·rw[ax AD]
  show 0<=(gz x af c done).2.2.1.own/\(gz x af c done).2.2.1.id<2^64/\(gz x af c done).2.2.1.to<2^64
  unfold gz
  split
  ·exact ho
  split
  ·exact ho
  split
  ·exact ho
  unfold tD
  simp only
  split
  ·exact⟨ho.1,k.id,k.to⟩
  ·exact ho
 grind
end
section
open Go
variable {P:Program} {h:aa} {a:KA} {lb N M:Nat} {ah:List Th} {af:List Ob}
structure KL (h:aa) (a:KA) (lb N M:Nat) (ah:List Th) (af:List Ob):Prop where
 k:KH h a lb N M ah af (ff af)
 inv:qd ah af
def KL.old (K:KL h a lb N M ah af) (o:Old h h'):KL h' a lb N M ah af:=⟨K.k.old o,K.inv⟩
def tR (h:aa) (a:KA) (lb N M:Nat) (ah:List Th) (af:List Ob) (h':aa):Prop:= ∃aW N' M',KL h' a aW N' M' ah af/\KF h h' a lb/\(aW=lb\/h.next<=aW)/\N'<=N+2/\M'<=M+1
def V0 {t:Nat} {c:Cl} (I:qd ah af) (k:ik c) (hx:0<=x.own/\x.id<2^64/\x.to<2^64): ∀y∈(hP t ah x af c done).ah,0<=y.own/\y.id<2^64/\y.to<2^64:=by
 intro y hy
 rcases List.mem_or_eq_of_mem_set hy with hy|rfl
 ·exact I.own y hy
 ·exact aIV k ⟨hx.1,(by decide:0<2^64),(by decide:0<2^64)⟩
def aim {t:Nat} {c:Cl} (I:qd ah af) (ks:KS af):Tree (hP t ah x af c done).af:=aHD ks I.root I.tree
def aLz {t:Int} {c:Cl} (I:qd ah af) (ks:KS af) (k:ik c) (tv:TV (bU t ah af c).ah) (rt: ∃r,a9 (bU t ah af c).af 1=some r):qd (bU t ah af c).ah (bU t ah af c).af:=by
 refine⟨tv,rt,?_,?_⟩<;>clear tv rt<;>unfold bU
 ·split
  ·exact I.tree
  split
  ·exact I.tree
  split
  ·exact aim I ks
  ·exact I.tree
 ·split
  ·exact I.own
  split
  ·exact I.own
  split
  ·rename_i x hx
   exact V0 I k (I.own x (iC hx))
  ·exact I.own
def aw3 {x:Th} (hx:0<=x.own/\x.id<2^64/\x.to<2^64):ik {iv with op:=9,id:=x.id}/\ik {iv with op:=10,id:=x.id,to:=x.to,n:=x.n}:=⟨⟨Bu,bM _,hx.2.1,(by decide:0<2^64),(by decide:0<2^20),(by decide:0<2^16),fun _ h=>by cases h⟩,⟨Bu,bM _,hx.2.1,hx.2.2,(by decide:0<2^20),(by decide:0<2^16),fun _ h=>by cases h⟩⟩
def aLw {t:Int} (I:qd ah af) (ks:KS af) (tv:TV (gf t ah af).ah) (rt: ∃r,a9 (gf t ah af).af 1=some r):qd (gf t ah af).ah (gf t ah af).af:=by
 refine⟨tv,rt,?_,?_⟩<;>clear tv rt<;>unfold gf
 ·split
  ·exact I.tree
  split
  ·split<;>exact aim I ks
  ·exact I.tree
 ·split
  ·exact I.own
  split
  ·rename_i x hx
   have ho:=I.own x (iC hx)
   split
   ·exact V0 I (aw3 ho).1 ho
   ·exact V0 I (aw3 ho).2 ho
  ·exact I.own
def KL.do (ok:aA P tb) (K:KL h a lb N M ah af) {t:Int} {c:Cl} (k:ik c) (kZ:c.op=3->dF c.ai=true/\lL c.bf=true) (hN:N+1<2^19) (hM:M<128) (dU:c.op=6->af.length<=12):
 ∃h',al P 16 [.ptr a.kb 0, .int .i64 t, .agg (c.c tl)] h (bU t ah af c).v h'/\tR h a lb N M (bU t ah af c).ah (bU t ah af c).af h':=by
 obtain⟨h',hc,aW,N',M',K',kf,hl,U2,MV,tv,rt⟩:=aIY ok K.k K.inv (t:=t) (tl:=tl) k kZ hN hM dU
 exact⟨h',hc,aW,N',M',⟨K',aLz K.inv K.k.ks k tv rt⟩,kf,hl,U2,MV⟩
def KL.go (ok:aA P tb) (K:KL h a lb N M ah af) {t:Int} (hN:N+1<2^19) (hM:M<128):
 ∃h',al P 28 [.ptr a.kb 0, .int .i64 t] h (gf t ah af).v h'/\tR h a lb N M (gf t ah af).ah (gf t ah af).af h':=by
 obtain⟨h',hc,aW,N',M',K',kf,hl,U2,MV,tv,rt⟩:=aIS ok K.k K.inv (t:=t) hN hM
 exact⟨h',hc,aW,N',M',⟨K',aLw K.inv K.k.ks tv rt⟩,kf,hl,U2,MV⟩
def rA:Lb:=⟨2,[]⟩
def tR.from (o:Old h Y) (e:tR Y a lb N M ah af h'):tR h a lb N M ah af h':=by
 obtain⟨aW,N',M',K,kf,hl,hN,hM⟩:=e
 refine⟨aW,N',M',K,(KF.old (lb:=lb) o).trans kf (.inl rfl),?_,hN,hM⟩
 rcases hl with e|e
 ·exact .inl e
 ·exact .inr (fm o.next e)
def tR.to (e:tR h a lb N M ah af h1) (o:Old h1 h'):tR h a lb N M ah af h':=by
 obtain⟨aW,N',M',K,kf,hl,hN,hM⟩:=e
 exact⟨aW,N',M',K.old o,kf.trans (KF.old (lb:=lb) o) (.inl rfl),hl,hN,hM⟩
def Wg:rA.ok:=⟨by decide,fun p hp=>(by cases hp),by decide⟩
def lz.vsr {t:aL} (hs: ∀r∈rows,r.length=sz):lz h (.vs rows t) sz rows where
 len:=rfl
 get i hi:=by
  have hlen:(rows[i]).length=sz:=hs _ (bw hi)
  refine⟨.vp rows[i] 0,?_,?_⟩
  ·simp only[kj]
   grind
  ·simp only[pC,cut,dP]
   grind
def qd.one (hn:n<=4):qd (List.replicate n (iV rA)) [Am.root q]:=by
 refine⟨⟨by simpa using hn,fun x hx=>?_⟩,⟨_,rfl⟩,fun o ho h1=>?_,fun x hx=>?_⟩
 ·rw[(List.mem_replicate.1 hx).2];exact⟨Wg,by decide⟩
 ·rw[List.mem_singleton.1 ho] at h1;exact absurd rfl h1
 ·rw[(List.mem_replicate.1 hx).2];exact⟨by decide,by decide,by decide⟩
end
section
open Go
variable {af:List Ob} {ah:List Th} {r o:Ob} {l:Lb} {id:Nat}
theorem pV {t:Nat} {c:Cl} (h: ¬((c.op=2\/c.op=3)/\names c.ai=false)):dE t x af c d=iO t x af c d:=aj h
theorem tR.kK {a:KA} (o:Old h Y) (e:tR Y a lb N M ah af h1) (eO: ∀b,FK a b\/FA a lb b\/FS a b->b<h.next) (hi:h.next<=i) (yM:i<Y.next) (b):tR h a lb N M ah af (h1.set i b):=by
 obtain⟨fQ,N1,M1,K,kf,hl,hN,hM⟩:=e
 have e2:lA Y a lb N M ah af h1:=⟨fQ,N1,M1,K.k,kf,hl,hN,hM,K.inv.tv,K.inv.root⟩
 obtain⟨pK,N2,M2,K2,tE,iq,hN2,A3,_⟩:=e2.kK o eO hi yM b
 exact⟨pK,N2,M2,⟨K2,K.inv⟩,tE,iq,hN2,A3⟩
end
section
open Go
variable {P:Program} {h:aa}
def aKV {v m:Nat}:IntKind.wrap .u8 ((v:Int).fdiv (2^(8*m)))=((uX v m).toNat:Int):=by
 have p2:(2:Int)^(8*m)=((2^(8*m):Nat):Int):=by grind
 have e1:(v:Int).fdiv (2^(8*m))=((v/2^(8*m):Nat):Int):=by grind
 rw[e1,Ft]
 simp[IntKind.wrap,IntKind.signed,IntKind.bits]
def Oj (ok:aA P tb) {b:List UInt8} {t:aL} {v n:Nat} (hn:n<=8) (hb:b.length<2^30): ∃v' h',al P 127 [.vs (BS b) t, .int .u64 v, .int .i64 n] h v' h'/\App h h' v' (BS (b++be v n))/\Old h h':=by
 refine ok.kP ahn ?_
 obtain⟨v1,h1,a1,a2,a3,a4,a5,a6,a7⟩:=(App.nil h h).app (Old.refl h) (bytes:=1) (sz:=1) (id:=h.next) (ak _) (BS b) rfl (by rw[aY];grind) (by rw[aY];grind)
 rw[kF] at a2
 have n0: ¬(n:Int)<0:=by omega
 have n8: ¬(8:Int)<(n:Int):=by omega
 simp+decide only[sv,ahn,avb,ava,au9,au8,iM,np,a1,n0,n8]
 let I:Nat->Env->aa->Prop:=fun m ρ H=>Old h H/\ ∃i pre,n=i+m/\be v n=pre++be v m/\pre.length=i/\ρ 1= .int .u64 v/\ρ 2= .int .i64 n/\ρ 8= .int .i64 i/\App h H (ρ 7) (BS (b++pre))
 refine dv I ?_ n ⟨a3,0,[],by omega,rfl,rfl,rfl,rfl,rfl,by rw[fE];exact a2⟩
 rintro m ρ H ⟨ho,i,pre,uT,LL,qY,r1,r2,r8,ha⟩
 cases m with
 |zero=>
  have av: ¬(i:Int)<(n:Int):=by omega
  have hA:=ha
  obtain⟨tt,hv7,_⟩:=ha
  simp+decide only[sv,abX,au5,r2,r8,av,hv7,eK]
  rw[LL,be,fE]
  grind
 |succ m=>
  have av:(i:Int)<(n:Int):=by omega
  have w1:IntKind.wrap .i64 ((n:Int)-1)=((n-1:Nat):Int):=by rw[bj]<;>omega
  have w2:IntKind.wrap .i64 (((n-1:Nat):Int)-i)=(m:Int):=by rw[bj]<;>omega
  have w3:IntKind.wrap .i64 (8*(m:Int))=((8*m:Nat):Int):=by rw[bj]<;>omega
  have w4: ¬((8*m:Nat):Int)<0:=by omega
  have w5:min (8*m) (IntKind.u64.bits)=8*m:=Gu (by show 8*m<=64;omega)
  have hw:=dj (show i<2^61 by omega)
  obtain⟨v',h2,b1,b2,b3,b4,b5,b6⟩:=ha.app ho (bytes:=1) (sz:=1) (id:=H.next) ho.next [[.int .u8 (uX v m).toNat]] dt.fl (by rw[aY];grind) (by rw[aY];grind)
  simp+decide only[sv,abX,au7,au6,r1,r2,r8,av,w1,w2,w3,w4,w5,aKV,b1,hw,fI]
  exact⟨m,by omega,b3,i+1,pre++[uX v m],by omega,by rw[LL,be];simp,by simp[qY],r1,r2,rfl,by rw[<-eR,<-JV];exact b2⟩
def Nq (ok:aA P tb) {b:List UInt8} {t:aL} (hl:l.ok) (hb:b.length<2^20):al P 83 [.vs (BS b) t, .agg (l.c t')] h (.vs (BS (b++cE l)) .au) h:=by
 refine ok.df (rf:=c83) rfl (bT rfl) dt.i7 ?_
 have hd:=hl.d
 have mW:=hl.len
 simp+decide only[sv,c83,ayb,Lb.c]
 obtain⟨X,hX⟩: ∃X,X=h.at h.next (.cells [.int .u8 l.d, .vs (aB.R l.ps) t']):=⟨_,rfl⟩
 have xo:Old h X:=by subst hX;exact(Old.refl h).at (ak _)
 have x1:cellsOf X h.next=some [.int .u8 l.d, .vs (aB.R l.ps) t']:=by subst hX;simp+decide only[sv]
 have xn:h.next<X.next:=by subst hX;simp[aa.at]
 rw[<-hX]
 refine m6 ?_
 have hfc: ∀j,(X.clean 12).get (X.next+j)=none\/j<=2:=fun j=> .inl (by simp only[aa.clean];grind)
 obtain⟨v1,h1,a1,a2,a3,a4,a5⟩:=(App.nil X (X.clean 12)).qT (Old.refl X).clean (bytes:=1) (sz:=1) (base:=X.next) (n:=12) (i:=2) (ak _) (fun j _=>hfc j) (BS b) rfl (by rw[aY];grind) (by rw[aY];grind)
 rw[kF] at a2
 simp+decide only[sv,aya,iM,np]
 refine⟨v1,h1,a1,a5,fun x hx=>by rw[a3.get x hx];exact((Old.refl X).clean.get x hx).symm,?_⟩
 have y1:cellsOf h1 h.next=some [.int .u8 l.d, .vs (aB.R l.ps) t']:=by unfold cellsOf at x1 ⊢;rw[a3.get _ xn];exact x1
 have w1:IntKind.wrap .u8 (l.ps.length:Int)=((l.ps.length%256:Nat):Int):=by rw[wrap_u8];unfold wG;simp;omega
 simp+decide only[sv,y1,xn,aB.aD,w1]
 obtain⟨v2,h2,b1,b2,b3,b4,b5⟩:=a2.qT a3 (bytes:=1) (sz:=1) (base:=X.next) (n:=12) (i:=10) (ak _) (fun j hj=>by
  by_cases jv:j<=10
  ·exact .inr jv
  ·exact .inl (a5 j (by omega) hj)) [[AV.int .u8 l.d],[AV.int .u8 ((l.ps.length%256:Nat):Int)]] iM (by rw[aY];grind) (by rw[aY];grind)
 have e2:BS b++[[AV.int .u8 l.d],[AV.int .u8 ((l.ps.length%256:Nat):Int)]]=BS (b++be l.d 1++be l.ps.length 1):=by
  rw[eR,<-JV]
  congr 1
  simp only[BS,be,eG,sQ,Gw,kF,Ft,Nat.mul_zero,Nat.pow_zero,Nat.div_one]
  grind
 rw[e2] at b2
 simp+decide only[sv,b1]
 refine⟨b5,fun x hx=>by rw[b3.get x hx,a3.get x hx],?_⟩
 simp+decide only[sv,ax9]
 let I:Nat->Env->aa->Prop:=fun n ρ H=>Old X H/\ ∃i:Nat,l.ps.length=i+n/\ρ 3= .ptr h.next 0/\ρ 5= .int .i64 i/\App X H (ρ 0) (BS (b++be l.d 1++be l.ps.length 1++(l.ps.take i).flatMap mI))
 refine dv I ?_ l.ps.length ⟨b3,0,by omega,rfl,rfl,by simp only[kD,sS,fE];exact b2⟩
 clear a1 a2 a3 a4 a5 b1 b2 b3 b4 b5 y1
 rintro n ρ H ⟨ho,i,aN,r3,r5,ha⟩
 have y1:cellsOf H h.next=some [.int .u8 l.d, .vs (aB.R l.ps) t']:=by unfold cellsOf at x1 ⊢;rw[ho.get _ xn];exact x1
 have yn:h.next<H.next:=by have:=ho.next;omega
 by_cases hi:i<l.ps.length
 ·have av:(i:Int)<(l.ps.length:Int):=by omega
  have aK:(0:Int)<=i:=by omega
  have hw:=dj (show i<2^61 by omega)
  have du:(aB.R l.ps)[i]? =some [.int .u16 l.ps[i].1, .int .u8 l.ps[i].2]:=aB.cj hi
  have CF:=hl.ps _ (bw hi)
  have w3:IntKind.wrap .u64 (l.ps[i].1:Int)=l.ps[i].1:=eo (by omega)
  obtain⟨t0,r0,_⟩:=id ha
  have qY:=V9 (l:=l.ps.take i)
  have tI:=uj i l.ps
  simp+decide only[sv,adx,r3,r5,y1,aB.aD,av]
  refine m6 ?_
  simp+decide only[sv,ax8,r0,r3,r5,y1,yn,aK,du,w3]
  obtain⟨v3,H3,c1,c2,c3⟩:=Oj ok (h:=H.clean 18) (b:=b++be l.d 1++be l.ps.length 1++(l.ps.take i).flatMap mI) (t:=t0) (v:=l.ps[i].1) (n:=2) (by omega) (by simp only[cw,bG];omega)
  have f3: ∀j,j<18->H3.get (H.next+j)=none:=fun j hj=>by
   rw[c3.get _ (by show H.next+j<H.next+18;omega)];simp only[aa.clean];grind
  refine⟨v3,H3,c1,fun j _ hj=>f3 j hj,fun x hx=>c3.get x (by show x<H.next+18;omega),?_⟩
  have y3:cellsOf H3 h.next=some [.int .u8 l.d, .vs (aB.R l.ps) t']:=by
   unfold cellsOf at y1 ⊢
   rw[c3.get _ (by show h.next<H.next+18;omega)];simp only[aa.clean];grind
  simp+decide only[sv,r3,r5,y3,yn,aK,du]
  have o3:Old H H3:=(Old.refl H).clean.trans c3
  have Vq:App H H3 v3 (BS (b++be l.d 1++be l.ps.length 1++(l.ps.take i).flatMap mI++be l.ps[i].1 2)):=by
   obtain⟨tt,e,q|⟨k,q1,q2,q3⟩⟩:=c2
   ·exact⟨tt,e, .inl q⟩
   ·exact⟨tt,e, .inr ⟨k,q1,by have:H.next+18<=k:=q2;omega,q3⟩⟩
  obtain⟨v4,h4,d1,d2,d3,d4,d5⟩:=Vq.qT o3 (bytes:=1) (sz:=1) (base:=H.next) (n:=18) (i:=16) (ak _) (fun j hj=> .inl (f3 j hj)) [[AV.int .u8 l.ps[i].2]] iM (by rw[aY];simp only[cw,bG,cQ,fI];omega) (by rw[aY];simp only[cw,bG,cQ,fI];omega)
  simp+decide only[sv,d1]
  refine⟨d5,fun x hx=>by rw[d3.get x hx,o3.get x hx],?_⟩
  simp+decide only[sv,ax7,r5,hw]
  refine⟨n-1,by omega,ho.trans d3,i+1,by omega,r3,rfl,?_⟩
  rw[lN hi,vX]
  have e4:BS (b++be l.d 1++be l.ps.length 1++(l.ps.take i).flatMap mI++be l.ps[i].1 2)++[[AV.int .u8 l.ps[i].2]]=BS (b++be l.d 1++be l.ps.length 1++((l.ps.take i).flatMap mI++[l.ps[i]].flatMap mI)):=by
   rw[show [l.ps[i]].flatMap mI=be l.ps[i].1 2++be l.ps[i].2 1 by simp[mI],<-eR,<-eR,<-JV (m:=be l.ps[i].2 1)]
   congr 1
   simp only[BS,be,eG,sQ,Ft,Nat.mul_zero,Nat.pow_zero,Nat.div_one]
   grind
  rw[e4] at d2
  obtain⟨tt,e,q|⟨k,q1,q2,q3⟩⟩:=d2
  ·exact⟨tt,e, .inl q⟩
  ·exact⟨tt,e, .inr ⟨k,q1,by have:=ho.next;omega,q3⟩⟩
 ·have av: ¬(i:Int)<(l.ps.length:Int):=by omega
  obtain⟨t0,r0,_⟩:=ha
  simp+decide only[sv,adx,ax6,r0,r3,r5,y1,aB.aD,av,aV]
  rw[bX (by omega)]
  exact⟨by rw[show b++be l.d 1++be l.ps.length 1++l.ps.flatMap mI=b++cE l by simp[cE]];exact dt.iy,(xo.trans ho).get⟩
end
section
open Go
theorem Xp {α:Type} {R:α->α->Prop} (zas: ∀a b,R a b-> ¬R b a): ∀{l m:List α},l.Pairwise R->m.Pairwise R->(∀x,x∈l↔x∈m)->l=m
 |[],[],_,_,_=>rfl
 |[],y::m,_,_,h=>by have:=(h y).2 (by simp);cases this
 |x::l,[],_,_,h=>by have:=(h x).1 (by simp);cases this
 |x::l,y::m,hl,hm,h=>by
  have dG:=List.pairwise_cons.1 hl
  have pg:=List.pairwise_cons.1 hm
  have yG:x=y:=by
   rcases List.mem_cons.1 ((h x).1 (by simp)) with e|h1
   ·exact e
   rcases List.mem_cons.1 ((h y).2 (by simp)) with e|h2
   ·exact e.symm
   grind
  subst yG
  have:l=m:=Xp zas dG.2 pg.2 (fun z=>⟨fun hz=>by
   grind,fun hz=>by
   grind⟩)
  rw[this]
theorem Og {z:Nat}: ∀{l:List Nat},(z=x\/z∈l)->z∈jJ x l
 |[],h=>by simpa [jJ] using h
 |y::l,h=>by
  unfold jJ
  split
  ·rcases h with h|h
   ·exact eH _ (Og (.inl h))
   ·rcases List.mem_cons.1 h with h|h
    ·simp[h]
    ·exact eH _ (Og (.inr h))
  grind
def akU {z:Nat}:z∈jf l↔z∈l:=by
 refine⟨(xz l).2.1 z,?_⟩
 have key: ∀(l out:List Nat),(z∈out\/z∈l)->z∈l.foldl (fun out x=>jJ x out) out:=by
  intro l
  induction l with
  |nil=>grind
  |cons x l ih=>
   intro out h
   refine ih _ ?_
   rcases h with h|h
   ·exact .inl (Og (.inr h))
   ·rcases List.mem_cons.1 h with h|h
    ·exact .inl (Og (.inl h))
    ·exact .inr h
 exact fun h=>key l [] (.inr h)
def aML: ∀a b:Nat,a<b-> ¬b<a:=fun a b h=>by omega
def amu {m:List Nat} (hm:m.Pairwise (· < ·)) (h: ∀x,x∈m↔x∈l):jf l=m:=Xp aML (xz l).1 hm (fun x=>by rw[akU,h])
def aLd (h:l.Pairwise (· < ·)):jf l=l:=amu h (fun _=>Iff.rfl)
def qw (d:Nat) (l:List (Nat×Nat)) (c:Nat):Nat:=match l.find? (fun p=>p.1==c) with
 |some p=>p.2
 |none=>d
theorem WT {c:Nat}:fx l c=qw l.d l.ps c:=rfl
def qz {e:Nat} {p:Nat×Nat}:qw d (p::l) e=if p.1=e then p.2 else qw d l e:=by
 unfold qw
 grind
def acU {c:Nat} (h: ∀p∈l,p.1≠c):qw d l c=d:=by
 unfold qw
 grind
def Fh {p:Nat×Nat}:aQ (p::l)↔(∀q∈l,p.1<q.1)/\aQ l:=List.pairwise_cons
def aLc (h:aQ l):(l.map (·.1)).Pairwise (· < ·):=List.pairwise_map.2 h
theorem vA {z:Nat}: ∀{l m:List (Nat×Nat)},z∈(mg dx dy l m).map (·.1)↔z∈l.map (·.1)\/z∈m.map (·.1)
 |[],[]=>by rw[GK];simp
 |(c,x)::l,[]=>by
  rw[Kc,eG,BZ,vA (l:=l) (m:=[]),eG,BZ];grind
 |[],(c,x)::l=>by
  rw[Kb,eG,BZ,vA (l:=[]) (m:=l),eG,BZ];simp
 |(c,x)::l,(e,y)::m=>by
  rw[GL]
  split
  ·rw[eG,BZ,vA (l:=l) (m:=(e,y)::m)];grind
  split
  ·rw[eG,BZ,vA (l:=(c,x)::l) (m:=m)];grind
  ·have e':c=e:=by omega
   subst e'
   rw[eG,BZ,vA (l:=l) (m:=m)];grind
termination_by l m=>l.length+m.length
def aUk {c:Nat} {l:List (Nat×Nat)} (h: ∀q∈l,c<q.1) {z:Nat} (hz:z∈l.map (·.1)):c<z:=by
 grind
theorem Da: ∀{l m:List (Nat×Nat)},aQ l->aQ m->((mg dx dy l m).map (·.1)).Pairwise (· < ·)/\ ∀p∈mg dx dy l m,p.2.1=qw dx l p.1/\p.2.2=qw dy m p.1
 |[],[],_,_=>by rw[GK];simp
 |(c,x)::l,[],hl,hm=>by
  have h':=Fh.1 hl
  obtain⟨i1,i2⟩:=Da (dx:=dx) (dy:=dy) (l:=l) (m:=[]) h'.2 hm
  have lo: ∀z∈(mg dx dy l []).map (·.1),c<z:=fun z hz=>by
   rcases vA.1 hz with h|h
   ·grind
   ·cases h
  rw[Kc]
  refine⟨List.pairwise_cons.2 ⟨lo,i1⟩,fun p hp=>?_⟩
  rcases List.mem_cons.1 hp with rfl|hp
  ·exact⟨by rw[qz,ax rfl],rfl⟩
  ·have:=lo p.1 (Gz hp)
   rw[qz,aj (show¬c=p.1 by omega)]
   exact i2 p hp
 |[],(c,x)::l,hl,hm=>by
  have h':=Fh.1 hm
  obtain⟨i1,i2⟩:=Da (dx:=dx) (dy:=dy) (l:=[]) (m:=l) hl h'.2
  have lo: ∀z∈(mg dx dy [] l).map (·.1),c<z:=fun z hz=>by
   rcases vA.1 hz with h|h
   ·cases h
   grind
  rw[Kb]
  refine⟨List.pairwise_cons.2 ⟨lo,i1⟩,fun p hp=>?_⟩
  rcases List.mem_cons.1 hp with rfl|hp
  ·exact⟨rfl,by rw[qz,ax rfl]⟩
  ·have:=lo p.1 (Gz hp)
   rw[qz,aj (show¬c=p.1 by omega)]
   exact i2 p hp
 |(c,x)::l,(e,y)::m,hl,hm=>by
  have h1:=Fh.1 hl
  have h2:=Fh.1 hm
  rw[GL]
  split
  ·rename_i hce
   obtain⟨i1,i2⟩:=Da (dx:=dx) (dy:=dy) (l:=l) (m:=(e,y)::m) h1.2 hm
   have pg: ∀q∈(e,y)::m,c<q.1:=fun q hq=>by
    grind
   have lo: ∀z∈(mg dx dy l ((e,y)::m)).map (·.1),c<z:=fun z hz=>by
    rcases vA.1 hz with h|h
    ·grind
    grind
   refine⟨List.pairwise_cons.2 ⟨lo,i1⟩,fun p hp=>?_⟩
   rcases List.mem_cons.1 hp with rfl|hp
   ·exact⟨by rw[qz,ax rfl],(acU (fun q hq=>by grind)).symm⟩
   ·have:=lo p.1 (Gz hp)
    rw[qz (p:=(c,x)),aj (show¬c=p.1 by omega)]
    exact i2 p hp
  split
  ·rename_i hce
   obtain⟨i1,i2⟩:=Da (dx:=dx) (dy:=dy) (l:=(c,x)::l) (m:=m) hl h2.2
   have dG: ∀q∈(c,x)::l,e<q.1:=fun q hq=>by
    grind
   have lo: ∀z∈(mg dx dy ((c,x)::l) m).map (·.1),e<z:=fun z hz=>by
    rcases vA.1 hz with h|h
    ·grind
    grind
   refine⟨List.pairwise_cons.2 ⟨lo,i1⟩,fun p hp=>?_⟩
   rcases List.mem_cons.1 hp with rfl|hp
   ·exact⟨(acU (fun q hq=>by grind)).symm,by rw[qz,ax rfl]⟩
   ·have:=lo p.1 (Gz hp)
    rw[qz (p:=(e,y)),aj (show¬e=p.1 by omega)]
    exact i2 p hp
  ·have e':c=e:=by omega
   subst e'
   obtain⟨i1,i2⟩:=Da (dx:=dx) (dy:=dy) (l:=l) (m:=m) h1.2 h2.2
   have lo: ∀z∈(mg dx dy l m).map (·.1),c<z:=fun z hz=>by
    rcases vA.1 hz with h|h
    ·grind
    grind
   refine⟨List.pairwise_cons.2 ⟨lo,i1⟩,fun p hp=>?_⟩
   rcases List.mem_cons.1 hp with rfl|hp
   ·exact⟨by rw[qz,ax rfl],by rw[qz,ax rfl]⟩
   ·have:=lo p.1 (Gz hp)
    rw[qz,aj (show¬c=p.1 by omega),qz,aj (show¬c=p.1 by omega)]
    exact i2 p hp
termination_by l m=>l.length+m.length
def aNU {m:List (Nat×Nat)} (hl:aQ l) (hm:aQ m):mg dx dy l m=(jf (l.map (·.1)++m.map (·.1))).map fun c=>(c,qw dx l c,qw dy m c):=by
 have e:jf (l.map (·.1)++m.map (·.1))=(mg dx dy l m).map (·.1):=amu (Da hl hm).1 (fun x=>by rw[vA,vW])
 rw[e,List.map_map]
 conv=>lhs;rw[<-List.map_id (mg dx dy l m)]
 refine xX fun p hp=>?_
 have:=(Da hl hm).2 p hp
 grind
theorem aII {a b:Lb} (ha:aQ a.ps) (hb:aQ b.ps):cM a b=((jf (a.ps.map (·.1)++b.ps.map (·.1))).all (fun c=>decide (fx a c<=fx b c))&&decide (a.d<=b.d)):=by
 unfold cM
 rw[aNU ha hb,List.all_map,Bool.and_comm]
 rfl
theorem ai3 {c:Nat}:mJ d (q::l) c=mJ (if q.1=c then q.2 else d) l c:=rfl
theorem WB {c:Nat}: ∀{l:List (Nat×Nat)} {d:Nat},(∀p∈l,p.1≠c)->mJ d l c=d
 |[],_,_=>rfl
 |q::l,d,h=>by rw[ai3,aj (h q (by simp)),WB (fun p hp=>h p (by simp[hp]))]
theorem ajx {c:Nat}: ∀{l:List (Nat×Nat)} {d:Nat},aQ l->mJ d l c=qw d l c
 |[],_,_=>rfl
 |q::l,d,h=>by
  have h':=Fh.1 h
  rw[ai3,qz]
  by_cases e:q.1=c
  ·rw[ax e,ax e,WB (fun p hp=>by grind)]
  ·rw[aj e,aj e,ajx h'.2]
theorem Xk: ∀{l:List (Nat×Nat)},aQ l-> ∀p∈l,qw d l p.1=p.2
 |q::l,h,p,hp=>by
  have h':=Fh.1 h
  rw[qz]
  rcases List.mem_cons.1 hp with rfl|hp
  ·grind
  ·have:=h'.1 p hp
   rw[aj (by omega),Xk h'.2 p hp]
theorem ahN {α β:Type} {f g:α->List β}: ∀{l:List α},(∀x∈l,f x=g x)->l.flatMap f=l.flatMap g
 |[],_=>rfl
 |x::l,h=>by rw[jR,jR,h x (by simp),ahN (fun y hy=>h y (by simp[hy]))]
def aLr (h:aQ l):kO d l=⟨d,l.filter fun p=>!(p.2==d)⟩:=by
 have e:(jf (l.map (·.1))).flatMap (kG d l)=l.filter fun p=>!(p.2==d):=by
  rw[aLd (aLc h),List.flatMap_map,ahN (g:=fun p=>if p.2=d then [] else [p]) (fun p hp=>by
   unfold kG;rw[ajx h,Xk h p hp])]
  clear h
  induction l with
  |nil=>rfl
  |cons p l ih=>
   grind
 unfold kO
 rw[e]
def ah5 (h:aQ l.ps):vl l=kO (gM l.d) (l.ps.map fun p=>(p.1,gM p.2)):=by
 have hs:aQ (l.ps.map fun p=>(p.1,gM p.2)):=List.pairwise_map.2 h
 rw[aLr hs]
 unfold vl Ke
 rw[OD]
 have e: ∀(m:List (Nat×Nat)),qf (fun x _=>gM x) (gM l.d) (m.map fun p=>(p.1,p.2,p.2))=(m.map fun p=>(p.1,gM p.2)).filter fun p=>!(p.2==gM l.d):=by
  intro m
  induction m with
  |nil=>rfl
  |cons p m ih=>
   unfold qf at ih ⊢
   grind
 rw[e]
def amM {c:Nat} (hs:aQ l):q∈dl l c↔q∈l/\q.1≠c:=by
 refine⟨fun h=>⟨Dc.subset h,aw2 hs q h⟩,fun⟨h,hn⟩=>?_⟩
 unfold dl
 split
 ·rename_i hc
  obtain⟨i,hi,e1,e2⟩:=Wn hc
  obtain⟨j,hj,rfl⟩:=jm h
  rw[e1,i9]
  exact List.mem_eraseIdx_iff_getElem.2 ⟨j,hj,fun e=>hn (by grind),rfl⟩
 ·exact h
def aLE {p:Nat×Nat}:q∈ins l p↔q=p\/q∈l:=by
 refine⟨ala,fun h=>?_⟩
 unfold ins
 rw[vW,BZ]
 rcases h with h|h
 ·grind
 ·rw[<-J3 (fP l p.1) l,vW] at h
  grind
def aKb {p:Nat×Nat}:jr d (l++[p])=qW d (jr d l) p:=by simp[jr]
def ak8 (l):aQ (jr d l)/\ ∀q,q∈jr d l↔q.2=mJ d l q.1/\q.2≠d:=by
 have key: ∀(r:List (Nat×Nat)),aQ (jr d r.reverse)/\ ∀q,q∈jr d r.reverse↔q.2=mJ d r.reverse q.1/\q.2≠d:=by
  intro r
  induction r with
  |nil=>exact⟨List.Pairwise.nil,fun q=>⟨fun h=>by simp[jr] at h,fun⟨h1,h2⟩=>(h2 h1).elim⟩⟩
  |cons p r ih=>
   obtain⟨i1,i2⟩:=ih
   rw[List.reverse_cons,aKb]
   refine⟨ak5 i1,fun q=>?_⟩
   rw[ai2]
   unfold qW
   by_cases hd:p.2=d
   ·rw[ax hd,amM i1,i2 q]
    grind
   ·rw[aj hd,aLE,amM i1,i2 q]
    grind
 have:=key l.reverse
 grind
def aMK: ∀a b:Nat×Nat,a.1<b.1-> ¬b.1<a.1:=fun a b h=>by omega
def aLu (l):jr d l=(kO d l).ps:=by
 refine Xp aMK (ak8 l).1 (Nk (xz _).1) (fun q=>?_)
 rw[(ak8 l).2 q]
 unfold kO
 simp only[List.mem_flatMap,akU]
 constructor
 ·rintro⟨h1,h2⟩
  refine⟨q.1,?_,?_⟩
  ·refine Classical.byContradiction fun hn=>h2 ?_
   rw[h1]
   exact WB (fun p hp e=>hn (e▸Gz hp))
  ·unfold kG
   grind
 ·rintro⟨c,_,hq⟩
  unfold kG at hq
  grind
theorem akl {c:Nat}:tj l c gB=kO l.d (l.ps++[(c,gB)]):=by
 unfold tj
 rw[aLu]
 rfl
def ak4 (l):aQ (kO d l).ps:=Nk (xz _).1
def jU (l:Lb) (x:Nat):List Nat:=(l.ps.filter fun p=>p.2==x).map (·.1)
def aJ9 {c:Nat}:c∈jU l x↔(c,x)∈l.ps:=by
 unfold jU
 simp_all
theorem aIH:((jU l x).length==0)=!l.ps.any fun p=>p.2==x:=by
 unfold jU
 rw[fp]
 cases h:l.ps.any fun p=>p.2==x with
 |true=>
  simp_all
 |false=>
  have:l.ps.filter (fun p=>p.2==x)=[]:=List.filter_eq_nil_iff.2 (fun p hp=>by
   grind)
  rw[this];rfl
def aHg:names l=(l.d==2&&(jU l 3).length==0):=by
 unfold names
 rw[aIH]
theorem awv {c:Nat}: ∀{l:List (Nat×Nat)},qw d l c≠d->(c,qw d l c)∈l
 |[],h=>(h rfl).elim
 |p::l,h=>by
  rw[qz] at h ⊢
  by_cases e:p.1=c
  ·grind
  ·rw[aj e] at h ⊢
   exact eH _ (awv h)
def aKe (h:aQ l.ps) (hd:l.d≠0) {c:Nat}:fx l c=0↔c∈jU l 0:=by
 rw[aJ9,WT]
 constructor
 ·intro e
  have:=awv (d:=l.d) (l:=l.ps) (c:=c) (by rw[e];omega)
  rwa [e] at this
 ·intro hm
  exact Xk h _ hm
def aHl (h:aQ l.ps) (hd:l.d≠0) (cs):x9 l cs=cs.all fun c=>(jU l 0).contains c:=by
 unfold x9
 rw[Bool.eq_iff_iff,ui,ui]
 refine forall_congr' fun c=>imp_congr_right fun _=>?_
 rw[beq_iff_eq,aKe h hd,GA]
def uO (l:List Ob) (id:Nat):Nat:=l.findIdx fun x=>!decide (x.id<id)
theorem ak1: ∀{l:List Ob},bC l o=l.take (uO l o.id)++o::l.drop (if(l[uO l o.id]?).map (·.id)=some o.id then uO l o.id+1 else uO l o.id)
 |[]=>by simp[bC,uO]
 |x::l=>by
  have ih:=ak1 (o:=o) (l:=l)
  unfold bC
  by_cases h1:x.id<o.id
  ·have e:uO (x::l) o.id=uO l o.id+1:=by unfold uO;grind
   grind
  ·have e:uO (x::l) o.id=0:=by unfold uO;grind
   grind
def Wa {l:List Ob} {id:Nat}:(∃i,∃hi:i<l.length,iU (fun o=>o.id==id) l=(i:Int)/\a9 l id=some l[i])\/(iU (fun o=>o.id==id) l= -1/\a9 l id=none):=by
 rcases IB (q:=fun o:Ob=>o.id==id) (l:=l) with⟨e1,e2⟩|⟨i,hi,e1,e2⟩
 ·exact .inr ⟨e1,e2⟩
 ·exact .inl ⟨i,hi,e1,e2⟩
end
section
open Go
variable {P:Program} {h:aa}
def aHO (ok:aA P tb) {t:aL} {c:Nat} (hl:l.length<2^30):al P 217 [.vs ((ay .u16).R l) t, .int .u16 c] h (.bool (l.contains c)) h:=by
 refine ok.bA agw ?_
 simp+decide only[sv,agw,apS,apR]
 let J:Nat->Env->aa->Prop:=fun i ρ H=>H=h/\(∀j (hj:j<l.length),j<i->l[j]≠c)/\ρ 0= .vs ((ay .u16).R l) t/\ρ 1= .int .u16 c
 refine eQ 5 0 l.length (by omega) (bM _) J ?_ ?_ ⟨rfl,fun j _ hj=>by omega,rfl,rfl⟩ rfl
 ·rintro i ρ H ⟨rfl,hf,r0,r1⟩ r5-hi av aK hw
  have gi:((ay .u16).R l)[i]? =some [.int .u16 l[i]]:=(ay .u16).cj hi
  by_cases e:l[i]=c
  ·have e1:(l[i]:Int)=(c:Int):=by omega
   have e2:l.contains c=true:=by grind
   simp+decide only[sv,Pt,ZF,apQ,r0,r1,r5,aF.aD,av,aK,gi,e1,e2]
  ·have e1: ¬(l[i]:Int)=(c:Int):=by omega
   simp+decide only[sv,Pt,ZF,apP,r0,r1,r5,aF.aD,av,aK,gi,e1,hw]
   refine⟨rfl,fun j hj jt=>?_,r0,r1⟩
   grind
 ·rintro ρ H ⟨rfl,hf,r0,r1⟩ r5 av
  have e2:l.contains c=false:=by
   rw[<-Gx,GA]
   intro hm
   obtain⟨j,hj,e⟩:=jm hm
   grind
  simp+decide only[sv,Pt,apO,r0,r5,aF.aD,av,e2]
def zV (a b:List Nat) (q:Bool):List Nat:=a.filter fun x=>b.contains x==q
def aHb {a b:List Nat}:zV (a++[x]) b q=zV a b q++if b.contains x==q then [x] else []:=by
 unfold zV
 grind
def aGE (ok:aA P tb) {a b:List Nat} {t:aL} (ha:a.length<2^20) (hb:b.length<2^30):al P 166 [.vs ((ay .u16).R a) t, .vs ((ay .u16).R b) t', .bool q] h (.vs ((ay .u16).R (zV a b q)) .au) h:=by
 refine ok.df (rf:=agZ) rfl (bT rfl) (ay .u16).i7 ?_
 simp+decide only[sv,agZ,asq,asp,aso]
 let J:Nat->Env->aa->Prop:=fun i ρ H=>Old h H/\App h H (ρ 7) ((ay .u16).R (zV (a.take i) b q))/\ρ 0= .vs ((ay .u16).R a) t/\ρ 1= .vs ((ay .u16).R b) t'/\ρ 2= .bool q
 refine eQ 8 0 a.length (by omega) (bM _) J ?_ ?_ ⟨Old.refl h,App.nil h h,rfl,rfl,rfl⟩ rfl
 ·rintro i ρ H ⟨ho,hp,r0,r1,r2⟩ r8-hi av aK hw
  have gi:((ay .u16).R a)[i]? =some [.int .u16 a[i]]:=(ay .u16).cj hi
  have hs:=aHb (a:=a.take i) (b:=b) (q:=q) (x:=a[i])
  rw[<-lN hi] at hs
  have hlen:(zV (a.take i) b q).length<=i:=fm (GD _ _) (by grind)
  obtain⟨t0,r7,_⟩:=id hp
  simp+decide only[sv,aaK,asn,r0,r1,r8,aF.aD,av,aK,gi]
  refine ao (aHO ok hb) ?_
  by_cases e:(b.contains a[i]==q)=true
  ·rw[ax e] at hs
   have e1:bH true .eql (.bool (b.contains a[i])) (.bool q)=some (.bool true):=by
    have:b.contains a[i]=q:=by simpa using e
    rw[this];simp[bH]
   obtain⟨v,h2,a1,a2,a3,_⟩:=hp.more ho 2 1 [a[i]] [[.int .u16 a[i]]] rfl rfl (by grind) (by decide)
   rw[r7] at a1
   simp+decide only[sv,asm,aaJ,r0,r2,r7,r8,aK,gi,e1,a1,hw]
   exact⟨a3,by rw[hs];exact a2,r0,r1,r2⟩
  ·rw[aj e,fE] at hs
   have e1:bH true .eql (.bool (b.contains a[i])) (.bool q)=some (.bool false):=by
    simp only[bH];grind
   simp+decide only[sv,aaJ,r2,r8,e1,hw]
   exact⟨ho,by rw[hs];exact hp,r0,r1,r2⟩
 ·rintro ρ H ⟨ho,hp,r0,r1,r2⟩ r8 av
  obtain⟨t0,r7,_⟩:=id hp
  rw[bX (ak _)] at r7
  simp+decide only[sv,aaK,asl,r0,r7,r8,aF.aD,av,aV]
  exact⟨(ay .u16).iy,ho.get⟩
def aI7 (ok:aA P tb) {a b:List Nat} {t:aL} (ha:a.length<2^20) (hb:b.length<2^30):al P 120 [.vs ((ay .u16).R a) t, .vs ((ay .u16).R b) t'] h (.bool (a.all fun c=>b.contains c)) h:=by
 refine ok.bA ahr ?_
 simp+decide only[sv,ahr,avt,avs]
 refine ao (aGE ok ha hb) ?_
 have e:decide (((zV a b false).length:Int)=0)=a.all fun c=>b.contains c:=by
  cases hh:a.all fun c=>b.contains c with
  |true=>
   have:zV a b false=[]:=List.filter_eq_nil_iff.2 fun x hx=>by
    grind
   rw[this];rfl
  |false=>
   obtain⟨x,hx,hq⟩:=List.all_eq_false.1 hh
   have:x∈zV a b false:=List.mem_filter.2 ⟨hx,by grind⟩
   grind
 simp+decide only[sv,aF.aD,e]
def Ni (ok:aA P tb) {a b:List Nat} {t:aL} (ha:a.length<2^30):al P 128 [.vs ((ay .u16).R a) t, .vs ((ay .u16).R b) t'] h (.bool (decide (a=b))) h:=by
 refine ok.bA T9 ?_
 by_cases hn:a.length=b.length
 ·have cV:(a.length:Int)=(b.length:Int):=by omega
  simp+decide only[sv,T9,abW,abV,au3,aF.aD,cV]
  let J:Nat->Env->aa->Prop:=fun i ρ H=>Old h H/\(∀j (hj:j<a.length) (mZ:j<b.length),j<i->a[j]=b[j])/\ρ 0= .vs ((ay .u16).R a) t/\ρ 1= .vs ((ay .u16).R b) t'
  refine eQ 5 0 a.length (by omega) (bM _) J ?_ ?_ ⟨Old.refl h,fun j _ _ hj=>by omega,rfl,rfl⟩ rfl
  ·rintro i ρ H ⟨ho,hf,r0,r1⟩ r5-hi av aK hw
   have gi:((ay .u16).R a)[i]? =some [.int .u16 a[i]]:=(ay .u16).cj hi
   have gj:((ay .u16).R b)[i]? =some [.int .u16 b[i]]:=(ay .u16).cj (by omega)
   simp+decide only[sv,abU,r0,r5,aF.aD,av]
   refine bq 9 rfl rfl ?_
   by_cases e:a[i]=b[i]
   ·have e1:(a[i]:Int)=(b[i]:Int):=by omega
    simp+decide only[sv,abT,au1,r0,r1,r5,aK,gi,gj,e1,hw]
    refine⟨ho.clean,fun j hj mZ jt=>?_,r0,r1⟩
    grind
   ·have e1: ¬(a[i]:Int)=(b[i]:Int):=by omega
    have e2:decide (a=b)=false:=mc fun q=>e (by simp only[q])
    simp+decide only[sv,abT,au2,r0,r1,r5,aK,gi,gj,e1,e2]
    exact(ho.clean (n:=9)).get
  ·rintro ρ H ⟨ho,hf,r0,r1⟩ r5 av
   have e2:decide (a=b)=true:=mF (B6 hn fun j h1 h2=>hf j h1 h2 h1)
   simp+decide only[sv,abU,au0,r0,r5,aF.aD,av,e2]
   exact ho.get
 ·have cV: ¬(a.length:Int)=(b.length:Int):=by omega
  have e2:decide (a=b)=false:=mc fun q=>hn (by rw[q])
  simp+decide only[sv,T9,abW,abV,au4,aF.aD,cV,e2]
def aIG {p:Nat×Nat}:jU ⟨d,l++[p]⟩ x=jU ⟨d,l⟩ x++if p.2==x then [p.1] else []:=by
 unfold jU
 grind
def Ii (ok:aA P tb) {t:aL} {x:Nat} (hl:l.ps.length<2^20):al P 118 [.agg (l.c t), .int .u8 x] h (.vs ((ay .u16).R (jU l x)) .au) h:=by
 refine ok.df (rf:=aht) rfl (bT rfl) (ay .u16).i7 ?_
 simp+decide only[sv,aht,avG,avF,avE,Lb.c]
 generalize hX:aa.at _ _ _=X
 have oX:Old h X:=by rw[<-hX];exact(Old.refl h).at (ak _)
 have cX:cellsOf X h.next=some ([AV.int .u8 l.d, .vs (aB.R l.ps) t]):=by rw[<-hX];exact aq (by simp[aa.at];try rfl)
 have nX:X.next=h.next+1:=by rw[<-hX];simp[aa.at]
 clear hX
 let J:Nat->Env->aa->Prop:=fun i ρ H=>Old X H/\App X H (ρ 5) ((ay .u16).R (jU ⟨l.d,l.ps.take i⟩ x))/\ρ 1= .int .u8 x/\ρ 2= .ptr h.next 0
 refine eQ 6 0 l.ps.length (by omega) (bM _) J ?_ ?_ ⟨Old.refl X,App.nil X X,rfl,rfl⟩ rfl
 ·rintro i ρ H ⟨ho,hp,r1,r2⟩ r6-hi av aK hw
  have y0:=ho.cells (by omega) cX
  have gi:(aB.R l.ps)[i]? =some [.int .u16 l.ps[i].1, .int .u8 l.ps[i].2]:=aB.cj hi
  have hs:=aIG (d:=l.d) (l:=l.ps.take i) (p:=l.ps[i]) (x:=x)
  rw[<-lN hi] at hs
  have hlen:(jU ⟨l.d,l.ps.take i⟩ x).length<=i:=by
   unfold jU
   grind
  obtain⟨t0,r5,_⟩:=id hp
  by_cases e:l.ps[i].2=x
  ·rw[ax (by simpa using e)] at hs
   have e1:(l.ps[i].2:Int)=(x:Int):=by omega
   obtain⟨v,h2,a1,a2,a3,_⟩:=hp.more ho 2 1 [l.ps[i].1] [[.int .u16 l.ps[i].1]] rfl rfl (by grind) (by decide)
   rw[r5] at a1
   simp+decide only[sv,Qz,ab7,avD,ab6,r1,r2,r5,r6,y0,aF.aD,av,aK,gi,e1,a1,hw]
   exact⟨a3,by rw[hs];exact a2,r1,r2⟩
  ·rw[aj (by simpa using e),fE] at hs
   have e1: ¬(l.ps[i].2:Int)=(x:Int):=by omega
   simp+decide only[sv,Qz,ab7,ab6,r1,r2,r6,y0,aF.aD,av,aK,gi,e1,hw]
   exact⟨ho,by rw[hs];exact hp,r1,r2⟩
 ·rintro ρ H ⟨ho,hp,r1,r2⟩ r6 av
  have y0:=ho.cells (by omega) cX
  obtain⟨t0,r5,_⟩:=id hp
  rw[bX (ak _)] at r5
  simp+decide only[sv,Qz,avC,r2,r5,r6,y0,aF.aD,av,aV]
  exact⟨(ay .u16).iy,(oX.trans ho).get⟩
def aNH {c:Nat} (hi) (e:l[i].1=c) (hf: ∀j (hj:j<l.length),j<i->l[j].1≠c):qw d l c=l[i].2:=by
 unfold qw
 have:l.find? (fun p=>p.1==c)=some l[i]:=List.find?_eq_some_iff_getElem.2 ⟨by simp[e],i,hi,rfl,fun j hj=>by grind⟩
 rw[this]
def Wl (ok:aA P tb) {t:aL} {c:Nat} (hl:l.ps.length<2^20):al P 105 [.agg (l.c t), .int .u16 c] h (.int .u8 (fx l c)) h:=by
 refine ok.bA ahC ?_
 simp+decide only[sv,ahC,awc,awb,Lb.c]
 generalize hX:aa.at _ _ _=X
 have oX:Old h X:=by rw[<-hX];exact(Old.refl h).at (ak _)
 have cX:cellsOf X h.next=some ([AV.int .u8 l.d, .vs (aB.R l.ps) t]):=by rw[<-hX];exact aq (by simp[aa.at];try rfl)
 have nX:X.next=h.next+1:=by rw[<-hX];simp[aa.at]
 clear hX
 let J:Nat->Env->aa->Prop:=fun i ρ H=>H=X/\(∀j (hj:j<l.ps.length),j<i->l.ps[j].1≠c)/\ρ 1= .int .u16 c/\ρ 2= .ptr h.next 0
 refine eQ 5 0 l.ps.length (by omega) (bM _) J ?_ ?_ ⟨rfl,fun j _ hj=>by omega,rfl,rfl⟩ rfl
 ·rintro i ρ H ⟨rfl,hf,r1,r2⟩ r5-hi av aK hw
  have gi:(aB.R l.ps)[i]? =some [.int .u16 l.ps[i].1, .int .u8 l.ps[i].2]:=aB.cj hi
  by_cases e:l.ps[i].1=c
  ·have e1:(l.ps[i].1:Int)=(c:Int):=by omega
   have e2:fx l c=l.ps[i].2:=by rw[WT];exact aNH hi e hf
   simp+decide only[sv,QD,acD,awa,r1,r2,r5,cX,aF.aD,av,aK,gi,e1,e2]
   exact oX.get
  ·have e1: ¬(l.ps[i].1:Int)=(c:Int):=by omega
   simp+decide only[sv,QD,acD,av9,r1,r2,r5,cX,aF.aD,av,aK,gi,e1,hw]
   refine⟨rfl,fun j hj jt=>?_,r1,r2⟩
   grind
 ·rintro ρ H ⟨rfl,hf,r1,r2⟩ r5 av
  have e2:fx l c=l.d:=by
   rw[WT]
   refine acU fun p hp=>?_
   obtain⟨j,hj,rfl⟩:=jm hp
   exact hf j hj hj
  simp+decide only[sv,QD,av8,r2,r5,cX,aF.aD,av,e2]
  exact oX.get
def aiy (ok:aA P tb) {x:Nat}:al P 106 [.int .u8 x] h (.int .u8 (gM x)) h:=by
 refine ok.bA Ub ?_
 unfold gM
 by_cases e:x=0
 ·simp+decide only[sv,Ub,acC,acB,acA,acz,e]
  rfl
 ·have e1: ¬(x:Int)=0:=by omega
  rw[aj e]
  simp+decide only[sv,Ub,acC,acB,acA,acz,e1]
def Nr (ok:aA P tb) {a b:Lb} {t:aL} (ha:aQ a.ps) (hb:aQ b.ps) (yJ:a.ps.length<2^18) (gQ:b.ps.length<2^18):al P 59 [.agg (a.c t), .agg (b.c t')] h (.bool (cM a b)) h:=by
 refine ok.bA c59 ?_
 rw[aII ha hb]
 simp+decide only[sv,c59,aAe,aAd,Lb.c]
 generalize hX:aa.at _ _ _=X
 have oX:Old h X:=by rw[<-hX];exact((Old.refl h).at (ak _)).at (by omega)
 have nX:X.next=h.next+2:=by rw[<-hX];simp[aa.at]
 have x0:cellsOf X h.next=some [.int .u8 a.d, .vs (aB.R a.ps) t]:=by rw[<-hX];exact aq (by simp[aa.at])
 have x1:cellsOf X (h.next+1)=some [.int .u8 b.d, .vs (aB.R b.ps) t']:=by rw[<-hX];exact aq (by simp[aa.at])
 clear hX
 refine ao (aiw ok yJ gQ) ?_
 have d9:=(xz (a.ps.map (·.1)++b.ps.map (·.1))).2.2
 rw[cw,fp,fp] at d9
 generalize jf (a.ps.map (·.1)++b.ps.map (·.1))=cs at*
 simp+decide only[sv,aAc]
 let J:Nat->Env->aa->Prop:=fun i ρ H=>Old X H/\(∀j (hj:j<cs.length),j<i->fx a cs[j]<=fx b cs[j])/\ρ 2= .ptr h.next 0/\ρ 3= .ptr (h.next+1) 0/\ρ 5= .vs ((ay .u16).R cs) .au
 refine eQ 6 0 cs.length (by omega) (bM _) J ?_ ?_ ⟨Old.refl X,fun j _ hj=>by omega,rfl,rfl,rfl⟩ rfl
 ·rintro i ρ H ⟨ho,hf,r2,r3,r5⟩ r6-hi av aK hw
  have y0:=ho.clean (n:=13) |>.cells (by omega) x0
  have y1:=ho.clean (n:=13) |>.cells (by omega) x1
  have l1:=ho.next
  have gi:((ay .u16).R cs)[i]? =some [.int .u16 cs[i]]:=(ay .u16).cj hi
  simp+decide only[sv,aea,r5,r6,aF.aD,av]
  refine m6 ?_
  have y0':cellsOf (H.clean 13) h.next=some (a.c t):=y0
  have y1':cellsOf (H.clean 13) (h.next+1)=some (b.c t'):=y1
  have n0:h.next<H.next:=by omega
  have n1:h.next+1<H.next:=by omega
  simp+decide only[sv,aAb,r2,r5,r6,y0,n0,aK,gi]
  refine dh (Wl ok (l:=a) (t:=t) (by omega)) (ba (ak _)) ?_
  simp+decide only[sv,r3,r5,r6,y1,n1,aK,gi]
  refine dh (Wl ok (l:=b) (t:=t') (by omega)) (ba (ak _)) ?_
  by_cases e:fx a cs[i]<=fx b cs[i]
  ·have e1: ¬(fx b cs[i]:Int)<(fx a cs[i]:Int):=by omega
   simp+decide only[sv,az9,r6,e1,hw]
   refine⟨ho.clean,fun j hj jt=>?_,r2,r3,r5⟩
   grind
  ·have e1:(fx b cs[i]:Int)<(fx a cs[i]:Int):=by omega
   have e2:(cs.all fun c=>decide (fx a c<=fx b c))=false:=by
    grind
   rw[e2]
   simp+decide only[sv,aAa,e1]
   exact⟨rfl,(oX.trans (ho.clean (n:=13))).get⟩
 ·rintro ρ H ⟨ho,hf,r2,r3,r5⟩ r6 av
  have y0:=ho.cells (by omega) x0
  have y1:=ho.cells (by omega) x1
  have e2:(cs.all fun c=>decide (fx a c<=fx b c))=true:=by
   rw[ui]
   intro x hx
   obtain⟨j,hj,rfl⟩:=jm hx
   grind
  have e3:decide ((a.d:Int)<=(b.d:Int))=decide (a.d<=b.d):=by
   grind
  rw[e2,zR]
  simp+decide only[sv,aea,az8,r2,r3,r5,r6,y0,y1,aF.aD,av]
  exact(oX.trans ho).get
def aE8 (ok:aA P tb) {t:aL} (hs:aQ l.ps) (hl:l.ps.length<2^18):al P 60 [.agg (l.c t)] h (.agg ((vl l).c .au)) h:=by
 refine ok.df (rf:=c60) rfl (bT rfl) (by simp only[AV.bD,AV.cG,Lb.c,aB.jD];rfl) ?_
 rw[ah5 hs]
 simp+decide only[sv,c60,azZ,azY,azX,Lb.c]
 generalize hX:aa.at _ _ _=X
 have oX:Old h X:=by rw[<-hX];exact((Old.refl h).at (ak _)).at (by omega)
 have nX:X.next=h.next+2:=by rw[<-hX];simp[aa.at]
 have x0:cellsOf X h.next=some [.int .u8 l.d, .vs (aB.R l.ps) t]:=by rw[<-hX];exact aq (by simp[aa.at])
 have x1:X.get (h.next+1)=some (.cells [.int .u8 0, .vs [] .full]):=by rw[<-hX];simp[aa.at]
 clear hX
 let J:Nat->Env->aa->Prop:=fun i ρ H=>Old X H/\App X H (ρ 3) (aB.R ((l.ps.take i).map fun p=>(p.1,gM p.2)))/\ρ 1= .ptr h.next 0/\ρ 2= .ptr (h.next+1) 0
 refine eQ 4 0 l.ps.length (by omega) (bM _) J ?_ ?_ ⟨Old.refl X,App.nil X X,rfl,rfl⟩ rfl
 ·rintro i ρ H ⟨ho,hp,r1,r2⟩ r4-hi av aK hw
  have y0:=ho.cells (by omega) x0
  have y1:=(ho.clean (n:=18)).cells (by omega) x0
  have n1:h.next<H.next:=by have:=ho.next;omega
  have gi:(aB.R l.ps)[i]? =some [.int .u16 l.ps[i].1, .int .u8 l.ps[i].2]:=aB.cj hi
  obtain⟨t0,r3,_⟩:=id hp
  simp+decide only[sv,ad5,r1,r4,y0,aF.aD,av]
  refine jk 14 18 rfl (by omega) rfl ?_
  simp+decide only[sv,azW,r1,r3,r4,y0,n1,aK,gi,kD]
  refine dh (aiy ok) (ba (ak _)) ?_
  have pe:App X (H.clean 18) (.vs (aB.R ((l.ps.take i).map fun p=>(p.1,gM p.2))) t0) (aB.R ((l.ps.take i).map fun p=>(p.1,gM p.2))):=by
   rw[<-r3];exact hp.old (Old.refl H).clean
  obtain⟨v,h2,a1,a2,a3,a5⟩:=pe.oJ ho.clean (base:=H.next) (n:=18) (i:=16) 4 2 [(l.ps[i].1,gM l.ps[i].2)] [[.int .u16 l.ps[i].1, .int .u8 (gM l.ps[i].2)]] rfl rfl ho.next (fun j hj=> .inl (by simp only[aa.clean];grind)) (by grind) (by decide)
  simp+decide only[sv,a1,a5,sR]
  simp+decide only[sv,azV,r4,hw]
  refine⟨a3,?_,r1,r2⟩
  rw[lN hi,jz]
  exact a2
 ·rintro ρ H ⟨ho,hp,r1,r2⟩ r4 av
  have y0:=ho.cells (by omega) x0
  have y1:cellsOf H (h.next+1)=_:=aq (by rw[ho.get _ (by omega)];exact x1)
  obtain⟨t0,r3,_⟩:=id hp
  rw[bX (ak _)] at r3
  simp+decide only[sv,ad5,azU,r1,r4,y0,aF.aD,av]
  refine ao (aiy ok) ?_
  simp+decide only[sv,r3]
  refine ao (Nh ok (l:=l.ps.map fun p=>(p.1,gM p.2)) (by grind)) ?_
  simp+decide only[sv,Lb.c,y1,r2,aV]
  refine⟨by simp only[AV.strip,AV.a8,aB.dJ],fun b hb=>?_⟩
  rw[aj (by omega)]
  exact(oX.trans ho).get b hb
def aFL (ok:aA P tb) {t:aL} {c gB:Nat} (hl:l.ps.length<2^17):al P 116 [.agg (l.c t), .int .u16 c, .int .u8 gB] h (.agg ((tj l c gB).c .au)) h:=by
 refine ok.df (rf:=ahv) rfl (bT rfl) (by simp only[AV.bD,AV.cG,Lb.c,aB.jD];rfl) ?_
 rw[akl]
 simp+decide only[sv,ahv,avJ,Lb.c]
 generalize hX:aa.at _ _ _=X
 have oX:Old h X:=by rw[<-hX];exact((Old.refl h).at (ak _)).at (by omega)
 have nX:X.next=h.next+2:=by rw[<-hX];simp[aa.at]
 have x0:cellsOf X h.next=some [.int .u8 l.d, .vs (aB.R l.ps) t]:=by rw[<-hX];exact aq (by simp[aa.at])
 have x1:X.get (h.next+1)=some (.cells [.int .u8 0, .vs [] .full]):=by rw[<-hX];simp[aa.at]
 clear hX
 have n1:h.next<X.next:=by omega
 refine jk 11 13 rfl (by omega) rfl ?_
 obtain⟨v,h2,a1,a2,a3,a5⟩:=(show App X (X.clean 13) (.vs [] .full) (aB.R []) from App.nil _ _).oJ (Old.refl X).clean (base:=X.next) (n:=13) (i:=5) 4 2 l.ps (aB.R l.ps) rfl rfl (ak _) (fun j hj=> .inl (by simp only[aa.clean];grind)) (by grind) (by decide)
 obtain⟨tv,rfl,_⟩:=id a2
 have hh:bQ 2 (aB.R l.ps)=true:=aB.fl
 simp+decide only[sv,avI,x0,n1,np,hh,kD]
 refine⟨_,h2,a1,a5,fun b hb=>?_,?_⟩
 ·rw[a3.get b hb];exact((Old.refl X).clean.get b hb).symm
 obtain⟨v3,h3,b1,b2,b3,b5⟩:=a2.oJ a3 (base:=X.next) (n:=13) (i:=10) 4 2 [(c,gB)] [[.int .u16 c, .int .u8 gB]] rfl rfl (ak _) (fun j hj=>by
  by_cases jv:j<=10
  ·exact .inr jv
  ·exact .inl (a5 j (by omega) hj)) (by grind) (by decide)
 rw[kF] at b1 b2
 obtain⟨tv2,rfl,_⟩:=id b2
 simp+decide only[sv,b1]
 refine⟨b5,fun b hb=>?_,?_⟩
 ·rw[b3.get b hb,a3.get b hb]
 refine dX (Nh ok (l:=l.ps++[(c,gB)]) (by simp;omega)) (fun j hj=>b5 j (by omega)) ?_
 have x3:cellsOf h3 (h.next+1)=_:=aq (by rw[b3.get _ (by omega),x1])
 simp+decide only[sv,Lb.c,x3,aV,xr]
 refine⟨fun j hj hn=>by omega,by simp only[AV.strip,AV.a8,aB.dJ],fun x hx=>?_⟩
 rw[aj (by omega),b3.get x (by omega),oX.get x hx]
def VD (ok:aA P tb) {t:aL} (hl:l.ps.length<2^18):al P 117 [.agg (l.c t)] h (.bool (names l)) h:=by
 refine ok.bA ahu ?_
 rw[aHg]
 simp+decide only[sv,ahu,avH,Lb.c]
 generalize hX:aa.at _ _ _=X
 have oX:Old h X:=by rw[<-hX];exact(Old.refl h).at (ak _)
 have cX:cellsOf X h.next=some ([AV.int .u8 l.d, .vs (aB.R l.ps) t]):=by rw[<-hX];exact aq (by simp[aa.at];try rfl)
 have nX:X.next=h.next+1:=by rw[<-hX];simp[aa.at]
 clear hX
 by_cases e:l.d=2
 ·have e1:(l.d:Int)=2:=by omega
  simp+decide only[sv,ab8,cX,e1]
  have c1:=Ii ok (h:=X) (l:=l) (t:=t) (x:=3) (by omega)
  simp only[Lb.c,e1] at c1
  refine ao c1 ?_
  have e2:(l.d==2)=true:=by simp[e]
  have e3:decide (((jU l 3).length:Int)=0)=((jU l 3).length==0):=by
   grind
  simp+decide only[sv,aF.aD,e2,e3]
  exact oX.get
 ·have e1: ¬(l.d:Int)=2:=by omega
  have e2:(l.d==2)=false:=by simp[e]
  simp+decide only[sv,ab8,cX,e1,e2]
  exact⟨rfl,oX.get⟩
def VM (ok:aA P tb) {a b:Lb} {t:aL} (ha:aQ a.ps) (hb:aQ b.ps) (yJ:a.ps.length<2^17) (gQ:b.ps.length<2^18):al P 24 [.agg (a.c t), .agg (b.c t')] h (.bool (eI a b)) h:=by
 refine ok.bA c24 ?_
 simp+decide only[sv,c24,aCZ,Lb.c]
 generalize hX:aa.at _ _ _=X
 have oX:Old h X:=by rw[<-hX];exact((Old.refl h).at (ak _)).at (by omega)
 have nX:X.next=h.next+2:=by rw[<-hX];simp[aa.at]
 have x0:cellsOf X h.next=some (a.c t):=by rw[<-hX];exact aq (by simp[aa.at];rfl)
 have x1:cellsOf X (h.next+1)=some (b.c t'):=by rw[<-hX];exact aq (by simp[aa.at];rfl)
 clear hX
 have n0:h.next<X.next:=by omega
 have n1:h.next+1<X.next:=by omega
 have s1:=(show vl a=kO (gM a.d) (a.ps.map fun p=>(p.1,gM p.2)) from ah5 ha)
 have s2:aQ (vl a).ps/\(vl a).ps.length<2^18:=by
  rw[s1]
  refine⟨ak4 _,?_⟩
  have:=Nl (d:=gM a.d) (l:=a.ps.map fun p=>(p.1,gM p.2)) (cs:=jf ((a.ps.map fun p=>(p.1,gM p.2)).map (·.1)))
  have h2:=(xz ((a.ps.map fun p=>(p.1,gM p.2)).map (·.1))).2.2
  rw[fp,fp] at h2
  show(List.flatMap _ _).length<_
  omega
 refine m6 ?_
 simp only[Lb.c] at x0 x1
 simp+decide only[sv,aCY,x0,x1,n0,n1]
 refine dh (aE8 ok (l:=a) (t:=t) ha (by omega)) (ba (ak _)) ?_
 simp+decide only[sv,n1]
 refine dh (Nr ok (a:=b) (t:=t') hb s2.1 gQ s2.2) (ba (ak _)) ?_
 simp+decide only[sv]
 exact⟨rfl,(oX.clean (n:=5)).get⟩
def VC (ok:aA P tb) {a b:Lb} {t:aL} (ha:aQ a.ps) (hb:aQ b.ps) (yJ:a.ps.length<2^18) (gQ:b.ps.length<2^18):al P 25 [.agg (a.c t), .agg (b.c t')] h (.bool (cM a b)) h:=by
 refine ok.bA c25 ?_
 simp+decide only[sv,c25,aCX,Lb.c]
 generalize hX:aa.at _ _ _=X
 have oX:Old h X:=by rw[<-hX];exact((Old.refl h).at (ak _)).at (by omega)
 have x0:cellsOf X h.next=some (a.c t):=by rw[<-hX];exact aq (by simp[aa.at];rfl)
 have x1:cellsOf X (h.next+1)=some (b.c t'):=by rw[<-hX];exact aq (by simp[aa.at];rfl)
 simp only[Lb.c] at x0 x1
 simp+decide only[sv,aCW,x0,x1]
 refine ao (Nr ok (a:=a) (t:=t) ha hb yJ gQ) ?_
 simp+decide only[sv]
 exact oX.get
def aFO (ok:aA P tb) {a b:Lb} {t:aL} (ha:aQ a.ps) (hb:aQ b.ps) (yJ:a.ps.length<2^18) (gQ:b.ps.length<2^18):al P 119 [.agg (a.c t), .agg (b.c t')] h (.int .i64 (vD a b)) h:=by
 refine ok.bA ahs ?_
 unfold vD
 simp+decide only[sv,ahs,avB,Lb.c]
 generalize hX:aa.at _ _ _=X
 have oX:Old h X:=by rw[<-hX];exact((Old.refl h).at (ak _)).at (by omega)
 have x0:cellsOf X h.next=some (a.c t):=by rw[<-hX];exact aq (by simp[aa.at];rfl)
 have x1:cellsOf X (h.next+1)=some (b.c t'):=by rw[<-hX];exact aq (by simp[aa.at];rfl)
 clear hX
 simp only[Lb.c] at x0 x1
 simp+decide only[sv,avA,x1]
 refine ao (VD ok (l:=b) (t:=t') gQ) ?_
 cases hn:names b with
 |false=>
  simp+decide only[sv,avz]
  exact⟨rfl,oX.get⟩
 |true=>
  simp+decide only[sv,avy,x1]
  refine ao (Ii ok (l:=b) (t:=t') (x:=0) (by omega)) ?_
  have es:jU b 0=dQ b.ps:=rfl
  by_cases hs:0<(dQ b.ps).length
  ·have gu:(0:Int)<((dQ b.ps).length:Int):=by omega
   simp+decide only[sv,avx,es,aF.aD,hs,gu]
   exact⟨rfl,oX.get⟩
  ·have gu: ¬(0:Int)<((dQ b.ps).length:Int):=by omega
   simp+decide only[sv,avw,es,aF.aD,hs,gu,x0,x1]
   refine ao (Nr ok (a:=a) (t:=t) ha hb yJ gQ) ?_
   cases hf:cM a b with
   |false=>
    simp+decide only[sv,avv]
    exact⟨rfl,oX.get⟩
   |true=>
    simp+decide only[sv,avu]
    exact oX.get
def aFM (ok:aA P tb) {a b:Lb} {t:aL} (ha:aQ a.ps) (hb:aQ b.ps) (yJ:a.ps.length<2^18) (gQ:b.ps.length<2^18):al P 76 [.agg (a.c t), .agg (b.c t')] h (.int .i64 (vC a b)) h:=by
 refine ok.bA c76 ?_
 unfold vC
 simp+decide only[sv,c76,ayR,Lb.c]
 generalize hX:aa.at _ _ _=X
 have oX:Old h X:=by rw[<-hX];exact((Old.refl h).at (ak _)).at (by omega)
 have nX:X.next=h.next+2:=by rw[<-hX];simp[aa.at]
 have x0:cellsOf X h.next=some (a.c t):=by rw[<-hX];exact aq (by simp[aa.at];rfl)
 have x1:cellsOf X (h.next+1)=some (b.c t'):=by rw[<-hX];exact aq (by simp[aa.at];rfl)
 clear hX
 simp only[Lb.c] at x0 x1
 simp+decide only[sv,ayQ,x1]
 refine ao (VD ok (l:=b) (t:=t') gQ) ?_
 cases hn:names b with
 |false=>
  simp+decide only[sv,ayP]
  exact⟨rfl,oX.get⟩
 |true=>
  simp+decide only[sv,ayO,x1]
  refine ao (Ii ok (l:=b) (t:=t') (x:=0) (by omega)) ?_
  have uP:(dQ b.ps).length<2^18:=by unfold dQ;grind
  rw[show jU b 0=dQ b.ps from rfl]
  generalize dQ b.ps=cs at*
  simp+decide only[sv,ayN]
  let J:Nat->Env->aa->Prop:=fun i ρ H=>Old X H/\(∀j (hj:j<cs.length),j<i->fx a cs[j]=0)/\ρ 2= .ptr h.next 0/\ρ 3= .ptr (h.next+1) 0/\ρ 5= .vs ((ay .u16).R cs) .au
  refine eQ 6 0 cs.length (by omega) (bM _) J ?_ ?_ ⟨Old.refl X,fun j _ hj=>by omega,rfl,rfl,rfl⟩ rfl
  ·rintro i ρ H ⟨ho,hf,r2,r3,r5⟩ r6-hi av aK hw
   have y0:=(ho.clean (n:=7)).cells (by omega) x0
   have n0:h.next<H.next:=by have:=ho.next;omega
   have gi:((ay .u16).R cs)[i]? =some [.int .u16 cs[i]]:=(ay .u16).cj hi
   simp+decide only[sv,adP,r5,r6,aF.aD,av]
   refine bq 7 rfl rfl ?_
   simp+decide only[sv,ayM,r2,r5,r6,y0,aK,gi]
   refine dX (Wl ok (l:=a) (t:=t) (by omega)) (ba (ak _)) ?_
   by_cases e:fx a cs[i]=0
   ·have e1:(fx a cs[i]:Int)=0:=by omega
    simp+decide only[sv,ayK,r6,e1,hw]
    refine⟨ho.clean,fun j hj jt=>?_,r2,r3,r5⟩
    grind
   ·have e1: ¬(fx a cs[i]:Int)=0:=by omega
    have e2:(cs.any fun c=>!(fx a c==0))=true:=by
     grind
    rw[e2]
    simp+decide only[sv,ayL,e1]
    exact⟨rfl,(oX.trans (ho.clean (n:=7))).get⟩
  ·rintro ρ H ⟨ho,hf,r2,r3,r5⟩ r6 av
   have y0:=ho.cells (by omega) x0
   have y1:=ho.cells (by omega) x1
   have e2:(cs.any fun c=>!(fx a c==0))=false:=by
    rw[List.any_eq_false]
    intro x hx
    obtain⟨j,hj,rfl⟩:=jm hx
    grind
   rw[e2]
   simp+decide only[sv,adP,ayJ,r2,r3,r5,r6,y0,y1,aF.aD,av]
   refine ao (Nr ok (a:=a) (t:=t) ha hb yJ gQ) ?_
   cases hf:cM a b with
   |false=>
    simp+decide only[sv,anp]
    exact⟨rfl,(oX.trans ho).get⟩
   |true=>
    simp+decide only[sv,ano]
    exact(oX.trans ho).get
def aiQ:xA l=true↔ ∀j (hj:j<l.length),1<=j->l[j-1]<l[j]:=by
 unfold xA
 rw[ui]
 constructor
 ·intro h j hj h1
  have:=h (j-1) (List.mem_range.2 (by omega))
  grind
 grind
def aFl (ok:aA P tb) {t:aL} (hl:l.length<2^30):al P 218 [.vs ((ay .u16).R l) t] h (.bool (lL l)) h:=by
 refine ok.bA agv ?_
 unfold lL
 simp+decide only[sv,agv,apN,apM]
 let J:Nat->Env->aa->Prop:=fun i ρ H=>Old h H/\(∀j (hj:j<l.length),1<=j->j<i->l[j-1]<l[j])/\ρ 0= .vs ((ay .u16).R l) t
 refine eQ 3 1 (max 1 l.length) (by omega) (by omega) J ?_ ?_ ⟨Old.refl h,fun j _ _ hj=>by omega,rfl⟩ rfl
 ·rintro i ρ H ⟨ho,hf,r0⟩ r3 h1 hi-aK hw
  have av:(i:Int)<(l.length:Int):=by omega
  have jM:i<l.length:=by omega
  have w1:IntKind.wrap .i64 ((i:Int)-1)=((i-1:Nat):Int):=by rw[bj]<;>omega
  have Ew:(0:Int)<=((i-1:Nat):Int):=by omega
  have gi:((ay .u16).R l)[i]? =some [.int .u16 l[i]]:=(ay .u16).cj jM
  have gj:((ay .u16).R l)[i-1]? =some [.int .u16 l[i-1]]:=(ay .u16).cj (by omega)
  simp+decide only[sv,ZE,r0,r3,aF.aD,av]
  refine bq 10 rfl rfl ?_
  by_cases e:l[i-1]<l[i]
  ·have e1: ¬(l[i]:Int)<=(l[i-1]:Int):=by omega
   simp+decide only[sv,ZD,apK,r0,r3,aK,Ew,w1,gi,gj,e1,hw]
   refine⟨ho.clean,fun j hj wV jt=>?_,r0⟩
   grind
  ·have e1:(l[i]:Int)<=(l[i-1]:Int):=by omega
   have e2:xA l=false:=by
    rw[<-Gx,aiQ]
    grind
   simp+decide only[sv,ZD,apL,r0,r3,aK,Ew,w1,gi,gj,e1,e2,Gt]
   exact(ho.clean (n:=10)).get
 ·rintro ρ H ⟨ho,hf,r0⟩ r3 -
  have av: ¬(max 1 l.length:Nat)<(l.length:Int):=by omega
  have e2:xA l=true:=aiQ.2 fun j hj h1=>hf j hj h1 (by omega)
  have e3:decide ((l.length:Int)<=16)=decide (l.length<=16):=by
   grind
  simp+decide only[sv,ZE,apJ,r0,r3,aF.aD,av,e2,e3]
  exact ho.get
def aMN {a b:Lb} (h1:a.d=b.d) (h2:a.ps=b.ps):a=b:=by cases a;simp_all
def aix (ok:aA P tb) {a b:Lb} {t:aL} (hl:a.ps.length<2^30):al P 101 [.agg (a.c t), .agg (b.c t')] h (.bool (decide (a=b))) h:=by
 refine ok.bA ahF ?_
 simp+decide only[sv,ahF,awu,Lb.c]
 generalize hX:aa.at _ _ _=X
 have oX:Old h X:=by rw[<-hX];exact((Old.refl h).at (ak _)).at (by omega)
 have nX:X.next=h.next+2:=by rw[<-hX];simp[aa.at]
 have x0:cellsOf X h.next=some (a.c t):=by rw[<-hX];exact aq (by simp[aa.at];rfl)
 have x1:cellsOf X (h.next+1)=some (b.c t'):=by rw[<-hX];exact aq (by simp[aa.at];rfl)
 clear hX
 simp only[Lb.c] at x0 x1
 by_cases hd:a.d=b.d
 case neg=>
  have jh: ¬(a.d:Int)=(b.d:Int):=by omega
  have e2:decide (a=b)=false:=mc fun q=>hd (by rw[q])
  simp+decide only[sv,QG,acJ,x0,x1,jh,e2]
  exact oX.get
 have jh:(a.d:Int)=(b.d:Int):=by omega
 by_cases hn:a.ps.length=b.ps.length
 case neg=>
  have cV: ¬(a.ps.length:Int)=(b.ps.length:Int):=by omega
  have e2:decide (a=b)=false:=mc fun q=>hn (by rw[q])
  simp+decide only[sv,QG,acJ,x0,x1,jh,aF.aD,cV,e2]
  exact oX.get
 have cV:(a.ps.length:Int)=(b.ps.length:Int):=by omega
 simp+decide only[sv,QG,awt,x0,x1,jh,aF.aD,cV]
 let J:Nat->Env->aa->Prop:=fun i ρ H=>Old X H/\(∀j (hj:j<a.ps.length) (mZ:j<b.ps.length),j<i->a.ps[j]=b.ps[j])/\ρ 2= .ptr h.next 0/\ρ 3= .ptr (h.next+1) 0
 refine eQ 5 0 a.ps.length (by omega) (bM _) J ?_ ?_ ⟨Old.refl X,fun j _ _ hj=>by omega,rfl,rfl⟩ rfl
 ·rintro i ρ H ⟨ho,hf,r2,r3⟩ r5-hi av aK hw
  have y0:=ho.cells (by omega) x0
  have z0:=(ho.clean (n:=11)).cells (by omega) x0
  have z1:=(ho.clean (n:=11)).cells (by omega) x1
  have n0:h.next<H.next:=by have:=ho.next;omega
  have n1:h.next+1<H.next:=by have:=ho.next;omega
  have gi:(aB.R a.ps)[i]? =some [.int .u16 a.ps[i].1, .int .u8 a.ps[i].2]:=aB.cj hi
  have gj:(aB.R b.ps)[i]? =some [.int .u16 b.ps[i].1, .int .u8 b.ps[i].2]:=aB.cj (by omega)
  simp+decide only[sv,acI,r2,r5,y0,aF.aD,av]
  refine bq 11 rfl rfl ?_
  by_cases e:a.ps[i]=b.ps[i]
  ·have e1:zn true [0,1] (.agg [.int .u16 a.ps[i].1, .int .u8 a.ps[i].2]) (.agg [.int .u16 b.ps[i].1, .int .u8 b.ps[i].2])=some (.bool false):=by
    rw[e];simp[zn,BA]
   simp+decide only[sv,acH,awr,r2,r3,r5,z0,z1,aK,gi,gj,e1,hw]
   refine⟨ho.clean,fun j hj mZ jt=>?_,r2,r3⟩
   grind
  ·have e1:zn true [0,1] (.agg [.int .u16 a.ps[i].1, .int .u8 a.ps[i].2]) (.agg [.int .u16 b.ps[i].1, .int .u8 b.ps[i].2])=some (.bool true):=by
    have: ¬(a.ps[i].1=b.ps[i].1/\a.ps[i].2=b.ps[i].2):=fun q=>e (Prod.ext q.1 q.2)
    simp[zn,BA]
    omega
   have e2:decide (a=b)=false:=mc fun q=>e (by simp only[q])
   simp+decide only[sv,acH,aws,r2,r3,r5,z0,z1,aK,gi,gj,e1,e2]
   exact(oX.trans (ho.clean (n:=11))).get
 ·rintro ρ H ⟨ho,hf,r2,r3⟩ r5 av
  have y0:=ho.cells (by omega) x0
  have e2:decide (a=b)=true:=mF (aMN hd (B6 hn fun j h1 h2=>hf j h1 h2 h1))
  simp+decide only[sv,acI,awq,r2,r5,y0,aF.aD,av,e2]
  exact(oX.trans ho).get
def aMu {a b:St} (h1:a.s=b.s) (h2:a.i=b.i) (h3:a.o=b.o):a=b:=by cases a;simp_all
def ahK (ok:aA P tb) {a b:St} (h1:a.s.length<2^30) (h2:a.i.length<2^30) (h3:a.o.length<2^30):al P 102 [.agg (a.c τ), .agg (b.c τ')] h (.bool (decide (a=b))) h:=by
 refine ok.bA ahE ?_
 simp+decide only[sv,ahE,awp,St.c]
 generalize hX:aa.at _ _ _=X
 have oX:Old h X:=by rw[<-hX];exact((Old.refl h).at (ak _)).at (by omega)
 have x0:cellsOf X h.next=some (a.c τ):=by rw[<-hX];exact aq (by simp[aa.at];rfl)
 have x1:cellsOf X (h.next+1)=some (b.c τ'):=by rw[<-hX];exact aq (by simp[aa.at];rfl)
 clear hX
 simp only[St.c] at x0 x1
 simp+decide only[sv,awo,x0,x1]
 refine ao (Ni ok h1) ?_
 by_cases e1:a.s=b.s
 case neg=>
  have e:decide (a=b)=false:=mc fun q=>e1 (by rw[q])
  rw[mc e1,e]
  simp+decide only[sv,x1]
  exact oX.get
 rw[mF e1]
 simp+decide only[sv,x0,x1]
 refine ao (Ni ok h2) ?_
 by_cases e2:a.i=b.i
 case neg=>
  have e:decide (a=b)=false:=mc fun q=>e2 (by rw[q])
  rw[mc e2,e]
  simp+decide only[sv,x1]
  exact oX.get
 rw[mF e2]
 simp+decide only[sv,x0,x1]
 refine ao (Ni ok h3) ?_
 have e:decide (a=b)=decide (a.o=b.o):=by
  by_cases e3:a.o=b.o
  ·rw[mF e3,mF (aMu e1 e2 e3)]
  grind
 rw[e]
 simp+decide only[sv,x1]
 exact oX.get
def ahZ (ok:aA P tb) {b:List UInt8} {t:aL} (hb:b.length<2^20) (hs:s.length<2^20): ∃v' h',al P 133 [.vs (BS b) t, .vs (BS s) t'] h v' h'/\App h h' v' (BS (b++cq s))/\Old h h':=by
 refine ok.kP ahj ?_
 have w:IntKind.wrap .u64 (s.length:Int)=s.length:=eo (by omega)
 simp+decide only[sv,ahj,auI,auH,aY,w]
 obtain⟨v1,h1,c1,a1,o1⟩:=Oj ok (h:=h) (b:=b) (t:=t) (v:=s.length) (n:=2) (by omega) (by omega)
 refine ao c1 ?_
 obtain⟨t1,rfl,_⟩:=id a1
 obtain⟨v2,h2,d1,d2,d3,_⟩:=App.more (E:=dt) a1 o1 1 1 s (BS s) rfl rfl (by simp only[cw,bG];omega) (by decide)
 have hh:bQ 1 (BS s)=true:=iM
 simp+decide only[sv,hh,d1,eK]
 rw[eR] at d2
 exact⟨d2,d3⟩
end
end Go.Proofs.YtoioonbabnomkaaGreat.Am
