/- What the functions do. Conditions: none. -/
import Derived.Test.YtmffhohcjifllaaGreatQb
set_option maxRecDepth 100000
set_option maxHeartbeats 8000000
set_option linter.unusedSimpArgs false
set_option linter.unusedVariables false
set_option linter.unnecessarySimpa false
namespace Go.Proofs.YtmffhohcjifllaaGreat.Am
section
open Go
variable {ah:List Ob} {ai:List Th} {r o:Ob} {l:Lb} {id:Nat}
theorem anC {t:Nat} {x:Th} {c:Cl} {d:Int} (h: ¬((c.op=2\/c.op=3)/\names c.ak=false)):jI t x ah c d=xd t x ah c d:=if_neg h
theorem rG.x9 {h Y h1:aa} {a:KA} {lb N M:Nat} (o:Old h Y) (e:rG Y a lb N M ai ah h1) (cO: ∀b,FK a b\/FA a lb b\/FS a b->b<h.next) {i:Nat} (hi:h.next<=i) (BD:i<Y.next) (b:Option cI):rG h a lb N M ai ah (h1.set i b):=by
 obtain⟨fw,N1,M1,K,kf,hl,hN,hM⟩:=e
 have e2:jU Y a lb N M ai ah h1:=⟨fw,N1,M1,K.k,kf,hl,hN,hM,K.inv.tv,K.inv.root⟩
 obtain⟨Wi,N2,M2,K2,qT,fY,hN2,hM2,_⟩:=e2.x9 o cO hi BD b
 exact⟨Wi,N2,M2,⟨K2,K.inv⟩,qT,fY,hN2,hM2⟩
end
section
open Go
variable {P:Program} {h:aa}
def ig (x:Th):Int:=if x.bG=2/\x.done<x.n then(if 0<(x.n-x.done)%4 then(x.n-x.done)/4+1 else(x.n-x.done)/4) else 0
structure MV (x:Th):Prop where
 lo:x.bG=2->0<=x.done/\x.done<x.n/\x.n<=16
theorem Nj {x:Th} (m:MV x):0<=ig x/\ig x<=4/\(x.bG=2->1<=ig x):=by
 unfold ig
 by_cases h:x.bG=2
 ·have:=m.lo h
  rw[if_pos ⟨h,this.2.1⟩]
  split<;>omega
 ·rw[if_neg (fun e=>h e.1)]
  exact⟨by omega,by omega,fun e=>absurd e h⟩
def ft (l:List Th):Int:=l.foldr (fun x s=>ig x+s) 0
theorem zv {x:Th} {l:List Th}:ft (x::l)=ig x+ft l:=rfl
theorem CB: ∀{l:List Th},(∀x∈l,MV x)->0<=ft l/\ft l<=4*l.length
 |[],_=>by simp[ft]
 |x::l,h=>by
  have a:=Nj (h x (by simp))
  have b:=CB (l:=l) (fun y hy=>h y (by simp[hy]))
  rw[zv,List.length_cons];omega
theorem ZI: ∀{l m:List Th},ft (l++m)=ft l+ft m
 |[],m=>by simp[ft]
 |x::l,m=>by rw[List.cons_append,zv,zv,ZI];omega
theorem ZH: ∀{l:List Th} {t:Nat} {y:Th} (ht:t<l.length),ft (l.set t y)=ft l-ig l[t]+ig y
 |x::l,0,y,_=>by simp only[List.set_cons_zero,zv,List.getElem_cons_zero];omega
 |x::l,t+1,y,h=>by
  have:=ZH (l:=l) (t:=t) (y:=y) (by simpa using h)
  simp only[List.set_cons_succ,zv,List.getElem_cons_succ,this];omega
theorem M3: ∀{l:List Th},(∀x∈l,MV x)->(ft l=0↔ ∀x∈l,x.bG≠2)
 |[],_=>by simp[ft]
 |x::l,h=>by
  have a:=Nj (h x (by simp))
  have b:=CB (l:=l) (fun y hy=>h y (by simp[hy]))
  have ih:=M3 (l:=l) (fun y hy=>h y (by simp[hy]))
  rw[zv]
  constructor
  ·intro e y hy
   rcases List.mem_cons.1 hy with rfl|hy
   ·intro h2;have:=a.2.2 h2;omega
   ·exact ih.1 (by omega) y hy
  ·intro e
   have h1:ig x=0:=by unfold ig;rw[if_neg (fun q=>e x (by simp) q.1)]
   have h2:=ih.2 (fun y hy=>e y (by simp[hy]))
   omega
theorem ZU {x:Th} {ah:List Ob} {c:Cl} {done:Int} (h0:x.bG=0) (hd:0<=done) (hn:c.n<=16):MV (gw x ah c done).2.2.1/\(done<c.n->ig (gw x ah c done).2.2.1<(if 0<(c.n-done)%4 then(c.n-done)/4+1 else(c.n-done)/4)):=by
 have idle:MV x/\(done<c.n->ig x<(if 0<(c.n-done)%4 then(c.n-done)/4+1 else(c.n-done)/4)):=by
  refine⟨⟨fun e=>by omega⟩,fun h=>?_⟩
  unfold ig
  rw[if_neg (fun e=>by omega)]
  split<;>omega
 unfold gw
 split
 ·exact idle
 split
 ·exact idle
 split
 ·exact idle
 rename_i hr
 unfold Bq
 simp only
 split
 ·rename_i he
  have hc:0<=c.n:=by omega
  have e1:((max 0 (min done c.n)).toNat:Int)=min done c.n:=by omega
  have e2:(c.n.toNat:Int)=c.n:=by omega
  have e3:((min ((max 0 (min done c.n)).toNat+4) c.n.toNat:Nat):Int)=min done c.n+4:=by omega
  refine⟨⟨fun _=>?_⟩,fun h=>?_⟩
  ·show 0<=((min ((max 0 (min done c.n)).toNat+4) c.n.toNat:Nat):Int)/\((min ((max 0 (min done c.n)).toNat+4) c.n.toNat:Nat):Int)<c.n/\c.n<=16
   omega
  ·unfold ig
   show(if(2:Int)=2/\((min ((max 0 (min done c.n)).toNat+4) c.n.toNat:Nat):Int)<c.n then(if 0<(c.n-((min ((max 0 (min done c.n)).toNat+4) c.n.toNat:Nat):Int))%4 then(c.n-((min ((max 0 (min done c.n)).toNat+4) c.n.toNat:Nat):Int))/4+1 else(c.n-((min ((max 0 (min done c.n)).toNat+4) c.n.toNat:Nat):Int))/4) else 0)<_
   rw[e3,show min done c.n=done by omega]
   rw[if_pos ⟨rfl,by omega⟩]
   split<;>split<;>omega
 ·exact idle
theorem anD {t:Nat} {x:Th} {ah:List Ob} {c:Cl} {done:Int} (h0:x.bG=0) (hd:0<=done) (hn:c.op=10->c.n<=16):MV (jI t x ah c done).th:=by
 have idle: ∀y:Th,y.bG=0\/y.bG=1->MV y:=fun y hy=>⟨fun e=>by omega⟩
 have st: ∀cs,(gq x cs).2.bG=0:=fun cs=>by unfold gq;split<;>exact h0
 have step: ∀{p:Prop} [Decidable p] {a b:Dr},(p->MV a.th)->(¬p->MV b.th)->MV (if p then a else b).th:=fun{p} _ {a b} h1 h2=>by
  by_cases hp:p
  ·rw[if_pos hp];exact h1 hp
  ·rw[if_neg hp];exact h2 hp
 unfold jI
 refine step (fun _=>idle _ (.inl h0)) (fun _=>?_)
 unfold xd
 refine step (fun _=>idle _ (.inl ?_)) (fun _=>?_)
 ·show(mn t x).2.2.bG=0
  unfold mn
  split
  ·exact h0
  split
  ·exact h0
  ·exact st _
 refine step (fun _=>idle _ (.inl ?_)) (fun _=>?_)
 ·show(nI x c.ak).2.bG=0
  unfold nI
  split<;>exact h0
 refine step (fun _=>idle _ (.inl h0)) (fun _=>?_)
 refine step (fun _=>idle _ (.inl h0)) (fun _=>?_)
 refine step (fun _=>idle _ (.inl h0)) (fun _=>?_)
 refine step (fun _=>idle _ (.inl h0)) (fun _=>?_)
 refine step (fun _=>idle _ (.inl ?_)) (fun _=>?_)
 ·show(pt x ah c).2.bG=0
  unfold pt
  split
  ·exact h0
  ·exact st _
 refine step (fun _=>idle _ (.inl h0)) (fun _=>?_)
 refine step (fun _=>?_) (fun _=>?_)
 ·show MV (ik x ah c).2.2.1
  unfold ik
  split
  ·exact idle _ (.inl h0)
  ·split
   ·exact idle _ (.inr rfl)
   ·exact idle _ (.inl h0)
 refine step (fun e=>(ZU h0 hd (hn e)).1) (fun _=>?_)
 refine step (fun _=>idle _ (.inl h0)) (fun _=>?_)
 refine step (fun _=>idle _ (.inl h0)) (fun _=>?_)
 refine step (fun _=>idle _ (.inl h0)) (fun _=>?_)
 exact idle _ (.inl h0)
theorem ZA {t:Nat} {D:Dr} {ai:List Th}:(told t D ai).ai=ai.set t D.th:=rfl
theorem apE {t:Int} {ai:List Th} {ah:List Ob} {c:Cl} (h: ∀x∈ai,MV x) (hn:c.op=10->c.n<=16):(∀x∈(ko t ai ah c).ai,MV x)/\(ko t ai ah c).ai.length=ai.length:=by
 unfold ko
 split
 ·exact⟨h,rfl⟩
 split
 ·exact⟨h,rfl⟩
 split
 ·refine⟨fun x hx=>?_,by unfold nL;rw[ZA,List.length_set]⟩
  rcases List.mem_or_eq_of_mem_set hx with hx|rfl
  ·exact h x hx
  ·exact anD rfl (Int.le_refl _) hn
 ·exact⟨h,rfl⟩
theorem apC {t:Nat} {ai:List Th} {ah:List Ob} (ht:t<ai.length) (h: ∀x∈ai,MV x) (h2:ai[t].bG=2):(∀x∈(jx t ai ah).ai,MV x)/\(jx t ai ah).ai.length=ai.length/\ft (jx t ai ah).ai<ft ai:=by
 have hm:=h _ (List.getElem_mem ht)
 have m:=hm.lo h2
 have h1:qS ai t=true:=by unfold qS;simp;omega
 have hb:si ai t=true:=by
  unfold si
  rw[h1,Int.toNat_natCast,List.getElem?_eq_getElem ht,Option.map_some,Option.getD_some,h2];rfl
 have hk:jx t ai ah=nL t ai ai[t] ah {td with op:=10,id:=ai[t].id,to:=ai[t].to,n:=ai[t].n} ai[t].done:=by
  unfold jx
  rw[if_neg (by simp[hb]),Int.toNat_natCast,List.getElem?_eq_getElem ht]
  show(if ai[t].bG=1 then _ else _)=_
  rw[if_neg (by omega)]
 rw[hk]
 unfold nL
 rw[ZA]
 have hmv:=ZU (x:=qx ai[t]) (ah:=ah) (c:={td with op:=10,id:=ai[t].id,to:=ai[t].to,n:=ai[t].n}) (done:=ai[t].done) rfl m.1 m.2.2
 have e:(jI t (qx ai[t]) ah {td with op:=10,id:=ai[t].id,to:=ai[t].to,n:=ai[t].n} ai[t].done).th=(gw (qx ai[t]) ah {td with op:=10,id:=ai[t].id,to:=ai[t].to,n:=ai[t].n} ai[t].done).2.2.1:=by
  rw[anC (fun h=>by rcases h.1 with h|h<;>cases h)];rfl
 rw[e]
 refine⟨fun x hx=>?_,by rw[List.length_set],?_⟩
 ·rcases List.mem_or_eq_of_mem_set hx with hx|rfl
  ·exact h x hx
  ·exact hmv.1
 ·rw[ZH ht]
  have:=hmv.2 m.2.1
  have hq:ig ai[t]=if 0<(ai[t].n-ai[t].done)%4 then(ai[t].n-ai[t].done)/4+1 else(ai[t].n-ai[t].done)/4:=by
   unfold ig;rw[if_pos ⟨h2,m.2.1⟩]
  rw[hq]
  have e:ig _<(if 0<(ai[t].n-ai[t].done)%4 then(ai[t].n-ai[t].done)/4+1 else(ai[t].n-ai[t].done)/4):=this
  omega
end
section
open Go
def iR (x:Nat):List Nat->List Nat
 |[]=>[x]
 |y::l=>if y<x then y::iR x l else if y=x then y::l else x::y::l
def jO (l:List Nat):List Nat:=l.foldl (fun out x=>iR x out) []
theorem Nr {x z:Nat}: ∀{l:List Nat},z∈iR x l->z=x\/z∈l
 |[],h=>by simpa [iR] using h
 |y::l,h=>by
  unfold iR at h
  split at h
  ·rcases List.mem_cons.1 h with h|h
   ·exact .inr (by simp[h])
   ·rcases Nr h with h|h
    ·exact .inl h
    ·exact .inr (List.mem_cons_of_mem _ h)
  split at h
  ·exact .inr h
  ·rcases List.mem_cons.1 h with h|h
   ·exact .inl h
   ·exact .inr h
theorem ZV {x:Nat}: ∀{l:List Nat},l.Pairwise (· < ·)->(iR x l).Pairwise (· < ·)
 |[],_=>by simp[iR]
 |y::l,h=>by
  have h':=List.pairwise_cons.1 h
  unfold iR
  split
  ·refine List.pairwise_cons.2 ⟨fun z hz=>?_,ZV h'.2⟩
   rcases Nr hz with rfl|hz
   ·assumption
   ·exact h'.1 z hz
  split
  ·exact h
  ·refine List.pairwise_cons.2 ⟨fun z hz=>?_,h⟩
   rcases List.mem_cons.1 hz with rfl|hz
   ·omega
   ·have:=h'.1 z hz;omega
theorem ZW {x:Nat}: ∀{l:List Nat},(iR x l).length<=l.length+1
 |[]=>by simp[iR]
 |y::l=>by
  have:=ZW (x:=x) (l:=l)
  unfold iR
  split
  ·simp;omega
  split
  ·simp
  ·simp
theorem aax {x:Nat}: ∀{l:List Nat} {k:Nat},(∀j (hj:j<l.length),j<k->l[j]<x)->k<=l.length->(∀hk:k<l.length,¬l[k]<x)->iR x l=if(∃hk:k<l.length,l[k]=x) then l else l.take k++x::l.drop k
 |[],k,_,hk,_=>by
  rw[if_neg (fun⟨h,_⟩=>by simp at h)]
  simp[iR]
 |y::l,0,_,_,h=>by
  have hy:=h (by simp)
  simp only[List.getElem_cons_zero] at hy
  unfold iR
  rw[if_neg hy]
  by_cases e:y=x
  ·rw[if_pos e,if_pos ⟨by simp,by simpa using e⟩]
  ·rw[if_neg e,if_neg (fun⟨_,h⟩=>e (by simpa using h))];simp
 |y::l,k+1,h1,hk,h2=>by
  have hy:=h1 0 (by simp) (by omega)
  simp only[List.getElem_cons_zero] at hy
  have ih:=aax (x:=x) (l:=l) (k:=k) (fun j hj hjk=>by have:=h1 (j+1) (by simp;omega) (by omega);simpa using this) (by simpa using hk) (fun fh=>by have:=h2 (by simp;omega);simpa using this)
  unfold iR
  rw[if_pos hy,ih]
  by_cases e: ∃hk:k<l.length,l[k]=x
  ·obtain⟨e1,e2⟩:=e
   rw[if_pos ⟨e1,e2⟩,if_pos ⟨by simp;omega,by simpa using e2⟩]
  ·rw[if_neg e,if_neg (fun⟨q1,q2⟩=>e ⟨by simpa using q1,by simpa using q2⟩)];simp
theorem HT (l:List Nat):(jO l).Pairwise (· < ·)/\(∀z∈jO l,z∈l)/\(jO l).length<=l.length:=by
 have key: ∀(l out:List Nat),out.Pairwise (· < ·)->(l.foldl (fun out x=>iR x out) out).Pairwise (· < ·)/\(∀z∈l.foldl (fun out x=>iR x out) out,z∈out\/z∈l)/\(l.foldl (fun out x=>iR x out) out).length<=out.length+l.length:=by
  intro l
  induction l with
  |nil=>intro out h;exact⟨h,fun z hz=> .inl hz,by simp⟩
  |cons x l ih=>
   intro out h
   obtain⟨a1,a2,a3⟩:=ih (iR x out) (ZV h)
   refine⟨a1,fun z hz=>?_,?_⟩
   ·rcases a2 z hz with h|h
    ·rcases Nr h with rfl|h
     ·exact .inr (by simp)
     ·exact .inl h
    ·exact .inr (by simp[h])
   ·have:=ZW (x:=x) (l:=out)
    simp only[List.foldl_cons,List.length_cons];omega
 obtain⟨a1,a2,a3⟩:=key l [] List.Pairwise.nil
 refine⟨a1,fun z hz=>?_,by unfold jO;simpa using a3⟩
 rcases a2 z hz with h|h
 ·cases h
 ·exact h
theorem am5 {l:List Nat} {x:Nat}:jO (l++[x])=iR x (jO l):=by simp[jO]
def mL (d:Nat) (l:List (Nat×Nat)) (c:Nat):Nat:=l.foldl (fun v p=>if p.1=c then p.2 else v) d
theorem ald {d c:Nat} {l:List (Nat×Nat)} {p:Nat×Nat}:mL d (l++[p]) c=if p.1=c then p.2 else mL d l c:=by simp[mL]
theorem ZS {d c m:Nat} (hd:d<=m): ∀{l:List (Nat×Nat)},(∀p∈l,p.2<=m)->mL d l c<=m:=by
 intro l
 unfold mL
 induction l generalizing d with
 |nil=>intro _;exact hd
 |cons p l ih=>
  intro h
  simp only[List.foldl_cons]
  refine ih ?_ (fun q hq=>h q (by simp[hq]))
  split
  ·exact h p (by simp)
  ·exact hd
def jq (d:Nat) (l:List (Nat×Nat)) (c:Nat):List (Nat×Nat):=if mL d l c=d then [] else [(c,mL d l c)]
def lu (d:Nat) (l:List (Nat×Nat)):Lb:=⟨d,(jO (l.map (·.1))).flatMap (jq d l)⟩
theorem al7 {d c:Nat} {l:List (Nat×Nat)}:(jq d l c).length<=1:=by unfold jq;split<;>simp
theorem Mt {d:Nat} {l:List (Nat×Nat)}: ∀{cs:List Nat},(cs.flatMap (jq d l)).length<=cs.length
 |[]=>by simp
 |c::cs=>by
  have:=Mt (d:=d) (l:=l) (cs:=cs)
  have:=al7 (d:=d) (c:=c) (l:=l)
  simp only[List.flatMap_cons,List.length_append,List.length_cons];omega
theorem Xq {d:Nat} {l:List (Nat×Nat)}: ∀{cs:List Nat},cs.Pairwise (· < ·)->(cs.flatMap (jq d l)).Pairwise (fun a b=>a.1<b.1)
 |[],_=>by simp
 |c::cs,h=>by
  have h':=List.pairwise_cons.1 h
  have ih:=Xq (d:=d) (l:=l) h'.2
  have hm: ∀q∈cs.flatMap (jq d l),c<q.1:=by
   intro q hq
   obtain⟨x,hx,hq⟩:=List.mem_flatMap.1 hq
   unfold jq at hq
   split at hq
   ·cases hq
   ·rw[List.mem_singleton.1 hq];exact h'.1 x hx
  rw[List.flatMap_cons]
  unfold jq
  split
  ·exact ih
  ·exact List.pairwise_cons.2 ⟨hm,ih⟩
theorem aar {d:Nat} {l:List (Nat×Nat)} {cs:List Nat} {q:Nat×Nat} (h:q∈cs.flatMap (jq d l)):q.1∈cs/\q.2=mL d l q.1/\q.2≠d:=by
 obtain⟨x,hx,hq⟩:=List.mem_flatMap.1 h
 unfold jq at hq
 split at hq
 ·cases hq
 ·rw[List.mem_singleton.1 hq];exact⟨hx,rfl,by assumption⟩
theorem aa4 {d:Nat} {l:List (Nat×Nat)} (h1:1<=d) (h4:d<=4) (hl:l.length<=16) (hp: ∀p∈l,p.1<65536/\p.2<=4):(lu d l).ok/\dB (lu d l)=true/\(lu d l).ps.length<=l.length:=by
 obtain⟨s1,s2,s3⟩:=HT (l.map (·.1))
 have hlen:(lu d l).ps.length<=l.length:=by
  have:=Mt (d:=d) (l:=l) (cs:=jO (l.map (·.1)))
  rw[List.length_map] at s3
  show((jO (l.map (·.1))).flatMap (jq d l)).length<=_
  omega
 have hq: ∀q∈(lu d l).ps,q.1<65536/\q.2<=4/\q.2≠d:=by
  intro q hq
  obtain⟨a1,a2,a3⟩:=aar hq
  obtain⟨p,LK,Wu⟩:=List.mem_map.1 (s2 _ a1)
  refine⟨by rw[<-Wu];exact(hp p LK).1,?_,a3⟩
  rw[a2];exact ZS h4 (fun p qY=>(hp p qY).2)
 refine⟨⟨by show d<256;omega,fun q h=>⟨(hq q h).1,by have:=(hq q h).2.1;omega⟩,by omega⟩,?_,hlen⟩
 unfold dB
 have di:=Xq (d:=d) (l:=l) s1
 have e1:decide (1<=(lu d l).d)=true:=decide_eq_true h1
 have e2:decide ((lu d l).d<=4)=true:=decide_eq_true h4
 have e3:decide ((lu d l).ps.length<=16)=true:=by simp;omega
 rw[e1,e2,e3]
 simp only[Bool.true_and,List.all_eq_true,List.mem_range]
 intro i hi
 unfold oe
 have gi:(lu d l).ps.getD i (0,0)=(lu d l).ps[i]:=by rw[List.getD_eq_getElem?_getD,List.getElem?_eq_getElem hi];rfl
 rw[gi]
 have:=hq _ (List.getElem_mem hi)
 simp only[Bool.and_eq_true,decide_eq_true_eq,Bool.not_eq_true',beq_eq_false_iff_ne,Bool.or_eq_true,beq_iff_eq]
 refine⟨⟨this.2.1,this.2.2⟩,?_⟩
 by_cases h0:i=0
 ·exact .inl h0
 ·right
  have ux:i-1<(lu d l).ps.length:=by omega
  rw[List.getD_eq_getElem?_getD,List.getElem?_eq_getElem ux]
  exact(List.pairwise_iff_getElem.1 di) (i-1) i ux hi (by omega)
end
section
open Go
variable {P:Program} {h:aa}
theorem akv (ok:ax P tb) {l:List Nat} {t:aH} {h:aa} (hl:l.length<2^20):an P 62 [.vs ((ay .u16).R l) t] h (.vs ((ay .u16).R (jO l)) .ao) h:=by
 refine ok.eM (rf:=lK) rfl (Nat.le_of_ble_eq_true rfl) (ay .u16).lV ?_
 simp+decide only[st,xv,lK,agc,agb,aga]
 let I:Nat->Env->aa->Prop:=fun m ρ H=>Old h H/\ ∃i:Nat,l.length=i+m/\ρ 0= .vs ((ay .u16).R l) t/\ρ 4= .int .i64 i/\App h H (ρ 3) ((ay .u16).R (jO (l.take i)))
 refine dn I ?_ l.length ⟨Old.refl h,0,by omega,rfl,rfl,App.nil h h⟩
 rintro m ρ H ⟨ho,i,pT,r0,r4,ha⟩
 by_cases hi:i<l.length
 ·have aB:(i:Int)<(l.length:Int):=by omega
  have bR:(0:Int)<=i:=by omega
  have gi:((ay .u16).R l)[i]? =some [.int .u16 l[i]]:=(ay .u16).eW hi
  have hs:=(HT (l.take i)).2.2
  have pP:(jO (l.take i)).length<=i:=by rw[List.length_take] at hs;omega
  have LI:jO (l.take (i+1))=iR l[i] (jO (l.take i)):=by rw[List.take_succ_eq_append_getElem hi,am5]
  simp+decide only[st,xv,lK,SW,af9,r0,r4,ba.aN,aB]
  generalize jO (l.take i)=out at*
  generalize l[i]=x at*
  obtain⟨tt,r3,htt⟩:=id ha
  have haV:App h H (.vs ((ay .u16).R out) tt) ((ay .u16).R out):=by rw[<-r3];exact ha
  generalize hK:iO 2 _=K2
  have fin: ∀(ρ:Env) (H':aa) (k:Nat),Old H H'->k<=out.length->(∀j (hj:j<out.length),j<k->out[j]<x)->(∀hk:k<out.length,¬out[k]<x)->ρ 0= .vs ((ay .u16).R l) t->ρ 3= .vs ((ay .u16).R out) tt->ρ 4= .int .i64 i->ρ 5= .int .i64 k->K2 (.exit 2) ρ H':=by
   intro ρ H' k oH hk h1 h2 r0 r3 r4 r5
   rw[<-hK]
   have e:=aax h1 hk h2
   have oh:=ho.trans oH
   have hw:=cT (show i<2^61 by omega)
   have m8:(0:Int)<=k:=by omega
   simp+decide only[st,xv,lK,Ee]
   generalize hK1:iO 1 _=K1
   have kn: ∀(ρ:Env) (G:aa),Old h G->App h G (ρ 3) ((ay .u16).R (iR x out))->ρ 0= .vs ((ay .u16).R l) t->ρ 4= .int .i64 i->K1 .normal ρ G:=by
    intro ρ G oG aG r0 r4
    rw[<-hK1]
    simp+decide only[st,xv,lK,af7,r4,hw]
    exact⟨m-1,by omega,oG,i+1,by omega,r0,rfl,by rw[LI];exact aG⟩
   clear hK1
   refine bJ 15 rfl rfl ?_
   have V8:Old h (H'.clean 15):=oh.clean
   have ah':App h (H'.clean 15) (.vs ((ay .u16).R out) tt) ((ay .u16).R out):=(haV.old oH).old (Old.refl H').clean
   by_cases aE: ∃hk:k<out.length,out[k]=x
   ·rw[if_pos aE] at e
    obtain⟨oM,hx⟩:=aE
    have fh: ¬(k:Int)=(out.length:Int):=by omega
    have gk:((ay .u16).R out)[k]? =some [.int .u16 x]:=by rw[(ay .u16).eW oM,hx];rfl
    simp+decide only[st,xv,lK,Ee,r0,r3,r4,r5,ba.aN,fh,m8,bR,gk,gi,hw]
    exact kn _ _ V8 (by rw[e];show App h _ (ρ 3) _;rw[r3];exact ah') r0 r4
   ·rw[if_neg aE] at e
    generalize H'.clean 15=Z at*
    have ins: ∀ρ:Env,ρ 0= .vs ((ay .u16).R l) t->ρ 3= .vs ((ay .u16).R out) tt->ρ 4= .int .i64 i->ρ 5= .int .i64 k->WP P (.aU SV [[],[],[],[],[],[],[],[],[4],[],[],[],[],[],[],[]]) K1 ρ Z:=by
     intro ρ r0 r3 r4 r5
     refine zC ?_
     have e1:((ay .u16).R out).take k=(ay .u16).R (out.take k):=by simp[ba.R]
     have e2:((ay .u16).R out).drop k=(ay .u16).R (out.drop k):=by simp[ba.R]
     have k0:0<=k:=Nat.zero_le k
     have hh: ∀l,dF 1 ((ay .u16).R l)=true:=fun l=>(ay .u16).jn
     have hfc: ∀j,(Z.clean 16).get (Z.next+j)=none:=fun j=>by simp only[aa.clean];rw[if_neg (by omega)]
     obtain⟨v1,h1,a1,⟨t1,rfl,q1⟩,a3,a4,a5⟩:=(App.nil Z (Z.clean 16)).sG (Old.refl Z).clean (bytes:=2) (sz:=1) (base:=Z.next) (n:=16) (i:=4) (Nat.le_refl _) (fun j _=> .inl (hfc j)) ((ay .u16).R (out.take k)) rfl (by rw[ba.aN,List.length_take];simp only[List.length_nil];omega) (by rw[ba.aN,List.length_take];simp only[List.length_nil];omega)
     simp+decide only[st,xv,lK,SV,r0,r3,r4,r5,m8,bR,gi,ba.aN,hh,hk,k0,e1,Nat.sub_zero,List.replicate_zero,a1]
     refine⟨a5,fun y hy=>by rw[a3.get y hy,(Old.refl Z).clean.get y hy],?_⟩
     have fr: ∀{G:aa} {i1 i2:Nat},i1<=i2->cU 16 Z.next i1 G-> ∀j,j<16->G.get (Z.next+j)=none\/j<=i2:=fun{G} {i1 i2} f0 hf j hj=>by
      by_cases d7:j<=i2
      ·exact .inr d7
      ·exact .inl (hf j (by omega) hj)
     obtain⟨v2,h2,b1,⟨t2,rfl,q2⟩,b3,b4,b5⟩:=(show App Z h1 (.vs ((ay .u16).R (out.take k)) t1) ((ay .u16).R (out.take k)) from⟨t1,rfl,q1⟩).sG a3 (bytes:=2) (sz:=1) (base:=Z.next) (n:=16) (i:=10) (Nat.le_refl _) (fr (by decide) a5) [[AV.int .u16 x]] (hh _) (by rw[ba.aN,List.length_take];simp only[List.length_cons,List.length_nil];omega) (by rw[ba.aN,List.length_take];simp only[List.length_cons,List.length_nil];omega)
     have e3:(ay .u16).R (out.take k)++[[AV.int .u16 x]]=(ay .u16).R (out.take k++[x]):=by rw[<-ba.jK];rfl
     rw[e3] at b1
     simp+decide only[st,xv,b1]
     refine⟨b5,fun y hy=>by rw[b3.get y hy,a3.get y hy],?_⟩
     obtain⟨v3,h3,c1,c2,c3,c4,c5⟩:=(show App Z h2 (.vs ((ay .u16).R (out.take k++[x])) t2) ((ay .u16).R (out.take k++[x])) from⟨t2,rfl,q2⟩).sG b3 (bytes:=2) (sz:=1) (base:=Z.next) (n:=16) (i:=14) (Nat.le_refl _) (fr (by decide) b5) ((ay .u16).R (out.drop k)) (hh _) (by rw[ba.aN,ba.aN,List.length_append,List.length_take,List.length_drop];simp only[List.length_cons,List.length_nil];omega) (by rw[ba.aN,ba.aN,List.length_append,List.length_take,List.length_drop];simp only[List.length_cons,List.length_nil];omega)
     have kl:k<=out.length:=hk
     have e5:(ay .u16).R (out.drop k)=((ay .u16).R (out.drop k)).take (out.length-k):=by rw[List.take_of_length_le];rw[ba.aN,List.length_drop];omega
     simp+decide only[st,xv,r3,r5,m8,ba.aN,hh,hk,k0,e2,Nat.sub_zero,Nat.le_refl,<-e5,c1]
     refine⟨c5,fun y hy=>by rw[c3.get y hy,b3.get y hy],?_⟩
     refine kn _ _ (V8.trans c3) ?_ r0 r4
     rw[e]
     rw[ba.jK] at c2
     have e6:out.take k++[x]++out.drop k=out.take k++x::out.drop k:=by simp
     rw[e6] at c2
     obtain⟨t3,q,w⟩:=c2
     exact⟨t3,q,w.imp id fun⟨j,q1,q2,q3,q4⟩=>⟨j,q1,by have:=V8.next;omega,q3,q4⟩⟩
    by_cases oM:k<out.length
    ·have fh: ¬(k:Int)=(out.length:Int):=by omega
     have gk:((ay .u16).R out)[k]? =some [.int .u16 out[k]]:=(ay .u16).eW oM
     have aM: ¬(out[k]:Int)=(x:Int):=fun q=>aE ⟨oM,by omega⟩
     simp+decide only[st,xv,lK,Ee,r0,r3,r4,r5,ba.aN,fh,m8,bR,gk,gi,aM]
     exact ins _ r0 r3 r4 r5
    ·have fh:(k:Int)=(out.length:Int):=by omega
     simp+decide only[st,xv,lK,Ee,r0,r3,r4,r5,ba.aN,fh,bR,gi]
     exact ins _ r0 r3 r4 (by rw[<-fh];exact r5)
  clear hK
  let J:Nat->Env->aa->Prop:=fun m ρ H'=>Old H H'/\ ∃k:Nat,out.length=k+m/\(∀j (hj:j<out.length),j<k->out[j]<x)/\ρ 0= .vs ((ay .u16).R l) t/\ρ 3= .vs ((ay .u16).R out) tt/\ρ 4= .int .i64 i/\ρ 5= .int .i64 k
  refine dn J ?_ out.length ⟨Old.refl H,0,by omega,fun j _ hj=>by omega,r0,r3,r4,rfl⟩
  clear r0 r3 r4
  rintro n ρ H' ⟨oH,k,hkn,h1,r0,r3,r4,r5⟩
  simp+decide only[st,xv]
  refine bJ 15 rfl rfl ?_
  by_cases hk:k<out.length
  ·have fh:(k:Int)<(out.length:Int):=by omega
   have m8:(0:Int)<=k:=by omega
   have gk:((ay .u16).R out)[k]? =some [.int .u16 out[k]]:=(ay .u16).eW hk
   have hw:=cT (show k<2^61 by omega)
   by_cases aC:out[k]<x
   ·have kc:(out[k]:Int)<(x:Int):=by omega
    simp+decide only[st,xv,lK,JY,af8,r0,r3,r4,r5,ba.aN,fh,m8,bR,gk,gi,kc,hw]
    refine⟨n-1,by omega,oH.clean,k+1,by omega,fun j hj hjk=>?_,r0,r3,r4,rfl⟩
    by_cases e:j=k
    ·subst e;exact aC
    ·exact h1 j hj (by omega)
   ·have kc: ¬(out[k]:Int)<(x:Int):=by omega
    simp+decide only[st,xv,lK,JY,r0,r3,r4,r5,ba.aN,fh,m8,bR,gk,gi,kc]
    exact fin _ _ k oH.clean (by omega) h1 (fun _=>aC) r0 r3 r4 r5
  ·have fh: ¬(k:Int)<(out.length:Int):=by omega
   simp+decide only[st,xv,lK,JY,r0,r3,r4,r5,ba.aN,fh]
   exact fin _ _ k oH.clean (by omega) h1 (fun h=>absurd h hk) r0 r3 r4 r5
 ·have aB: ¬(i:Int)<(l.length:Int):=by omega
  obtain⟨tt,r3,htt⟩:=ha
  simp+decide only[st,xv,lK,SW,abJ,r0,r3,r4,ba.aN,aB,bE]
  rw[List.take_of_length_le (by omega)]
  exact⟨(ay .u16).lR,ho.get⟩
theorem aku (ok:ax P tb) {l:List (Nat×Nat)} {d e:Nat} {t t':aH} {h:aa} (hl:l.length<2^20):an P 42 [.agg [.int .u8 d, .vs (aw.R l) t], .agg [.int .u8 e, .vs [] t']] h (.vs ((ay .u16).R (jO (l.map (·.1)))) .ao) h:=by
 refine ok.eM (rf:=uK) rfl (Nat.le_of_ble_eq_true rfl) (ay .u16).lV ?_
 simp+decide only[st,xv,uK,agV,agU,agT,xr]
 generalize hX:aa.at _ _ _=X
 have oX:Old h X:=by rw[<-hX];exact((Old.refl h).at (Nat.le_refl _)).at (by omega)
 have nX:X.next=h.next+2:=by rw[<-hX];simp[aa.at]
 have x0:cellsOf X h.next=some [.int .u8 d, .vs (aw.R l) t]:=by rw[<-hX];exact av (by simp[aa.at])
 have x1:cellsOf X (h.next+1)=some [.int .u8 e, .vs [] t']:=by rw[<-hX];exact av (by simp[aa.at])
 clear hX
 let I:Nat->Env->aa->Prop:=fun m ρ H=>Old X H/\ ∃i:Nat,l.length=i+m/\ρ 2= .ptr h.next 0/\ρ 3= .ptr (h.next+1) 0/\ρ 6= .int .i64 i/\App X H (ρ 5) ((ay .u16).R ((l.take i).map (·.1)))
 refine dn I ?_ l.length ⟨Old.refl X,0,by omega,rfl,rfl,rfl,App.nil X X⟩
 rintro m ρ H ⟨ho,i,pT,r2,r3,r6,ha⟩
 have y0:cellsOf H h.next=some [.int .u8 d, .vs (aw.R l) t]:=by unfold cellsOf at x0 ⊢;rw[ho.get _ (by omega)];exact x0
 have y1:cellsOf H (h.next+1)=some [.int .u8 e, .vs [] t']:=by unfold cellsOf at x1 ⊢;rw[ho.get _ (by omega)];exact x1
 have hn:=ho.next
 obtain⟨t0,r5,_⟩:=id ha
 by_cases hi:i<l.length
 ·have aB:(i:Int)<(l.length:Int):=by omega
  have bR:(0:Int)<=i:=by omega
  have hw:=cT (show i<2^61 by omega)
  have gi:(aw.R l)[i]? =some [.int .u16 l[i].1, .int .u8 l[i].2]:=aw.eW hi
  have jQ:(l.take i).length=i:=by rw[List.length_take];omega
  obtain⟨v,h2,a1,a2,a3,_⟩:=ha.app ho (bytes:=2) (sz:=1) (id:=H.next) ho.next [[.int .u16 l[i].1]] (ay .u16).jn (by rw[ba.aN,List.length_map,jQ];simp only[List.length_cons,List.length_nil];omega) (by rw[ba.aN,List.length_map,jQ];simp only[List.length_cons,List.length_nil];omega)
  rw[r5] at a1
  simp+decide only[st,xv,uK,TC,agS,agR,r2,r3,r5,r6,y0,ba.aN,aB,bR,gi,hw,a1]
  refine⟨m-1,by omega,a3,i+1,by omega,r2,r3,rfl,?_⟩
  rw[List.take_succ_eq_append_getElem hi,List.map_append,<-ba.jK]
  exact a2
 ·have aB: ¬(i:Int)<(l.length:Int):=by omega
  simp+decide only[st,xv,uK,TC,agQ,r2,r3,r5,r6,y0,ba.aN,aB]
  refine zr ?_
  simp+decide only[st,xv,uK,agP,OL,r3,r5,y1]
  refine aq (akv ok (l:=(l.take i).map (·.1)) (by rw[List.length_map,List.length_take];omega)) ?_
  simp+decide only[st,xv,uK,OL,bE]
  rw[List.take_of_length_le (by omega)]
  exact⟨(ay .u16).lR,(oX.trans ho).get⟩
theorem Xe (ok:ax P tb) {l:List (Nat×Nat)} {d:Nat} {t:aH} {h:aa} (hl:l.length<2^20):an P 24 [.int .u8 d, .vs (aw.R l) t] h (.agg ((lu d l).c .ao)) h:=by
 refine ok.eM (rf:=lL) rfl (Nat.le_of_ble_eq_true rfl) (by simp only[AV.bB,AV.bX,Lb.c,aw.iB];rfl) ?_
 simp+decide only[st,xv,lL,ahW,ahV,xr]
 generalize hX:aa.set _ _ _=X
 have oX:Old h X:=by rw[<-hX];exact(((Old.refl h).at (Nat.le_refl _)).at (by omega)).set (by omega)
 have nX:X.next=h.next+2:=by rw[<-hX];simp[aa.at,aa.set]
 have x1:X.get (h.next+1)=some (.cells [.int .u8 d, .vs [] .full]):=by rw[<-hX];simp[aa.set]
 have x0:X.get h.next=some (.cells [.int .u8 0, .vs [] .full]):=by rw[<-hX];simp[aa.set,aa.at]
 clear hX
 simp+decide only[st,xv,lL,Ud,xr]
 refine aq (aku ok (d:=0) (e:=0) (t':= .full) hl) ?_
 simp+decide only[st,xv,lL,Ud,ahU]
 have dj:=(HT (l.map (·.1))).2.2
 rw[List.length_map] at dj
 have hmk:lu d l=⟨d,(jO (l.map (·.1))).flatMap (jq d l)⟩:=rfl
 rw[hmk]
 generalize jO (l.map (·.1))=cs at*
 let I:Nat->Env->aa->Prop:=fun m ρ H=> ∃i v,cs.length=i+m/\Old h H/\h.next+2<=H.next/\H.get (h.next+1)=some (.cells [.int .u8 d,v])/\H.get h.next=some (.cells [.int .u8 0, .vs [] .full])/\App ⟨h.get,h.next+2⟩ H v (aw.R ((cs.take i).flatMap (jq d l)))/\ρ 0= .int .u8 d/\ρ 1= .vs (aw.R l) t/\ρ 4= .ptr h.next 0/\ρ 5= .ptr (h.next+1) 0/\ρ 6= .vs ((ay .u16).R cs) .ao/\ρ 7= .int .i64 i
 refine dn I ?_ cs.length ⟨0,_,by omega,oX,by omega,x1,x0,⟨_,rfl, .inl rfl⟩,rfl,rfl,rfl,rfl,rfl,rfl⟩
 rintro m ρ H ⟨i,v,pT,ho,fg,g1,g0,ha,r0,r1,r4,r5,r6,r7⟩
 by_cases hi:i<cs.length
 ·have aB:(i:Int)<(cs.length:Int):=by omega
  have bR:(0:Int)<=i:=by omega
  have gi:((ay .u16).R cs)[i]? =some [.int .u16 cs[i]]:=(ay .u16).eW hi
  have hw:=cT (show i<2^61 by omega)
  simp+decide only[st,xv,lL,Uc,ahT,ahS,r0,r6,r7,ba.aN,aB]
  let J:Nat->Env->aa->Prop:=fun n ρ H'=>Old H H'/\ ∃k:Nat,l.length=k+n/\ρ 0= .int .u8 d/\ρ 1= .vs (aw.R l) t/\ρ 4= .ptr h.next 0/\ρ 5= .ptr (h.next+1) 0/\ρ 6= .vs ((ay .u16).R cs) .ao/\ρ 7= .int .i64 i/\ρ 8= .int .u8 (mL d (l.take k) cs[i])/\ρ 9= .int .i64 k
  refine dn J ?_ l.length ⟨Old.refl H,0,by omega,r0,r1,r4,r5,r6,r7,rfl,rfl⟩
  clear r0 r1 r4 r5 r6 r7
  rintro n ρ H' ⟨oH,k,hkn,r0,r1,r4,r5,r6,r7,r8,r9⟩
  by_cases hk:k<l.length
  ·have fh:(k:Int)<(l.length:Int):=by omega
   have m8:(0:Int)<=k:=by omega
   have gk:(aw.R l)[k]? =some [.int .u16 l[k].1, .int .u8 l[k].2]:=aw.eW hk
   have hwk:=cT (show k<2^61 by omega)
   have e:=ald (d:=d) (c:=cs[i]) (l:=l.take k) (p:=l[k])
   rw[<-List.take_succ_eq_append_getElem hk] at e
   simp+decide only[st,xv,lL,Kf,r1,r9,ba.aN,fh]
   refine bJ 10 rfl rfl ?_
   by_cases hq:l[k].1=cs[i]
   ·rw[if_pos hq] at e
    have gP:(l[k].1:Int)=(cs[i]:Int):=by omega
    simp+decide only[st,xv,lL,Ub,ahR,O0,r1,r6,r7,r9,gk,gi,m8,bR,gP,hwk]
    exact⟨n-1,by omega,oH.clean,k+1,by omega,r0,r1,r4,r5,r6,r7,by rw[e];rfl,rfl⟩
   ·rw[if_neg hq] at e
    have gP: ¬(l[k].1:Int)=(cs[i]:Int):=by omega
    simp+decide only[st,xv,lL,Ub,O0,r1,r6,r7,r9,gk,gi,m8,bR,gP,hwk]
    exact⟨n-1,by omega,oH.clean,k+1,by omega,r0,r1,r4,r5,r6,r7,by rw[e];exact r8,rfl⟩
  ·have fh: ¬(k:Int)<(l.length:Int):=by omega
   rw[List.take_of_length_le (by omega)] at r8
   have hs:(cs.take (i+1)).flatMap (jq d l)=(cs.take i).flatMap (jq d l)++jq d l cs[i]:=by
    rw[List.take_succ_eq_append_getElem hi,List.flatMap_append];simp
   by_cases hd:mL d l cs[i]=d
   ·have kY:(mL d l cs[i]:Int)=(d:Int):=by omega
    have hp:jq d l cs[i]=[]:=if_pos hd
    simp+decide only[st,xv,lL,Kf,OZ,OY,r0,r1,r7,r8,r9,ba.aN,fh,kY,hw]
    refine⟨m-1,by omega,i+1,v,by omega,ho.trans oH,by have:=oH.next;omega,by rw[oH.get _ (by omega)];exact g1,by rw[oH.get _ (by omega)];exact g0,?_,r0,r1,r4,r5,r6,rfl⟩
    rw[hs,hp,List.append_nil]
    exact ha.old oH
   ·have kY: ¬(mL d l cs[i]:Int)=(d:Int):=by omega
    have hp:jq d l cs[i]=[(cs[i],mL d l cs[i])]:=if_neg hd
    have ix:((cs.take i).flatMap (jq d l)).length<=i:=by
     have:=Mt (d:=d) (l:=l) (cs:=cs.take i)
     rw[List.length_take] at this;omega
    have on:=oH.next
    have c1:cellsOf H' (h.next+1)=some [.int .u8 d,v]:=av (by rw[oH.get _ (by omega)];exact g1)
    have n1:h.next+1<H'.next:=by omega
    simp+decide only[st,xv,lL,Kf,OZ,r0,r1,r7,r8,r9,ba.aN,fh,kY]
    refine qg 9 12 rfl (by omega) rfl ?_
    simp+decide only[st,xv,lL,abS,r5,r6,r7,r8,c1,n1,gi,bR]
    have lE:App ⟨(H'.clean 12).get,h.next+2⟩ (H'.clean 12) v (aw.R ((cs.take i).flatMap (jq d l))):=(ha.old oH).old (Old.refl H').clean
    obtain⟨v',h2,a1,a2,a3,a4,a5⟩:=lE.sG ⟨by show h.next+2<=H'.next+12;omega,fun b hb=>rfl⟩ (bytes:=4) (sz:=2) (base:=H'.next) (n:=12) (i:=9) (by show h.next+2<=H'.next;omega) (fun j hj=> .inl (by simp only[aa.clean];rw[if_neg (by omega)])) [[AV.int .u16 cs[i],AV.int .u8 (mL d l cs[i])]] aw.jn (by rw[ba.aN];simp only[List.length_cons,List.length_nil];omega) (by rw[ba.aN];simp only[List.length_cons,List.length_nil];omega)
    have gg: ∀b,b<h.next+2->h2.get b=H.get b:=fun b hb=>by
     rw[a3.get b hb];simp only[aa.clean];rw[if_pos (by omega),oH.get b (by omega)]
    have c2:cellsOf h2 (h.next+1)=some [.int .u8 d,v]:=av (by rw[gg _ (by omega)];exact g1)
    have v1:v'.one=true/\v'.cells=[v']:=by obtain⟨t,rfl,_⟩:=a2;exact⟨rfl,rfl⟩
    have f2: ∀x,cU 12 H'.next 11 (h2.set (h.next+1) x):=fun x j uw pS=>by omega
    simp+decide only[st,xv,a1,a5,c2,v1.1,v1.2,r5,f2]
    simp+decide only[st,xv,lL,OY,r7,hw]
    have n2:=a3.next
    have n2':H'.next+12<=h2.next:=by have:=a4;show(H'.clean 12).next<=h2.next;exact this
    refine⟨m-1,by omega,i+1,v',by omega,?_,by show h.next+2<=h2.next;omega,by simp[aa.set],by simp only[aa.set];rw[if_neg (by omega),gg _ (by omega)];exact g0,?_,r0,r1,r4,r5,r6,rfl⟩
    ·exact⟨by show h.next<=h2.next;omega,fun b hb=>by simp only[aa.set];rw[if_neg (by omega),gg b (by omega),ho.get b hb]⟩
    ·rw[hs,hp,<-ba.jK]
     obtain⟨t3,q,w⟩:=a2
     refine⟨t3,q,w.imp id fun⟨j,q1,q2,q3,q4⟩=>⟨j,q1,q2,q3,?_⟩⟩
     simp only[aa.set]
     rw[if_neg (by have:h.next+2<=j:=q2;omega)]
     exact q4
 ·have aB: ¬(i:Int)<(cs.length:Int):=by omega
  have c1:=av g1
  have c0:=av g0
  obtain⟨tt,rfl,_⟩:=ha
  simp+decide only[st,xv,lL,Uc,abR,r4,r5,r6,r7,c0,c1,ba.aN,aB,bE]
  rw[List.take_of_length_le (by omega)]
  refine⟨by simp only[AV.strip,AV.bA,aw.ew,Lb.c],fun b hb=>?_⟩
  rw[if_neg (by omega),ho.get b hb]
end
section
open Go
variable {P:Program} {h:aa} {p n:Nat} {l:List UInt8}
structure PK (h:aa) (p:Nat) (l:List UInt8) (n:Nat):Prop where
 lt:p<h.next
 le:n<=l.length
 len:l.length<2^30
 get: ∃t,h.get p=some (.cells [.vs (BS l) t, .int .i64 n])
def PF (h h':aa) (p:Nat):Prop:=h.next<=h'.next/\ ∀b,b<h.next->b≠p->h'.get b=h.get b
structure Ps (h h':aa) (p:Nat) (l:List UInt8) (n k n':Nat):Prop where
 pk:PK h' p l n'
 f:PF h h' p
 lo:min (n+k) l.length<=n'
 le:n<=n'
theorem PF.refl:PF h h p:=⟨Nat.le_refl _,fun _ _ _=>rfl⟩
theorem PF.trans {h1 h2:aa} (a:PF h h1 p) (b:PF h1 h2 p):PF h h2 p:=⟨Nat.le_trans a.1 b.1,fun x hx hp=>by rw[b.2 x (by have:=a.1;omega) hp,a.2 x hx hp]⟩
theorem PF.old {h':aa} (o:Old h h'):PF h h' p:=⟨o.next,fun b hb _=>o.get b hb⟩
theorem PK.old (K:PK h p l n) {h':aa} (o:Old h h'):PK h' p l n:=by
 obtain⟨t,g⟩:=K.get
 exact⟨Nat.lt_of_lt_of_le K.lt o.next,K.le,K.len,t,by rw[o.get p K.lt,g]⟩
theorem PK.ps (K:PK h p l n) {h':aa} (o:Old h h'):Ps h h' p l n 0 n:=⟨K.old o,PF.old o,by omega,Nat.le_refl _⟩
theorem Ps.trans {h1 h2:aa} {k k2 n1 n2:Nat} (a:Ps h h1 p l n k n1) (b:Ps h1 h2 p l n1 k2 n2):Ps h h2 p l n (k+k2) n2:=
 ⟨b.pk,a.f.trans b.f,by have:=a.lo;have:=b.lo;have:=a.pk.le;omega,Nat.le_trans a.le b.le⟩
theorem Ps.to {h1 h2:aa} {k n1:Nat} (a:Ps h h1 p l n k n1) (o:Old h1 h2):Ps h h2 p l n k n1:=⟨a.pk.old o,a.f.trans (PF.old o),a.lo,a.le⟩
theorem Ps.from {h1 h2:aa} {k n1:Nat} (o:Old h h1) (a:Ps h1 h2 p l n k n1):Ps h h2 p l n k n1:=⟨a.pk,(PF.old o).trans a.f,a.lo,a.le⟩
theorem Ps.less {h1:aa} {k k2 n1:Nat} (a:Ps h h1 p l n k n1) (hk:k2<=k):Ps h h1 p l n k2 n1:=⟨a.pk,a.f,by have:=a.lo;omega,a.le⟩
theorem Ps.low {h1 h2:aa} {k n1:Nat} (K:PK h p l n) (a:Ps h h1 p l n k n1) (hn:h1.next<=h2.next) (hk: ∀b,b<h.next->h2.get b=h1.get b):Ps h h2 p l n k n1:=by
 obtain⟨t,g⟩:=a.pk.get
 exact⟨⟨Nat.lt_of_lt_of_le a.pk.lt hn,a.pk.le,a.pk.len,t,by rw[hk p K.lt,g]⟩,⟨Nat.le_trans a.f.1 hn,fun b hb hp=>by rw[hk b hb,a.f.2 b hb hp]⟩,a.lo,a.le⟩
theorem App.pf {h0 h h':aa} {v:AV} {rows:List (List AV)} (a:App h0 h v rows) (f:PF h h' p) (hp:p<h0.next):App h0 h' v rows:=a.to f.1 fun k h1 h2 hk=>by rw[f.2 k h2 (by omega)];exact hk
theorem Ps.axc (K:PK h p l n) (hn:n<l.length) {X:aa} {t:aH} (o:Old h X):Ps h (X.set p (some (.cells [.vs (BS l) t, .int .i64 ((n+1:Nat):Int)]))) p l n 1 (n+1):=by
 have lt:=K.lt
 have on:=o.next
 refine⟨⟨by show p<X.next;omega,by omega,K.len,t,by simp[aa.set]⟩,⟨on,fun b hb hp=>?_⟩,by omega,by omega⟩
 simp only[aa.set]
 rw[if_neg hp,o.get b hb]
theorem jm (ok:ax P tb) (K:PK h p l n) {m:Nat} (hm:0<m) (mA:m<2^31): ∃r h' n',an P 9 [.ptr p 0, .int .i64 m] h (.int .i64 (r:Nat)) h'/\r<m/\Ps h h' p l n 1 n':=by
 obtain⟨t,g⟩:=K.get
 have cg:=av g
 have lt:=K.lt
 have hl:=K.len
 by_cases hn:n<l.length
 ·have gQ: ¬(l.length:Int)<=(n:Int):=by omega
  refine⟨l[n].toNat%m,?_⟩
  have hx: ∃h',an P 9 [.ptr p 0, .int .i64 m] h (.int .i64 (l[n].toNat%m:Nat)) h'/\Ps h h' p l n 1 (n+1):=by
   refine ok.dz (rf:=c9) rfl (Nat.le_of_ble_eq_true rfl) ?_
   simp+decide only[st,xv,c9,Vy]
   refine bJ 10 rfl rfl ?_
   have hw:=cT (show n<2^61 by omega)
   have oJ:IntKind.wrap .i64 (((n+1:Nat):Int)-1)=n:=by rw[bw]<;>omega
   have gn:(BS l)[n]? =some [.int .u8 l[n].toNat]:=by rw[Ja,List.getElem?_eq_getElem hn];rfl
   have Ge: ¬(m:Int)=0:=by omega
   have hr:(l[n].toNat:Int).tmod m=((l[n].toNat%m:Nat):Int):=(Int.ofNat_tmod _ m).symm
   have yN:IntKind.wrap .i64 (l[n].toNat:Int)=l[n].toNat:=by have:=l[n].toNat_lt;exact bw (by omega) (by omega)
   have Gd:(0:Int)<=n:=by omega
   have av6:p<h.next+10:=by omega
   simp+decide only[st,xv,c9,Vx,ai7,cg,lt,b8,gQ,hw]
   refine bJ 15 rfl rfl ?_
   simp+decide only[st,xv,c9,ai6,cg,lt,b8,gQ,hw,oJ,gn,Ge,yN,hr,Gd,av6]
   exact⟨rfl,(Ps.axc K hn (Old.refl h).clean).to (Old.refl _).clean⟩
  obtain⟨h',c,q⟩:=hx
  exact⟨h',_,c,Nat.mod_lt _ hm,q⟩
 ·have gQ:(l.length:Int)<=(n:Int):=by omega
  have hx: ∃h',an P 9 [.ptr p 0, .int .i64 m] h (.int .i64 0) h'/\Ps h h' p l n 1 n:=by
   refine ok.dz (rf:=c9) rfl (Nat.le_of_ble_eq_true rfl) ?_
   simp+decide only[st,xv,c9,Vy]
   refine bJ 10 rfl rfl ?_
   simp+decide only[st,xv,c9,Vx,ai8,cg,lt,b8,gQ]
   exact⟨rfl,K.old (Old.refl h).clean,PF.old (Old.refl h).clean,by omega,Nat.le_refl _⟩
  obtain⟨h',c,q⟩:=hx
  exact⟨0,h',_,c,hm,q⟩
theorem aiF {α:Type} {z:α}:List.replicate 6 z=[z,z,z,z,z,z]:=rfl
theorem aiE {α:Type} {z:α}:List.replicate 7 z=[z,z,z,z,z,z,z]:=rfl
theorem asM {α:Type} {z:α}:List.replicate 20 z=[z,z,z,z,z,z,z,z,z,z,z,z,z,z,z,z,z,z,z,z]:=rfl
theorem xI {k:IntKind} {L:List Nat} {r:Nat} {t:aH} (hr:r<L.length):iL 1 (.vs (L.map fun c:Nat=>[AV.int k c]) t) (.int .i64 r)=some (.vp [.int k (L.getD r 0)] 0):=by
 unfold iL
 have h0:(0:Int)<=r:=by omega
 simp only[if_pos h0,Int.toNat_natCast,List.getElem?_map,List.getElem?_eq_getElem hr,List.getD_eq_getElem?_getD,Option.map_some,Option.getD_some]
 rfl
theorem akY (ok:ax P tb) (K:PK h p l n):an P 8 [.ptr p 0] h (.bool (decide (l.length<=n))) h:=by
 obtain⟨t,g⟩:=K.get
 have cg:=av g
 have lt:=K.lt
 have hl:=K.len
 refine ok.keeps (rf:=c8) rfl (Nat.le_of_ble_eq_true rfl) rfl ?_
 simp+decide only[st,xv,c8,aja]
 refine bJ 11 rfl rfl ?_
 have e:decide ((l.length:Int)<=(n:Int))=decide (l.length<=n):=by
  by_cases h:l.length<=n
  ·rw[decide_eq_true h,decide_eq_true (by omega)]
  ·rw[decide_eq_false h,decide_eq_false (by omega)]
 simp+decide only[st,xv,c8,ai9,cg,lt,b8,e]
 intro b hb
 rw[if_pos hb]
def DW:List Nat:=[5,6,1001,1002,1017,7]
theorem an4 {r:Nat}:DW.getD r 0<65536:=by
 unfold DW
 match r with
 |0=>decide
 |1=>decide
 |2=>decide
 |3=>decide
 |4=>decide
 |5=>decide
 |r+6=>exact(by decide:0<65536)
theorem Zm (ok:ax P tb) (K:PK h p l n): ∃c h' n',an P 30 [.ptr p 0] h (.int .u16 (c:Nat)) h'/\c<65536/\Ps h h' p l n 1 n':=by
 obtain⟨r,h1,n1,c1,hr,K1⟩:=jm ok K (m:=6) (by decide) (by decide)
 have hx: ∃h',an P 30 [.ptr p 0] h (.int .u16 (DW.getD r 0:Nat)) h'/\h'=h1:=by
  refine ok.dz (rf:=B4) rfl (Nat.le_of_ble_eq_true rfl) ?_
  simp+decide only[st,xv,B4,ahu,T0]
  refine aq c1 ?_
  have e:iL 1 (.vs [[.int .u16 5],[.int .u16 6],[.int .u16 1001],[.int .u16 1002],[.int .u16 1017],[.int .u16 7]] .full) (.int .i64 r)=some (.vp [.int .u16 (DW.getD r 0:Nat)] 0):=xI (k:= .u16) (L:=DW) hr
  simp+decide only[st,xv,B4,T0,aiF,xr,e]
  exact⟨rfl,rfl⟩
 obtain⟨h',c,rfl⟩:=hx
 exact⟨_,_,_,c,an4,K1⟩
end
section
open Go
variable {P:Program} {h:aa} {p n:Nat} {l:List UInt8}
def DH:List Nat:=[4,1,4,2,0,3]
theorem anv {r:Nat}:DH.getD r 0<=4:=by
 unfold DH
 match r with
 |0=>decide
 |1=>decide
 |2=>decide
 |3=>decide
 |4=>decide
 |5=>decide
 |r+6=>exact(by decide:0<=4)
theorem apw {d:Nat} {l:List (Nat×Nat)} (h4:d<=4) (hp: ∀p∈l,p.1<65536/\p.2<=4): ∀q∈(lu d l).ps,q.1<65536/\q.2<=4:=by
 intro q hq
 obtain⟨a1,a2,a3⟩:=aar hq
 obtain⟨p,LK,Wu⟩:=List.mem_map.1 ((HT (l.map (·.1))).2.1 _ a1)
 exact⟨by rw[<-Wu];exact(hp p LK).1,by rw[a2];exact ZS h4 (fun p qY=>(hp p qY).2)⟩
theorem XX (ok:ax P tb) (K:PK h p l n) {s:Bool}: ∃L h' n',an P 23 [.ptr p 0, .bool s] h (.agg ((L:Lb).c .ao)) h'/\L.ok/\dB L=true/\L.d=2/\L.ps.length<=2/\(∀q∈L.ps,q.1<65536/\q.2<=4)/\Ps h h' p l n 1 n':=by
 have hx: ∃v h',an P 23 [.ptr p 0, .bool s] h v h'/\ ∃L n',v= .agg ((L:Lb).c .ao)/\L.ok/\dB L=true/\L.d=2/\L.ps.length<=2/\(∀q∈L.ps,q.1<65536/\q.2<=4)/\Ps h h' p l n 1 n':=by
  refine ok.py (rf:=jT) rfl (Nat.le_of_ble_eq_true rfl) ?_
  have lt:=K.lt
  simp+decide only[st,xv,jT,ahZ,ahY]
  generalize hX:aa.at _ _ _=X
  have oX:Old h X:=by rw[<-hX];exact(Old.refl h).at (Nat.le_refl _)
  have nX:X.next=h.next+1:=by rw[<-hX];simp[aa.at]
  have gX:X.get h.next=some (.cells [.int .u8 0, .vs [] .full]):=by rw[<-hX];simp[aa.at]
  clear hX
  obtain⟨r,h1,n1,c1,hr,K1⟩:=jm ok (K.old oX) (m:=3) (by decide) (by decide)
  simp+decide only[st,xv,jT,Ui]
  refine aq c1 ?_
  simp+decide only[st,xv,jT,Ui]
  have wg:=K1.f.1
  let I:Nat->Env->aa->Prop:=fun m ρ H=> ∃n2 v qs,m+qs.length<=2/\Ps h H p l n 1 n2/\h.next<H.next/\H.get h.next=some (.cells [.int .u8 0, .vs [] .full])/\App ⟨h.get,h.next+1⟩ H v (aw.R qs)/\(∀q∈qs,q.1<65536/\q.2<=4)/\ρ 0= .ptr p 0/\ρ 1= .bool s/\ρ 4= .ptr h.next 0/\ρ 5=v/\ρ 6= .int .i64 m
  refine dn I ?_ r ⟨n1,_,[],by simp;omega,K1.from oX,by omega,by rw[K1.f.2 _ (by omega) (by omega)];exact gX,⟨_,rfl, .inl rfl⟩,(fun q hq=>(List.not_mem_nil hq).elim),rfl,rfl,rfl,rfl,rfl⟩
  clear K1 c1 gX wg
  rintro m ρ H ⟨n2,v,qs,hmq,K2,fg,g0,ha,hq,r0,r1,r4,r5,r6⟩
  by_cases hm:0<m
  ·have oK:(0:Int)<(m:Int):=by omega
   obtain⟨r2,h2,n3,c2,uo,K3⟩:=jm ok K2.pk (m:=6) (by decide) (by decide)
   have e:iL 1 (.vs [[.int .u8 4],[.int .u8 1],[.int .u8 4],[.int .u8 2],[.int .u8 0],[.int .u8 3]] .full) (.int .i64 r2)=some (.vp [.int .u8 (DH.getD r2 0:Nat)] 0):=xI (k:= .u8) (L:=DH) uo
   simp+decide only[st,xv,jT,Uh,Ug,r0,r6,oK]
   refine aq c2 ?_
   simp+decide only[st,xv,jT,Ug,aiF,xr,e]
   have U5:=anv (r:=r2)
   generalize DH.getD r2 0=gB at*
   have f3:PF H h2 p:=K3.f
   have K3:=K2.trans K3
   have ga: ∀{G:aa},PF H G p->G.get h.next=some (.cells [.int .u8 0, .vs [] .full]):=fun f=>by rw[f.2 _ fg (by omega)];exact g0
   generalize hK7:i9 (WP P (.af Kg) _) _=K7
   have fin: ∀(ρ:Env) (G:aa) (n4 E8:Nat),E8<=4->Ps h G p l n 1 n4->PF H G p->ρ 0= .ptr p 0->ρ 1= .bool s->ρ 4= .ptr h.next 0->ρ 5=v->ρ 6= .int .i64 m->ρ 7= .int .u8 E8->K7 .normal ρ G:=by
    intro ρ G n4 E8 hl4 K4 fG r0 r1 r4 r5 r6 r7
    rw[<-hK7]
    obtain⟨c,h5,n5,c5,hc,K5⟩:=Zm ok K4.pk
    have f5:=fG.trans K5.f
    have lE:App ⟨h5.get,h.next+1⟩ h5 v (aw.R qs):=ha.pf f5 (show p<h.next+1 by omega)
    have n5':=f5.1
    obtain⟨v',h6,b1,b2,b3,b4,b5,b6,b7⟩:=lE.app ⟨by show h.next+1<=h5.next;omega,fun _ _=>rfl⟩ (bytes:=4) (sz:=2) (id:=h5.next) (by show h.next+1<=h5.next;omega) [[AV.int .u16 c,AV.int .u8 E8]] aw.jn (by rw[ba.aN];simp only[List.length_cons,List.length_nil];omega) (by rw[ba.aN];simp only[List.length_cons,List.length_nil];omega)
    have hw:IntKind.wrap .i64 ((m:Int)-1)=((m-1:Nat):Int):=by rw[bw]<;>omega
    simp+decide only[st,xv,jT,Kg,r0,r5,r7]
    refine aq c5 ?_
    simp+decide only[st,xv,jT,Kg,ahX,r5,r6,r7,b1,hw,xr]
    have K6:=(K4.trans K5).less (show 1<=1+1 by omega)
    refine⟨m-1,by omega,n5,v',qs++[(c,E8)],by simp;omega,K6.low K b4 (fun b hb=>b3.get b (by show b<h.next+1;omega)),by omega,by rw[b3.get _ (by show h.next<h.next+1;omega)];show h5.get h.next=_;exact ga f5,?_,fun q gP=>?_,r0,r1,r4,rfl,rfl⟩
    ·rw[<-ba.jK];exact b2
    ·rcases List.mem_append.1 gP with gP|gP
     ·exact hq q gP
     ·rw[List.mem_singleton.1 gP];exact⟨hc,hl4⟩
   clear hK7
   have y9:=K3.less (show 1<=1+1 by omega)
   by_cases l0:gB=0
   ·have FY:(gB:Int)=0:=by omega
    have Bp: ¬(gB:Int)=3:=by omega
    cases s with
    |true=>
     simp+decide only[st,xv,jT,x6,r0,r1,FY,Bp]
     exact fin _ _ _ 0 (by decide) y9 f3 r0 r1 r4 r5 r6 rfl
    |false=>
     simp+decide only[st,xv,jT,x6,Uf,r0,r1,FY,Bp]
     exact fin _ _ _ 4 (Nat.le_refl _) y9 f3 r0 r1 r4 r5 r6 rfl
   ·have FY: ¬(gB:Int)=0:=by omega
    by_cases l3:gB=3
    ·have Bp:(gB:Int)=3:=by omega
     obtain⟨r3,h4,n4,c4,Bv,K4⟩:=jm ok K3.pk (m:=3) (by decide) (by decide)
     have K4':=(y9.trans K4).less (show 1<=1+1 by omega)
     simp+decide only[st,xv,jT,x6,r0,r1,FY,Bp]
     refine aq c4 ?_
     by_cases z:0<r3
     ·have z':(0:Int)<(r3:Int):=by omega
      simp+decide only[st,xv,jT,x6,Uf,z']
      exact fin _ _ _ 4 (Nat.le_refl _) K4' (f3.trans K4.f) r0 r1 r4 r5 r6 rfl
     ·have z': ¬(0:Int)<(r3:Int):=by omega
      simp+decide only[st,xv,jT,x6,z']
      exact fin _ _ _ 3 (by decide) K4' (f3.trans K4.f) r0 r1 r4 r5 r6 rfl
    ·have Bp: ¬(gB:Int)=3:=by omega
     simp+decide only[st,xv,jT,x6,r0,r1,FY,Bp]
     exact fin _ _ _ gB U5 y9 f3 r0 r1 r4 r5 r6 rfl
  ·have oK: ¬(0:Int)<(m:Int):=by omega
   obtain⟨tt,rfl,_⟩:=id ha
   have c0:=av g0
   simp+decide only[st,xv,jT,Uh,Ue,r5,r6,oK]
   refine aq (Xe ok (l:=qs) (d:=2) (by omega)) ?_
   simp+decide only[st,xv,jT,Ue,r4,c0,Lb.c,lP,xr]
   obtain⟨a1,a2,a3⟩:=aa4 (d:=2) (l:=qs) (by decide) (by decide) (by omega) hq
   exact⟨lu 2 qs,n2,rfl,a1,a2,rfl,by omega,apw (by decide) hq,K2.low K (Nat.le_refl _) (fun b hb=>by simp only[aa.set];rw[if_neg (by omega)])⟩
 obtain⟨v,h',c,L,n',rfl,r⟩:=hx
 exact⟨L,h',n',c,r⟩
end
section
open Go
variable {P:Program} {h:aa} {p n:Nat} {l:List UInt8}
def Jh:List Nat:=[1,65,66,67,0,64,4160]
theorem ane {r:Nat}:Jh.getD r 0<2^64:=by
 unfold Jh
 match r with
 |0=>decide
 |1=>decide
 |2=>decide
 |3=>decide
 |4=>decide
 |5=>decide
 |6=>decide
 |r+7=>exact(by decide:0<2^64)
theorem YB (ok:ax P tb) (K:PK h p l n) {ah:List Ob} {t:aH} {op:Int} (aL: ∀o∈ah,o.id<2^64) (hl:ah.length<2^20): ∃id h' n',an P 28 [.ptr p 0, .vs (iF ah) t, .int .i64 op] h (.int .u64 (id:Nat)) h'/\id<2^64/\Ps h h' p l n 2 n':=by
 have hx: ∃v h',an P 28 [.ptr p 0, .vs (iF ah) t, .int .i64 op] h v h'/\ ∃id n',v= .int .u64 (id:Nat)/\id<2^64/\Ps h h' p l n 2 n':=by
  refine ok.py (rf:=gD) rfl (Nat.le_of_ble_eq_true rfl) ?_
  have lt:=K.lt
  simp+decide only[st,xv,gD,ahD,ahC,ahB]
  generalize hK:iO 0 _=K0
  have fin: ∀(ρ:Env) (kd:Nat),ρ 0= .ptr p 0->ρ 1= .vs (iF ah) t->ρ 7= .int .i64 kd->K0 .normal ρ h:=by
   intro ρ kd r0 r1 r7
   rw[<-hK]
   simp+decide only[st,xv,gD,abP,abO]
   let I:Nat->Env->aa->Prop:=fun m ρ H=> ∃i ids v,ah.length=i+m/\ids.length<=i/\Old h H/\App h H v ((ay .u64).R ids)/\(∀x∈ids,x<2^64)/\ρ 0= .ptr p 0/\ρ 1= .vs (iF ah) t/\ρ 7= .int .i64 kd/\ρ 8=v/\ρ 9= .int .i64 i
   refine dn I ?_ ah.length ⟨0,[],_,by omega,by simp,Old.refl h,App.nil h h,(fun q hq=>(List.not_mem_nil hq).elim),r0,r1,r7,rfl,rfl⟩
   clear r0 r1 r7
   rintro m ρ H ⟨i,ids,v,pT,ix,ho,ha,U8,r0,r1,r7,r8,r9⟩
   have ol:(iF ah).length=ah.length:=by simp[iF]
   by_cases hi:i<ah.length
   ·have aB:(i:Int)<(ah.length:Int):=by omega
    have bR:(0:Int)<=i:=by omega
    have hw:=cT (show i<2^61 by omega)
    have gi:(iF ah)[i]? =some (ah[i].c aK):=by simp[iF,List.getElem?_eq_getElem hi]
    have gl:(ah[i].c aK).length=13:=rfl
    have awz:=aL _ (List.getElem_mem hi)
    simp only[Ob.c] at gi
    simp+decide only[st,xv,gD,OV,r1,r9,ol,aB]
    generalize L9:iO 2 _=K2
    have kn: ∀(ρ:Env) (G:aa) (Fh:List Nat) (v':AV),Fh.length<=i+1->Old h G->App h G v' ((ay .u64).R Fh)->(∀x∈Fh,x<2^64)->ρ 0= .ptr p 0->ρ 1= .vs (iF ah) t->ρ 7= .int .i64 kd->ρ 8=v'->ρ 9= .int .i64 i->K2 .normal ρ G:=by
     intro ρ G Fh v' q1 q2 q3 q4 r0 r1 r7 r8 r9
     rw[<-L9]
     simp+decide only[st,xv,gD,abN,r9,hw]
     exact⟨m-1,by omega,i+1,Fh,v',by omega,q1,q2,q3,q4,r0,r1,r7,r8,rfl⟩
    obtain⟨v',h6,b1,b2,b3,b4,_⟩:=ha.app ho (bytes:=8) (sz:=1) (id:=H.next) ho.next [[AV.int .u64 ah[i].id]] (ay .u64).jn (by rw[ba.aN];simp only[List.length_cons,List.length_nil];omega) (by rw[ba.aN];simp only[List.length_cons,List.length_nil];omega)
    have b2:App h h6 v' ((ay .u64).R (ids++[ah[i].id])):=by rw[<-ba.jK];exact b2
    have aeh: ∀x∈ids++[ah[i].id],x<2^64:=fun x hx=>by
     rcases List.mem_append.1 hx with hx|hx
     ·exact U8 x hx
     ·rw[List.mem_singleton.1 hx];exact awz
    have aiT:(ids++[ah[i].id]).length<=i+1:=by simp;omega
    by_cases k0:kd=0
    ·have LA:(kd:Int)=0:=by omega
     simp+decide only[st,xv,gD,Ig,OU,r1,r7,r8,r9,LA,gi,bR,b1]
     exact kn _ _ _ _ aiT b3 b2 aeh r0 r1 r7 rfl r9
    ·have LA: ¬(kd:Int)=0:=by omega
     by_cases k1:ah[i].kind=kd
     ·simp+decide only[st,xv,gD,Ig,OU,r1,r7,r8,r9,LA,gi,bR,k1,b1]
      exact kn _ _ _ _ aiT b3 b2 aeh r0 r1 r7 rfl r9
     ·simp+decide only[st,xv,gD,Ig,r1,r7,r8,r9,LA,gi,bR,k1]
      exact kn _ _ _ _ (by omega) ho ha U8 r0 r1 r7 r8 r9
   ·have aB: ¬(i:Int)<(ah.length:Int):=by omega
    obtain⟨r2,h2,n2,c2,uo,K2⟩:=jm ok (K.old ho) (m:=12) (by decide) (by decide)
    have K2:=Ps.from ho K2
    simp+decide only[st,xv,gD,OV,C8,r0,r1,r9,ol,aB]
    refine aq c2 ?_
    obtain⟨tt,rfl,_⟩:=id ha
    have root: ∀(ρ:Env) (K:aQ->Env->aa->Prop),ρ 0= .ptr p 0->(∀ρ G,Rm [.tmp 6] (fun v h'=> ∃id n',v= .int .u64 (id:Nat)/\id<2^64/\Ps h h' p l n 2 n') .ret ρ G->K .ret ρ G)->exec P Ic ρ h2 (i9 (WP P .ret K) K .normal):=by
     intro ρ K r0 hK
     obtain⟨r3,h3,n3,c3,Bv,K3⟩:=jm ok K2.pk (m:=7) (by decide) (by decide)
     have e:iL 1 (.vs [[.int .u64 1],[.int .u64 65],[.int .u64 66],[.int .u64 67],[.int .u64 0],[.int .u64 64],[.int .u64 4160]] .full) (.int .i64 r3)=some (.vp [.int .u64 (Jh.getD r3 0:Nat)] 0):=xI (k:= .u64) (L:=Jh) Bv
     simp+decide only[st,xv,gD,Ic,r0]
     refine aq c3 ?_
     simp+decide only[st,xv,gD,Ic,aiE,xr,e]
     exact hK _ _ ⟨_,rfl,_,_,rfl,ane,K2.trans K3⟩
    by_cases z:r2=0
    ·have z':(r2:Int)=0:=by omega
     simp+decide only[st,xv,gD,C8,Ie,r0,r8,z']
     exact root _ _ r0 (fun _ _ q=>q)
    ·have z': ¬(r2:Int)=0:=by omega
     by_cases y:ids.length=0
     ·have y':(ids.length:Int)=0:=by omega
      simp+decide only[st,xv,gD,C8,Ie,r0,r8,z',ba.aN,y']
      exact root _ _ r0 (fun _ _ q=>q)
     ·have y': ¬(ids.length:Int)=0:=by omega
      obtain⟨r3,h3,n3,c3,Bv,K3⟩:=jm ok K2.pk (m:=ids.length) (by omega) (by omega)
      have gr:((ay .u64).R ids)[r3]? =some [.int .u64 ids[r3]]:=(ay .u64).eW Bv
      have yN:(0:Int)<=r3:=by omega
      simp+decide only[st,xv,gD,C8,Ie,OT,r0,r8,z',ba.aN,y']
      refine aq c3 ?_
      simp+decide only[st,xv,gD,OT,gr,yN,lP,xr]
      exact⟨_,_,rfl,U8 _ (List.getElem_mem Bv),K2.trans K3⟩
  clear hK
  by_cases o3:op=3
  ·simp+decide only[st,xv,gD,tS,ahA,o3]
   exact fin _ 1 rfl rfl rfl
  by_cases o4:op=4
  ·simp+decide only[st,xv,gD,tS,vG,Kd,o3,o4]
   exact fin _ 2 rfl rfl rfl
  by_cases o5:op=5
  ·simp+decide only[st,xv,gD,tS,vG,xZ,Kd,o3,o4,o5]
   exact fin _ 2 rfl rfl rfl
  by_cases lq:op=10
  ·simp+decide only[st,xv,gD,tS,vG,xZ,AL,Kd,o3,o4,o5,lq]
   exact fin _ 2 rfl rfl rfl
  by_cases o7:op=7
  ·simp+decide only[st,xv,gD,tS,vG,xZ,AL,EX,abQ,o3,o4,o5,lq,o7]
   exact fin _ 3 rfl rfl rfl
  by_cases o8:op=8
  ·simp+decide only[st,xv,gD,tS,vG,xZ,AL,EX,Ih,OW,o3,o4,o5,lq,o7,o8]
   exact fin _ 4 rfl rfl rfl
  by_cases o9:op=9
  ·simp+decide only[st,xv,gD,tS,vG,xZ,AL,EX,Ih,OX,OW,o3,o4,o5,lq,o7,o8,o9]
   exact fin _ 4 rfl rfl rfl
  ·simp+decide only[st,xv,gD,tS,vG,xZ,AL,EX,Ih,OX,o3,o4,o5,lq,o7,o8,o9]
   exact fin _ 0 rfl rfl rfl
 obtain⟨v,h',c,id,n',rfl,r⟩:=hx
 exact⟨id,h',n',c,r⟩
end
section
open Go
variable {P:Program} {h:aa} {p n:Nat} {l:List UInt8}
theorem ad2: ∀{n off:Nat} {cs:List AV},off+n<=cs.length->rowsOf cs off 1 n=((cs.drop off).take n).map fun v=>[v]
 |0,off,cs,_=>by simp[rowsOf]
 |n+1,off,cs,h=>by
  unfold rowsOf
  rw[ad2 (by omega)]
  have e:cs.drop off=cs[off]'(by omega)::cs.drop (off+1):=(List.drop_eq_getElem_cons (by omega))
  rw[e,List.take_succ_cons,List.take_succ_cons,List.map_cons,List.take_zero]
def sJ (bs:List UInt8):List AV:=bs.map fun b=> .int .u8 b.toNat
theorem Hu {bs:List UInt8}:(sJ bs).length=bs.length:=by simp[sJ]
theorem aai {bs:List UInt8} {b:Nat}:AV.eK b (sJ bs) (.rs b 0 bs.length 1)= .vs (BS bs) .ao:=by
 unfold AV.eK
 rw[if_pos rfl,if_pos (by rw[Hu];omega),ad2 (by rw[Hu];omega),List.drop_zero,List.take_of_length_le (by rw[Hu];exact Nat.le_refl _)]
 unfold sJ
 rw[List.map_map]
 rfl
theorem Yi (ok:ax P tb) (K:PK h p l n) {m:Nat} (hm:m<2^20): ∃bs h' n',an P 29 [.ptr p 0, .int .i64 m] h (.vs (BS bs) .ao) h'/\bs.length<=m/\Ps h h' p l n 1 n':=by
 have hx: ∃v h',an P 29 [.ptr p 0, .int .i64 m] h v h'/\ ∃bs b n',v= .rs b 0 bs.length 1/\h.next<=b/\h'.get b=some (.cells (sJ bs))/\bs.length<=m/\Ps h h' p l n 1 n':=by
  refine ok.py (rf:=wL) rfl (Nat.le_of_ble_eq_true rfl) ?_
  have lt:=K.lt
  obtain⟨r,h1,n1,c1,hr,K1⟩:=jm ok K (m:=m+1) (by omega) (by omega)
  have hw:=cT (show m<2^61 by omega)
  simp+decide only[st,xv,wL,ahz,T3,hw]
  refine aq c1 ?_
  have ml:lT 1 (.int .i64 r) (.int .i64 r)=some r:=by
   show(if 0<=(r:Int)/\(r:Int)=r/\(r:Int)<2^40/\((1:Nat):Int)*r<=2^40 then some (r:Int).toNat else none)=_
   rw[if_pos (by omega),Int.toNat_natCast]
  simp+decide only[st,xv,wL,T3,ahy,ml]
  have wg:=K1.f.1
  generalize hX:aa.at _ _ _=X
  have oX:Old h1 X:=by rw[<-hX];exact(Old.refl h1).at (Nat.le_refl _)
  have nX:X.next=h1.next+1:=by rw[<-hX];simp[aa.at]
  have gX:X.get h1.next=some (.cells (sJ (List.replicate r 0))):=by
   rw[<-hX];simp[aa.at,sJ]
  clear hX
  have KX:=K1.to oX
  obtain⟨t,gp⟩:=KX.pk.get
  have FX:=KX.pk.lt
  let I:Nat->Env->aa->Prop:=fun k ρ H=> ∃i bs,r=i+k/\bs.length=r/\X.next<=H.next/\(∀b,b<X.next->b≠h1.next->H.get b=X.get b)/\H.get h1.next=some (.cells (sJ bs))/\ρ 0= .ptr p 0/\ρ 5= .rs h1.next 0 r 1/\ρ 6= .int .i64 i
  refine dn I ?_ r ⟨0,List.replicate r 0,by omega,by simp,Nat.le_refl _,fun _ _ _=>rfl,gX,rfl,rfl,rfl⟩
  rintro k ρ H ⟨i,bs,hik,jz,fg,hold,gH,r0,r5,r6⟩
  by_cases hi:i<r
  ·have aB:(i:Int)<(r:Int):=by omega
   have bR:(0:Int)<=i:=by omega
   have kT:=cT (show i<2^61 by omega)
   have cg:=av gH
   have cp:cellsOf H p=some [.vs (BS l) t, .int .i64 n1]:=av (by rw[hold p FX (by have:=K1.pk.lt;omega)];exact gp)
   have hia:iL 1 (.rs h1.next 0 r 1) (.int .i64 i)=some (.ptr h1.next i):=by
    unfold iL
    simp only[if_pos bR]
    rw[if_pos ⟨trivial,aB⟩,Int.toNat_natCast,Nat.mul_one,Nat.zero_add]
   have hle:i+1<=(sJ bs).length:=by rw[Hu,jz];omega
   simp+decide only[st,xv,wL,T2,ahx,ahw,r0,r5,r6,aB,bR,kT,cg,cp,hia,hle,wrap_u8]
   refine⟨k-1,by omega,i+1,bs.set i (FJ (IntKind.wrap .i64 ((n1:Int)+i))),by omega,by rw[List.length_set];exact jz,fg,fun b hb aM=>by simp only[aa.set];rw[if_neg aM];exact hold b hb aM,?_,r0,r5,rfl⟩
   simp only[aa.set,if_true]
   congr 2
   unfold sJ
   rw[List.map_set,List.set_eq_take_append_cons_drop,if_pos (by rw[List.length_map,jz];exact hi)]
   simp
  ·have aB: ¬(i:Int)<(r:Int):=by omega
   simp+decide only[st,xv,wL,T2,ahv,r0,r5,r6,aB,lP,xr]
   refine⟨bs,h1.next,n1,by rw[jz],wg,gH,by omega,KX.low K fg (fun b hb=>hold b (by omega) (by omega))⟩
 obtain⟨v,h',c,bs,b,n',rfl,hb,hg,hl,Kp⟩:=hx
 have c2:=c.freeze hg hb (by rw[aai];exact jM.lV)
 rw[aai] at c2
 exact⟨bs,_,n',c2,hl,Kp.low K (Nat.le_refl _) (fun x hx=>by simp only[aa.set];rw[if_neg (by omega)])⟩
end
section
open Go
theorem Zf {P:Program} {al qR:List RO} {un:List (List Nat)} {base:Nat} {W:Nat->Prop} {K:Env->aa->Prop}: ∀(os:List RO) (i:Nat) (ρ:Env) (h:aa) (done:List (Env×aa×Option AV)),(∀j,i+os.length<=j->un.getD j []=[])->
 done.length=i->al.drop i=os++qR->
 (∀k d,done[k]? =some d->rX base W d.2.1 h/\ ∀ok q v,al[k]? =some ok->ok.op= .p q->fQ un k=true->d.2.2=some v->aX q d.1 d.2.1=some v/\At base W (q.key d.1))->
 mK P W un al.length base os i ρ h (fun ρ' h'=>bL P al.length base qR (i+os.length) ρ' h' K)->l7 P al un base (os++qR) i ρ h done K
 |[],i,ρ,h,done,hu,_,_,_,he=>MX qR i ρ h done hu he
 |o::os,i,ρ,h,done,hu,hl,hd,hinv,⟨r,h',hs,hf,hk,iq,he⟩=>by
  have lA:al[i]? =some o:=by
   have:(al.drop i)[0]? =some o:=by rw[hd];rfl
   rw[List.getElem?_drop] at this
   simpa using this
  have bH: ∀k,k∈un.getD i []->fQ un i=true/\fQ un k=true:=fun k hk=>by
   constructor
   ·unfold fQ
    cases hq:un.getD i [] with
    |nil=>rw[hq] at hk;cases hk
    |cons a b=>rfl
   ·unfold fQ
    have:un.any (fun l=>l.contains k)=true:=by
     rw[List.any_eq_true]
     rw[List.getD_eq_getElem?_getD] at hk
     cases hq:un[i]? with
     |none=>rw[hq] at hk;cases hk
     |some l=>rw[hq] at hk;exact⟨l,List.mem_of_getElem? hq,by simpa using hk⟩
    rw[this,Bool.or_true]
  have oq: ∀q v,o.op= .p q->r=some v->aX q ρ h=some v/\h'=h:=fun q v hq hr=>by
   unfold br at hs
   split at hs
   ·obtain⟨v',h1,h2⟩:=hs
    rw[hr] at h1;cases h1
    rw[hq] at h2
    exact h2
   ·rw[hr] at hs;cases hs.1
   ·exact hs.elim
  refine⟨r,h',hs,fun k yR ok d aY cB=>?_,hf,?_⟩
  ·obtain⟨f1,f2⟩:=bH k yR
   obtain⟨hold,sv⟩:=hinv k d cB
   unfold lJ
   split
   ·split
    ·rename_i v q hv hq
     obtain⟨h1,h2⟩:=sv ok q v aY hq f2 hv
     rw[<-h1]
     refine(rK q d.1 d.2.1 h' (fun b hb=>?_)).symm
     rw[hb] at h2
     rw[hk b h2.1 h2.2,hold b h2.1 h2.2]
    ·trivial
   ·split
    ·rename_i v q hq
     obtain⟨h1,rfl⟩:=oq q v hq rfl
     have h2:=iq q hq f1
     rw[<-h1]
     refine rK q ρ d.2.1 h' (fun b hb=>?_)
     rw[hb] at h2
     exact(hold b h2.1 h2.2).symm
    ·trivial
  ·refine Zf os (i+1) _ h' _ (fun j hj=>hu j (by simp only[List.length_cons];omega)) (by simp[hl]) ?_ ?_ (by simpa only[List.length_cons,Nat.add_assoc,Nat.add_comm 1] using he)
   ·rw[<-List.drop_drop,hd];rfl
   ·intro k d cB
    rw[List.getElem?_append] at cB
    split at cB
    ·obtain⟨g1,g2⟩:=hinv k d cB
     exact⟨fun b hb hw=>by rw[hk b hb hw,g1 b hb hw],g2⟩
    ·rename_i aC
     have mB:k=i:=by
      have:=(List.getElem?_eq_some_iff.1 cB).1
      simp at this;omega
     subst mB
     simp[hl] at cB
     subst cB
     refine⟨hk,fun ok q v aY hq bH hv=>?_⟩
     rw[lA] at aY;cases aY
     exact⟨(oq q v hq hv).1,iq q hq bH⟩
theorem Nz {P:Program} {al:List RO} {un:List (List Nat)} {K:aQ->Env->aa->Prop} {ρ:Env} {h:aa} (W:Nat->Prop) (k n:Nat) (hn:al.length=n) (hk:k<=n) (hu:(un.drop k).all (·.isEmpty)=true)
 (he:mK P W un n h.next (al.take k) 0 ρ (h.clean n) (fun ρ' h'=>bL P n h.next (al.drop k) k ρ' h' (K .normal))):WP P (.aU al un) K ρ h:=by
 subst hn
 have hl:(al.take k).length=k:=by rw[List.length_take];omega
 have:=Zf (W:=W) (P:=P) (al:=al) (qR:=al.drop k) (un:=un) (base:=h.next) (K:=K .normal) (al.take k) 0 ρ (h.clean al.length) [] (fun j hj=>by
  rw[hl,Nat.zero_add] at hj
  have h1:un.getD j []=(un.drop k).getD (j-k) []:=by
   rw[List.getD_eq_getElem?_getD,List.getD_eq_getElem?_getD,List.getElem?_drop,show k+(j-k)=j by omega]
  rw[h1,List.getD_eq_getElem?_getD]
  cases hq:(un.drop k)[j-k]? with
  |none=>rfl
  |some l=>
   have:=List.all_eq_true.1 hu l (List.mem_of_getElem? hq)
   cases l with
   |nil=>rfl
   |cons a b=>simp at this) rfl (by simp) (fun k d hd=>by simp at hd) (by simpa only[hl,Nat.zero_add] using he)
 rw[List.take_append_drop] at this
 obtain⟨ρ1,h1,he,hk⟩:=zp this
 exact⟨_,_,_, .AU he,hk⟩
end
section
open Go
variable {P:Program} {h:aa} {p n:Nat} {l:List UInt8}
theorem PF.free {H h':aa} {m i:Nat} (f:PF (H.clean m) h' p) (hp:p<H.next):cU m H.next i h':=by
 intro j _ hj
 rw[f.2 _ (by show _<H.next+m;omega) (by omega)]
 simp only[aa.clean]
 rw[if_neg (by omega)]
theorem PF.keeps {H h':aa} {m:Nat} (f:PF (H.clean m) h' p):rX H.next (fun b=>b=p) (H.clean m) h':=fun b hb hw=>f.2 b (by show b<H.next+m;omega) hw
theorem PF.apD {h1 h2:aa} {base:Nat} (f:PF h1 h2 p) (hb:base<=h1.next):rX base (fun b=>b=p) h1 h2:=fun b bC hw=>f.2 b (by omega) hw
theorem PF.Rh {h1 h2:aa} {m base i:Nat} (f:PF h1 h2 p) (hb:base+m<=h1.next) (hp:p<base) (hf:cU m base i h1):cU m base i h2:=fun j hj hm=>by
 rw[f.2 _ (by omega) (by omega)];exact hf j hj hm
def E7:List Nat:=[40,100,400,12]
def E6:List Nat:=[100000,100000,100000,200]
theorem aoo {r:Nat}:E7.getD r 0<=400:=by
 unfold E7
 match r with
 |0=>decide
 |1=>decide
 |2=>decide
 |3=>decide
 |r+4=>exact(by decide:0<=400)
theorem aom {r:Nat}:E6.getD r 0<=100000:=by
 unfold E6
 match r with
 |0=>decide
 |1=>decide
 |2=>decide
 |3=>decide
 |r+4=>exact(by decide:0<=100000)
theorem ajR (ok:ax P tb) (K:PK h p l n): ∃c h' n',an P 7 [.ptr p 0] h (.agg (Cf.c c .ao)) h'/\iU c=true/\(∀x∈c.bg,x.ok)/\Ps h h' p l n 3 n':=by
 have hx: ∃v h',an P 7 [.ptr p 0] h v h'/\ ∃c n',v.strip= .agg (Cf.c c .ao)/\iU c=true/\(∀x∈c.bg,x.ok)/\Ps h h' p l n 3 n':=by
  refine ok.py (rf:=c7) rfl (Nat.le_of_ble_eq_true rfl) ?_
  have lt:=K.lt
  simp+decide only[st,xv,c7,aje]
  generalize hX:aa.at _ _ _=X
  have oX:Old h X:=by rw[<-hX];exact(Old.refl h).at (Nat.le_refl _)
  have nX:X.next=h.next+1:=by rw[<-hX];simp[aa.at]
  have gX:X.get h.next=some (.cells [.int .i64 0, .int .i64 0, .vs [] .full]):=by rw[<-hX];simp[aa.at]
  clear hX
  have KX:=K.old oX
  have FX:=KX.lt
  obtain⟨r1,h1,n1,c1,Bw,K1⟩:=jm ok (KX.old (h':=X.clean 13) (Old.refl X).clean) (m:=4) (by decide) (by decide)
  obtain⟨r2,h2,n2,c2,uo,K2⟩:=jm ok K1.pk (m:=4) (by decide) (by decide)
  have e1:iL 1 (.vs [[.int .i64 40],[.int .i64 100],[.int .i64 400],[.int .i64 12]] .full) (.int .i64 r1)=some (.vp [.int .i64 (E7.getD r1 0:Nat)] 0):=xI (k:= .i64) (L:=E7) Bw
  have e2:iL 1 (.vs [[.int .i64 100000],[.int .i64 100000],[.int .i64 100000],[.int .i64 200]] .full) (.int .i64 r2)=some (.vp [.int .i64 (E6.getD r2 0:Nat)] 0):=xI (k:= .i64) (L:=E6) uo
  have wg:X.next+13<=h1.next:=K1.f.1
  refine Nz (fun b=>b=p) 8 13 rfl (by omega) rfl ?_
  simp+decide only[st,xv,c7,ajd,sw,xr,List.take_succ_cons,List.take_zero,List.drop_succ_cons,List.drop_zero]
  refine⟨_,h1,c1,K1.f.free FX,K1.f.keeps,?_⟩
  simp+decide only[st,xv,sw,xr,e1]
  refine⟨_,h2,c2,K2.f.Rh wg FX (K1.f.free FX),K2.f.apD (by omega),?_⟩
  simp+decide only[st,xv,sw,xr,e2]
  refine⟨fun j hj hm=>by omega,?_⟩
  have hq4:=aoo (r:=r1)
  have hs4:=aom (r:=r2)
  generalize E7.getD r1 0=qq at*
  generalize E6.getD r2 0=ss at*
  have Lw:=K2.f.1
  have K12:=Ps.from (oX.trans (Old.refl X).clean) (K1.trans K2)
  have g0:h2.get h.next=some (.cells [.int .i64 0, .int .i64 0, .vs [] .full]):=by
   rw[K2.f.2 _ (by omega) (by omega),K1.f.2 _ (by show _<X.next+13;omega) (by omega)]
   simp only[aa.clean];rw[if_pos (by omega)];exact gX
  generalize hY:aa.set _ _ _=Y
  obtain⟨cb,dm⟩: ∃cb,cb=X.next+(8+1+1+1):=⟨_,rfl⟩
  rw[<-dm] at hY
  have nY:h2.next<=Y.next:=by rw[<-hY];show h2.next<=max _ _;omega
  have gY:Y.get cb=some (.cells [.int .i64 qq, .int .i64 ss, .vs [] .full]):=by rw[<-hY];simp[aa.set]
  have US: ∀b,b≠cb->Y.get b=h2.get b:=fun b hb=>by rw[<-hY];simp[aa.set,aa.at,hb]
  have KY:=K12.low K nY (fun b hb=>US b (by omega))
  have g0Y:Y.get h.next=some (.cells [.int .i64 0, .int .i64 0, .vs [] .full]):=by rw[US _ (by omega)];exact g0
  clear hY
  rw[<-dm]
  obtain⟨r3,h3,n3,c3,Bv,K3⟩:=jm ok KY.pk (m:=3) (by decide) (by decide)
  have hw:IntKind.wrap .i64 (1+(r3:Int))=(((r3+2:Nat):Int)-1):=by rw[bw]<;>omega
  simp+decide only[st,xv,c7,VD,xr]
  refine aq c3 ?_
  simp+decide only[st,xv,c7,VD,hw,xr]
  have y9:=KY.trans K3
  let I:Nat->Env->aa->Prop:=fun m ρ H=> ∃n4 v bg,bg.length+m=r3+2/\Ps h H p l n 3 n4/\cb<H.next/\H.get cb=some (.cells [.int .i64 qq, .int .i64 ss,v])/\H.get h.next=some (.cells [.int .i64 0, .int .i64 0, .vs [] .full])/\App ⟨h.get,cb+1⟩ H v (Ay.R bg)/\(∀x∈bg,x.ok/\dB x=true)/\ρ 0= .ptr p 0/\ρ 2= .ptr h.next 0/\ρ 3= .ptr cb 0/\ρ 4= .int .i64 ((m:Int)-1)
  refine dn I ?_ (r3+2) ⟨n3,_,[],by simp,y9,by have:=K3.f.1;omega,by rw[K3.f.2 _ (by omega) (by omega)];exact gY,by rw[K3.f.2 _ (by omega) (by omega)];exact g0Y,⟨_,rfl, .inl rfl⟩,(fun q hq=>(List.not_mem_nil hq).elim),rfl,rfl,rfl,rfl⟩
  clear K1 K2 K3 K12 KY y9 c1 c2 c3 gY g0Y g0 gX US
  rintro m ρ H ⟨n4,v,bg,hm,K4,hcH,gc,g0,ha,ff,r0,FO,Bk,r4⟩
  by_cases Ge:0<m
  ·have ur:(0:Int)<=(m:Int)-1:=by omega
   obtain⟨L,h5,n5,c5,L1,L2,L3,L4,L5,K5⟩:=XX ok K4.pk (s:=true)
   simp+decide only[st,xv,c7,VC,VB,r0,r4,ur,xr]
   refine aq c5 ?_
   simp+decide only[st,xv,c7,VB,Lb.c,xr]
   have f5:=K5.f
   have K45:=(K4.trans K5).less (show 3<=3+1 by omega)
   generalize hK8:i9 (WP P (.af Vz) _) _=K8
   have n45:=f5.1
   have fin: ∀(ρ:Env) (G:aa) (n6:Nat) (L':Lb),L'.ok->dB L'=true->Ps h G p l n 3 n6->h5.next<G.next->G.get h5.next=some (.cells [.int .u8 L'.d, .vs (aw.R L'.ps) .ao])->(∀b,b<h5.next->b≠p->G.get b=h5.get b)->ρ 0= .ptr p 0->ρ 2= .ptr h.next 0->ρ 3= .ptr cb 0->ρ 4= .int .i64 ((m:Int)-1)->ρ 5= .ptr h5.next 0->K8 .normal ρ G:=by
    intro ρ G n6 L' q1 q2 K6 hnG gL hG r0 FO Bk r4 r5
    rw[<-hK8]
    have lE:App ⟨G.get,cb+1⟩ G v (Ay.R bg):=(ha.pf f5 (show p<cb+1 by omega)).to (by omega) fun k h1 h2 hk=>by rw[hG k h2 (by have:cb+1<=k:=h1;omega)];exact hk
    have gcG:G.get cb=some (.cells [.int .i64 qq, .int .i64 ss,v]):=by rw[hG _ (by omega) (by omega),f5.2 _ hcH (by omega)];exact gc
    have g0G:G.get h.next=some (.cells [.int .i64 0, .int .i64 0, .vs [] .full]):=by rw[hG _ (by omega) (by omega),f5.2 _ (by omega) (by omega)];exact g0
    obtain⟨v',h6,b1,b2,b3,b4,b5,b6,b7⟩:=lE.app ⟨by show cb+1<=G.next;omega,fun _ _=>rfl⟩ (bytes:=32) (sz:=2) (id:=G.next) (by show cb+1<=G.next;omega) [[AV.int .u8 L'.d,AV.vs (aw.R L'.ps) .ao]] Ay.jn (by rw[ba.aN];simp only[List.length_cons,List.length_nil];omega) (by rw[ba.aN];simp only[List.length_cons,List.length_nil];omega)
    have cL:=av gL
    have cc:=av gcG
    have c6:cellsOf h6 cb=some [.int .i64 qq, .int .i64 ss,v]:=av (by rw[b3.get _ (by show cb<cb+1;omega)];exact gcG)
    have v1:v'.one=true/\v'.cells=[v']:=by obtain⟨t,rfl,_⟩:=b2;exact⟨rfl,rfl⟩
    have hw:IntKind.wrap .i64 ((m:Int)-1-1)=(((m-1:Nat):Int)-1):=by rw[bw]<;>omega
    simp+decide only[st,xv,c7,Vz,ajb,Bk,r4,r5,cL,cc,c6,b1,v1.1,v1.2,hw,xr]
    refine⟨m-1,by omega,n6,v',bg++[L'],by simp;omega,K6.low K b4 (fun b hb=>by simp only[aa.set];rw[if_neg (by omega)];exact b3.get b (by show b<cb+1;omega)),by show cb<h6.next;omega,by simp[aa.set],by simp only[aa.set];rw[if_neg (by omega),b3.get _ (by show h.next<cb+1;omega)];exact g0G,?_,fun q gP=>?_,r0,FO,Bk,rfl⟩
    ·rw[<-ba.jK]
     obtain⟨t3,q,w⟩:=b2
     refine⟨t3,q,w.imp id fun⟨j,q1,q2,q3,q4⟩=>⟨j,q1,q2,q3,?_⟩⟩
     simp only[aa.set]
     rw[if_neg (by have:cb+1<=j:=q2;omega)]
     exact q4
    ·rcases List.mem_append.1 gP with gP|gP
     ·exact ff q gP
     ·rw[List.mem_singleton.1 gP];exact⟨q1,q2⟩
   clear hK8
   generalize hZ:aa.set _ _ _=Z
   have oZ:Old h5 Z:=by rw[<-hZ];exact((Old.refl h5).at (Nat.le_refl _)).set (Nat.le_refl _)
   have nZ:Z.next=h5.next+1:=by rw[<-hZ];simp[aa.set,aa.at]
   have gZ:Z.get h5.next=some (.cells [.int .u8 L.d, .vs (aw.R L.ps) .ao]):=by rw[<-hZ];simp[aa.set]
   clear hZ
   have KZ:=K45.to oZ
   have pZ:=K5.pk.lt
   obtain⟨r6,h7,n7,c7,hr6,K7⟩:=jm ok KZ.pk (m:=12) (by decide) (by decide)
   have K7':=(KZ.trans K7).less (show 3<=3+1 by omega)
   have g7:h7.get h5.next=_:=(K7.f.2 _ (by omega) (by omega)).trans gZ
   have n77:=K7.f.1
   have h7o: ∀b,b<h5.next->b≠p->h7.get b=h5.get b:=fun b hb hp=>by rw[K7.f.2 b (by omega) hp,oZ.get b hb]
   simp+decide only[st,xv,c7,Lj,r0,xr]
   refine aq c7 ?_
   by_cases e11:r6=11
   ·have Vo:(r6:Int)=11:=by omega
    have GD:=av g7
    simp+decide only[st,xv,c7,Lj,ajc,VA,Vo,GD,r0,xr]
    refine aq (Xe ok (l:=L.ps) (d:=1) (by omega)) ?_
    simp+decide only[st,xv,c7,VA,Lb.c,xr]
    obtain⟨a1,a2,a3⟩:=aa4 (d:=1) (l:=L.ps) (by decide) (by decide) (by omega) L5
    exact fin _ _ _ (lu 1 L.ps) a1 a2 (K7'.low K (Nat.le_refl _) (fun b hb=>by simp only[aa.set];rw[if_neg (by omega)])) (by show h5.next<h7.next;omega) (by simp[aa.set]) (fun b hb hp=>by simp only[aa.set];rw[if_neg (by omega)];exact h7o b hb hp) r0 FO Bk r4 rfl
   ·have Vo: ¬(r6:Int)=11:=by omega
    simp+decide only[st,xv,c7,Lj,Vo,xr]
    exact fin _ _ _ L L1 L2 K7' (by omega) g7 h7o r0 FO Bk r4 rfl
  ·have ur: ¬(0:Int)<=(m:Int)-1:=by omega
   have cc:=av gc
   have c0:=av g0
   obtain⟨tt,rfl,_⟩:=ha
   simp+decide only[st,xv,c7,VC,ae5,FO,Bk,r4,ur,cc,c0,lP,xr]
   refine⟨⟨qq,ss,bg⟩,n4,by simp only[AV.strip,AV.bA,Cf.c,Ay.ew],?_,fun x hx=>(ff x hx).1,K4.low K (Nat.le_refl _) (fun b hb=>by simp only[aa.set];rw[if_neg (by omega)])⟩
   have ea:bg.all dB=true:=List.all_eq_true.2 fun x hx=>(ff x hx).2
   unfold iU
   rw[ea]
   simp only[Bool.and_true,Bool.and_eq_true,decide_eq_true_eq]
   omega
 obtain⟨v,h',c,cf,n',hv,r⟩:=hx
 have c2:=c.strip
 rw[hv] at c2
 exact⟨cf,h',n',c2,r⟩
end
section
open Go
variable {P:Program} {h:aa} {p n:Nat} {l:List UInt8}
def V7:List Nat:=[3,3,3,3,1,2,4,5,6,7,8,8,9,10,10,11,12,13,4,5]
def Q7:List Nat:=[1,2,2,4,3,2,9]
structure ClP (c:Cl):Prop where
 ok:iD c
 new:c.op=3->dB c.ak=true/\jY c.bu=true
 n:c.op=10->c.n<=16
theorem auS {cs:List Nat} (h:cs.length<=1):jY cs=true:=by
 match cs,h with
 |[],_=>rfl
 |[x],_=>rfl
theorem alA (ok:ax P tb) (K:PK h p l n) {ah:List Ob} {t:aH} (aL: ∀o∈ah,o.id<2^64) (hl:ah.length<2^20): ∃c h' n',an P 13 [.ptr p 0, .vs (iF ah) t] h (.agg (Cl.c c aK)) h'/\ClP c/\Ps h h' p l n (if c.op=3 then 10 else 6) n':=by
 have hx: ∃v h',an P 13 [.ptr p 0, .vs (iF ah) t] h v h'/\ ∃c n',v.strip= .agg (Cl.c c aK)/\ClP c/\Ps h h' p l n (if c.op=3 then 10 else 6) n':=by
  refine ok.py (rf:=fK) rfl (Nat.le_of_ble_eq_true rfl) ?_
  have lt:=K.lt
  simp+decide only[st,xv,fK,aiv]
  generalize hX:aa.at _ _ _=X
  have oX:Old h X:=by rw[<-hX];exact(Old.refl h).at (Nat.le_refl _)
  have nX:X.next=h.next+1:=by rw[<-hX];simp[aa.at]
  have gX:X.get h.next=some (.cells [.int .i64 0, .int .i64 0, .int .u64 0, .int .u64 0, .int .i64 0, .int .i64 0, .int .u8 0, .vs [] .full, .vs [] .full, .vs [] .full, .vs [] .full, .vs [] .full, .vs [] .full]):=by rw[<-hX];simp[aa.at]
  clear hX
  obtain⟨r1,h1,n1,c1,Bw,K1⟩:=jm ok (K.old oX) (m:=20) (by decide) (by decide)
  have e1:iL 1 (.vs [[.int .i64 3],[.int .i64 3],[.int .i64 3],[.int .i64 3],[.int .i64 1],[.int .i64 2],[.int .i64 4],[.int .i64 5],[.int .i64 6],[.int .i64 7],[.int .i64 8],[.int .i64 8],[.int .i64 9],[.int .i64 10],[.int .i64 10],[.int .i64 11],[.int .i64 12],[.int .i64 13],[.int .i64 4],[.int .i64 5]] .full) (.int .i64 r1)=some (.vp [.int .i64 (V7.getD r1 0:Nat)] 0):=xI (k:= .i64) (L:=V7) Bw
  simp+decide only[st,xv,fK,UE]
  refine aq c1 ?_
  simp+decide only[st,xv,fK,UE,asM,xr,e1]
  generalize V7.getD r1 0=op at*
  have f1:=K1.f
  have wg:=K1.f.1
  have K1:=Ps.from oX K1
  generalize hY:aa.set _ _ _=Y
  have oY:Old h1 Y:=by rw[<-hY];exact((Old.refl h1).at (Nat.le_refl _)).set (Nat.le_refl _)
  have nY:Y.next=h1.next+1:=by rw[<-hY];simp[aa.at,aa.set]
  have gY:Y.get h1.next=some (.cells [.int .i64 op, .int .i64 0, .int .u64 0, .int .u64 0, .int .i64 0, .int .i64 0, .int .u8 0, .vs [] .full, .vs [] .full, .vs [] .full, .vs [] .full, .vs [] .full, .vs [] .full]):=by rw[<-hY];simp[aa.set]
  clear hY
  have KY:=K1.to oY
  have Bo:=KY.pk.lt
  have g0:Y.get h.next=some (.cells [.int .i64 0, .int .i64 0, .int .u64 0, .int .u64 0, .int .i64 0, .int .i64 0, .int .u8 0, .vs [] .full, .vs [] .full, .vs [] .full, .vs [] .full, .vs [] .full, .vs [] .full]):=by
   rw[oY.get _ (by omega),f1.2 _ (by omega) (by omega)]
   exact gX
  generalize hb:h1.next=b5 at*
  have cY:=av gY
  have FW:b5<Y.next:=by omega
  obtain⟨i1,h2,n2,c2,ux,K2⟩:=YB ok (KY.pk.old (h':=Y.clean 14) (Old.refl Y).clean) (ah:=ah) (t:=t) (op:=op) aL hl
  obtain⟨i2,h3,n3,c3,BD,K3⟩:=YB ok K2.pk (ah:=ah) (t:=t) (op:=op) aL hl
  have Lw:Y.next+14<=h2.next:=K2.f.1
  have nb: ¬b5=p:=by omega
  have gYc:=(show(Y.clean 14).get b5=Y.get b5 by simp only[aa.clean];rw[if_pos FW]).trans gY
  have g2:=(K2.f.2 b5 (by show b5<Y.next+14;omega) nb).trans gYc
  have g3:=(K3.f.2 b5 (by omega) nb).trans g2
  have cg2:=av g2
  have cg3:=av g3
  refine Nz (fun b=>b=p) 9 14 rfl (by omega) rfl ?_
  simp+decide only[st,xv,fK,aiu,sw,xr,cY,FW,nb,List.take_succ_cons,List.take_zero,List.drop_succ_cons,List.drop_zero]
  refine⟨_,h2,c2,K2.f.free Bo,K2.f.keeps,?_⟩
  simp+decide only[st,xv,sw,xr,cg2,FW,nb]
  refine fA c3 (K3.f.Rh Lw Bo (K2.f.free Bo)) ?_
  have d1: ∀x,cellsOf (h3.set b5 (some (.cells x))) b5=some x:=fun x=>av (by simp[aa.set])
  have fr: ∀i x,cU 14 Y.next i (h3.set b5 x):=fun i x=>(jD FW).2 (K3.f.Rh Lw Bo (K2.f.free Bo))
  simp+decide only[st,xv,sw,xr,cg3,d1,FW,nb,fr]
  generalize hZ:aa.set h3 _ _=Z
  have gZ:Z.get b5=some (.cells [.int .i64 op, .int .i64 0, .int .u64 i1, .int .u64 i2, .int .i64 0, .int .i64 0, .int .u8 0, .vs [] .full, .vs [] .full, .vs [] .full, .vs [] .full, .vs [] .full, .vs [] .full]):=by rw[<-hZ];simp[aa.set]
  have oZ: ∀b,b≠b5->Z.get b=h3.get b:=fun b hb=>by rw[<-hZ];simp[aa.set,hb]
  have nZ:Z.next=h3.next:=by rw[<-hZ];rfl
  clear hZ
  have on3:=K3.f.1
  have KZ:Ps h Z p l n 5 n3:=(((Ps.from (h:=Y) (Old.refl Y).clean (K2.trans K3))|>KY.trans).less (by decide)).low K (by omega) (fun b hb=>oZ b (by omega))
  have g0Z:Z.get h.next=some (.cells [.int .i64 0, .int .i64 0, .int .u64 0, .int .u64 0, .int .i64 0, .int .i64 0, .int .u8 0, .vs [] .full, .vs [] .full, .vs [] .full, .vs [] .full, .vs [] .full, .vs [] .full]):=by
   rw[oZ _ (by omega),K3.f.2 _ (by omega) (by omega),K2.f.2 _ (by show _<Y.next+14;omega) (by omega)]
   simp only[aa.clean];rw[if_pos (by omega)];exact g0
  generalize hρ:put _ _ _=ρ
  have r0:ρ 0= .ptr p 0:=by rw[<-hρ];rfl
  have r1:ρ 1= .vs (iF ah) t:=by rw[<-hρ];rfl
  have r4:ρ 4= .ptr h.next 0:=by rw[<-hρ];rfl
  have r5:ρ 5= .ptr b5 0:=by rw[<-hρ];rfl
  clear hρ fr d1 cg2 cg3 c2 c3 c1 e1 g2 g3 gYc cY gY K2 K3 KY
  have zb:b5<Z.next:=by omega
  have zh:h.next<b5:=by omega
  have zl:h.next<Z.next:=by omega
  clear wg Lw on3 nY nZ oZ oY g0
  obtain⟨L,h5,n5,c5,L1,L2,L3,L4,L5,K5⟩:=XX ok KZ.pk (s:=decide ((op:Int)=2))
  have cZ:=av gZ
  simp+decide only[st,xv,fK,UD,r0,r5,cZ,xr]
  refine aq c5 ?_
  have g5:=(K5.f.2 b5 zb nb).trans gZ
  have c5g:=av g5
  have d1: ∀x,cellsOf (h5.set b5 (some (.cells x))) b5=some x:=fun x=>av (by simp[aa.set])
  simp+decide only[st,xv,fK,UD,ait,r5,c5g,d1,Lb.c,List.drop_succ_cons,List.drop_zero,List.cons_append,List.nil_append,xr]
  generalize hW:aa.set h5 _ _=W
  have gW:W.get b5=some (.cells [.int .i64 op, .int .i64 0, .int .u64 i1, .int .u64 i2, .int .i64 0, .int .i64 0, .int .u8 L.d, .vs (aw.R L.ps) .ao, .vs [] .full, .vs [] .full, .vs [] .full, .vs [] .full, .vs [] .full]):=by rw[<-hW];simp[aa.set]
  have oW: ∀b,b≠b5->W.get b=h5.get b:=fun b hb=>by rw[<-hW];simp[aa.set,hb]
  have nW:W.next=h5.next:=by rw[<-hW];rfl
  clear hW d1
  have n5':=K5.f.1
  have KW:Ps h W p l n 6 n5:=(KZ.trans K5).low K (by omega) (fun b hb=>oW b (by omega))
  have Mi:W.get h.next=some (.cells [.int .i64 0, .int .i64 0, .int .u64 0, .int .u64 0, .int .i64 0, .int .i64 0, .int .u8 0, .vs [] .full, .vs [] .full, .vs [] .full, .vs [] .full, .vs [] .full, .vs [] .full]):=by
   rw[oW _ (by omega),K5.f.2 _ (by omega) (by omega)];exact g0Z
  have wb:b5<W.next:=by omega
  generalize hK:iO 0 _=K0
  have fin: ∀(ρ:Env) (G:aa) (n':Nat) (kd off nn:Int) (data:List UInt8) (bu:List Nat) (t1 t2:aH),ρ 4= .ptr h.next 0->ρ 5= .ptr b5 0->b5<G.next->G.get b5=some (.cells [.int .i64 op, .int .i64 kd, .int .u64 i1, .int .u64 i2, .int .i64 off, .int .i64 nn, .int .u8 L.d, .vs (aw.R L.ps) .ao, .vs [] .full, .vs [] .full, .vs [] .full, .vs (BS data) t1, .vs ((ay .u16).R bu) t2])->G.get h.next=some (.cells [.int .i64 0, .int .i64 0, .int .u64 0, .int .u64 0, .int .i64 0, .int .i64 0, .int .u8 0, .vs [] .full, .vs [] .full, .vs [] .full, .vs [] .full, .vs [] .full, .vs [] .full])->data.length<=20->bu.length<=1->(∀x∈bu,x<65536)->((op:Int)=10->nn<=16)->Ps h G p l n (if(op:Int)=3 then 10 else 6) n'->K0 .normal ρ G:=by
   intro ρ G n' kd off nn data bu t1 t2 r4 r5 hbG gb gh q1 q2 q3 q4 KG
   rw[<-hK]
   have cb:=av gb
   have ch:=av gh
   simp+decide only[st,xv,fK,acR,r4,r5,cb,ch,lP,xr]
   refine⟨⟨op,kd,i1,i2,off,nn,L,oz,data,bu⟩,n',?_,⟨⟨L1,by show L.ps.length<=16;omega,ux,BD,by show data.length<2^20;omega,by show bu.length<2^16;omega,q3⟩,fun _=>⟨L2,auS q2⟩,q4⟩,KG.low K (Nat.le_refl _) (fun b hb=>by simp only[aa.set];rw[if_neg (by omega)])⟩
   simp only[AV.strip,AV.bA,AV.fy,Cl.c,aw.ew,jV,(ay .u16).ew,aK]
   rfl
  clear hK
  generalize hρ:put _ _ _=ρ1
  have ud:ρ1 0= .ptr p 0:=by rw[<-hρ];exact r0
  have Bj:ρ1 4= .ptr h.next 0:=by rw[<-hρ];exact r4
  have v9:ρ1 5= .ptr b5 0:=by rw[<-hρ];exact r5
  have sL:ρ1 32= .int .i64 op:=by rw[<-hρ];rfl
  clear hρ r0 r1 r4 r5
  have cW:=av gW
  have d1: ∀(H:aa) x,cellsOf (H.set b5 (some (.cells x))) b5=some x:=fun H x=>av (by simp[aa.set])
  have aaZ: ¬(op:Int)=3-> ∀ρ:Env,ρ 0= .ptr p 0->ρ 4= .ptr h.next 0->ρ 5= .ptr b5 0->exec P P9 ρ W (K0 .normal):=by
   intro o3 ρ r0 r4 r5
   obtain⟨a1,h6,n6,c6,m9,K6⟩:=jm ok KW.pk (m:=6) (by decide) (by decide)
   obtain⟨a2,h7,n7,c7,rq,K7⟩:=jm ok K6.pk (m:=14) (by decide) (by decide)
   have n6':=K6.f.1
   have n7':=K7.f.1
   have g7:=(K7.f.2 b5 (by omega) nb).trans ((K6.f.2 b5 wb nb).trans gW)
   have WZ:=(K7.f.2 h.next (by omega) (by omega)).trans ((K6.f.2 h.next (by omega) (by omega)).trans Mi)
   have GD:=av g7
   simp+decide only[st,xv,fK,P9,r0]
   refine aq c6 ?_
   simp+decide only[st,xv,r0]
   refine aq c7 ?_
   simp+decide only[st,xv,r5,GD,d1,xr]
   exact fin _ _ n7 0 a1 a2 [] [] .full .full r4 r5 (by show b5<h7.next;omega) (by simp only[aa.set,if_true];rfl) (by simp only[aa.set];rw[if_neg (by omega)];exact WZ) (Nat.zero_le _) (Nat.zero_le _) (fun q hq=>(List.not_mem_nil hq).elim) (fun _=>by omega) (by rw[if_neg o3];exact((KW.trans (K6.trans K7)).less (by omega)).low K (Nat.le_refl _) (fun b hb=>by simp only[aa.set];rw[if_neg (by omega)]))
  have aaY: ¬(op:Int)=3-> ∀ρ:Env,ρ 0= .ptr p 0->ρ 4= .ptr h.next 0->ρ 5= .ptr b5 0->exec P P7 ρ W (K0 .normal):=by
   intro o3 ρ r0 r4 r5
   obtain⟨a1,h6,n6,c6,m9,K6⟩:=jm ok KW.pk (m:=6) (by decide) (by decide)
   obtain⟨bs,h7,n7,c7,uB,K7⟩:=Yi ok K6.pk (m:=17) (by decide)
   have n6':=K6.f.1
   have n7':=K7.f.1
   have g7:=(K7.f.2 b5 (by omega) nb).trans ((K6.f.2 b5 wb nb).trans gW)
   have WZ:=(K7.f.2 h.next (by omega) (by omega)).trans ((K6.f.2 h.next (by omega) (by omega)).trans Mi)
   have GD:=av g7
   simp+decide only[st,xv,fK,P7,r0]
   refine aq c6 ?_
   simp+decide only[st,xv,r0]
   refine aq c7 ?_
   simp+decide only[st,xv,r5,GD,d1,xr]
   exact fin _ _ n7 0 a1 0 bs [] .ao .full r4 r5 (by show b5<h7.next;omega) (by simp only[aa.set,if_true];rfl) (by simp only[aa.set];rw[if_neg (by omega)];exact WZ) (by omega) (Nat.zero_le _) (fun q hq=>(List.not_mem_nil hq).elim) (fun _=>by omega) (by rw[if_neg o3];exact((KW.trans (K6.trans K7)).less (by omega)).low K (Nat.le_refl _) (fun b hb=>by simp only[aa.set];rw[if_neg (by omega)]))
  by_cases o3:(op:Int)=3
  ·simp+decide only[st,xv,fK,x8,sL,o3]
   obtain⟨a1,h6,n6,c6,m9,K6⟩:=jm ok KW.pk (m:=7) (by decide) (by decide)
   have e1:iL 1 (.vs [[.int .i64 1],[.int .i64 2],[.int .i64 2],[.int .i64 4],[.int .i64 3],[.int .i64 2],[.int .i64 9]] .full) (.int .i64 a1)=some (.vp [.int .i64 (Q7.getD a1 0:Nat)] 0):=xI (k:= .i64) (L:=Q7) m9
   generalize Q7.getD a1 0=kd at*
   have n6':=K6.f.1
   have g6:=(K6.f.2 b5 wb nb).trans gW
   have gh6:=(K6.f.2 h.next (by omega) (by omega)).trans Mi
   have c6g:=av g6
   simp+decide only[st,xv,fK,UC,ud,xr]
   refine aq c6 ?_
   simp+decide only[st,xv,fK,UC,aiE,xr,e1,v9,c6g]
   generalize hV:aa.set h6 _ _=V
   have gV:V.get b5=some (.cells [.int .i64 op, .int .i64 kd, .int .u64 i1, .int .u64 i2, .int .i64 0, .int .i64 0, .int .u8 L.d, .vs (aw.R L.ps) .ao, .vs [] .full, .vs [] .full, .vs [] .full, .vs [] .full, .vs [] .full]):=by rw[<-hV];simp[aa.set]
   have oV: ∀b,b≠b5->V.get b=h6.get b:=fun b hb=>by rw[<-hV];simp[aa.set,hb]
   have nV:V.next=h6.next:=by rw[<-hV];rfl
   clear hV
   have KV:Ps h V p l n 7 n6:=(KW.trans K6).low K (by omega) (fun b hb=>oV b (by omega))
   have ghV:=(oV h.next (by omega)).trans gh6
   obtain⟨a2,h7,n7,c7,rq,K7⟩:=jm ok KV.pk (m:=40) (by decide) (by decide)
   obtain⟨bs,h8,n8,c8,uB,K8⟩:=Yi ok K7.pk (m:=20) (by decide)
   have n7':=K7.f.1
   have n8':=K8.f.1
   have g8:=(K8.f.2 b5 (by omega) nb).trans ((K7.f.2 b5 (by omega) nb).trans gV)
   have gh8:=(K8.f.2 h.next (by omega) (by omega)).trans ((K7.f.2 h.next (by omega) (by omega)).trans ghV)
   have c8g:=av g8
   simp+decide only[st,xv,fK,ais,ud,xr]
   refine aq c7 ?_
   simp+decide only[st,xv,ud]
   refine aq c8 ?_
   simp+decide only[st,xv,v9,c8g,d1,xr]
   generalize hU:aa.set h8 _ _=U
   have gU:U.get b5=some (.cells [.int .i64 op, .int .i64 kd, .int .u64 i1, .int .u64 i2, .int .i64 0, .int .i64 a2, .int .u8 L.d, .vs (aw.R L.ps) .ao, .vs [] .full, .vs [] .full, .vs [] .full, .vs (BS bs) .ao, .vs [] .full]):=by rw[<-hU];simp[aa.set]
   have oU: ∀b,b≠b5->U.get b=h8.get b:=fun b hb=>by rw[<-hU];simp[aa.set,hb]
   have nU:U.next=h8.next:=by rw[<-hU];rfl
   clear hU
   have KU:Ps h U p l n 9 n8:=(KV.trans (K7.trans K8)).low K (by omega) (fun b hb=>oU b (by omega))
   have ghU:=(oU h.next (by omega)).trans gh8
   obtain⟨a3,h9,n9,c9,LZ,K9⟩:=jm ok KU.pk (m:=2) (by decide) (by decide)
   have n9':=K9.f.1
   have g9:=(K9.f.2 b5 (by omega) nb).trans gU
   have gh9:=(K9.f.2 h.next (by omega) (by omega)).trans ghU
   have KK:=KU.trans K9
   simp+decide only[st,xv,fK,UB,ud]
   refine aq c9 ?_
   simp+decide only[st,xv,fK,UB]
   let I:Nat->Env->aa->Prop:=fun m ρ H=> ∃n' bu t2,bu.length+m<=1/\(∀x∈bu,x<65536)/\(t2= .full\/m=0)/\Ps h H p l n 10 n'/\b5<H.next/\H.get b5=some (.cells [.int .i64 op, .int .i64 kd, .int .u64 i1, .int .u64 i2, .int .i64 0, .int .i64 a2, .int .u8 L.d, .vs (aw.R L.ps) .ao, .vs [] .full, .vs [] .full, .vs [] .full, .vs (BS bs) .ao, .vs ((ay .u16).R bu) t2])/\H.get h.next=some (.cells [.int .i64 0, .int .i64 0, .int .u64 0, .int .u64 0, .int .i64 0, .int .i64 0, .int .u8 0, .vs [] .full, .vs [] .full, .vs [] .full, .vs [] .full, .vs [] .full, .vs [] .full])/\ρ 0= .ptr p 0/\ρ 4= .ptr h.next 0/\ρ 5= .ptr b5 0/\ρ 6= .int .i64 m
   refine dn I ?_ a3 ⟨n9,[], .full,by simp;omega,(fun q hq=>(List.not_mem_nil hq).elim), .inl rfl,KK,by omega,g9,gh9,ud,Bj,v9,rfl⟩
   clear KK K9 KU K8 K7 KV K6 c6 c7 c8 c9 gU oU oV gV g6 g8 g9 gh6 gh8 gh9 ghU ghV
   rintro m ρ H ⟨n',bu,t2,Gn,awK,LH,KH,LY,gH,ghH,r0,r4,r5,r6⟩
   have cH:=av gH
   by_cases hm:0<m
   ·have oK:(0:Int)<(m:Int):=by omega
    simp+decide only[st,xv,fK,UA,r6,oK]
    obtain rfl:bu=[]:=List.length_eq_zero_iff.1 (by omega)
    obtain rfl:t2= .full:=LH.elim id (fun e=>by omega)
    have aiI:=KH.pk.lt
    obtain⟨c,oQ,Bn,qc,hc,K10⟩:=Zm ok (KH.pk.old (h':=H.clean 8) (Old.refl H).clean)
    have f10:=K10.f
    have axz:H.next+8<=oQ.next:=f10.1
    have awQ: ∀i,cU 8 H.next i oQ:=fun i=>f10.free aiI
    have g10:=(f10.2 b5 (by show b5<H.next+8;omega) nb).trans ((show(H.clean 8).get b5=H.get b5 by simp only[aa.clean];rw[if_pos LY]).trans gH)
    have zhH:h.next<H.next:=by omega
    have awP:=(f10.2 h.next (by show h.next<H.next+8;omega) (by omega)).trans ((show(H.clean 8).get h.next=H.get h.next by simp only[aa.clean];rw[if_pos zhH]).trans ghH)
    obtain⟨v',uC,b1,⟨t3,rfl,_⟩,b3,b4,b5'⟩:=(App.nil ⟨oQ.get,H.next⟩ oQ).sG ⟨by show H.next<=oQ.next;omega,fun _ _=>rfl⟩ (bytes:=2) (sz:=1) (base:=H.next) (n:=8) (i:=5) (Nat.le_refl _) (fun j hj=>by
     by_cases h0:j=0
     ·exact .inr (by omega)
     ·exact .inl (awQ 0 j (by omega) hj)) [[AV.int .u16 c]] rfl (by simp) (by simp)
    have b1:mr 2 1 (H.next+5) oQ (.vs ((ay .u16).R []) .full) (some [[AV.int .u16 c]])=some (.vs ((ay .u16).R [c]) t3,uC):=b1
    have uN:=av ((b3.get b5 (by show b5<H.next;exact LY)).trans g10)
    have f7: ∀x,cU 8 H.next 7 x:=fun x j h1 h2=>by omega
    have hw:IntKind.wrap .i64 ((m:Int)-1)=((m-1:Nat):Int):=by rw[bw]<;>omega
    refine Nz (fun b=>b=p) 4 8 rfl (by omega) rfl ?_
    simp+decide only[st,xv,fK,acT,sw,r0,r5,cH,LY,nb,xr,List.take_succ_cons,List.take_zero,List.drop_succ_cons,List.drop_zero]
    refine⟨_,oQ,qc,f10.free aiI,f10.keeps,?_⟩
    simp+decide only[st,xv,fK,acS,sw,xr,r5,r6,uN,b1,b5',f7,hw]
    have b4':H.next+8<=uC.next:=by have:oQ.next<=uC.next:=b4;omega
    refine⟨m-1,by omega,Bn,[c],t3,by simp;omega,fun q hq=>by rw[List.mem_singleton.1 hq];exact hc, .inr (by omega),?_,by show b5<uC.next;omega,by simp only[aa.set,if_true],by simp only[aa.set];rw[if_neg (by omega),b3.get h.next (by show h.next<H.next;omega)];exact awP,r0,r4,r5,rfl⟩
    have KF:=(KH.trans (Ps.from (h:=H) (Old.refl H).clean K10)).less (show 10<=10+1 by omega)
    exact KF.low K b4 (fun b hb=>by simp only[aa.set];rw[if_neg (by omega),b3.get b (by show b<H.next;omega)])
   ·have oK: ¬(0:Int)<(m:Int):=by omega
    simp+decide only[st,xv,fK,UA,r6,oK]
    exact fin _ H n' kd 0 a2 bs bu .ao t2 r4 r5 LY gH ghH uB (by omega) awK (fun e=>by omega) (by rw[if_pos o3];exact KH)
  by_cases o4:(op:Int)=4
  ·simp+decide only[st,xv,fK,x8,zX,sL,o3,o4]
   exact aaZ o3 _ ud Bj v9
  by_cases lq:(op:Int)=10
  ·simp+decide only[st,xv,fK,x8,zX,Di,sL,o3,o4,lq]
   exact aaZ o3 _ ud Bj v9
  by_cases o5:(op:Int)=5
  ·simp+decide only[st,xv,fK,x8,zX,Di,Iv,sL,o3,o4,lq,o5]
   exact aaY o3 _ ud Bj v9
  by_cases o8:(op:Int)=8
  ·simp+decide only[st,xv,fK,x8,zX,Di,Iv,P8,sL,o3,o4,lq,o5,o8]
   exact aaY o3 _ ud Bj v9
  ·simp+decide only[st,xv,fK,x8,zX,Di,Iv,P8,sL,o3,o4,lq,o5,o8]
   exact fin _ W n5 0 0 0 [] [] .full .full Bj v9 wb gW Mi (Nat.zero_le _) (Nat.zero_le _) (fun q hq=>(List.not_mem_nil hq).elim) (fun _=>by omega) (by rw[if_neg o3];exact KW)
 obtain⟨v,h',c,cl,n',hv,r⟩:=hx
 have c2:=c.strip
 rw[hv] at c2
 exact⟨cl,h',n',c2,r⟩
end
section
open Go
variable {P:Program} {h:aa}
theorem aj9 (ok:ax P tb) {x:Th} {τ:Nat->aH} (m:MV x):an P 33 [.agg (x.c τ)] h (.int .i64 (ig x)) h:=by
 refine ok.keeps (rf:=wK) rfl (Nat.le_of_ble_eq_true rfl) rfl ?_
 simp+decide only[st,xv,wK,ahk,Th.c,xr]
 generalize hX:aa.at _ _ _=X
 have oX:Old h X:=by rw[<-hX];exact(Old.refl h).at (Nat.le_refl _)
 have x0:cellsOf X h.next=some (x.c τ):=by rw[<-hX];exact av (by simp[aa.at];rfl)
 clear hX
 simp only[Th.c] at x0
 by_cases h2:x.bG=2
 ·have mm:=m.lo h2
  have hle: ¬x.n<=x.done:=by omega
  have w1:IntKind.wrap .i64 (x.n-x.done)=x.n-x.done:=bw (by omega) (by omega)
  have t1:(x.n-x.done).tmod 4=(x.n-x.done)%4:=Int.tmod_eq_emod_of_nonneg (by omega)
  have t2:(x.n-x.done).tdiv 4=(x.n-x.done)/4:=Int.tdiv_eq_ediv_of_nonneg (by omega)
  have w2:IntKind.wrap .i64 ((x.n-x.done)/4)=(x.n-x.done)/4:=bw (by omega) (by omega)
  have w3:IntKind.wrap .i64 ((x.n-x.done)/4+1)=(x.n-x.done)/4+1:=bw (by omega) (by omega)
  have w0:IntKind.wrap .i64 ((x.n-x.done)%4)=(x.n-x.done)%4:=bw (by omega) (by omega)
  have hq:ig x=if 0<(x.n-x.done)%4 then(x.n-x.done)/4+1 else(x.n-x.done)/4:=by unfold ig;rw[if_pos ⟨h2,mm.2.1⟩]
  rw[hq]
  by_cases h4:0<(x.n-x.done)%4
  ·rw[if_pos h4]
   simp+decide only[st,xv,wK,Kb,TP,TO,ahi,x0,h2,hle,w1,t1,t2,w0,w2,w3,h4]
   exact oX.get
  ·rw[if_neg h4]
   simp+decide only[st,xv,wK,Kb,TP,TO,ahh,x0,h2,hle,w1,t1,t2,w0,w2,h4]
   exact oX.get
 ·have hq:ig x=0:=by unfold ig;rw[if_neg (fun e=>h2 e.1)]
  rw[hq]
  simp+decide only[st,xv,wK,Kb,ahj,x0,h2]
  exact oX.get
theorem Cb (ok:ax P tb) {l:List Th} {τ:Nat->aH} {t:aH} (m: ∀x∈l,MV x) (hl:l.length<2^20):an P 15 [.vs (aS τ l) t] h (.int .i64 (ft l)) h:=by
 refine ok.keeps (rf:=uM) rfl (Nat.le_of_ble_eq_true rfl) rfl ?_
 simp+decide only[st,xv,uM,ail,aik,aij,gE]
 let I:Nat->Env->aa->Prop:=fun k ρ H=>Old h H/\ ∃i:Nat,l.length=i+k/\ρ 3= .int .i64 (ft (l.take i))/\ρ 6= .vs (aS τ l) t/\ρ 7= .int .i64 l.length/\ρ 8= .int .i64 i
 refine dn I ?_ l.length ⟨Old.refl h,0,by omega,rfl,rfl,rfl,rfl⟩
 rintro k ρ H ⟨ho,i,hik,r3,r6,r7,r8⟩
 by_cases hi:i<l.length
 ·have aB:(i:Int)<(l.length:Int):=by omega
  have bR:(0:Int)<=i:=by omega
  have gi:(aS τ l)[i]? =some (l[i].c τ):=CA hi
  have hw:=cT (show i<2^61 by omega)
  have mi:=m _ (List.getElem_mem hi)
  have ql:=Nj mi
  have qs:=CB (l:=l.take i) (fun x hx=>m x (List.mem_of_mem_take hx))
  rw[List.length_take] at qs
  have e:ft (l.take (i+1))=ft (l.take i)+ig l[i]:=by
   rw[List.take_succ_eq_append_getElem hi,ZI];simp[ft]
  have wq:IntKind.wrap .i64 (ft (l.take i)+ig l[i])=ft (l.take (i+1)):=by rw[e,bw]<;>omega
  have ll:(l[i].c τ).length=12:=rfl
  simp only[Th.c] at gi
  simp+decide only[st,xv,uM,Uw,aii,r6,r7,r8,aB,bR,gi,xr]
  generalize hX:aa.set _ _ _=X
  have oX:Old H X:=by rw[<-hX];exact((Old.refl H).at (Nat.le_refl _)).set (Nat.le_refl _)
  have x0:cellsOf X H.next=some (l[i].c τ):=by rw[<-hX];exact av (by simp[aa.set];rfl)
  clear hX
  simp only[Th.c] at x0
  simp+decide only[st,xv,uM,Uv,r3,x0]
  refine aq (aj9 ok (τ:=τ) mi) ?_
  simp+decide only[st,xv,uM,Uv,aih,r3,r8,wq,hw]
  exact⟨k-1,by omega,ho.trans oX,i+1,by omega,rfl,r6,r7,rfl⟩
 ·have aB: ¬(i:Int)<(l.length:Int):=by omega
  rw[List.take_of_length_le (by omega)] at r3
  simp+decide only[st,xv,uM,Uw,aif,r3,r7,r8,aB]
  exact ho.get
theorem Mv (ok:ax P tb) {l:List Th} {τ:Nat->aH} {t:aH} (hl:l.length<2^20):an P 17 [.vs (aS τ l) t] h (.bool (l.all fun x=>!decide (x.bG=2))) h:=by
 refine ok.keeps (rf:=uL) rfl (Nat.le_of_ble_eq_true rfl) rfl ?_
 simp+decide only[st,xv,uL,aib]
 let J:Nat->Env->aa->Prop:=fun m ρ H=>Old h H/\ ∃i:Nat,l.length=i+m/\(∀j (hj:j<l.length),j<i->l[j].bG≠2)/\ρ 0= .vs (aS τ l) t/\ρ 3= .int .i64 i
 refine lQ 0 rfl rfl J (fun l' ρ h hk=>hk) ?_ ?_
 ·simp+decide only[st,xv,uL,aia,j7,List.foldr]
  exact⟨l.length,Old.refl h,0,by omega,fun j _ hj=>by omega,rfl,rfl⟩
 rintro m ρ H ⟨ho,i,pT,hf,r0,r3⟩
 by_cases hi:i<l.length
 ·have aB: ¬(i:Int)=(l.length:Int):=by omega
  have bR:(0:Int)<=i:=by omega
  have gi:(aS τ l)[i]? =some (l[i].c τ):=CA hi
  have hw:=cT (show i<2^61 by omega)
  simp only[Th.c] at gi
  by_cases h2:l[i].bG=2
  ·have e:(l.all fun x=>!decide (x.bG=2))=false:=by
    rw[List.all_eq_false]
    exact⟨l[i],List.getElem_mem hi,by simp[h2]⟩
   rw[e]
   simp+decide only[st,xv,uL,Kk,Ur,ah8,r0,r3,gE,aB,bR,gi,h2]
   exact ho.get
  ·simp+decide only[st,xv,uL,Kk,Ur,ah7,r0,r3,gE,aB,bR,gi,h2,hw]
   refine⟨m-1,by omega,ho,i+1,by omega,fun j hj d7=>?_,r0,rfl⟩
   by_cases e:j=i
   ·subst e;exact h2
   ·exact hf j hj (by omega)
 ·have aB:(i:Int)=(l.length:Int):=by omega
  have e:(l.all fun x=>!decide (x.bG=2))=true:=by
   rw[List.all_eq_true]
   intro x hx
   obtain⟨j,hj,rfl⟩:=List.getElem_of_mem hx
   simp[hf j hj (by omega)]
  rw[e]
  simp+decide only[st,xv,uL,Kk,ah9,r0,r3,gE,aB]
  exact ho.get
def xq (d:Int):Th:=⟨⟨0,[]⟩,oz,0,2,0,0,d,9,false⟩
theorem ajE (ok:ax P tb):an P 4 [] h (.bool true) h:=by
 refine ok.keeps (rf:=c4) rfl (Nat.le_of_ble_eq_true rfl) rfl ?_
 have e0:AV.vs [] .full= .vs (aS (fun _=> .full) []) .full:=rfl
 simp+decide only[st,xv,c4,ajl,Fu]
 refine aq (Mv ok (l:=[]) (τ:=fun _=> .full) (t:= .full) (by decide)) ?_
 simp+decide only[st,xv,c4,Fu,List.all_nil,xr]
 refine aq (Mv ok (l:=[xq 0]) (τ:=fun _=> .full) (t:= .full) (by decide)) ?_
 rw[show([xq 0].all fun x=>!decide (x.bG=2))=false from rfl]
 simp+decide only[st,xv,c4,Fu,xr]
 refine aq (Cb ok (l:=[xq 4]) (τ:=fun _=> .full) (t:= .full) (fun x hx=>by rw[List.mem_singleton.1 hx];exact⟨fun _=>⟨by show(0:Int)<=4;decide,by show(4:Int)<9;decide,by show(9:Int)<=16;decide⟩⟩) (by decide)) ?_
 rw[show ft [xq 4]=2 by decide+kernel]
 simp+decide only[st,xv,c4,Fu,xr]
end
section
open Go
variable {P:Program} {h:aa} {ah:List Ob}
def NK (a:KA) (lb z:Nat):Prop:= ¬FK a z/\ ¬FA a lb z/\ ¬FS a z
theorem NK.to {a:KA} {lb aT m z:Nat} (k:NK a lb z) (hl:aT=lb\/m<=aT) (hz:z<m):NK a aT z:=by
 refine⟨k.1,?_,k.2.2⟩
 rintro(e|e|e)
 ·exact k.2.1 (.inl e)
 ·exact k.2.1 (.inr (.inl e))
 ·rcases hl with h|h
  ·exact k.2.1 (.inr (.inr (e.trans h)))
  ·omega
theorem uW {o:Ob}: ∀{l:List Ob},(ec l o).length<=l.length+1
 |[]=>by simp[ec]
 |x::l=>by
  have:=uW (o:=o) (l:=l)
  unfold ec
  split
  ·simp
  split
  ·simp
  ·simp;omega
theorem Y0 {o:Ob}: ∀{l:List Ob},l.Pairwise (·.id< ·.id)->(∃x∈l,x.id=o.id)->(ec l o).length=l.length
 |[],_,⟨x,hx,_⟩=>by cases hx
 |y::l,hs,⟨x,hx,he⟩=>by
  have h':=List.pairwise_cons.1 hs
  unfold ec
  rcases List.mem_cons.1 hx with rfl|hx
  ·rw[if_neg (by omega),if_pos he];simp
  ·have:=h'.1 x hx
   rw[if_neg (by omega),if_neg (by omega),List.length_cons,Y0 h'.2 ⟨x,hx,he⟩,List.length_cons]
theorem alf {l:Lb} {c:Cl} (ks:KS ah) (hr: ∃r,bK ah 1=some r):(nJ l ah c).2.2.length<=ah.length+1:=by
 unfold nJ
 split
 ·exact Nat.le_succ _
 split
 ·exact Nat.le_succ _
 rename_i hk
 have hm:=(mI hr (show(bS ah l c.id 1 (ey l)).2=0 by omega)).1
 generalize(bS ah l c.id 1 (ey l)).1=b at*
 unfold HI
 split
 ·exact Nat.le_succ _
 split
 ·exact Nat.le_succ _
 split
 ·exact Nat.le_succ _
 split
 ·exact Nat.le_succ _
 split
 ·exact Nat.le_succ _
 rename_i ha
 refine Nat.le_trans uW ?_
 suffices e:b.id=(mR b (cost (jL c (iu b.id b.next).1))).1.id by
  exact Nat.succ_le_succ (Nat.le_of_eq (Y0 ks.di ⟨b,hm,e⟩))
 generalize cost (jL c (iu b.id b.next).1)=w at*
 unfold mR at ha ⊢
 by_cases h1:w<0
 ·rw[if_pos h1] at ha;exact absurd (show(1:Nat)≠0 by decide) ha
 ·rw[if_neg h1] at ha ⊢
  by_cases h2:b.bf-b.used<w
  ·rw[if_pos h2] at ha;exact absurd (show(10:Nat)≠0 by decide) ha
  ·rw[if_neg h2]
theorem amk {t:Nat} {x:Th} {c:Cl} {done:Int} (ks:KS ah) (hr: ∃r,bK ah 1=some r):(jI t x ah c done).ah.length<=ah.length+1:=by
 have step: ∀{p:Prop} [Decidable p] {a b:Dr},(p->a.ah.length<=ah.length+1)->(¬p->b.ah.length<=ah.length+1)->(if p then a else b).ah.length<=ah.length+1:=fun{p} _ {a b} h1 h2=>by
  by_cases hp:p
  ·rw[if_pos hp];exact h1 hp
  ·rw[if_neg hp];exact h2 hp
 have same:ah.length<=ah.length+1:=Nat.le_succ _
 unfold jI
 refine step (fun _=>same) (fun _=>?_)
 unfold xd
 refine step (fun _=>same) (fun _=>?_)
 refine step (fun _=>same) (fun _=>?_)
 refine step (fun _=>alf ks hr) (fun _=>?_)
 refine step (fun _=>same) (fun _=>?_)
 refine step (fun _=>?_) (fun _=>?_)
 ·show(rW x.ak ah c).2.length<=_
  unfold rW
  split
  ·exact same
  split
  ·exact uW
  ·exact same
 refine step (fun _=>?_) (fun _=>?_)
 ·show(rY x.ak ah c).2.length<=_
  unfold rY
  split
  ·exact same
  split
  ·exact same
  split
  ·exact same
  ·refine Nat.le_trans uW ?_
   have:=List.length_filter_le (fun o=>!jW o.id c.id) ah
   unfold AW
   omega
 refine step (fun _=>same) (fun _=>?_)
 refine step (fun _=>?_) (fun _=>?_)
 ·show(sh x.ak ah c).2.length<=_
  unfold sh
  split
  ·exact same
  split
  ·exact same
  ·exact uW
 refine step (fun _=>?_) (fun _=>?_)
 ·show(ik x ah c).2.2.2.1.length<=_
  unfold ik
  split
  ·exact same
  split
  ·exact same
  ·exact uW
 refine step (fun _=>?_) (fun _=>?_)
 ·show(gw x ah c done).2.2.2.1.length<=_
  unfold gw
  split
  ·exact same
  split
  ·exact same
  split
  ·exact same
  ·unfold Bq
   simp only
   split
   ·exact uW
   ·exact uW
 refine step (fun _=>same) (fun _=>?_)
 refine step (fun _=>same) (fun _=>?_)
 refine step (fun _=>same) (fun _=>?_)
 exact same
theorem aoA {t:Int} {ai:List Th} {c:Cl} (ks:KS ah) (hr: ∃r,bK ah 1=some r):(ko t ai ah c).ah.length<=ah.length+1:=by
 unfold ko
 split
 ·exact Nat.le_succ _
 split
 ·exact Nat.le_succ _
 split
 ·exact amk ks hr
 ·exact Nat.le_succ _
theorem KL.pf {h':aa} {a:KA} {lb N M p:Nat} {ai:List Th} {ah:List Ob} (K:KL h a lb N M ai ah) (f:PF h h' p) (nk:NK a lb p):KL h' a lb N M ai ah:=
 ⟨K.k.bM f.1 (fun b hb hf=>f.2 b hb (fun e=>by
   subst e
   rcases hf with q|q|q
   ·exact nk.1 q
   ·exact nk.2.1 q
   ·exact nk.2.2 q)) (Nat.le_refl _) (Nat.le_refl _),K.inv⟩
theorem PK.kf {h':aa} {a:KA} {lb p n:Nat} {l:List UInt8} (K:PK h p l n) (f:KF h h' a lb) (nk:NK a lb p):PK h' p l n:=by
 obtain⟨t,g⟩:=K.get
 exact⟨Nat.lt_of_lt_of_le K.lt f.1,K.le,K.len,t,by rw[f.2 p K.lt nk.1 nk.2.1 nk.2.2,g]⟩
end
section
open Go
variable {P:Program} {h:aa}
theorem mu.cf {c:Cf} (h:iU c=true) (hl: ∀x∈c.bg,x.ok):mu (c.bg.map qN) [Am.root c.bf]:=by
 unfold iU at h
 simp only[Bool.and_eq_true,decide_eq_true_eq,List.all_eq_true] at h
 obtain⟨⟨⟨⟨⟨⟨h1,h2⟩,h3⟩,h4⟩,h5⟩,h6⟩,h7⟩:=h
 refine⟨⟨by simpa using h6,fun x hx=>?_⟩,⟨_,rfl⟩,fun o ho h1=>?_,fun x hx=>?_⟩
 ·obtain⟨y,hy,rfl⟩:=List.mem_map.1 hx
  refine⟨hl y hy,?_⟩
  have:=h7 y hy
  unfold dB at this
  simp only[Bool.and_eq_true,decide_eq_true_eq] at this
  exact this.1.2
 ·rw[List.mem_singleton.1 ho] at h1;exact absurd rfl h1
 ·obtain⟨y,hy,rfl⟩:=List.mem_map.1 hx
  exact⟨Int.le_refl _,(by decide:0<2^64),(by decide:0<2^64)⟩
theorem apB {a:KA} {lb N M:Nat} {ai:List Th} {ah:List Ob} (K:KL h a lb N M ai ah): ∀o∈ah,o.id<2^64:=fun o ho=>(K.k.ks.val o ho).ok.id
theorem asO {ah:List Ob} (h: ∃r,bK ah 1=some r):ah≠[]:=fun e=>by
 obtain⟨r,h⟩:=h
 rw[e] at h;cases h
structure Qs (h H:aa) (a:KA) (p:Nat) (l:List UInt8) (ai:List Th) (ah:List Ob) (n' B:Nat):Prop where
 k: ∃lb N M,KL H a lb N M ai ah/\NK a lb p/\N<=1+2*B/\M<=B
 pk:PK H p l n'
 mv: ∀x∈ai,MV x
 l1:1<=ai.length
 l4:ai.length<=4
 ob:ah≠[]
 len:ah.length<=10
 use:n'<l.length->7*(ah.length-1)<=n'
theorem axj (ok:ax P tb) {l:List UInt8} {t:aH}: ∃h',an P 3 [.vs (BS l) t] h (.bool true) h'/\True:=by
 refine ok.dz (rf:=c3) rfl (Nat.le_of_ble_eq_true rfl) ?_
 simp+decide only[st,xv,c3,ajp,Lm]
 refine aq (ajE ok) ?_
 by_cases h60:60<l.length
 ·have Vl:(60:Int)<(l.length:Int):=by omega
  simp+decide only[st,xv,c3,Lm,VI,ajo,b8,Vl]
  exact⟨rfl,trivial⟩
 have Vl: ¬(60:Int)<(l.length:Int):=by omega
 simp+decide only[st,xv,c3,Lm,VI,VH,b8,Vl]
 have made: ∃h',an P 5 [.vs (BS l) t] h (.ptr h.next 0) h'/\PK h' h.next l 0/\Old h h':=by
  refine ok.dz (rf:=c5) rfl (Nat.le_of_ble_eq_true rfl) ?_
  simp+decide only[st,xv,c5,ajk,ajj,xr]
  refine⟨rfl,⟨by simp[aa.at],Nat.zero_le _,by omega,t,by simp[aa.at]⟩,(Old.refl h).at (Nat.le_refl _)⟩
 obtain⟨h1,c1,K1,o1⟩:=made
 refine aq c1 ?_
 obtain⟨cf,h2,n2,c2,W6,cf2,K2⟩:=ajR ok K1
 simp+decide only[st,xv,c3,VH,Ll,Cf.c]
 refine aq c2 ?_
 have axC:1<=cf.bg.length/\cf.bg.length<=4:=by
  have h:=W6
  unfold iU at h
  simp only[Bool.and_eq_true,decide_eq_true_eq] at h
  exact⟨h.1.1.2,h.1.2⟩
 have rl: ∀r∈(cf.bg.map fun l=>l.c .ao),r.length=2:=fun r hr=>by
  obtain⟨x,_,rfl⟩:=List.mem_map.1 hr;rfl
 rcases akp ok (h:=h2) (c:=cf) (τ:= .ao) (w:= .vs (Ay.R cf.bg) .ao) (fun h' _=>i0.vsr rl) rfl rfl cf2 (by omega) with⟨e,_⟩|⟨_,a,lb,h3,dj,K,o3,kn,kt⟩
 ·rw[W6] at e;cases e
 simp+decide only[st,xv,c3,Ll,Cf.c]
 refine aq dj ?_
 have Bo:=K2.pk.lt
 have nk0:NK a lb h.next:=⟨fun e=>by rcases e with e|e;have:=kn.1;omega;omega,fun e=>by have:=kn.2.1 _ e;omega,fun e=>by have:=kn.2.2 _ e;omega⟩
 have KL0:KL h3 a lb 1 0 (cf.bg.map qN) [Am.root cf.bf]:=⟨K,mu.cf W6 cf2⟩
 simp+decide only[st,xv,c3,Ll,ajn,ajm,xr]
 have Q0:Qs h h3 a h.next l (cf.bg.map qN) [Am.root cf.bf] n2 0:=⟨⟨lb,1,0,KL0,nk0,by omega,by omega⟩,K2.pk.old o3,fun x hx=>by obtain⟨y,_,rfl⟩:=List.mem_map.1 hx;exact⟨fun e=>by cases e⟩,by simp;omega,by simp;omega,by simp,by simp,fun _=>by simp⟩
 generalize h.next=p at*
 generalize cf.bg.map qN=avK at*
 generalize [Am.root cf.bf]=avS at*
 clear K KL0 kn kt c1 c2 dj nk0 K1 K2
 let I:Nat->Env->aa->Prop:=fun m ρ H=> ∃i ai ah n',25=i+m/\Qs h H a p l ai ah n' i/\ρ 3= .ptr p 0/\ρ 4= .ptr a.kb 0/\ρ 6= .int .i64 i
 refine dn I ?_ 25 ⟨0,avK,avS,n2,rfl,Q0,rfl,rfl,rfl⟩
 clear Q0
 rintro m ρ H ⟨i,ai,ah,n',pT,Q,r3,r4,r6⟩
 simp+decide only[st,xv]
 generalize hK:iO 0 _=K0
 have fin: ∀(ρ:Env) (H:aa) (ai:List Th) (ah:List Ob) (n' i:Nat),i<=25->Qs h H a p l ai ah n' i->ρ 4= .ptr a.kb 0->K0 (.exit 0) ρ H:=by
  intro ρ H ai ah n' i hi Q r4
  rw[<-hK]
  obtain⟨⟨fw,N1,M1,K1,yF,L6,L7⟩,pk,mv,l1,l4,ob,len,use⟩:=id Q
  clear Q
  have E9: ∀{lb N M:Nat} {ai:List Th} {ah:List Ob} {H:aa},KL H a lb N M ai ah-> ∀x∈ai,x.ak.ps.length<2^20:=fun K x hx=>by have:=(K.inv.tv.ak x hx).2;omega
  have q0:=CB mv
  simp+decide only[st,xv,c3,TK,r4]
  refine aq (zx ok K1.k (by omega) (E9 K1)) ?_
  simp+decide only[st,xv]
  refine aq (Cb ok mv (by omega)) ?_
  simp+decide only[st,xv,c3,TK,ag1]
  obtain⟨nq,hnq⟩: ∃nq:Nat,ft ai=nq:=⟨(ft ai).toNat,by omega⟩
  rw[hnq]
  generalize L9:iO 2 _=K2
  have ai0: ∀(ρ:Env) (H:aa) (ai:List Th) (ah:List Ob) (lb N M:Nat),KL H a lb N M ai ah->(∀x∈ai,MV x)->ai.length<=4->ft ai=0->ρ 4= .ptr a.kb 0->K2 (.exit 2) ρ H:=by
   intro ρ H ai ah lb N M K mv l4 hq r4
   rw[<-L9]
   simp+decide only[st,xv,c3,agW,r4]
   refine aq (zx ok K.k (by omega) (E9 K)) ?_
   simp+decide only[st,xv]
   refine aq (Mv ok (by omega)) ?_
   have e:(ai.all fun x=>!decide (x.bG=2))=true:=by
    rw[List.all_eq_true]
    intro x hx
    simp[(M3 mv).1 hq x hx]
   rw[e]
   simp+decide only[st,xv,r4]
   refine aq (zx ok K.k (by omega) (E9 K)) ?_
   simp+decide only[st,xv]
   refine aq (Cb ok mv (by omega)) ?_
   rw[hq]
   simp+decide only[st,xv]
   exact⟨rfl,trivial⟩
  clear L9
  let J:Nat->Env->aa->Prop:=fun m ρ H=> ∃j ai ah lb N M,nq=j+m/\ft ai<=m/\KL H a lb N M ai ah/\N<=51+2*j/\M<=25+j/\(∀x∈ai,MV x)/\ai.length<=4/\ρ 4= .ptr a.kb 0/\ρ 8= .int .i64 nq/\ρ 9= .int .i64 j
  refine dn J ?_ nq ⟨0,ai,ah,fw,N1,M1,by omega,by omega,K1,by omega,by omega,mv,l4,r4,rfl,rfl⟩
  have axu:nq<=16:=by omega
  clear K1 mv pk l1 l4 ob len use r4 q0 hnq yF L6 L7
  rintro m ρ H ⟨j,ai,ah,lb,N,M,hjm,hqm,K,hN,hM,mv,l4,r4,r8,r9⟩
  have ql:=CB mv
  by_cases hj:j<nq
  ·have kW:(j:Int)<(nq:Int):=by omega
   have hw:=cT (show j<2^61 by omega)
   simp+decide only[st,xv,c3,TJ,TI,r4,r8,r9,kW]
   refine aq (zx ok K.k (by omega) (E9 K)) ?_
   simp+decide only[st,xv,c3,TI,ag0,agZ,xr]
   let I2:Nat->Env->aa->Prop:=fun k ρ G=>G=H/\ ∃(t:Nat) (at_:Int),ai.length=t+k/\((at_= -1/\ ∀i (hi:i<ai.length),i<t->ai[i].bG≠2)\/ ∃i:Nat,∃hi:i<ai.length,at_=i/\ai[i].bG=2)/\ρ 4= .ptr a.kb 0/\ρ 8= .int .i64 nq/\ρ 9= .int .i64 j/\ρ 10= .vs (aS aK ai) .ao/\ρ 11= .int .i64 at_/\ρ 12= .int .i64 t
   refine dn I2 ?_ ai.length ⟨rfl,0,-1,by omega, .inl ⟨rfl,fun i _ h=>by omega⟩,r4,r8,r9,rfl,rfl,rfl⟩
   clear r4 r8 r9
   rintro k ρ G ⟨rfl,t,at_,mZ,kB,r4,r8,r9,eV,eU,fX⟩
   by_cases ht:t<ai.length
   ·have uk:(t:Int)<(ai.length:Int):=by omega
    have Bs:(0:Int)<=t:=by omega
    have hwt:=cT (show t<2^61 by omega)
    have gi:(aS aK ai)[t]? =some (ai[t].c aK):=CA ht
    simp only[Th.c] at gi
    by_cases h2:ai[t].bG=2
    ·simp+decide only[st,xv,c3,ET,TH,agY,TG,eV,fX,gE,uk,Bs,gi,h2,hwt]
     exact⟨k-1,by omega,rfl,t+1,t,by omega, .inr ⟨t,ht,rfl,h2⟩,r4,r8,r9,eV,rfl,rfl⟩
    ·simp+decide only[st,xv,c3,ET,TH,TG,eV,fX,gE,uk,Bs,gi,h2,hwt]
     refine⟨k-1,by omega,rfl,t+1,at_,by omega,?_,r4,r8,r9,eV,eU,rfl⟩
     rcases kB with⟨e,q⟩|q
     ·refine .inl ⟨e,fun i hi hit=>?_⟩
      by_cases e2:i=t
      ·subst e2;exact h2
      ·exact q i hi (by omega)
     ·exact .inr q
   ·have uk: ¬(t:Int)<(ai.length:Int):=by omega
    rcases kB with⟨rfl,q⟩|⟨i,hi,rfl,h2⟩
    ·simp+decide only[st,xv,c3,ET,TF,eV,eU,fX,gE,uk]
     refine ai0 _ _ ai ah lb N M K mv l4 ((M3 mv).2 fun x hx=>?_) r4
     obtain⟨i,hi,rfl⟩:=List.getElem_of_mem hx
     exact q i hi (by omega)
    ·have bR: ¬(i:Int)<0:=by omega
     obtain⟨g1,g2,g3⟩:=apC (ah:=ah) hi mv h2
     obtain⟨h7,sY,Wh,N7,M7,K7,kf7,hl7,hN7,hM7⟩:=K.go ok (t:=(i:Int)) (by omega) (by omega)
     have wC:(jx (i:Int) ai ah).ai.length<2^20:=by rw[g2];omega
     have aC: ¬ft ai<=ft (jx (i:Int) ai ah).ai:=by omega
     simp+decide only[st,xv,c3,ET,TF,TE,r4,eV,eU,fX,gE,uk,bR]
     refine aq sY ?_
     simp+decide only[st,xv,c3,TE,TD,r4]
     refine aq (zx ok K7.k wC (E9 K7)) ?_
     simp+decide only[st,xv]
     refine aq (Cb ok g1 wC) ?_
     simp+decide only[st,xv,eV]
     refine aq (Cb ok mv (by omega)) ?_
     simp+decide only[st,xv,c3,TD,agX,r9,aC,hw]
     exact⟨m-1,by omega,j+1,_,_,Wh,N7,M7,by omega,by omega,K7,by omega,by omega,g1,by rw[g2];exact l4,r4,r8,rfl⟩
  ·have kW: ¬(j:Int)<(nq:Int):=by omega
   simp+decide only[st,xv,c3,TJ,r8,r9,kW]
   exact ai0 _ _ ai ah lb N M K mv l4 (by omega) r4
 clear hK
 obtain⟨⟨fw,N1,M1,K1,yF,L6,L7⟩,pk,mv,l1,l4,ob,len,use⟩:=id Q
 by_cases hi:i<25
 ·have aB:(i:Int)<25:=by omega
  have hw:=cT (show i<2^61 by omega)
  simp+decide only[st,xv,c3,EU,r3,r6,aB]
  refine aq (akY ok pk) ?_
  by_cases pQ:l.length<=n'
  ·rw[decide_eq_true pQ]
   simp+decide only[st,xv,c3,EU]
   exact fin _ _ ai ah n' i (by omega) Q r4
  ·rw[decide_eq_false pQ]
   have us:=use (by omega)
   have Lc: ∀x∈ai,x.ak.ps.length<2^20:=fun x hx=>by have:=(K1.inv.tv.ak x hx).2;omega
   simp+decide only[st,xv,c3,EU,J6,r3,r4]
   refine aq (zx ok K1.k (by omega) Lc) ?_
   obtain⟨r,h5,n5,c5,hr,K5⟩:=jm ok pk (m:=ai.length) (by omega) (by omega)
   have KP:=K1.pf K5.f yF
   simp+decide only[st,xv,c3,J6,gE]
   refine aq c5 ?_
   simp+decide only[st,xv,c3,J6,J5,r4]
   refine aq (MD ok KP.k (t:=(r:Int))) ?_
   cases hbz:si ai r with
   |true=>
    simp+decide only[st,xv,c3,J5,TL,r6,hw]
    refine⟨m-1,by omega,i+1,ai,ah,n5,by omega,⟨⟨fw,N1,M1,KP,yF,by omega,by omega⟩,K5.pk,mv,l1,l4,ob,len,fun h=>?_⟩,r3,r4,rfl⟩
    have:=K5.le
    omega
   |false=>
    obtain⟨cl,h6,n6,c6,P6,K6⟩:=alA ok K5.pk (ah:=ah) (t:= .ao) (apB KP) (by omega)
    have K6:=K6.less (show 6<=(if cl.op=3 then 10 else 6) by split<;>omega)
    have KQ:=KP.pf K6.f yF
    simp+decide only[st,xv,c3,J5,ag2,r3,r4]
    refine aq (anz ok KP.k ob (by omega)) ?_
    simp+decide only[st,xv,r3]
    refine aq c6 ?_
    obtain⟨h7,sY,Wh,N7,M7,K7,kf7,hl7,hN7,hM7⟩:=KQ.do ok (t:=(r:Int)) (c:=cl) (tl:=aK) P6.ok P6.new (by omega) (by omega) (fun _=>by omega)
    simp+decide only[st,xv,r4]
    refine aq sY ?_
    simp+decide only[st,xv,c3,TL,r6,hw]
    have Wc:=apE (t:=(r:Int)) (ah:=ah) mv P6.n
    have kl:=aoA (t:=(r:Int)) (ai:=ai) (c:=cl) KQ.k.ks KQ.inv.root
    have lo5:=K5.lo
    have lo6:=K6.lo
    have ne:=asO K7.inv.root
    refine⟨m-1,by omega,i+1,_,_,n6,by omega,⟨⟨Wh,N7,M7,K7,yF.to hl7 K6.pk.lt,by omega,by omega⟩,K6.pk.kf kf7 yF,Wc.1,by rw[Wc.2];exact l1,by rw[Wc.2];exact l4,ne,by omega,fun h=>by omega⟩,r3,r4,rfl⟩
 ·have aB: ¬(i:Int)<25:=by omega
  simp+decide only[st,xv,c3,EU,r6,aB]
  exact fin _ _ ai ah n' i (by omega) Q r4
end
end Go.Proofs.YtmffhohcjifllaaGreat.Am
