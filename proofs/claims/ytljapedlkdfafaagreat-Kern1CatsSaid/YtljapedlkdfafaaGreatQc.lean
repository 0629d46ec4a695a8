/- What the functions do. Conditions: none. -/
import Derived.Test.YtljapedlkdfafaaGreatQb
set_option maxRecDepth 100000
set_option maxHeartbeats 8000000
set_option linter.unusedSimpArgs false
set_option linter.unusedVariables false
set_option linter.unnecessarySimpa false
namespace Go.Proofs.YtljapedlkdfafaaGreat.Am
section
open Go
variable {ai:List Th} {ah:List Ob} {t:Nat}
theorem Yf {o:Ob} (hs:ah.Pairwise (·.id< ·.id)):o∈dp ah o:=by
 have:=nV (o:=o) (id:=o.id) hs
 rw[if_pos rfl] at this
 exact(lg this).1
theorem LB {o b:Ob} (hs:ah.Pairwise (·.id< ·.id)) (hb:b∈ah) (aM:b.id≠o.id):b∈dp ah o:=by
 have:=nV (o:=o) (id:=b.id) hs
 rw[if_neg aM,lj hs hb] at this
 exact(lg this).1
theorem Bw {o o0:Ob} (hs:ah.Pairwise (·.id< ·.id)) (T:Tree ah) (h0:o0∈ah) (e1:o.id=o0.id) (e2:o.kind=o0.kind) (e3:o0.next<=o.next):Tree (dp ah o):=by
 have key: ∀x:Ob,x.id≠1->(∃b∈ah,b.id=fM x.id/\b.kind=1/\((x.id%64:Nat):Int)<b.next)-> ∃b∈dp ah o,b.id=fM x.id/\b.kind=1/\((x.id%64:Nat):Int)<b.next:=by
  rintro x _ ⟨b,hb,b1,b2,b3⟩
  by_cases e:b.id=o.id
  ·have vA:b=o0:=by
    have f1:=lj hs hb
    have f2:=lj hs h0
    rw[e,e1,f2] at f1
    exact(Option.some.inj f1).symm
   subst vA
   exact⟨o,Yf hs,by rw[e1,b1],by rw[e2,b2],by omega⟩
  ·exact⟨b,LB hs hb e,b1,b2,b3⟩
 intro x hx h1
 rcases Bz hx with rfl|hx
 ·refine key _ h1 ?_
  rw[e1] at h1 ⊢
  exact T o0 h0 h1
 ·exact key _ h1 (T x hx h1)
theorem akX {o b:Ob} (hs:ah.Pairwise (·.id< ·.id)) (T:Tree ah) (hb:b∈ah) (hn:bg ah o.id=none) (b1:b.id=fM o.id) (b2:b.kind=1) (b3:((o.id%64:Nat):Int)<b.next):Tree (dp ah o):=by
 have aM: ∀x∈ah,x.id≠o.id:=fun x hx e=>by
  have:=lj hs hx
  rw[e,hn] at this
  cases this
 intro x hx h1
 rcases Bz hx with rfl|hx
 ·exact⟨b,LB hs hb (aM b hb),b1,b2,b3⟩
 ·obtain⟨b',bE,q⟩:=T x hx h1
  exact⟨b',LB hs bE (aM b' bE),q⟩
theorem aj5 {id:Nat} (hm:dw id=true) (h1:id≠1):fp id=fp (fM id)++[id]:=by
 unfold dw at hm
 cases hn:gu id with
 |none=>rw[hn] at hm;cases hm
 |some l=>
  have jb:=hn
  unfold gu at hn
  rw[gf] at hn
  rw[if_neg h1] at hn
  split at hn
  ·rename_i hc
   obtain⟨m,hm,rfl⟩:=Option.map_eq_some_iff.1 hn
   have hp:fM id=id/64:=by unfold fM kM;rw[jb];simp
   have UY:gu (id/64)=some m:=Gu hm (by have:=vQ hm;omega)
   unfold fp
   rw[hp,jb,UY]
   simp only[List.length_cons]
   rw[List.range_succ,List.map_append]
   congr 1
   ·refine List.map_congr_left fun j hj=>?_
    have jr:=List.mem_range.1 hj
    rw[Nat.div_div_eq_div_mul,<-Nat.pow_succ',show m.length+1-j=m.length-j+1 by omega]
   ·simp
  ·cases hn
theorem alj {id:Nat} (hm:dw id=true) (h1:id≠1):dw (fM id)=true/\fM id<id:=by
 unfold dw at hm
 cases hn:gu id with
 |none=>rw[hn] at hm;cases hm
 |some l=>
  have jb:=hn
  unfold gu at hn
  rw[gf] at hn
  rw[if_neg h1] at hn
  split at hn
  ·rename_i hc
   obtain⟨m,hm,rfl⟩:=Option.map_eq_some_iff.1 hn
   have hp:fM id=id/64:=by unfold fM kM;rw[jb];simp
   have UY:gu (id/64)=some m:=Gu hm (by have:=vQ hm;omega)
   rw[hp]
   exact⟨by unfold dw;rw[UY];rfl,by omega⟩
  ·cases hn
theorem alh {id:Nat} (hm:dw id=true): ∀x∈fp id,x<=id:=by
 intro x hx
 by_cases h1:id=1
 ·subst h1
  have e:fp 1=[1]:=by decide
  rw[e] at hx
  have:=List.mem_singleton.1 hx;omega
 ·obtain⟨ps,_,_,h3⟩:=We hm h1
  by_cases e:x=id
  ·omega
  ·have:=h3 x hx e;omega
theorem aij {id bK:Nat} (hm:dw id=true) (h1:id≠1) (hw:jR id bK=false):jR (fM id) bK=false:=by
 unfold jR at hw ⊢
 rw[aj5 hm h1] at hw
 rw[<-Bool.not_eq_true,List.contains_iff_mem] at hw ⊢
 exact fun hh=>hw (List.mem_append_left _ hh)
theorem ahN {bK:Nat} (hm:dw bK=true) (h1:bK≠1):jR (fM bK) bK=false:=by
 obtain⟨m1,m2⟩:=alj hm h1
 unfold jR
 rw[<-Bool.not_eq_true,List.contains_iff_mem]
 intro hh
 have:=alh m1 _ hh
 omega
theorem ald {bK:Nat} (hs:ah.Pairwise (·.id< ·.id)):(Ec bK ah).Pairwise (·.id< ·.id):=hs.sublist List.filter_sublist
theorem jd.dw {o:Ob} (v:jd o):dw o.id=true:=by
 have:=v.may
 unfold fC at this
 simp only[Bool.and_eq_true] at this
 exact this.1.1
theorem akW {bK:Nat} (ks:KS ah) (T:Tree ah):Tree (Ec bK ah):=by
 intro o ho h1
 obtain⟨hm,hw⟩:=List.mem_filter.1 ho
 obtain⟨b,hb,b1,b2⟩:=T o hm h1
 refine⟨b,List.mem_filter.2 ⟨hb,?_⟩,b1,b2⟩
 rw[b1]
 simpa using aij (ks.val o hm).dw h1 (by simpa using hw)
theorem aj3 {o:Ob} {c:Int}:(p6 o c).next=o.next:=by unfold p6;split<;>rfl
theorem YL {o:Ob} (ks:KS ah) (T:Tree ah) (ho:o∈ah) {d:List UInt8}:Tree (EX ah o d):=Bw ks.bY T ho rfl rfl (Int.le_refl _)
theorem ajh {x:Th} {c:Cl} {done:Int} (ks:KS ah) (hr: ∃r,bg ah 1=some r) (T:Tree ah):Tree (jW t x ah c done).ah:=by
 unfold jW
 by_cases o0:(c.op=2\/c.op=3)/\names c.ak=false
 ·rw[if_pos o0]
  exact T
 rw[if_neg o0]
 unfold wa
 by_cases o1:c.op=1
 ·rw[if_pos o1]
  exact T
 rw[if_neg o1]
 by_cases o2:c.op=2
 ·rw[if_pos o2]
  exact T
 rw[if_neg o2]
 by_cases o3:c.op=3
 ·rw[if_pos o3]
  show Tree (du x.ak ah c).2.2
  unfold du
  split
  ·exact T
  have dM:=mW (l:=x.ak) (id:=c.id) (kind:=1) (q:=dG x.ak) hr
  generalize bC ah x.ak c.id 1 (dG x.ak)=R at*
  obtain⟨o,e⟩:=R
  simp only at dM ⊢
  split
  ·exact T
  rename_i he
  obtain⟨c5,bc,_⟩:=dM (Classical.not_not.1 he)
  unfold GQ
  split
  ·exact T
  split
  ·exact T
  split
  ·exact T
  split
  ·exact T
  rename_i dL
  have dL:=Classical.not_not.1 dL
  split
  ·exact T
  rename_i qv
  have qv:=Classical.not_not.1 qv
  have gh:=XU ks T c5 dL
  obtain⟨n,e1,e2,e3,e4,e5,e6,e7,e8,e9⟩:=Mu dL
  have US: ∃u,(jm o (cost (d9 c (dR o.id o.next).1))).1={o with used:=u}:=by
   unfold jm at qv ⊢
   split
   ·rename_i h;rw[if_pos h] at qv;cases qv
   split
   ·rename_i h1 h;rw[if_neg h1,if_pos h] at qv;cases qv
   exact⟨_,rfl⟩
  obtain⟨u,hu⟩:=US
  rw[hu]
  have s1:=Gt (o:={o with used:=u,next:=o.next+1}) ks.bY
  have T1:=Bw (o:={o with used:=u,next:=o.next+1}) ks.bY T c5 rfl rfl (by show o.next<=o.next+1;omega)
  show Tree (dp (dp ah {o with used:=u,next:=o.next+1}) (d9 c (dR o.id o.next).1))
  refine akX s1 T1 (b:={o with used:=u,next:=o.next+1}) (Yf ks.bY) ?_ ?_ bc ?_
  ·rw[nV ks.bY]
   show(if(dR o.id o.next).1=o.id then _ else bg ah (dR o.id o.next).1)=none
   rw[if_neg (by omega),gh]
  ·show o.id=fM (dR o.id o.next).1
   rw[e5,e7]
  ·show(((dR o.id o.next).1%64:Nat):Int)<o.next+1
   rw[e5,e1];omega
 rw[if_neg o3]
 by_cases o4:c.op=4
 ·rw[if_pos o4]
  exact T
 rw[if_neg o4]
 by_cases o5:c.op=5
 ·rw[if_pos o5]
  show Tree (uo x.ak ah c).2
  unfold uo
  have dM:=mW (l:=x.ak) (id:=c.id) (kind:=2) (q:=fI x.ak) hr
  generalize bC ah x.ak c.id 2 (fI x.ak)=R at*
  obtain⟨o,e⟩:=R
  simp only at dM ⊢
  split
  ·exact T
  rename_i he
  obtain⟨c5,bc,_⟩:=dM (Classical.not_not.1 he)
  split
  ·exact YL ks T c5
  ·exact T
 rw[if_neg o5]
 by_cases o6:c.op=6
 ·rw[if_pos o6]
  show Tree (uq x.ak ah c).2
  unfold uq
  split
  ·exact T
  rename_i h1
  have Kt:=Xq (l:=x.ak) hr h1
  split
  ·exact T
  rename_i he
  obtain⟨_,b,hb,ew,mG⟩:=Kt (Classical.not_not.1 he)
  rw[hb,Option.getD_some]
  split
  ·exact T
  have pn:=lg hb
  refine Bw (o0:=b) (ald ks.bY) (akW ks T) (List.mem_filter.2 ⟨pn.1,?_⟩) L7.1 L7.2 (by rw[aj3];exact Int.le_refl _)
  rw[pn.2,ahN mG h1];rfl
 rw[if_neg o6]
 by_cases o7:c.op=7
 ·rw[if_pos o7]
  exact T
 rw[if_neg o7]
 by_cases o8:c.op=8
 ·rw[if_pos o8]
  show Tree (oH x.ak ah c).2
  unfold oH
  have dM:=mW (l:=x.ak) (id:=c.id) (kind:=4) (q:=dG x.ak) hr
  generalize bC ah x.ak c.id 4 (dG x.ak)=R at*
  obtain⟨o,e⟩:=R
  simp only at dM ⊢
  split
  ·exact T
  rename_i he
  obtain⟨c5,bc,_⟩:=dM (Classical.not_not.1 he)
  split
  ·exact T
  ·exact Bw ks.bY T c5 rfl rfl (Int.le_refl _)
 rw[if_neg o8]
 by_cases o9:c.op=9
 ·rw[if_pos o9]
  show Tree (f7 x ah c).2.2.2.1
  unfold f7
  have dM:=mW (l:=x.ak) (id:=c.id) (kind:=4) (q:=dG x.ak) hr
  generalize bC ah x.ak c.id 4 (dG x.ak)=R at*
  obtain⟨o,e⟩:=R
  simp only at dM ⊢
  split
  ·exact T
  rename_i he
  obtain⟨c5,bc,_⟩:=dM (Classical.not_not.1 he)
  split
  ·exact T
  ·exact Bw ks.bY T c5 rfl rfl (Int.le_refl _)
 rw[if_neg o9]
 by_cases ET:c.op=10
 ·rw[if_pos ET]
  show Tree (i0 x ah c done).2.2.2.1
  unfold i0
  have dM:=mW (l:=x.ak) (id:=c.to) (kind:=2) (q:=fI x.ak) hr
  generalize bC ah x.ak c.to 2 (fI x.ak)=R at*
  obtain⟨o,e⟩:=R
  simp only at dM ⊢
  split
  ·exact T
  split
  ·exact T
  rename_i he
  obtain⟨c5,bc,_⟩:=dM (Classical.not_not.1 he)
  split
  ·exact T
  unfold J9
  simp only
  split<;>exact YL ks T c5
 rw[if_neg ET]
 by_cases ES:c.op=11
 ·rw[if_pos ES]
  exact T
 rw[if_neg ES]
 by_cases EP:c.op=12
 ·rw[if_pos EP]
  exact T
 rw[if_neg EP]
 by_cases EO:c.op=13
 ·rw[if_pos EO]
  exact T
 rw[if_neg EO]
 exact T
theorem WW {x:Th} {cs:List Nat}:(gN x cs).2.own=x.own/\(gN x cs).2.id=x.id/\(gN x cs).2.to=x.to:=by unfold gN;split<;>exact⟨rfl,rfl,rfl⟩
theorem akf {x:Th} {c:Cl} {done:Int} (k:fO c) (ho:0<=x.own/\x.id<2^64/\x.to<2^64):0<=(jW t x ah c done).th.own/\(jW t x ah c done).th.id<2^64/\(jW t x ah c done).th.to<2^64:=by
 unfold jW
 by_cases o0:(c.op=2\/c.op=3)/\names c.ak=false
 ·rw[if_pos o0]
  exact ho
 rw[if_neg o0]
 unfold wa
 by_cases o1:c.op=1
 ·rw[if_pos o1]
  show 0<=(jn t x).2.2.own/\(jn t x).2.2.id<2^64/\(jn t x).2.2.to<2^64
  unfold jn
  split
  ·exact ho
  split
  ·exact ho
  ·obtain⟨e1,e2,e3⟩:=WW (x:=x) (cs:=[1000+16*t+x.own.toNat+1])
   refine⟨by show 0<=x.own+1;omega,?_,?_⟩
   ·show(gN x _).2.id<_;rw[e2];exact ho.2.1
   ·show(gN x _).2.to<_;rw[e3];exact ho.2.2
 rw[if_neg o1]
 by_cases o2:c.op=2
 ·rw[if_pos o2]
  show 0<=(pQ x c.ak).2.own/\(pQ x c.ak).2.id<2^64/\(pQ x c.ak).2.to<2^64
  unfold pQ
  split<;>exact ho
 rw[if_neg o2]
 by_cases o3:c.op=3
 ·rw[if_pos o3]
  exact ho
 rw[if_neg o3]
 by_cases o4:c.op=4
 ·rw[if_pos o4]
  exact ho
 rw[if_neg o4]
 by_cases o5:c.op=5
 ·rw[if_pos o5]
  exact ho
 rw[if_neg o5]
 by_cases o6:c.op=6
 ·rw[if_pos o6]
  exact ho
 rw[if_neg o6]
 by_cases o7:c.op=7
 ·rw[if_pos o7]
  show 0<=(qW x ah c).2.own/\(qW x ah c).2.id<2^64/\(qW x ah c).2.to<2^64
  unfold qW
  split
  ·exact ho
  ·obtain⟨e1,e2,e3⟩:=WW (x:=x) (cs:=(bC ah x.ak c.id 3 (fq x.ak)).1.bV)
   rw[e1,e2,e3];exact ho
 rw[if_neg o7]
 by_cases o8:c.op=8
 ·rw[if_pos o8]
  exact ho
 rw[if_neg o8]
 by_cases o9:c.op=9
 ·rw[if_pos o9]
  show 0<=(f7 x ah c).2.2.1.own/\(f7 x ah c).2.2.1.id<2^64/\(f7 x ah c).2.2.1.to<2^64
  unfold f7
  split
  ·exact ho
  split
  ·exact⟨ho.1,k.id,ho.2.2⟩
  ·exact ho
 rw[if_neg o9]
 by_cases ET:c.op=10
 ·rw[if_pos ET]
  show 0<=(i0 x ah c done).2.2.1.own/\(i0 x ah c done).2.2.1.id<2^64/\(i0 x ah c done).2.2.1.to<2^64
  unfold i0
  split
  ·exact ho
  split
  ·exact ho
  split
  ·exact ho
  unfold J9
  simp only
  split
  ·exact⟨ho.1,k.id,k.to⟩
  ·exact ho
 rw[if_neg ET]
 by_cases ES:c.op=11
 ·rw[if_pos ES]
  exact ho
 rw[if_neg ES]
 by_cases EP:c.op=12
 ·rw[if_pos EP]
  exact ho
 rw[if_neg EP]
 by_cases EO:c.op=13
 ·rw[if_pos EO]
  exact ho
 rw[if_neg EO]
 exact ho
end
section
open Go
variable {P:Program} {h:aa} {a:KA} {lb N M:Nat} {ai:List Th} {ah:List Ob}
structure KL (h:aa) (a:KA) (lb N M:Nat) (ai:List Th) (ah:List Ob):Prop where
 k:KH h a lb N M ai ah (eF ah)
 inv:nu ai ah
theorem KL.old (K:KL h a lb N M ai ah) {h':aa} (o:Old h h'):KL h' a lb N M ai ah:=⟨K.k.old o,K.inv⟩
def je (h:aa) (a:KA) (lb N M:Nat) (ai:List Th) (ah:List Ob) (h':aa):Prop:= ∃aT N' M',KL h' a aT N' M' ai ah/\KF h h' a lb/\(aT=lb\/h.next<=aT)/\N'<=N+2/\M'<=M+1
theorem Lr {t:Nat} {x:Th} {c:Cl} {done:Int} (I:nu ai ah) (k:fO c) (hx:0<=x.own/\x.id<2^64/\x.to<2^64): ∀y∈(kH t ai x ah c done).ai,0<=y.own/\y.id<2^64/\y.to<2^64:=by
 intro y hy
 rcases List.mem_or_eq_of_mem_set hy with hy|rfl
 ·exact I.own y hy
 ·exact akf k ⟨hx.1,(by decide:0<2^64),(by decide:0<2^64)⟩
theorem Wk {t:Nat} {x:Th} {c:Cl} {done:Int} (I:nu ai ah) (ks:KS ah):Tree (kH t ai x ah c done).ah:=ajh ks I.root I.tree
theorem amx {t:Int} {c:Cl} (I:nu ai ah) (ks:KS ah) (k:fO c) (tv:TV (eH t ai ah c).ai) (rt: ∃r,bg (eH t ai ah c).ah 1=some r):nu (eH t ai ah c).ai (eH t ai ah c).ah:=by
 refine⟨tv,rt,?_,?_⟩<;>clear tv rt<;>unfold eH
 ·split
  ·exact I.tree
  split
  ·exact I.tree
  split
  ·exact Wk I ks
  ·exact I.tree
 ·split
  ·exact I.own
  split
  ·exact I.own
  split
  ·rename_i x hx
   exact Lr I k (I.own x (List.mem_of_getElem? hx))
  ·exact I.own
theorem acP {x:Th} (hx:0<=x.own/\x.id<2^64/\x.to<2^64):fO {k8 with op:=9,id:=x.id}/\fO {k8 with op:=10,id:=x.id,to:=x.to,n:=x.n}:=⟨⟨sH,Nat.zero_le _,hx.2.1,(by decide:0<2^64),(by decide:0<2^20),(by decide:0<2^16),fun _ h=>by cases h⟩,⟨sH,Nat.zero_le _,hx.2.1,hx.2.2,(by decide:0<2^20),(by decide:0<2^16),fun _ h=>by cases h⟩⟩
theorem amv {t:Int} (I:nu ai ah) (ks:KS ah) (tv:TV (kp t ai ah).ai) (rt: ∃r,bg (kp t ai ah).ah 1=some r):nu (kp t ai ah).ai (kp t ai ah).ah:=by
 refine⟨tv,rt,?_,?_⟩<;>clear tv rt<;>unfold kp
 ·split
  ·exact I.tree
  split
  ·split<;>exact Wk I ks
  ·exact I.tree
 ·split
  ·exact I.own
  split
  ·rename_i x hx
   have ho:=I.own x (List.mem_of_getElem? hx)
   split
   ·exact Lr I (acP ho).1 ho
   ·exact Lr I (acP ho).2 ho
  ·exact I.own
theorem KL.do (ok:ax P tb) (K:KL h a lb N M ai ah) {t:Int} {c:Cl} {tl:Nat->aG} (k:fO c) (gh:c.op=3->ei c.ak=true/\jZ c.bV=true) (hN:N+1<2^19) (hM:M<128) (eE:c.op=6->ah.length<=12):
 ∃h',an P 14 [.ptr a.kb 0, .int .i64 t, .agg (c.c tl)] h (eH t ai ah c).v h'/\je h a lb N M (eH t ai ah c).ai (eH t ai ah c).ah h':=by
 obtain⟨h',hc,aT,N',M',K',kf,hl,Vh,Vj,tv,rt⟩:=akg ok K.k K.inv (t:=t) (tl:=tl) k gh hN hM eE
 exact⟨h',hc,aT,N',M',⟨K',amx K.inv K.k.ks k tv rt⟩,kf,hl,Vh,Vj⟩
theorem KL.go (ok:ax P tb) (K:KL h a lb N M ai ah) {t:Int} (hN:N+1<2^19) (hM:M<128):
 ∃h',an P 17 [.ptr a.kb 0, .int .i64 t] h (kp t ai ah).v h'/\je h a lb N M (kp t ai ah).ai (kp t ai ah).ah h':=by
 obtain⟨h',hc,aT,N',M',K',kf,hl,Vh,Vj,tv,rt⟩:=ake ok K.k K.inv (t:=t) hN hM
 exact⟨h',hc,aT,N',M',⟨K',amv K.inv K.k.ks tv rt⟩,kf,hl,Vh,Vj⟩
end
section
open Go
variable {P:Program} {h:aa} {a:KA} {lb N M:Nat} {ai:List Th} {ah:List Ob}
def aL:Lb:=⟨2,[]⟩
theorem FV (ok:ax P tb):an P 12 [] h (.agg (aL.c .ao)) h:=by
 refine ok.eW (rf:=FM) rfl (Nat.le_of_ble_eq_true rfl) rfl ?_
 simp+decide only[st,xv,FM,agB,agA,bG]
 refine⟨rfl,fun b hb=>?_⟩
 repeat rw[if_neg (by omega)]
theorem je.from {Y h':aa} (o:Old h Y) (e:je Y a lb N M ai ah h'):je h a lb N M ai ah h':=by
 obtain⟨aT,N',M',K,kf,hl,hN,hM⟩:=e
 refine⟨aT,N',M',K,(KF.old (lb:=lb) o).trans kf (.inl rfl),?_,hN,hM⟩
 rcases hl with e|e
 ·exact .inl e
 ·exact .inr (Nat.le_trans o.next e)
theorem je.to {h1 h':aa} (e:je h a lb N M ai ah h1) (o:Old h1 h'):je h a lb N M ai ah h':=by
 obtain⟨aT,N',M',K,kf,hl,hN,hM⟩:=e
 exact⟨aT,N',M',K.old o,kf.trans (KF.old (lb:=lb) o) (.inl rfl),hl,hN,hM⟩
def mB (r:Cr):Nat×Int:=if r.is then(r.r.ret,r.r.err) else(0,1)
theorem yI (ok:ax P tb) (K:KL h a lb N M ai ah) {t:Int} {c:Cl} {tl:Nat->aG} (k:fO c) (gh:c.op=3->ei c.ak=true/\jZ c.bV=true) (hN:N+1<2^19) (hM:M<128) (eE:c.op=6->ah.length<=12):
 ∃h',an P 10 [.ptr a.kb 0, .int .i64 t, .agg (c.c tl)] h (.ay [.int .u64 (mB (eH t ai ah c)).1, .int .i64 (mB (eH t ai ah c)).2]) h'/\je h a lb N M (eH t ai ah c).ai (eH t ai ah c).ah h':=by
 obtain⟨Q,hQ⟩: ∃Q:aa->Prop,∀h',Q h'↔je h a lb N M (eH t ai ah c).ai (eH t ai ah c).ah h':=⟨_,fun _=>Iff.rfl⟩
 suffices hu: ∃h',an P 10 [.ptr a.kb 0, .int .i64 t, .agg (c.c aK)] h (.ay [.int .u64 (mB (eH t ai ah c)).1, .int .i64 (mB (eH t ai ah c)).2]) h'/\Q h' by
  obtain⟨h',c1,hq⟩:=hu
  refine⟨h',an.ao ?_,(hQ h').1 hq⟩
  simp only[AV.bH,AV.strip,yM]
  exact c1
 refine ok.dI (rf:=mR) rfl (Nat.le_of_ble_eq_true rfl) ?_
 simp+decide only[st,xv,mR,agE,fi]
 generalize hY:aa.at _ _ _=Y
 have oY:Old h Y:=by rw[<-hY];exact(Old.refl h).at (Nat.le_refl _)
 have cY:cellsOf Y h.next=some (c.c aK):=by rw[<-hY];exact av (by simp[aa.at];try rfl)
 have nY:Y.next=h.next+1:=by rw[<-hY];simp[aa.at]
 simp only[fi] at cY
 simp+decide only[st,xv,mR,SX,cY]
 obtain⟨h1,hc,hE⟩:=(K.old oY).do ok (t:=t) (tl:=aK) k gh hN hM eE
 refine au hc ?_
 have hE:=hE.from oY
 generalize eH t ai ah c=D at*
 unfold mB
 simp+decide only[st,xv,mR,SX,Jq,Cr.v,Rp.c,xr]
 generalize hZ:aa.set _ _ _=Z
 have oZ:Old h1 Z:=by rw[<-hZ];exact((Old.refl h1).at (Nat.le_refl _)).set (Nat.le_refl _)
 have z1:cellsOf Z h1.next=some (D.r.c .ao):=by rw[<-hZ];exact av (by simp[aa.set];rfl)
 have nZ:Z.next=h1.next+1:=by rw[<-hZ];simp[aa.at,aa.set]
 simp only[Rp.c] at z1
 have l1:h1.next<Z.next:=by omega
 cases hi:D.is with
 |false=>
  simp+decide only[st,xv,mR,Jq,agD]
  exact⟨rfl,(hQ _).2 (hE.to oZ)⟩
 |true=>
  simp+decide only[st,xv,mR,Jq]
  refine bU 6 rfl rfl ?_
  simp+decide only[st,xv,mR,agC,z1,l1]
  exact⟨rfl,(hQ _).2 (hE.to (oZ.trans (Old.refl Z).clean))⟩
theorem uc:aL.ok:=⟨by decide,fun p hp=>(by cases hp),by decide⟩
theorem ik.vsr {h:aa} {rows:List (List AV)} {t:aG} {sz:Nat} (hs: ∀r∈rows,r.length=sz):ik h (.vs rows t) sz rows where
 len:=rfl
 get i hi:=by
  have hlen:(rows[i]).length=sz:=hs _ (List.getElem_mem hi)
  refine⟨.vp rows[i] 0,?_,?_⟩
  ·simp only[pL]
   rw[if_pos (by omega),Int.toNat_natCast,List.getElem?_eq_getElem hi]
   simp[hlen]
  ·simp only[j7,cut,if_true]
   rw[if_pos (by omega),List.drop_zero,List.take_of_length_le (by omega)]
theorem Ld (ok:ax P tb) {q:Int} {n:Nat} (h0:0<=q) (h1:q<=400) (pf:1<=n) (UU:n<=4): ∃a lb h',an P 9 [.int .i64 q, .int .i64 n] h (.ptr a.kb 0) h'/\KL h' a lb 1 0 (List.replicate n (dm aL)) [root q]/\Old h h'/\rM h.next a lb/\h.next<=a.tb:=by
 suffices key: ∃v h',an P 9 [.int .i64 q, .int .i64 n] h v h'/\ ∃a lb,v= .ptr a.kb 0/\KL h' a lb 1 0 (List.replicate n (dm aL)) [root q]/\Old h h'/\rM h.next a lb/\h.next<=a.tb by
  obtain⟨v,h',hc,a,lb,rfl,r⟩:=key
  exact⟨a,lb,h',hc,r⟩
 obtain⟨Q,hQ⟩: ∃Q:AV->aa->Prop,∀v h',Q v h'↔ ∃a lb,v= .ptr a.kb 0/\KL h' a lb 1 0 (List.replicate n (dm aL)) [root q]/\Old h h'/\rM h.next a lb/\h.next<=a.tb:=⟨_,fun _ _=>Iff.rfl⟩
 suffices key: ∃v h',an P 9 [.int .i64 q, .int .i64 n] h v h'/\Q v h' by
  obtain⟨v,h',hc,hq⟩:=key
  exact⟨v,h',hc,(hQ _ _).1 hq⟩
 refine ok.uv (rf:=c9) rfl (Nat.le_of_ble_eq_true rfl) ?_
 simp+decide only[st,xv,c9,ahe,ahd,ahc]
 generalize hX:aa.set _ _ _=X
 have xo:Old h X:=by rw[<-hX];exact((Old.refl h).at (Nat.le_refl _)).set (Nat.le_refl _)
 have x0:cellsOf X h.next=some [.int .i64 q, .int .i64 0, .vs [] .full]:=by rw[<-hX];exact av (by simp[aa.set])
 have xn:X.next=h.next+1:=by rw[<-hX];simp[aa.at,aa.set]
 have cl: ∀i,∀r∈(List.replicate i aL).map (fun l=>l.c .full),r.length=2:=fun i r hr=>by
  obtain⟨x,_,rfl⟩:=List.mem_map.1 hr;rfl
 have hd: ∀i,dH 2 ((List.replicate i aL).map (fun l=>l.c .full))=true:=fun i=>by cases i<;>rfl
 let I:Nat->Env->aa->Prop:=fun m ρ H=> ∃i v,n=i+m/\Old h H/\h.next<H.next/\App h H v ((List.replicate i aL).map (fun l=>l.c .full))/\cellsOf H h.next=some [.int .i64 q, .int .i64 0,v]/\ρ 1= .int .i64 n/\ρ 5= .ptr h.next 0/\ρ 6= .int .i64 i
 refine dO I ?_ n ⟨0,_,by omega,xo,by omega,App.nil h X,x0,rfl,rfl,rfl⟩
 rintro m ρ H ⟨i,v,xY,ho,qu,hg,hc,r1,r5,r6⟩
 by_cases hi:i<n
 ·have aA:(i:Int)<(n:Int):=by omega
  have hw:=dF (show i<2^61 by omega)
  simp+decide only[st,xv,c9,TL,TK,r1,r5,r6,aA,hc,xr]
  obtain⟨v',H',a1,a2,a3,a4,a5,a6,a7⟩:=hg.app ho (bytes:=32) (sz:=2) (id:=H.next) (by omega) [[AV.int IntKind.u8 2,AV.vs [] aG.full]] (hd i) (by simp;omega) (by simp;omega)
  have jM:H.get h.next=some (.cells [.int .i64 q, .int .i64 0,v]):=by
   revert hc;unfold cellsOf;split
   ·rename_i e;intro hh;cases hh;exact e
   ·intro hh;cases hh
  have nM:H'.get h.next=some (.cells [.int .i64 q, .int .i64 0,v]):=by rw[a6 _ (by omega) (by rw[jM];intro hh;cases hh),jM]
  have aU:=av nM
  have v1:v'.one=true/\v'.cells=[v']:=by obtain⟨t,rfl,_⟩:=a2;exact⟨rfl,rfl⟩
  simp+decide only[st,xv,c9,TK,ahb,a1,aU,v1.1,v1.2,r5,r6,hw,xr]
  refine⟨m-1,by omega,i+1,v',by omega,a3.set (Nat.le_refl _),by show h.next<H'.next;omega,?_,av (by simp[aa.set]),r1,r5,rfl⟩
  have e:(List.replicate (i+1) aL).map (fun l=>l.c .full)=(List.replicate i aL).map (fun l=>l.c .full)++[[AV.int IntKind.u8 2,AV.vs [] aG.full]]:=by
   rw[List.replicate_succ',List.map_append];rfl
  rw[e]
  exact a2.to (Nat.le_refl _) fun k _ _ hk=>by
   simp only[aa.set]
   rw[if_neg (fun e=>by subst e;rw[nM] at hk;cases hk)]
   exact hk
 ·have aA: ¬(i:Int)<(n:Int):=by omega
  have aB:i=n:=by omega
  subst aB
  simp+decide only[st,xv,c9,TL,TJ,r1,r5,r6,aA,hc]
  obtain⟨tt,rfl,_⟩:=hg
  have U7:jD ⟨q,0,List.replicate i aL⟩=true:=by
   unfold jD
   have e1:(List.replicate i aL).all ei=true:=by
    rw[List.all_eq_true];intro x hx;rw[(List.mem_replicate.1 hx).2];decide
   rw[e1]
   simp[h0,h1,pf,UU]
  rcases Wl ok (h:=H) (c:=⟨q,0,List.replicate i aL⟩) (τ:= .full) (w:= .vs ((List.replicate i aL).map (fun l=>l.c .full)) tt) (fun h' _=>ik.vsr (cl i)) rfl rfl (fun l hl=>by rw[(List.mem_replicate.1 hl).2];exact uc) (by simp;omega) with⟨e,_⟩|⟨_,a,lb,h',di,K,o,kn,kt⟩
  ·rw[U7] at e;cases e
  refine au di ?_
  simp+decide only[st,xv,c9,TJ,aha,xr,pF]
  rw[List.map_replicate] at K
  refine(hQ _ _).2 ⟨a,lb,rfl,⟨K,?_⟩,ho.trans o,⟨by have:=kn.1;omega,fun b hb=>by have:=kn.2.1 b hb;omega,fun b hb=>by have:=kn.2.2 b hb;omega⟩,by omega⟩
  refine⟨⟨by simpa using UU,fun x hx=>?_⟩,⟨_,rfl⟩,fun o ho h1=>?_,fun x hx=>?_⟩
  ·rw[(List.mem_replicate.1 hx).2];exact⟨uc,by decide⟩
  ·rw[List.mem_singleton.1 ho] at h1;exact absurd rfl h1
  ·rw[(List.mem_replicate.1 hx).2];exact⟨by decide,by decide,by decide⟩
end
section
open Go
variable {P:Program} {h:aa}
def bc1:Cl:={k8 with op:=3,kind:=2,id:=1,ak:=aL,data:=[7]}
def bc2:Cl:={k8 with op:=4,id:=65,n:=1}
def FO:List Ob:=[{root 40 with used:=2,next:=2},{bf with id:=65,kind:=2,ak:=aL,data:=[7]}]
theorem bd1:eH 0 [dm aL] [root 40] bc1=⟨⟨0,0,65,[]⟩,true,[dm aL],FO⟩:=by decide+kernel
theorem bd2:eH 0 [dm aL] FO bc2=⟨⟨0,0,0,[7]⟩,true,[dm aL],FO⟩:=by decide+kernel
theorem bd3:20<(G1 FO [dm aL]).length:=by decide+kernel
theorem bd4:kL [dm aL] 0=false:=by decide+kernel
theorem nu.one {n:Nat} {q:Int} (hn:n<=4):nu (List.replicate n (dm aL)) [Am.root q]:=by
 refine⟨⟨by simpa using hn,fun x hx=>?_⟩,⟨_,rfl⟩,fun o ho h1=>?_,fun x hx=>?_⟩
 ·rw[(List.mem_replicate.1 hx).2];exact⟨uc,by decide⟩
 ·rw[List.mem_singleton.1 ho] at h1;exact absurd rfl h1
 ·rw[(List.mem_replicate.1 hx).2];exact⟨by decide,by decide,by decide⟩
theorem K7 (ok:ax P tb):an P 8 [] h (.bool true) h:=by
 refine ok.keeps (rf:=c8) rfl (Nat.le_of_ble_eq_true rfl) rfl ?_
 simp+decide only[st,xv,c8,ahg,TP]
 rcases Wl ok (h:=h) (c:=⟨40,0,[aL]⟩) (τ:= .full) (w:= .vs ([aL].map (fun l=>l.c .full)) .full) (fun h' _=>ik.vsr (fun r hr=>by rw[List.mem_singleton.1 hr];rfl)) rfl rfl (fun l hl=>by rw[List.mem_singleton.1 hl];exact uc) (by decide) with⟨e,_⟩|⟨_,a,lb,h1,di,K,o,kn,kt⟩
 ·cases e
 refine au di ?_
 simp+decide only[st,xv,c8,TP,ahf,TO,xr]
 have K1:KL h1 a lb 1 0 [dm aL] [root 40]:=⟨K,nu.one (n:=1) (by decide)⟩
 obtain⟨h2,aU,lQ,N2,M2,K2,jH,eD,yc,yd⟩:=K1.do ok (t:=0) (c:=bc1) (tl:=fun _=> .full) ⟨uc,by decide,by decide,by decide,by decide,by decide,fun _ h=>by cases h⟩ (fun _=>by decide) (by decide) (by decide) (fun e=>by cases e)
 rw[bd1] at aU K2
 refine au aU ?_
 have o2:=jH.eZ o kn kt
 have kn2:=kn.to eD o.next
 simp+decide only[st,xv,c8,TO,Cr.v,Rp.c,xr]
 generalize hX:aa.set _ _ _=X
 have xo:Old h2 X:=by rw[<-hX];exact((Old.refl h2).at (Nat.le_refl _)).set (Nat.le_refl _)
 have x0:X.get h2.next=some (.cells [.int .i64 0, .int .i64 0, .int .u64 65, .vs (BS []) .ao]):=by rw[<-hX];simp[aa.set]
 have xn:X.next=h2.next+1:=by rw[<-hX];simp[aa.at,aa.set]
 simp+decide only[st,xv,c8,TN,xr]
 obtain⟨h3,dE,pc,N3,M3,K3,tq,rX,AP,AQ⟩:=(K2.old xo).do ok (t:=0) (c:=bc2) (tl:=fun _=> .full) ⟨sH,by decide,by decide,by decide,by decide,by decide,fun _ h=>by cases h⟩ (fun e=>by cases e) (by omega) (by omega) (fun e=>by cases e)
 rw[bd2] at dE K3
 refine au dE ?_
 have o3:=tq.eZ (o2.trans xo) kn2 kt
 have bt:=K2.k.bt
 have kx:h3.get h2.next=some (.cells [.int .i64 0, .int .i64 0, .int .u64 65, .vs (BS []) .ao]):=by
  rw[tq.2 _ (by omega) (fun e=>by have:=bt _ (.inl e);omega) (fun e=>by have:=bt _ (.inr (.inl e));omega) (fun e=>by have:=bt _ (.inr (.inr e));omega),x0]
 have nh:=tq.1
 simp+decide only[st,xv,c8,TN,Cr.v,Rp.c,xr]
 generalize hY:aa.set _ _ _=Y
 have yo:Old h3 Y:=by rw[<-hY];exact((Old.refl h3).at (Nat.le_refl _)).set (Nat.le_refl _)
 have y0:cellsOf Y h3.next=some [.int .i64 0, .int .i64 0, .int .u64 0, .vs (BS [7]) .ao]:=by rw[<-hY];exact av (by simp[aa.set])
 have y1:cellsOf Y h2.next=some [.int .i64 0, .int .i64 0, .int .u64 65, .vs (BS []) .ao]:=av (by rw[yo.get _ (by omega),kx])
 have KY:=K3.old yo
 simp+decide only[st,xv,c8,TM,y0,y1,cr]
 refine au (Yo ok KY.k (by decide) (by decide)) ?_
 simp+decide only[st,xv,c8,TM,F1]
 refine au (Xm ok KY.k (by decide) (fun x hx=>by rw[List.mem_singleton.1 hx];decide)) ?_
 simp+decide only[st,xv,List.length_cons,List.length_nil,iX]
 refine au (ahX ok KY.k (by decide) (by decide) KY.inv.tv) ?_
 have b3:(20:Int)<((G1 FO [dm aL]).length:Int):=by have:=bd3;omega
 simp+decide only[st,xv,cr,b3]
 refine au (Bj ok KY.k (t:=0)) ?_
 rw[bd4]
 simp+decide only[st,xv]
 exact(o3.trans yo).get
end
section
open Go
variable {P:Program} {h:aa}
def ec (t:Nat):Nat->Th
 |0=>dm aL
 |i+1=>(jn t (ec t i)).2.2
def Ae:Cl:={k8 with op:=1}
theorem amM: ∀t,t<2-> ∀i,i<17->(jn t (ec t i)).1=(if i<15 then 0 else 9)/\(jn t (ec t i)).2.1=(if i<15 then 1000+16*t+i+1 else 0)/\pY (ec t i)=ec t i:=by decide+kernel
theorem Mg: ∀t,t<2-> ∀i,i<18->(ec t i).own=min i 15/\(ec t i).dj=0:=by decide+kernel
theorem ZN {t i:Nat} {ai:List Th} {ah:List Ob} (ht:t<2) (hi:i<17) (hl:t<ai.length) (hx:ai[t]=ec t i):eH t ai ah Ae=⟨if i<15 then⟨t,0,1000+16*t+i+1,[]⟩ else⟨t,9,0,[]⟩,true,ai.set t (ec t (i+1)),ah⟩:=by
 obtain⟨e1,e2,e3⟩:=amM t ht i hi
 obtain⟨_,e4⟩:=Mg t ht i (by omega)
 have hk:lR ai t=true:=by unfold lR;simp;omega
 have hb:kL ai t=false:=by
  unfold kL
  rw[hk,Int.toNat_natCast,List.getElem?_eq_getElem hl,hx,Option.map_some,Option.getD_some,e4];rfl
 unfold eH
 rw[if_neg (by simp[hk]),if_neg (by simp[hb]),Int.toNat_natCast,List.getElem?_eq_getElem hl,hx]
 show kH t ai (ec t i) ah Ae 0=_
 unfold kH
 rw[e3]
 have hd:jW t (ec t i) ah Ae 0=⟨true,(jn t (ec t i)).1,(jn t (ec t i)).2.2,ah,(jn t (ec t i)).2.1,[]⟩:=rfl
 rw[hd]
 unfold told
 simp only[e1,e2]
 by_cases nP:i<15
 ·simp only[if_pos nP];rfl
 ·simp only[if_neg nP];rfl
theorem Y3:fO Ae:=⟨sH,Nat.zero_le _,(by decide:0<2^64),(by decide:0<2^64),(by decide:0<2^20),(by decide:0<2^16),fun _ h=>by cases h⟩
theorem avg (ok:ax P tb) {n m:Nat} (hn:n<256) (hm:m<256): ∃h',an P 3 [.int .u8 n, .int .u8 m] h (.bool true) h'/\True:=by
 refine ok.dI (rf:=c3) rfl (Nat.le_of_ble_eq_true rfl) ?_
 simp+decide only[st,xv,c3,ahv,TX]
 refine au (K7 ok) ?_
 simp+decide only[st,xv,c3,TX,TW]
 obtain⟨a,lb,h1,hc,K,o,kn,kt⟩:=Ld ok (h:=h) (q:=100) (n:=3) (by decide) (by decide) (by decide) (by decide)
 refine au hc ?_
 have wm: ∀k:Nat,k<256->IntKind.wrap .i64 ((k:Int).tmod 18)=((k%18:Nat):Int):=fun k hk=>by
  rw[show(k:Int).tmod 18=((k%18:Nat):Int) from(Int.ofNat_tmod k 18).symm]
  exact bu (by omega) (by omega)
 simp+decide only[st,xv,c3,TW,ahu,aht,ahs,wm n hn,wm m hm,xr]
 have hx:n%18<18:=Nat.mod_lt _ (by decide)
 have hy:m%18<18:=Nat.mod_lt _ (by decide)
 generalize n%18=x at*
 generalize m%18=y at*
 let S:Nat->Nat->Nat->aa->Prop:=fun k cx cy H=> ∃lb N M,KL H a lb N M [ec 0 cx,ec 1 cy,dm aL] [Am.root 100]/\N<=1+2*k/\M<=k
 let I:Nat->Env->aa->Prop:=fun q ρ H=> ∃i,18=i+q/\S (2*i) (min i x) (min i y) H/\ρ 5= .ptr a.kb 0/\ρ 6= .int .i64 x/\ρ 7= .int .i64 y/\ρ 8= .int .i64 ((i+1:Nat):Int)
 refine dO I ?_ 18 ⟨0,rfl,⟨lb,1,0,by rw[Nat.zero_min,Nat.zero_min];exact K,by omega,by omega⟩,rfl,rfl,rfl,rfl⟩
 rintro q ρ H ⟨i,hiq,⟨dB,N1,M1,K1,tN,tO⟩,r5,r6,r7,r8⟩
 simp+decide only[st,xv,c3,ahr,r6,r7,r8]
 by_cases hi:((i+1:Nat):Int)<=max (x:Int) (y:Int)
 ·simp+decide only[st,xv,c3,ahq,hi]
  have agZ:i<17:=by omega
  let J:Nat->Env->aa->Prop:=fun p ρ H=> ∃t,2=t+p/\S (2*i+t) (min (if 0<t then i+1 else i) x) (min (if 1<t then i+1 else i) y) H/\ρ 5= .ptr a.kb 0/\ρ 6= .int .i64 x/\ρ 7= .int .i64 y/\ρ 8= .int .i64 ((i+1:Nat):Int)/\ρ 9= .int .i64 t
  refine dO J ?_ 2 ⟨0,rfl,⟨dB,N1,M1,K1,by omega,by omega⟩,r5,r6,r7,r8,rfl⟩
  clear K1 tN tO r5 r6 r7 r8
  rintro p ρ H ⟨t,htp,⟨dB,N1,M1,K1,tN,tO⟩,r5,r6,r7,r8,r9⟩
  obtain rfl|rfl|rfl:t=0\/t=1\/t=2:=by omega
  ·by_cases kS:(x:Int)<((i+1:Nat):Int)
   ·simp+decide only[st,xv,c3,zV,D2,wV,r6,r7,r8,r9,kS]
    refine⟨p-1,by omega,1,by omega,⟨dB,N1,M1,?_,by omega,by omega⟩,r5,r6,r7,r8,rfl⟩
    show KL H a dB N1 M1 [ec 0 (min (i+1) x),ec 1 (min i y),dm aL] [Am.root 100]
    rw[show min (i+1) x=min i x by omega]
    exact K1
   ·simp+decide only[st,xv,c3,zV,D2,wW,r5,r6,r7,r8,r9,kS]
    have yv:KL H a dB N1 M1 [ec 0 i,ec 1 (min i y),dm aL] [Am.root 100]:=by
     have yv:KL H a dB N1 M1 [ec 0 (min i x),ec 1 (min i y),dm aL] [Am.root 100]:=K1
     rwa [show min i x=i by omega] at yv
    obtain⟨h2,aU,lQ,N2,M2,K2,jH,eD,yc,yd⟩:=yI ok yv (t:=0) (c:=Ae) (tl:=fun _=> .full) Y3 (fun e=>by cases e) (by omega) (by omega) (fun e=>by cases e)
    have hd:=ZN (t:=0) (i:=i) (ai:=[ec 0 i,ec 1 (min i y),dm aL]) (ah:=[Am.root 100]) (by decide) agZ (show 0<3 by decide) rfl
    rw[show((0:Nat):Int)=0 from rfl] at hd
    rw[hd] at aU K2
    refine au aU ?_
    have fin: ∃lb N M,KL h2 a lb N M [ec 0 (min (i+1) x),ec 1 (min i y),dm aL] [Am.root 100]/\N<=1+2*(2*i+1)/\M<=2*i+1:=by
     refine⟨lQ,N2,M2,?_,by omega,by omega⟩
     rw[show min (i+1) x=i+1 by omega]
     exact K2
    by_cases nP:i<15
    ·have yf: ¬(15:Int)<((i+1:Nat):Int):=by omega
     rw[if_pos nP]
     have a1:IntKind.wrap .i64 ((16:Int)*0)=16*0:=bu (by decide) (by decide)
     have a2:IntKind.wrap .i64 ((1000:Int)+16*0)=1000+16*0:=bu (by decide) (by decide)
     have a3:IntKind.wrap .i64 ((1000:Int)+16*0+((i+1:Nat):Int))=((1000+16*0+i+1:Nat):Int):=by
      rw[show(1000:Int)+16*0+((i+1:Nat):Int)=((1000+16*0+i+1:Nat):Int) by omega]
      exact bu (by omega) (by omega)
     have a4:IntKind.wrap .u64 ((1000+16*0+i+1:Nat):Int)=((1000+16*0+i+1:Nat):Int):=eQ (by omega)
     have ws:IntKind.wrap .u64 (IntKind.wrap .i64 (IntKind.wrap .i64 ((1000:Int)+IntKind.wrap .i64 (16*0))+((i+1:Nat):Int)))=((1000+16*0+i+1:Nat):Int):=by rw[a1,a2,a3,a4]
     simp+decide only[st,xv,c3,wW,D0,RZ,wV,mB,r8,r9,yf,ws,xr]
     exact⟨p-1,by omega,1,by omega,fin,r5,r6,r7,r8,rfl⟩
    ·have yf:(15:Int)<((i+1:Nat):Int):=by omega
     rw[if_neg nP]
     simp+decide only[st,xv,c3,wW,D0,R0,wV,mB,r8,r9,yf,xr]
     exact⟨p-1,by omega,1,by omega,fin,r5,r6,r7,r8,rfl⟩
  ·by_cases hy':(y:Int)<((i+1:Nat):Int)
   ·simp+decide only[st,xv,c3,zV,D2,wV,r6,r7,r8,r9,hy']
    refine⟨p-1,by omega,2,by omega,⟨dB,N1,M1,?_,by omega,by omega⟩,r5,r6,r7,r8,rfl⟩
    show KL H a dB N1 M1 [ec 0 (min (i+1) x),ec 1 (min (i+1) y),dm aL] [Am.root 100]
    rw[show min (i+1) y=min i y by omega]
    exact K1
   ·simp+decide only[st,xv,c3,zV,D2,wW,r5,r6,r7,r8,r9,hy']
    have yv:KL H a dB N1 M1 [ec 0 (min (i+1) x),ec 1 i,dm aL] [Am.root 100]:=by
     have yv:KL H a dB N1 M1 [ec 0 (min (i+1) x),ec 1 (min i y),dm aL] [Am.root 100]:=K1
     rwa [show min i y=i by omega] at yv
    obtain⟨h2,aU,lQ,N2,M2,K2,jH,eD,yc,yd⟩:=yI ok yv (t:=1) (c:=Ae) (tl:=fun _=> .full) Y3 (fun e=>by cases e) (by omega) (by omega) (fun e=>by cases e)
    have hd:=ZN (t:=1) (i:=i) (ai:=[ec 0 (min (i+1) x),ec 1 i,dm aL]) (ah:=[Am.root 100]) (by decide) agZ (show 1<3 by decide) rfl
    rw[show((1:Nat):Int)=1 from rfl] at hd
    rw[hd] at aU K2
    refine au aU ?_
    have fin: ∃lb N M,KL h2 a lb N M [ec 0 (min (i+1) x),ec 1 (min (i+1) y),dm aL] [Am.root 100]/\N<=1+2*(2*i+2)/\M<=2*i+2:=by
     refine⟨lQ,N2,M2,?_,by omega,by omega⟩
     rw[show min (i+1) y=i+1 by omega]
     exact K2
    by_cases nP:i<15
    ·have yf: ¬(15:Int)<((i+1:Nat):Int):=by omega
     rw[if_pos nP]
     have a1:IntKind.wrap .i64 ((16:Int)*1)=16*1:=bu (by decide) (by decide)
     have a2:IntKind.wrap .i64 ((1000:Int)+16*1)=1000+16*1:=bu (by decide) (by decide)
     have a3:IntKind.wrap .i64 ((1000:Int)+16*1+((i+1:Nat):Int))=((1000+16*1+i+1:Nat):Int):=by
      rw[show(1000:Int)+16*1+((i+1:Nat):Int)=((1000+16*1+i+1:Nat):Int) by omega]
      exact bu (by omega) (by omega)
     have a4:IntKind.wrap .u64 ((1000+16*1+i+1:Nat):Int)=((1000+16*1+i+1:Nat):Int):=eQ (by omega)
     have ws:IntKind.wrap .u64 (IntKind.wrap .i64 (IntKind.wrap .i64 ((1000:Int)+IntKind.wrap .i64 (16*1))+((i+1:Nat):Int)))=((1000+16*1+i+1:Nat):Int):=by rw[a1,a2,a3,a4]
     simp+decide only[st,xv,c3,wW,D0,RZ,wV,mB,r8,r9,yf,ws,xr]
     exact⟨p-1,by omega,2,by omega,fin,r5,r6,r7,r8,rfl⟩
    ·have yf:(15:Int)<((i+1:Nat):Int):=by omega
     rw[if_neg nP]
     simp+decide only[st,xv,c3,wW,D0,R0,wV,mB,r8,r9,yf,xr]
     exact⟨p-1,by omega,2,by omega,fin,r5,r6,r7,r8,rfl⟩
  ·have hw:=dF (show i+1<2^61 by omega)
   simp+decide only[st,xv,c3,zV,afl,r6,r7,r8,r9,hw]
   exact⟨q-1,by omega,i+1,by omega,⟨dB,N1,M1,K1,by omega,by omega⟩,r5,r6,r7,rfl⟩
 ·simp+decide only[st,xv,c3,RY,hi,r5]
  rw[show min i x=x by omega,show min i y=y by omega] at K1
  refine au (Xm ok K1.k (by show 3<2^20;decide) (fun z hz=>by have:=(K1.inv.tv.ak z hz).2;omega)) ?_
  have o0:(ec 0 x).own=min (x:Int) 15:=by rw[(Mg 0 (by decide) x hx).1];omega
  have o1:(ec 1 y).own=min (y:Int) 15:=by rw[(Mg 1 (by decide) y hy).1];omega
  have o2:(dm aL).own=0:=rfl
  have t1:Int.toNat 1=1:=rfl
  have t2:Int.toNat 2=2:=rfl
  simp+decide only[st,xv,c3,RY,afk,r6,r7,iX,aX,List.map_cons,List.map_nil,List.length_cons,List.length_nil,Th.c,o0,o1,o2,t1,t2,List.getElem?_cons_succ,List.getElem?_cons_zero,xr]
  exact⟨rfl,trivial⟩
end
section
open Go
variable {ah:List Ob} {ai:List Th} {r o:Ob} {l:Lb} {id:Nat}
theorem akh (h1:bg ah 1=some r) (hk:r.kind=1) (hs:fq l r.ak=true) (hp:fp id=[1,id]) (ho:bg ah id=some o):dv ah l id=(o,0):=by
 unfold dv
 rw[hp]
 show eK ah l ((bg ah 1).getD bf) [id]=_
 rw[h1,Option.getD_some]
 unfold eK
 rw[if_neg (fun h=>h hk),if_neg (by simp[hs])]
 rw[ho]
 rfl
theorem akc {q:Lb->Bool} {k:Int} (h1:bg ah 1=some r) (hk:r.kind=1) (hs:fq l r.ak=true) (hp:fp id=[1,id]) (ho:bg ah id=some o) (hq:q o.ak=true) (bc:o.kind=k):bC ah l id k q=(o,0):=by
 unfold bC
 rw[akh h1 hk hs hp ho]
 rw[if_neg (fun h=>h rfl),if_neg (fun h=>h bc),if_neg (by simp[hq])]
theorem Ur:fq aL aL=true:=by decide+kernel
theorem pp2:dG aL aL=true:=by decide+kernel
theorem LX {t:Nat} {c:Cl} {x:Th} (hl:t<ai.length) (hx:ai[t]=x) (hd:x.dj=0) (hk:pY x=x):eH t ai ah c=told t (jW t x ah c 0) ai:=by
 have h1:lR ai t=true:=by unfold lR;simp;omega
 have h2:kL ai t=false:=by
  unfold kL
  rw[h1,Int.toNat_natCast,List.getElem?_eq_getElem hl,hx,Option.map_some,Option.getD_some,hd];rfl
 unfold eH
 rw[if_neg (by simp[h1]),if_neg (by simp[h2]),Int.toNat_natCast,List.getElem?_eq_getElem hl,hx]
 show kH t ai x ah c 0=_
 unfold kH
 rw[hk]
theorem akd {t:Nat} {x:Th} (hl:t<ai.length) (hx:ai[t]=x) (hd:x.dj=1):kp t ai ah=kH t ai x ah {k8 with op:=9,id:=x.id} 0:=by
 have h1:lR ai t=true:=by unfold lR;simp;omega
 have h2:kL ai t=true:=by
  unfold kL
  rw[h1,Int.toNat_natCast,List.getElem?_eq_getElem hl,hx,Option.map_some,Option.getD_some,hd];rfl
 unfold kp
 rw[if_neg (by simp[h2]),Int.toNat_natCast,List.getElem?_eq_getElem hl,hx]
 show(if x.dj=1 then _ else _)=_
 rw[if_pos hd]
theorem LW {t:Nat} {x:Th} {c:Cl} {d:Int} (h: ¬((c.op=2\/c.op=3)/\names c.ak=false)):jW t x ah c d=wa t x ah c d:=if_neg h
theorem je.sU {h Y h1:aa} {a:KA} {lb N M:Nat} (o:Old h Y) (e:je Y a lb N M ai ah h1) (bt: ∀b,FK a b\/FA a lb b\/FS a b->b<h.next) {i:Nat} (hi:h.next<=i) (AH:i<Y.next) (b:Option cF):je h a lb N M ai ah (h1.set i b):=by
 obtain⟨dB,N1,M1,K,kf,hl,hN,hM⟩:=e
 have e2:ju Y a lb N M ai ah h1:=⟨dB,N1,M1,K.k,kf,hl,hN,hM,K.inv.tv,K.inv.root⟩
 obtain⟨lQ,N2,M2,K2,jH,eD,yc,yd,_⟩:=e2.sU o bt hi AH b
 exact⟨lQ,N2,M2,⟨K2,K.inv⟩,jH,eD,yc,yd⟩
end
section
open Go
variable {P:Program} {h:aa}
def eC:Th:=dm aL
def te:Th:={dm aL with dj:=1,id:=65}
def PD (R:List (List UInt8)):Ob:={bf with id:=65,kind:=4,ak:=aL,ring:=R}
def eT (R:List (List UInt8)):List Ob:=[{Am.root 100 with used:=8,next:=2},PD R]
def Td:Cl:={k8 with op:=3,kind:=4,id:=1,ak:=aL}
def lI:Cl:={k8 with op:=9,id:=65}
def p9 (b:List UInt8):Cl:={k8 with op:=8,id:=65,data:=b}
theorem amr:eH 0 [eC,eC] [Am.root 100] Td=⟨⟨0,0,65,[]⟩,true,[eC,eC],eT []⟩:=by decide+kernel
theorem alq:eH 1 [eC,eC] (eT []) lI=⟨lN,false,[eC,te],eT []⟩:=by decide+kernel
theorem anw:kp 1 [eC,te] (eT [])=⟨lN,false,[eC,te],eT []⟩:=by decide+kernel
theorem anz:kL [eC,eC] 1=false:=by decide+kernel
theorem anx:kL [eC,te] 1=true:=by decide+kernel
theorem Ym {R:List (List UInt8)}:bC (eT R) aL 65 4 (dG aL)=(PD R,0):=
 akc (r:={Am.root 100 with used:=8,next:=2}) rfl rfl Ur (by decide) rfl pp2 rfl
theorem Yl {y:Th} {b:List UInt8} (hb:b.length<=16):eH 0 [eC,y] (eT []) (p9 b)=⟨⟨0,0,0,[]⟩,true,[eC,y],eT [b]⟩:=by
 refine(LX (t:=0) (ai:=[eC,y]) (ah:=eT []) (c:=p9 b) (x:=eC) (Nat.zero_lt_succ _) rfl rfl rfl).trans ?_
 rw[LW (fun h=>by rcases h.1 with h|h<;>cases h)]
 have e:wa 0 eC (eT []) (p9 b) 0=⟨true,(oH aL (eT []) (p9 b)).1,eC,(oH aL (eT []) (p9 b)).2,0,[]⟩:=rfl
 have e2:oH aL (eT []) (p9 b)=(0,eT [b]):=by
  unfold oH
  show(if(bC (eT []) aL 65 4 (dG aL)).2≠0 then _ else _)=_
  rw[show(p9 b).id=65 from rfl,Ym]
  have e3:m7 (PD []).ring (p9 b).data=([b],0):=by
   show m7 [] b=_
   unfold m7
   rw[if_neg (by omega),if_neg (by decide)];rfl
  simp only[e3]
  rfl
 rw[e,e2];rfl
theorem alr {x:Th} {b:List UInt8} (hx:x.ak=aL):f7 x (eT [b]) lI=(true,0,x,eT [],b):=by
 unfold f7
 rw[hx,show lI.id=65 from rfl,Ym]
 rfl
theorem Yk {x:Th} {b:List UInt8} {d:Int} (hx:x.ak=aL):jW 1 x (eT [b]) lI d=⟨true,0,x,eT [],0,b⟩:=by
 rw[LW (by decide)]
 show(⟨(f7 x (eT [b]) lI).1,(f7 x (eT [b]) lI).2.1,(f7 x (eT [b]) lI).2.2.1,(f7 x (eT [b]) lI).2.2.2.1,0,(f7 x (eT [b]) lI).2.2.2.2⟩:Dr)=_
 rw[alr hx]
theorem amt {b:List UInt8}:eH 1 [eC,eC] (eT [b]) lI=⟨⟨1,0,0,b⟩,true,[eC,eC],eT []⟩:=by
 refine(LX (t:=1) (ai:=[eC,eC]) (ah:=eT [b]) (c:=lI) (x:=eC) (by decide) rfl rfl rfl).trans ?_
 rw[Yk rfl];rfl
theorem ams {b:List UInt8}:kp 1 [eC,te] (eT [b])=⟨⟨1,0,0,b⟩,true,[eC,eC],eT []⟩:=by
 refine(akd (t:=1) (ai:=[eC,te]) (ah:=eT [b]) (x:=te) (by decide) rfl rfl).trans ?_
 unfold kH
 rw[show pY te=eC from rfl]
 rw[show({k8 with op:=9,id:=te.id}:Cl)=lI from rfl,Yk rfl];rfl
theorem avc (ok:ax P tb) {l:List (List UInt8)} {tl:aG} {a8:Nat} (ha:a8<256): ∃h',an P 6 [.vs (aW.R l) tl, .int .u8 a8] h (.bool true) h'/\True:=by
 refine ok.dI (rf:=c6) rfl (Nat.le_of_ble_eq_true rfl) ?_
 simp+decide only[st,xv,c6,ahk,TS]
 refine au (K7 ok) ?_
 simp+decide only[st,xv,c6,TS,JT]
 obtain⟨a,lb,h1,hc,K,o,kn,kt⟩:=Ld ok (h:=h) (q:=100) (n:=2) (by decide) (by decide) (by decide) (by decide)
 refine au hc ?_
 by_cases h8:8<l.length
 ·have Vo:(8:Int)<(l.length:Int):=by omega
  simp+decide only[st,xv,c6,JT,TQ,ahj,ey.aR,Vo]
  exact⟨rfl,trivial⟩
 have Vo: ¬(8:Int)<(l.length:Int):=by omega
 simp+decide only[st,xv,c6,JT,TQ,JS,ey.aR,Vo]
 refine au (FV ok) ?_
 simp+decide only[st,xv,c6,JS,Lb.c,aL]
 obtain⟨h2,aU,lQ,N2,M2,K2,jH,eD,yc,yd⟩:=yI ok (t:=0) (c:=Td) (tl:=aS) K ⟨uc,by decide,by decide,by decide,by decide,by decide,fun _ h=>by cases h⟩ (fun _=>by decide) (by decide) (by decide) (fun e=>by cases e)
 rw[show eH 0 (List.replicate 2 (dm aL)) [Am.root 100] Td=_ from amr] at aU K2
 refine au aU ?_
 simp+decide only[st,xv,c6,JS,ahi,ahh,mB,xr]
 let S:Nat->List Th->List Ob->aa->Prop:=fun k ai ah H=> ∃lb N M,KL H a lb N M ai ah/\N<=10+2*k/\M<=10+k
 let I:Nat->Env->aa->Prop:=fun q ρ H=> ∃i,l.length=i+q/\S (5*i) [eC,eC] (eT []) H/\ρ 0= .vs (aW.R l) tl/\ρ 1= .int .u8 a8/\ρ 5= .ptr a.kb 0/\ρ 6= .int .u64 65/\ρ 8= .int .i64 i
 refine dO I ?_ l.length ⟨0,by omega,⟨lQ,N2,M2,K2,by omega,by omega⟩,rfl,rfl,rfl,rfl,rfl⟩
 clear K K2
 rintro q ρ H ⟨i,hiq,⟨dB,N1,M1,K1,tN,tO⟩,r0,r1,r5,r6,r8⟩
 by_cases hi:i<l.length
 case neg=>
  have aA: ¬(i:Int)<(l.length:Int):=by omega
  simp+decide only[st,xv,c6,IT,adM,r0,r8,ey.aR,aA]
  exact⟨rfl,trivial⟩
 have aA:(i:Int)<(l.length:Int):=by omega
 have g1:(aW.R l)[i]? =some [.vs (BS l[i]) .ao]:=aW.gL hi
 generalize l[i]=b at*
 by_cases Vr:16<b.length
 ·have xm:(16:Int)<(b.length:Int):=by omega
  simp+decide only[st,xv,c6,IT,QS,adR,r0,r8,ey.aR,cr,aA,g1,xm]
  exact⟨rfl,trivial⟩
 have xm: ¬(16:Int)<(b.length:Int):=by omega
 have hw:=dF (show i<2^61 by omega)
 have htm:(i:Int).tmod 8=((i%8:Nat):Int):=(Int.ofNat_tmod i 8).symm
 simp+decide only[st,xv,c6,IT,QS,adQ,r0,r1,r8,ey.aR,cr,aA,g1,xm,htm]
 generalize hρ:put _ _ _=ρ1
 obtain⟨w,r9⟩: ∃w,ρ1 9= .bool w:=⟨_,by rw[<-hρ];rfl⟩
 have r0:ρ1 0= .vs (aW.R l) tl:=by rw[<-hρ];exact r0
 have r1:ρ1 1= .int .u8 a8:=by rw[<-hρ];exact r1
 have r5:ρ1 5= .ptr a.kb 0:=by rw[<-hρ];exact r5
 have r6:ρ1 6= .int .u64 65:=by rw[<-hρ];exact r6
 have r8:ρ1 8= .int .i64 i:=by rw[<-hρ];exact r8
 clear hρ
 have cR:fO lI:=⟨sH,Nat.zero_le _,(by decide:65<2^64),(by decide:0<2^64),(by decide:0<2^20),(by decide:0<2^16),fun _ h=>by cases h⟩
 have cS:fO (p9 b):=⟨sH,Nat.zero_le _,(by decide:65<2^64),(by decide:0<2^64),(by show b.length<2^20;omega),(by decide:0<2^16),fun _ h=>by cases h⟩
 generalize hK:jU 1 _=K0
 have kn: ∀(ρ:Env) (H:aa),S (5*(i+1)) [eC,eC] (eT []) H->ρ 0= .vs (aW.R l) tl->ρ 1= .int .u8 a8->ρ 5= .ptr a.kb 0->ρ 6= .int .u64 65->ρ 8= .int .i64 i->K0 .normal ρ H:=by
  intro ρ H hs r0 r1 r5 r6 r8
  rw[<-hK]
  simp+decide only[st,xv,c6,adN,r8,hw]
  exact⟨q-1,by omega,i+1,by omega,hs,r0,r1,r5,r6,rfl⟩
 clear hK
 have fin: ∀(ρ:Env) (H:aa) (zb:Nat),S (5*(i+1)) [eC,eC] (eT []) H->zb<H.next->cellsOf H zb=some [.int .i64 1, .int .i64 0, .int .u64 0, .vs (BS b) .ao]->ρ 12= .ptr zb 0->ρ 13= .bool true->ρ 0= .vs (aW.R l) tl->ρ 1= .int .u8 a8->ρ 5= .ptr a.kb 0->ρ 6= .int .u64 65->ρ 8= .int .i64 i->WP P (.ba QI (List.replicate 27 [])) (jj (WP P (.cond (t 131) (.seq (.af adO) .ret) .skip) K0) K0) ρ H:=by
  rintro ρ H zb ⟨pc,N3,M3,K3,AP,AQ⟩ hz cz gS eG r0 r1 r5 r6 r8
  have hbe:cw false .neq (.str ⟨b.toArray⟩) (.str ⟨b.toArray⟩)=some (.bool false):=by rw[akJ];simp
  refine bU 27 rfl rfl ?_
  simp+decide only[st,xv,c6,QI,r0,r5,r8,gS,eG,hz,cz,aA,g1,oq,YI,hbe]
  refine eX (Bj ok (K3.k.old (Old.refl H).clean) (t:=1)) (cN (Nat.le_refl _)) ?_
  rw[anz]
  simp+decide only[st,xv]
  exact kn _ _ ⟨pc,N3,M3,K3.old (Old.refl H).clean,AP,AQ⟩ r0 r1 r5 r6 r8
 cases w with
 |true=>
  simp+decide only[st,xv,c6,QR,QQ,r5,r6,r9,xr]
  obtain⟨h2,aU,lQ,N2,M2,K2,jH,eD,yc,yd⟩:=K1.do ok (t:=1) (c:=lI) (tl:=fun _=> .full) cR (fun e=>by cases e) (by omega) (by omega) (fun e=>by cases e)
  rw[alq] at aU K2
  refine au aU ?_
  simp+decide only[st,xv,c6,QQ,Cr.v,Rp.c,lN,xr]
  generalize hX:aa.set _ _ _=X
  have oX:Old h2 X:=by rw[<-hX];exact((Old.refl h2).at (Nat.le_refl _)).set (Nat.le_refl _)
  have KX2:=K2.old oX
  simp+decide only[st,xv,c6,QP,r5,xr]
  refine au (Bj ok KX2.k (t:=1)) ?_
  rw[anx]
  simp+decide only[st,xv,c6,QP,QO,r5,xr]
  obtain⟨h5,tK,lb5,N5,M5,K5,kf5,UZ,hN5,hM5⟩:=KX2.go ok (t:=1) (by omega) (by omega)
  rw[anw] at tK K5
  refine au tK ?_
  simp+decide only[st,xv,c6,QO,adP,Dv,Cr.v,Rp.c,lN,r0,r5,r6,r8,aA,g1,xr]
  obtain⟨h3,dE,pc,N3,M3,K3,tq,rX,AP,AQ⟩:=yI ok (t:=0) (c:=p9 b) (tl:=fun i=>if i=4 then .ao else .full) K5 cS (fun e=>by cases e) (by omega) (by omega) (fun e=>by cases e)
  rw[Yl (by omega)] at dE K3
  refine au dE ?_
  simp+decide only[st,xv,c6,Dv,QN,QM,mB,xr]
  generalize hZ:aa.set _ _ _=Z
  have oZ:Old h3 Z:=by rw[<-hZ];exact((Old.refl h3).at (Nat.le_refl _)).set (Nat.le_refl _)
  have gz:Z.get h3.next=some (.cells [.int .i64 0, .int .i64 0, .int .u64 0, .vs [] .full]):=by rw[<-hZ];simp[aa.set]
  have nZ:Z.next=h3.next+1:=by rw[<-hZ];simp[aa.at,aa.set]
  simp+decide only[st,xv,c6,QL,QK,r5,r6,r9,xr]
  obtain⟨h4,yb,UB,N4,M4,K4,xN,U0,Vg,Vi⟩:=(K3.old oZ).go ok (t:=1) (by omega) (by omega)
  rw[ams] at yb K4
  refine au yb ?_
  have bt:=K3.k.bt
  have hn:=xN.1
  have z4:cellsOf h4 h3.next=some [.int .i64 0, .int .i64 0, .int .u64 0, .vs [] .full]:=by
   refine av ?_
   rw[xN.2 _ (by omega) (fun e=>by have:=bt _ (.inl e);omega) (fun e=>by have:=bt _ (.inr (.inl e));omega) (fun e=>by have:=bt _ (.inr (.inr e));omega),gz]
  simp+decide only[st,xv,c6,QK,Cr.v,Rp.c,z4,xr]
  obtain⟨lb6,N6,M6,K6,kf6,hl6,hN6,hM6⟩:=je.sU oZ (⟨UB,N4,M4,K4,xN,U0,Vg,Vi⟩:je Z a pc N3 M3 _ _ h4) bt (i:=h3.next) (Nat.le_refl _) (by omega) (some (.cells [.int .i64 1, .int .i64 0, .int .u64 0, .vs (BS b) .ao]))
  exact fin _ _ h3.next ⟨lb6,N6,M6,K6,by omega,by omega⟩ (by show h3.next<h4.next;omega) (av (by simp[aa.set])) rfl rfl r0 r1 r5 r6 r8
 |false=>
  simp+decide only[st,xv,c6,QR,Dv,r0,r5,r6,r8,r9,aA,g1,xr]
  obtain⟨h3,dE,pc,N3,M3,K3,tq,rX,AP,AQ⟩:=yI ok (t:=0) (c:=p9 b) (tl:=fun i=>if i=4 then .ao else .full) K1 cS (fun e=>by cases e) (by omega) (by omega) (fun e=>by cases e)
  rw[Yl (by omega)] at dE K3
  refine au dE ?_
  simp+decide only[st,xv,c6,Dv,QN,QM,mB,xr]
  generalize hZ:aa.set _ _ _=Z
  have oZ:Old h3 Z:=by rw[<-hZ];exact((Old.refl h3).at (Nat.le_refl _)).set (Nat.le_refl _)
  have z1:cellsOf Z h3.next=some [.int .i64 0, .int .i64 0, .int .u64 0, .vs [] .full]:=by rw[<-hZ];exact av (by simp[aa.set])
  have gz:Z.get h3.next=some (.cells [.int .i64 0, .int .i64 0, .int .u64 0, .vs [] .full]):=by rw[<-hZ];simp[aa.set]
  have nZ:Z.next=h3.next+1:=by rw[<-hZ];simp[aa.at,aa.set]
  simp+decide only[st,xv,c6,QL,QJ,r5,r6,r9,xr]
  obtain⟨h4,yb,UB,N4,M4,K4,xN,U0,Vg,Vi⟩:=(K3.old oZ).do ok (t:=1) (c:=lI) (tl:=fun _=> .full) cR (fun e=>by cases e) (by omega) (by omega) (fun e=>by cases e)
  rw[amt] at yb K4
  refine au yb ?_
  have bt:=K3.k.bt
  have hn:=xN.1
  have z4:cellsOf h4 h3.next=some [.int .i64 0, .int .i64 0, .int .u64 0, .vs [] .full]:=by
   refine av ?_
   rw[xN.2 _ (by omega) (fun e=>by have:=bt _ (.inl e);omega) (fun e=>by have:=bt _ (.inr (.inl e));omega) (fun e=>by have:=bt _ (.inr (.inr e));omega),gz]
  simp+decide only[st,xv,c6,QJ,Cr.v,Rp.c,z4,xr]
  obtain⟨lb5,N5,M5,K5,kf5,UZ,hN5,hM5⟩:=je.sU oZ (⟨UB,N4,M4,K4,xN,U0,Vg,Vi⟩:je Z a pc N3 M3 _ _ h4) bt (i:=h3.next) (Nat.le_refl _) (by omega) (some (.cells [.int .i64 1, .int .i64 0, .int .u64 0, .vs (BS b) .ao]))
  exact fin _ _ h3.next ⟨lb5,N5,M5,K5,by omega,by omega⟩ (by show h3.next<h4.next;omega) (av (by simp[aa.set])) rfl rfl r0 r1 r5 r6 r8
end
section
open Go
variable {ah:List Ob} {b:Ob} {c:Cl} {id:Nat}
def EJ (ah:List Ob) (id:Nat):Prop:= ∃x,bg ah id=some x/\x.kind=1/\x.ak=aL
theorem Wi (hb:bg ah id=some b): ∀{ps:List Nat} {o:Ob},o.kind=1->o.ak=aL->(∀p∈ps,EJ ah p)->eK ah aL o (ps++[id])=(b,0)
 |[],o,hk,hl,_=>by
  show eK ah aL o [id]=_
  unfold eK
  rw[if_neg (fun h=>h hk),if_neg (by rw[hl,Ur];simp),hb]
  rfl
 |p::ps,o,hk,hl,hp=>by
  obtain⟨x,hx,k,l⟩:=hp p List.mem_cons_self
  rw[List.cons_append]
  unfold eK
  rw[if_neg (fun h=>h hk),if_neg (by rw[hl,Ur];simp),hx]
  exact Wi hb k l fun q hq=>hp q (List.mem_cons_of_mem _ hq)
theorem Wj {ps:List Nat} (hp:fp id=1::(ps++[id])) (h1:EJ ah 1) (nF: ∀p∈ps,EJ ah p) (hb:bg ah id=some b):dv ah aL id=(b,0):=by
 obtain⟨r,hr,k,l⟩:=h1
 unfold dv
 rw[hp]
 show eK ah aL ((bg ah 1).getD bf) (ps++[id])=_
 rw[hr,Option.getD_some]
 exact Wi hb k l nF
theorem Xn (hc:dv ah aL id=(b,0)) (hk:b.kind=1) (hl:b.ak=aL):bC ah aL id 1 (dG aL)=(b,0):=by
 unfold bC
 rw[hc]
 rw[if_neg (fun h=>h rfl),if_neg (fun h=>h hk),if_neg (by simp only[hl,pp2];simp)]
theorem EW:pP aL aL=0:=by decide+kernel
theorem Uy:names aL=true:=by decide+kernel
theorem YX (h3:c.op=3) (hl:names c.ak=true):eH 0 [dm aL] ah c=⟨if(du aL ah c).1≠0 then⟨0,(du aL ah c).1,0,[]⟩ else⟨0,0,(du aL ah c).2.1,[]⟩,true,[dm aL],(du aL ah c).2.2⟩:=by
 refine(LX (t:=0) (ai:=[dm aL]) (ah:=ah) (c:=c) (x:=dm aL) (by decide) rfl rfl rfl).trans ?_
 rw[LW (fun h=>by rw[hl] at h;cases h.2)]
 unfold wa
 rw[if_neg (by omega),if_neg (by omega),if_pos h3]
 rfl
theorem amu (h3:c.op=3) (hl:names c.ak=true):mB (eH 0 [dm aL] ah c)=(if(du aL ah c).1≠0 then 0 else(du aL ah c).2.1,((du aL ah c).1:Int)):=by
 rw[YX h3 hl]
 unfold mB
 by_cases h:(du aL ah c).1≠0
 ·simp only[if_pos h,if_true]
 ·simp only[if_neg h,if_true]
  rw[show(du aL ah c).1=0 by omega];rfl
theorem Gk (hk:bC ah aL c.id 1 (dG aL)=(b,0)) (h1:1<=c.kind) (h4:c.kind<=4) (hf:kK aL c=0) (hm:pP aL c.ak=0) (hw: ∀i,0<=cost (d9 c i)):du aL ah c=if 63<b.next then(9,0,ah) else if(dR b.id b.next).2≠0 then((dR b.id b.next).2,0,ah) else if b.bh-b.used<cost (d9 c (dR b.id b.next).1) then(10,0,ah) else(0,(dR b.id b.next).1,dp (dp ah {b with used:=b.used+cost (d9 c (dR b.id b.next).1),next:=b.next+1}) (d9 c (dR b.id b.next).1)):=by
 unfold du
 rw[if_neg (by omega),hk]
 rw[if_neg (fun h=>h rfl)]
 unfold GQ
 rw[if_neg (fun h=>h hm),if_neg (fun h=>h hf)]
 by_cases a1:63<b.next
 ·rw[if_pos a1,if_pos a1]
 rw[if_neg a1,if_neg a1]
 by_cases a2:(dR b.id b.next).2≠0
 ·rw[if_pos a2,if_pos a2]
 rw[if_neg a2,if_neg a2]
 have:=hw (dR b.id b.next).1
 generalize cost (d9 c (dR b.id b.next).1)=w at*
 show(if(jm b w).2≠0 then((jm b w).2,0,ah) else(0,(dR b.id b.next).1,dp (dp ah {(jm b w).1 with next:=b.next+1}) (d9 c (dR b.id b.next).1)))=_
 by_cases a4:b.bh-b.used<w
 ·rw[if_pos a4,show jm b w=(bf,10) by unfold jm;rw[if_neg (by omega),if_pos a4]]
  rfl
 ·rw[if_neg a4,show jm b w=({b with used:=b.used+w},0) by unfold jm;rw[if_neg (by omega),if_neg a4]]
  rfl
theorem Xp {i:Nat} (hk:bC ah aL c.id 1 (dG aL)=(b,0)) (h1:1<=c.kind) (h4:c.kind<=4) (hf:kK aL c=0) (hm:pP aL c.ak=0) (hw: ∀i,0<=cost (d9 c i)) (hx: ¬63<b.next) (hn:dR b.id b.next=(i,0)) (hq: ¬b.bh-b.used<cost (d9 c i)):du aL ah c=(0,i,dp (dp ah {b with used:=b.used+cost (d9 c i),next:=b.next+1}) (d9 c i)):=by
 have e:=Gk hk h1 h4 hf hm hw
 rw[if_neg hx,hn,if_neg (fun h=>h rfl),if_neg hq] at e
 exact e
theorem Gj {o:Ob} {x:Nat} {u w:Int} (bY:ah.Pairwise (·.id< ·.id)):bg (dp (dp ah {b with used:=u,next:=w}) o) x=if x=o.id then some o else if x=b.id then some {b with used:=u,next:=w} else bg ah x:=by
 rw[nV (Gt bY),nV bY]
theorem je.free {h h':aa} {a:KA} {lb N M:Nat} {ai:List Th} {n i:Nat} (e:je (h.clean n) a lb N M ai ah h') (bt: ∀b,FK a b\/FA a lb b\/FS a b->b<h.next):dP n h.next i h':=by
 obtain⟨aT,N',M',K,kf,_⟩:=e
 intro j _ hj
 rw[kf.2 _ (by show _<h.next+n;omega) (fun e=>by have:=bt _ (.inl e);omega) (fun e=>by have:=bt _ (.inr (.inl e));omega) (fun e=>by have:=bt _ (.inr (.inr e));omega)]
 simp only[aa.clean]
 rw[if_neg (by omega)]
theorem Uz:ei aL=true:=by decide+kernel
theorem Lq {P:Program} {h:aa} {a:KA} {lb N M:Nat} {tl:Nat->aG} (ok:ax P tb) (K:KL h a lb N M [dm aL] ah) (k:fO c) (h3:c.op=3) (hl:ei c.ak=true/\names c.ak=true) (hc:c.bV=[]) (hN:N+1<2^19) (hM:M<128):
 ∃h',an P 10 [.ptr a.kb 0, .int .i64 0, .agg (c.c tl)] h (.ay [.int .u64 ((if(du aL ah c).1≠0 then 0 else(du aL ah c).2.1:Nat):Int), .int .i64 ((du aL ah c).1:Int)]) h'/\je h a lb N M [dm aL] (du aL ah c).2.2 h':=by
 obtain⟨h',c1,e⟩:=yI ok K (t:=0) (c:=c) (tl:=tl) k (fun _=>⟨hl.1,by rw[hc];rfl⟩) hN hM (fun e=>by rw[h3] at e;cases e)
 rw[amu h3 hl.2] at c1
 rw[YX h3 hl.2] at e
 exact⟨h',c1,e⟩
end
section
open Go
variable {P:Program} {h:aa} {ah:List Ob}
structure Bx (q s i:Nat) (ah:List Ob):Prop where
 rt: ∃r,bg ah 1=some r/\r.kind=1/\r.ak=aL/\r.id=1/\r.bh=400/\r.used=1+q/\r.next=2
 bx: ∃b,bg ah 65=some b/\b.kind=1/\b.ak=aL/\b.id=65/\b.bh=q/\b.used=i*(1+s)/\b.next=i+1
def iC (id:Nat) (n:Int):Cl:={k8 with op:=3,kind:=1,id:=id,ak:=aL,n:=n}
def jz (s:Nat):Cl:={k8 with op:=3,kind:=2,id:=65,ak:=aL,data:=List.replicate s 0}
theorem akC {q:Nat} (hq:q<256):(du aL [Am.root 400] (iC 1 q)).1=0/\(du aL [Am.root 400] (iC 1 q)).2.1=65/\ ∀s,Bx q s 0 (du aL [Am.root 400] (iC 1 q)).2.2:=by
 have hk:bC [Am.root 400] aL 1 1 (dG aL)=(Am.root 400,0):=by decide+kernel
 have hc: ∀i,cost (d9 (iC 1 q) i)=1+(q:Int):=fun i=>rfl
 have e:=Gk (c:=iC 1 q) (b:=Am.root 400) (ah:=[Am.root 400]) hk (by show(1:Int)<=1;decide) (by show(1:Int)<=4;decide) (by unfold kK;rw[if_neg (by show¬((1:Int)=1/\ ¬(0<=(q:Int)/\(q:Int)<=400));omega),if_neg (fun h=>by cases h.1),if_neg (fun h=>by cases h.1)]) EW (fun i=>by rw[hc];omega)
 rw[if_neg (by decide),show dR (Am.root 400).id (Am.root 400).next=(65,0) by decide+kernel] at e
 rw[if_neg (fun h=>h rfl),if_neg (by rw[hc];show¬((400:Int)-0<1+q);omega)] at e
 rw[e]
 refine⟨rfl,rfl,fun s=>⟨⟨_,rfl,rfl,rfl,rfl,rfl,?_,rfl⟩,⟨_,rfl,rfl,rfl,rfl,rfl,?_,rfl⟩⟩⟩
 ·show(0:Int)+cost (d9 (iC 1 q) 65)=1+q
  rw[hc];omega
 ·show(0:Int)=((0:Nat):Int)*(1+s)
  omega
theorem am3 {q s i:Nat} (B:Bx q s i ah) (bY:ah.Pairwise (·.id< ·.id)) (hs:s<=64):
 (63<=i->(du aL ah (jz s)).1=9)/\(i<63->q<i*(1+s)+1+s->(du aL ah (jz s)).1=10)/\(i<63-> ¬q<i*(1+s)+1+s->(du aL ah (jz s)).1=0/\(du aL ah (jz s)).2.1=65*64+i+1/\Bx q s (i+1) (du aL ah (jz s)).2.2)/\((du aL ah (jz s)).1≠0->(du aL ah (jz s)).2.2=ah):=by
 obtain⟨⟨r,r1,r2,r3,r4,r5,r6,r7⟩,⟨b,b1,b2,b3,b4,b5,b6,b7⟩⟩:=B
 have hk:bC ah aL (jz s).id 1 (dG aL)=(b,0):=Xn (Wj (ps:=[]) (show fp 65=[1,65] by decide+kernel) ⟨r,r1,r2,r3⟩ (fun _ h=>by cases h) b1) b2 b3
 have hc: ∀i,cost (d9 (jz s) i)=1+(s:Int):=fun i=>by
  show(1:Int)+((List.replicate s (0:UInt8)).length:Nat)=_
  rw[List.length_replicate]
 have f1:(1:Int)<=(jz s).kind:=by show(1:Int)<=2;decide
 have f4:(jz s).kind<=4:=by show(2:Int)<=4;decide
 have ff:kK aL (jz s)=0:=by unfold kK;rw[if_neg (fun h=>by cases h.1),if_neg (by show¬((2:Int)=2/\64<(List.replicate s (0:UInt8)).length);rw[List.length_replicate];omega),if_neg (fun h=>by cases h.1)]
 have fw: ∀i,0<=cost (d9 (jz s) i):=fun i=>by rw[hc];omega
 have e:=Gk hk f1 f4 ff EW fw
 by_cases vE:63<=i
 ·rw[if_pos (by omega)] at e
  rw[e]
  exact⟨fun _=>rfl,fun h=>by omega,fun h=>by omega,fun _=>rfl⟩
 have hx: ¬63<b.next:=by omega
 have hn:dR b.id b.next=(65*64+i+1,0):=by
  rw[b4,b7]
  unfold dR
  rw[if_neg (by rw[show dw 65=true by decide+kernel];simp;omega),if_neg (by decide+kernel)]
  rw[show((i:Int)+1).toNat=i+1 by omega];rfl
 have hm:((i:Int)*(1+(s:Int)))=((i*(1+s):Nat):Int):=by simp
 by_cases hq:q<i*(1+s)+1+s
 ·rw[if_neg hx,hn,if_neg (fun h=>h rfl),if_pos (by rw[hc,b5,b6];omega)] at e
  rw[e]
  exact⟨fun _=>by omega,fun _ _=>rfl,fun _ h=>absurd hq h,fun _=>rfl⟩
 ·have e:=Xp hk f1 f4 ff EW fw hx hn (by rw[hc,b5,b6];omega)
  rw[e]
  refine⟨fun _=>by omega,fun _ h=>absurd h hq,fun _ _=>⟨rfl,rfl,?_⟩,fun h=>absurd rfl h⟩
  have ko:(d9 (jz s) (65*64+i+1)).id=65*64+i+1:=rfl
  refine⟨⟨r,?_,r2,r3,r4,r5,r6,r7⟩,⟨{b with used:=b.used+cost (d9 (jz s) (65*64+i+1)),next:=b.next+1},?_,b2,b3,b4,b5,?_,?_⟩⟩
  ·rw[Gj bY,ko,b4,if_neg (by omega),if_neg (by decide),r1]
  ·rw[Gj bY,ko,b4,if_neg (by omega),if_pos rfl]
  ·show b.used+cost (d9 (jz s) (65*64+i+1))=((i+1:Nat):Int)*(1+s)
   rw[show((i+1:Nat):Int)*(1+(s:Int))=(((i+1)*(1+s):Nat):Int) by simp,Nat.add_mul,hc,b6];omega
  ·show b.next+1=((i+1:Nat):Int)+1
   omega
def bK:Nat->Nat
 |0=>1
 |1=>66
 |i+2=>bK (i+1)*64+1
theorem YC: ∀i,i<7->fp (bK i)=(List.range (i+1)).map bK/\dw (bK i)=true/\kM (bK i)=i/\bK i<2^64/\ ∀j,j<=i->bK j≠bK (i+1):=by decide+kernel
structure Dx (i:Nat) (ah:List Ob):Prop where
 up: ∀j,j<i->EJ ah (bK j)
 at_: ∃x,bg ah (bK i)=some x/\x.kind=1/\x.ak=aL/\x.id=bK i/\x.next=(if i=0 then 2 else 1)/\101-10*(i:Int)<=x.bh-x.used
theorem Bx.dx {q s i:Nat} (B:Bx q s i ah) (hq:q<256):Dx 0 ah:=by
 obtain⟨⟨r,r1,r2,r3,r4,r5,r6,r7⟩,_⟩:=B
 exact⟨fun j hj=>by omega,r,r1,r2,r3,r4,r7,by omega⟩
theorem alZ {i:Nat} (D:Dx i ah) (bY:ah.Pairwise (·.id< ·.id)) (hi:i<7):
 (i=6->(du aL ah (iC (bK i) (100-10*(i:Int)))).1=13)/\(i<6->(du aL ah (iC (bK i) (100-10*(i:Int)))).1=0/\(du aL ah (iC (bK i) (100-10*(i:Int)))).2.1=bK (i+1)/\Dx (i+1) (du aL ah (iC (bK i) (100-10*(i:Int)))).2.2):=by
 obtain⟨up,x,x1,x2,x3,x4,x5,x6⟩:=D
 obtain⟨p1,p2,p3,_,p4⟩:=YC i hi
 have hk:bC ah aL (iC (bK i) (100-10*(i:Int))).id 1 (dG aL)=(x,0):=by
  refine Xn ?_ x2 x3
  cases i with
  |zero=>
   show dv ah aL 1=_
   unfold dv
   rw[show fp 1=[1] by decide+kernel]
   show eK ah aL ((bg ah 1).getD bf) []=_
   rw[show bg ah 1=some x from x1]
   rfl
  |succ i=>
   refine Wj (ps:=(List.range i).map fun j=>bK (j+1)) ?_ (up 0 (by omega)) (fun p hp=>?_) x1
   ·show fp (bK (i+1))=1::((List.range i).map (fun j=>bK (j+1))++[bK (i+1)])
    rw[p1,List.range_succ,List.map_append,List.range_succ_eq_map,List.map_cons,List.map_map];rfl
   ·obtain⟨j,hj,rfl⟩:=List.mem_map.1 hp
    have:=List.mem_range.1 hj
    exact up (j+1) (by omega)
 have hc: ∀k,cost (d9 (iC (bK i) (100-10*(i:Int))) k)=1+(100-10*(i:Int)):=fun k=>rfl
 have f1:(1:Int)<=(iC (bK i) (100-10*(i:Int))).kind:=by show(1:Int)<=1;decide
 have f4:(iC (bK i) (100-10*(i:Int))).kind<=4:=by show(1:Int)<=4;decide
 have ff:kK aL (iC (bK i) (100-10*(i:Int)))=0:=by unfold kK;rw[if_neg (by show¬((1:Int)=1/\ ¬(0<=(100-10*(i:Int))/\(100-10*(i:Int))<=400));omega),if_neg (fun h=>by cases h.1),if_neg (fun h=>by cases h.1)]
 have fw: ∀k,0<=cost (d9 (iC (bK i) (100-10*(i:Int))) k):=fun k=>by rw[hc];omega
 have hx: ¬63<x.next:=by rw[x5];split<;>omega
 constructor
 ·intro h6
  have e:=Gk hk f1 f4 ff EW fw
  rw[if_neg hx,show dR x.id x.next=(0,13) by rw[x4,x5,h6];decide+kernel] at e
  rw[if_pos (fun h=>by cases h)] at e
  rw[e]
 ·intro h6
  have hn:dR x.id x.next=(bK (i+1),0):=by
   have: ∀i,i<6->dR (bK i) (if i=0 then 2 else 1)=(bK (i+1),0):=by decide+kernel
   rw[x4,x5]
   exact this i h6
  have e:=Xp hk f1 f4 ff EW fw hx hn (by rw[hc];omega)
  rw[e]
  have ko:(d9 (iC (bK i) (100-10*(i:Int))) (bK (i+1))).id=bK (i+1):=rfl
  refine⟨rfl,rfl,?_,?_⟩
  ·intro j hj
   have se:=p4 j (by omega)
   unfold EJ
   rw[Gj bY,ko,if_neg se]
   by_cases sd:bK j=x.id
   ·rw[if_pos sd]
    exact⟨_,rfl,x2,x3⟩
   ·rw[if_neg sd]
    by_cases eu:j<i
    ·exact up j eu
    ·rw[show j=i by omega] at sd
     exact absurd x4.symm sd
  ·refine⟨d9 (iC (bK i) (100-10*(i:Int))) (bK (i+1)),?_,rfl,rfl,rfl,?_,?_⟩
   ·rw[Gj bY,ko,if_pos rfl]
   ·rw[if_neg (by omega)];rfl
   ·show 101-10*((i+1:Nat):Int)<=(100-10*(i:Int))-0
    omega
theorem Zn {id:Nat} {n:Int} (h:id<2^64):fO (iC id n):=⟨uc,(by decide:0<=16),h,(by decide:0<2^64),(by decide:0<2^20),(by decide:0<2^16),fun _ h=>by cases h⟩
theorem amf {s:Nat} (h:s<=64):fO (jz s):=⟨uc,(by decide:0<=16),(by decide:65<2^64),(by decide:0<2^64),(by show(List.replicate s (0:UInt8)).length<_;rw[List.length_replicate];omega),(by decide:0<2^16),fun _ h=>by cases h⟩
theorem ann {s:Nat}:List.replicate s [AV.int .u8 0]=BS (List.replicate s 0):=by unfold BS;rw[List.map_replicate];rfl
theorem mkl {s:Nat} (h:s<2^40):ll 1 (.int .i64 s) (.int .i64 s)=some s:=by
 show(if 0<=(s:Int)/\(s:Int)=s/\(s:Int)<2^40/\((1:Nat):Int)*s<=2^40 then some (s:Int).toNat else none)=_
 rw[if_pos (by omega),Int.toNat_natCast]
theorem ave (ok:ax P tb) {q n:Nat} (hq:q<256) (hn:n<256): ∃h',an P 4 [.int .u8 q, .int .u8 n] h (.bool true) h'/\True:=by
 refine ok.dI (rf:=c4) rfl (Nat.le_of_ble_eq_true rfl) ?_
 simp+decide only[st,xv,c4,ahp,TU]
 refine au (K7 ok) ?_
 simp+decide only[st,xv,c4,TU,TT]
 obtain⟨a,lb,h1,hc,K,o,kn,kt⟩:=Ld ok (h:=h) (q:=400) (n:=1) (by decide) (by decide) (by decide) (by decide)
 refine au hc ?_
 have wq:IntKind.wrap .i64 (q:Int)=q:=bu (by omega) (by omega)
 simp+decide only[st,xv,c4,TT,aho,ahn,JU,xr,wq]
 refine au (FV ok) ?_
 simp+decide only[st,xv,c4,JU,Lb.c,aL]
 obtain⟨e1,e2,e3⟩:=akC hq
 obtain⟨h2,aU,lQ,N2,M2,K2,jH,eD,yc,yd⟩:=Lq ok K (c:=iC 1 q) (tl:=aS) (Zn (by decide)) rfl ⟨Uz,Uy⟩ rfl (by decide) (by decide)
 rw[if_neg (by omega),e1,e2] at aU
 refine au aU ?_
 have wm:IntKind.wrap .i64 ((n:Int).tmod 65)=((n%65:Nat):Int):=by
  rw[show(n:Int).tmod 65=((n%65:Nat):Int) from(Int.ofNat_tmod n 65).symm]
  exact bu (by omega) (by omega)
 simp+decide only[st,xv,c4,JU,ahm,ahl,ae9,wm,xr]
 have hs:n%65<=64:=by omega
 generalize n%65=s at*
 have B2:=e3 s
 generalize(du aL [Am.root 400] (iC 1 q)).2.2=atK at*
 generalize hK:jU 0 _=K0
 have fin: ∀(ρ:Env) (H:aa),(∃lb N M ah,KL H a lb N M [dm aL] ah/\Dx 0 ah/\N<=140/\M<=66)->ρ 5= .ptr a.kb 0->ρ 6= .int .i64 q->ρ 8= .int .i64 0->K0 (.exit 0) ρ H:=by
  rintro ρ H ⟨dB,N1,M1,S9,K1,D1,tN,tO⟩ r5 r6 r8
  rw[<-hK]
  simp+decide only[st,xv,c4,ae3,ae2]
  let J:Nat->Env->aa->Prop:=fun p ρ H=> ∃i,7=i+p/\i<7/\(∃lb N M ah,KL H a lb N M [dm aL] ah/\Dx i ah/\N<=140+2*i/\M<=66+i)/\ρ 5= .ptr a.kb 0/\ρ 6= .int .i64 q/\ρ 8= .int .i64 0/\ρ 15= .int .u64 (bK i)/\ρ 16= .int .i64 i
  refine dO J ?_ 7 ⟨0,rfl,by omega,⟨dB,N1,M1,S9,K1,D1,tN,tO⟩,r5,r6,r8,rfl,rfl⟩
  clear K1 D1 r5 r6 r8
  rintro p ρ H ⟨i,hip,hi,⟨dB,N1,M1,S9,K1,D1,tN,tO⟩,r5,r6,r8,fb,kl⟩
  have hi6:(i:Int)<=6:=by omega
  simp+decide only[st,xv,c4,ae1,Dz,r5,fb,kl,hi6]
  refine au (FV ok) ?_
  have w1:IntKind.wrap .i64 (10*(i:Int))=10*i:=bu (by omega) (by omega)
  have w2:IntKind.wrap .i64 (100-10*(i:Int))=100-10*i:=bu (by omega) (by omega)
  simp+decide only[st,xv,c4,Dz,r5,fb,kl,Lb.c,aL,w1,w2]
  obtain⟨Vy,e0⟩:=alZ D1 K1.k.ks.bY hi
  obtain⟨_,_,_,aJ,_⟩:=YC i hi
  obtain⟨h3,dE,pc,N3,M3,K3,tq,rX,AP,AQ⟩:=Lq ok K1 (c:=iC (bK i) (100-10*(i:Int))) (tl:=aS) (Zn aJ) rfl ⟨Uz,Uy⟩ rfl (by omega) (by omega)
  by_cases h6:i=6
  ·rw[Vy h6,if_pos (by decide)] at dE
   refine au dE ?_
   have Ui:(i:Int)=6:=by omega
   simp+decide only[st,xv,c4,Dz,RN,ae0,r8,kl,Ui,xr]
   exact⟨rfl,trivial⟩
  ·obtain⟨e1,e2,e3⟩:=e0 (by omega)
   rw[e1,e2,if_neg (by decide)] at dE
   refine au dE ?_
   have Ui: ¬(i:Int)=6:=by omega
   have hw:=dF (show i<2^61 by omega)
   simp+decide only[st,xv,c4,Dz,RN,aeZ,aeY,aeX,r8,kl,Ui,hw,xr]
   exact⟨p-1,by omega,i+1,by omega,by omega,⟨pc,N3,M3,_,K3,e3,by omega,by omega⟩,r5,r6,r8,rfl,rfl⟩
 clear hK
 let S:Nat->aa->Prop:=fun i H=> ∃lb N M ah,KL H a lb N M [dm aL] ah/\Bx q s i ah/\N<=3+2*i/\M<=1+i
 let I:Nat->Env->aa->Prop:=fun p ρ H=> ∃i,70=i+p/\i<=63/\i*(1+s)<=q/\S i H/\ρ 5= .ptr a.kb 0/\ρ 6= .int .i64 q/\ρ 7= .int .u64 65/\ρ 8= .int .i64 0/\ρ 9= .int .i64 s/\ρ 10= .int .i64 ((i*(1+s):Nat):Int)/\ρ 11= .int .i64 i
 refine dO I ?_ 70 ⟨0,rfl,by omega,by omega,⟨lQ,N2,M2,atK,K2,B2,by omega,by omega⟩,rfl,rfl,rfl,rfl,rfl,by rw[Nat.zero_mul];rfl,rfl⟩
 clear K K2 B2
 rintro p ρ H ⟨i,hip,avF,hiq,⟨dB,N1,M1,S9,K1,B1,tN,tO⟩,r5,r6,r7,r8,r9,gj,fc⟩
 have auv:(i:Int)<70:=by omega
 simp+decide only[st,xv,c4,ae8,fc,auv]
 refine bU 12 rfl rfl ?_
 simp+decide only[st,xv,c4,zU,r5,r7,r9]
 refine eX (FV ok) (cN (Nat.le_refl _)) ?_
 simp+decide only[st,xv,c4,zU,r5,r7,r9,Lb.c,aL,mkl (show s<2^40 by omega),ann]
 obtain⟨x9,x10,x0,xk⟩:=am3 B1 K1.k.ks.bY hs
 obtain⟨h3,dE,hE⟩:=Lq ok (K1.old (h':=H.clean 12) (Old.refl H).clean) (c:=jz s) (tl:=aS) (amf hs) rfl ⟨Uz,Uy⟩ rfl (by omega) (by omega)
 have fh:=hE.free K1.k.bt (i:=6)
 obtain⟨pc,N3,M3,K3,tq,rX,AP,AQ⟩:=hE
 have w1:IntKind.wrap .i64 (((i*(1+s):Nat):Int)+1)=((i*(1+s)+1:Nat):Int):=by rw[bu]<;>omega
 have w2:IntKind.wrap .i64 (((i*(1+s)+1:Nat):Int)+s)=((i*(1+s)+1+s:Nat):Int):=by rw[bu]<;>omega
 by_cases vE:63<=i
 ·rw[x9 vE,if_pos (by decide)] at dE
  rw[xk (by rw[x9 vE];decide)] at K3
  refine eX dE fh ?_
  have u3:(63:Int)<=i:=by omega
  simp+decide only[st,xv,c4,zU,I9,I8,ae7,I7,I6,r5,r6,r7,r8,r9,gj,fc,u3,xr]
  exact fin _ _ ⟨pc,N3,M3,_,K3,B1.dx hq,by omega,by omega⟩ r5 r6 r8
 have u3: ¬(63:Int)<=i:=by omega
 by_cases Az:q<i*(1+s)+1+s
 ·rw[x10 (by omega) Az,if_pos (by decide)] at dE
  rw[xk (by rw[x10 (by omega) Az];decide)] at K3
  refine eX dE fh ?_
  have nD:(q:Int)<((i*(1+s)+1+s:Nat):Int):=by omega
  simp+decide only[st,xv,c4,zU,I9,I8,RP,ae6,I7,I6,r5,r6,r7,r8,r9,gj,fc,u3,w1,w2,nD,xr]
  exact fin _ _ ⟨pc,N3,M3,_,K3,B1.dx hq,by omega,by omega⟩ r5 r6 r8
 ·obtain⟨e1,e2,e3⟩:=x0 (by omega) Az
  rw[e1,e2,if_neg (by decide)] at dE
  refine eX dE fh ?_
  have nD: ¬(q:Int)<((i*(1+s)+1+s:Nat):Int):=by omega
  have hw:=dF (show i<2^61 by omega)
  have w3:IntKind.wrap .u64 (65*64)=65*64:=rfl
  have w4:IntKind.wrap .u64 (i:Int)=i:=eQ (by omega)
  have w5:IntKind.wrap .u64 (65*64+(i:Int))=((65*64+i:Nat):Int):=by
   rw[show(65:Int)*64+i=((65*64+i:Nat):Int) by omega];exact eQ (by omega)
  have w6:IntKind.wrap .u64 (((65*64+i:Nat):Int)+1)=((65*64+i+1:Nat):Int):=by
   rw[show((65*64+i:Nat):Int)+1=((65*64+i+1:Nat):Int) by omega];exact eQ (by omega)
  simp+decide only[st,xv,c4,zU,I9,I8,RP,I7,I6,ae5,ae4,r5,r6,r7,r8,r9,gj,fc,u3,w1,w2,nD,hw,w3,w4,w5,w6,xr]
  refine⟨p-1,by omega,i+1,by omega,by omega,?_,⟨pc,N3,M3,_,K3,e3,by omega,by omega⟩,r5,r6,r7,r8,r9,?_,rfl⟩
  ·rw[Nat.add_mul];omega
  ·show AV.int .i64 ((i*(1+s)+1+s:Nat):Int)=_
   rw[Nat.add_mul];congr 2;omega
end
section
open Go
variable {P:Program}
theorem ahG {t u:TypeId} {f:Nat} {as:List AV} (hu:P.underlying t=some (.slice u)) (hi:P.underlying u=some (.int .u8)) (h:Hd P f t as): ∃b:List UInt8,as=[.vs (BS b) .ao]:=by
 obtain⟨xs,rfl,_,f,hx⟩:=VQ hu h
 obtain⟨m,rfl,hm⟩:=Lv (f:=fun n=>[AV.int .u8 n]) (p:=fun n=>(Lit.int .u8 n).wf=true) (fun row hr=>Wn hi (hx row hr).1)
 obtain⟨b,hb⟩:=YY hm
 exact⟨b,by rw[hb]⟩
theorem avf {t e u:TypeId} {a:AV} (hu:P.underlying t=some (.slice e)) (he:P.underlying e=some (.slice u)) (hi:P.underlying u=some (.int .u8)) (h:t5 P t a): ∃l:List (List UInt8),a= .vs (aW.R l) .ao:=by
 obtain⟨xs,rfl,_,f,hx⟩:=alC hu h
 obtain⟨l,rfl,_⟩:=Lv (f:=fun b:List UInt8=>[AV.vs (BS b) .ao]) (p:=fun _=>True) (fun row hr=>by
  obtain⟨b,hb⟩:=ahG he hi (hx row hr).1
  exact⟨b,hb,trivial⟩)
 exact⟨l,rfl⟩
end
end Go.Proofs.YtljapedlkdfafaaGreat.Am
