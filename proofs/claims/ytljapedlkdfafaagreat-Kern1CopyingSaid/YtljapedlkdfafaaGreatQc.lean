/- What the functions do. Conditions: none. -/
import Derived.Test.YtljapedlkdfafaaGreatQb
set_option maxRecDepth 100000
set_option maxHeartbeats 8000000
set_option linter.unusedSimpArgs false
set_option linter.unusedVariables false
set_option linter.unnecessarySimpa false
namespace Go.Proofs.YtljapedlkdfafaaGreat.Am
section
open Go
variable {ai:List Th} {ah:List Ob} {t:Nat}
theorem Yi {o:Ob} (hs:ah.Pairwise (·.id< ·.id)):o∈dj ah o:=by
 have:=oh (o:=o) (id:=o.id) hs
 rw[if_pos rfl] at this
 exact(lf this).1
theorem LA {o b:Ob} (hs:ah.Pairwise (·.id< ·.id)) (hb:b∈ah) (aM:b.id≠o.id):b∈dj ah o:=by
 have:=oh (o:=o) (id:=b.id) hs
 rw[if_neg aM,lg hs hb] at this
 exact(lf this).1
theorem Bw {o o0:Ob} (hs:ah.Pairwise (·.id< ·.id)) (T:Tree ah) (h0:o0∈ah) (e1:o.id=o0.id) (e2:o.kind=o0.kind) (e3:o0.next<=o.next):Tree (dj ah o):=by
 have key: ∀x:Ob,x.id≠1->(∃b∈ah,b.id=fH x.id/\b.kind=1/\((x.id%64:Nat):Int)<b.next)-> ∃b∈dj ah o,b.id=fH x.id/\b.kind=1/\((x.id%64:Nat):Int)<b.next:=by
  rintro x _ ⟨b,hb,b1,b2,b3⟩
  by_cases e:b.id=o.id
  ·have vP:b=o0:=by
    have f1:=lg hs hb
    have f2:=lg hs h0
    rw[e,e1,f2] at f1
    exact(Option.some.inj f1).symm
   subst vP
   exact⟨o,Yi hs,by rw[e1,b1],by rw[e2,b2],by omega⟩
  ·exact⟨b,LA hs hb e,b1,b2,b3⟩
 intro x hx h1
 rcases Bz hx with rfl|hx
 ·refine key _ h1 ?_
  rw[e1] at h1 ⊢
  exact T o0 h0 h1
 ·exact key _ h1 (T x hx h1)
theorem ak5 {o b:Ob} (hs:ah.Pairwise (·.id< ·.id)) (T:Tree ah) (hb:b∈ah) (hn:bh ah o.id=none) (b1:b.id=fH o.id) (b2:b.kind=1) (b3:((o.id%64:Nat):Int)<b.next):Tree (dj ah o):=by
 have aM: ∀x∈ah,x.id≠o.id:=fun x hx e=>by
  have:=lg hs hx
  rw[e,hn] at this
  cases this
 intro x hx h1
 rcases Bz hx with rfl|hx
 ·exact⟨b,LA hs hb (aM b hb),b1,b2,b3⟩
 ·obtain⟨b',bE,q⟩:=T x hx h1
  exact⟨b',LA hs bE (aM b' bE),q⟩
theorem akd {id:Nat} (hm:dM id=true) (h1:id≠1):fD id=fD (fH id)++[id]:=by
 unfold dM at hm
 cases hn:gx id with
 |none=>rw[hn] at hm;cases hm
 |some l=>
  have jd:=hn
  unfold gx at hn
  rw[gi] at hn
  rw[if_neg h1] at hn
  split at hn
  ·rename_i hc
   obtain⟨m,hm,rfl⟩:=Option.map_eq_some_iff.1 hn
   have hp:fH id=id/64:=by unfold fH lI;rw[jd];simp
   have U5:gx (id/64)=some m:=Gs hm (by have:=we hm;omega)
   unfold fD
   rw[hp,jd,U5]
   simp only[List.length_cons]
   rw[List.range_succ,List.map_append]
   congr 1
   ·refine List.map_congr_left fun j hj=>?_
    have js:=List.mem_range.1 hj
    rw[Nat.div_div_eq_div_mul,<-Nat.pow_succ',show m.length+1-j=m.length-j+1 by omega]
   ·simp
  ·cases hn
theorem alu {id:Nat} (hm:dM id=true) (h1:id≠1):dM (fH id)=true/\fH id<id:=by
 unfold dM at hm
 cases hn:gx id with
 |none=>rw[hn] at hm;cases hm
 |some l=>
  have jd:=hn
  unfold gx at hn
  rw[gi] at hn
  rw[if_neg h1] at hn
  split at hn
  ·rename_i hc
   obtain⟨m,hm,rfl⟩:=Option.map_eq_some_iff.1 hn
   have hp:fH id=id/64:=by unfold fH lI;rw[jd];simp
   have U5:gx (id/64)=some m:=Gs hm (by have:=we hm;omega)
   rw[hp]
   exact⟨by unfold dM;rw[U5];rfl,by omega⟩
  ·cases hn
theorem alq {id:Nat} (hm:dM id=true): ∀x∈fD id,x<=id:=by
 intro x hx
 by_cases h1:id=1
 ·subst h1
  have e:fD 1=[1]:=by decide
  rw[e] at hx
  have:=List.mem_singleton.1 hx;omega
 ·obtain⟨ps,_,_,h3⟩:=Wi hm h1
  by_cases e:x=id
  ·omega
  ·have:=h3 x hx e;omega
theorem ain {id ff:Nat} (hm:dM id=true) (h1:id≠1) (hw:jR id ff=false):jR (fH id) ff=false:=by
 unfold jR at hw ⊢
 rw[akd hm h1] at hw
 rw[<-Bool.not_eq_true,List.contains_iff_mem] at hw ⊢
 exact fun hh=>hw (List.mem_append_left _ hh)
theorem ahS {ff:Nat} (hm:dM ff=true) (h1:ff≠1):jR (fH ff) ff=false:=by
 obtain⟨m1,m2⟩:=alu hm h1
 unfold jR
 rw[<-Bool.not_eq_true,List.contains_iff_mem]
 intro hh
 have:=alq m1 _ hh
 omega
theorem alm {ff:Nat} (hs:ah.Pairwise (·.id< ·.id)):(Ec ff ah).Pairwise (·.id< ·.id):=hs.sublist List.filter_sublist
theorem jf.dM {o:Ob} (v:jf o):dM o.id=true:=by
 have:=v.may
 unfold fv at this
 simp only[Bool.and_eq_true] at this
 exact this.1.1
theorem ak4 {ff:Nat} (ks:KS ah) (T:Tree ah):Tree (Ec ff ah):=by
 intro o ho h1
 obtain⟨hm,hw⟩:=List.mem_filter.1 ho
 obtain⟨b,hb,b1,b2⟩:=T o hm h1
 refine⟨b,List.mem_filter.2 ⟨hb,?_⟩,b1,b2⟩
 rw[b1]
 simpa using ain (ks.val o hm).dM h1 (by simpa using hw)
theorem akb {o:Ob} {c:Int}:(p8 o c).next=o.next:=by unfold p8;split<;>rfl
theorem YL {o:Ob} (ks:KS ah) (T:Tree ah) (ho:o∈ah) {d:List UInt8}:Tree (AD ah o d):=Bw ks.cF T ho rfl rfl (Int.le_refl _)
theorem ajp {x:Th} {c:Cl} {done:Int} (ks:KS ah) (hr: ∃r,bh ah 1=some r) (T:Tree ah):Tree (kK t x ah c done).ah:=by
 unfold kK
 by_cases o0:(c.op=2\/c.op=3)/\names c.ak=false
 ·rw[if_pos o0]
  exact T
 rw[if_neg o0]
 unfold sS
 by_cases o1:c.op=1
 ·rw[if_pos o1]
  exact T
 rw[if_neg o1]
 by_cases o2:c.op=2
 ·rw[if_pos o2]
  exact T
 rw[if_neg o2]
 by_cases o3:c.op=3
 ·rw[if_pos o3]
  show Tree (eg x.ak ah c).2.2
  unfold eg
  split
  ·exact T
  have dG:=mX (l:=x.ak) (id:=c.id) (kind:=1) (q:=ef x.ak) hr
  generalize bJ ah x.ak c.id 1 (ef x.ak)=R at*
  obtain⟨o,e⟩:=R
  simp only at dG ⊢
  split
  ·exact T
  rename_i he
  obtain⟨cU,ba,_⟩:=dG (Classical.not_not.1 he)
  unfold GO
  split
  ·exact T
  split
  ·exact T
  split
  ·exact T
  split
  ·exact T
  rename_i dF
  have dF:=Classical.not_not.1 dF
  split
  ·exact T
  rename_i qy
  have qy:=Classical.not_not.1 qy
  have gl:=X5 ks T cU dF
  obtain⟨n,e1,e2,e3,e4,e5,e6,e7,e8,e9⟩:=Mx dF
  have U0: ∃u,(jo o (cost (db c (eC o.id o.next).1))).1={o with used:=u}:=by
   unfold jo at qy ⊢
   split
   ·rename_i h;rw[if_pos h] at qy;cases qy
   split
   ·rename_i h1 h;rw[if_neg h1,if_pos h] at qy;cases qy
   exact⟨_,rfl⟩
  obtain⟨u,hu⟩:=U0
  rw[hu]
  have s1:=Gr (o:={o with used:=u,next:=o.next+1}) ks.cF
  have T1:=Bw (o:={o with used:=u,next:=o.next+1}) ks.cF T cU rfl rfl (by show o.next<=o.next+1;omega)
  show Tree (dj (dj ah {o with used:=u,next:=o.next+1}) (db c (eC o.id o.next).1))
  refine ak5 s1 T1 (b:={o with used:=u,next:=o.next+1}) (Yi ks.cF) ?_ ?_ ba ?_
  ·rw[oh ks.cF]
   show(if(eC o.id o.next).1=o.id then _ else bh ah (eC o.id o.next).1)=none
   rw[if_neg (by omega),gl]
  ·show o.id=fH (eC o.id o.next).1
   rw[e5,e7]
  ·show(((eC o.id o.next).1%64:Nat):Int)<o.next+1
   rw[e5,e1];omega
 rw[if_neg o3]
 by_cases o4:c.op=4
 ·rw[if_pos o4]
  exact T
 rw[if_neg o4]
 by_cases o5:c.op=5
 ·rw[if_pos o5]
  show Tree (uy x.ak ah c).2
  unfold uy
  have dG:=mX (l:=x.ak) (id:=c.id) (kind:=2) (q:=eX x.ak) hr
  generalize bJ ah x.ak c.id 2 (eX x.ak)=R at*
  obtain⟨o,e⟩:=R
  simp only at dG ⊢
  split
  ·exact T
  rename_i he
  obtain⟨cU,ba,_⟩:=dG (Classical.not_not.1 he)
  split
  ·exact YL ks T cU
  ·exact T
 rw[if_neg o5]
 by_cases o6:c.op=6
 ·rw[if_pos o6]
  show Tree (uz x.ak ah c).2
  unfold uz
  split
  ·exact T
  rename_i h1
  have Kr:=Xv (l:=x.ak) hr h1
  split
  ·exact T
  rename_i he
  obtain⟨_,b,hb,eo,mH⟩:=Kr (Classical.not_not.1 he)
  rw[hb,Option.getD_some]
  split
  ·exact T
  have px:=lf hb
  refine Bw (o0:=b) (alm ks.cF) (ak4 ks T) (List.mem_filter.2 ⟨px.1,?_⟩) L9.1 L9.2 (by rw[akb];exact Int.le_refl _)
  rw[px.2,ahS mH h1];rfl
 rw[if_neg o6]
 by_cases o7:c.op=7
 ·rw[if_pos o7]
  exact T
 rw[if_neg o7]
 by_cases o8:c.op=8
 ·rw[if_pos o8]
  show Tree (uI x.ak ah c).2
  unfold uI
  have dG:=mX (l:=x.ak) (id:=c.id) (kind:=4) (q:=ef x.ak) hr
  generalize bJ ah x.ak c.id 4 (ef x.ak)=R at*
  obtain⟨o,e⟩:=R
  simp only at dG ⊢
  split
  ·exact T
  rename_i he
  obtain⟨cU,ba,_⟩:=dG (Classical.not_not.1 he)
  split
  ·exact T
  ·exact Bw ks.cF T cU rfl rfl (Int.le_refl _)
 rw[if_neg o8]
 by_cases o9:c.op=9
 ·rw[if_pos o9]
  show Tree (i6 x ah c).2.2.2.1
  unfold i6
  have dG:=mX (l:=x.ak) (id:=c.id) (kind:=4) (q:=ef x.ak) hr
  generalize bJ ah x.ak c.id 4 (ef x.ak)=R at*
  obtain⟨o,e⟩:=R
  simp only at dG ⊢
  split
  ·exact T
  rename_i he
  obtain⟨cU,ba,_⟩:=dG (Classical.not_not.1 he)
  split
  ·exact T
  ·exact Bw ks.cF T cU rfl rfl (Int.le_refl _)
 rw[if_neg o9]
 by_cases ES:c.op=10
 ·rw[if_pos ES]
  show Tree (fE x ah c done).2.2.2.1
  unfold fE
  have dG:=mX (l:=x.ak) (id:=c.to) (kind:=2) (q:=eX x.ak) hr
  generalize bJ ah x.ak c.to 2 (eX x.ak)=R at*
  obtain⟨o,e⟩:=R
  simp only at dG ⊢
  split
  ·exact T
  split
  ·exact T
  rename_i he
  obtain⟨cU,ba,_⟩:=dG (Classical.not_not.1 he)
  split
  ·exact T
  unfold EV
  simp only
  split<;>exact YL ks T cU
 rw[if_neg ES]
 by_cases EP:c.op=11
 ·rw[if_pos EP]
  exact T
 rw[if_neg EP]
 by_cases EO:c.op=12
 ·rw[if_pos EO]
  exact T
 rw[if_neg EO]
 by_cases EN:c.op=13
 ·rw[if_pos EN]
  exact T
 rw[if_neg EN]
 exact T
theorem W2 {x:Th} {cs:List Nat}:(gT x cs).2.own=x.own/\(gT x cs).2.id=x.id/\(gT x cs).2.to=x.to:=by unfold gT;split<;>exact⟨rfl,rfl,rfl⟩
theorem akp {x:Th} {c:Cl} {done:Int} (k:fJ c) (ho:0<=x.own/\x.id<2^64/\x.to<2^64):0<=(kK t x ah c done).th.own/\(kK t x ah c done).th.id<2^64/\(kK t x ah c done).th.to<2^64:=by
 unfold kK
 by_cases o0:(c.op=2\/c.op=3)/\names c.ak=false
 ·rw[if_pos o0]
  exact ho
 rw[if_neg o0]
 unfold sS
 by_cases o1:c.op=1
 ·rw[if_pos o1]
  show 0<=(nu t x).2.2.own/\(nu t x).2.2.id<2^64/\(nu t x).2.2.to<2^64
  unfold nu
  split
  ·exact ho
  split
  ·exact ho
  ·obtain⟨e1,e2,e3⟩:=W2 (x:=x) (cs:=[1000+16*t+x.own.toNat+1])
   refine⟨by show 0<=x.own+1;omega,?_,?_⟩
   ·show(gT x _).2.id<_;rw[e2];exact ho.2.1
   ·show(gT x _).2.to<_;rw[e3];exact ho.2.2
 rw[if_neg o1]
 by_cases o2:c.op=2
 ·rw[if_pos o2]
  show 0<=(pU x c.ak).2.own/\(pU x c.ak).2.id<2^64/\(pU x c.ak).2.to<2^64
  unfold pU
  split<;>exact ho
 rw[if_neg o2]
 by_cases o3:c.op=3
 ·rw[if_pos o3]
  exact ho
 rw[if_neg o3]
 by_cases o4:c.op=4
 ·rw[if_pos o4]
  exact ho
 rw[if_neg o4]
 by_cases o5:c.op=5
 ·rw[if_pos o5]
  exact ho
 rw[if_neg o5]
 by_cases o6:c.op=6
 ·rw[if_pos o6]
  exact ho
 rw[if_neg o6]
 by_cases o7:c.op=7
 ·rw[if_pos o7]
  show 0<=(rn x ah c).2.own/\(rn x ah c).2.id<2^64/\(rn x ah c).2.to<2^64
  unfold rn
  split
  ·exact ho
  ·obtain⟨e1,e2,e3⟩:=W2 (x:=x) (cs:=(bJ ah x.ak c.id 3 (eS x.ak)).1.bX)
   rw[e1,e2,e3];exact ho
 rw[if_neg o7]
 by_cases o8:c.op=8
 ·rw[if_pos o8]
  exact ho
 rw[if_neg o8]
 by_cases o9:c.op=9
 ·rw[if_pos o9]
  show 0<=(i6 x ah c).2.2.1.own/\(i6 x ah c).2.2.1.id<2^64/\(i6 x ah c).2.2.1.to<2^64
  unfold i6
  split
  ·exact ho
  split
  ·exact⟨ho.1,k.id,ho.2.2⟩
  ·exact ho
 rw[if_neg o9]
 by_cases ES:c.op=10
 ·rw[if_pos ES]
  show 0<=(fE x ah c done).2.2.1.own/\(fE x ah c done).2.2.1.id<2^64/\(fE x ah c done).2.2.1.to<2^64
  unfold fE
  split
  ·exact ho
  split
  ·exact ho
  split
  ·exact ho
  unfold EV
  simp only
  split
  ·exact⟨ho.1,k.id,k.to⟩
  ·exact ho
 rw[if_neg ES]
 by_cases EP:c.op=11
 ·rw[if_pos EP]
  exact ho
 rw[if_neg EP]
 by_cases EO:c.op=12
 ·rw[if_pos EO]
  exact ho
 rw[if_neg EO]
 by_cases EN:c.op=13
 ·rw[if_pos EN]
  exact ho
 rw[if_neg EN]
 exact ho
end
section
open Go
variable {P:Program} {h:aa} {a:KA} {lb N M:Nat} {ai:List Th} {ah:List Ob}
structure KL (h:aa) (a:KA) (lb N M:Nat) (ai:List Th) (ah:List Ob):Prop where
 k:KH h a lb N M ai ah (eB ah)
 inv:nz ai ah
theorem KL.old (K:KL h a lb N M ai ah) {h':aa} (o:Old h h'):KL h' a lb N M ai ah:=⟨K.k.old o,K.inv⟩
def k9 (h:aa) (a:KA) (lb N M:Nat) (ai:List Th) (ah:List Ob) (h':aa):Prop:= ∃aR N' M',KL h' a aR N' M' ai ah/\KF h h' a lb/\(aR=lb\/h.next<=aR)/\N'<=N+2/\M'<=M+1
theorem Lq {t:Nat} {x:Th} {c:Cl} {done:Int} (I:nz ai ah) (k:fJ c) (hx:0<=x.own/\x.id<2^64/\x.to<2^64): ∀y∈(mc t ai x ah c done).ai,0<=y.own/\y.id<2^64/\y.to<2^64:=by
 intro y hy
 rcases List.mem_or_eq_of_mem_set hy with hy|rfl
 ·exact I.own y hy
 ·exact akp k ⟨hx.1,(by decide:0<2^64),(by decide:0<2^64)⟩
theorem Wp {t:Nat} {x:Th} {c:Cl} {done:Int} (I:nz ai ah) (ks:KS ah):Tree (mc t ai x ah c done).ah:=ajp ks I.root I.tree
theorem amE {t:Int} {c:Cl} (I:nz ai ah) (ks:KS ah) (k:fJ c) (tv:TV (eD t ai ah c).ai) (rt: ∃r,bh (eD t ai ah c).ah 1=some r):nz (eD t ai ah c).ai (eD t ai ah c).ah:=by
 refine⟨tv,rt,?_,?_⟩<;>clear tv rt<;>unfold eD
 ·split
  ·exact I.tree
  split
  ·exact I.tree
  split
  ·exact Wp I ks
  ·exact I.tree
 ·split
  ·exact I.own
  split
  ·exact I.own
  split
  ·rename_i x hx
   exact Lq I k (I.own x (List.mem_of_getElem? hx))
  ·exact I.own
theorem acW {x:Th} (hx:0<=x.own/\x.id<2^64/\x.to<2^64):fJ {od with op:=9,id:=x.id}/\fJ {od with op:=10,id:=x.id,to:=x.to,n:=x.n}:=⟨⟨sP,Nat.zero_le _,hx.2.1,(by decide:0<2^64),(by decide:0<2^20),(by decide:0<2^16),fun _ h=>by cases h⟩,⟨sP,Nat.zero_le _,hx.2.1,hx.2.2,(by decide:0<2^20),(by decide:0<2^16),fun _ h=>by cases h⟩⟩
theorem amC {t:Int} (I:nz ai ah) (ks:KS ah) (tv:TV (lQ t ai ah).ai) (rt: ∃r,bh (lQ t ai ah).ah 1=some r):nz (lQ t ai ah).ai (lQ t ai ah).ah:=by
 refine⟨tv,rt,?_,?_⟩<;>clear tv rt<;>unfold lQ
 ·split
  ·exact I.tree
  split
  ·split<;>exact Wp I ks
  ·exact I.tree
 ·split
  ·exact I.own
  split
  ·rename_i x hx
   have ho:=I.own x (List.mem_of_getElem? hx)
   split
   ·exact Lq I (acW ho).1 ho
   ·exact Lq I (acW ho).2 ho
  ·exact I.own
theorem KL.do (ok:ax P tb) (K:KL h a lb N M ai ah) {t:Int} {c:Cl} {tl:Nat->aH} (k:fJ c) (gl:c.op=3->d8 c.ak=true/\jY c.bX=true) (hN:N+1<2^19) (hM:M<128) (ez:c.op=6->ah.length<=12):
 ∃h',an P 14 [.ptr a.kb 0, .int .i64 t, .agg (c.c tl)] h (eD t ai ah c).v h'/\k9 h a lb N M (eD t ai ah c).ai (eD t ai ah c).ah h':=by
 obtain⟨h',hc,aR,N',M',K',kf,hl,Vm,Vn,tv,rt⟩:=akq ok K.k K.inv (t:=t) (tl:=tl) k gl hN hM ez
 exact⟨h',hc,aR,N',M',⟨K',amE K.inv K.k.ks k tv rt⟩,kf,hl,Vm,Vn⟩
theorem KL.go (ok:ax P tb) (K:KL h a lb N M ai ah) {t:Int} (hN:N+1<2^19) (hM:M<128):
 ∃h',an P 17 [.ptr a.kb 0, .int .i64 t] h (lQ t ai ah).v h'/\k9 h a lb N M (lQ t ai ah).ai (lQ t ai ah).ah h':=by
 obtain⟨h',hc,aR,N',M',K',kf,hl,Vm,Vn,tv,rt⟩:=akn ok K.k K.inv (t:=t) hN hM
 exact⟨h',hc,aR,N',M',⟨K',amC K.inv K.k.ks tv rt⟩,kf,hl,Vm,Vn⟩
end
section
open Go
variable {P:Program} {h:aa} {a:KA} {lb N M:Nat} {ai:List Th} {ah:List Ob}
def aB:Lb:=⟨2,[]⟩
def uH (c:Nat):Lb:=⟨2,[(c,4)]⟩
theorem Lc (ok:ax P tb):an P 12 [] h (.agg (aB.c .ao)) h:=by
 refine ok.eH (rf:=FM) rfl (Nat.le_of_ble_eq_true rfl) rfl ?_
 simp+decide only[st,xv,FM,agN,agM,bB]
 refine⟨rfl,fun b hb=>?_⟩
 repeat rw[if_neg (by omega)]
theorem k9.from {Y h':aa} (o:Old h Y) (e:k9 Y a lb N M ai ah h'):k9 h a lb N M ai ah h':=by
 obtain⟨aR,N',M',K,kf,hl,hN,hM⟩:=e
 refine⟨aR,N',M',K,(KF.old (lb:=lb) o).trans kf (.inl rfl),?_,hN,hM⟩
 rcases hl with e|e
 ·exact .inl e
 ·exact .inr (Nat.le_trans o.next e)
theorem k9.to {h1 h':aa} (e:k9 h a lb N M ai ah h1) (o:Old h1 h'):k9 h a lb N M ai ah h':=by
 obtain⟨aR,N',M',K,kf,hl,hN,hM⟩:=e
 exact⟨aR,N',M',K.old o,kf.trans (KF.old (lb:=lb) o) (.inl rfl),hl,hN,hM⟩
def tG (r:Cr):Nat×Int:=if r.is then(r.r.ret,r.r.err) else(0,1)
theorem LC (ok:ax P tb) (K:KL h a lb N M ai ah) {t:Int} {c:Cl} {tl:Nat->aH} (k:fJ c) (gl:c.op=3->d8 c.ak=true/\jY c.bX=true) (hN:N+1<2^19) (hM:M<128) (ez:c.op=6->ah.length<=12):
 ∃h',an P 10 [.ptr a.kb 0, .int .i64 t, .agg (c.c tl)] h (.ay [.int .u64 (tG (eD t ai ah c)).1, .int .i64 (tG (eD t ai ah c)).2]) h'/\k9 h a lb N M (eD t ai ah c).ai (eD t ai ah c).ah h':=by
 obtain⟨Q,hQ⟩: ∃Q:aa->Prop,∀h',Q h'↔k9 h a lb N M (eD t ai ah c).ai (eD t ai ah c).ah h':=⟨_,fun _=>Iff.rfl⟩
 suffices hu: ∃h',an P 10 [.ptr a.kb 0, .int .i64 t, .agg (c.c aK)] h (.ay [.int .u64 (tG (eD t ai ah c)).1, .int .i64 (tG (eD t ai ah c)).2]) h'/\Q h' by
  obtain⟨h',c1,hq⟩:=hu
  refine⟨h',an.ao ?_,(hQ h').1 hq⟩
  simp only[AV.bG,AV.strip,yR]
  exact c1
 refine ok.dT (rf:=mS) rfl (Nat.le_of_ble_eq_true rfl) ?_
 simp+decide only[st,xv,mS,agQ,fc]
 generalize hY:aa.at _ _ _=Y
 have oY:Old h Y:=by rw[<-hY];exact(Old.refl h).at (Nat.le_refl _)
 have cY:cellsOf Y h.next=some (c.c aK):=by rw[<-hY];exact av (by simp[aa.at];try rfl)
 have nY:Y.next=h.next+1:=by rw[<-hY];simp[aa.at]
 simp only[fc] at cY
 simp+decide only[st,xv,mS,S8,cY]
 obtain⟨h1,hc,hE⟩:=(K.old oY).do ok (t:=t) (tl:=aK) k gl hN hM ez
 refine au hc ?_
 have hE:=hE.from oY
 generalize eD t ai ah c=D at*
 unfold tG
 simp+decide only[st,xv,mS,S8,Jn,Cr.v,Rp.c,xr]
 generalize hZ:aa.set _ _ _=Z
 have oZ:Old h1 Z:=by rw[<-hZ];exact((Old.refl h1).at (Nat.le_refl _)).set (Nat.le_refl _)
 have z1:cellsOf Z h1.next=some (D.r.c .ao):=by rw[<-hZ];exact av (by simp[aa.set];rfl)
 have nZ:Z.next=h1.next+1:=by rw[<-hZ];simp[aa.at,aa.set]
 simp only[Rp.c] at z1
 have l1:h1.next<Z.next:=by omega
 cases hi:D.is with
 |false=>
  simp+decide only[st,xv,mS,Jn,agP]
  exact⟨rfl,(hQ _).2 (hE.to oZ)⟩
 |true=>
  simp+decide only[st,xv,mS,Jn]
  refine bU 6 rfl rfl ?_
  simp+decide only[st,xv,mS,agO,z1,l1]
  exact⟨rfl,(hQ _).2 (hE.to (oZ.trans (Old.refl Z).clean))⟩
theorem v7:aB.ok:=⟨by decide,fun p hp=>(by cases hp),by decide⟩
theorem iv.vsr {h:aa} {rows:List (List AV)} {t:aH} {sz:Nat} (hs: ∀r∈rows,r.length=sz):iv h (.vs rows t) sz rows where
 len:=rfl
 get i hi:=by
  have hlen:(rows[i]).length=sz:=hs _ (List.getElem_mem hi)
  refine⟨.vp rows[i] 0,?_,?_⟩
  ·simp only[m5]
   rw[if_pos (by omega),Int.toNat_natCast,List.getElem?_eq_getElem hi]
   simp[hlen]
  ·simp only[j0,cut,if_true]
   rw[if_pos (by omega),List.drop_zero,List.take_of_length_le (by omega)]
theorem Wn (ok:ax P tb) {q:Int} {n:Nat} (h0:0<=q) (h1:q<=400) (pk:1<=n) (U2:n<=4): ∃a lb h',an P 9 [.int .i64 q, .int .i64 n] h (.ptr a.kb 0) h'/\KL h' a lb 1 0 (List.replicate n (a8 aB)) [root q]/\Old h h'/\rV h.next a lb/\h.next<=a.tb:=by
 suffices key: ∃v h',an P 9 [.int .i64 q, .int .i64 n] h v h'/\ ∃a lb,v= .ptr a.kb 0/\KL h' a lb 1 0 (List.replicate n (a8 aB)) [root q]/\Old h h'/\rV h.next a lb/\h.next<=a.tb by
  obtain⟨v,h',hc,a,lb,rfl,r⟩:=key
  exact⟨a,lb,h',hc,r⟩
 obtain⟨Q,hQ⟩: ∃Q:AV->aa->Prop,∀v h',Q v h'↔ ∃a lb,v= .ptr a.kb 0/\KL h' a lb 1 0 (List.replicate n (a8 aB)) [root q]/\Old h h'/\rV h.next a lb/\h.next<=a.tb:=⟨_,fun _ _=>Iff.rfl⟩
 suffices key: ∃v h',an P 9 [.int .i64 q, .int .i64 n] h v h'/\Q v h' by
  obtain⟨v,h',hc,hq⟩:=key
  exact⟨v,h',hc,(hQ _ _).1 hq⟩
 refine ok.sT (rf:=c9) rfl (Nat.le_of_ble_eq_true rfl) ?_
 simp+decide only[st,xv,c9,ahq,ahp,aho]
 generalize hX:aa.set _ _ _=X
 have xo:Old h X:=by rw[<-hX];exact((Old.refl h).at (Nat.le_refl _)).set (Nat.le_refl _)
 have x0:cellsOf X h.next=some [.int .i64 q, .int .i64 0, .vs [] .full]:=by rw[<-hX];exact av (by simp[aa.set])
 have xn:X.next=h.next+1:=by rw[<-hX];simp[aa.at,aa.set]
 have cl: ∀i,∀r∈(List.replicate i aB).map (fun l=>l.c .full),r.length=2:=fun i r hr=>by
  obtain⟨x,_,rfl⟩:=List.mem_map.1 hr;rfl
 have hd: ∀i,dC 2 ((List.replicate i aB).map (fun l=>l.c .full))=true:=fun i=>by cases i<;>rfl
 let I:Nat->Env->aa->Prop:=fun m ρ H=> ∃i v,n=i+m/\Old h H/\h.next<H.next/\App h H v ((List.replicate i aB).map (fun l=>l.c .full))/\cellsOf H h.next=some [.int .i64 q, .int .i64 0,v]/\ρ 1= .int .i64 n/\ρ 5= .ptr h.next 0/\ρ 6= .int .i64 i
 refine dJ I ?_ n ⟨0,_,by omega,xo,by omega,App.nil h X,x0,rfl,rfl,rfl⟩
 rintro m ρ H ⟨i,v,qA,ho,qx,hg,hc,r1,r5,r6⟩
 by_cases hi:i<n
 ·have aA:(i:Int)<(n:Int):=by omega
  have hw:=dv (show i<2^61 by omega)
  simp+decide only[st,xv,c9,TU,TT,r1,r5,r6,aA,hc,xr]
  obtain⟨v',H',a1,a2,a3,a4,a5,a6,a7⟩:=hg.app ho (bytes:=32) (sz:=2) (id:=H.next) (by omega) [[AV.int IntKind.u8 2,AV.vs [] aH.full]] (hd i) (by simp;omega) (by simp;omega)
  have jL:H.get h.next=some (.cells [.int .i64 q, .int .i64 0,v]):=by
   revert hc;unfold cellsOf;split
   ·rename_i e;intro hh;cases hh;exact e
   ·intro hh;cases hh
  have nQ:H'.get h.next=some (.cells [.int .i64 q, .int .i64 0,v]):=by rw[a6 _ (by omega) (by rw[jL];intro hh;cases hh),jL]
  have a9:=av nQ
  have v1:v'.one=true/\v'.cells=[v']:=by obtain⟨t,rfl,_⟩:=a2;exact⟨rfl,rfl⟩
  simp+decide only[st,xv,c9,TT,ahn,a1,a9,v1.1,v1.2,r5,r6,hw,xr]
  refine⟨m-1,by omega,i+1,v',by omega,a3.set (Nat.le_refl _),by show h.next<H'.next;omega,?_,av (by simp[aa.set]),r1,r5,rfl⟩
  have e:(List.replicate (i+1) aB).map (fun l=>l.c .full)=(List.replicate i aB).map (fun l=>l.c .full)++[[AV.int IntKind.u8 2,AV.vs [] aH.full]]:=by
   rw[List.replicate_succ',List.map_append];rfl
  rw[e]
  exact a2.to (Nat.le_refl _) fun k _ _ hk=>by
   simp only[aa.set]
   rw[if_neg (fun e=>by subst e;rw[nQ] at hk;cases hk)]
   exact hk
 ·have aA: ¬(i:Int)<(n:Int):=by omega
  have aE:i=n:=by omega
  subst aE
  simp+decide only[st,xv,c9,TU,TS,r1,r5,r6,aA,hc]
  obtain⟨tt,rfl,_⟩:=hg
  have Ve:jC ⟨q,0,List.replicate i aB⟩=true:=by
   unfold jC
   have e1:(List.replicate i aB).all d8=true:=by
    rw[List.all_eq_true];intro x hx;rw[(List.mem_replicate.1 hx).2];decide
   rw[e1]
   simp[h0,h1,pk,U2]
  rcases Wq ok (h:=H) (c:=⟨q,0,List.replicate i aB⟩) (τ:= .full) (w:= .vs ((List.replicate i aB).map (fun l=>l.c .full)) tt) (fun h' _=>iv.vsr (cl i)) rfl rfl (fun l hl=>by rw[(List.mem_replicate.1 hl).2];exact v7) (by simp;omega) with⟨e,_⟩|⟨_,a,lb,h',dp,K,o,kn,kt⟩
  ·rw[Ve] at e;cases e
  refine au dp ?_
  simp+decide only[st,xv,c9,TS,ahm,xr,ot]
  rw[List.map_replicate] at K
  refine(hQ _ _).2 ⟨a,lb,rfl,⟨K,?_⟩,ho.trans o,⟨by have:=kn.1;omega,fun b hb=>by have:=kn.2.1 b hb;omega,fun b hb=>by have:=kn.2.2 b hb;omega⟩,by omega⟩
  refine⟨⟨by simpa using U2,fun x hx=>?_⟩,⟨_,rfl⟩,fun o ho h1=>?_,fun x hx=>?_⟩
  ·rw[(List.mem_replicate.1 hx).2];exact⟨v7,by decide⟩
  ·rw[List.mem_singleton.1 ho] at h1;exact absurd rfl h1
  ·rw[(List.mem_replicate.1 hx).2];exact⟨by decide,by decide,by decide⟩
end
section
open Go
variable {P:Program} {h:aa}
def bc1:Cl:={od with op:=3,kind:=2,id:=1,ak:=aB,data:=[7]}
def bc2:Cl:={od with op:=4,id:=65,n:=1}
def FO:List Ob:=[{root 40 with used:=2,next:=2},{bf with id:=65,kind:=2,ak:=aB,data:=[7]}]
theorem bd1:eD 0 [a8 aB] [root 40] bc1=⟨⟨0,0,65,[]⟩,true,[a8 aB],FO⟩:=by decide+kernel
theorem bd2:eD 0 [a8 aB] FO bc2=⟨⟨0,0,0,[7]⟩,true,[a8 aB],FO⟩:=by decide+kernel
theorem bd3:20<(GZ FO [a8 aB]).length:=by decide+kernel
theorem bd4:oM [a8 aB] 0=false:=by decide+kernel
theorem nz.one {n:Nat} {q:Int} (hn:n<=4):nz (List.replicate n (a8 aB)) [Am.root q]:=by
 refine⟨⟨by simpa using hn,fun x hx=>?_⟩,⟨_,rfl⟩,fun o ho h1=>?_,fun x hx=>?_⟩
 ·rw[(List.mem_replicate.1 hx).2];exact⟨v7,by decide⟩
 ·rw[List.mem_singleton.1 ho] at h1;exact absurd rfl h1
 ·rw[(List.mem_replicate.1 hx).2];exact⟨by decide,by decide,by decide⟩
theorem VZ (ok:ax P tb):an P 8 [] h (.bool true) h:=by
 refine ok.keeps (rf:=c8) rfl (Nat.le_of_ble_eq_true rfl) rfl ?_
 simp+decide only[st,xv,c8,ahs,TZ]
 rcases Wq ok (h:=h) (c:=⟨40,0,[aB]⟩) (τ:= .full) (w:= .vs ([aB].map (fun l=>l.c .full)) .full) (fun h' _=>iv.vsr (fun r hr=>by rw[List.mem_singleton.1 hr];rfl)) rfl rfl (fun l hl=>by rw[List.mem_singleton.1 hl];exact v7) (by decide) with⟨e,_⟩|⟨_,a,lb,h1,dp,K,o,kn,kt⟩
 ·cases e
 refine au dp ?_
 simp+decide only[st,xv,c8,TZ,ahr,TY,xr]
 have K1:KL h1 a lb 1 0 [a8 aB] [root 40]:=⟨K,nz.one (n:=1) (by decide)⟩
 obtain⟨h2,a9,vC,N2,M2,K2,kQ,eV,Kt,Ku⟩:=K1.do ok (t:=0) (c:=bc1) (tl:=fun _=> .full) ⟨v7,by decide,by decide,by decide,by decide,by decide,fun _ h=>by cases h⟩ (fun _=>by decide) (by decide) (by decide) (fun e=>by cases e)
 rw[bd1] at a9 K2
 refine au a9 ?_
 have o2:=kQ.eJ o kn kt
 have kn2:=kn.to eV o.next
 simp+decide only[st,xv,c8,TY,Cr.v,Rp.c,xr]
 generalize hX:aa.set _ _ _=X
 have xo:Old h2 X:=by rw[<-hX];exact((Old.refl h2).at (Nat.le_refl _)).set (Nat.le_refl _)
 have x0:X.get h2.next=some (.cells [.int .i64 0, .int .i64 0, .int .u64 65, .vs (BS []) .ao]):=by rw[<-hX];simp[aa.set]
 have xn:X.next=h2.next+1:=by rw[<-hX];simp[aa.at,aa.set]
 simp+decide only[st,xv,c8,TX,xr]
 obtain⟨h3,fp,UI,N3,M3,K3,vD,vK,hN3,hM3⟩:=(K2.old xo).do ok (t:=0) (c:=bc2) (tl:=fun _=> .full) ⟨sP,by decide,by decide,by decide,by decide,by decide,fun _ h=>by cases h⟩ (fun e=>by cases e) (by omega) (by omega) (fun e=>by cases e)
 rw[bd2] at fp K3
 refine au fp ?_
 have o3:=vD.eJ (o2.trans xo) kn2 kt
 have bw:=K2.k.bw
 have kx:h3.get h2.next=some (.cells [.int .i64 0, .int .i64 0, .int .u64 65, .vs (BS []) .ao]):=by
  rw[vD.2 _ (by omega) (fun e=>by have:=bw _ (.inl e);omega) (fun e=>by have:=bw _ (.inr (.inl e));omega) (fun e=>by have:=bw _ (.inr (.inr e));omega),x0]
 have nh:=vD.1
 simp+decide only[st,xv,c8,TX,Cr.v,Rp.c,xr]
 generalize hY:aa.set _ _ _=Y
 have yo:Old h3 Y:=by rw[<-hY];exact((Old.refl h3).at (Nat.le_refl _)).set (Nat.le_refl _)
 have y0:cellsOf Y h3.next=some [.int .i64 0, .int .i64 0, .int .u64 0, .vs (BS [7]) .ao]:=by rw[<-hY];exact av (by simp[aa.set])
 have y1:cellsOf Y h2.next=some [.int .i64 0, .int .i64 0, .int .u64 65, .vs (BS []) .ao]:=av (by rw[yo.get _ (by omega),kx])
 have KY:=K3.old yo
 simp+decide only[st,xv,c8,TW,y0,y1,bM]
 refine au (Yp ok KY.k (by decide) (by decide)) ?_
 simp+decide only[st,xv,c8,TW,F1]
 refine au (akl ok KY.k (by decide) (fun x hx=>by rw[List.mem_singleton.1 hx];decide)) ?_
 simp+decide only[st,xv,List.length_cons,List.length_nil,jh]
 refine au (ah2 ok KY.k (by decide) (by decide) KY.inv.tv) ?_
 have b3:(20:Int)<((GZ FO [a8 aB]).length:Int):=by have:=bd3;omega
 simp+decide only[st,xv,bM,b3]
 refine au (FV ok KY.k (t:=0)) ?_
 rw[bd4]
 simp+decide only[st,xv]
 exact(o3.trans yo).get
end
section
open Go
variable {ah:List Ob} {ai:List Th} {r o:Ob} {l:Lb} {id:Nat}
theorem akr (h1:bh ah 1=some r) (hk:r.kind=1) (hs:eS l r.ak=true) (hp:fD id=[1,id]) (ho:bh ah id=some o):dq ah l id=(o,0):=by
 unfold dq
 rw[hp]
 show eI ah l ((bh ah 1).getD bf) [id]=_
 rw[h1,Option.getD_some]
 unfold eI
 rw[if_neg (fun h=>h hk),if_neg (by simp[hs])]
 rw[ho]
 rfl
theorem LD {q:Lb->Bool} {k:Int} (h1:bh ah 1=some r) (hk:r.kind=1) (hs:eS l r.ak=true) (hp:fD id=[1,id]) (ho:bh ah id=some o) (hq:q o.ak=true) (ba:o.kind=k):bJ ah l id k q=(o,0):=by
 unfold bJ
 rw[akr h1 hk hs hp ho]
 rw[if_neg (fun h=>h rfl),if_neg (fun h=>h ba),if_neg (by simp[hq])]
theorem xX:eS aB aB=true:=by decide+kernel
theorem pp2:ef aB aB=true:=by decide+kernel
theorem pp3:eX aB aB=true:=by decide+kernel
theorem yP {t:Nat} {c:Cl} {x:Th} (hl:t<ai.length) (hx:ai[t]=x) (hd:x.dw=0) (hk:rB x=x):eD t ai ah c=told t (kK t x ah c 0) ai:=by
 have h1:qn ai t=true:=by unfold qn;simp;omega
 have h2:oM ai t=false:=by
  unfold oM
  rw[h1,Int.toNat_natCast,List.getElem?_eq_getElem hl,hx,Option.map_some,Option.getD_some,hd];rfl
 unfold eD
 rw[if_neg (by simp[h1]),if_neg (by simp[h2]),Int.toNat_natCast,List.getElem?_eq_getElem hl,hx]
 show mc t ai x ah c 0=_
 unfold mc
 rw[hk]
theorem BB {t:Nat} {x:Th} {c:Cl} {d:Int} (h: ¬((c.op=2\/c.op=3)/\names c.ak=false)):kK t x ah c d=sS t x ah c d:=if_neg h
theorem k9.xw {h Y h1:aa} {a:KA} {lb N M:Nat} (o:Old h Y) (e:k9 Y a lb N M ai ah h1) (bw: ∀b,FK a b\/FA a lb b\/FS a b->b<h.next) {i:Nat} (hi:h.next<=i) (AL:i<Y.next) (b:Option cI):k9 h a lb N M ai ah (h1.set i b):=by
 obtain⟨gA,N1,M1,K,kf,hl,hN,hM⟩:=e
 have e2:jv Y a lb N M ai ah h1:=⟨gA,N1,M1,K.k,kf,hl,hN,hM,K.inv.tv,K.inv.root⟩
 obtain⟨vC,N2,M2,K2,kQ,eV,Kt,Ku,_⟩:=e2.xw o bw hi AL b
 exact⟨vC,N2,M2,⟨K2,K.inv⟩,kQ,eV,Kt,Ku⟩
end
section
open Go
variable {ah:List Ob} {b:Ob} {c:Cl} {id:Nat}
def JR (ah:List Ob) (id:Nat):Prop:= ∃x,bh ah id=some x/\x.kind=1/\x.ak=aB
theorem Wo (hb:bh ah id=some b): ∀{ps:List Nat} {o:Ob},o.kind=1->o.ak=aB->(∀p∈ps,JR ah p)->eI ah aB o (ps++[id])=(b,0)
 |[],o,hk,hl,_=>by
  show eI ah aB o [id]=_
  unfold eI
  rw[if_neg (fun h=>h hk),if_neg (by rw[hl,xX];simp),hb]
  rfl
 |p::ps,o,hk,hl,hp=>by
  obtain⟨x,hx,k,l⟩:=hp p List.mem_cons_self
  rw[List.cons_append]
  unfold eI
  rw[if_neg (fun h=>h hk),if_neg (by rw[hl,xX];simp),hx]
  exact Wo hb k l fun q hq=>hp q (List.mem_cons_of_mem _ hq)
theorem aiB {ps:List Nat} (hp:fD id=1::(ps++[id])) (h1:JR ah 1) (nM: ∀p∈ps,JR ah p) (hb:bh ah id=some b):dq ah aB id=(b,0):=by
 obtain⟨r,hr,k,l⟩:=h1
 unfold dq
 rw[hp]
 show eI ah aB ((bh ah 1).getD bf) (ps++[id])=_
 rw[hr,Option.getD_some]
 exact Wo hb k l nM
theorem akm (hc:dq ah aB id=(b,0)) (hk:b.kind=1) (hl:b.ak=aB):bJ ah aB id 1 (ef aB)=(b,0):=by
 unfold bJ
 rw[hc]
 rw[if_neg (fun h=>h rfl),if_neg (fun h=>h hk),if_neg (by simp only[hl,pp2];simp)]
theorem lm0:m8 aB aB=0:=by decide+kernel
theorem lnm:names aB=true:=by decide+kernel
theorem Y0 (h3:c.op=3) (hl:names c.ak=true):eD 0 [a8 aB] ah c=⟨if(eg aB ah c).1≠0 then⟨0,(eg aB ah c).1,0,[]⟩ else⟨0,0,(eg aB ah c).2.1,[]⟩,true,[a8 aB],(eg aB ah c).2.2⟩:=by
 refine(yP (t:=0) (ai:=[a8 aB]) (ah:=ah) (c:=c) (x:=a8 aB) (by decide) rfl rfl rfl).trans ?_
 rw[BB (fun h=>by rw[hl] at h;cases h.2)]
 unfold sS
 rw[if_neg (by omega),if_neg (by omega),if_pos h3]
 rfl
theorem amB (h3:c.op=3) (hl:names c.ak=true):tG (eD 0 [a8 aB] ah c)=(if(eg aB ah c).1≠0 then 0 else(eg aB ah c).2.1,((eg aB ah c).1:Int)):=by
 rw[Y0 h3 hl]
 unfold tG
 by_cases h:(eg aB ah c).1≠0
 ·simp only[if_pos h,if_true]
 ·simp only[if_neg h,if_true]
  rw[show(eg aB ah c).1=0 by omega];rfl
theorem ako (hk:bJ ah aB c.id 1 (ef aB)=(b,0)) (h1:1<=c.kind) (h4:c.kind<=4) (hf:lB aB c=0) (hm:m8 aB c.ak=0) (hw: ∀i,0<=cost (db c i)):eg aB ah c=if 63<b.next then(9,0,ah) else if(eC b.id b.next).2≠0 then((eC b.id b.next).2,0,ah) else if b.bd-b.used<cost (db c (eC b.id b.next).1) then(10,0,ah) else(0,(eC b.id b.next).1,dj (dj ah {b with used:=b.used+cost (db c (eC b.id b.next).1),next:=b.next+1}) (db c (eC b.id b.next).1)):=by
 unfold eg
 rw[if_neg (by omega),hk]
 rw[if_neg (fun h=>h rfl)]
 unfold GO
 rw[if_neg (fun h=>h hm),if_neg (fun h=>h hf)]
 by_cases a1:63<b.next
 ·rw[if_pos a1,if_pos a1]
 rw[if_neg a1,if_neg a1]
 by_cases a2:(eC b.id b.next).2≠0
 ·rw[if_pos a2,if_pos a2]
 rw[if_neg a2,if_neg a2]
 have:=hw (eC b.id b.next).1
 generalize cost (db c (eC b.id b.next).1)=w at*
 show(if(jo b w).2≠0 then((jo b w).2,0,ah) else(0,(eC b.id b.next).1,dj (dj ah {(jo b w).1 with next:=b.next+1}) (db c (eC b.id b.next).1)))=_
 by_cases a4:b.bd-b.used<w
 ·rw[if_pos a4,show jo b w=(bf,10) by unfold jo;rw[if_neg (by omega),if_pos a4]]
  rfl
 ·rw[if_neg a4,show jo b w=({b with used:=b.used+w},0) by unfold jo;rw[if_neg (by omega),if_neg a4]]
  rfl
theorem Xu {i:Nat} (hk:bJ ah aB c.id 1 (ef aB)=(b,0)) (h1:1<=c.kind) (h4:c.kind<=4) (hf:lB aB c=0) (hm:m8 aB c.ak=0) (hw: ∀i,0<=cost (db c i)) (hx: ¬63<b.next) (hn:eC b.id b.next=(i,0)) (hq: ¬b.bd-b.used<cost (db c i)):eg aB ah c=(0,i,dj (dj ah {b with used:=b.used+cost (db c i),next:=b.next+1}) (db c i)):=by
 have e:=ako hk h1 h4 hf hm hw
 rw[if_neg hx,hn,if_neg (fun h=>h rfl),if_neg hq] at e
 exact e
theorem Xq {o:Ob} {x:Nat} {u w:Int} (cF:ah.Pairwise (·.id< ·.id)):bh (dj (dj ah {b with used:=u,next:=w}) o) x=if x=o.id then some o else if x=b.id then some {b with used:=u,next:=w} else bh ah x:=by
 rw[oh (Gr cF),oh cF]
theorem k9.free {h h':aa} {a:KA} {lb N M:Nat} {ai:List Th} {n i:Nat} (e:k9 (h.clean n) a lb N M ai ah h') (bw: ∀b,FK a b\/FA a lb b\/FS a b->b<h.next):dL n h.next i h':=by
 obtain⟨aR,N',M',K,kf,_⟩:=e
 intro j _ hj
 rw[kf.2 _ (by show _<h.next+n;omega) (fun e=>by have:=bw _ (.inl e);omega) (fun e=>by have:=bw _ (.inr (.inl e));omega) (fun e=>by have:=bw _ (.inr (.inr e));omega)]
 simp only[aa.clean]
 rw[if_neg (by omega)]
theorem lmp:d8 aB=true:=by decide+kernel
theorem aji {P:Program} {h:aa} {a:KA} {lb N M:Nat} {tl:Nat->aH} (ok:ax P tb) (K:KL h a lb N M [a8 aB] ah) (k:fJ c) (h3:c.op=3) (hl:d8 c.ak=true/\names c.ak=true) (hc:c.bX=[]) (hN:N+1<2^19) (hM:M<128):
 ∃h',an P 10 [.ptr a.kb 0, .int .i64 0, .agg (c.c tl)] h (.ay [.int .u64 ((if(eg aB ah c).1≠0 then 0 else(eg aB ah c).2.1:Nat):Int), .int .i64 ((eg aB ah c).1:Int)]) h'/\k9 h a lb N M [a8 aB] (eg aB ah c).2.2 h':=by
 obtain⟨h',c1,e⟩:=LC ok K (t:=0) (c:=c) (tl:=tl) k (fun _=>⟨hl.1,by rw[hc];rfl⟩) hN hM (fun e=>by rw[h3] at e;cases e)
 rw[amB h3 hl.2] at c1
 rw[Y0 h3 hl.2] at e
 exact⟨h',c1,e⟩
end
section
open Go
variable {P:Program} {h:aa} {ah:List Ob}
structure Bx (q s i:Nat) (ah:List Ob):Prop where
 rt: ∃r,bh ah 1=some r/\r.kind=1/\r.ak=aB/\r.id=1/\r.bd=400/\r.used=1+q/\r.next=2
 bx: ∃b,bh ah 65=some b/\b.kind=1/\b.ak=aB/\b.id=65/\b.bd=q/\b.used=i*(1+s)/\b.next=i+1
def ff:Nat->Nat
 |0=>1
 |1=>66
 |i+2=>ff (i+1)*64+1
structure Dx (i:Nat) (ah:List Ob):Prop where
 up: ∀j,j<i->JR ah (ff j)
 at_: ∃x,bh ah (ff i)=some x/\x.kind=1/\x.ak=aB/\x.id=ff i/\x.next=(if i=0 then 2 else 1)/\101-10*(i:Int)<=x.bd-x.used
theorem Bx.dx {q s i:Nat} (B:Bx q s i ah) (hq:q<256):Dx 0 ah:=by
 obtain⟨⟨r,r1,r2,r3,r4,r5,r6,r7⟩,_⟩:=B
 exact⟨fun j hj=>by omega,r,r1,r2,r3,r4,r7,by omega⟩
theorem Zx {s:Nat}:List.replicate s [AV.int .u8 0]=BS (List.replicate s 0):=by unfold BS;rw[List.map_replicate];rfl
theorem mkl {s:Nat} (h:s<2^40):kG 1 (.int .i64 s) (.int .i64 s)=some s:=by
 show(if 0<=(s:Int)/\(s:Int)=s/\(s:Int)<2^40/\((1:Nat):Int)*s<=2^40 then some (s:Int).toNat else none)=_
 rw[if_pos (by omega),Int.toNat_natCast]
end
section
open Go
variable {P:Program} {h:aa}
theorem al8 {v m:Nat}:IntKind.wrap .u8 ((v:Int).fdiv (2^(8*m)))=((pL v m).toNat:Int):=by
 have p2:(2:Int)^(8*m)=((2^(8*m):Nat):Int):=by rw[Int.natCast_pow];rfl
 have e1:(v:Int).fdiv (2^(8*m))=((v/2^(8*m):Nat):Int):=by rw[p2,Int.fdiv_eq_ediv_of_nonneg _ (Int.natCast_nonneg _)];rfl
 rw[e1,BP]
 simp[IntKind.wrap,IntKind.signed,IntKind.bits]
theorem alK (ok:ax P tb) {b:List UInt8} {t:aH} {v n:Nat} {h:aa} (hn:n<=8) (hb:b.length<2^30): ∃v' h',an P 25 [.vs (BS b) t, .int .u64 v, .int .i64 n] h v' h'/\App h h' v' (BS (b++be v n))/\Old h h':=by
 refine ok.sT (rf:=yv) rfl (Nat.le_of_ble_eq_true rfl) ?_
 obtain⟨v1,h1,a1,a2,a3,a4,a5,a6,a7⟩:=(App.nil h h).app (Old.refl h) (bytes:=1) (sz:=1) (id:=h.next) (Nat.le_refl _) (BS b) rfl (by rw[bM];simp only[List.length_nil];omega) (by rw[bM];simp only[List.length_nil];omega)
 rw[List.nil_append] at a2
 have n0: ¬(n:Int)<0:=by omega
 have n8: ¬(8:Int)<(n:Int):=by omega
 simp+decide only[st,xv,yv,af4,af3,af2,af1,jT,List.replicate_zero,a1,n0,n8]
 let I:Nat->Env->aa->Prop:=fun m ρ H=>Old h H/\ ∃i pre,n=i+m/\be v n=pre++be v m/\pre.length=i/\ρ 1= .int .u64 v/\ρ 2= .int .i64 n/\ρ 8= .int .i64 i/\App h H (ρ 7) (BS (b++pre))
 refine dJ I ?_ n ⟨a3,0,[],by omega,rfl,rfl,rfl,rfl,rfl,by rw[List.append_nil];exact a2⟩
 rintro m ρ H ⟨ho,i,pre,qA,El,ir,r1,r2,r8,ha⟩
 cases m with
 |zero=>
  have aA: ¬(i:Int)<(n:Int):=by omega
  have hA:=ha
  obtain⟨tt,J8,_⟩:=ha
  simp+decide only[st,xv,yv,Ss,afY,r2,r8,aA,J8,ot,xr]
  rw[El,be,List.append_nil]
  exact⟨by rw[<-J8];exact hA,ho⟩
 |succ m=>
  have aA:(i:Int)<(n:Int):=by omega
  have w1:IntKind.wrap .i64 ((n:Int)-1)=((n-1:Nat):Int):=by rw[bH]<;>omega
  have w2:IntKind.wrap .i64 (((n-1:Nat):Int)-i)=(m:Int):=by rw[bH]<;>omega
  have w3:IntKind.wrap .i64 (8*(m:Int))=((8*m:Nat):Int):=by rw[bH]<;>omega
  have w4: ¬((8*m:Nat):Int)<0:=by omega
  have w5:min (8*m) (IntKind.u64.bits)=8*m:=Nat.min_eq_left (by show 8*m<=64;omega)
  have hw:=dv (show i<2^61 by omega)
  obtain⟨v',h2,b1,b2,b3,b4,b5,b6⟩:=ha.app ho (bytes:=1) (sz:=1) (id:=H.next) ho.next [[.int .u8 (pL v m).toNat]] gJ.lz (by rw[bM];simp only[List.length_singleton,List.length_append];omega) (by rw[bM];simp only[List.length_singleton,List.length_append];omega)
  simp+decide only[st,xv,yv,Ss,af0,afZ,r1,r2,r8,aA,w1,w2,w3,w4,w5,al8,b1,hw,List.length_cons,List.length_nil]
  exact⟨m,by omega,b3,i+1,pre++[pL v m],by omega,by rw[El,be];simp,by simp[ir],r1,r2,rfl,by rw[<-List.append_assoc,<-CM];exact b2⟩
theorem V2 (ok:ax P tb) {b:List UInt8} {l:Lb} {t t':aH} (hl:l.ok) (hb:b.length<2^20):an P 15 [.vs (BS b) t, .agg (l.c t')] h (.vs (BS (b++b9 l)) .ao) h:=by
 refine ok.eH (rf:=pK) rfl (Nat.le_of_ble_eq_true rfl) gJ.lj ?_
 have hd:=hl.d
 have ku:=hl.len
 simp+decide only[st,xv,pK,agI,Lb.c]
 obtain⟨X,hX⟩: ∃X,X=h.at h.next (.cells [.int .u8 l.d, .vs (aw.R l.ps) t']):=⟨_,rfl⟩
 have xo:Old h X:=by subst hX;exact(Old.refl h).at (Nat.le_refl _)
 have x1:cellsOf X h.next=some [.int .u8 l.d, .vs (aw.R l.ps) t']:=by subst hX;simp+decide only[st,xv]
 have xn:h.next<X.next:=by subst hX;simp[aa.at]
 rw[<-hX]
 refine ur ?_
 have hfc: ∀j,(X.clean 12).get (X.next+j)=none\/j<=2:=fun j=> .inl (by simp only[aa.clean];rw[if_neg (by omega)])
 obtain⟨v1,h1,a1,a2,a3,a4,a5⟩:=(App.nil X (X.clean 12)).vy (Old.refl X).clean (bytes:=1) (sz:=1) (base:=X.next) (n:=12) (i:=2) (Nat.le_refl _) (fun j _=>hfc j) (BS b) rfl (by rw[bM];simp only[List.length_nil];omega) (by rw[bM];simp only[List.length_nil];omega)
 rw[List.nil_append] at a2
 simp+decide only[st,xv,pK,SX,x1,xn,jT,List.replicate_zero]
 refine⟨v1,h1,a1,a5,fun x hx=>by rw[a3.get x hx];exact((Old.refl X).clean.get x hx).symm,?_⟩
 have y1:cellsOf h1 h.next=some [.int .u8 l.d, .vs (aw.R l.ps) t']:=by unfold cellsOf at x1 ⊢;rw[a3.get _ xn];exact x1
 have w1:IntKind.wrap .u8 (l.ps.length:Int)=((l.ps.length%256:Nat):Int):=by rw[wrap_u8];unfold vB;simp;omega
 simp+decide only[st,xv,pK,SX,y1,xn,aw.aS,w1]
 obtain⟨v2,h2,b1,b2,b3,b4,b5⟩:=a2.vy a3 (bytes:=1) (sz:=1) (base:=X.next) (n:=12) (i:=10) (Nat.le_refl _) (fun j hj=>by
  by_cases AT:j<=10
  ·exact .inr AT
  ·exact .inl (a5 j (by omega) hj)) [[AV.int .u8 l.d],[AV.int .u8 ((l.ps.length%256:Nat):Int)]] jT (by rw[bM];simp only[List.length_cons,List.length_nil];omega) (by rw[bM];simp only[List.length_cons,List.length_nil];omega)
 have e2:BS b++[[AV.int .u8 l.d],[AV.int .u8 ((l.ps.length%256:Nat):Int)]]=BS (b++be l.d 1++be l.ps.length 1):=by
  rw[List.append_assoc,<-CM]
  congr 1
  simp only[BS,be,List.map_append,List.map_cons,List.map_nil,List.cons_append,List.nil_append,BP,Nat.mul_zero,Nat.pow_zero,Nat.div_one]
  rw[Nat.mod_eq_of_lt hd]
 rw[e2] at b2
 simp+decide only[st,xv,b1]
 refine⟨b5,fun x hx=>by rw[b3.get x hx,a3.get x hx],?_⟩
 simp+decide only[st,xv,pK,agH]
 let I:Nat->Env->aa->Prop:=fun n ρ H=>Old X H/\ ∃i:Nat,l.ps.length=i+n/\ρ 3= .ptr h.next 0/\ρ 5= .int .i64 i/\App X H (ρ 0) (BS (b++be l.d 1++be l.ps.length 1++(l.ps.take i).flatMap i4))
 refine dJ I ?_ l.ps.length ⟨b3,0,by omega,rfl,rfl,by simp only[List.take_zero,List.flatMap_nil,List.append_nil];exact b2⟩
 clear a1 a2 a3 a4 a5 b1 b2 b3 b4 b5 y1
 rintro n ρ H ⟨ho,i,aE,r3,r5,ha⟩
 have y1:cellsOf H h.next=some [.int .u8 l.d, .vs (aw.R l.ps) t']:=by unfold cellsOf at x1 ⊢;rw[ho.get _ xn];exact x1
 have yn:h.next<H.next:=by have:=ho.next;omega
 by_cases hi:i<l.ps.length
 ·have aA:(i:Int)<(l.ps.length:Int):=by omega
  have dH:(0:Int)<=i:=by omega
  have hw:=dv (show i<2^61 by omega)
  have cw:(aw.R l.ps)[i]? =some [.int .u16 l.ps[i].1, .int .u8 l.ps[i].2]:=aw.gR hi
  have tN:=hl.ps _ (List.getElem_mem hi)
  have w3:IntKind.wrap .u64 (l.ps[i].1:Int)=l.ps[i].1:=fk (by omega)
  obtain⟨t0,r0,_⟩:=id ha
  have ir:=Lx (l:=l.ps.take i)
  have sh:=List.length_take_le i l.ps
  simp+decide only[st,xv,pK,SV,r3,r5,y1,yn,aw.aS,aA]
  refine ur ?_
  simp+decide only[st,xv,pK,agG,r0,r3,r5,y1,yn,dH,cw,w3]
  obtain⟨v3,H3,c1,c2,c3⟩:=alK ok (h:=H.clean 18) (b:=b++be l.d 1++be l.ps.length 1++(l.ps.take i).flatMap i4) (t:=t0) (v:=l.ps[i].1) (n:=2) (by omega) (by simp only[List.length_append,bO];omega)
  have f3: ∀j,j<18->H3.get (H.next+j)=none:=fun j hj=>by
   rw[c3.get _ (by show H.next+j<H.next+18;omega)];simp only[aa.clean];rw[if_neg (by omega)]
  refine⟨v3,H3,c1,fun j _ hj=>f3 j hj,fun x hx=>c3.get x (by show x<H.next+18;omega),?_⟩
  have y3:cellsOf H3 h.next=some [.int .u8 l.d, .vs (aw.R l.ps) t']:=by
   unfold cellsOf at y1 ⊢
   rw[c3.get _ (by show h.next<H.next+18;omega)];simp only[aa.clean];rw[if_pos yn];exact y1
  simp+decide only[st,xv,r3,r5,y3,yn,dH,cw]
  have o3:Old H H3:=(Old.refl H).clean.trans c3
  have c2':App H H3 v3 (BS (b++be l.d 1++be l.ps.length 1++(l.ps.take i).flatMap i4++be l.ps[i].1 2)):=by
   obtain⟨tt,e,q|⟨k,q1,q2,q3⟩⟩:=c2
   ·exact⟨tt,e, .inl q⟩
   ·exact⟨tt,e, .inr ⟨k,q1,by have:H.next+18<=k:=q2;omega,q3⟩⟩
  obtain⟨v4,h4,d1,d2,d3,d4,d5⟩:=c2'.vy o3 (bytes:=1) (sz:=1) (base:=H.next) (n:=18) (i:=16) (Nat.le_refl _) (fun j hj=> .inl (f3 j hj)) [[AV.int .u8 l.ps[i].2]] jT (by rw[bM];simp only[List.length_append,bO,List.length_cons,List.length_nil];omega) (by rw[bM];simp only[List.length_append,bO,List.length_cons,List.length_nil];omega)
  simp+decide only[st,xv,d1]
  refine⟨d5,fun x hx=>by rw[d3.get x hx,o3.get x hx],?_⟩
  simp+decide only[st,xv,pK,agF,r5,hw]
  refine⟨n-1,by omega,ho.trans d3,i+1,by omega,r3,rfl,?_⟩
  rw[List.take_succ_eq_append_getElem hi,List.flatMap_append]
  have e4:BS (b++be l.d 1++be l.ps.length 1++(l.ps.take i).flatMap i4++be l.ps[i].1 2)++[[AV.int .u8 l.ps[i].2]]=BS (b++be l.d 1++be l.ps.length 1++((l.ps.take i).flatMap i4++[l.ps[i]].flatMap i4)):=by
   rw[show [l.ps[i]].flatMap i4=be l.ps[i].1 2++be l.ps[i].2 1 by simp[i4],<-List.append_assoc,<-List.append_assoc,<-CM (m:=be l.ps[i].2 1)]
   congr 1
   simp only[BS,be,List.map_cons,List.map_nil,BP,Nat.mul_zero,Nat.pow_zero,Nat.div_one]
   rw[Nat.mod_eq_of_lt tN.2]
  rw[e4] at d2
  obtain⟨tt,e,q|⟨k,q1,q2,q3⟩⟩:=d2
  ·exact⟨tt,e, .inl q⟩
  ·exact⟨tt,e, .inr ⟨k,q1,by have:=ho.next;omega,q3⟩⟩
 ·have aA: ¬(i:Int)<(l.ps.length:Int):=by omega
  obtain⟨t0,r0,_⟩:=ha
  simp+decide only[st,xv,pK,SV,agE,r0,r3,r5,y1,yn,aw.aS,aA,bB]
  rw[List.take_of_length_le (by omega)]
  exact⟨by rw[show b++be l.d 1++be l.ps.length 1++l.ps.flatMap i4=b++b9 l by simp[b9]];exact gJ.kE,(xo.trans ho).get⟩
end
section
open Go
variable {P:Program} {h:aa} {ah:List Ob}
theorem WL (ok:ax P tb) {c:Nat}:an P 13 [.int .u16 c] h (.agg ((uH c).c .ao)) h:=by
 refine ok.eH (rf:=FJ) rfl (Nat.le_of_ble_eq_true rfl) rfl ?_
 simp+decide only[st,xv,FJ,agL,agK,bB,xr]
 refine⟨rfl,fun b hb=>?_⟩
 repeat rw[if_neg (by omega)]
theorem Yk {c:Nat} (hc:c<65536):(uH c).ok:=⟨by show 2<256;decide,fun p hp=>by rw[List.mem_singleton.1 hp];exact⟨hc,by show 4<256;decide⟩,by show 1<2^20;decide⟩
theorem Wm {c:Nat}:names (uH c)=true:=rfl
theorem akj {c:Nat}:d8 (uH c)=true:=rfl
theorem aiq {c:Nat}:m8 aB (uH c)=0:=by
 unfold m8
 rw[if_neg (by rw[Wm];simp),if_neg (by show¬0<0;omega),if_neg]
 unfold eX
 show¬(decide (2<=2)&&(mg 2 2 [] [(c,4)]).all tF)=false
 rw[H9,CP]
 simp[tF]
def gg (k c s:Nat):Cl:={od with op:=3,kind:=k,id:=1,ak:=uH c,n:=s,data:=List.replicate s 0}
def p7 (id:Nat):Cl:={od with op:=11,id:=id}
theorem YQ {id:Nat} (h:id<2^64):fJ (p7 id):=⟨sP,Nat.zero_le _,h,(by decide:0<2^64),(by decide:0<2^20),(by decide:0<2^16),fun _ h=>by cases h⟩
theorem amo {k c s:Nat} (hc:c<65536) (hs:s<60):fJ (gg k c s):=⟨Yk hc,(by decide:1<=16),(by decide:1<2^64),(by decide:0<2^64),(by show(List.replicate s (0:UInt8)).length<_;rw[List.length_replicate];omega),(by decide:0<2^16),fun _ h=>by cases h⟩
theorem amn {k c s:Nat} (h1:1<=k) (h4:k<=4) (hs:s<60):(eg aB [Am.root 200] (gg k c s)).1=0/\(eg aB [Am.root 200] (gg k c s)).2.1=65/\bh (eg aB [Am.root 200] (gg k c s)).2.2 65=some (db (gg k c s) 65)/\ ∃r,bh (eg aB [Am.root 200] (gg k c s)).2.2 1=some r/\r.kind=1/\r.ak=aB/\r.bd=200:=by
 have hk:bJ [Am.root 200] aB 1 1 (ef aB)=(Am.root 200,0):=by decide+kernel
 have hc: ∀i,0<=cost (db (gg k c s) i)/\cost (db (gg k c s) i)<=60:=fun i=>by
  unfold cost
  have e1:(db (gg k c s) i).bd=if(k:Int)=1 then(s:Int) else 0:=rfl
  have e2:(db (gg k c s) i).data=if(k:Int)=2 then List.replicate s 0 else []:=rfl
  rw[e1,e2]
  show 0<=(if(k:Int)=1 then _ else _)/\(if(k:Int)=1 then _ else _)<=60
  by_cases k1:(k:Int)=1
  ·rw[if_pos k1,if_pos k1];omega
  rw[if_neg k1]
  show 0<=(if(k:Int)=2 then _ else _)/\(if(k:Int)=2 then _ else _)<=60
  by_cases k2:(k:Int)=2
  ·rw[if_pos k2,if_pos k2,List.length_replicate];omega
  rw[if_neg k2]
  show 0<=(if(k:Int)=3 then _ else _)/\(if(k:Int)=3 then _ else _)<=60
  by_cases k3:(k:Int)=3
  ·rw[if_pos k3];omega
  rw[if_neg k3]
  show 0<=(if(k:Int)=4 then _ else _)/\(if(k:Int)=4 then _ else _)<=60
  split<;>omega
 have hf:lB aB (gg k c s)=0:=by
  unfold lB
  rw[if_neg (by show¬((k:Int)=1/\ ¬(0<=(s:Int)/\(s:Int)<=400));omega),if_neg (by show¬((k:Int)=2/\64<(List.replicate s (0:UInt8)).length);rw[List.length_replicate];omega),if_neg (fun h=>by cases h.2)]
 have e:=Xu (c:=gg k c s) (b:=Am.root 200) (ah:=[Am.root 200]) (i:=65) hk (by show(1:Int)<=k;omega) (by show(k:Int)<=4;omega) hf aiq (fun i=>(hc i).1) (by decide) (by decide+kernel) (by have:=(hc 65).2;show¬(200:Int)-0<_;omega)
 rw[e]
 have ko:(db (gg k c s) 65).id=65:=rfl
 have cF:[Am.root 200].Pairwise (·.id< ·.id):=by simp
 refine⟨rfl,rfl,?_,{Am.root 200 with used:=(Am.root 200).used+cost (db (gg k c s) 65),next:=(Am.root 200).next+1},?_,rfl,rfl,rfl⟩
 ·rw[Xq cF,ko,if_pos rfl]
 ·rw[Xq cF,ko,if_neg (by decide),if_pos (show 1=(Am.root 200).id from rfl)]
theorem Mu {id:Nat} {o:Ob} (hc:dq ah aB id=(o,0)):eD 0 [a8 aB] ah (p7 id)=⟨⟨0,0,if o.kind=2 then o.data.length else if o.kind=1 then o.bd.toNat else 0,UInt8.ofNat o.kind.toNat::b9 o.ak⟩,true,[a8 aB],ah⟩:=by
 refine(yP (t:=0) (ai:=[a8 aB]) (ah:=ah) (c:=p7 id) (x:=a8 aB) (by decide) rfl rfl rfl).trans ?_
 rw[BB (fun h=>by rcases h.1 with h|h<;>cases h)]
 have e:sS 0 (a8 aB) ah (p7 id) 0=⟨true,(mf aB ah (p7 id)).1,a8 aB,ah,(mf aB ah (p7 id)).2.1,(mf aB ah (p7 id)).2.2⟩:=rfl
 have e2:mf aB ah (p7 id)=(0,if o.kind=2 then o.data.length else if o.kind=1 then o.bd.toNat else 0,UInt8.ofNat o.kind.toNat::b9 o.ak):=by
  unfold mf
  rw[show(p7 id).id=id from rfl,hc]
  rfl
 rw[e,e2];rfl
theorem W4 {r:Ob} (h:bh ah 1=some r):dq ah aB 1=(r,0):=by
 unfold dq
 rw[show fD 1=[1] by decide+kernel]
 show eI ah aB ((bh ah 1).getD bf) []=_
 rw[h]
 rfl
theorem awX (ok:ax P tb) {kd c n:Nat} (yf:kd<256) (hc:c<65536) (hn:n<256): ∃h',an P 5 [.int .u8 kd, .int .u16 c, .int .u8 n] h (.bool true) h'/\True:=by
 refine ok.dT (rf:=c5) rfl (Nat.le_of_ble_eq_true rfl) ?_
 simp+decide only[st,xv,c5,ahB,T7]
 refine au (VZ ok) ?_
 simp+decide only[st,xv,c5,T7,T6]
 obtain⟨a,lb,h1,bj,K,o,kn,kt⟩:=Wn ok (h:=h) (q:=200) (n:=1) (by decide) (by decide) (by decide) (by decide)
 refine au bj ?_
 have wk:IntKind.wrap .i64 ((kd:Int).tmod 4)=((kd%4:Nat):Int):=by
  rw[show(kd:Int).tmod 4=((kd%4:Nat):Int) from(Int.ofNat_tmod kd 4).symm]
  exact bH (by omega) (by omega)
 have wk1:IntKind.wrap .i64 (1+((kd%4:Nat):Int))=((1+kd%4:Nat):Int):=by rw[bH]<;>omega
 have wn:IntKind.wrap .i64 ((n:Int).tmod 60)=((n%60:Nat):Int):=by
  rw[show(n:Int).tmod 60=((n%60:Nat):Int) from(Int.ofNat_tmod n 60).symm]
  exact bH (by omega) (by omega)
 simp+decide only[st,xv,c5,T6,ahA,ahz,ahy,wk,wk1,wn]
 have k1:1<=1+kd%4:=by omega
 have k4:1+kd%4<=4:=by omega
 have hs:n%60<60:=by omega
 generalize 1+kd%4=k at*
 generalize n%60=s at*
 refine bU 14 rfl rfl ?_
 simp+decide only[st,xv,c5,T5]
 refine fj (WL ok) (cO (Nat.le_refl _)) ?_
 simp+decide only[st,xv,Lb.c,uH,mkl (show s<2^40 by omega),Zx]
 obtain⟨e1,e2,e3,r,r1,r2,r3,r4⟩:=amn (c:=c) k1 k4 hs
 obtain⟨h2,a9,hE⟩:=aji ok (K.old (h':=h1.clean 14) (Old.refl h1).clean) (c:=gg k c s) (tl:=aU) (amo hc hs) rfl ⟨akj,Wm⟩ rfl (by omega) (by omega)
 have fb:=hE.free K.k.bw (i:=8)
 obtain⟨vC,N2,M2,K2,kQ,eV,Kt,Ku⟩:=hE
 rw[e1,e2,if_neg (by decide)] at a9
 refine fj a9 fb ?_
 generalize(eg aB [Am.root 200] (gg k c s)).2.2=au3 at*
 have g65:dq au3 aB 65=(db (gg k c s) 65,0):=aiB (ps:=[]) (show fD 65=[1,65] by decide+kernel) ⟨r,r1,r2,r3⟩ (fun _ h=>by cases h) e3
 have avz:(if(db (gg k c s) 65).kind=2 then(db (gg k c s) 65).data.length else if(db (gg k c s) 65).kind=1 then(db (gg k c s) 65).bd.toNat else 0)=if k<=2 then s else 0:=by
  have e1:(db (gg k c s) 65).bd=if(k:Int)=1 then(s:Int) else 0:=rfl
  have e2:(db (gg k c s) 65).data=if(k:Int)=2 then List.replicate s 0 else []:=rfl
  rw[e1,e2]
  show(if(k:Int)=2 then _ else if(k:Int)=1 then _ else 0)=_
  by_cases q2:(k:Int)=2
  ·rw[if_pos q2,if_pos q2,List.length_replicate,if_pos (by omega)]
  rw[if_neg q2]
  by_cases q1:(k:Int)=1
  ·rw[if_pos q1,if_pos q1,if_pos (by omega),Int.toNat_natCast]
  ·rw[if_neg q1,if_neg (by omega)]
 simp+decide only[st,xv,c5,T5,T4,xr]
 obtain⟨h3,fp,UI,N3,M3,K3,vD,vK,hN3,hM3⟩:=K2.do ok (t:=0) (c:=p7 65) (tl:=fun _=> .full) (YQ (by decide)) (fun e=>by cases e) (by omega) (by omega) (fun e=>by cases e)
 rw[Mu g65,avz] at fp
 rw[Mu g65] at K3
 refine au fp ?_
 simp+decide only[st,xv,c5,T4,Cr.v,Rp.c,xr]
 generalize hX:aa.set _ _ _=X
 have oX:Old h3 X:=by rw[<-hX];exact((Old.refl h3).at (Nat.le_refl _)).set (Nat.le_refl _)
 have nX:X.next=h3.next+1:=by rw[<-hX];simp[aa.at,aa.set]
 have x0:X.get h3.next=some (.cells [.int .i64 0, .int .i64 0, .int .u64 ((if k<=2 then s else 0:Nat):Int), .vs (BS (UInt8.ofNat (db (gg k c s) 65).kind.toNat::b9 (db (gg k c s) 65).ak)) .ao]):=by rw[<-hX];simp[aa.set]
 simp+decide only[st,xv,c5,Rt,xr]
 have KX:=K3.old oX
 obtain⟨h4,sr,UH,N4,M4,K4,J5,hl4,hN4,hM4⟩:=KX.do ok (t:=0) (c:=p7 1) (tl:=fun _=> .full) (YQ (by decide)) (fun e=>by cases e) (by omega) (by omega) (fun e=>by cases e)
 rw[Mu (W4 r1)] at sr
 refine au sr ?_
 have bw:=K3.k.bw
 have nh:=J5.1
 have x4:h4.get h3.next=_:=(J5.2 h3.next (by omega) (fun e=>by have:=bw _ (.inl e);omega) (fun e=>by have:=bw _ (.inr (.inl e));omega) (fun e=>by have:=bw _ (.inr (.inr e));omega)).trans x0
 simp+decide only[st,xv,c5,Rt,Cr.v,Rp.c,xr]
 generalize hY:aa.set _ _ _=Y
 have oY:Old h4 Y:=by rw[<-hY];exact((Old.refl h4).at (Nat.le_refl _)).set (Nat.le_refl _)
 have nY:Y.next=h4.next+1:=by rw[<-hY];simp[aa.at,aa.set]
 rw[r2,r3,r4] at hY
 have y1:cellsOf Y h3.next=_:=av ((oY.get _ (by omega)).trans x4)
 have y2:cellsOf Y h4.next=_:=av (show Y.get h4.next=some (.cells [.int .i64 0, .int .i64 0, .int .u64 200, .vs (BS (1::b9 aB)) .ao]) by rw[<-hY];simp[aa.set])
 clear hX hY x0 x4
 have wu:IntKind.wrap .u64 (s:Int)=s:=fk (by omega)
 have wk8:IntKind.wrap .u8 (k:Int)=((UInt8.ofNat k).toNat:Int):=by rw[wrap_u8];unfold vB;simp;omega
 have pn:UInt8.ofNat (db (gg k c s) 65).kind.toNat=UInt8.ofNat k:=rfl
 rw[pn,show(db (gg k c s) 65).ak=uH c from rfl] at y1
 have d1: ∀x:List UInt8,cB false .eql (.str ⟨x.toArray⟩) (.str ⟨x.toArray⟩)=some (.bool true):=fun x=>by rw[amc];simp
 have i1:h3.next<Y.next:=by omega
 have i2:h4.next<Y.next:=by omega
 simp+decide only[st,xv,c5,aeD]
 have fin: ∀ρ:Env,ρ 1= .int .u16 c->ρ 8= .int .i64 k->ρ 11= .int .i64 0->ρ 12= .ptr h3.next 0->ρ 13= .bool true->ρ 14= .ptr h4.next 0->ρ 15= .bool true->ρ 16= .int .u64 ((if k<=2 then s else 0:Nat):Int)->exec P DA ρ Y (jl (WP P (.seq (.af Dz) (.seq (.af Rq) .ret)) (uO [.tmp 6] (.bool true) fun _=>True)) (uO [.tmp 6] (.bool true) fun _=>True) .normal):=by
  intro ρ r1 r8 fM fR dN fK eL jF
  simp+decide only[st,xv,c5,DA,r1,r8,wk8,xr]
  refine au (WL ok) ?_
  simp+decide only[st,xv,c5,DA,xr]
  refine au (V2 ok (b:=[UInt8.ofNat k]) (t:= .full) (Yk hc) (by simp)) ?_
  simp+decide only[st,xv,c5,DA,Dz,jT,L7,xr]
  refine au (Lc ok) ?_
  simp+decide only[st,xv,c5,Dz,xr]
  refine au (V2 ok (b:=[1]) (t:= .full) v7 (by simp)) ?_
  simp+decide only[st,xv,c5,Dz,Rq,jT,L7,List.cons_append,List.nil_append,r1,r8,fM,fR,dN,fK,eL,jF,y1,y2,i1,i2,d1,xr]
  exact⟨rfl,trivial⟩
 by_cases kS:k<=2
 ·have Tt:(k:Int)<=2:=by omega
  simp+decide only[st,xv,c5,Rs,aeC,Tt,wu]
  rw[if_pos kS] at fin
  exact fin _ rfl rfl rfl rfl rfl rfl rfl rfl
 ·have Tt: ¬(k:Int)<=2:=by omega
  simp+decide only[st,xv,c5,Rs,Tt]
  rw[if_neg kS] at fin
  exact fin _ rfl rfl rfl rfl rfl rfl rfl rfl
end
section
open Go
def SB (P:Program) (c:aW) (ρ:Env) (h:aa) (e:aP) (ρ':Env) (h':aa):Prop:=
 ∀(md:Mode) (n:Nat) (ι:aG) (I:aQ) (w:World) (a:Act),HR ι I h w->AR ι I w n ρ a-> ∀cc,d7 P md n cc=some c->cc.wp P (rU n ι I h w e ρ' h') a w
def SW (P:Program) (c:aW) (K:aP->Env->aa->Prop) (ρ:Env) (h:aa):Prop:= ∃e ρ' h',SB P c ρ h e ρ' h'/\K e ρ' h'
section
variable {P:Program} {ρ:Env} {h:aa} {K:aP->Env->aa->Prop}
theorem aq1 (hm:P.follows .mixedOrders=true) {c:aW} (hw:WP P c K ρ h):SW P c K ρ h:=by
 obtain⟨e,ρ',h',hb,hk⟩:=hw
 exact⟨e,ρ',h',fun md n ι I w a H A cc hc=>(LK (md:=md) hm hb).wp H A hc,hk⟩
def acu (k:Env->aa->Prop):aP->Env->aa->Prop
 | .normal,ρ,h=>k ρ h
 |_,_,_=>False
theorem yV {k:Env->aa->Prop}:acu k .normal ρ h=k ρ h:=rfl
theorem yY (hm:P.follows .mixedOrders=true) {x y:aW} (hw:WP P x (acu fun ρ h=>SW P y K ρ h) ρ h):SW P (.seq x y) K ρ h:=by
 obtain⟨e,ρ1,h1,hb,hk⟩:=hw
 cases e with
 |normal=>
  obtain⟨e,ρ2,h2,hs,hk⟩:=hk
  refine⟨e,ρ2,h2,fun md n ι I w a H A cc hc=>?_,hk⟩
  obtain⟨cx,cy,rfl,hx,hy⟩:=jP hc
  refine wp_seq (wp_mono ((LK (md:=md) hm hb).wp H A hx) ?_)
  rintro _ a1 w1 ⟨rfl,ι1,I1,A1,H1,E1⟩
  exact wp_mono (hs md n ι1 I1 w1 a1 H1 A1 cy hy) (fun _ _ _ hp=>hp.trans E1)
 |ret=>exact hk.elim
 |exit id=>exact hk.elim
 |goto l=>exact hk.elim
theorem anv {c:aW} {s b off len sz:Nat} {cs:List AV} (hs:ρ s= .rs b off len sz) (hg:h.get b=some (.cells cs)) (hw:SW P c K (fun s=>AV.dQ b cs (ρ s)) (h.set b none)):SW P c K ρ h:=by
 obtain⟨e,ρ',h',hsb,hk⟩:=hw
 refine⟨e,ρ',h',fun md n ι I w a H A cc hc=>?_,hk⟩
 have hv:=A.get s
 rw[hs] at hv
 generalize a.tmps.getD s Go.undef=v at hv
 obtain⟨cb,o,room,bP⟩: ∃cb o room,ι b=some (.cells cb o room):=by
  cases hv with
  |rs _ _ _ _ cb o room cap bP _ _=>exact⟨cb,o,room,bP⟩
 have aT: ∀i x,(h.set b none).get i=some x->i≠b/\h.get i=some x:=fun i x hx=>by
  by_cases lV:i=b
  ·subst lV;simp[aa.set] at hx
  ·exact⟨lV,by simpa [aa.set,lV] using hx⟩
 have cq: ∀a c,VR ι I w a c->VR ι (rN I cb o room) w a c:=fun a c h=>h.mono (fun _ _ h=>h) (fun _ _ h=> .inl h) (fun _ _ _=>rfl)
 have H2:HR ι (rN I cb o room) (h.set b none) w:=
  {cD:=H.cD,inside:=H.inside
   cells:=fun i cs l hg hi=>by
    obtain⟨fY,o',me,e1,e2,e3,e4⟩:=H.cells i cs l (aT i _ hg).2 hi
    exact⟨fY,o',me,e1,e2,e3,fun j hj=>by obtain⟨c,g1,g2,g3⟩:=e4 j hj;exact⟨c,g1,g2,fun v hv=>cq _ _ (g3 v hv)⟩⟩
   maps:=fun i es l hg hi=>by
    obtain⟨fY,aV,clock,e1,e2,e3,e4⟩:=H.maps i es l (aT i _ hg).2 hi
    exact⟨fY,aV,clock,e1,e2,e3,fun j k v e h1 h2=>⟨cq _ _ (e4 j k v e h1 h2).1,cq _ _ (e4 j k v e h1 h2).2⟩⟩
   eQ:=fun i l hg hi=>H.eQ i l (aT i _ hg).2 hi
   dm:=fun i j l l' x x' k j' aM hi hj hg cC=>H.dm i j l l' x x' k j' aM hi hj (aT i _ hg).2 (aT j _ cC).2
   bn:=fun i l x k j hi hg hl hk=>by
    rcases hk with hk|⟨rfl,h1,h2⟩
    ·exact H.bn i l x k j hi (aT i _ hg).2 hl hk
    ·exact H.dm i b l _ x _ k j (aT i _ hg).1 hi bP (aT i _ hg).2 ‹_› hl rfl
   dg:=fun k j hk=>by
    rcases hk with hk|⟨rfl,_,_⟩
    ·exact H.dg k j hk
    ·exact H.inside b _ bP
   pl:=fun i cs cb o room hg hi=>H.pl i cs cb o room (aT i _ hg).2 hi}
 have A2:AR ι (rN I cb o room) w n (fun s=>AV.dQ b cs (ρ s)) a:=⟨A.defers,A.size,fun t=>(A.get t).dQ H hg bP⟩
 have ho: ∀k j,ew ι (h.set b none) k j->ew ι h k j:=fun k j ⟨i,l,x,hi,hg,hl⟩=>⟨i,l,x,hi,(aT i _ hg).2,hl⟩
 refine wp_mono (hsb md n ι _ w a H2 A2 cc hc) ?_
 rintro x a' w' ⟨hx,ι',I',A',H',E⟩
 refine⟨hx,ι',I',A',H',?_⟩
 exact
 {eJ:=E.eJ,bN:=E.bN,next:=E.next,bn:=fun k j h=>E.bn k j (.inl h),os:=E.os,tape:=E.tape,output:=E.output,size:=E.size
  block:=fun k hk hn=>E.block k hk (fun j hj=>hn j (ho k j hj))
  cell:=fun k j hk hn=>E.cell k j hk (fun hj=>hn (ho k j hj))
  frozen:=fun k j hk hn=>E.frozen k j hk (fun hj=>hn (ho k j hj))
  own:=fun k j hj=>(E.own k j hj).imp (ho k j) id
  fQ:=fun k j hj=>by
   rcases E.fQ k j hj with(h|⟨rfl,h1,h2⟩)|h|h
   ·exact .inl h
   ·exact .inr (.inl ⟨b,_,_,bP,hg,rfl⟩)
   ·exact .inr (.inl (ho k j h))
   ·exact .inr (.inr h)
  lost:=fun i hn hi=>by
   rw[E.lost i hn hi]
   have:i≠b:=fun e=>by rw[e,bP] at hi;cases hi
   simp[aa.set,this]}
theorem Wa {f:Nat} {fn:Func} {rf:az} {md:Mode} (hf:P.funcs[f]? =some fn) (hc:aC P md fn=some rf) {args:List AV} (dZ:args.length<=rf.ntmps)
 {h h':aa} {e:aP} {ρ':Env} {vs:List AV} (hb:SB P rf.code (gF args) h e ρ' h') (he:e= .normal\/e= .ret) (hr:dD ρ' h' rf.results=some vs):an P f args h (eO vs) h':=by
 intro ι I w bC H hl
 unfold aC at hc
 simp only[Option.bind_eq_bind,Option.bind_eq_some_iff] at hc
 obtain⟨c,PO,code,PN,rs,ya,hc⟩:=hc
 cases hc
 simp only at*
 refine calls_of_wp hf PO ?_
 have aO:bC.size=args.length:=by have:=hl.1;simpa using this.symm
 have A:AR ι I w fn.ntmps (gF args) {tmps:=bC++Array.replicate (fn.ntmps-bC.size) undef,defers:=[]}:=by
  refine⟨rfl,by simp;omega,fun t=>?_⟩
  by_cases ht:t<args.length
  ·have h1:=List.getElem?_eq_getElem ht
   obtain⟨u,hu,hv⟩:=hl.get h1
   have e1:gF args t=args[t]:=by simp[gF,List.getD,h1]
   have e2:(bC++Array.replicate (fn.ntmps-bC.size) undef).getD t undef=u:=by
    rw[Array.getD_eq_getD_getElem?,Array.getElem?_append_left (by omega)]
    have:bC[t]? =some u:=by simpa using hu
    rw[this];rfl
   rw[e1,e2];exact hv
  ·have e1:gF args t= .ay []:=by simp[gF,List.getD,List.getElem?_eq_none (show args.length<=t by omega)]
   have e2:(bC++Array.replicate (fn.ntmps-bC.size) undef).getD t undef=undef:=by
    rw[Array.getD_eq_getD_getElem?,Array.getElem?_append_right (by omega),Array.getElem?_replicate]
    split<;>rfl
   rw[e1,e2];exact LN
 refine wp_mono (hb md _ ι I w _ H A _ PN) ?_
 rintro _ a' w' ⟨rfl,ι',I',A',H',E⟩
 obtain⟨u,hu,hv⟩:=Wf H' A' ya hr
 have:bodyPost P fn (fun e w'=> ∃v ι' I',e= .returned v/\VR ι' I' w' (eO vs) v/\HR ι' I' h' w'/\Ext (h.next<= ·) ι I h w ι' I' h' w') .normal a' w':=
  ⟨A'.defers,u,hu,u,ι',I',rfl,hv,H',E⟩
 rcases he with rfl|rfl
 ·exact this
 ·exact this
theorem ax.apn {T:fq} (ok:ax P T) {f:Nat} {rf:az} (hf:T.fn f=some rf) {args:List AV} (dZ:args.length<=rf.ntmps) {r:AV} {Q:aa->Prop}
 (hw:SW P rf.code (uO rf.results r Q) (gF args) h): ∃h',an P f args h r h'/\Q h':=by
 obtain⟨fn,md,h2,h3⟩:=ok.fn f rf hf
 obtain⟨e,ρ',h',hb,hk⟩:=hw
 cases e with
 |normal=>
  obtain⟨hv,hq⟩:=hk
  obtain⟨vs,qq,rfl⟩:=Option.map_eq_some_iff.1 hv
  exact⟨h',Wa h2 h3 dZ hb (.inl rfl) qq,hq⟩
 |ret=>
  obtain⟨hv,hq⟩:=hk
  obtain⟨vs,qq,rfl⟩:=Option.map_eq_some_iff.1 hv
  exact⟨h',Wa h2 h3 dZ hb (.inr rfl) qq,hq⟩
 |exit id=>exact hk.elim
 |goto l=>exact hk.elim
end
end
section
open Go
variable {P:Program} {h:aa} {ah:List Ob} {d:List UInt8}
def cz (d:List UInt8) (k:Nat):List UInt8:=d.take k++List.replicate (40-k) 0
theorem MH {k:Nat} (hd:d.length=40) (hk:k<=40):(cz d k).length=40:=by
 simp[cz];omega
theorem amU {k e:Nat} (hd:d.length=40) (h1:k<=e) (h2:e<=40):tz (cz d k) k ((d.take e).drop k)=cz d e:=by
 unfold tz cz
 have e1:(d.take k++List.replicate (40-k) (0:UInt8)).take k=d.take k:=ou (by simp;omega)
 have e2:k+((d.take e).drop k).length=e:=by simp;omega
 have e3:(d.take k++List.replicate (40-k) (0:UInt8)).drop e=List.replicate (40-e) 0:=by
  rw[List.drop_append,List.drop_of_length_le (by simp;omega),List.nil_append,List.drop_replicate]
  congr 1;simp;omega
 rw[e1,e2,e3]
 congr 1
 have:d.take k=(d.take e).take k:=by rw[List.take_take];congr 1;omega
 rw[this,List.take_append_drop]
theorem ZQ {k i:Nat} (hd:d.length=40) (hk:k<=40):(cz d k).getD i 0=if i<k then d.getD i 0 else 0:=by
 unfold cz
 rw[List.getD_eq_getElem?_getD,List.getD_eq_getElem?_getD,List.getElem?_append,List.getElem?_take,List.getElem?_replicate,List.length_take]
 by_cases h:i<k
 ·rw[if_pos (by omega),if_pos h,if_pos h]
 ·rw[if_neg (by omega),if_neg h]
  split<;>rfl
def sg (id:Nat) (b:List UInt8):Ob:={bf with id:=id,kind:=2,ak:=aB,data:=b}
def xV (u n:Int):Ob:={Am.root 200 with used:=u,next:=n}
def eh (d z:List UInt8):List Ob:=[xV 82 3,sg 65 d,sg 66 z]
def td (b:List UInt8):Cl:={od with op:=3,kind:=2,id:=1,ak:=aB,data:=b}
def iX (c:Nat):Cl:={od with op:=10,id:=65,to:=66,n:=c}
def rY:Cl:={od with op:=4,id:=66,n:=40}
def tE (k c:Nat):Th:={a8 aB with dw:=2,id:=65,to:=66,done:=k,n:=c}
theorem YU {b:List UInt8} (h:b.length=40):fJ (td b):=⟨v7,(by decide:0<=16),(by decide:1<2^64),(by decide:0<2^64),(by show b.length<_;omega),(by decide:0<2^16),fun _ h=>by cases h⟩
theorem apm {c:Nat}:fJ (iX c):=⟨sP,Nat.zero_le _,(by decide:65<2^64),(by decide:66<2^64),(by decide:0<2^20),(by decide:0<2^16),fun _ h=>by cases h⟩
theorem Zz:fJ rY:=⟨sP,Nat.zero_le _,(by decide:66<2^64),(by decide:0<2^64),(by decide:0<2^20),(by decide:0<2^16),fun _ h=>by cases h⟩
theorem YT {r:Ob} {i:Nat} {b:List UInt8} (hb:b.length=40) (h1:bh ah 1=some r) (hk:r.kind=1) (hl:r.ak=aB) (hx: ¬63<r.next) (hn:eC r.id r.next=(i,0)) (hq: ¬r.bd-r.used<41):
 eg aB ah (td b)=(0,i,dj (dj ah {r with used:=r.used+41,next:=r.next+1}) (sg i b)):=by
 have hc: ∀i,cost (db (td b) i)=41:=fun i=>by
  show(1:Int)+(b.length:Nat)=_
  rw[hb];rfl
 have hf:lB aB (td b)=0:=by unfold lB;rw[if_neg (fun h=>by cases h.1),if_neg (by show¬((2:Int)=2/\64<b.length);omega),if_neg (fun h=>by cases h.1)]
 have e:=Xu (c:=td b) (b:=r) (ah:=ah) (akm (W4 h1) hk hl) (by show(1:Int)<=2;decide) (by show(2:Int)<=4;decide) hf lm0 (fun i=>by rw[hc];decide) hx hn (by rw[hc];exact hq)
 rw[hc] at e
 exact e
theorem Yq {c:Cl} (h3:c.op=3) (hl:names c.ak=true):eD 0 [a8 aB,a8 aB] ah c=⟨if(eg aB ah c).1≠0 then⟨0,(eg aB ah c).1,0,[]⟩ else⟨0,0,(eg aB ah c).2.1,[]⟩,true,[a8 aB,a8 aB],(eg aB ah c).2.2⟩:=by
 refine(yP (t:=0) (ai:=[a8 aB,a8 aB]) (ah:=ah) (c:=c) (x:=a8 aB) (by decide) rfl rfl rfl).trans ?_
 rw[BB (fun h=>by rw[hl] at h;cases h.2)]
 unfold sS
 rw[if_neg (by omega),if_neg (by omega),if_pos h3]
 rfl
theorem amW (hd:d.length=40):eD 0 [a8 aB,a8 aB] [Am.root 200] (td d)=⟨⟨0,0,65,[]⟩,true,[a8 aB,a8 aB],[xV 41 2,sg 65 d]⟩:=by
 rw[Yq rfl lnm,YT (r:=Am.root 200) (i:=65) hd rfl rfl rfl (by decide) (by decide+kernel) (by decide)]
 rfl
theorem amV {z:List UInt8} (hz:z.length=40):eD 0 [a8 aB,a8 aB] [xV 41 2,sg 65 d] (td z)=⟨⟨0,0,66,[]⟩,true,[a8 aB,a8 aB],eh d z⟩:=by
 rw[Yq rfl lnm,YT (r:=xV 41 2) (i:=66) hz rfl rfl rfl (by decide) (by decide+kernel) (by decide)]
 rfl
theorem ZS {z:List UInt8}:bJ (eh d z) aB 65 2 (eS aB)=(sg 65 d,0):=LD (r:=xV 82 3) rfl rfl xX (by decide) rfl xX rfl
theorem ZR {z:List UInt8}:bJ (eh d z) aB 66 2 (eX aB)=(sg 66 z,0):=LD (r:=xV 82 3) rfl rfl xX (by decide) rfl pp3 rfl
theorem apj {z:List UInt8}:bJ (eh d z) aB 66 2 (eS aB)=(sg 66 z,0):=LD (r:=xV 82 3) rfl rfl xX (by decide) rfl xX rfl
theorem apk {z y:List UInt8}:AD (eh d z) (sg 66 z) y=eh d y:=rfl
theorem Y7 {k c:Nat} (hd:d.length=40) (hk:k<=c) (hc:c<=40):fE (a8 aB) (eh d (cz d k)) (iX c) k=if k+4<c then(false,0,tE (k+4) c,eh d (cz d (k+4)),0) else(true,0,a8 aB,eh d (cz d c),c):=by
 unfold fE
 rw[show(a8 aB).ak=aB from rfl,show(iX c).id=65 from rfl,show(iX c).to=66 from rfl,ZS,ZR,if_neg (fun h=>h rfl),if_neg (fun h=>h rfl)]
 have hl:=MH (k:=k) hd (by omega)
 rw[if_neg (by show¬ ¬(0<=(c:Int)/\(c:Int)<=min (d.length:Int) (cz d k).length);omega)]
 unfold EV
 have e1:(max 0 (min (k:Int) (iX c).n)).toNat=k:=by show(max 0 (min (k:Int) (c:Int))).toNat=k;omega
 have e2:(iX c).n.toNat=c:=Int.toNat_natCast c
 simp only[e1,e2]
 rw[show(sg 65 d).data=d from rfl,show(sg 66 (cz d k)).data=cz d k from rfl,amU hd (by omega) (by omega),apk]
 by_cases h4:k+4<c
 ·rw[if_pos (by omega),if_pos h4,show min (k+4) c=k+4 by omega];rfl
 ·rw[if_neg (by omega),if_neg h4,show min (k+4) c=c by omega]
theorem apl {z:List UInt8} {c:Nat} (hd:d.length=40) (hc:40<c):fE (a8 aB) (eh d z) (iX c) 0=(true,11,a8 aB,eh d z,0):=by
 unfold fE
 rw[show(a8 aB).ak=aB from rfl,show(iX c).id=65 from rfl,show(iX c).to=66 from rfl,ZS,ZR,if_neg (fun h=>h rfl),if_neg (fun h=>h rfl)]
 rw[if_pos (by show¬(0<=(c:Int)/\(c:Int)<=min (d.length:Int) z.length);omega)]
theorem Mi {t:Nat} {x:Th} {z:List UInt8} {c:Nat} {done:Int}:kK t x (eh d z) (iX c) done=⟨(fE x (eh d z) (iX c) done).1,(fE x (eh d z) (iX c) done).2.1,(fE x (eh d z) (iX c) done).2.2.1,(fE x (eh d z) (iX c) done).2.2.2.1,(fE x (eh d z) (iX c) done).2.2.2.2,[]⟩:=by
 rw[BB (fun h=>by rcases h.1 with h|h<;>cases h)]
 rfl
def qD (d:List UInt8) (k c:Nat):Cr:=if k+4<c then⟨nD,false,[tE (k+4) c,a8 aB],eh d (cz d (k+4))⟩ else⟨⟨0,0,c,[]⟩,true,[a8 aB,a8 aB],eh d (cz d c)⟩
theorem as9 {c:Nat} (hd:d.length=40) (hc:c<=40):eD 0 [a8 aB,a8 aB] (eh d (cz d 0)) (iX c)=qD d 0 c:=by
 refine(yP (t:=0) (ai:=[a8 aB,a8 aB]) (ah:=eh d (cz d 0)) (c:=iX c) (x:=a8 aB) (by decide) rfl rfl rfl).trans ?_
 rw[Mi,show(0:Int)=((0:Nat):Int) from rfl,Y7 hd (by omega) hc]
 unfold qD
 by_cases h4:0+4<c
 ·simp only[if_pos h4];rfl
 ·simp only[if_neg h4];rfl
theorem akH {c:Nat} (hd:d.length=40) (hc:40<c):eD 0 [a8 aB,a8 aB] (eh d (cz d 0)) (iX c)=⟨⟨0,11,0,[]⟩,true,[a8 aB,a8 aB],eh d (cz d 0)⟩:=by
 refine(yP (t:=0) (ai:=[a8 aB,a8 aB]) (ah:=eh d (cz d 0)) (c:=iX c) (x:=a8 aB) (by decide) rfl rfl rfl).trans ?_
 rw[Mi,apl hd hc];rfl
theorem as8 {k c:Nat} (hd:d.length=40) (hk:k<c) (hc:c<=40):lQ 0 [tE k c,a8 aB] (eh d (cz d k))=qD d k c:=by
 have h2:oM [tE k c,a8 aB] 0=true:=rfl
 unfold lQ
 rw[if_neg (by simp[h2])]
 show(if(tE k c).dw=1 then _ else mc 0 [tE k c,a8 aB] (tE k c) (eh d (cz d k)) (iX c) k)=_
 rw[if_neg (by show¬(2:Int)=1;decide)]
 unfold mc
 rw[show rB (tE k c)=a8 aB from rfl,Mi,Y7 hd (by omega) hc]
 unfold qD
 by_cases h4:k+4<c
 ·simp only[if_pos h4];rfl
 ·simp only[if_neg h4];rfl
theorem Y6 {x:Th} {z:List UInt8} (hz:z.length=40):eD 1 [x,a8 aB] (eh d z) rY=⟨⟨1,0,0,z⟩,true,[x,a8 aB],eh d z⟩:=by
 refine(yP (t:=1) (ai:=[x,a8 aB]) (ah:=eh d z) (c:=rY) (x:=a8 aB) (Nat.lt_succ_self _) rfl rfl rfl).trans ?_
 rw[BB (fun h=>by rcases h.1 with h|h<;>cases h)]
 have e:sS 1 (a8 aB) (eh d z) rY 0=⟨true,(p4 aB (eh d z) rY).1,a8 aB,eh d z,0,(p4 aB (eh d z) rY).2⟩:=rfl
 have e2:p4 aB (eh d z) rY=(0,z):=by
  unfold p4
  rw[show rY.id=66 from rfl,apj,if_neg (fun h=>h rfl)]
  rw[if_pos (by show(0:Int)<=0/\(0:Int)<=40/\(0:Int)+40<=z.length;omega)]
  show(0,(z.drop 0).take 40)=_
  rw[List.drop_zero,List.take_of_length_le (by omega)]
 rw[e,e2];rfl
theorem al1:oM [a8 aB,a8 aB] 0=false:=by decide+kernel
end
section
open Go
variable {P:Program} {h:aa} {ah:List Ob} {d:List UInt8}
theorem agV {b:List UInt8} {i:Nat} (hi:i<b.length):(BS b)[i]? =some [.int .u8 (b.getD i 0).toNat]:=by
 rw[HT,List.getD_eq_getElem?_getD,List.getElem?_eq_getElem hi];rfl
theorem WZ (ok:ax P tb) {b:List UInt8} {t t':aH} {n:Int} (hl:b.length<=d.length) (hb:b.length<2^20) (hm: ∀i:Nat,i<b.length->b.getD i 0=if(i:Int)<n then d.getD i 0 else 0):an P 18 [.vs (BS b) t, .vs (BS d) t', .int .i64 n] h (.bool true) h:=by
 refine ok.keeps (rf:=ua) rfl (Nat.le_of_ble_eq_true rfl) rfl ?_
 simp+decide only[st,xv,ua,agz,agy]
 let I:Nat->Env->aa->Prop:=fun m ρ H=>Old h H/\ ∃i:Nat,b.length=i+m/\ρ 0= .vs (BS b) t/\ρ 1= .vs (BS d) t'/\ρ 2= .int .i64 n/\ρ 7= .int .i64 i
 refine dJ I ?_ b.length ⟨Old.refl h,0,by omega,rfl,rfl,rfl,rfl⟩
 rintro m ρ H ⟨ho,i,qA,r0,r1,r2,r7⟩
 by_cases hi:i<b.length
 ·have aA:(i:Int)<(b.length:Int):=by omega
  have dH:(0:Int)<=i:=by omega
  have hw:=dv (show i<2^61 by omega)
  have g0:=agV hi
  have g1:(BS d)[i]? =_:=agV (show i<d.length by omega)
  have kp:=hm i hi
  simp+decide only[st,xv,ua,SQ,r0,r7,bM,aA]
  refine bU 26 rfl rfl ?_
  by_cases hn:(i:Int)<n
  ·rw[if_pos hn] at kp
   have vJ: ¬n<=(i:Int):=by omega
   rw[kp] at g0
   simp+decide only[st,xv,ua,SP,SO,r0,r1,r2,r7,g0,g1,dH,hn,vJ,hw]
   exact⟨m-1,by omega,ho.clean,i+1,by omega,r0,r1,r2,rfl⟩
  ·rw[if_neg hn] at kp
   have vJ:n<=(i:Int):=by omega
   rw[kp] at g0
   simp+decide only[st,xv,ua,SP,SO,r0,r1,r2,r7,g0,g1,dH,hn,vJ,hw]
   exact⟨m-1,by omega,ho.clean,i+1,by omega,r0,r1,r2,rfl⟩
 ·have aA: ¬(i:Int)<(b.length:Int):=by omega
  simp+decide only[st,xv,ua,SQ,agx,r0,r7,bM,aA]
  exact ho.get
def gD (x:Nat):List UInt8:=(List.range 40).map fun j:Nat=>UInt8.ofNat (BitVec.ofInt 8 (j:Int)^^^BitVec.ofInt 8 (x:Int)).toNat
theorem Y5 {x:Nat}:(gD x).length=40:=by simp[gD]
def kX (x i:Nat):List AV:=(List.range 40).map fun j=>if j<i then .int .u8 ((gD x).getD j 0).toNat else .int .u8 0
theorem amS {x i:Nat} (hi:i<40):(gD x).getD i 0=UInt8.ofNat (BitVec.ofInt 8 (i:Int)^^^BitVec.ofInt 8 (x:Int)).toNat:=by
 unfold gD
 rw[List.getD_eq_getElem?_getD,List.getElem?_map,List.getElem?_range hi];rfl
theorem aph {x i:Nat} (hi:i<40):cB false .xor (.int .u8 i) (.int .u8 x)=some (.int .u8 ((gD x).getD i 0).toNat):=by
 rw[amS hi]
 have hb:(BitVec.ofInt 8 (i:Int)^^^BitVec.ofInt 8 (x:Int)).toNat<2^8:=BitVec.isLt _
 show some (AV.int .u8 (IntKind.wrap .u8 ((BitVec.ofInt 8 (i:Int)^^^BitVec.ofInt 8 (x:Int)).toNat:Int)))=_
 generalize(BitVec.ofInt 8 (i:Int)^^^BitVec.ofInt 8 (x:Int)).toNat=v at*
 rw[wrap_u8];unfold vB;simp;omega
theorem BL {x i:Nat}:(kX x i).length=40:=by simp[kX]
theorem amQ {x i:Nat} (hi:i<40):(kX x i).set i (.int .u8 ((gD x).getD i 0).toNat)=kX x (i+1):=by
 refine List.ext_getElem (by simp[kX]) fun k h1 h2=>?_
 rw[List.getElem_set]
 simp only[kX,List.getElem_map,List.getElem_range]
 by_cases e:i=k
 ·subst e;rw[if_pos rfl,if_pos (by omega)]
 ·rw[if_neg e]
  by_cases hk:k<i
  ·rw[if_pos hk,if_pos (by omega)]
  ·rw[if_neg hk,if_neg (by omega)]
theorem amR {x:Nat}:kX x 40=(gD x).map fun b=> .int .u8 b.toNat:=by
 refine List.ext_getElem (by simp[kX,gD]) fun k h1 h2=>?_
 simp only[kX,List.getElem_map,List.getElem_range]
 have:k<(gD x).length:=by simpa using h2
 rw[if_pos (by rw[Y5] at this;exact this),List.getD_eq_getElem?_getD,List.getElem?_eq_getElem this];rfl
theorem acr: ∀{n off:Nat} {cs:List AV},off+n<=cs.length->rowsOf cs off 1 n=((cs.drop off).take n).map fun v=>[v]
 |0,off,cs,_=>by simp[rowsOf]
 |n+1,off,cs,h=>by
  unfold rowsOf
  rw[acr (by omega)]
  have e:cs.drop off=cs[off]'(by omega)::cs.drop (off+1):=(List.drop_eq_getElem_cons (by omega))
  rw[e,List.take_succ_cons,List.take_succ_cons,List.map_cons,List.take_zero]
theorem amT {x b:Nat}:AV.dQ b (kX x 40) (.rs b 0 40 1)= .vs (BS (gD x)) .ao:=by
 unfold AV.dQ
 rw[if_pos rfl,if_pos (by rw[BL];decide),acr (by rw[BL];decide),List.drop_zero,List.take_of_length_le (by rw[BL];decide),amR,List.map_map]
 rfl
def NK (a:KA) (lb z:Nat):Prop:= ¬FK a z/\ ¬FA a lb z/\ ¬FS a z
theorem KL.auW {a:KA} {lb N M z:Nat} {ai:List Th} (K:KL h a lb N M ai ah) (hz:NK a lb z) (x:Option cI):KL (h.set z x) a lb N M ai ah:=by
 refine⟨K.k.bN (h':=h.set z x) (Nat.le_refl _) (fun b hb hf=>?_) (Nat.le_refl _) (Nat.le_refl _),K.inv⟩
 simp only[aa.set]
 rw[if_neg]
 rintro rfl
 rcases hf with f|f|f
 ·exact hz.1 f
 ·exact hz.2.1 f
 ·exact hz.2.2 f
theorem NK.to {a:KA} {lb aR m z:Nat} (k:NK a lb z) (hl:aR=lb\/m<=aR) (hz:z<m):NK a aR z:=by
 refine⟨k.1,?_,k.2.2⟩
 rintro(e|e|e)
 ·exact k.2.1 (.inl e)
 ·exact k.2.1 (.inr (.inl e))
 ·rcases hl with h|h
  ·exact k.2.1 (.inr (.inr (e.trans h)))
  ·omega
def auU:Nat->aH:=fun i=>if i=0 then .ao else if i=4 then .ao else .full
theorem awV (ok:ax P tb) {n x:Nat} (hn:n<256) (hx:x<256): ∃h',an P 7 [.int .u8 n, .int .u8 x] h (.bool true) h'/\True:=by
 refine ok.apn (rf:=c7) rfl (Nat.le_of_ble_eq_true rfl) ?_
 refine yY ok.follow ?_
 simp+decide only[st,xv,c7,ahx,yV]
 refine yY ok.follow ?_
 simp+decide only[st,xv,c7,T3]
 refine au (VZ ok) ?_
 simp+decide only[st,xv,c7,T3,yV]
 refine yY ok.follow ?_
 obtain⟨a,lb,h1,bj,K,o,kn,kt⟩:=Wn ok (h:=h) (q:=200) (n:=2) (by decide) (by decide) (by decide) (by decide)
 simp+decide only[st,xv,c7,T2]
 refine au bj ?_
 simp+decide only[st,xv,c7,T2,yV]
 refine yY ok.follow ?_
 simp+decide only[st,xv,c7,ahw,yV]
 refine yY ok.follow ?_
 have ml:kG 1 (.int .i64 40) (.int .i64 40)=some 40:=rfl
 simp+decide only[st,xv,c7,ahv,yV,ml]
 generalize hX:aa.at _ _ _=X
 have oX:Old h1 X:=by rw[<-hX];exact(Old.refl h1).at (Nat.le_refl _)
 have nX:X.next=h1.next+1:=by rw[<-hX];simp[aa.at]
 have x0:X.get h1.next=some (.cells (kX x 0)):=by rw[<-hX];simp[aa.at];rfl
 clear hX
 refine yY ok.follow ?_
 simp+decide only[st,xv,c7,ahu]
 let I:Nat->Env->aa->Prop:=fun m ρ H=>Old h1 H/\ ∃i:Nat,40=i+m/\H.get h1.next=some (.cells (kX x i))/\ρ 0= .int .u8 n/\ρ 1= .int .u8 x/\ρ 5= .ptr a.kb 0/\ρ 6= .rs h1.next 0 40 1/\ρ 7= .int .i64 i
 refine dJ I ?_ 40 ⟨oX,0,rfl,x0,rfl,rfl,rfl,rfl,rfl⟩
 clear oX nX x0
 rintro m ρ H ⟨oH,i,qA,hg,r0,r1,r5,r6,r7⟩
 by_cases hi:i<40
 ·have aA:(i:Int)<40:=by omega
  have dH:(0:Int)<=i:=by omega
  have wi:IntKind.wrap .u8 (i:Int)=i:=by rw[wrap_u8];unfold vB;simp;omega
  have hw:=dv (show i<2^61 by omega)
  have cg:=av hg
  have hia:m5 1 (.rs h1.next 0 40 1) (.int .i64 i)=some (.ptr h1.next i):=by
   unfold m5
   simp only[if_pos dH]
   rw[if_pos ⟨trivial,aA⟩,Int.toNat_natCast,Nat.mul_one,Nat.zero_add]
  have hle:i+1<=40:=by omega
  simp+decide only[st,xv,c7,T0,aht,adL,r1,r5,r6,r7,aA,dH,wi,aph hi,cg,hw,hia,BL,hle,hi]
  have e:(kX x i).take i++[AV.int .u8 ((gD x).getD i 0).toNat]++(kX x i).drop (i+1)=kX x (i+1):=by
   rw[<-amQ hi,List.set_eq_take_append_cons_drop,if_pos (by rw[BL];exact hi)];simp
  rw[e]
  exact⟨m-1,by omega,oH.set (Nat.le_refl _),i+1,by omega,by simp[aa.set],r0,r1,r5,r6,rfl⟩
 have aA: ¬(i:Int)<40:=by omega
 obtain rfl:i=40:=by omega
 simp+decide only[st,xv,c7,T0,r7,aA,yV]
 refine anv (s:=6) (b:=h1.next) (off:=0) (len:=40) (sz:=1) r6 hg (aq1 ok.follow ?_)
 generalize hρ:(fun s=>AV.dQ h1.next (kX x 40) _)=ρ1
 have r0':ρ1 0= .int .u8 n:=by rw[<-hρ];show AV.dQ _ _ (ρ 0)=_;rw[r0];rfl
 have Ay:ρ1 5= .ptr a.kb 0:=by rw[<-hρ];show AV.dQ _ _ (ρ 5)=_;rw[r5];rfl
 have Ur:ρ1 6= .vs (BS (gD x)) .ao:=by rw[<-hρ];show AV.dQ _ _ (ρ 6)=_;rw[r6,amT]
 have hd:(gD x).length=40:=Y5
 clear hρ r0 r1 r5 r6 r7 hi aA qA
 generalize gD x=d at*
 generalize hX:H.set h1.next none=X
 have oX:Old h1 X:=⟨by rw[<-hX];exact oH.next,fun b hb=>by rw[<-hX];simp only[aa.set];rw[if_neg (by omega),oH.get b hb]⟩
 have K:KL h1 a lb 1 0 [a8 aB,a8 aB] [Am.root 200]:=K
 simp+decide only[st,xv,c7,IS,Ay]
 refine au (Lc ok) ?_
 simp+decide only[st,xv,c7,IS,Ay,Ur,Lb.c,aB]
 obtain⟨h2,a9,hE⟩:=LC ok (K.old oX) (t:=0) (c:=td d) (tl:=auU) (YU hd) (fun _=>⟨lmp,rfl⟩) (by decide) (by decide) (fun e=>by cases e)
 rw[amW hd] at a9 hE
 obtain⟨vC,N2,M2,K2,kQ,eV,Kt,Ku⟩:=hE
 refine au a9 ?_
 simp+decide only[st,xv,c7,IS,tG]
 refine bU 10 rfl rfl ?_
 simp+decide only[st,xv,c7,Qn,Ay]
 refine fj (Lc ok) (cO (Nat.le_refl _)) ?_
 simp+decide only[st,xv,Lb.c,aB,ml,Zx]
 have z40:(List.replicate 40 (0:UInt8)).length=40:=by simp
 obtain⟨h3,fp,hE⟩:=LC ok (K2.old (h':=h2.clean 10) (Old.refl h2).clean) (t:=0) (c:=td (List.replicate 40 0)) (tl:=aU) (YU z40) (fun _=>⟨lmp,rfl⟩) (by omega) (by omega) (fun e=>by cases e)
 rw[amV z40] at fp hE
 have fb:=hE.free K2.k.bw (i:=4)
 obtain⟨UI,N3,M3,K3,vD,vK,hN3,hM3⟩:=hE
 refine fj fp fb ?_
 have wm:IntKind.wrap .i64 ((n:Int).tmod 45)=((n%45:Nat):Int):=by
  rw[show(n:Int).tmod 45=((n%45:Nat):Int) from(Int.ofNat_tmod n 45).symm]
  exact bH (by omega) (by omega)
 simp+decide only[st,xv,c7,Qn,adK,adJ,IQ,tG,r0',Ay,wm,xr]
 have axn:n%45<45:=by omega
 generalize n%45=c at*
 have K3:KL h3 a UI N3 M3 [a8 aB,a8 aB] (eh d (cz d 0)):=K3
 obtain⟨h4,sr,hE⟩:=K3.do ok (t:=0) (c:=iX c) (tl:=fun _=> .full) apm (fun e=>by cases e) (by omega) (by omega) (fun e=>by cases e)
 by_cases far:40<c
 ·rw[akH hd far] at sr
  refine au sr ?_
  simp+decide only[st,xv,c7,IQ,Cr.v,Rp.c,xr]
  generalize hY:aa.set _ _ _=Y
  have nY:Y.next=h4.next+1:=by rw[<-hY];simp[aa.at,aa.set]
  have y0:cellsOf Y h4.next=some [.int .i64 0, .int .i64 11, .int .u64 0, .vs (BS []) .ao]:=by rw[<-hY];exact av (by simp[aa.set])
  have i0:h4.next<Y.next:=by omega
  simp+decide only[st,xv,c7,Qm,Ql,xr]
  refine yJ ?_
  have qB:(40:Int)<(c:Int):=by omega
  simp+decide only[st,xv,c7,IP,Qh,adG,qB,y0,i0,xr]
  exact⟨rfl,trivial⟩
 ·have JM:c<=40:=by omega
  rw[as9 hd JM] at sr hE
  obtain⟨UH,N4,M4,K4,J5,hl4,hN4,hM4⟩:=hE
  refine au sr ?_
  simp+decide only[st,xv,c7,IQ,Cr.v,Rp.c,xr]
  generalize hY:aa.set _ _ _=Y
  have oY:Old h4 Y:=by rw[<-hY];exact((Old.refl h4).at (Nat.le_refl _)).set (Nat.le_refl _)
  have nY:Y.next=h4.next+1:=by rw[<-hY];simp[aa.at,aa.set]
  have y0:Y.get h4.next=some (.cells ((qD d 0 c).r.c .ao)):=by rw[<-hY];simp[aa.set];rfl
  clear hY
  have nk:NK a UH h4.next:=by
   have bw:=K4.k.bw
   exact⟨fun e=>by have:=bw _ (.inl e);omega,fun e=>by have:=bw _ (.inr (.inl e));omega,fun e=>by have:=bw _ (.inr (.inr e));omega⟩
  generalize h4.next=zb at*
  simp+decide only[st,xv,c7,Qm,Ql,xr]
  let J:Nat->Env->aa->Prop:=fun m ρ H=> ∃j:Nat,12=j+m/\4*j<=c/\(∃lb N M,KL H a lb N M (qD d (4*j) c).ai (qD d (4*j) c).ah/\NK a lb zb/\N<=50+10*j/\M<=10+2*j)/\zb<H.next/\H.get zb=some (.cells ((qD d (4*j) c).r.c .ao))/\ρ 5= .ptr a.kb 0/\ρ 6= .vs (BS d) .ao/\ρ 10= .int .u64 66/\ρ 12= .int .i64 c/\ρ 13= .ptr zb 0/\ρ 14= .bool (qD d (4*j) c).is/\ρ 15= .int .i64 ((4*j+4:Nat):Int)/\ρ 16= .int .i64 j
  refine dJ J ?_ 12 ⟨0,rfl,by omega,⟨UH,N4,M4,K4.old oY,nk,by omega,by omega⟩,by omega,y0,Ay,Ur,rfl,rfl,rfl,rfl,rfl,rfl⟩
  clear bj a9 fp sr K K2 K3 K4 kQ vD J5 y0 nk oY r0' Ay Ur
  rintro m ρ H ⟨j,U9,hjc,⟨gA,N1,M1,K1,nk,hN1,hM1⟩,hz,gz,r5,r6,gq,fR,dN,fK,eL,jF⟩
  have aha:(j:Int)<20:=by omega
  by_cases aD:4*j+4<c
  ·have eR:qD d (4*j) c=⟨nD,false,[tE (4*j+4) c,a8 aB],eh d (cz d (4*j+4))⟩:=if_pos aD
   rw[eR] at K1 gz fK
   simp+decide only[st,xv,c7,IP,Qk,r5,gq,fK,jF,aha,xr]
   have fy:=MH (k:=4*j+4) hd (by omega)
   obtain⟨h5,pw,lb5,N5,M5,K5,EX,Kh,hN5,hM5⟩:=K1.do ok (t:=1) (c:=rY) (tl:=fun _=> .full) Zz (fun e=>by cases e) (by omega) (by omega) (fun e=>by cases e)
   rw[Y6 fy] at pw K5
   refine au pw ?_
   have g5:h5.get zb=_:=(EX.2 zb hz nk.1 nk.2.1 nk.2.2).trans gz
   have n5:=EX.1
   simp+decide only[st,xv,c7,Qk,Cr.v,Rp.c,xr]
   generalize hY:aa.set _ _ _=Y
   have oY:Old h5 Y:=by rw[<-hY];exact((Old.refl h5).at (Nat.le_refl _)).set (Nat.le_refl _)
   have nY:Y.next=h5.next+1:=by rw[<-hY];simp[aa.at,aa.set]
   have y1:cellsOf Y h5.next=some [.int .i64 1, .int .i64 0, .int .u64 0, .vs (BS (cz d (4*j+4))) .ao]:=by rw[<-hY];exact av (by simp[aa.set])
   have i1:h5.next<Y.next:=by omega
   clear hY
   simp+decide only[st,xv,c7,Qj,r6,eL,y1,i1,bM,fy,xr]
   refine au (WZ ok (by omega) (by omega) (fun i hi=>by
    rw[ZQ hd (by omega)]
    by_cases h:i<4*j+4
    ·rw[if_pos h,if_pos (by omega)]
    ·rw[if_neg h,if_neg (by omega)])) ?_
   simp+decide only[st,xv,c7,Qj,Qi,r5,dN,xr]
   have J1:=nk.to Kh hz
   obtain⟨h6,Kq,lb6,N6,M6,K6,kf6,hl6,hN6,hM6⟩:=(K5.old oY).go ok (t:=0) (by omega) (by omega)
   rw[as8 hd (by omega) JM] at Kq K6
   refine au Kq ?_
   have n6:=kf6.1
   have g6:h6.get zb=_:=(kf6.2 zb (by omega) J1.1 J1.2.1 J1.2.2).trans ((oY.get zb (by omega)).trans g5)
   have z6:=av g6
   have nk6:=J1.to hl6 (show zb<Y.next by omega)
   have hw:=dv (show j<2^61 by omega)
   have w4:IntKind.wrap .i64 (((4*j+4:Nat):Int)+4)=((4*(j+1)+4:Nat):Int):=by rw[bH]<;>omega
   simp+decide only[st,xv,c7,Qi,adI,adH,Cr.v,Rp.c,dN,eL,jF,z6,hw,w4,xr]
   exact⟨m-1,by omega,j+1,by omega,by omega,⟨lb6,N6,M6,K6.auW nk6 _,nk6,by omega,by omega⟩,by show zb<h6.next;omega,by simp[aa.set];rfl,r5,r6,gq,fR,dN,rfl,rfl,rfl⟩
  ·have eR:qD d (4*j) c=⟨⟨0,0,c,[]⟩,true,[a8 aB,a8 aB],eh d (cz d c)⟩:=if_neg aD
   rw[eR] at K1 gz fK
   have qB: ¬(40:Int)<(c:Int):=by omega
   simp+decide only[st,xv,c7,IP,Qh,Qg,r5,gq,fR,fK,jF,aha,qB,xr]
   have fy:=MH (k:=c) hd JM
   obtain⟨h5,pw,lb5,N5,M5,K5,EX,Kh,hN5,hM5⟩:=K1.do ok (t:=1) (c:=rY) (tl:=fun _=> .full) Zz (fun e=>by cases e) (by omega) (by omega) (fun e=>by cases e)
   rw[Y6 fy] at pw K5
   refine au pw ?_
   have g5:h5.get zb=_:=(EX.2 zb hz nk.1 nk.2.1 nk.2.2).trans gz
   have n5:=EX.1
   simp+decide only[st,xv,c7,Qg,Cr.v,Rp.c,xr]
   generalize hY:aa.set _ _ _=Y
   have oY:Old h5 Y:=by rw[<-hY];exact((Old.refl h5).at (Nat.le_refl _)).set (Nat.le_refl _)
   have nY:Y.next=h5.next+1:=by rw[<-hY];simp[aa.at,aa.set]
   have y1:cellsOf Y h5.next=some [.int .i64 1, .int .i64 0, .int .u64 0, .vs (BS (cz d c)) .ao]:=by rw[<-hY];exact av (by simp[aa.set])
   have i1:h5.next<Y.next:=by omega
   have i0:zb<Y.next:=by omega
   have y0:cellsOf Y zb=_:=av ((oY.get zb (by omega)).trans g5)
   simp only[Rp.c] at y0
   have wc:IntKind.wrap .u64 (c:Int)=c:=fk (by omega)
   clear hY
   simp+decide only[st,xv,c7,adF,r5,r6,fR,dN,fK,y0,y1,i0,i1,bM,fy,wc,xr]
   refine au (WZ ok (by omega) (by omega) (fun i hi=>by
    rw[ZQ hd JM]
    by_cases h:i<c
    ·rw[if_pos h,if_pos (by omega)]
    ·rw[if_neg h,if_neg (by omega)])) ?_
   simp+decide only[st,xv,r5]
   refine au (FV ok (K5.old oY).k (t:=0)) ?_
   rw[al1]
   simp+decide only[st,xv]
   exact⟨rfl,trivial⟩
end
section
open Go
variable {P:Program}
theorem ant {n:Int} (h:(Lit.int .u16 n).wf=true):0<=n/\n<65536:=by
 have h1:IntKind.min .u16=0:=rfl
 have h2:IntKind.max .u16=65535:=rfl
 simp[Lit.wf,h1,h2] at h
 omega
theorem aw0 {t:TypeId} {a:AV} (hu:P.underlying t=some (.int .u16)) (h:v5 P t a): ∃n:Nat,n<65536/\a= .int .u16 n:=by
 obtain⟨n,rfl,h2⟩:=ZI hu h
 have:=ant h2
 exact⟨n.toNat,by omega,by rw[Int.toNat_of_nonneg this.1]⟩
end
end Go.Proofs.YtljapedlkdfafaaGreat.Am
