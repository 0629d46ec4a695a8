/- What the functions do. Conditions: none. -/
import Derived.Test.YtoioonbabnomkaaGreatQb
set_option autoImplicit true
set_option relaxedAutoImplicit true
set_option maxRecDepth 100000
set_option maxHeartbeats 8000000
set_option linter.unusedSimpArgs false
set_option linter.unusedVariables false
set_option linter.unnecessarySimpa false
set_option linter.defProp false
namespace Go.Proofs.YtoioonbabnomkaaGreat.Am
section
open Go
variable {P:Program} {h:aa}
def HM (d:Nat) (l:List (Nat×Nat)) (i:Nat):Prop:=(l.getD i (0,0)).2<=5/\(l.getD i (0,0)).2≠d/\(0<i->(l.getD (i-1) (0,0)).1<(l.getD i (0,0)).1)
def canon (l:Lb):Prop:=l.d<=5/\ ∀i,i<l.ps.length->HM l.d l.ps i
def E3:dF l=true↔canon l/\1<=l.d/\l.d<=4/\l.ps.length<=16/\ ∀i (hi:i<l.ps.length),l.ps[i].2<=4:=by
 have g: ∀i (hi:i<l.ps.length),l.ps.getD i (0,0)=l.ps[i]:=fun i hi=>by grind
 unfold dF canon
 simp only[fV,rK,ui,List.mem_range,tg,HM,Bool.not_eq_true',beq_eq_false_iff_ne,Bool.or_eq_true,beq_iff_eq]
 grind
instance {l:Lb}:Decidable (canon l):=by unfold canon HM;infer_instance
def aFR (ok:aA P tb) {t:aL} (hl:l.ps.length<2^30):al P 112 [.agg (l.c t)] h (.bool (decide (canon l))) h:=by
 refine ok.bA ahz ?_
 have g: ∀i (hi:i<l.ps.length),l.ps.getD i (0,0)=l.ps[i]:=fun i hi=>by grind
 simp+decide only[sv,ahz,av0,Lb.c]
 generalize hX:aa.at _ _ _=X
 have oX:Old h X:=by rw[<-hX];exact(Old.refl h).at (ak _)
 have cX:cellsOf X h.next=some ([AV.int .u8 l.d, .vs (aB.R l.ps) t]):=by rw[<-hX];exact aq (by simp[aa.at];try rfl)
 have nX:X.next=h.next+1:=by rw[<-hX];simp[aa.at]
 clear hX
 by_cases h5:l.d<=5
 case neg=>
  have CQ:(5:Int)<(l.d:Int):=by omega
  have e2:decide (canon l)=false:=mc fun q=>h5 q.1
  simp+decide only[sv,ace,avZ,cX,CQ,e2]
  exact oX.get
 have CQ: ¬(5:Int)<(l.d:Int):=by omega
 simp+decide only[sv,ace,avY,cX,CQ]
 let J:Nat->Env->aa->Prop:=fun i ρ H=>Old X H/\(∀j (hj:j<l.ps.length),j<i->HM l.d l.ps j)/\ρ 1= .ptr h.next 0
 refine eQ 3 0 l.ps.length (by omega) (bM _) J ?_ ?_ ⟨Old.refl X,fun j _ hj=>by omega,rfl⟩ rfl
 ·rintro i ρ H ⟨ho,hf,r1⟩ r3-hi av aK hw
  have y0:=ho.cells (by omega) cX
  have gi:(aB.R l.ps)[i]? =some [.int .u16 l.ps[i].1, .int .u8 l.ps[i].2]:=aB.cj hi
  simp+decide only[sv,acd,avX,r1,r3,y0,aF.aD,av,aK,gi]
  generalize hY:aa.set _ _ _=Y
  have oY:Old H Y:=by rw[<-hY];exact((Old.refl H).at (ak _)).set (ak _)
  have nY:Y.next=H.next+1:=by rw[<-hY];simp[aa.at,aa.set]
  have y1:cellsOf Y H.next=some [.int .u16 l.ps[i].1, .int .u8 l.ps[i].2]:=by rw[<-hY];exact aq (by simp[aa.set])
  clear hY
  have hn:=ho.next
  have z0:=((ho.trans oY).clean (n:=26)).cells (by omega) cX
  have z1:cellsOf (Y.clean 26) H.next=_:=((Old.refl Y).clean (n:=26)).cells (by omega) y1
  have n0:h.next<Y.next:=by omega
  have n1:H.next<Y.next:=by omega
  have fC: ¬HM l.d l.ps i->decide (canon l)=false:=fun q=>mc fun r=>q (r.2 i hi)
  have hg:=(oX.trans ((ho.trans oY).clean (n:=26))).get
  refine bq 26 rfl rfl ?_
  by_cases e1:l.ps[i].2<=5
  case neg=>
   have yR:(5:Int)<(l.ps[i].2:Int):=by omega
   rw[fC (fun q=>e1 (by have:=q.1;grind))]
   simp+decide only[sv,Gf,QA,z1,yR]
   exact hg
  have yR: ¬(5:Int)<(l.ps[i].2:Int):=by omega
  by_cases e2:l.ps[i].2=l.d
  ·have tM:(l.ps[i].2:Int)=(l.d:Int):=by omega
   rw[fC (fun q=>q.2.1 (by grind))]
   simp+decide only[sv,Gf,QA,z0,z1,r1,tM,CQ]
   exact hg
  have tM: ¬(l.ps[i].2:Int)=(l.d:Int):=by omega
  have fin:HM l.d l.ps i-> ∀ρ',ρ' 1= .ptr h.next 0->J (i+1) ρ' (Y.clean 26):=fun q ρ' r1=>⟨(ho.trans oY).clean,fun j hj jt=>by
   grind,r1⟩
  by_cases e0:i=0
  ·have Vb: ¬(0:Int)<(i:Int):=by omega
   simp+decide only[sv,Gf,acb,z0,z1,r1,r3,Vb,yR,tM,hw]
   exact fin ⟨by grind,by grind,fun q=>absurd e0 (by omega)⟩ _ r1
  have Vb:(0:Int)<(i:Int):=by omega
  have w1:IntKind.wrap .i64 ((i:Int)-1)=((i-1:Nat):Int):=by rw[bj]<;>omega
  have Ew:(0:Int)<=((i-1:Nat):Int):=by omega
  have gj:(aB.R l.ps)[i-1]? =some [.int .u16 l.ps[i-1].1, .int .u8 l.ps[i-1].2]:=aB.cj (by omega)
  by_cases e3:l.ps[i-1].1<l.ps[i].1
  ·have U9: ¬(l.ps[i].1:Int)<=(l.ps[i-1].1:Int):=by omega
   simp+decide only[sv,Gf,acb,z0,z1,r1,r3,Vb,yR,tM,U9,w1,Ew,gj,hw]
   exact fin ⟨by grind,by grind,fun q=>by grind⟩ _ r1
  ·have U9:(l.ps[i].1:Int)<=(l.ps[i-1].1:Int):=by omega
   rw[fC (fun q=>e3 (by have:=q.2.2 (by omega);grind))]
   simp+decide only[sv,Gf,QA,z0,z1,r1,r3,Vb,yR,tM,U9,w1,Ew,gj]
   exact hg
 ·rintro ρ H ⟨ho,hf,r1⟩ r3 av
  have y0:=ho.cells (by omega) cX
  have e2:decide (canon l)=true:=mF ⟨h5,fun i hi=>hf i hi hi⟩
  simp+decide only[sv,acd,avW,r1,r3,y0,aF.aD,av,e2]
  exact(oX.trans ho).get
def ai9 (ok:aA P tb) {t:aL} (hl:l.ps.length<2^30):al P 66 [.agg (l.c t)] h (.bool (dF l)) h:=by
 refine ok.bA c66 ?_
 simp+decide only[sv,c66,azG,Lb.c]
 generalize hX:aa.at _ _ _=X
 have oX:Old h X:=by rw[<-hX];exact(Old.refl h).at (ak _)
 have cX:cellsOf X h.next=some (l.c t):=by rw[<-hX];exact aq (by simp[aa.at];try rfl)
 have nX:X.next=h.next+1:=by rw[<-hX];simp[aa.at]
 clear hX
 have fC:(canon l/\1<=l.d/\l.d<=4/\l.ps.length<=16->False)->dF l=false:=fun q=>by
  rw[<-Gx,E3];grind
 have c1:=aFR ok (h:=X) (t:=t) hl
 simp only[Lb.c] at cX c1
 simp+decide only[sv,azF,cX]
 refine ao c1 ?_
 by_cases h0:canon l
 case neg=>
  rw[fC (fun q=>h0 q.1),mc h0]
  simp+decide only[sv,KR]
  exact oX.get
 rw[mF h0]
 by_cases h1:1<=l.d
 case neg=>
  have br:(l.d:Int)<1:=by omega
  rw[fC (fun q=>h1 q.2.1)]
  simp+decide only[sv,KR,cX,br]
  exact oX.get
 have br: ¬(l.d:Int)<1:=by omega
 by_cases h2:l.d<=4
 case neg=>
  have cB:(4:Int)<(l.d:Int):=by omega
  rw[fC (fun q=>h2 q.2.2.1)]
  simp+decide only[sv,KR,cX,br,cB]
  exact oX.get
 have cB: ¬(4:Int)<(l.d:Int):=by omega
 by_cases h3:l.ps.length<=16
 case neg=>
  have mC:(16:Int)<(l.ps.length:Int):=by omega
  rw[fC (fun q=>h3 q.2.2.2)]
  simp+decide only[sv,KR,cX,br,cB,aF.aD,mC]
  exact oX.get
 have mC: ¬(16:Int)<(l.ps.length:Int):=by omega
 simp+decide only[sv,azE,cX,br,cB,aF.aD,mC]
 let J:Nat->Env->aa->Prop:=fun i ρ H=>H=X/\(∀j (hj:j<l.ps.length),j<i->l.ps[j].2<=4)/\ρ 1= .ptr h.next 0
 refine eQ 3 0 l.ps.length (by omega) (bM _) J ?_ ?_ ⟨rfl,fun j _ hj=>by omega,rfl⟩ rfl
 ·rintro i ρ H ⟨rfl,hf,r1⟩ r3-hi av aK hw
  have gi:(aB.R l.ps)[i]? =some [.int .u16 l.ps[i].1, .int .u8 l.ps[i].2]:=aB.cj hi
  by_cases e:l.ps[i].2<=4
  ·have e1: ¬(4:Int)<(l.ps[i].2:Int):=by omega
   simp+decide only[sv,Sq,adZ,azC,r1,r3,cX,aF.aD,av,aK,gi,e1,hw]
   refine⟨rfl,fun j hj jt=>?_,r1⟩
   grind
  ·have e1:(4:Int)<(l.ps[i].2:Int):=by omega
   have e2:dF l=false:=by
    rw[<-Gx,E3];grind
   simp+decide only[sv,Sq,adZ,azD,r1,r3,cX,aF.aD,av,aK,gi,e1,e2]
   exact oX.get
 ·rintro ρ H ⟨rfl,hf,r1⟩ r3 av
  have e2:dF l=true:=E3.2 ⟨h0,h1,h2,h3,fun i hi=>hf i hi hi⟩
  simp+decide only[sv,Sq,azB,r1,r3,cX,aF.aD,av,e2]
  exact oX.get
def amq {n:Nat} (h:n<256):[[AV.int .u8 n]]=BS (be n 1):=by
 simp only[BS,be,eG,sQ,Ft,Nat.mul_zero,Nat.pow_zero,Nat.div_one]
 grind
def aFj (ok:aA P tb) {b:List UInt8} {t:aL} (hb:b.length<2^20) (hl:l.length<256) (hc: ∀c∈l,c<65536):al P 168 [.vs (BS b) t, .vs ((ay .u16).R l) t'] h (.vs (BS (b++nx l)) .au) h:=by
 refine ok.df (rf:=agX) rfl (bT rfl) dt.i7 ?_
 obtain⟨v1,h1,a1,a2,a3,_⟩:=(App.start dt h h).more (Old.refl h) 1 1 b (BS b) rfl rfl (by grind) (by decide)
 have hh:bQ 1 (BS b)=true:=iM
 have w:IntKind.wrap .u8 (l.length:Int)=l.length:=by rw[wrap_u8];unfold wG;simp;omega
 obtain⟨v2,h2,b1,b2,b3,_⟩:=a2.more a3 1 1 (be l.length 1) [[.int .u8 l.length]] (amq hl).symm rfl (by simp only[kF,bG];omega) (by decide)
 rw[kF] at b2
 simp+decide only[sv,agX,asd,asc,asb,hh,np,a1,aF.aD,w,b1]
 let J:Nat->Env->aa->Prop:=fun i ρ H=>Old h H/\App h H (ρ 0) (BS (b++be l.length 1++(l.take i).flatMap fun c=>be c 2))/\ρ 1= .vs ((ay .u16).R l) t'
 refine eQ 5 0 l.length (by omega) (bM _) J ?_ ?_ ⟨b3,by simp only[kD,sS,fE];exact b2,rfl⟩ rfl
 ·rintro i ρ H ⟨ho,ha,r1⟩ r5-hi av aK hw
  have gi:((ay .u16).R l)[i]? =some [.int .u16 l[i]]:=(ay .u16).cj hi
  have uV:=hc _ (bw hi)
  have w3:IntKind.wrap .u64 (l[i]:Int)=l[i]:=eo (by omega)
  obtain⟨t0,r0,_⟩:=id ha
  have da:((l.take i).flatMap fun c=>be c 2).length=2*i:=by rw[XD (k:=2) (fun a=>bG),jQ,Gu (by omega)]
  obtain⟨v3,H3,c1,c2,c3⟩:=Oj ok (h:=H) (b:=b++be l.length 1++(l.take i).flatMap fun c=>be c 2) (t:=t0) (v:=l[i]) (n:=2) (by omega) (by simp only[cw,bG,da];omega)
  simp+decide only[sv,aaI,asa,r0,r1,r5,aF.aD,av,aK,gi,w3]
  refine ao c1 ?_
  simp+decide only[sv,ar9,r5,hw]
  refine⟨ho.trans c3,?_,r1⟩
  rw[lN hi,vX,<-eR,show [l[i]].flatMap (fun c=>be c 2)=be l[i] 2 by simp]
  obtain⟨tt,e,q|⟨k,q1,q2,q3⟩⟩:=c2
  ·exact⟨tt,e, .inl q⟩
  ·exact⟨tt,e, .inr ⟨k,q1,by have:=ho.next;omega,q3⟩⟩
 ·rintro ρ H ⟨ho,ha,r1⟩ r5 av
  obtain⟨t0,r0,_⟩:=id ha
  rw[bX (ak _)] at r0
  simp+decide only[sv,aaI,ar8,r0,r1,r5,aF.aD,av,aV]
  exact⟨by rw[eR];exact dt.iy,ho.get⟩
end
section
open Go
def yq (id:Nat) (acc:List Nat):List Nat:=if id≠1\/6<acc.length then [] else 1::acc
def uK:Nat->Nat->List Nat->List Nat
 |0,id,acc=>yq id acc
 |k+1,id,acc=>if 1<id then(if id%64=0 then [] else uK k (id/64) (id::acc)) else yq id acc
def J7 (id:Nat):List Nat:=uK 20 id []
def dn (id m:Nat):List Nat:=(List.range m).map fun j=>id/64^(m-1-j)
def WW {id m:Nat}:dn id (m+1)=dn (id/64) m++[id]:=by
 unfold dn
 rw[B4,jz]
 congr 1
 ·refine xX fun j hj=>?_
  have hj:=List.mem_range.1 hj
  rw[J5,<-Nat.pow_succ',show m+1-1-j=m-1-j+1 by omega]
 ·simp
def akY:uK n 1 acc=yq 1 acc:=by cases n<;>simp[uK]
theorem aj5: ∀{k id:Nat} {l acc:List Nat} {n:Nat},eU k id=some l->l.length<=n->uK n id acc=if 6<acc.length+l.length then [] else 1::(dn id l.length++acc)
 |0,id,l,acc,n,h,hn=>by
  simp only[eU] at h
  split at h
  ·rename_i h1;subst h1;cases h
   rw[akY];simp[yq,dn]
  ·cases h
 |k+1,id,l,acc,n,h,hn=>by
  simp only[eU] at h
  split at h
  ·rename_i h1;subst h1;cases h
   rw[akY];simp[yq,dn]
  ·split at h
   ·rename_i h1 h2
    obtain⟨m,hm,rfl⟩:=Option.map_eq_some_iff.1 h
    cases n with
    |zero=>simp at hn
    |succ n=>
     have:=aj5 (acc:=id::acc) (n:=n) hm (by simpa using hn)
     rw[uK,ax h2.1,aj (by omega),this,cQ,cQ,WW,eR]
     grind
   ·cases h
theorem amv: ∀{n id:Nat} {acc:List Nat},eU n id=none->uK n id acc=[]
 |0,id,acc,h=>by
  simp only[eU] at h
  split at h
  ·cases h
  ·rename_i h1;simp[uK,yq,h1]
 |n+1,id,acc,h=>by
  simp only[eU] at h
  split at h
  ·cases h
  ·rename_i h1
   rw[uK]
   by_cases h2:1<id
   ·rw[ax h2]
    by_cases h3:id%64=0
    ·rw[ax h3]
    ·rw[aj h3]
     rw[ax ⟨h2,by omega⟩,Option.map_eq_none_iff] at h
     exact amv h
   ·rw[aj h2];simp[yq,h1]
theorem IU: ∀{k id k':Nat} {l:List Nat},eU k id=some l->l.length<=k'->eU k' id=some l
 |0,id,k',l,h,hk=>by
  simp only[eU] at h
  split at h
  ·rename_i h1;subst h1;rw[IH];exact h
  ·cases h
 |k+1,id,k',l,h,hk=>by
  simp only[eU] at h
  split at h
  ·rename_i h1;subst h1;rw[IH];exact h
  ·split at h
   ·rename_i h1 h2
    obtain⟨m,hm,rfl⟩:=Option.map_eq_some_iff.1 h
    cases k' with
    |zero=>simp at hk
    |succ k'=>simp only[eU];rw[aj h1,ax h2,IU hm (by simpa using hk)];rfl
   ·cases h
def y8 {id:Nat} (h:eT id=some l):bu id=1::dn id l.length:=by
 unfold bu
 rw[h]
 simp only
 rw[List.range_succ_eq_map,eG,List.map_map,qF,(Bv h).1]
 congr 1
 refine xX fun j hj=>?_
 grind
def aJR (id):J7 id=bu id:=by
 unfold J7
 cases h:eU 20 id with
 |none=>
  rw[amv h]
  unfold bu
  cases h6:eT id with
  |none=>rfl
  |some l=>have:=IU (k':=20) h6 (by have:=tT h6;omega);grind
 |some l=>
  rw[aj5 h (tT h)]
  by_cases hl:l.length<=6
  ·have h6:eT id=some l:=IU h hl
   rw[y8 h6,aj (by simp;omega),fE]
  ·rw[ax (by simp;omega)]
   unfold bu
   cases h6:eT id with
   |none=>rfl
   |some m=>
    have hm:=tT h6
    have:=IU (k':=20) h6 (by omega)
    grind
def Fb {id:Nat} (h:eT id=none):bu id=[]:=by unfold bu;rw[h]
def O1 {id m:Nat}:(dn id m).length=m:=by simp[dn]
def NS (id):cP id=decide (0<(bu id).length):=by
 unfold cP
 cases h:eT id with
 |none=>rw[Fb h];rfl
 |some l=>rw[y8 h];simp
def Fc (id):iT id=(bu id).length-1:=by
 unfold iT
 cases h:eT id with
 |none=>rw[Fb h];rfl
 |some l=>rw[y8 h,iQ,cQ,O1];omega
def aIB (id):cR id=if(bu id).length<2 then 0 else(bu id).getD ((bu id).length-2) 0:=by
 unfold cR
 rw[Fc]
 by_cases h2:(bu id).length<2
 ·grind
 ·rw[aj h2,aj (by omega)]
  cases h:eT id with
  |none=>rw[Fb h] at h2;simp at h2
  |some l=>
   obtain⟨e1,e2⟩:=Bv h
   rw[y8 h] at h2 ⊢
   have h3:1<=l.length:=by simp[O1] at h2;omega
   rw[cQ,O1]
   by_cases h4:l.length=1
   ·grind
   ·rw[show l.length+1-2=(l.length-2)+1 by omega,List.getD_cons_succ,mr,dn,Dz,List.getElem?_range (by omega),iB,iQ,show l.length-1-(l.length-2)=1 by omega,Nat.pow_one]
end
section
open Go
variable {P:Program} {h:aa}
def Bi (ok:aA P tb) {id:Nat} (aM:id<2^64):al P 58 [.int .u64 id] h (.vs ((ay .u64).R (bu id)) .au) h:=by
 refine ok.df (rf:=c58) rfl (bT rfl) (ay .u64).i7 ?_
 rw[<-aJR]
 simp+decide only[sv,c58,aAl,aAk,aAj]
 let I:Nat->Env->aa->Prop:=fun m ρ H=>Old h H/\ ∃x acc n,20=n+m/\uK m x acc=J7 id/\x<2^64/\acc.length<=n/\ρ 0= .int .u64 (x:Nat)/\App h H (ρ 3) ((ay .u64).R acc)/\ρ 4= .int .i64 (n:Nat)
 refine dv I ?_ 20 ⟨Old.refl h,id,[],0,rfl,rfl,aM,by simp,rfl,App.nil h h,rfl⟩
 rintro m ρ H ⟨ho,x,acc,n,jZ,hr,hx,LU,r0,ha,r4⟩
 simp+decide only[sv]
 generalize hK:jO 0 _=K0
 obtain⟨t0,r3,AH⟩:=ha
 have ha:App h H (ρ 3) ((ay .u64).R acc):=⟨t0,r3,AH⟩
 have fin:yq x acc=J7 id-> ∀ρ:Env,ρ 0= .int .u64 (x:Nat)->ρ 3= .vs ((ay .u64).R acc) t0->K0 (.exit 0) ρ H:=by
  intro hf ρ r0 r3
  rw[<-hK,<-hf]
  unfold yq
  by_cases h1:x=1
  ·have br:(x:Int)=1:=by omega
   by_cases h6:6<acc.length
   ·have EF:(6:Int)<(acc.length:Int):=by omega
    rw[ax (.inr h6)]
    simp+decide only[sv,Su,X8,r0,r3,br,aF.aD,EF,aV]
    exact⟨rfl,ho.get⟩
   ·have EF: ¬(6:Int)<(acc.length:Int):=by omega
    rw[aj (by omega)]
    have hh: ∀l,bQ 1 ((ay .u64).R l)=true:=fun l=>(ay .u64).fl
    obtain⟨v,h2,a1,a2,a3,_⟩:=(show App h H (.vs [[.int .u64 1]] .full) ((ay .u64).R [1]) from⟨_,rfl, .inl rfl⟩).more ho 8 1 acc ((ay .u64).R acc) rfl rfl (by grind) (by decide)
    obtain⟨t1,rfl,_⟩:=a2
    simp+decide only[sv,Su,anC,r0,r3,br,aF.aD,EF,hh,a1,Tg,J6,aV]
    exact⟨(ay .u64).iy,a3.get⟩
  ·have br: ¬(x:Int)=1:=by omega
   rw[ax (.inl h1)]
   simp+decide only[sv,Su,X8,r0,br,aV]
   exact⟨rfl,ho.get⟩
 by_cases h1:1<x
 ·have br:(1:Int)<(x:Int):=by omega
  cases m with
  |zero=>
   have cV: ¬(n:Int)<20:=by omega
   simp+decide only[sv,Lc,r0,r4,br,cV]
   exact fin hr _ r0 r3
  |succ m=>
   have cV:(n:Int)<20:=by omega
   have hw:=dj (show n<2^61 by omega)
   rw[uK,ax h1] at hr
   have se:((x:Int)).tmod 64=((x%64:Nat):Int):=(Int.ofNat_tmod _ 64).symm
   have sd:IntKind.wrap .u64 ((x%64:Nat):Int)=((x%64:Nat):Int):=eo (by omega)
   by_cases h0:x%64=0
   ·rw[ax h0] at hr
    have EG:((x%64:Nat):Int)=0:=by omega
    rw[<-hK]
    simp+decide only[sv,Lc,aeb,aAi,r0,r4,br,cV,se,EG,aV]
    exact⟨by rw[<-hr];rfl,ho.get⟩
   ·rw[aj h0] at hr
    have EG: ¬((x%64:Nat):Int)=0:=by omega
    have CL:((x:Int)).tdiv 64=((x/64:Nat):Int):=(Int.ofNat_tdiv _ 64).symm
    have sg:IntKind.wrap .u64 ((x/64:Nat):Int)=((x/64:Nat):Int):=eo (by omega)
    have hh: ∀l,bQ 1 ((ay .u64).R l)=true:=fun l=>(ay .u64).fl
    obtain⟨v,h2,a1,a2,a3,_⟩:=(show App h H (.vs [[.int .u64 x]] .full) ((ay .u64).R [x]) from⟨_,rfl, .inl rfl⟩).more ho 8 1 acc ((ay .u64).R acc) rfl rfl (by grind) (by decide)
    simp+decide only[sv,Lc,aeb,aAh,aAg,aAf,r0,r3,r4,br,cV,se,EG,CL,sg,hh,a1,Tg,J6,hw]
    exact⟨m,by omega,a3,x/64,x::acc,n+1,by omega,hr,by omega,by grind,rfl,a2,rfl⟩
 ·have br: ¬(1:Int)<(x:Int):=by omega
  have UD:yq x acc=J7 id:=by
   cases m with
   |zero=>exact hr
   |succ m=>rw[uK,aj h1] at hr;exact hr
  simp+decide only[sv,Lc,r0,br]
  exact fin UD _ r0 r3
def VN (ok:aA P tb) {id:Nat} (aM:id<2^64):al P 54 [.int .u64 id] h (.bool (cP id)) h:=by
 refine ok.bA c54 ?_
 simp+decide only[sv,c54,aAx,aAw]
 refine ao (Bi ok aM) ?_
 have e:decide ((0:Int)<((bu id).length:Int))=cP id:=by
  rw[NS]
  grind
 simp+decide only[sv,aF.aD,e]
def aHN (ok:aA P tb) {id:Nat} (aM:id<2^64):al P 121 [.int .u64 id, .int .i64 n] h (.aE [.int .u64 (iW id n).1, .int .i64 (iW id n).2]) h:=by
 refine ok.bA ahq ?_
 unfold iW
 simp+decide only[sv,ahq,avr,avq]
 refine ao (VN ok aM) ?_
 cases hm:cP id with
 |false=>
  rw[ax (.inl rfl)]
  simp+decide only[sv,Qy]
 |true=>
  by_cases h1:n<1
  ·rw[ax (.inr (.inl h1))]
   simp+decide only[sv,Qy,h1]
  by_cases h2:63<n
  ·rw[ax (.inr (.inr h2))]
   simp+decide only[sv,Qy,h1,h2]
  rw[aj (by simp;omega)]
  simp+decide only[sv,avp,h1,h2]
  refine ao (Bi ok aM) ?_
  have hl:0<(bu id).length:=by
   have:=NS id
   grind
  have AW:=zd (id:=id)
  by_cases h6:iT id=6
  ·have EF:(6:Int)<((bu id).length:Int):=by rw[Fc] at h6;omega
   rw[ax h6]
   simp+decide only[sv,avo,aF.aD,EF]
   rfl
  ·have EF: ¬(6:Int)<((bu id).length:Int):=by rw[Fc] at h6;omega
   rw[aj h6]
   have hb:id<2^57:=by
    obtain⟨l,hl⟩: ∃l,eT id=some l:=Option.isSome_iff_exists.1 hm
    have hlen:=tT hl
    exact bJ (OB hl) (DA (by omega) (by omega))
   have w1:IntKind.wrap .u64 ((id:Int)*64)=((id*64:Nat):Int):=by rw[show(id:Int)*64=((id*64:Nat):Int) by omega];exact eo (by omega)
   have w2:IntKind.wrap .u64 n=((n.toNat:Nat):Int):=by rw[show n=((n.toNat:Nat):Int) by omega];exact eo (by omega)
   have w3:IntKind.wrap .u64 (((id*64:Nat):Int)+((n.toNat:Nat):Int))=((id*64+n.toNat:Nat):Int):=by rw[show((id*64:Nat):Int)+((n.toNat:Nat):Int)=((id*64+n.toNat:Nat):Int) by omega];exact eo (by omega)
   simp+decide only[sv,avn,aF.aD,EF,w1,w2,w3]
def aiz (ok:aA P tb) {id:Nat} (aM:id<2^64):al P 21 [.int .u64 id] h (.int .u64 (cR id)) h:=by
 refine ok.bA c21 ?_
 rw[aIB]
 have AW:=zd (id:=id)
 simp+decide only[sv,c21,aC6,aC5]
 refine ao (Bi ok aM) ?_
 by_cases h2:(bu id).length<2
 ·have cB:((bu id).length:Int)<2:=by omega
  rw[ax h2]
  simp+decide only[sv,aeR,aC4,aF.aD,cB]
  try rfl
 ·have cB: ¬((bu id).length:Int)<2:=by omega
  rw[aj h2]
  have w1:IntKind.wrap .i64 (((bu id).length:Int)-2)=(((bu id).length-2:Nat):Int):=by rw[bj]<;>omega
  have Ew:(0:Int)<=(((bu id).length-2:Nat):Int):=by omega
  have gi:((ay .u64).R (bu id))[(bu id).length-2]? =some [.int .u64 ((bu id).getD ((bu id).length-2) 0)]:=by
   rw[(ay .u64).cj (by omega),mr,bn (by omega)];rfl
  simp+decide only[sv,aeR,aC3,aF.aD,cB,w1,Ew,gi]
def aFb (ok:aA P tb) {id c:Nat} (aM:id<2^64):al P 124 [.int .u64 id, .int .u64 c] h (.bool (iA id c)) h:=by
 refine ok.bA aho ?_
 unfold iA
 have AW:=zd (id:=id)
 simp+decide only[sv,aho,avh,avg]
 refine ao (Bi ok aM) ?_
 generalize bu id=l at*
 simp+decide only[sv,avf]
 let J:Nat->Env->aa->Prop:=fun i ρ H=>H=h/\(∀j (hj:j<l.length),j<i->l[j]≠c)/\ρ 1= .int .u64 c/\ρ 5= .vs ((ay .u64).R l) .au
 refine eQ 6 0 l.length (by omega) (bM _) J ?_ ?_ ⟨rfl,fun j _ hj=>by omega,rfl,rfl⟩ rfl
 ·rintro i ρ H ⟨rfl,hf,r1,r5⟩ r6-hi av aK hw
  have gi:((ay .u64).R l)[i]? =some [.int .u64 l[i]]:=(ay .u64).cj hi
  by_cases e:l[i]=c
  ·have e1:(l[i]:Int)=(c:Int):=by omega
   have e2:l.contains c=true:=by grind
   simp+decide only[sv,Qp,ab4,ave,r1,r5,r6,aF.aD,av,aK,gi,e1,e2]
  ·have e1: ¬(l[i]:Int)=(c:Int):=by omega
   simp+decide only[sv,Qp,ab4,avd,r1,r5,r6,aF.aD,av,aK,gi,e1,hw]
   refine⟨rfl,fun j hj jt=>?_,r1,r5⟩
   grind
 ·rintro ρ H ⟨rfl,hf,r1,r5⟩ r6 av
  have e2:l.contains c=false:=by
   rw[<-Gx,GA]
   intro hm
   obtain⟨j,hj,e⟩:=jm hm
   grind
  simp+decide only[sv,Qp,avc,r5,r6,aF.aD,av,e2]
def VO (ok:aA P tb) {t:Nat->aL} (hq: -(2^61)<=o.aP/\o.aP<2^61) (hd:o.data.length<2^30):al P 22 [.agg (o.c t)] h (.int .i64 (cost o)) h:=by
 refine ok.bA EM ?_
 unfold cost
 have w1:IntKind.wrap .i64 (1+o.aP)=1+o.aP:=bj (by omega) (by omega)
 have w2:IntKind.wrap .i64 (1+(o.data.length:Int))=1+(o.data.length:Int):=bj (by omega) (by omega)
 by_cases h1:o.kind=1
 ·simp+decide only[sv,EM,Hg,Hf,He,Hc,Hb,Ha,G9,G8,G7,G6,FX,Ob.c,h1,w1]
  grind
 by_cases h2:o.kind=2
 ·simp+decide only[sv,EM,Hg,Hf,He,Hc,Hb,Ha,G9,G8,G7,G6,FX,Ob.c,h2,aY,w2]
  grind
 by_cases h3:o.kind=3
 ·simp+decide only[sv,EM,Hg,Hf,He,Hc,Hb,Ha,G9,G8,G7,G6,FX,Ob.c,h3]
  grind
 by_cases h4:o.kind=4
 ·simp+decide only[sv,EM,Hg,Hf,He,Hc,Hb,Ha,G9,G8,G7,G6,FX,Ob.c,h4]
  grind
 simp+decide only[sv,EM,Hg,Hf,He,Hc,Hb,Ha,G9,G8,G7,G6,FX,Ob.c,h1,h2,h3,h4]
 grind
def aHQ (ok:aA P tb) {t:Nat->aL} {c:Int} (hq: -(2^60)<=o.aP/\o.aP<2^60) (hu: -(2^60)<=o.used/\o.used<2^60) (hc:c<2^60):al P 122 [.agg (o.c t), .int .i64 c] h (.aE [.agg ((mu o c).1.c aC), .int .i64 (mu o c).2]) h:=by
 refine ok.df (rf:=Me) rfl (bT rfl) (by simp only[AV.bD,AV.cG,sD];rfl) ?_
 unfold mu
 have w1:IntKind.wrap .i64 (o.aP-o.used)=o.aP-o.used:=bj (by omega) (by omega)
 by_cases h1:c<0
 ·simp+decide only[sv,Me,Qx,Qw,Qv,Qu,Qt,Qs,Qr,Ob.c,h1,aV]
  refine⟨rfl,?_⟩
  grind
 by_cases h2:o.aP-o.used<c
 ·simp+decide only[sv,Me,Qx,Qw,Qv,Qu,Qt,Qs,Qr,Ob.c,h1,h2,w1,aV]
  refine⟨rfl,?_⟩
  grind
 have w2:IntKind.wrap .i64 (o.used+c)=o.used+c:=bj (by omega) (by omega)
 simp+decide only[sv,Me,Qx,Qw,Qv,Qu,Qt,Qs,Qr,Ob.c,h1,h2,w1,w2,aV]
 refine⟨by simp only[AV.strip,AV.a8,aB.dJ,iz,(ay .u16).dJ,aR.dJ,aC]<;>rfl,?_⟩
 grind
def aHM (ok:aA P tb) {t:Nat->aL} {c:Int} (hu: -(2^60)<=o.used/\o.used<2^60) (hc: -(2^60)<c/\c<2^60):al P 125 [.agg (o.c t), .int .i64 c] h (.agg ((kY o c).c aC)) h:=by
 refine ok.df (rf:=Ua) rfl (bT rfl) (by simp only[AV.bD,sD]) ?_
 unfold kY
 by_cases h1:0<c
 ·have w1:IntKind.wrap .i64 (o.used-min c o.used)=max (o.used-c) 0:=by rw[bj]<;>omega
  simp+decide only[sv,Ua,ab3,ab2,ab1,ab0,Ob.c,h1,w1,aV]
  refine⟨by simp only[AV.strip,AV.a8,aB.dJ,iz,(ay .u16).dJ,aR.dJ,aC]<;>rfl,?_⟩
  grind
 ·simp+decide only[sv,Ua,ab3,ab2,ab1,ab0,Ob.c,h1,aV]
  refine⟨by simp only[AV.strip,AV.a8,aB.dJ,iz,(ay .u16).dJ,aR.dJ,aC]<;>rfl,?_⟩
  grind
def aFc (ok:aA P tb) {t:aL} (hl:l.length<2^30):al P 219 [.vs (aR.R l) t] h (.bool (mN l)) h:=by
 refine ok.bA agu ?_
 unfold mN
 simp+decide only[sv,agu,apI,apH]
 let J:Nat->Env->aa->Prop:=fun i ρ H=>H=h/\(∀j (hj:j<l.length),j<i->l[j].length<=16)/\ρ 0= .vs (aR.R l) t
 refine eQ 3 0 l.length (by omega) (bM _) J ?_ ?_ ⟨rfl,fun j _ hj=>by omega,rfl⟩ rfl
 ·rintro i ρ H ⟨rfl,hf,r0⟩ r3-hi av aK hw
  have gi:(aR.R l)[i]? =some [.vs (BS l[i]) .au]:=aR.cj hi
  by_cases e:l[i].length<=16
  ·have e1: ¬(16:Int)<(l[i].length:Int):=by omega
   simp+decide only[sv,Pr,ZC,apF,r0,r3,aF.aD,av,aK,gi,aY,e1,hw]
   refine⟨rfl,fun j hj jt=>?_,r0⟩
   grind
  ·have e1:(16:Int)<(l[i].length:Int):=by omega
   have e2:(l.any fun b=>decide (16<b.length))=true:=by grind
   simp+decide only[sv,Pr,ZC,apG,r0,r3,aF.aD,av,aK,gi,aY,e1,e2,Gt]
 ·rintro ρ H ⟨rfl,hf,r0⟩ r3 av
  have e2:(l.any fun b=>decide (16<b.length))=false:=by
   rw[List.any_eq_false]
   intro x hx
   obtain⟨j,hj,rfl⟩:=jm hx
   grind
  have e3:decide ((l.length:Int)<=4)=decide (l.length<=4):=by
   grind
  simp+decide only[sv,Pr,apE,r0,r3,aF.aD,av,e2,e3,Dw]
structure Ba (rows:List (List AV)) (l:List (List UInt8)):Prop where
 s:AV.fU rows=aR.R l
def Ba.len (r:Ba rows l):rows.length=l.length:=by
 have:=congrArg List.length r.s
 rwa [EU,aF.aD] at this
def aF5 {a b:List (List AV)}:AV.fU (a++b)=AV.fU a++AV.fU b:=by
 induction a with
 |nil=>rfl
 |cons x a ih=>simp only[Gw,AV.fU,ih]
def Ba.head (r:Ba rows l):bQ 1 rows=true:=by
 cases rows with
 |nil=>rfl
 |cons x rows=>
  cases l with
  |nil=>have:=r.len;simp at this
  |cons b l=>
   have h:=r.s
   simp only[AV.fU,aF.BL,List.cons.injEq] at h
   have h2:=congrArg List.length h.1
   rw[CU] at h2
   rw[show(aR.e b).length=1 from rfl] at h2
   simp only[bQ,h2];decide
def Ba.snoc (r:Ba rows l) {b:List UInt8} {t:aL}:Ba (rows++[[.vs (BS b) t]]) (l++[b]):=
 ⟨by rw[aF5,r.s,<-aF.kX];simp only[AV.fU,AV.a8,AV.strip,iz];rfl⟩
def aiB (ok:aA P tb) {t:aL} (hl:l.length<2^20) (hb: ∀b∈l,b.length<2^20): ∃v h',al P 73 [.vs (aR.R l) t] h v h'/\(∃rows,App h h' v rows/\Ba rows l)/\Old h h':=by
 refine ok.kP c73 ?_
 simp+decide only[sv,c73,azc,azb,aza]
 let J:Nat->Env->aa->Prop:=fun i ρ H=>Old h H/\ρ 0= .vs (aR.R l) t/\ ∃rows,App h H (ρ 3) rows/\Ba rows (l.take i)
 refine eQ 4 0 l.length (by omega) (bM _) J ?_ ?_ ⟨Old.refl h,rfl,[],App.nil h h,⟨rfl⟩⟩ rfl
 ·rintro i ρ H ⟨ho,r0,rows,ha,lr⟩ r4-hi av aK hw
  have gi:(aR.R l)[i]? =some [.vs (BS l[i]) .au]:=aR.cj hi
  have dH:=hb _ (bw hi)
  have jL:=lr.len
  rw[jQ,Gu (by omega)] at jL
  obtain⟨v1,h1,a1,a2,a3,_⟩:=(App.start dt H H).more (Old.refl H) 1 1 l[i] (BS l[i]) rfl rfl (by grind) (by decide)
  obtain⟨t1,rfl,_⟩:=id a2
  obtain⟨v2,h2,b1,b2,b3,_⟩:=(ha.old a3).app (ho.trans a3) (bytes:=24) (sz:=1) (id:=h1.next) (ho.trans a3).next [[.vs (BS l[i]) t1]] lr.head (by grind) (by grind)
  have hh:bQ 1 (BS l[i])=true:=iM
  obtain⟨t0,r3,_⟩:=id ha
  rw[r3] at b1
  rw[show dt.R ([]++l[i])=BS l[i] from rfl] at a1
  simp+decide only[sv,adS,ay9,ay8,r0,r3,r4,aF.aD,av,aK,gi,hh,np,a1,Tg,J6,b1,hw]
  refine⟨b3,r0,_,b2,?_⟩
  rw[lN hi]
  exact lr.snoc
 ·rintro ρ H ⟨ho,r0,rows,ha,lr⟩ r4 av
  rw[bX (ak _)] at lr
  obtain⟨t0,r3,_⟩:=id ha
  simp+decide only[sv,adS,ay7,r0,r3,r4,aF.aD,av,eK]
  grind
def aGG (ok:aA P tb) {b:List UInt8} {t:aL} (hl:l.length<2^20) (hb: ∀b∈l,b.length<2^20) (lZ:b.length<2^28):al P 126 [.vs (aR.R l) t, .vs (BS b) t'] h (.aE [.vs (aR.R (py l b).1) .au, .int .i64 (py l b).2]) h:=by
 refine ok.df (rf:=Md) rfl (bT rfl) (by simp only[AV.bD,AV.cG,aR.jD];rfl) ?_
 unfold py
 by_cases h1:16<b.length
 ·have br:(16:Int)<(b.length:Int):=by omega
  simp+decide only[sv,Md,Qo,Qn,abZ,Qm,abY,Ql,aY,br,h1,aV]
  first|rfl|exact⟨rfl,fun _ _=>rfl⟩
 have br: ¬(16:Int)<(b.length:Int):=by omega
 by_cases h2:4<=l.length
 ·have cB:(4:Int)<=(l.length:Int):=by omega
  simp+decide only[sv,Md,Qo,Qn,abZ,Qm,abY,Ql,aY,aR.aD,br,h1,cB,h2,aV]
  first|rfl|exact⟨rfl,fun _ _=>rfl⟩
 have cB: ¬(4:Int)<=(l.length:Int):=by omega
 obtain⟨v,H,k1,⟨rows,ha,lr⟩,ho⟩:=aiB ok (t:=t) (h:=h) hl hb
 have jL:=lr.len
 obtain⟨v1,H1,a1,a2,a3,_⟩:=(App.start dt H H).more (Old.refl H) 1 1 b (BS b) rfl rfl (by grind) (by decide)
 obtain⟨t1,rfl,_⟩:=id a2
 obtain⟨v2,H2,b1,b2,b3,_⟩:=(ha.old a3).app (ho.trans a3) (bytes:=24) (sz:=1) (id:=H1.next) (ho.trans a3).next [[.vs (BS b) t1]] lr.head (by grind) (by grind)
 have hh:bQ 1 (BS b)=true:=iM
 rw[show dt.R ([]++b)=BS b from rfl] at a1
 simp+decide only[sv,Md,Qo,Qn,Qm,Ql,aY,aR.aD,br,cB]
 refine ao k1 ?_
 obtain⟨t2,rfl,_⟩:=id b2
 simp+decide only[sv,hh,np,a1,Tg,J6,b1,h1,h2,aV]
 refine⟨?_,b3.get⟩
 have:=(lr.snoc (b:=b) (t:=t1)).s
 simp only[AV.strip,AV.a8,this]
def aFQ (ok:aA P tb) {t:aL} (hl:l.length<2^20) (hb: ∀b∈l,b.length<2^20):al P 73 [.vs (aR.R l) t] h (.vs (aR.R l) .au) h:=by
 obtain⟨v,h',h1,⟨rows,⟨t0,rfl,_⟩,lr⟩,ho⟩:=aiB ok (t:=t) (h:=h) hl hb
 have:=h1.strip
 rw[AV.strip,lr.s] at this
 exact this.restore (fun x hx=>ho.get x hx) aR.i7
def aE3 (ok:aA P tb) {a b:List (List UInt8)} {t:aL} (ha:a.length<2^30):al P 129 [.vs (aR.R a) t, .vs (aR.R b) t'] h (.bool (decide (a=b))) h:=by
 refine ok.bA T8 ?_
 by_cases hn:a.length=b.length
 ·have cV:(a.length:Int)=(b.length:Int):=by omega
  simp+decide only[sv,T8,abS,abR,auY,aF.aD,cV]
  let J:Nat->Env->aa->Prop:=fun i ρ H=>Old h H/\(∀j (hj:j<a.length) (mZ:j<b.length),j<i->a[j]=b[j])/\ρ 0= .vs (aR.R a) t/\ρ 1= .vs (aR.R b) t'
  refine eQ 5 0 a.length (by omega) (bM _) J ?_ ?_ ⟨Old.refl h,fun j _ _ hj=>by omega,rfl,rfl⟩ rfl
  ·rintro i ρ H ⟨ho,hf,r0,r1⟩ r5-hi av aK hw
   have gi:(aR.R a)[i]? =some [.vs (BS a[i]) .au]:=aR.cj hi
   have gj:(aR.R b)[i]? =some [.vs (BS b[i]) .au]:=aR.cj (by omega)
   simp+decide only[sv,abQ,r0,r5,aF.aD,av]
   refine bq 11 rfl rfl ?_
   by_cases e:a[i]=b[i]
   ·have e1:(a[i]==b[i])=true:=by simp[e]
    simp+decide only[sv,abP,auW,r0,r1,r5,aK,gi,gj,iM,xt,ajW,e1,hw]
    refine⟨ho.clean,fun j hj mZ jt=>?_,r0,r1⟩
    grind
   ·have e1:(a[i]==b[i])=false:=by simpa using e
    have e2:decide (a=b)=false:=mc fun q=>e (by simp only[q])
    simp+decide only[sv,abP,auX,r0,r1,r5,aK,gi,gj,iM,xt,ajW,e1,e2]
    exact(ho.clean (n:=11)).get
  ·rintro ρ H ⟨ho,hf,r0,r1⟩ r5 av
   have e2:decide (a=b)=true:=mF (B6 hn fun j h1 h2=>hf j h1 h2 h1)
   simp+decide only[sv,abQ,auV,r0,r5,aF.aD,av,e2]
   exact ho.get
 ·have cV: ¬(a.length:Int)=(b.length:Int):=by omega
  have e2:decide (a=b)=false:=mc fun q=>hn (by rw[q])
  simp+decide only[sv,T8,abS,abR,auZ,aF.aD,cV,e2]
def aFa (ok:aA P tb) {b:List UInt8} {t:aL} (hb:b.length<2^18) (hl:l.length<256) (hc: ∀c∈l,c.length<256):al P 169 [.vs (BS b) t, .vs (aR.R l) t'] h (.vs (BS (b++mf l)) .au) h:=by
 refine ok.df (rf:=agW) rfl (bT rfl) dt.i7 ?_
 obtain⟨v1,h1,a1,a2,a3,_⟩:=(App.start dt h h).more (Old.refl h) 1 1 b (BS b) rfl rfl (by grind) (by decide)
 have hh:bQ 1 (BS b)=true:=iM
 have w:IntKind.wrap .u8 (l.length:Int)=l.length:=by rw[wrap_u8];unfold wG;simp;omega
 obtain⟨v2,h2,b1,b2,b3,_⟩:=a2.more a3 1 1 (be l.length 1) [[.int .u8 l.length]] (amq hl).symm rfl (by simp only[kF,bG];omega) (by decide)
 rw[kF] at b2
 simp+decide only[sv,agW,ar7,ar6,ar5,hh,np,a1,aF.aD,w,b1]
 let J:Nat->Env->aa->Prop:=fun i ρ H=>Old h H/\App h H (ρ 0) (BS (b++be l.length 1++(l.take i).flatMap cq))/\ρ 1= .vs (aR.R l) t'
 have da: ∀i,i<=l.length->((l.take i).flatMap cq).length<=258*i:=by
  intro i
  induction i with
  |zero=>intro _;simp
  |succ i ih=>
   intro hi
   have:=ih (by omega)
   have uV:=hc _ (bw (show i<l.length by omega))
   rw[lN (by omega),vX,cw]
   simp only[jR,sS,fE,cq,bG,cw];omega
 refine eQ 5 0 l.length (by omega) (bM _) J ?_ ?_ ⟨b3,by simp only[kD,sS,fE];exact b2,rfl⟩ rfl
 ·rintro i ρ H ⟨ho,ha,r1⟩ r5-hi av aK hw
  have gi:(aR.R l)[i]? =some [.vs (BS l[i]) .au]:=aR.cj hi
  have uV:=hc _ (bw hi)
  have:=da i (by omega)
  obtain⟨t0,r0,_⟩:=id ha
  obtain⟨v3,H3,c1,c2,c3⟩:=ahZ ok (h:=H) (b:=b++be l.length 1++(l.take i).flatMap cq) (s:=l[i]) (t:=t0) (t':= .au) (by simp only[cw,bG];omega) (by omega)
  simp+decide only[sv,aaH,ar4,r0,r1,r5,aF.aD,av,aK,gi]
  refine ao c1 ?_
  simp+decide only[sv,ar3,r5,hw]
  refine⟨ho.trans c3,?_,r1⟩
  rw[lN hi,vX,<-eR,show [l[i]].flatMap cq=cq l[i] by simp]
  obtain⟨tt,e,q|⟨k,q1,q2,q3⟩⟩:=c2
  ·exact⟨tt,e, .inl q⟩
  ·exact⟨tt,e, .inr ⟨k,q1,by have:=ho.next;omega,q3⟩⟩
 ·rintro ρ H ⟨ho,ha,r1⟩ r5 av
  obtain⟨t0,r0,_⟩:=id ha
  rw[bX (ak _)] at r0
  simp+decide only[sv,aaH,ar2,r0,r1,r5,aF.aD,av,aV]
  exact⟨by rw[eR];exact dt.iy,ho.get⟩
def App.val {E:aF α} (c:al P f zas h v h') (a:App h h' v (E.R l)) (o:Old h h'):al P f zas h (.vs (E.R l) .au) h:=by
 obtain⟨t,rfl,_⟩:=a
 have:=c.strip
 rw[E.iy] at this
 exact this.restore (fun x hx=>o.get x hx) E.i7
def Ir (ok:aA P tb) {b:List UInt8} {t:aL} {v n:Nat} (hn:n<=8) (hb:b.length<2^30):al P 127 [.vs (BS b) t, .int .u64 v, .int .i64 n] h (.vs (BS (b++be v n)) .au) h:=by
 obtain⟨v,h',c,a,o⟩:=Oj ok (h:=h) (t:=t) (v:=v) hn hb
 exact App.val (E:=dt) c a o
def ahL (ok:aA P tb) {b:List UInt8} {t:aL} (hb:b.length<2^20) (hs:s.length<2^20):al P 133 [.vs (BS b) t, .vs (BS s) t'] h (.vs (BS (b++cq s)) .au) h:=by
 obtain⟨v,h',c,a,o⟩:=ahZ ok (h:=h) (t:=t) (t':=t') hb hs
 exact App.val (E:=dt) c a o
def aFK (ok:aA P tb) (aM:o.id<2^64) (hc:o.bf.length<2^30) (hr:o.ring.length<2^30):al P 167 [.agg (o.c τ)] h (.bool (cP o.id&&ko o)) h:=by
 refine ok.bA agY ?_
 unfold ko
 simp+decide only[sv,agY,asj,Ob.c]
 generalize hX:aa.at _ _ _=X
 have oX:Old h X:=by rw[<-hX];exact(Old.refl h).at (ak _)
 have cX:cellsOf X h.next=some (o.c τ):=by rw[<-hX];exact aq (by simp[aa.at];try rfl)
 have nX:X.next=h.next+1:=by rw[<-hX];simp[aa.at]
 clear hX
 simp only[Ob.c] at cX
 simp+decide only[sv,asi,cX]
 refine ao (VN ok aM) ?_
 cases hm:cP o.id with
 |false=>
  simp+decide only[sv,ash,B3]
  exact oX.get
 |true=>
  simp+decide only[sv,asg,cX]
  by_cases h1:o.kind=1
  ·rw[ax h1]
   by_cases q0:0<=o.aP
   case neg=>
    have e:(decide (0<=o.used)&&decide (o.used<=o.aP)&&decide (o.aP<=400)&&decide (1<=o.next)&&decide (o.next<=64))=false:=by
     grind
    simp+decide only[sv,vI,Dj,cX,h1,q0,e]
    exact oX.get
   by_cases q1:o.aP<=400
   case neg=>
    have e:(decide (0<=o.used)&&decide (o.used<=o.aP)&&decide (o.aP<=400)&&decide (1<=o.next)&&decide (o.next<=64))=false:=by grind
    simp+decide only[sv,vI,Dj,cX,h1,q0,q1,B3,Gt]
    exact oX.get
   by_cases q2:0<=o.used
   case neg=>
    simp+decide only[sv,vI,Dj,cX,h1,q0,q1,q2,B3]
    exact oX.get
   by_cases q3:o.used<=o.aP
   case neg=>
    simp+decide only[sv,vI,Dj,cX,h1,q0,q1,q2,q3,B3,Gt]
    exact oX.get
   by_cases q4:1<=o.next
   case neg=>
    simp+decide only[sv,vI,Dj,cX,h1,q0,q1,q2,q3,q4,B3,Gt]
    exact oX.get
   simp+decide only[sv,vI,Dj,cX,h1,q0,q1,q2,q3,q4,Dw]
   exact oX.get
  rw[aj h1]
  by_cases h2:o.kind=2
  ·rw[ax h2]
   have e3:decide ((o.data.length:Int)<=64)=decide (o.data.length<=64):=by
    grind
   simp+decide only[sv,vI,JF,asf,cX,h2,aY,e3]
   exact oX.get
  rw[aj h2]
  by_cases h3:o.kind=3
  ·rw[ax h3]
   simp+decide only[sv,vI,JF,Qe,ase,cX,h3]
   refine ao (aFl ok hc) ?_
   simp+decide only[sv]
   exact oX.get
  rw[aj h3]
  by_cases h4:o.kind=4
  ·rw[ax h4]
   simp+decide only[sv,vI,JF,Qe,W7,alD,cX,h4]
   refine ao (aFc ok hr) ?_
   simp+decide only[sv]
   exact oX.get
  rw[aj h4]
  simp+decide only[sv,vI,JF,Qe,W7,alC,h1,h2,h3,h4]
  exact oX.get
def aGH (ok:aA P tb) (hl:o.ai.ps.length<2^18) (aM:o.id<2^64) (hc:o.bf.length<2^30) (hr:o.ring.length<2^30) (hm:eS o=true):al P 130 [.agg (o.c τ)] h (.bool true) h:=by
 refine ok.bA ahm ?_
 unfold eS at hm
 simp only[fV] at hm
 obtain⟨⟨m1,m2⟩,m3⟩:=hm
 unfold uF at m2
 simp only[fV] at m2
 simp+decide only[sv,ahm,auU,Ob.c]
 generalize hX:aa.at _ _ _=X
 have oX:Old h X:=by rw[<-hX];exact(Old.refl h).at (ak _)
 have cX:cellsOf X h.next=some (o.c τ):=by rw[<-hX];exact aq (by simp[aa.at];try rfl)
 have nX:X.next=h.next+1:=by rw[<-hX];simp[aa.at]
 clear hX
 have c1:=aFK ok (h:=X) (τ:=τ) aM hc hr
 rw[m1,m3] at c1
 simp only[Ob.c,BX] at cX c1
 simp+decide only[sv,auT,cX]
 refine ao c1 ?_
 have c2:=ai9 ok (h:=X) (l:=o.ai) (t:=τ 0) (by omega)
 rw[m2.1] at c2
 simp only[Lb.c] at c2
 simp+decide only[sv,cX]
 refine ao c2 ?_
 have c3:=Ii ok (h:=X) (l:=o.ai) (t:=τ 0) (x:=0) (by omega)
 simp only[Lb.c] at c3
 simp+decide only[sv,cX]
 refine ao c3 ?_
 have e:(jU o.ai 0).length=0:=by have:=m2.2;rw[show dQ o.ai.ps=jU o.ai 0 from rfl] at this;grind
 have e':(((jU o.ai 0).length:Int)=0):=by omega
 simp+decide only[sv,aF.aD,e']
 exact oX.get
def aGB (ok:aA P tb) {b:List UInt8} {t:aL} (hb:b.length<2^17) (hm:eS o=true) (hk:HF o):al P 131 [.vs (BS b) t, .agg (o.c τ)] h (.vs (BS (b++mH o)) .au) h:=by
 refine ok.df (rf:=ahl) rfl (bT rfl) dt.i7 ?_
 unfold mH
 simp+decide only[sv,ahl,auS,Ob.c]
 generalize hX:aa.at _ _ _=X
 have oX:Old h X:=by rw[<-hX];exact(Old.refl h).at (ak _)
 have cX:cellsOf X h.next=some (o.c τ):=by rw[<-hX];exact aq (by simp[aa.at];try rfl)
 have nX:X.next=h.next+1:=by rw[<-hX];simp[aa.at]
 clear hX
 simp only[Ob.c] at cX
 simp+decide only[sv,auR,cX]
 by_cases h1:o.kind=1
 ·rw[ax h1]
  have hp:ko o=true:=by unfold eS at hm;grind
  unfold ko at hp
  rw[ax h1] at hp
  simp only[fV,rK] at hp
  have w1:IntKind.wrap .u64 o.aP=o.aP.toNat:=by rw[show o.aP=((o.aP.toNat:Nat):Int) by omega];exact eo (by omega)
  have w2:IntKind.wrap .u64 o.used=o.used.toNat:=by rw[show o.used=((o.used.toNat:Nat):Int) by omega];exact eo (by omega)
  have w3:IntKind.wrap .u64 o.next=o.next.toNat:=by rw[show o.next=((o.next.toNat:Nat):Int) by omega];exact eo (by omega)
  have n0:h.next<X.next:=by omega
  simp+decide only[sv,JL,h1]
  refine m6 ?_
  simp+decide only[sv,auQ,cX,n0,w1]
  refine dh (Ir ok (b:=b) (t:=t) (by decide) (by omega)) (ba (ak _)) ?_
  simp+decide only[sv,cX,n0,w2]
  refine dh (Ir ok (b:=b++be o.aP.toNat 2) (by decide) (by simp only[cw,bG];omega)) (ba (ak _)) ?_
  simp+decide only[sv,cX,n0,w3]
  refine dh (Ir ok (b:=b++be o.aP.toNat 2++be o.used.toNat 2) (by decide) (by simp only[cw,bG];omega)) (ba (ak _)) ?_
  simp+decide only[sv,aV]
  refine⟨?_,(oX.clean (n:=14)).get⟩
  rw[show b++be o.aP.toNat 2++be o.used.toNat 2++be o.next.toNat 2=b++(be o.aP.toNat 2++be o.used.toNat 2++be o.next.toNat 2) by simp]
  exact dt.iy
 rw[aj h1]
 by_cases h2:o.kind=2
 ·rw[ax h2]
  have hd:=qy hm h2
  simp+decide only[sv,JL,Qk,auP,cX,h2]
  refine ao (ahL ok (by omega) (by omega)) ?_
  simp+decide only[sv,aV]
  exact⟨dt.iy,oX.get⟩
 rw[aj h2]
 by_cases h3:o.kind=3
 ·rw[ax h3]
  have hc:=Fk (Fa hm h3)
  simp+decide only[sv,JL,Qk,abO,auO,cX,h3]
  refine ao (aFj ok (by omega) (by omega) hk.cat) ?_
  simp+decide only[sv,aV]
  exact⟨dt.iy,oX.get⟩
 rw[aj h3]
 have h4:o.kind=4:=by rcases y5 hm with h|h|h|h<;>first|omega|exact h
 have hr:=xj (xg hm h4)
 simp+decide only[sv,JL,Qk,abO,auN,cX,h1,h2,h3]
 refine ao (aFa ok (by omega) (by omega) (fun c hc=>by grind)) ?_
 simp+decide only[sv,aV]
 exact⟨dt.iy,oX.get⟩
theorem aGF (ok:aA P tb) (hm:eS o=true) (hk:HF o):al P 85 [.agg (o.c τ)] h (.aE [.vs (BS (eM o)) .au, .int .i64 0]) h:=by
 refine ok.df (rf:=Vh) rfl (bT rfl) (by simp only[AV.bD,AV.cG,vx];rfl) ?_
 have mW:=Bp (IG hm).1
 simp+decide only[sv,Vh,ax3,Ob.c]
 generalize hX:aa.at _ _ _=X
 have oX:Old h X:=by rw[<-hX];exact(Old.refl h).at (ak _)
 have cX:cellsOf X h.next=some (o.c τ):=by rw[<-hX];exact aq (by simp[aa.at];try rfl)
 have nX:X.next=h.next+1:=by rw[<-hX];simp[aa.at]
 clear hX
 have c1:=aGH ok (h:=X) (τ:=τ) (by omega) hk.id (by have:=hk.bf;omega) (by have:=hk.ring;omega) hm
 simp only[Ob.c] at cX c1
 simp+decide only[sv,ax2,cX]
 refine ao c1 ?_
 have n0:h.next<X.next:=by omega
 obtain⟨kk,ph⟩: ∃kk:UInt8,kk=UInt8.ofNat o.kind.toNat:=⟨_,rfl⟩
 have w1:IntKind.wrap .u8 o.kind=kk.toNat:=by
  rw[ph,wrap_u8];unfold wG
  rcases y5 hm with e|e|e|e<;>rw[e]<;>rfl
 have e1:[[AV.int .u8 1],[AV.int .u8 kk.toNat]]=BS [1,kk]:=rfl
 simp+decide only[sv,Vh]
 refine m6 ?_
 simp+decide only[sv,ax1,cX,n0,w1,xr,e1]
 refine dh (Ir ok (b:=[1,kk]) (by decide) (by simp)) (ba (ak _)) ?_
 simp+decide only[sv,cX,n0]
 have c2:=Nq ok (h:=X.clean 14) (b:=[1,kk]++be o.id 8) (t:= .au) (l:=o.ai) (t':=τ 0) hk.ai (by simp only[cw,bG,cQ,fI];omega)
 simp only[Lb.c] at c2
 refine dh c2 (ba (ak _)) ?_
 simp+decide only[sv,cX,n0]
 have hp:=CZ (l:=o.ai)
 have c3:=aGB ok (h:=X.clean 14) (b:=[1,kk]++be o.id 8++cE o.ai) (t:= .au) (τ:=τ) (by simp only[cw,bG,cQ,fI];omega) hm hk
 simp only[Ob.c] at c3
 refine dh c3 (ba (ak _)) ?_
 simp+decide only[sv,aV]
 refine⟨?_,(oX.clean (n:=14)).get⟩
 have:eM o=[1,kk]++be o.id 8++cE o.ai++mH o:=by rw[ph];rfl
 rw[this]
 simp only[AV.strip,AV.a8,iz]
 rfl
def aFi (ok:aA P tb) {o:Ob} (hl:o.ai.ps.length<2^30) (h1:o.st.s.length<2^30) (h2:o.st.i.length<2^30) (h3:o.st.o.length<2^30) (hc:o.bf.length<2^30) (hr:o.ring.length<2^30):al P 84 [.agg (o.c τ), .agg (o.c τ')] h (.bool true) h:=by
 refine ok.bA c84 ?_
 simp+decide only[sv,c84,ax5,Ob.c]
 generalize hX:aa.at _ _ _=X
 have oX:Old h X:=by rw[<-hX];exact((Old.refl h).at (ak _)).at (by omega)
 have x0:cellsOf X h.next=some (o.c τ):=by rw[<-hX];exact aq (by simp[aa.at];rfl)
 have x1:cellsOf X (h.next+1)=some (o.c τ'):=by rw[<-hX];exact aq (by simp[aa.at];rfl)
 clear hX
 simp only[Ob.c] at x0 x1
 have c1:=aix ok (h:=X) (a:=o.ai) (b:=o.ai) (t:=τ 0) (t':=τ' 0) hl
 have c2:=ahK ok (h:=X) (a:=o.st) (b:=o.st) (τ:=τ) (τ':=τ') h1 h2 h3
 rw[mF rfl] at c1 c2
 simp only[Lb.c,St.c] at c1 c2
 have c3:=Ni ok (h:=X) (a:=o.bf) (b:=o.bf) (t:=τ 5) (t':=τ' 5) hc
 have c4:=aE3 ok (h:=X) (a:=o.ring) (b:=o.ring) (t:=τ 6) (t':=τ' 6) hr
 rw[mF rfl] at c3 c4
 have e1:bH false .eql (.str ⟨o.data.toArray⟩) (.str ⟨o.data.toArray⟩)=some (.bool true):=by rw[akN];simp
 simp+decide only[sv,ax4,x0,x1]
 refine ao c1 ?_
 simp+decide only[sv,x0,x1]
 refine ao c2 ?_
 simp+decide only[sv,x0,x1,iM,xt,e1]
 refine ao c3 ?_
 simp+decide only[sv,x0,x1]
 refine ao c4 ?_
 simp+decide only[sv]
 exact oX.get
def aE7 (ok:aA P tb) {t:aL} (hl:l.length<2^30) (hk: ∀o∈l,o.ai.ps.length<2^30/\o.st.s.length<2^30/\o.st.i.length<2^30/\o.st.o.length<2^30/\o.bf.length<2^30/\o.ring.length<2^30):al P 37 [.vs (bg l) t, .vs (bg l) t'] h (.bool true) h:=by
 refine ok.bA c37 ?_
 have ll:(bg l).length=l.length:=by simp[bg]
 simp+decide only[sv,c37,aB5,aB4,aB3,ll]
 let J:Nat->Env->aa->Prop:=fun i ρ H=>Old h H/\ρ 0= .vs (bg l) t/\ρ 1= .vs (bg l) t'
 refine eQ 5 0 l.length (by omega) (bM _) J ?_ ?_ ⟨Old.refl h,rfl,rfl⟩ rfl
 ·rintro i ρ H ⟨ho,r0,r1⟩ r5-hi av aK hw
  have gi:(bg l)[i]? =some (l[i].c aC):=by simp[bg,bn hi]
  obtain⟨k1,k2,k3,k4,k5,k6⟩:=hk _ (bw hi)
  simp only[Ob.c] at gi
  simp+decide only[sv,aeB,r0,r5,ll,av]
  refine bq 10 rfl rfl ?_
  simp+decide only[sv,aB2,r0,r1,r5,aK,gi]
  refine dX (aFi ok (o:=l[i]) (τ:=aC) (τ':=aC) k1 k2 k3 k4 k5 k6) (ba (ak _)) ?_
  simp+decide only[sv,aB1,r5,hw]
  exact⟨ho.clean,r0,r1⟩
 ·rintro ρ H ⟨ho,r0,r1⟩ r5 av
  simp+decide only[sv,aeB,aB0,r0,r5,ll,av]
  exact ho.get
def ahY (ok:aA P tb) {o:Th} (hl:o.ai.ps.length<2^30) (h1:o.st=qV):al P 53 [.agg (o.c τ), .agg (o.c τ')] h (.bool true) h:=by
 refine ok.bA c53 ?_
 simp+decide only[sv,c53,aAz,Th.c]
 generalize hX:aa.at _ _ _=X
 have oX:Old h X:=by rw[<-hX];exact((Old.refl h).at (ak _)).at (by omega)
 have x0:cellsOf X h.next=some (o.c τ):=by rw[<-hX];exact aq (by simp[aa.at];rfl)
 have x1:cellsOf X (h.next+1)=some (o.c τ'):=by rw[<-hX];exact aq (by simp[aa.at];rfl)
 clear hX
 simp only[Th.c] at x0 x1
 have c1:=aix ok (h:=X) (a:=o.ai) (b:=o.ai) (t:=τ 0) (t':=τ' 0) hl
 have c2:=ahK ok (h:=X) (a:=o.st) (b:=o.st) (τ:=τ) (τ':=τ') (by rw[h1];decide) (by rw[h1];decide) (by rw[h1];decide)
 rw[mF rfl] at c1 c2
 simp only[Lb.c,St.c] at c1 c2
 have e1:bH true .eql (.bool o.new) (.bool o.new)=some (.bool true):=by simp[bH]
 simp+decide only[sv,aAy,x0,x1]
 refine ao c1 ?_
 simp+decide only[sv,x0,x1]
 refine ao c2 ?_
 simp+decide only[sv,x0,x1,e1]
 exact oX.get
def tw:aF (List UInt8):=⟨fun b=>[.str ⟨b.toArray⟩],1,fun _=>rfl,fun _=>rfl,fun _ _=>rfl⟩
structure RA (h:aa) (p:Nat) (ids:List Nat) (p6:List (List UInt8)):Prop where
 lt:p<h.next
 len:p6.length=ids.length
 get: ∃t t',h.get p=some (.cells [.int .u8 1, .vs ((ay .u64).R ids) t, .vs (tw.R p6) t'])
def RA.at (ok:aA P tb) {p:Nat} (R:RA h p ids p6) {id:Nat} (aM: ∀x∈ids,x<id) (hl:ids.length<2^20):al P 132 [.ptr p 0, .int .u64 id] h (.aE [.int .i64 ids.length, .bool false]) h:=by
 refine ok.bA ahk ?_
 obtain⟨t1,t2,g⟩:=R.get
 have c0:=aq g
 have lt:=R.lt
 simp+decide only[sv,ahk,auM,auL]
 let J:Nat->Env->aa->Prop:=fun i ρ H=>H=h/\ρ 0= .ptr p 0/\ρ 1= .int .u64 id
 refine eQ 6 0 ids.length (by omega) (bM _) J ?_ ?_ ⟨rfl,rfl,rfl⟩ rfl
 ·rintro i ρ H ⟨rfl,r0,r1⟩ r6-hi av aK hw
  have gi:((ay .u64).R ids)[i]? =some [.int .u64 ids[i]]:=(ay .u64).cj hi
  have aS:(ids[i]:Int)<(id:Int):=by simp_all
  simp+decide only[sv,abN,auK,r0,r1,r6,c0,aF.aD,av,aK,gi,aS,hw]
  exact⟨rfl,r0,r1⟩
 ·rintro ρ H ⟨rfl,r0,r1⟩ r6 av
  have e: ¬(ids.length:Int)<(ids.length:Int):=by omega
  simp+decide only[sv,abN,r0,r6,c0,aF.aD,e]
  refine bq 21 rfl rfl ?_
  have z0:cellsOf (H.clean 21) p=_:=(Old.refl H).clean.cells lt c0
  simp+decide only[sv,auJ,r0,r6,z0,aF.aD,e]
  grind
def Cb {Y:aa} (dU:i1<=i2) (hf:dY n Y.next i1 G): ∀j,j<n->G.get (Y.next+j)=none\/j<=i2:=fun j hj=>by
 by_cases jt:j<=i2
 ·exact .inr jt
 ·exact .inl (hf j (by omega) hj)
def RZ {Y:aa}: ∀j,j<n->(Y.clean n).get (Y.next+j)=none\/j<=i:=fun j hj=> .inl (by simp only[aa.clean];grind)
def RA.put (ok:aA P tb) {p:Nat} (R:RA h p ids p6) {id:Nat} {b:List UInt8} {t:aL} (aM: ∀x∈ids,x<id) (hb:b.head?=some 1) (lZ:b.length<2^30) (hl:ids.length<2^20):
 ∃h',al P 86 [.ptr p 0, .int .u64 id, .vs (BS b) t] h (.int .i64 0) h'/\RA h' p (ids++[id]) (p6++[b])/\h.next<=h'.next/\ ∀x,x<h.next->x≠p->h'.get x=h.get x:=by
 obtain⟨Q,hQ⟩: ∃Q:aa->Prop,∀h',Q h'↔(RA h' p (ids++[id]) (p6++[b])/\h.next<=h'.next/\ ∀x,x<h.next->x≠p->h'.get x=h.get x):=⟨_,fun _=>Iff.rfl⟩
 suffices hu: ∃h',al P 86 [.ptr p 0, .int .u64 id, .vs (BS b) t] h (.int .i64 0) h'/\Q h' by
  grind
 refine ok.dr c86 ?_
 obtain⟨t1,t2,g⟩:=R.get
 have lt:=R.lt
 have rl:=R.len
 have c0:cellsOf (h.clean 13) p=_:=(Old.refl h).clean.cells lt (aq g)
 obtain⟨b0,bs,rfl⟩: ∃b0 bs,b=b0::bs:=by cases b with|nil=>cases hb|cons x l=>grind
 have CM:b0=1:=by simpa using hb
 subst CM
 have nz: ¬(((bs.length+1:Nat)):Int)=0:=by omega
 have g0:(BS (1::bs))[0]? =some [.int .u8 1]:=rfl
 simp+decide only[sv,c86,ax0]
 refine bq 13 rfl rfl ?_
 simp+decide only[sv,axZ,aY,nz,g0,c0,xr]
 have RX:RA (h.clean 13) p ids p6:=⟨by show p<h.next+13;omega,rl,t1,t2,by rw[(Old.refl h).clean.get p lt,g]⟩
 have oX:Old h (h.clean 13):=(Old.refl h).clean
 generalize h.clean 13=X at*
 simp+decide only[sv,axY]
 refine ao (RX.at ok aM hl) ?_
 simp+decide only[sv,axX]
 obtain⟨t1,t2,g⟩:=RX.get
 have wK:=RX.lt
 have MO:bQ 1 ((ay .u64).R ids)=true:=(ay .u64).fl
 have hh2:bQ 1 (tw.R p6)=true:=tw.fl
 have e1:((ay .u64).R ids).take ids.length=(ay .u64).R ids:=bX (by rw[aF.aD];omega)
 have e2:(tw.R p6).take ids.length=tw.R p6:=bX (by rw[aF.aD];omega)
 have e3:((ay .u64).R ids).drop ids.length=[]:=xZ (by grind)
 have e4:(tw.R p6).drop ids.length=[]:=xZ (by grind)
 have k0:(0:Int)<=(ids.length:Int):=by omega
 have kk:(ids.length:Nat)<=ids.length:=ak _
 have z0:cellsOf (X.clean 22) p=_:=(Old.refl X).clean.cells wK (aq g)
 have snd: ∀(ρ:Env) (Y:aa) (t1:aL),ρ 0= .ptr p 0->ρ 2= .vs (BS (1::bs)) t->ρ 7= .int .i64 ids.length->Y.get p=some (.cells [.int .u8 1, .vs ((ay .u64).R (ids++[id])) t1, .vs (tw.R p6) t2])->(∀x,x<X.next->x≠p->Y.get x=X.get x)->X.next<=Y.next->WP P (.jG adw [[],[],[],[],[],[],[],[],[],[],[8],[],[],[],[],[],[8,12],[],[],[],[],[],[]]) (iD (WP P (.seq (.cA adv) cO.ret) (Cd [mQ.tmp 6] (AV.int IntKind.i64 0) Q)) (Cd [mQ.tmp 6] (AV.int IntKind.i64 0) Q)) ρ Y:=by
  intro ρ Y t1 r0 r2 r7 gY hY nY
  have Mp:p<Y.next:=by omega
  have z0:cellsOf (Y.clean 23) p=_:=(Old.refl Y).clean.cells Mp (aq gY)
  have Mt:0<=ids.length:=bM _
  refine jk 17 23 rfl (by omega) rfl ?_
  simp+decide only[sv,adw,r0,r7,z0,Mp,aF.aD,hh2,e2,k0,Mt,kk,rl,qF,np,kD]
  obtain⟨v1,h1,a1,a2,a3,a5⟩:=(App.start tw Y (Y.clean 23)).oJ (Old.refl Y).clean (base:=Y.next) (n:=23) (i:=8) 16 1 p6 (tw.R p6) rfl rfl (ak _) RZ (by grind) (by decide)
  refine⟨v1,h1,a1,a5,fun x hx=>by rw[a3.get x hx,(Old.refl Y).clean.get x hx],?_⟩
  obtain⟨v2,h2,b1,b2,b3,b5⟩:=a2.oJ a3 (base:=Y.next) (n:=23) (i:=12) 16 1 [1::bs] [[.str ⟨(1::bs).toArray⟩]] rfl rfl (ak _) (Cb (by decide) a5) (by grind) (by decide)
  have sc: ∀s,(AV.str s).cells=[AV.str s]:=fun _=>rfl
  have s1: ∀s,(AV.str s).one=true:=fun _=>rfl
  simp+decide only[sv,r0,r2,iM,xt,sc,s1,List.all_cons,List.all_nil,b1]
  refine⟨trivial,b5,fun x hx=>by rw[b3.get x hx,a3.get x hx],?_⟩
  have z2:cellsOf h2 p=_:=b3.cells Mp (aq gY)
  obtain⟨v3,h3,d1,d2,d3,d5⟩:=b2.oJ b3 (base:=Y.next) (n:=23) (i:=19) 16 1 [] [] rfl rfl (ak _) (Cb (by decide) b5) (by grind) (by decide)
  have z3:cellsOf h3 p=_:=d3.cells Mp (aq gY)
  have Cy:v3.one=true/\v3.cells=[v3]:=by obtain⟨t,rfl,_⟩:=d2;exact⟨rfl,rfl⟩
  have f3: ∀x,dY 23 Y.next 22 (h3.set p x):=fun x j wV sf=>by omega
  have hn:bQ 1 []=true:=rfl
  simp+decide only[sv,r7,z2,Mp,aF.aD,hh2,List.take_nil,e4,k0,kk,rl,ak,d1,d5,z3,Cy.1,Cy.2,f3]
  simp+decide only[sv,adv]
  obtain⟨t5,rfl,_⟩:=d2
  refine⟨rfl,(hQ _).2 ⟨⟨?_,by simp[rl],t1,t5,?_⟩,?_,fun x hx hp=>?_⟩⟩
  ·show p<h3.next;have:=d3.next;omega
  ·simp[aa.set]
  ·show h.next<=h3.next;have:=d3.next;have:=oX.next;omega
  ·simp only[aa.set];rw[aj hp,d3.get x (by have:=oX.next;omega),hY x (by have:=oX.next;omega) hp,oX.get x hx]
 refine jk 16 22 rfl (by omega) rfl ?_
 have Mt:0<=ids.length:=bM _
 simp+decide only[sv,axW,z0,wK,aF.aD,MO,e1,k0,Mt,kk,qF,np,kD]
 obtain⟨v1,h1,a1,a2,a3,a5⟩:=(App.start (ay .u64) X (X.clean 22)).oJ (Old.refl X).clean (base:=X.next) (n:=22) (i:=8) 8 1 ids ((ay .u64).R ids) rfl rfl (ak _) RZ (by grind) (by decide)
 refine⟨v1,h1,a1,a5,fun x hx=>by rw[a3.get x hx,(Old.refl X).clean.get x hx],?_⟩
 obtain⟨v2,h2,b1,b2,b3,b5⟩:=a2.oJ a3 (base:=X.next) (n:=22) (i:=11) 8 1 [id] [[.int .u64 id]] rfl rfl (ak _) (Cb (by decide) a5) (by grind) (by decide)
 simp+decide only[sv,b1]
 refine⟨b5,fun x hx=>by rw[b3.get x hx,a3.get x hx],?_⟩
 have z2:cellsOf h2 p=_:=b3.cells wK (aq g)
 obtain⟨v3,h3,d1,d2,d3,d5⟩:=b2.oJ b3 (base:=X.next) (n:=22) (i:=18) 8 1 [] [] rfl rfl (ak _) (Cb (by decide) b5) (by grind) (by decide)
 have z3:cellsOf h3 p=_:=d3.cells wK (aq g)
 have Cy:v3.one=true/\v3.cells=[v3]:=by obtain⟨t,rfl,_⟩:=d2;exact⟨rfl,rfl⟩
 have f3: ∀x,dY 22 X.next 21 (h3.set p x):=fun x j wV sf=>by omega
 have hn:bQ 1 []=true:=rfl
 simp+decide only[sv,z2,wK,aF.aD,MO,List.take_nil,e3,k0,kk,d1,d5,z3,Cy.1,Cy.2,f3]
 have hY: ∀x,x<X.next->x≠p->(h3.set p (some (.cells [.int .u8 1,v3, .vs (tw.R p6) t2]))).get x=X.get x:=fun x hx hp=>by
  simp only[aa.set];rw[aj hp];exact d3.get x hx
 have nY:X.next<=(h3.set p (some (.cells [.int .u8 1,v3, .vs (tw.R p6) t2]))).next:=d3.next
 obtain⟨t4,rfl,_⟩:=d2
 refine snd _ _ t4 rfl rfl rfl (by simp[aa.set]) hY nY
end
section
open Go
def aHs (h:(dD x cs).1≠0):(dD x cs).2=x:=by
 unfold dD at h ⊢
 grind
def aKr {t:Nat} (h:(mO t x).1≠0):(mO t x).2.2=x:=by
 unfold mO at h ⊢
 grind
def aHv (h:(ou x l).1≠0):(ou x l).2=x:=by
 unfold ou at h ⊢
 grind
def aHy {c:Cl} (h:(l8 l af c).1≠0):(l8 l af c).2.2=af:=by
 unfold l8 at h ⊢
 split
 ·rfl
 split
 ·rfl
 ·rename_i h1 h2
  rw[aj h1,aj h2] at h
  unfold xw at h ⊢
  grind
def aHr {c:Cl} (h:(iN l af c).1≠0):(iN l af c).2=af:=by
 unfold iN at h ⊢
 grind
def aHC {c:Cl} (h:(kA l af c).1≠0):(kA l af c).2=af:=by
 unfold kA at h ⊢
 grind
def aHB {c:Cl} (h:(mE x af c).1≠0):(mE x af c).2=x:=by
 unfold mE at h ⊢
 split
 ·rfl
 ·rename_i h1;rw[aj h1] at h;exact aHs h
def aIO {c:Cl} (h:(kH l af c).1≠0):(kH l af c).2=af:=by
 unfold kH at h ⊢
 grind
def aIP {c:Cl} (h:(gN x af c).2.1≠0):(gN x af c).2.2.1=x/\(gN x af c).2.2.2.1=af:=by
 unfold gN at h ⊢
 grind
def aIR {c:Cl} (h:(gz x af c done).2.1≠0):(gz x af c done).2.2.1=x/\(gz x af c done).2.2.2.1=af:=by
 unfold gz at h ⊢
 split
 ·grind
 split
 ·grind
 split
 ·grind
 ·rename_i h1 h2 h3
  rw[aj h1,aj h2,aj h3] at h
  unfold tD at h
  grind
def aHE {t:Nat} {c:Cl}:(iO t x af c done).err≠0->(iO t x af c done).th=x/\(iO t x af c done).af=af:=by
 unfold iO
 by_cases h1:c.op=1
 ·rw[ax h1]
  exact fun h=>⟨aKr h,rfl⟩
 rw[aj h1]
 by_cases h2:c.op=2
 ·rw[ax h2]
  exact fun h=>⟨aHv h,rfl⟩
 rw[aj h2]
 by_cases h3:c.op=3
 ·rw[ax h3]
  exact fun h=>⟨rfl,aHy h⟩
 rw[aj h3]
 by_cases h4:c.op=4
 ·grind
 rw[aj h4]
 by_cases h5:c.op=5
 ·rw[ax h5]
  exact fun h=>⟨rfl,aHr h⟩
 rw[aj h5]
 by_cases h6:c.op=6
 ·rw[ax h6]
  exact fun h=>⟨rfl,aHC h⟩
 rw[aj h6]
 by_cases h7:c.op=7
 ·rw[ax h7]
  exact fun h=>⟨aHB h,rfl⟩
 rw[aj h7]
 by_cases h8:c.op=8
 ·rw[ax h8]
  exact fun h=>⟨rfl,aIO h⟩
 rw[aj h8]
 by_cases h9:c.op=9
 ·rw[ax h9]
  exact fun h=>aIP h
 rw[aj h9]
 by_cases jv:c.op=10
 ·rw[ax jv]
  exact fun h=>aIR h
 grind
def aIX {t:Nat} {c:Cl}:(dE t x af c done).err≠0->(dE t x af c done).th=x/\(dE t x af c done).af=af:=by
 unfold dE
 split
 ·grind
 ·exact aHE
def aHG {t:Nat} {c:Cl} (hi:(hP t ah x af c done).is=true) (he:(hP t ah x af c done).r.err≠0):(hP t ah x af c done).ah=ah.set t (fH x)/\(hP t ah x af c done).af=af/\(hP t ah x af c done).r.ret=0/\(hP t ah x af c done).r.data=[]/\(hP t ah x af c done).r.Fv=t:=by
 unfold hP told at hi he ⊢
 simp only at hi he ⊢
 rw[aj (by rw[hi];simp)] at he ⊢
 by_cases h:(dE t (fH x) af c done).err≠0
 ·obtain⟨e1,e2⟩:=aIX h
  grind
 grind
def aLA {t:Nat} {c:Cl} (ht) (hz:fH ah[t]=ah[t]) (hi:(bU t ah af c).is=true) (he:(bU t ah af c).r.err≠0):(bU t ah af c).ah=ah/\(bU t ah af c).af=af/\(bU t ah af c).r.ret=0/\(bU t ah af c).r.data=[]/\(bU t ah af c).r.Fv=t:=by
 unfold bU at hi he ⊢
 split
 ·grind
 split
 ·grind
 ·rename_i h1 h2
  rw[aj h1,aj h2] at hi he
  simp only[i9,bn ht] at hi he ⊢
  obtain⟨e1,e2,e3,e4,e5⟩:=aHG hi he
  simp_all
structure KV (x:Th):Prop where
 aQ:aQ x.ai.ps
 d:x.ai.d≠0
 st:x.st=qV
 idle:x.does=0->x.id=0/\x.to=0/\x.done=0/\x.n=0
 w:x.does=1->x.to=0/\x.done=0/\x.n=0
 dk:x.does=0\/x.does=1\/x.does=2
 m:x.does=2->0<=x.done/\(x.done<=x.n\/x.n<0)
theorem KV.same (k:KV x) (h:x.does=0):fH x=x:=by
 obtain⟨h1,h2,h3,h4⟩:=k.idle h
 cases x
 simp only at h h1 h2 h3 h4
 subst h h1 h2 h3 h4
 rfl
def KV.fH (k:KV x):KV (fH x):=⟨k.aQ,k.d,k.st,fun _=>⟨rfl,rfl,rfl,rfl⟩,fun h=>absurd h (by show¬(0:Int)=_;decide), .inl rfl,fun h=>absurd h (by show¬(0:Int)=_;decide)⟩
def KV.iV (hs:Am.aQ l.ps) (hd:l.d≠0):KV (iV l):=⟨hs,hd,rfl,fun _=>⟨rfl,rfl,rfl,rfl⟩,fun h=>absurd h (by show¬(0:Int)=_;decide), .inl rfl,fun h=>absurd h (by show¬(0:Int)=_;decide)⟩
theorem ajw: ∀{cs:List Nat} {l:Lb},aQ l.ps->aQ (mD l cs).ps/\(mD l cs).d=l.d
 |[],l,h=>⟨h,rfl⟩
 |c::cs,l,h=>by
  have e:mD l (c::cs)=mD (tj l c 0) cs:=rfl
  have h1:aQ (tj l c 0).ps:=by rw[akl];exact ak4 _
  obtain⟨i1,i2⟩:=ajw (cs:=cs) h1
  rw[e]
  exact⟨i1,i2⟩
def aIN (k:KV x):KV (dD x cs).2:=by
 unfold dD
 split
 ·exact k
 ·obtain⟨h1,h2⟩:=ajw (cs:=cs) k.aQ
  exact⟨h1,by rw[h2];exact k.d,k.st,k.idle,k.w,k.dk,k.m⟩
def akW {α:Type} {q:α->Prop} {l:List α} {x:α} (h: ∀y∈l,q y) (hx:q x): ∀y∈l.set i x,q y:=by
 grind
def aKp {t:Nat} {c:Cl} (ht:t<ah.length) (k: ∀y∈ah,KV y) (hb:jB ah t=false) (hi:(bU t ah af c).is=true) (he:(bU t ah af c).r.err≠0):(bU t ah af c).ah=ah/\(bU t ah af c).af=af/\(bU t ah af c).r.ret=0/\(bU t ah af c).r.data=[]/\(bU t ah af c).r.Fv=t:=by
 refine aLA ht ((k _ (bw ht)).same ?_) hi he
 unfold jB at hb
 have hk:mV ah t=true:=by unfold mV;simp[ht]
 grind
theorem ajz: ∀{ps:List Nat} {o:Ob},(gy af l o ps).2=0->(ps=[]/\(gy af l o ps).1=o)\/ ∃p,ps.getLast?=some p/\a9 af p=some (gy af l o ps).1
 |[],o,_=> .inl ⟨rfl,rfl⟩
 |p::ps,o,h=>by
  right
  unfold gy at h ⊢
  by_cases h1:o.kind≠1
  ·grind
  rw[aj h1] at h ⊢
  by_cases h2:eI l o.ai=false
  ·grind
  rw[aj h2] at h ⊢
  cases hf:a9 af p with
  |none=>grind
  |some o'=>
   rw[hf] at h
   simp only at h ⊢
   rcases ajz h with⟨e1,e2⟩|⟨q,e1,e2⟩
   ·grind
   grind
def aLO {id m:Nat}:(dn id (m+1)).getLast?=some id:=by rw[WW];simp
def Nx {id:Nat} (hr: ∃r,a9 af 1=some r) (h:(di af l id).2=0):a9 af id=some (di af l id).1:=by
 obtain⟨r,hr⟩:=hr
 unfold di at h ⊢
 cases hn:eT id with
 |none=>rw[Fb hn] at h;cases h
 |some m=>
  rw[y8 hn] at h ⊢
  simp only[hr,iQ] at h ⊢
  rcases ajz h with⟨e1,e2⟩|⟨q,e1,e2⟩
  ·rw[e2]
   have hm:m.length=0:=by rw[<-O1 (id:=id) (m:=m.length),e1];rfl
   have:=(Bv hn).1
   grind
  ·rcases hm:m.length with _|k
   ·rw[hm] at e1;cases e1
   ·rw[hm,aLO] at e1
    grind
def Bf {id:Nat} (hr: ∃r,a9 af 1=some r) (h:(bh af l id kind q).2=0):a9 af id=some (bh af l id kind q).1/\(bh af l id kind q).1.kind=kind/\q (bh af l id kind q).1.ai=true:=by
 unfold bh at h ⊢
 by_cases h1:(di af l id).2≠0
 ·grind
 rw[aj h1] at h ⊢
 by_cases h2:(di af l id).1.kind≠kind
 ·grind
 rw[aj h2] at h ⊢
 by_cases h3:q (di af l id).1.ai=false
 ·grind
 rw[aj h3] at h ⊢
 exact⟨Nx hr (Classical.not_not.1 h1),Classical.not_not.1 h2,by simpa using h3⟩
def aHt {c:Cl} (hr: ∃r,a9 af 1=some r) (h:(lJ l af c).1=0): ∃o,a9 af c.id=some o/\o.kind=2/\eI l o.ai=true:=by
 unfold lJ at h
 by_cases h1:(bh af l c.id 2 (eI l)).2≠0
 ·grind
 ·obtain⟨e1,e2,e3⟩:=Bf hr (Classical.not_not.1 h1)
  grind
def aFD {c:Cl} (hr: ∃r,a9 af 1=some r) (h:(iN l af c).1=0): ∃o,a9 af c.id=some o/\o.kind=2/\cM l o.ai=true:=by
 unfold iN at h
 by_cases h1:(bh af l c.id 2 (cM l)).2≠0
 ·grind
 ·obtain⟨e1,e2,e3⟩:=Bf hr (Classical.not_not.1 h1)
  grind
theorem ajs: ∀{af:List Ob} {o:Ob},af.Pairwise (·.id< ·.id)->o∈af->bC af o=af
 |x::l,o,hs,h=>by
  have gu:=List.pairwise_cons.1 hs
  unfold bC
  rcases List.mem_cons.1 h with e|h
  ·grind
  ·have:=gu.1 o h
   rw[aj (by omega),aj (by omega),ajs gu.2 h]
theorem aGq {c:Cl} (hs:af.Pairwise (·.id< ·.id)) (hr: ∃r,a9 af 1=some r) (hd:c.data=[]):(iN l af c).2=af:=by
 unfold iN
 by_cases h1:(bh af l c.id 2 (cM l)).2≠0
 ·rw[ax h1]
 ·rw[aj h1]
  obtain⟨e1,e2,e3⟩:=Bf hr (Classical.not_not.1 h1)
  split
  ·have e:my (bh af l c.id 2 (cM l)).1.data c.off.toNat c.data=(bh af l c.id 2 (cM l)).1.data:=by
    unfold my
    rw[hd]
    simp
   unfold tC
   rw[e]
   exact ajs hs (ix e1).1
  ·rfl
def aKo {t:Nat} {c:Cl} (ht:t<ah.length) (k: ∀y∈ah,KV y) (hs:af.Pairwise (·.id< ·.id)) (hr: ∃r,a9 af 1=some r) (hc:c.op=4\/c.op=5/\c.data=[]):(bU t ah af c).ah=ah/\(bU t ah af c).af=af:=by
 unfold bU
 split
 ·grind
 split
 ·grind
 ·rename_i h1 h2
  have hz:ah[t].does=0:=by
   unfold jB at h2
   grind
  have hx:=(k _ (bw ht)).same hz
  simp only[i9,bn ht]
  unfold hP told dE
  rw[aj (show¬((c.op=2\/c.op=3)/\names c.ai=false) from fun e=>by omega),hx]
  unfold iO
  rw[aj (show¬c.op=1 by omega),aj (show¬c.op=2 by omega),aj (show¬c.op=3 by omega)]
  rcases hc with hc|⟨hc,hd⟩
  ·simp_all
  ·rw[aj (show¬c.op=4 by omega),ax hc]
   exact⟨by simp_all,aGq hs hr hd⟩
end
section
open Go
variable {P:Program} {h:aa} {rb rt:Nat} {ah:List Th} {af:List Ob}
def Of (hm:dF l=true):aQ l.ps:=by
 have h:=(E3.1 hm).1.2
 have key: ∀{m:List (Nat×Nat)},(∀i,i+1<m.length->(m.getD i (0,0)).1<(m.getD (i+1) (0,0)).1)->aQ m:=by
  intro m
  induction m with
  |nil=>intro _;exact List.Pairwise.nil
  |cons p m ih=>
   intro h
   have h2:=ih (fun i hi=>by have:=h (i+1) (by simp;omega);grind)
   refine List.pairwise_cons.2 ⟨fun q hq=>?_,h2⟩
   cases m with
   |nil=>cases hq
   |cons r m=>
    have h0:p.1<r.1:=by have:=h 0 (by simp);grind
    rcases List.mem_cons.1 hq with rfl|hq
    ·exact h0
    ·exact Nat.lt_trans h0 ((List.pairwise_cons.1 h2).1 q hq)
 exact key fun i hi=>(h (i+1) hi).2.2 (by omega)
structure RK (h:aa) (rb rt:Nat) (ah:List Th) (af:List Ob):Prop where
 top: ∃t,h.get rb=some (.cells [.vs (bg af) t, .rs rt 0 ah.length 12])
 aU:h.get rt=some (.cells (aI aH ah).flatten)
 l1:rb<h.next
 l2:rt<h.next
 ne:rb≠rt
 ks:KS af
 tv:TV ah
 kv: ∀x∈ah,KV x
 root: ∃r,a9 af 1=some r
 len:af.length<1000
def RF (h h':aa) (rb rt:Nat):Prop:=h.next<=h'.next/\ ∀b,b<h.next->b≠rb->b≠rt->h'.get b=h.get b
def RF.old (o:Old h h'):RF h h' rb rt:=⟨o.next,fun b hb _ _=>o.get b hb⟩
def RF.trans (x:RF h h1 rb rt) (y:RF h1 h2 rb rt):RF h h2 rb rt:=⟨fm x.1 y.1,fun b hb h1 h2=>by rw[y.2 b (by have:=x.1;omega) h1 h2,x.2 b hb h1 h2]⟩
def RK.old (K:RK h rb rt ah af) (o:Old h h'):RK h' rb rt ah af:=by
 obtain⟨t,g⟩:=K.top
 exact⟨⟨t,by rw[o.get _ K.l1,g]⟩,by rw[o.get _ K.l2,K.aU],bJ K.l1 o.next,bJ K.l2 o.next,K.ne,K.ks,K.tv,K.kv,K.root,K.len⟩
def RK.ai (K:RK h rb rt ah af) {t:Nat} (ht):aQ ah[t].ai.ps/\ah[t].ai.ok/\ah[t].ai.ps.length<=16:=
 ⟨(K.kv _ (bw ht)).aQ,K.tv.ai _ (bw ht)⟩
def KS.ai (k:KS af) (ho:o∈af):Am.aQ o.ai.ps/\o.ai.ok/\o.ai.ps.length<=16:=by
 have v:=k.val o ho
 have:=IG v.may
 exact⟨Of this.1,v.ok.ai,Bp this.1⟩
theorem RK.row (K:RK h rb rt ah af) {t:Nat} (ht):t*12+12<=(aI aH ah).flatten.length/\((aI aH ah).flatten.drop (t*12)).take 12=ah[t].c aH/\((aI aH ah).flatten.drop (t*12)).take 2=[.int .u8 ah[t].ai.d, .vs (aB.R ah[t].ai.ps) .au]/\ ∀j,j<12->(aI aH ah).flatten[t*12+j]? =(ah[t].c aH)[j]?:=by
 have hl:(aI aH ah).flatten.length=ah.length*12:=by rw[kS l7,gI]
 have cS:=IA (rows:=aI aH ah) (i:=t) (by rw[gI];exact ht) l7
 rw[show(aI aH ah)[t]'(by grind)=ah[t].c aH by simp[aI]] at cS
 refine⟨by omega,cS,?_,fun j hj=>zj l7 (Fm ht) hj⟩
 rw[show((aI aH ah).flatten.drop (t*12)).take 2=(((aI aH ah).flatten.drop (t*12)).take 12).take 2 by grind,cS];rfl
def Nv (ok:aA P tb) (K:RK h rb rt ah af) {t:Int}:al P 33 [.ptr rb 0, .int .i64 t] h (.bool (jB ah t)) h:=by
 refine ok.bA Ie ?_
 obtain⟨tt,g⟩:=K.top
 have c0:=aq g
 have c1:=aq K.aU
 unfold jB mV
 by_cases h0:0<=t
 case neg=>
  simp+decide only[sv,Ie,Li,Lh,h0,B3]
 by_cases h1:t<(ah.length:Int)
 case neg=>
  simp+decide only[sv,Ie,Li,Lh,h0,h1,c0,B3,Gt]
 obtain⟨n,rfl⟩: ∃n:Nat,t=n:=⟨t.toNat,by omega⟩
 have hn:n<ah.length:=by omega
 obtain⟨r1,r2,r3,r4⟩:=K.row hn
 have r6:=r4 6 (by decide)
 rw[show(ah[n].c aH)[6]? =some (.int .i64 ah[n].does) from rfl] at r6
 have e:(ah[(n:Int).toNat]?.map (·.does)).getD 0=ah[n].does:=by grind
 rw[e]
 have hle:n*12+6<(aI aH ah).flatten.length:=by omega
 by_cases hd:ah[n].does=0
 ·simp+decide only[sv,Ie,Li,Lh,h0,h1,c0,c1,r6,hd,xr]
 ·simp+decide only[sv,Ie,Li,Lh,h0,h1,c0,c1,r6,hd,xr]
theorem VF (ok:aA P tb) (K:RK h rb rt ah af) {id:Nat}:al P 123 [.ptr rb 0, .int .u64 id] h (.int .i64 (iU (fun o=>o.id==id) af)) h:=by
 refine ok.bA ahp ?_
 obtain⟨tt,g⟩:=K.top
 have c0:=aq g
 have ll:(bg af).length=af.length:=by simp[bg]
 have hl:=K.len
 simp+decide only[sv,ahp,avm,avl]
 let J:Nat->Env->aa->Prop:=fun i ρ H=>H=h/\(∀j,j<i-> ∀hj:j<af.length,(af[j].id==id)=false)/\ρ 0= .ptr rb 0/\ρ 1= .int .u64 id
 refine eQ 5 0 af.length (by omega) (bM _) J ?_ ?_ ⟨rfl,fun j hj=>by omega,rfl,rfl⟩ rfl
 ·rintro i ρ H ⟨rfl,hf,r0,r1⟩ r5-hi av aK hw
  have gi:(bg af)[i]? =some (af[i].c aC):=by simp[bg,bn hi]
  simp only[Ob.c] at gi
  by_cases e:af[i].id=id
  ·have e1:(af[i].id:Int)=(id:Int):=by omega
   have e2:=C4 (q:=fun o:Ob=>o.id==id) hi hf (by simp[e])
   simp+decide only[sv,Qq,ab5,avk,r0,r1,r5,c0,ll,av,aK,gi,e1,e2]
  ·have e1: ¬(af[i].id:Int)=(id:Int):=by omega
   simp+decide only[sv,Qq,ab5,avj,r0,r1,r5,c0,ll,av,aK,gi,e1,hw]
   refine⟨rfl,fun j hj iu=>?_,r0,r1⟩
   grind
 ·rintro ρ H ⟨rfl,hf,r0,r1⟩ r5 av
  have e2:=Fq (q:=fun o:Ob=>o.id==id) (l:=af) (fun j hj iu=>hf j iu iu)
  simp+decide only[sv,Qq,avi,r0,r5,c0,ll,av,e2]
  try rfl
end
section
open Go
variable {P:Program} {h:aa} {rb rt t:Nat} {ah:List Th} {af:List Ob}
def Ik (ok:aA P tb) (K:RK h rb rt ah af) (ht) {o:Ob} (hs:aQ o.ai.ps) (hl:o.ai.ps.length<2^17):al P 113 [.ptr rb 0, .int .i64 t, .agg (o.c τ)] h (.bool (eI ah[t].ai o.ai)) h:=by
 refine ok.bA ahy ?_
 simp+decide only[sv,ahy,avV,Ob.c]
 generalize hY:aa.at _ _ _=Y
 have oY:Old h Y:=by rw[<-hY];exact(Old.refl h).at (ak _)
 have cY:cellsOf Y h.next=some (o.c τ):=by rw[<-hY];exact aq (by simp[aa.at];try rfl)
 have nY:Y.next=h.next+1:=by rw[<-hY];simp[aa.at]
 clear hY
 have KY:=K.old oY
 obtain⟨tt,g⟩:=KY.top
 have z0:cellsOf (Y.clean 12) h.next=_:=(Old.refl Y).clean.cells (by omega) cY
 have z1:cellsOf (Y.clean 12) rb=_:=(Old.refl Y).clean.cells KY.l1 (aq g)
 have z2:cellsOf (Y.clean 12) rt=_:=(Old.refl Y).clean.cells KY.l2 (aq KY.aU)
 have l1:=KY.l1
 have l2:=KY.l2
 have n0:h.next<Y.next:=by omega
 obtain⟨r1,r2,r3,r4⟩:=K.row ht
 have hle:t*12+2<=(aI aH ah).flatten.length:=by omega
 have iZ:(t:Int)<(ah.length:Int):=by omega
 obtain⟨s1,s2,s3⟩:=K.ai ht
 simp only[Ob.c] at z0
 refine bq 12 rfl rfl ?_
 simp+decide only[sv,avU,z0,z1,z2,hle,iZ,r3]
 refine dX (VM ok (a:=ah[t].ai) (b:=o.ai) (t:= .au) (t':=τ 0) s1 hs (by omega) (by omega)) (ba (ak _)) ?_
 simp+decide only[sv]
 exact(oY.clean (n:=12)).get
def Vz (ok:aA P tb) (K:RK h rb rt ah af) (ht) {o:Ob} (hs:aQ o.ai.ps) (hl:o.ai.ps.length<2^17):al P 114 [.ptr rb 0, .int .i64 t, .agg (o.c τ)] h (.bool (cM ah[t].ai o.ai)) h:=by
 refine ok.bA ahx ?_
 simp+decide only[sv,ahx,avT,Ob.c]
 generalize hY:aa.at _ _ _=Y
 have oY:Old h Y:=by rw[<-hY];exact(Old.refl h).at (ak _)
 have cY:cellsOf Y h.next=some (o.c τ):=by rw[<-hY];exact aq (by simp[aa.at];try rfl)
 have nY:Y.next=h.next+1:=by rw[<-hY];simp[aa.at]
 clear hY
 have KY:=K.old oY
 obtain⟨tt,g⟩:=KY.top
 have z0:cellsOf (Y.clean 12) h.next=_:=(Old.refl Y).clean.cells (by omega) cY
 have z1:cellsOf (Y.clean 12) rb=_:=(Old.refl Y).clean.cells KY.l1 (aq g)
 have z2:cellsOf (Y.clean 12) rt=_:=(Old.refl Y).clean.cells KY.l2 (aq KY.aU)
 have l1:=KY.l1
 have l2:=KY.l2
 have n0:h.next<Y.next:=by omega
 obtain⟨r1,r2,r3,r4⟩:=K.row ht
 have hle:t*12+2<=(aI aH ah).flatten.length:=by omega
 have iZ:(t:Int)<(ah.length:Int):=by omega
 obtain⟨s1,s2,s3⟩:=K.ai ht
 simp only[Ob.c] at z0
 refine bq 12 rfl rfl ?_
 simp+decide only[sv,avS,z0,z1,z2,hle,iZ,r3]
 refine dX (VC ok (a:=ah[t].ai) (b:=o.ai) (t:= .au) (t':=τ 0) s1 hs (by omega) (by omega)) (ba (ak _)) ?_
 simp+decide only[sv]
 exact(oY.clean (n:=12)).get
def Nw (ok:aA P tb) (K:RK h rb rt ah af) (ht) {o:Ob} (hs:aQ o.ai.ps) (hl:o.ai.ps.length<2^17):al P 70 [.ptr rb 0, .int .i64 t, .agg (o.c τ)] h (.bool (dW ah[t].ai o.ai)) h:=by
 refine ok.bA c70 ?_
 unfold dW
 simp+decide only[sv,c70,azi,Ob.c]
 generalize hY:aa.at _ _ _=Y
 have oY:Old h Y:=by rw[<-hY];exact(Old.refl h).at (ak _)
 have cY:cellsOf Y h.next=some (o.c τ):=by rw[<-hY];exact aq (by simp[aa.at];try rfl)
 have nY:Y.next=h.next+1:=by rw[<-hY];simp[aa.at]
 clear hY
 have KY:=K.old oY
 have c1:=Ik ok KY ht (τ:=τ) hs hl
 have c2:=Vz ok KY ht (τ:=τ) hs hl
 simp only[Ob.c] at cY c1 c2
 simp+decide only[sv,azh,cY]
 refine ao c1 ?_
 cases eI ah[t].ai o.ai with
 |false=>
  simp+decide only[sv,B3]
  exact oY.get
 |true=>
  simp+decide only[sv,cY]
  refine ao c2 ?_
  simp+decide only[sv]
  exact oY.get
def CT (ok:aA P tb) {n:Nat} {e:Int}:al P 72 [.int .i64 n, .int .i64 e] h (.agg ((⟨n,e,0,[]⟩:Rp).c .au)) h:=by
 refine ok.df (rf:=c72) rfl (bT rfl) rfl ?_
 simp+decide only[sv,c72,aze,azd,Rp.c,aV]
 refine⟨rfl,fun b hb=>?_⟩
 grind
def VG (ok:aA P tb) (K:RK h rb rt ah af) (ht) {id:Nat} (aM:id<2^64):al P 115 [.ptr rb 0, .int .i64 t, .int .u64 id] h (.aE [.agg ((di af ah[t].ai id).1.c aC), .int .i64 (di af ah[t].ai id).2]) h:=by
 refine ok.df (rf:=ahw) rfl (bT rfl) (by simp only[AV.bD,AV.cG,sD];rfl) ?_
 simp+decide only[sv,ahw,avR]
 generalize hY:aa.at _ _ _=Y
 have oY:Old h Y:=by rw[<-hY];exact(Old.refl h).at (ak _)
 have cY:cellsOf Y h.next=some (bz.c mS):=by rw[<-hY];exact aq (by simp[aa.at];try rfl)
 have nY:Y.next=h.next+1:=by rw[<-hY];simp[aa.at]
 clear hY
 have KY:=K.old oY
 obtain⟨R,hR⟩: ∃R,R=di af ah[t].ai id:=⟨_,rfl⟩
 rw[<-hR]
 unfold di at hR
 simp+decide only[sv,avQ]
 refine ao (Bi ok aM) ?_
 simp only[yD] at cY
 have AW:=zd (id:=id)
 have ll:(bg af).length=af.length:=by simp[bg]
 cases hm:cP id with
 |false=>
  rw[Iq hm] at hR ⊢
  simp+decide only[sv,aca,avP,aF.ye,cY,aV]
  refine⟨by rw[hR];rfl,fun b hb=>?_⟩
  rw[aj (by omega)];exact oY.get b hb
 |true=>
  obtain⟨ps,wS⟩:=Ip hm
  rw[wS] at hR AW ⊢
  obtain⟨r,hr⟩:=K.root
  simp only[hr,iQ] at hR
  obtain⟨tt,g⟩:=KY.top
  have y1:cellsOf (Y.clean 10) rb=_:=(Old.refl Y).clean.cells KY.l1 (aq g)
  have l1:=KY.l1
  obtain⟨pp,rX⟩: ∃pp,pp=1::ps:=⟨_,rfl⟩
  have CL:pp.drop 1=ps:=by rw[rX];rfl
  have hp0:1<=pp.length:=by rw[rX];simp
  rw[<-rX] at AW ⊢
  clear rX wS
  have hz: ¬(pp.length:Int)=0:=by omega
  simp+decide only[sv,aca,aF.aD,hz]
  obtain⟨i1,qZ,f1,f2⟩: ∃i,∃hi:i<af.length,iU (fun o=>o.id==1) af=(i:Int)/\a9 af 1=some af[i]:=by
   rcases Wa (l:=af) (id:=1) with q|⟨_,q⟩
   ·exact q
   grind
  have f1':iU (fun o:Ob=>o.id==1) af=(i1:Int):=f1
  have MX:(bg af)[i1]? =some (af[i1].c aC):=by simp[bg,bn qZ]
  have afv:(0:Int)<=i1:=by omega
  rw[hr] at f2
  cases f2
  have rW:af[i1]∈af:=bw qZ
  generalize af[i1]=o1 at*
  simp only[Ob.c] at MX
  refine jk 6 10 rfl (by omega) rfl ?_
  simp+decide only[sv,avO,y1,l1,kD]
  have KC:=KY.old ((Old.refl Y).clean (n:=10))
  refine dh (VF ok KC (id:=1)) (ba (ak _)) ?_
  simp+decide only[sv,f1',MX,afv,xr]
  refine⟨fun j wV sf=>by omega,?_⟩
  generalize hZ:aa.set _ _ _=Z
  have oZ:Old Y Z:=by rw[<-hZ];exact(((Old.refl Y).clean).at (by omega)).set (by omega)
  have zz:cellsOf Z (Y.next+8)=some (o1.c aC):=by rw[<-hZ];exact aq (by simp[aa.set];rfl)
  have nZ:Y.next+9<Z.next+1:=by rw[<-hZ];simp only[aa.set,aa.at,aa.clean];omega
  clear hZ
  simp+decide only[sv,avN]
  let J:Nat->Env->aa->Prop:=fun i ρ H=>Old Y H/\Y.next+8<H.next/\(∃o,o∈af/\cellsOf H (Y.next+8)=some (o.c aC)/\gy af ah[t].ai o (pp.drop i)=R)/\ρ 0= .ptr rb 0/\ρ 1= .int .i64 t/\ρ 6= .ptr h.next 0/\ρ 8= .vs ((ay .u64).R pp) .au/\ρ 9= .ptr (Y.next+8) 0
  refine eQ 10 1 pp.length (by omega) hp0 J ?_ ?_ ⟨oZ,by omega,⟨o1,rW,zz,by grind⟩,rfl,rfl,rfl,rfl,rfl⟩ rfl
  ·rintro i ρ H ⟨ho,hn,⟨o,om,co,gP⟩,r0,r1,r6,r8,r9⟩ bK qZ hi av aK hw
   have on:=ho.next
   obtain⟨s1,s2,s3⟩:=K.ks.ai om
   have gi:((ay .u64).R pp)[i]? =some [.int .u64 pp[i]]:=(ay .u64).cj hi
   rw[List.drop_eq_getElem_cons hi] at gP
   have Ru:=ho.cells (by omega) cY
   simp only[Ob.c] at co
   unfold gy at gP
   simp+decide only[sv,ab9,avM,r8,r9,bK,aF.aD,av,co]
   by_cases hk:o.kind=1
   case neg=>
    rw[ax hk] at gP
    simp+decide only[sv,avL,hk,r6,Ru,aV]
    refine⟨by rw[<-gP];rfl,fun b hb=>?_⟩
    rw[aj (by omega)];exact(oY.trans ho).get b hb
   rw[aj (fun q=>q hk)] at gP
   simp+decide only[sv,hk]
   have KH:=KY.old ho
   obtain⟨t2,g2⟩:=KH.top
   have y1:cellsOf (H.clean 12) rb=_:=(Old.refl H).clean.cells KH.l1 (aq g2)
   have y2:cellsOf (H.clean 12) rt=_:=(Old.refl H).clean.cells KH.l2 (aq KH.aU)
   have y3:cellsOf (H.clean 12) (Y.next+8)=_:=(Old.refl H).clean.cells hn co
   have y4:cellsOf (H.clean 12) h.next=_:=(Old.refl H).clean.cells (by omega) Ru
   have l1:=KH.l1
   have l2:=KH.l2
   obtain⟨w1,w2,w3,w4⟩:=K.row ht
   have hle:t*12+2<=(aI aH ah).flatten.length:=by omega
   have iZ:(t:Int)<(ah.length:Int):=by omega
   obtain⟨q1,q2,q3⟩:=K.ai ht
   refine bq 12 rfl rfl ?_
   simp+decide only[sv,avK,r0,r1,r9,y1,y2,y3,hle,iZ,w3]
   refine dX (VM ok (a:=ah[t].ai) (b:=o.ai) (t:= .au) (t':=aC 0) q1 s1 (by omega) (by omega)) (ba (ak _)) ?_
   cases hs:eI ah[t].ai o.ai with
   |false=>
    rw[hs,ax rfl] at gP
    simp+decide only[sv,amg,r6,y4,aV]
    refine⟨by rw[<-gP];rfl,fun b hb=>?_⟩
    rw[aj (by omega),ax (by omega)];exact(oY.trans ho).get b hb
   |true=>
    rw[hs,aj (by simp)] at gP
    simp+decide only[sv,amf,r0,r8,bK,aK,gi]
    refine ao (VF ok (KH.old ((Old.refl H).clean (n:=12)))) ?_
    rcases Wa (l:=af) (id:=pp[i]) with⟨k,hk,e1,e2⟩|⟨e1,e2⟩
    ·rw[e2] at gP
     have yR:iU (fun o:Ob=>o.id==pp[i]) af=(k:Int):=e1
     have gk:(bg af)[k]? =some (af[k].c aC):=by simp[bg,bn hk]
     have od: ¬(k:Int)<0:=by omega
     have mY:(0:Int)<=k:=by omega
     simp only[Ob.c] at gk
     simp+decide only[sv,Xi,amd,amc,r0,r9,bK,yR,od,mY,y1,y3,gk,hw]
     refine⟨(ho.clean (n:=12)).set (by omega),by show Y.next+8<H.next+12;omega,⟨af[k],bw hk,aq (by simp[aa.set];rfl),gP⟩,r0,r1,r6,r8,r9⟩
    ·rw[e2] at gP
     have yR:iU (fun o:Ob=>o.id==pp[i]) af= -1:=e1
     simp+decide only[sv,Xi,ame,yR,r6,y4,aV]
     refine⟨by rw[<-gP];rfl,fun b hb=>?_⟩
     rw[aj (by omega),ax (by omega)];exact(oY.trans ho).get b hb
  ·rintro ρ H ⟨ho,hn,⟨o,om,co,gP⟩,r0,r1,r6,r8,r9⟩ bK av
   have on:=ho.next
   have Ru:=ho.cells (by omega) cY
   rw[xZ (ak _)] at gP
   unfold gy at gP
   simp only[Ob.c] at co
   simp+decide only[sv,ab9,amb,r6,r8,r9,bK,aF.aD,av,co,Ru,aV]
   refine⟨by rw[<-gP];simp only[AV.strip,AV.a8,aB.dJ,iz,(ay .u16).dJ,aR.dJ];rfl,fun b hb=>?_⟩
   rw[aj (by omega)];exact(oY.trans ho).get b hb
def dM (af:List Ob) (l:Lb) (id:Nat) (kind:Int):Ob×Nat:=((di af l id).1,if(di af l id).2=0/\(di af l id).1.kind≠kind then 8 else(di af l id).2)
def Xo {id:Nat}:bh af l id kind q=if(dM af l id kind).2≠0 then(bz,(dM af l id kind).2) else if q (dM af l id kind).1.ai=false then(bz,6) else((dM af l id kind).1,0):=by
 unfold bh dM
 grind
def Br (K:RK h rb rt ah af) {id:Nat} (h0:(dM af l id kind).2=0):(dM af l id kind).1∈af/\(dM af l id kind).1.kind=kind/\(dM af l id kind).1.id=id:=by
 unfold dM at h0 ⊢
 simp only at h0 ⊢
 split at h0
 ·cases h0
 ·rename_i hc
  have:=ix (Nx K.root h0)
  grind
def Be (ok:aA P tb) (K:RK h rb rt ah af) (ht) {id:Nat} (aM:id<2^64):al P 69 [.ptr rb 0, .int .i64 t, .int .u64 id, .int .i64 kind] h (.aE [.agg ((dM af ah[t].ai id kind).1.c aC), .int .i64 (dM af ah[t].ai id kind).2]) h:=by
 refine ok.df (rf:=c69) rfl (bT rfl) (by simp only[AV.bD,AV.cG,sD];rfl) ?_
 unfold dM
 simp+decide only[sv,c69,azn]
 generalize hY:aa.at _ _ _=Y
 have oY:Old h Y:=by rw[<-hY];exact(Old.refl h).at (ak _)
 have cY:cellsOf Y h.next=some (bz.c mS):=by rw[<-hY];exact aq (by simp[aa.at];try rfl)
 have nY:Y.next=h.next+1:=by rw[<-hY];simp[aa.at]
 clear hY
 have KY:=K.old oY
 simp+decide only[sv,azm]
 refine ao (VG ok KY ht aM) ?_
 generalize di af ah[t].ai id=R
 obtain⟨o,e⟩:=R
 simp only
 obtain⟨E,hE⟩: ∃E,E=(if e=0/\o.kind≠kind then 8 else e):=⟨_,rfl⟩
 rw[<-hE]
 obtain⟨V,hV⟩: ∃V,V=AV.aE [.agg (o.c aC), .int .i64 E]:=⟨_,rfl⟩
 rw[<-hV]
 simp only[yD] at cY
 simp+decide only[sv,Ob.c]
 generalize hZ:aa.set _ _ _=Z
 have oZ:Old Y Z:=by rw[<-hZ];exact((Old.refl Y).at (ak _)).set (ak _)
 have zz:cellsOf Z Y.next=some (o.c aC):=by rw[<-hZ];exact aq (by simp[aa.set];rfl)
 clear hZ
 have z0:=oZ.cells (by omega) cY
 simp only[Ob.c] at zz
 have key:(AV.aE [.agg (o.c aC), .int .i64 0]).strip= .aE [.agg (o.c aC), .int .i64 0]:=by simp only[AV.strip,AV.a8,vj]
 have fin: ∀(ρ:Env) (e':Nat),ρ 8= .ptr h.next 0->ρ 10= .ptr Y.next 0->ρ 11= .int .i64 e'->e'=E->exec P adV ρ Z (iD (WP P .ret (um [.cell 8 true 13, .tmp 9] V h)) (um [.cell 8 true 13, .tmp 9] V h) .normal):=by
  intro ρ e' r8 bK gd he
  simp+decide only[sv,adV,r8,bK,gd,z0,zz,aV]
  refine⟨?_,fun b hb=>?_⟩
  ·show(AV.aE [.agg (o.c aC), .int .i64 e']).strip=_
   rw[hV,<-he]
   simp only[AV.strip,AV.a8,vj]
  ·rw[aj (by omega)];exact(oY.trans oZ).get b hb
 by_cases h1:e=0
 ·have br:(e:Int)=0:=by omega
  by_cases h2:o.kind=kind
  ·have hk:=bW h2
   simp+decide only[sv,Sk,br,hk,zz]
   refine fin _ e rfl rfl ?_ (by grind)
   rw[h1];rfl
  ·have hk:=bk h2
   simp+decide only[sv,Sk,azl,br,hk,zz]
   exact fin _ 8 rfl rfl rfl (by grind)
 ·have br: ¬(e:Int)=0:=by omega
  simp+decide only[sv,Sk,br]
  exact fin _ e rfl rfl rfl (by grind)
def DL:aF Ob:=⟨fun o=>o.c aC,13,fun _=>rfl,fun _=>vj,fun _ _=>sD⟩
theorem aLk:bg l=DL.R l:=rfl
def aMC {id:Nat} (hi:i<=l.length) (h1: ∀j (hj:j<l.length),j<i->l[j].id<id) (h2: ∀hi:i<l.length,¬l[i].id<id):uO l id=i:=by
 unfold uO
 grind
def RK.Lt (K:RK h rb rt ah af) (hn:h.next<=h'.next) (hg: ∃t,h'.get rb=some (.cells [.vs (bg fK) t, .rs rt 0 ah.length 12])) (hk:h'.get rt=h.get rt) (ks:KS fK) (root: ∃r,a9 fK 1=some r) (len:fK.length<1000):RK h' rb rt ah fK:=
 ⟨hg,by rw[hk,K.aU],bJ K.l1 hn,bJ K.l2 hn,K.ne,ks,K.tv,K.kv,root,len⟩
def aJU (hs:af.Pairwise (·.id< ·.id)) (h: ∃r,a9 af 1=some r): ∃r,a9 (bC af o) 1=some r:=by
 rw[tS hs]
 grind
theorem WM: ∀{l:List Ob},(bC l o).length<=l.length+1
 |[]=>by simp[bC]
 |y::l=>by
  have:=WM (o:=o) (l:=l)
  unfold bC
  grind
def CV (ok:aA P tb) (K:RK h rb rt ah af) (v:jj o) (hl:af.length<990): ∃h',al P 74 [.ptr rb 0, .agg (o.c τ)] h (.aE []) h'/\RK h' rb rt ah (bC af o)/\RF h h' rb rt:=by
 obtain⟨Q,hQ⟩: ∃Q:aa->Prop,∀h',Q h'↔(RK h' rb rt ah (bC af o)/\RF h h' rb rt):=⟨_,fun _=>Iff.rfl⟩
 suffices hu: ∃h',al P 74 [.ptr rb 0, .agg (o.c aC)] h (.aE []) h'/\Q h' by
  obtain⟨h',c,q⟩:=hu
  exact⟨h',al.au (by simp only[AV.a8,AV.strip,vj];exact c),(hQ _).1 q⟩
 refine ok.dr c74 ?_
 simp+decide only[sv,c74,ay6,Ob.c]
 generalize hX:aa.at _ _ _=X
 have oX:Old h X:=by rw[<-hX];exact(Old.refl h).at (ak _)
 have cX:cellsOf X h.next=some (o.c aC):=by rw[<-hX];exact aq (by simp[aa.at];try rfl)
 have nX:X.next=h.next+1:=by rw[<-hX];simp[aa.at]
 clear hX
 have ll:(bg af).length=af.length:=by simp[bg]
 simp+decide only[sv,ay5]
 generalize hK:jO 0 _=K0
 have fin: ∀(ρ:Env) (H:aa) (i:Nat),Old X H->i<=af.length->(∀j (hj:j<af.length),j<i->af[j].id<o.id)->(∀hi:i<af.length,¬af[i].id<o.id)->ρ 0= .ptr rb 0->ρ 3= .ptr h.next 0->ρ 4= .int .i64 i->K0 (.exit 0) ρ H:=by
  intro ρ H i ho hi h1 h2 r0 r3 r4
  rw[<-hK]
  have qp:=aMC hi h1 h2
  have KH:=K.old (oX.trans ho)
  obtain⟨tt,g⟩:=KH.top
  have c0:=aq g
  have cX':=ho.cells (by omega) cX
  simp only[Ob.c] at cX'
  have k0:(0:Int)<=(i:Int):=by omega
  have Mt:0<=i:=bM _
  have e1:(bg af).take i=bg (af.take i):=by simp[bg]
  have MO:bQ 13 (bg (af.take i))=true:=DL.fl
  have hh0:bQ 13 (bg af)=true:=DL.fl
  have ltl:(af.take i).length=i:=by grind
  obtain⟨v1,br,a1,a2,a3,a4⟩:=(App.start DL H H).more (Old.refl H) 216 13 (af.take i) (bg (af.take i)) rfl rfl (by grind) (by decide)
  simp+decide only[sv,ay3,ay2,r0,r4,c0,ll,hh0,MO,e1,k0,Mt,hi,qF,a1]
  have cX1:cellsOf br h.next=_:=a3.cells (by have:=ho.next;omega) cX'
  obtain⟨v2,cB,b1,b2,b3,b4⟩:=a2.more a3 216 13 [o] [o.c aC] rfl rfl (by grind) (by decide)
  simp only[Ob.c] at b1
  simp+decide only[sv,ay1,r3,cX1,b1]
  rw[kF] at b2
  have afI: ∀(ρ:Env) (Z:aa) (k:Nat),Old cB Z->k<=af.length->bC af o=af.take i++o::af.drop k->ρ 0= .ptr rb 0->ρ 4= .int .i64 k->ρ 5=v2->exec P adR ρ Z (Cd [] (AV.aE []) Q .normal):=by
   intro ρ Z k oZ hk he r0 r4 r5
   have oHZ:=b3.trans oZ
   have KZ:=KH.old oHZ
   obtain⟨t2,g2⟩:=KZ.top
   have c2:=aq g2
   have b2':=b2.old oZ
   have k1:(0:Int)<=(k:Int):=by omega
   have k1n:0<=k:=bM _
   have e3:((bg af).drop k).take (af.length-k)=bg (af.drop k):=by rw[bX (by grind)];simp[bg]
   have hh3:bQ 13 (bg (af.drop k))=true:=DL.fl
   obtain⟨v3,h3,d1,d2,d3,d4⟩:=b2'.more oHZ 216 13 (af.drop k) (bg (af.drop k)) rfl rfl (by grind) (by decide)
   have c3:cellsOf h3 rb=_:=d3.cells KH.l1 (aq g)
   have Cy:v3.one=true/\v3.cells=[v3]:=by obtain⟨t,rfl,_⟩:=d2;exact⟨rfl,rfl⟩
   simp+decide only[sv,adR,r0,r4,r5,c2,ll,hh0,hh3,e3,k1,hk,ak,d1,c3,Cy.1,Cy.2,xr]
   refine⟨rfl,(hQ _).2 ⟨K.Lt ?_ ?_ ?_ (K.ks.put v) (aJU K.ks.aQ K.root) (by have:=WM (o:=o) (l:=af);omega),?_,fun b hb q1 q2=>?_⟩⟩
   ·show h.next<=h3.next;have:=d3.next;have:=ho.next;omega
   ·obtain⟨t3,rfl,_⟩:=d2
    refine⟨t3,?_⟩
    rw[show bg (bC af o)=DL.R (af.take i++[o]++af.drop k) by rw[he,aLk];simp]
    simp[aa.set]
   ·simp only[aa.set];rw[aj (fun e=>K.ne e.symm),d3.get rt KH.l2,(oX.trans ho).get rt K.l2]
   ·show h.next<=h3.next;have:=d3.next;have:=ho.next;omega
   ·simp only[aa.set];rw[aj q1,d3.get b (by have:=ho.next;omega),(oX.trans ho).get b hb]
  have mP:=ak1 (o:=o) (l:=af)
  rw[qp] at mP
  have KB:=KH.old b3
  obtain⟨t4,g4⟩:=KB.top
  have z0:cellsOf (cB.clean 20) rb=_:=(Old.refl cB).clean.cells KB.l1 (aq g4)
  have z1:cellsOf (cB.clean 20) h.next=_:=(Old.refl cB).clean.cells (by have:=ho.next;have:=b3.next;omega) (b3.cells (by have:=ho.next;omega) cX')
  have l1:=KB.l1
  have n0:h.next<cB.next:=by have:=ho.next;have:=b3.next;omega
  refine bq 20 rfl rfl ?_
  by_cases yM:i<af.length
  ·have av:(i:Int)<(af.length:Int):=by omega
   have gi:(bg af)[i]? =some (af[i].c aC):=by simp[bg,bn yM]
   have hw:=dj (show i<2^61 by omega)
   simp only[Ob.c] at gi
   rw[bn yM] at mP
   by_cases e:af[i].id=o.id
   ·have e1:(af[i].id:Int)=(o.id:Int):=by omega
    rw[ax (by simp[e])] at mP
    simp+decide only[sv,Sg,ay0,r0,r3,r4,z0,z1,ll,av,k0,gi,e1,hw]
    exact afI _ _ (i+1) (Old.refl cB).clean (by omega) mP r0 rfl rfl
   ·have e1: ¬(af[i].id:Int)=(o.id:Int):=by omega
    rw[aj (by simpa using e)] at mP
    simp+decide only[sv,Sg,r0,r3,r4,z0,z1,ll,av,k0,gi,e1]
    exact afI _ _ i (Old.refl cB).clean (by omega) mP r0 r4 rfl
  ·have av: ¬(i:Int)<(af.length:Int):=by omega
   rw[GC (by omega),aj (by simp)] at mP
   simp+decide only[sv,Sg,r0,r4,z0,ll,av]
   exact afI _ _ i (Old.refl cB).clean hi mP r0 r4 rfl
 clear hK
 let J:Nat->Env->aa->Prop:=fun i ρ H=>Old X H/\(∀j (hj:j<af.length),j<i->af[j].id<o.id)/\ρ 0= .ptr rb 0/\ρ 3= .ptr h.next 0
 refine eQ 4 0 af.length (by omega) (bM _) J ?_ ?_ ⟨Old.refl X,fun j _ hj=>by omega,rfl,rfl⟩ rfl
 ·rintro i ρ H ⟨ho,hf,r0,r3⟩ r4-hi av aK hw
  have KH:=K.old (oX.trans ho)
  obtain⟨tt,g⟩:=KH.top
  have z0:cellsOf (H.clean 20) rb=_:=(Old.refl H).clean.cells KH.l1 (aq g)
  have z1:cellsOf (H.clean 20) h.next=_:=(Old.refl H).clean.cells (by have:=ho.next;omega) (ho.cells (by omega) cX)
  have l1:=KH.l1
  have n0:h.next<H.next:=by have:=ho.next;omega
  have gi:(bg af)[i]? =some (af[i].c aC):=by simp[bg,bn hi]
  simp only[Ob.c] at gi z1
  simp+decide only[sv]
  refine bq 20 rfl rfl ?_
  by_cases e:af[i].id<o.id
  ·have e1:(af[i].id:Int)<(o.id:Int):=by omega
   simp+decide only[sv,Sh,ay4,r0,r3,r4,z0,z1,ll,av,aK,gi,e1,hw]
   refine⟨ho.clean,fun j hj jt=>?_,r0,r3⟩
   grind
  ·have e1: ¬(af[i].id:Int)<(o.id:Int):=by omega
   simp+decide only[sv,Sh,r0,r3,r4,z0,z1,ll,av,aK,gi,e1]
   exact fin _ _ i ho.clean (by omega) hf (fun _=>e) r0 r3 r4
 ·rintro ρ H ⟨ho,hf,r0,r3⟩ r4 av
  have KH:=K.old (oX.trans ho)
  obtain⟨tt,g⟩:=KH.top
  have z0:cellsOf (H.clean 20) rb=_:=(Old.refl H).clean.cells KH.l1 (aq g)
  have l1:=KH.l1
  simp+decide only[sv]
  refine bq 20 rfl rfl ?_
  simp+decide only[sv,Sh,r0,r4,z0,ll,av]
  exact fin _ _ _ ho.clean (ak _) hf (fun q=>absurd q (by omega)) r0 r3 r4
def RK.lO (K:RK h rb rt ah af) (hx:x.ai.ok/\x.ai.ps.length<=16) (kx:KV x) (hn:h.next<=h'.next) (hg:h'.get rt=some (.cells (aI aH (ah.set t x)).flatten)) (hk:h'.get rb=h.get rb):RK h' rb rt (ah.set t x) af:=by
 obtain⟨tt,g⟩:=K.top
 refine⟨⟨tt,by grind⟩,hg,bJ K.l1 hn,bJ K.l2 hn,K.ne,K.ks,⟨by rw[kE];exact K.tv.len,akW K.tv.ai hx⟩,akW K.kv kx,K.root,K.len⟩
def Nu (ok:aA P tb) (K:RK h rb rt ah af) (ht): ∃h',al P 71 [.ptr rb 0, .int .i64 t] h (.aE []) h'/\RK h' rb rt (ah.set t (fH ah[t])) af/\RF h h' rb rt:=by
 obtain⟨Q,hQ⟩: ∃Q:aa->Prop,∀h',Q h'↔(RK h' rb rt (ah.set t (fH ah[t])) af/\RF h h' rb rt):=⟨_,fun _=>Iff.rfl⟩
 suffices hu: ∃h',al P 71 [.ptr rb 0, .int .i64 t] h (.aE []) h'/\Q h' by
  grind
 refine ok.dr c71 ?_
 obtain⟨tt,g⟩:=K.top
 have c0:=aq g
 have c1:=aq K.aU
 obtain⟨r1,r2,r3,r4⟩:=K.row ht
 have iZ:(t:Int)<(ah.length:Int):=by omega
 have hT:=pt (l:=ah) ht (j:=0) (v:=(fH ah[t]).c aH) (x':=fH ah[t]) (by show 0+12<=12;omega) (by simp[Th.c])
 have kx:=K.kv _ (bw ht)
 obtain⟨_,lk⟩:=K.ai ht
 generalize ah[t]=x at*
 simp only[Th.c] at r2
 simp+decide only[sv,c71,azg,c0,c1,iZ,r1,r2]
 generalize hX:aa.set _ _ _=X
 have oX:Old h X:=by rw[<-hX];exact((Old.refl h).at (ak _)).set (ak _)
 have xc:cellsOf X h.next=some (x.c aH):=by rw[<-hX];exact aq (by simp[aa.set];rfl)
 have nX:X.next=h.next+1:=by rw[<-hX];simp[aa.at,aa.set]
 clear hX
 have KX:=K.old oX
 obtain⟨t2,g2⟩:=KX.top
 have z0:cellsOf (X.clean 14) rb=_:=(Old.refl X).clean.cells KX.l1 (aq g2)
 have z1:cellsOf (X.clean 14) rt=_:=(Old.refl X).clean.cells KX.l2 (aq KX.aU)
 have z2:cellsOf (X.clean 14) h.next=_:=(Old.refl X).clean.cells (by omega) xc
 have l1:=KX.l1
 have l2:=KX.l2
 have n0:h.next<X.next:=by omega
 simp only[Th.c] at z2
 refine bq 14 rfl rfl ?_
 simp+decide only[sv,azf,z0,z1,z2,iZ,r1]
 have e0:List.take (t*12) (aI aH ah).flatten++[.int .u8 x.ai.d, .vs (aB.R x.ai.ps) (aH 0), .vs [] .full, .vs [] .full, .vs [] .full, .int .i64 x.own, .int .i64 0, .int .u64 0, .int .u64 0, .int .i64 0, .int .i64 0, .bool x.new]++List.drop (t*12+12) (aI aH ah).flatten=(aI aH (ah.set t (fH x))).flatten:=by
  rw[<-hT]
  have:(fH x).c aH=[.int .u8 x.ai.d, .vs (aB.R x.ai.ps) (aH 0), .vs [] .full, .vs [] .full, .vs [] .full, .int .i64 x.own, .int .i64 0, .int .u64 0, .int .u64 0, .int .i64 0, .int .i64 0, .bool x.new]:=by
   simp only[Th.c,fH,kx.st];rfl
  rw[this];rfl
 refine⟨fun j h1 h2=>by omega,rfl,(hQ _).2 ⟨K.lO (x:=fH x) lk kx.fH ?_ ?_ ?_,?_,fun b hb q1 q2=>?_⟩⟩
 ·show h.next<=X.next+14;omega
 ·rw[<-e0];simp[aa.set]
 ·simp only[aa.set,aa.clean];rw[aj K.ne,ax l1,oX.get rb K.l1]
 ·show h.next<=X.next+14;omega
 ·simp only[aa.set,aa.clean];rw[aj q2,ax (by omega),oX.get b hb]
def aiP (ok:aA P tb) (K:RK h rb rt ah af) (ht) (hc: ∀c∈cs,c<65536) (d9:cs.length<2^16): ∃h',al P 75 [.ptr rb 0, .int .i64 t, .vs ((ay .u16).R cs) tl] h (.int .i64 (dD ah[t] cs).1) h'/\RK h' rb rt (ah.set t (dD ah[t] cs).2) af/\RF h h' rb rt:=by
 obtain⟨Q,hQ⟩: ∃Q:aa->Prop,∀h',Q h'↔(RK h' rb rt (ah.set t (dD ah[t] cs).2) af/\RF h h' rb rt):=⟨_,fun _=>Iff.rfl⟩
 suffices hu: ∃h',al P 75 [.ptr rb 0, .int .i64 t, .vs ((ay .u16).R cs) tl] h (.int .i64 (dD ah[t] cs).1) h'/\Q h' by
  grind
 refine ok.dr c75 ?_
 obtain⟨tt,g⟩:=K.top
 have c0:=aq g
 have c1:=aq K.aU
 obtain⟨r1,r2,r3,r4⟩:=K.row ht
 have iZ:(t:Int)<(ah.length:Int):=by omega
 have lg:t*12+2<=(aI aH ah).flatten.length:=by omega
 obtain⟨ls,lk⟩:=K.ai ht
 simp+decide only[sv,c75,ayZ,ayY,c0,c1,iZ,lg,r3]
 generalize hX:aa.set _ _ _=X
 have oX:Old h X:=by rw[<-hX];exact((Old.refl h).at (ak _)).set (ak _)
 have xc:cellsOf X h.next=some ((ah[t]).ai.c .au):=by rw[<-hX];exact aq (by simp[aa.set];rfl)
 have nX:X.next=h.next+1:=by rw[<-hX];simp[aa.at,aa.set]
 clear hX
 simp+decide only[sv,ayX]
 let J:Nat->Env->aa->Prop:=fun i ρ H=>Old h H/\h.next<H.next/\cellsOf H h.next=some ((mD ah[t].ai (cs.take i)).c .au)/\ρ 0= .ptr rb 0/\ρ 1= .int .i64 t/\ρ 2= .vs ((ay .u16).R cs) tl/\ρ 7= .ptr h.next 0
 refine eQ 8 0 cs.length (by omega) (bM _) J ?_ ?_ ⟨oX,by omega,xc,rfl,rfl,rfl,rfl⟩ rfl
 ·rintro i ρ H ⟨ho,hn,hcell,r0,Mk,uN,r7⟩ r8-hi av aK hw
  have gi:((ay .u16).R cs)[i]? =some [.int .u16 cs[i]]:=(ay .u16).cj hi
  have bO:=NX (cs:=cs.take i) lk.1 (by grind) (fun c h=>hc c (uk h))
  have z0:=((Old.refl H).clean (n:=7)).cells hn hcell
  have es:mD ah[t].ai (cs.take (i+1))=tj (mD ah[t].ai (cs.take i)) cs[i] 0:=by
   rw[lN hi];unfold mD;grind
  simp only[Lb.c] at z0
  simp+decide only[sv,Sf,uN,r8,aF.aD,av]
  refine bq 7 rfl rfl ?_
  simp+decide only[sv,ayW,uN,r7,r8,z0,aK,gi]
  refine dX (aFL ok (l:=mD ah[t].ai (cs.take i)) (t:= .au) (c:=cs[i]) (gB:=0) (by grind)) (ba (ak _)) ?_
  simp+decide only[sv,r7,z0,Lb.c]
  refine⟨fun j h1 h2=>by omega,?_⟩
  simp+decide only[sv,ayV,r8,hw]
  refine⟨(ho.clean (n:=7)).set (ak _),by show h.next<H.next+7;omega,aq ?_,r0,Mk,uN,r7⟩
  rw[es];simp[aa.set];rfl
 ·rintro ρ H ⟨ho,hn,hcell,r0,Mk,uN,r7⟩ r8 av
  rw[bX (ak _)] at hcell
  have bO:=NX (cs:=cs) lk.1 (by omega) hc
  have yK:=aIN (cs:=cs) (K.kv _ (bw ht))
  have KH:=K.old ho
  unfold dD at yK ⊢ hQ
  generalize hL:mD ah[t].ai cs=L at*
  simp only[Lb.c] at hcell
  by_cases MW:16<L.ps.length
  ·have D3:(16:Int)<(L.ps.length:Int):=by omega
   rw[ax MW] at hQ ⊢
   simp+decide only[sv,Sf,adQ,ayU,uN,r7,r8,av,hcell,aF.aD,D3]
   exact⟨rfl,(hQ _).2 ⟨by simp_all,RF.old ho⟩⟩
  ·have D3: ¬(16:Int)<(L.ps.length:Int):=by omega
   rw[aj MW] at hQ yK ⊢
   obtain⟨t2,g2⟩:=KH.top
   have z0:cellsOf (H.clean 9) rb=_:=(Old.refl H).clean.cells KH.l1 (aq g2)
   have z1:cellsOf (H.clean 9) rt=_:=(Old.refl H).clean.cells KH.l2 (aq KH.aU)
   have z2:cellsOf (H.clean 9) h.next=_:=(Old.refl H).clean.cells hn hcell
   have l1:=KH.l1
   have l2:=KH.l2
   simp+decide only[sv,Sf,adQ,uN,r7,r8,av,hcell,aF.aD,D3]
   refine bq 9 rfl rfl ?_
   simp+decide only[sv,ayT,r0,Mk,r7,z0,z1,z2,iZ,lg]
   have iF:=pt (l:=ah) ht (j:=0) (v:=[.int .u8 L.d, .vs (aB.R L.ps) .au]) (x':={ah[t] with ai:=L}) (by simp) rfl
   rw[show List.take (t*12) (aI aH ah).flatten++[AV.int IntKind.u8 ↑L.d,AV.vs (aB.R L.ps) aL.au]++List.drop (t*12+(1+1)) (aI aH ah).flatten=_ from iF]
   simp+decide only[sv,ayS]
   refine⟨fun j h1 h2=>by omega,rfl,(hQ _).2 ⟨K.lO (x:={ah[t] with ai:=L}) ⟨bO.1,by grind⟩ yK ?_ ?_ ?_,?_,fun b hb q1 q2=>?_⟩⟩
   ·show h.next<=H.next+9;omega
   ·simp[aa.set]
   ·simp only[aa.set,aa.clean];rw[aj K.ne,ax l1,ho.get rb K.l1]
   ·show h.next<=H.next+9;omega
   ·simp only[aa.set,aa.clean];rw[aj q2,ax (by omega),ho.get b hb]
def BD {α:Type} {id:Nat} (f:Nat->α) (g:Ob->α):(if(bh af l id kind q).2≠0 then f (bh af l id kind q).2 else g (bh af l id kind q).1)=if(dM af l id kind).2≠0 then f (dM af l id kind).2 else if q (dM af l id kind).1.ai=false then f 6 else g (dM af l id kind).1:=by
 by_cases h1:(dM af l id kind).2=0
 ·rw[aj (fun q=>q h1) (c:=(dM af l id kind).2≠0)]
  by_cases h2:q (dM af l id kind).1.ai=false
  ·have e:bh af l id kind q=(bz,6):=by rw[Xo,aj (fun q=>q h1),ax h2]
   grind
  ·have e:bh af l id kind q=((dM af l id kind).1,0):=by rw[Xo,aj (fun q=>q h1),aj h2]
   grind
 ·have e:bh af l id kind q=(bz,(dM af l id kind).2):=by rw[Xo,ax h1]
  grind
def aK2:List.take n (List.drop lo (BS l))=BS ((l.drop lo).take n):=by rw[vw,Fu]
theorem aF9 (ok:aA P tb) (K:RK h rb rt ah af) (ht) {c:Cl} (k:ik c) (h4:c.op=4):al P 78 [.ptr rb 0, .int .i64 t, .agg (c.c τ)] h (.aE [.vs (BS (lJ ah[t].ai af c).2) .au, .int .i64 (lJ ah[t].ai af c).1]) h:=by
 suffices hu:al P 78 [.ptr rb 0, .int .i64 t, .agg (c.c aC)] h (.aE [.vs (BS (lJ ah[t].ai af c).2) .au, .int .i64 (lJ ah[t].ai af c).1]) h from al.au (by simp only[AV.a8,AV.strip,xm];exact hu)
 obtain⟨V,hV⟩: ∃V,V=lJ ah[t].ai af c:=⟨_,rfl⟩
 rw[<-hV]
 rw[show lJ ah[t].ai af c=_ from BD (fun e=>(e,[])) (fun o=>if 0<=c.off/\0<=c.n/\c.off+c.n<=o.data.length then(0,(o.data.drop c.off.toNat).take c.n.toNat) else(11,[]))] at hV
 refine ok.df (rf:=M8) rfl (bT rfl) (by simp only[AV.bD,AV.cG,vx];rfl) ?_
 simp+decide only[sv,M8,adM,ed]
 generalize hY:aa.at _ _ _=Y
 have oY:Old h Y:=by rw[<-hY];exact(Old.refl h).at (ak _)
 have cY:cellsOf Y h.next=some (c.c aC):=by rw[<-hY];exact aq (by simp[aa.at];try rfl)
 have nY:Y.next=h.next+1:=by rw[<-hY];simp[aa.at]
 clear hY
 simp only[ed] at cY
 have KY:=K.old oY
 simp+decide only[sv,adL,cY]
 refine ao (Be ok KY ht (kind:=2) k.id) ?_
 have hm:=Br (l:=ah[t].ai) (id:=c.id) (kind:=2) K
 generalize dM af ah[t].ai c.id 2=R at*
 obtain⟨o,e⟩:=R
 simp only at hm hV
 simp+decide only[sv,Ob.c]
 generalize hZ:aa.set _ _ _=Z
 have oZ:Old Y Z:=by rw[<-hZ];exact((Old.refl Y).at (ak _)).set (ak _)
 have zz:cellsOf Z Y.next=some (o.c aC):=by rw[<-hZ];exact aq (by simp[aa.set];rfl)
 clear hZ
 have z0:=oZ.cells (by omega) cY
 have KZ:=KY.old oZ
 have og:=(oY.trans oZ).get
 by_cases he:e=0
 case neg=>
  have bP: ¬(e:Int)=0:=by omega
  rw[ax he] at hV
  simp+decide only[sv,KO,adK,bP,aV]
  exact⟨by rw[hV];rfl,og⟩
 subst he
 rw[aj (fun q=>q rfl)] at hV
 obtain⟨om,pJ,oi⟩:=hm rfl
 obtain⟨s1,s2,s3⟩:=K.ks.ai om
 have cs:=Ik ok KZ ht (o:=o) (τ:=aC) s1 (by omega)
 simp only[Ob.c] at cs zz
 have e4:(c.op=5)=False:=bk (by omega)
 have e44:(c.op=4)=True:=bW h4
 simp+decide only[sv,KO,adJ,adI,z0,zz]
 refine ao cs ?_
 cases hs:eI ah[t].ai o.ai with
 |false=>
  rw[hs,ax rfl] at hV
  simp+decide only[sv,Sb,KN,adH,z0,e4,aV]
  exact⟨by rw[hV];rfl,og⟩
 |true=>
  rw[hs,aj (by simp)] at hV
  have hd:=qy (K.ks.val o om).may pJ
  simp+decide only[sv,Sb,KN,z0,e4]
  have fC: ¬(0<=c.off/\0<=c.n/\c.off+c.n<=o.data.length)->(AV.aE [.vs [] .full, .int .i64 11]).strip= .aE [.vs (BS V.2) .au, .int .i64 V.1]:=fun q=>by rw[hV,aj q];rfl
  by_cases h1:c.off<0
  ·simp+decide only[sv,xF,BG,z0,h1,aV]
   grind
  by_cases h2:c.n<0
  ·simp+decide only[sv,xF,BG,z0,h1,h2,aV]
   grind
  by_cases h3:(o.data.length:Int)<c.off
  ·simp+decide only[sv,xF,BG,z0,zz,h1,h2,h3,aY,aV]
   grind
  have w1:IntKind.wrap .i64 ((o.data.length:Int)-c.off)=(o.data.length:Int)-c.off:=bj (by omega) (by omega)
  by_cases h5:(o.data.length:Int)-c.off<c.n
  ·simp+decide only[sv,xF,BG,z0,zz,h1,h2,h3,h5,w1,aY,aV]
   grind
  have w2:IntKind.wrap .i64 (c.off+c.n)=c.off+c.n:=bj (by omega) (by omega)
  rw[ax (by omega)] at hV
  have q1:0<=c.off:=by omega
  have q2:0<=c.off+c.n:=by omega
  have q3:c.off.toNat<=(c.off+c.n).toNat:=by omega
  have q4:(c.off+c.n).toNat<=o.data.length:=by omega
  have q5:(c.off+c.n).toNat-c.off.toNat=c.n.toNat:=by omega
  obtain⟨v1,br,a1,a2,a3,a4⟩:=(App.start dt Z Z).more (Old.refl Z) 1 1 ((o.data.drop c.off.toNat).take c.n.toNat) (BS ((o.data.drop c.off.toNat).take c.n.toNat)) rfl rfl (by grind) (by decide)
  have hh: ∀l,bQ 1 (BS l)=true:=fun l=>iM
  obtain⟨tv,rfl,_⟩:=id a2
  simp+decide only[sv,xF,XN,anb,z0,zz,h1,h2,h3,h5,w1,w2,q1,q2,q3,q4,q5,aY,aK2,hh,np,e44,a1,aV]
  refine⟨?_,fun b hb=>by rw[a3.get b (by have:=oZ.next;omega),og b hb]⟩
  rw[hV]
  simp only[AV.strip,AV.a8,dt.dJ];rfl
end
section
open Go
def eZ (f:Ob->Int) (l:List Ob):Int:=(l.map f).foldr (· + ·) 0
theorem po:eZ f (x::l)=f x+eZ f l:=rfl
theorem akd: ∀{l:List Ob},(∀x∈l,x.id≠o.id)->eZ f (bC l o)=f o+eZ f l
 |[],_=>rfl
 |x::l,h=>by
  unfold bC
  split
  ·rfl
  ·rw[aj (h x (by simp)),po,po,akd (fun y hy=>h y (by simp[hy]))];omega
theorem N9: ∀{l:List Ob},l.Pairwise (·.id< ·.id)->o0∈l->o0.id=o.id->eZ f (bC l o)=eZ f l-f o0+f o
 |x::l,hs,h,e=>by
  have gu:=List.pairwise_cons.1 hs
  unfold bC
  rcases List.mem_cons.1 h with e1|h
  ·subst e1
   rw[aj (by omega),ax e,po,po];omega
  ·have:=gu.1 o0 h
   rw[aj (by omega),aj (by omega),po,po,N9 gu.2 h e];omega
theorem VX: ∀{l:List Ob},(∀x∈l,f x=g x)->eZ f l=eZ g l
 |[],_=>rfl
 |x::l,h=>by rw[po,po,h x (by simp),VX (fun y hy=>h y (by simp[hy]))]
theorem VH: ∀{l:List Ob},eZ f (l.filter q)=eZ (fun x=>if q x then f x else 0) l
 |[]=>rfl
 |x::l=>by
  rw[List.filter_cons,po]
  cases h:q x with
  |true=>simp only[dP];rw[po,VH]
  |false=>simp only[nj,fj];rw[VH];omega
def NC {id:Nat} (h:cP id=true) (h1:id≠1):bu id=bu (cR id)++[id]/\cP (cR id)=true:=by
 unfold cP at h
 cases hn:eT id with
 |none=>grind
 |some l=>
  have cV:=hn
  rw[show eT id=(if id=1 then some [] else if 1<id/\0<id%64 then(eU 5 (id/64)).map (id%64:: ·) else none) from rfl,aj h1] at hn
  split at hn
  ·obtain⟨m,hm,rfl⟩:=Option.map_eq_some_iff.1 hn
   have HU:eT (id/64)=some m:=by
    have hl:m.length<=5:=tT (k:=5) hm
    exact IU (k:=5) (k':=6) hm (by omega)
   have hd:cR id=id/64:=by
    unfold cR iT
    grind
   rw[hd,y8 cV,y8 HU,cQ,WW]
   exact⟨rfl,by unfold cP;rw[HU];rfl⟩
  ·cases hn
def aFy {id c:Nat} (h:cP id=true) (h1:id≠1):iA id c=(iA (cR id) c||id==c):=by
 unfold iA
 rw[(NC h h1).1,Bool.eq_iff_iff,GA,vW,List.mem_singleton,Bool.or_eq_true,GA,beq_iff_eq]
 grind
def dR (b:Nat) (o:Ob):Int:=if cR o.id=b then cost o else 0
structure KC (af:List Ob):Prop where
 used: ∀b∈af,b.kind=1->b.used=eZ (dR b.id) af/\b.used<=b.aP
def KC.put (k:KC af) (hs:af.Pairwise (·.id< ·.id)) (hm:o0∈af) (e:o0.id=o.id) (ek:o.kind=o0.kind) (eu:o.used=o0.used) (eq:o.aP=o0.aP) (ec:cost o=cost o0):KC (bC af o):=by
 have Cp: ∀b,eZ (dR b) (bC af o)=eZ (dR b) af:=by
  intro b
  rw[N9 hs hm e]
  have:dR b o=dR b o0:=by unfold dR;rw[e,ec]
  omega
 refine⟨fun b hb hk=>?_⟩
 rw[Cp]
 rcases Bn hb with rfl|hb
 ·obtain⟨h1,h2⟩:=k.used o0 hm (by omega)
  grind
 ·exact k.used b hb hk
def Oo (h:off+v.length<=d.length):(my d off v).length=d.length:=by
 unfold my
 grind
def akH (h:d.length=o.data.length):cost {o with data:=d}=cost o:=by
 unfold cost
 simp only[h]
theorem ajP:cost {o with ring:=r}=cost o:=rfl
def aIL {c:Cl} (k:KC af) (hs:af.Pairwise (·.id< ·.id)) (hr: ∃r,a9 af 1=some r):KC (iN l af c).2:=by
 unfold iN
 by_cases h1:(bh af l c.id 2 (cM l)).2≠0
 ·grind
 ·rw[aj h1]
  obtain⟨e1,e2,e3⟩:=Bf hr (Classical.not_not.1 h1)
  split
  ·rename_i h
   unfold tC
   exact k.put hs (ix e1).1 rfl rfl rfl rfl (akH (Oo (by omega)))
  ·exact k
def aKg {c:Cl} (k:KC af) (hs:af.Pairwise (·.id< ·.id)) (hr: ∃r,a9 af 1=some r):KC (kH l af c).2:=by
 unfold kH
 by_cases h1:(bh af l c.id 4 (dW l)).2≠0
 ·grind
 ·rw[aj h1]
  obtain⟨e1,e2,e3⟩:=Bf hr (Classical.not_not.1 h1)
  split
  ·exact k
  ·exact k.put hs (ix e1).1 rfl rfl rfl rfl ajP
def aKh {c:Cl} (k:KC af) (hs:af.Pairwise (·.id< ·.id)) (hr: ∃r,a9 af 1=some r):KC (gN x af c).2.2.2.1:=by
 unfold gN
 by_cases h1:(bh af x.ai c.id 4 (dW x.ai)).2≠0
 ·grind
 ·rw[aj h1]
  obtain⟨e1,e2,e3⟩:=Bf hr (Classical.not_not.1 h1)
  split
  ·exact k
  ·exact k.put hs (ix e1).1 rfl rfl rfl rfl ajP
def aKj {c:Cl} (k:KC af) (hs:af.Pairwise (·.id< ·.id)) (hr: ∃r,a9 af 1=some r):KC (gz x af c done).2.2.2.1:=by
 unfold gz
 by_cases h1:(bh af x.ai c.id 2 (eI x.ai)).2≠0
 ·grind
 rw[aj h1]
 by_cases h2:(bh af x.ai c.to 2 (cM x.ai)).2≠0
 ·grind
 rw[aj h2]
 by_cases h3: ¬(0<=c.n/\c.n<=min ((bh af x.ai c.id 2 (eI x.ai)).1.data.length:Int) (bh af x.ai c.to 2 (cM x.ai)).1.data.length)
 ·grind
 rw[aj h3]
 obtain⟨e1,e2,e3⟩:=Bf hr (Classical.not_not.1 h2)
 have mC:=Classical.not_not.1 h3
 have key:KC (tC af (bh af x.ai c.to 2 (cM x.ai)).1 (my (bh af x.ai c.to 2 (cM x.ai)).1.data (max 0 (min done c.n)).toNat (((bh af x.ai c.id 2 (eI x.ai)).1.data.take (min ((max 0 (min done c.n)).toNat+4) c.n.toNat)).drop (max 0 (min done c.n)).toNat))):=by
  unfold tC
  refine k.put hs (ix e1).1 rfl rfl rfl rfl (akH (Oo ?_))
  grind
 unfold tD
 grind
end
section
open Go
variable {P:Program} {h:aa} {rb rt t:Nat} {ah:List Th} {af:List Ob}
def RE (h:aa) (rb rt:Nat) (ah:List Th) (af:List Ob) (h':aa):Prop:=RK h' rb rt ah af/\RF h h' rb rt
def RE.from (o:Old h Y) (e:RE Y rb rt ah af h'):RE h rb rt ah af h':=⟨e.1,(RF.old o).trans e.2⟩
def aFr (ok:aA P tb) (K:RK h rb rt ah af) (ht) {c:Cl} (k:ik c) (h5:c.op=5) (hl:af.length<990): ∃h',al P 78 [.ptr rb 0, .int .i64 t, .agg (c.c τ)] h (.aE [.vs [] .au, .int .i64 (iN ah[t].ai af c).1]) h'/\RE h rb rt ah (iN ah[t].ai af c).2 h':=by
 obtain⟨V,hV⟩: ∃V,V=iN ah[t].ai af c:=⟨_,rfl⟩
 rw[<-hV]
 rw[show iN ah[t].ai af c=_ from BD (fun e=>(e,af)) (fun o=>if 0<=c.off/\c.off+c.data.length<=o.data.length then(0,tC af o (my o.data c.off.toNat c.data)) else(11,af))] at hV
 obtain⟨Q,hQ⟩: ∃Q:AV->aa->Prop,∀v h',Q v h'↔(v.strip= .aE [.vs [] .au, .int .i64 V.1]/\RE h rb rt ah V.2 h'):=⟨_,fun _ _=>Iff.rfl⟩
 suffices hu: ∃v h',al P 78 [.ptr rb 0, .int .i64 t, .agg (c.c aC)] h v h'/\Q v h' by
  obtain⟨v,h',c1,q⟩:=hu
  obtain⟨q1,q2⟩:=(hQ _ _).1 q
  refine⟨h',al.au ?_,q2⟩
  simp only[AV.a8,AV.strip,xm]
  rw[<-q1];exact c1.strip
 refine ok.kP M8 ?_
 simp+decide only[sv,M8,adM,ed]
 generalize hY:aa.at _ _ _=Y
 have oY:Old h Y:=by rw[<-hY];exact(Old.refl h).at (ak _)
 have cY:cellsOf Y h.next=some (c.c aC):=by rw[<-hY];exact aq (by simp[aa.at];try rfl)
 have nY:Y.next=h.next+1:=by rw[<-hY];simp[aa.at]
 clear hY
 simp only[ed] at cY
 have KY:=K.old oY
 simp+decide only[sv,adL,cY]
 refine ao (Be ok KY ht (kind:=2) k.id) ?_
 have hm:=Br (l:=ah[t].ai) (id:=c.id) (kind:=2) K
 generalize dM af ah[t].ai c.id 2=R at*
 obtain⟨o,e⟩:=R
 simp only at hm hV
 simp+decide only[sv,Ob.c]
 generalize hZ:aa.set _ _ _=Z
 have oZ:Old Y Z:=by rw[<-hZ];exact((Old.refl Y).at (ak _)).set (ak _)
 have nZ:Z.next=Y.next+1:=by rw[<-hZ];simp[aa.at,aa.set]
 have zz:cellsOf Z Y.next=some (o.c aC):=by rw[<-hZ];exact aq (by simp[aa.set];rfl)
 clear hZ
 have z0:=oZ.cells (by omega) cY
 have KZ:=KY.old oZ
 have oo:=oY.trans oZ
 by_cases he:e=0
 case neg=>
  have bP: ¬(e:Int)=0:=by omega
  rw[ax he] at hV
  simp+decide only[sv,KO,adK,bP,eK]
  exact(hQ _ _).2 ⟨by rw[hV];rfl,by rw[hV];exact⟨KZ,RF.old oo⟩⟩
 subst he
 rw[aj (fun q=>q rfl)] at hV
 obtain⟨om,pJ,oi⟩:=hm rfl
 obtain⟨s1,s2,s3⟩:=K.ks.ai om
 have cs:=Ik ok KZ ht (o:=o) (τ:=aC) s1 (by omega)
 have KC:=KZ.old ((Old.refl Z).clean (n:=9))
 have ct:=Vz ok KC ht (o:=o) (τ:=aC) s1 (by omega)
 simp only[Ob.c] at cs ct zz
 have e5:(c.op=5)=True:=bW h5
 have e4:(c.op=4)=False:=bk (by omega)
 simp+decide only[sv,KO,adJ,adI,z0,zz]
 refine ao cs ?_
 simp+decide only[sv,Sb,z0,e5]
 have n0:h.next<Z.next:=by omega
 have n1:Y.next<Z.next:=by omega
 have y0:cellsOf (Z.clean 9) h.next=_:=(Old.refl Z).clean.cells n0 z0
 have y1:cellsOf (Z.clean 9) Y.next=_:=(Old.refl Z).clean.cells n1 zz
 refine m6 ?_
 simp+decide only[sv,ayC,y0,y1,n0,n1]
 refine dh ct (ba (ak _)) ?_
 have oc:=oo.clean (n:=9)
 have og:=oc.get
 have nW:(Z.clean 9).next=Z.next+9:=rfl
 generalize Z.clean 9=W at*
 have rfw:=RF.old (rb:=rb) (rt:=rt) oc
 cases hs:cM ah[t].ai o.ai with
 |false=>
  rw[hs,ax rfl] at hV
  simp+decide only[sv,KN,adH,eK]
  exact(hQ _ _).2 ⟨by rw[hV];rfl,by rw[hV];exact⟨KC,rfw⟩⟩
 |true=>
  rw[hs,aj (by simp)] at hV
  have hv:=K.ks.val o om
  have hd:=qy hv.may pJ
  simp+decide only[sv,KN,aY]
  have fC: ¬(0<=c.off/\c.off+c.data.length<=o.data.length)->Q (.aE [.vs [] .full, .int .i64 11]) W:=fun q=>(hQ _ _).2 (by rw[hV,aj q];exact⟨rfl,KC,rfw⟩)
  have h2: ¬(c.data.length:Int)<0:=by omega
  by_cases h1:c.off<0
  ·simp+decide only[sv,xF,BG,y0,h1,eK]
   grind
  by_cases h3:(o.data.length:Int)<c.off
  ·simp+decide only[sv,xF,BG,y0,y1,h1,h2,h3,aY,eK]
   grind
  have kd:=k.data
  have w1:IntKind.wrap .i64 ((o.data.length:Int)-c.off)=(o.data.length:Int)-c.off:=bj (by omega) (by omega)
  by_cases h6:(o.data.length:Int)-c.off<(c.data.length:Int)
  ·simp+decide only[sv,xF,BG,y0,y1,h1,h2,h3,h6,w1,aY,eK]
   grind
  have w2:IntKind.wrap .i64 (c.off+c.data.length)=c.off+c.data.length:=bj (by omega) (by omega)
  rw[ax (by omega)] at hV
  have q1:0<=c.off:=by omega
  have q2:0<=c.off+(c.data.length:Int):=by omega
  have q3:c.off.toNat<=o.data.length:=by omega
  have q4:(c.off+(c.data.length:Int)).toNat<=o.data.length:=by omega
  have q5:(c.off+(c.data.length:Int)).toNat=c.off.toNat+c.data.length:=by omega
  have q6:0<=c.off.toNat:=bM _
  have q7:c.off.toNat+c.data.length<=o.data.length:=by omega
  have q8:(BS (o.data.drop (c.off.toNat+c.data.length))).take (o.data.length-(c.off.toNat+c.data.length))=BS (o.data.drop (c.off.toNat+c.data.length)):=bX (by rw[aY,oI];omega)
  have hh: ∀l,bQ 1 (BS l)=true:=fun l=>iM
  have n0:h.next<W.next:=by omega
  have n1:Y.next<W.next:=by omega
  have x0:cellsOf (W.clean 20) h.next=_:=(Old.refl W).clean.cells n0 y0
  have x1:cellsOf (W.clean 20) Y.next=_:=(Old.refl W).clean.cells n1 y1
  simp+decide only[sv,xF,XN,y0,y1,h1,h2,h3,h6,w1,aY,e4]
  refine jk 14 20 rfl (by omega) rfl ?_
  simp+decide only[sv,ana,x0,x1,n0,n1,q1,q3,q6,aY,Fu,hh,qF,np,xr]
  obtain⟨v1,br,a1,a2,a3,a5⟩:=(App.start dt W (W.clean 20)).oJ (Old.refl W).clean (base:=W.next) (n:=20) (i:=6) 1 1 (o.data.take c.off.toNat) (BS (o.data.take c.off.toNat)) rfl rfl (ak _) RZ (by grind) (by decide)
  refine⟨v1,br,a1,a5,fun x hx=>by rw[a3.get x hx,(Old.refl W).clean.get x hx],?_⟩
  have x2:cellsOf br h.next=_:=a3.cells n0 y0
  have x3:cellsOf br Y.next=_:=a3.cells n1 y1
  obtain⟨v2,cB,b1,b2,b3,b5⟩:=a2.oJ a3 (base:=W.next) (n:=20) (i:=9) 1 1 c.data (BS c.data) rfl rfl (ak _) (Cb (by decide) a5) (by grind) (by decide)
  simp+decide only[sv,x2,n0,n1,hh,b1]
  refine⟨b5,fun x hx=>by rw[b3.get x hx,a3.get x hx],?_⟩
  have x4:cellsOf cB h.next=_:=b3.cells n0 y0
  have x5:cellsOf cB Y.next=_:=b3.cells n1 y1
  obtain⟨v3,mC,d1,d2,d3,d5⟩:=b2.oJ b3 (base:=W.next) (n:=20) (i:=17) 1 1 (o.data.drop (c.off.toNat+c.data.length)) (BS (o.data.drop (c.off.toNat+c.data.length))) rfl rfl (ak _) (Cb (by decide) b5) (by grind) (by decide)
  have x7:cellsOf mC Y.next=_:=d3.cells n1 y1
  obtain⟨t3,rfl,_⟩:=id d2
  simp+decide only[sv,x4,x5,x7,n0,w2,q2,q5,q7,q8,ak,aY,vw,hh,d1,d5]
  refine⟨fun j j1 j2=>by omega,?_⟩
  have hlen:=Oo (d:=o.data) (v:=c.data) (off:=c.off.toNat) q7
  have Mz:o.data.take c.off.toNat++c.data++o.data.drop (c.off.toNat+c.data.length)=my o.data c.off.toNat c.data:=rfl
  rw[Mz]
  generalize hG:aa.set _ _ _=G
  have oG:Old h G:=by
   rw[<-hG]
   exact(oc.trans d3).set (by omega)
  have gg:cellsOf G Y.next=some (Ob.c {o with data:=my o.data c.off.toNat c.data} (fun i=>if i=4 then t3 else .au)):=by rw[<-hG];exact aq (by simp[aa.set];rfl)
  clear hG
  simp only[Ob.c] at gg
  obtain⟨h9,cp,RP⟩:=CV ok (K.old oG) (o:={o with data:=my o.data c.off.toNat c.data}) (τ:=fun i=>if i=4 then t3 else .au) (hv.data hlen) hl
  simp only[Ob.c] at cp
  simp+decide only[sv,am9,gg]
  refine ao cp ?_
  simp+decide only[sv,am8,eK]
  exact(hQ _ _).2 ⟨by rw[hV];rfl,by rw[hV];exact RE.from oG RP⟩
def aFt (ok:aA P tb) (K:RK h rb rt ah af) (ht) {c:Cl} (aM:c.id<2^64): ∃h',al P 80 [.ptr rb 0, .int .i64 t, .int .u64 c.id] h (.int .i64 (mE ah[t] af c).1) h'/\RE h rb rt (ah.set t (mE ah[t] af c).2) af h':=by
 obtain⟨V,hV⟩: ∃V,V=mE ah[t] af c:=⟨_,rfl⟩
 rw[<-hV]
 rw[show mE ah[t] af c=_ from BD (fun e=>(e,ah[t])) (fun o=>dD ah[t] o.bf)] at hV
 obtain⟨Q,hQ⟩: ∃Q:aa->Prop,∀h',Q h'↔RE h rb rt (ah.set t V.2) af h':=⟨_,fun _=>Iff.rfl⟩
 suffices hu: ∃h',al P 80 [.ptr rb 0, .int .i64 t, .int .u64 c.id] h (.int .i64 V.1) h'/\Q h' by
  grind
 refine ok.dr c80 ?_
 simp+decide only[sv,c80,ayu,ayt]
 refine ao (Be ok K ht (kind:=3) aM) ?_
 have hm:=Br (l:=ah[t].ai) (id:=c.id) (kind:=3) K
 generalize dM af ah[t].ai c.id 3=R at*
 obtain⟨o,e⟩:=R
 simp only at hm hV
 simp+decide only[sv,Ob.c]
 generalize hZ:aa.set _ _ _=Z
 have oZ:Old h Z:=by rw[<-hZ];exact((Old.refl h).at (ak _)).set (ak _)
 have zz:cellsOf Z h.next=some (o.c aC):=by rw[<-hZ];exact aq (by simp[aa.set];rfl)
 clear hZ
 have KZ:=K.old oZ
 have same: ∀n:Nat,V=(n,ah[t])->RE h rb rt (ah.set t V.2) af Z:=fun n q=>by rw[q,u9];exact⟨KZ,RF.old oZ⟩
 by_cases he:e=0
 case neg=>
  have bP: ¬(e:Int)=0:=by omega
  rw[ax he] at hV
  simp+decide only[sv,adD,ays,bP]
  exact⟨by rw[hV];rfl,(hQ _).2 (same e hV)⟩
 subst he
 rw[aj (fun q=>q rfl)] at hV
 obtain⟨om,pJ,oi⟩:=hm rfl
 obtain⟨s1,s2,s3⟩:=K.ks.ai om
 have cs:=Ik ok KZ ht (o:=o) (τ:=aC) s1 (by omega)
 simp only[Ob.c] at cs zz
 simp+decide only[sv,adD,ayr,zz]
 refine ao cs ?_
 cases hs:eI ah[t].ai o.ai with
 |false=>
  rw[hs,ax rfl] at hV
  simp+decide only[sv,ayq]
  exact⟨by rw[hV];rfl,(hQ _).2 (same 6 hV)⟩
 |true=>
  rw[hs,aj (by simp)] at hV
  have hv:=K.ks.val o om
  have hc:=Fk (Fa hv.may pJ)
  obtain⟨h9,cp,RP,rf⟩:=aiP ok KZ ht (cs:=o.bf) (tl:=aC 5) hv.ok.cat (by omega)
  simp+decide only[sv,ayp,zz]
  refine ao cp ?_
  simp+decide only[sv]
  exact⟨by rw[hV];rfl,(hQ _).2 (by rw[hV];exact RE.from oZ ⟨RP,rf⟩)⟩
def aF8 (ok:aA P tb) (K:RK h rb rt ah af) (ht) {c:Cl} (k:ik c) (hl:af.length<990): ∃h',al P 81 [.ptr rb 0, .int .i64 t, .agg (c.c τ)] h (.int .i64 (kH ah[t].ai af c).1) h'/\RE h rb rt ah (kH ah[t].ai af c).2 h':=by
 obtain⟨V,hV⟩: ∃V,V=kH ah[t].ai af c:=⟨_,rfl⟩
 rw[<-hV]
 rw[show kH ah[t].ai af c=_ from BD (fun e=>(e,af)) (fun o=>if(py o.ring c.data).2≠0 then((py o.ring c.data).2,af) else(0,bC af {o with ring:=(py o.ring c.data).1}))] at hV
 obtain⟨Q,hQ⟩: ∃Q:aa->Prop,∀h',Q h'↔RE h rb rt ah V.2 h':=⟨_,fun _=>Iff.rfl⟩
 suffices hu: ∃h',al P 81 [.ptr rb 0, .int .i64 t, .agg (c.c aC)] h (.int .i64 V.1) h'/\Q h' by
  obtain⟨h',c1,q⟩:=hu
  exact⟨h',al.au (by simp only[AV.a8,AV.strip,xm];exact c1),(hQ _).1 q⟩
 refine ok.dr c81 ?_
 simp+decide only[sv,c81,ayo,ed]
 generalize hY:aa.at _ _ _=Y
 have oY:Old h Y:=by rw[<-hY];exact(Old.refl h).at (ak _)
 have cY:cellsOf Y h.next=some (c.c aC):=by rw[<-hY];exact aq (by simp[aa.at];try rfl)
 have nY:Y.next=h.next+1:=by rw[<-hY];simp[aa.at]
 clear hY
 simp only[ed] at cY
 have KY:=K.old oY
 simp+decide only[sv,ayn,cY]
 refine ao (Be ok KY ht (kind:=4) k.id) ?_
 have hm:=Br (l:=ah[t].ai) (id:=c.id) (kind:=4) K
 generalize dM af ah[t].ai c.id 4=R at*
 obtain⟨o,e⟩:=R
 simp only at hm hV
 simp+decide only[sv,Ob.c]
 generalize hZ:aa.set _ _ _=Z
 have oZ:Old Y Z:=by rw[<-hZ];exact((Old.refl Y).at (ak _)).set (ak _)
 have zz:cellsOf Z Y.next=some (o.c aC):=by rw[<-hZ];exact aq (by simp[aa.set];rfl)
 clear hZ
 have z0:=oZ.cells (by omega) cY
 have KZ:=KY.old oZ
 have oo:=oY.trans oZ
 have same:V.2=af->RE h rb rt ah V.2 Z:=fun q=>by rw[q];exact⟨KZ,RF.old oo⟩
 by_cases he:e=0
 case neg=>
  have bP: ¬(e:Int)=0:=by omega
  rw[ax he] at hV
  simp+decide only[sv,adC,aym,bP]
  exact⟨by rw[hV];rfl,(hQ _).2 (same (by rw[hV]))⟩
 subst he
 rw[aj (fun q=>q rfl)] at hV
 obtain⟨om,pJ,oi⟩:=hm rfl
 obtain⟨s1,s2,s3⟩:=K.ks.ai om
 have cs:=Nw ok KZ ht (o:=o) (τ:=aC) s1 (by omega)
 simp only[Ob.c] at cs zz
 simp+decide only[sv,adC,ayl,zz]
 refine ao cs ?_
 cases hs:dW ah[t].ai o.ai with
 |false=>
  rw[hs,ax rfl] at hV
  simp+decide only[sv,ayk]
  exact⟨by rw[hV];rfl,(hQ _).2 (same (by rw[hV]))⟩
 |true=>
  rw[hs,aj (by simp)] at hV
  have hv:=K.ks.val o om
  have hr:=xj (xg hv.may pJ)
  have kd:=k.data
  simp+decide only[sv,ayj,z0,zz]
  refine ao (aGG ok (by omega) (fun b hb=>by grind) (by omega)) ?_
  generalize hW:py o.ring c.data=W at*
  obtain⟨r',e⟩:=W
  simp only at hV
  simp+decide only[sv,zz]
  generalize hG:aa.set _ _ _=G
  have oG:Old h G:=by rw[<-hG];exact oY.trans (oZ.set (ak _))
  have gg:cellsOf G Y.next=some (Ob.c {o with ring:=r'} aC):=by rw[<-hG];exact aq (by simp[aa.set];rfl)
  clear hG
  have KG:=K.old oG
  by_cases he:e=0
  case neg=>
   have bP: ¬(e:Int)=0:=by omega
   rw[ax he] at hV
   simp+decide only[sv,adB,adA,bP]
   exact⟨by rw[hV];rfl,(hQ _).2 (by rw[hV];exact⟨KG,RF.old oG⟩)⟩
  subst he
  rw[aj (fun q=>q rfl)] at hV
  have d7:jj {o with ring:=r'}:=by
   obtain⟨p1,p2⟩:=aj7 (b:=c.data) (xg hv.may pJ) (by rw[hW])
   rw[hW] at p1;cases p1
   exact OV hv pJ p2
  obtain⟨h9,cp,RP⟩:=CV ok KG (o:={o with ring:=r'}) (τ:=aC) d7 hl
  simp only[Ob.c] at cp gg
  simp+decide only[sv,adB,ayi,gg]
  refine ao cp ?_
  simp+decide only[sv,adA]
  exact⟨by rw[hV];rfl,(hQ _).2 (by rw[hV];exact RE.from oG RP)⟩
def aF7 (ok:aA P tb) (K:RK h rb rt ah af) (ht) {c:Cl} (aM:c.id<2^64):al P 82 [.ptr rb 0, .int .i64 t, .int .u64 c.id] h (.agg ((⟨t,(lI ah[t].ai af c).1,(lI ah[t].ai af c).2.1,(lI ah[t].ai af c).2.2⟩:Rp).c .au)) h:=by
 refine ok.df (rf:=c82) rfl (bT rfl) (by simp only[AV.bD,AV.cG,Rp.c,vx];rfl) ?_
 obtain⟨V,hV⟩: ∃V,V=lI ah[t].ai af c:=⟨_,rfl⟩
 rw[<-hV]
 obtain⟨W,hW⟩: ∃W,W=AV.agg ((⟨t,V.1,V.2.1,V.2.2⟩:Rp).c .au):=⟨_,rfl⟩
 rw[<-hW]
 unfold lI at hV
 simp+decide only[sv,c82,ayh]
 generalize hY:aa.at _ _ _=Y
 have oY:Old h Y:=by rw[<-hY];exact(Old.refl h).at (ak _)
 have cY:cellsOf Y h.next=some (fY.c .full):=by rw[<-hY];exact aq (by simp[aa.at];try rfl)
 have nY:Y.next=h.next+1:=by rw[<-hY];simp[aa.at]
 clear hY
 simp only[Rp.c] at cY
 have KY:=K.old oY
 simp+decide only[sv,ayg]
 refine ao (VG ok KY ht aM) ?_
 have hm:(di af ah[t].ai c.id).2=0->(di af ah[t].ai c.id).1∈af:=fun q=>(ix (Nx K.root q)).1
 generalize di af ah[t].ai c.id=R at*
 obtain⟨o,e⟩:=R
 simp only at hm hV
 simp+decide only[sv,Ob.c]
 generalize hZ:aa.set _ _ _=Z
 have oZ:Old Y Z:=by rw[<-hZ];exact((Old.refl Y).at (ak _)).set (ak _)
 have nZ:Z.next=Y.next+1:=by rw[<-hZ];simp[aa.at,aa.set]
 have zz:cellsOf Z Y.next=some (o.c aC):=by rw[<-hZ];exact aq (by simp[aa.set];rfl)
 clear hZ
 simp only[Ob.c] at zz
 simp+decide only[sv,ayf]
 refine ao (CT ok) ?_
 simp+decide only[sv,Rp.c]
 generalize hG:aa.set _ _ _=G
 have oG:Old Z G:=by rw[<-hG];exact((Old.refl Z).at (ak _)).set (ak _)
 have nG:G.next=Z.next+1:=by rw[<-hG];simp[aa.at,aa.set]
 have gg:cellsOf G Z.next=some ((⟨t,e,0,[]⟩:Rp).c .au):=by rw[<-hG];exact aq (by simp[aa.set];rfl)
 clear hG
 have g0:=(oZ.trans oG).cells (by omega) cY
 have g1:=oG.cells (by omega) zz
 have og:=(oY.trans (oZ.trans oG)).get
 simp only[Rp.c] at gg
 by_cases he:e=0
 case neg=>
  have bP: ¬(e:Int)=0:=by omega
  rw[ax he] at hV
  simp+decide only[sv,adz,aye,bP,g0,gg,aV]
  refine⟨by rw[hW,hV];rfl,fun b hb=>?_⟩
  grind
 subst he
 rw[aj (fun q=>q rfl)] at hV
 have om:=hm rfl
 obtain⟨s1,s2,s3⟩:=K.ks.ai om
 have hv:=K.ks.val o om
 obtain⟨kk,ph⟩: ∃kk:UInt8,kk=UInt8.ofNat o.kind.toNat:=⟨_,rfl⟩
 have w1:IntKind.wrap .u8 o.kind=kk.toNat:=by
  rw[ph,wrap_u8];unfold wG
  rcases y5 hv.may with e|e|e|e<;>rw[e]<;>rfl
 have e1:[[AV.int .u8 kk.toNat]]=BS [kk]:=rfl
 have cl:=Nq ok (h:=G) (b:=[kk]) (t:= .full) (l:=o.ai) (t':=aC 0) s2 (by simp)
 simp only[Lb.c] at cl
 simp+decide only[sv,adz,ayd,g1,w1,e1]
 refine ao cl ?_
 simp+decide only[sv,gg,xr]
 generalize hM:aa.set _ _ _=M
 have oM:Old Z M:=by rw[<-hM];exact oG.set (ak _)
 have mm:cellsOf M Z.next=some ((⟨t,0,0,[kk]++cE o.ai⟩:Rp).c .au):=by rw[<-hM];exact aq (by simp[aa.set];rfl)
 clear hM
 have m0:=(oZ.trans oM).cells (by omega) cY
 have m1:=oM.cells (by omega) zz
 have mg:=(oY.trans (oZ.trans oM)).get
 simp only[Rp.c] at mm
 have fin: ∀(ρ:Env) (H:aa) (n:Nat),ρ 6= .ptr h.next 0->ρ 9= .ptr Z.next 0->cellsOf H h.next=some (fY.c .full)->cellsOf H Z.next=some ((⟨t,0,n,[kk]++cE o.ai⟩:Rp).c .au)->(∀b,b<h.next->H.get b=h.get b)->V.2.1=n->exec P XK ρ H (iD (WP P .ret (um [.cell 6 true 4] W h)) (um [.cell 6 true 4] W h) .normal):=by
  intro ρ H n r6 r9 d0 d1 dg hn
  simp only[Rp.c] at d0 d1
  simp+decide only[sv,XK,r6,r9,d0,d1,aV]
  refine⟨?_,fun b hb=>?_⟩
  ·rw[hW,hn,hV,ph];simp only[AV.strip,AV.a8,iz];rfl
  grind
 have iF: ∀(n:Nat) b,b<h.next->(M.set Z.next (some (.cells ((⟨t,0,n,[kk]++cE o.ai⟩:Rp).c .au)))).get b=h.get b:=fun n b hb=>by
  simp only[aa.set];grind
 by_cases h2:o.kind=2
 ·have cB:=bW h2
  have hd:=qy hv.may h2
  have w2:IntKind.wrap .u64 (o.data.length:Int)=o.data.length:=eo (by omega)
  rw[ax h2] at hV
  simp+decide only[sv,Sa,R9,ayc,cB,m1,mm,aY,w2]
  refine fin _ _ o.data.length rfl rfl ?_ (aq (by simp[aa.set];rfl)) (iF _) (by rw[hV])
  have: ¬h.next=Z.next:=by omega
  unfold cellsOf at m0 ⊢;simp only[aa.set];rw[aj this];exact m0
 have cB:=bk h2
 rw[aj h2] at hV
 by_cases h1:o.kind=1
 ·have br:=bW h1
  have hp:ko o=true:=by have:=hv.may;unfold eS at this;grind
  unfold ko at hp
  rw[ax h1] at hp
  simp only[fV,rK] at hp
  have w2:IntKind.wrap .u64 o.aP=o.aP.toNat:=by rw[show o.aP=((o.aP.toNat:Nat):Int) by omega];exact eo (by omega)
  rw[ax h1] at hV
  generalize o.aP.toNat=qq at*
  simp+decide only[sv,Sa,R9,ady,am1,br,cB,m1,mm,w2]
  refine fin _ _ qq rfl rfl ?_ (aq (by simp[aa.set];rfl)) (iF _) (by rw[hV])
  have: ¬h.next=Z.next:=by omega
  unfold cellsOf at m0 ⊢;simp only[aa.set];rw[aj this];exact m0
 ·have br:=bk h1
  rw[aj h1] at hV
  simp+decide only[sv,Sa,R9,ady,br,cB,m1,xr]
  exact fin _ _ 0 rfl rfl m0 mm mg (by rw[hV])
def RF.free {H:aa} {m:Nat} (f:RF (H.clean m) h' rb rt) (h1:rb<H.next) (h2:rt<H.next):dY m H.next i h':=by
 intro j _ hj
 rw[f.2 _ (by show _<H.next+m;omega) (by omega) (by omega)]
 simp only[aa.clean]
 grind
def Xr (hi:i<l.length):(bg l)[i]? =some (l[i].c aC):=by simp[bg,bn hi]
def OW:(bg l).length=l.length:=by simp[bg]
def aIu:kL kR (l++[o])=kL kR l++if iA o.id kR=true then [] else [o]:=by
 unfold kL
 grind
def aGf (ok:aA P tb) (K:RK h rb rt ah af) (ht) {c:Cl} (aM:c.id<2^64) (hl:af.length<990): ∃h',al P 79 [.ptr rb 0, .int .i64 t, .int .u64 c.id] h (.int .i64 (kA ah[t].ai af c).1) h'/\RE h rb rt ah (kA ah[t].ai af c).2 h':=by
 obtain⟨V,hV⟩: ∃V,V=kA ah[t].ai af c:=⟨_,rfl⟩
 rw[<-hV]
 obtain⟨Q,hQ⟩: ∃Q:aa->Prop,∀h',Q h'↔RE h rb rt ah V.2 h':=⟨_,fun _=>Iff.rfl⟩
 suffices hu: ∃h',al P 79 [.ptr rb 0, .int .i64 t, .int .u64 c.id] h (.int .i64 V.1) h'/\Q h' by
  grind
 refine ok.dr Vi ?_
 unfold kA at hV
 by_cases h1:c.id=1
 ·have br:(c.id:Int)=1:=by omega
  rw[ax h1] at hV
  simp+decide only[sv,Vi,adG,adF,ayB,br]
  exact⟨by rw[hV];rfl,(hQ _).2 (by rw[hV];exact⟨K,RF.old (Old.refl h)⟩)⟩
 have br: ¬(c.id:Int)=1:=by omega
 rw[aj h1] at hV
 simp+decide only[sv,Vi,adG,adF,ayA,br]
 refine ao (VG ok K ht aM) ?_
 have yN:=N4 (l:=ah[t].ai) K.root h1
 generalize di af ah[t].ai c.id=R at*
 obtain⟨o,e⟩:=R
 simp only at yN hV
 simp+decide only[sv,Ob.c]
 generalize hZ:aa.set _ _ _=Z
 have oZ:Old h Z:=by rw[<-hZ];exact((Old.refl h).at (ak _)).set (ak _)
 have nZ:Z.next=h.next+1:=by rw[<-hZ];simp[aa.at,aa.set]
 have zz:cellsOf Z h.next=some (o.c aC):=by rw[<-hZ];exact aq (by simp[aa.set];rfl)
 clear hZ
 have KZ:=K.old oZ
 by_cases he:e=0
 case neg=>
  have bP: ¬(e:Int)=0:=by omega
  rw[ax he] at hV
  simp+decide only[sv,adE,ayz,bP]
  exact⟨by rw[hV];rfl,(hQ _).2 (by rw[hV];exact⟨KZ,RF.old oZ⟩)⟩
 subst he
 rw[aj (fun q=>q rfl)] at hV
 obtain⟨ho,b,hb,gw,jZ⟩:=yN rfl
 rw[hb,iQ] at hV
 have om:=(ix ho).1
 have bm:=(ix hb).1
 have bid:=(ix hb).2
 have v:=K.ks.val o om
 have vb:=K.ks.val b bm
 obtain⟨s1,s2,s3⟩:=K.ks.ai bm
 obtain⟨i1,qZ,f1,f2⟩: ∃i,∃hi:i<af.length,iU (fun o=>o.id==cR c.id) af=(i:Int)/\a9 af (cR c.id)=some af[i]:=by
  rcases Wa (l:=af) (id:=cR c.id) with q|⟨_,q⟩
  ·exact q
  grind
 have f1':iU (fun o:Ob=>o.id==cR c.id) af=(i1:Int):=f1
 have MX:=Xr qZ
 have afv:(0:Int)<=i1:=by omega
 rw[hb] at f2
 cases f2
 have hnp:=vb.ok.id
 rw[bid] at hnp
 generalize af[i1]=b at*
 obtain⟨tt,g⟩:=KZ.top
 have y0:cellsOf (Z.clean 12) rb=_:=(Old.refl Z).clean.cells KZ.l1 (aq g)
 have l1:=KZ.l1
 simp only[Ob.c] at MX
 simp+decide only[sv,adE]
 refine jk 8 12 rfl (by omega) rfl ?_
 simp+decide only[sv,ayy,y0,l1,kD]
 refine dh (aiz ok aM) (ba (ak _)) ?_
 simp+decide only[sv]
 refine dh (VF ok (KZ.old (Old.refl Z).clean) (id:=cR c.id)) (ba (ak _)) ?_
 simp+decide only[sv,f1',MX,afv,xr]
 refine⟨fun j j1 j2=>by omega,?_⟩
 generalize hG:aa.set _ _ _=G
 have oG:Old Z G:=by rw[<-hG];exact(((Old.refl Z).clean).at (by omega)).set (by omega)
 have nG:G.next=Z.next+12:=by rw[<-hG];simp only[aa.set,aa.at,aa.clean];omega
 have gg:cellsOf G (Z.next+10)=some (b.c aC):=by rw[<-hG];exact aq (by simp[aa.set];rfl)
 clear hG
 have KG:=KZ.old oG
 have g0:=oG.cells (by omega) zz
 have cb:=Nw ok KG ht (o:=b) (τ:=aC) s1 (by omega)
 simp only[Ob.c] at gg cb
 simp+decide only[sv,ayx,gg]
 refine ao cb ?_
 cases hs:dW ah[t].ai b.ai with
 |false=>
  rw[hs,ax rfl] at hV
  simp+decide only[sv,ayw]
  exact⟨by rw[hV];rfl,(hQ _).2 (by rw[hV];exact⟨KG,RF.old (oZ.trans oG)⟩)⟩
 |true=>
  rw[hs,aj (by simp)] at hV
  have hlen:=K.len
  simp+decide only[sv,ayv,am7]
  let J:Nat->Env->aa->Prop:=fun i ρ H=>Old G H/\App G H (ρ 10) (bg (kL c.id (af.take i)))/\ρ 0= .ptr rb 0/\ρ 2= .int .u64 c.id/\ρ 7= .ptr h.next 0/\ρ 9= .ptr (Z.next+10) 0
  refine eQ 11 0 af.length (by omega) (bM _) J ?_ ?_ ⟨Old.refl G,App.nil G G,rfl,rfl,rfl,rfl⟩ rfl
  ·rintro i ρ H ⟨eV,ha,r0,r2,r7,r9⟩ gd-hi av aK hw
   have KH:=KG.old eV
   obtain⟨t2,g2⟩:=KH.top
   have c2:=aq g2
   have gi:=Xr hi
   have Hs:=(K.ks.val _ (bw hi)).ok.id
   have yH:=aIu (kR:=c.id) (l:=af.take i) (o:=af[i])
   rw[<-lN hi] at yH
   have hwl:(kL c.id (af.take i)).length<=i:=fm (GD _ _) (by grind)
   obtain⟨t0,bK,_⟩:=id ha
   generalize af[i]=x at*
   simp only[Ob.c] at gi
   simp+decide only[sv,XM,am6,r0,r2,gd,c2,OW,av,aK,gi]
   refine ao (aFb ok Hs) ?_
   cases gP:iA x.id c.id with
   |true=>
    rw[gP,ax rfl,fE] at yH
    simp+decide only[sv,XL,gd,hw]
    exact⟨eV,by rw[yH];exact ha,r0,r2,r7,r9⟩
   |false=>
    rw[gP,aj (by simp)] at yH
    obtain⟨v1,br,a1,a2,a3,_⟩:=App.more (E:=DL) (l:=kL c.id (af.take i)) ha eV 216 13 [x] [x.c aC] rfl rfl (by grind) (by decide)
    rw[bK] at a1
    simp only[Ob.c] at a1
    simp+decide only[sv,am5,XL,r0,bK,gd,c2,aK,gi,hw,a1]
    exact⟨a3,by rw[yH];exact a2,r0,r2,r7,r9⟩
  ·rintro ρ H ⟨eV,ha,r0,r2,r7,r9⟩ gd av
   rw[bX (ak _)] at ha
   have KH:=KG.old eV
   obtain⟨t2,g2⟩:=KH.top
   have c2:=aq g2
   obtain⟨t0,bK,_⟩:=id ha
   simp+decide only[sv,XM,am4,r0,bK,gd,c2,OW,av,xr]
   generalize hM:aa.set _ _ _=M
   have pd: ∃r,a9 (kL c.id af) 1=some r:=by
    obtain⟨r,hr⟩:=K.root
    have hm:=ix hr
    have uH:r∈kL c.id af:=List.mem_filter.2 ⟨hm.1,by
     rw[hm.2]
     have e:bu 1=[1]:=by decide
     unfold iA
     grind⟩
    have:=lE (N8 (kR:=c.id) K.ks.aQ) uH
    grind
   have hwl:(kL c.id af).length<=af.length:=GD _ _
   have KM:RK M rb rt ah (kL c.id af):=by
    rw[<-hM]
    refine KH.Lt ?_ ⟨t0,?_⟩ ?_ ⟨N8 K.ks.aQ,fun o ho=>K.ks.val o (List.mem_filter.1 ho).1⟩ pd (by omega)
    ·exact ak _
    ·simp[aa.set]
    ·simp only[aa.set];rw[aj (fun e=>K.ne e.symm)]
   have fM:RF h M rb rt:=by
    rw[<-hM]
    exact(RF.old (oZ.trans (oG.trans eV))).trans ⟨ak _,fun b _ q1 _=>by simp only[aa.set];rw[aj q1]⟩
   have m0:cellsOf M h.next=some (o.c aC):=by
    have:=eV.cells (by omega) g0
    rw[<-hM];unfold cellsOf at this ⊢;simp only[aa.set];rw[aj (by have:=K.l1;omega)];exact this
   have m1:cellsOf M (Z.next+10)=some (b.c aC):=by
    have:=eV.cells (by omega) gg
    rw[<-hM];unfold cellsOf at this ⊢;simp only[aa.set];rw[aj (by omega)];exact this
   have nM:Z.next+12<=M.next:=by rw[<-hM];show _<=H.next;have:=eV.next;omega
   clear hM
   have n0:h.next<M.next:=by omega
   have n1:Z.next+10<M.next:=by omega
   have x0:cellsOf (M.clean 6) h.next=_:=(Old.refl M).clean.cells n0 m0
   have x1:cellsOf (M.clean 6) (Z.next+10)=_:=(Old.refl M).clean.cells n1 m1
   have Kq:cost o<2^60/\ -(2^60)<cost o:=by
    have hv:=Fg v.may v.norm
    unfold cost
    omega
   have hvc:=Fg v.may v.norm
   have hub: -(2^60)<=b.used/\b.used<2^60:=by
    have hp:ko b=true:=by have:=vb.may;unfold eS at this;grind
    unfold ko at hp
    grind
   have cc:=VO ok (h:=M.clean 6) (o:=o) (t:=aC) (by omega) (by omega)
   have cs:=aHM ok (h:=M.clean 6) (o:=b) (t:=aC) (c:=cost o) hub (by omega)
   obtain⟨h9,cp,RP,rf⟩:=CV ok (KM.old ((Old.refl M).clean (n:=6))) (o:=kY b (cost o)) (τ:=aC) (amj vb gw) (by omega)
   simp only[Ob.c] at cc cs cp x0 x1
   refine jk 4 6 rfl (by omega) rfl ?_
   simp+decide only[sv,am3,r0,r7,r9,x0,x1,n0,n1,kD]
   refine dh cc (ba (ak _)) ?_
   simp+decide only[sv,sR]
   refine dX cs (ba (ak _)) ?_
   simp+decide only[sv]
   refine dX cp (rf.free KM.l1 KM.l2) ?_
   simp+decide only[sv,am2]
   exact⟨by rw[hV];rfl,(hQ _).2 (by rw[hV];exact⟨RP,fM.trans ((RF.old (Old.refl M).clean).trans rf)⟩)⟩
def zg (R:Env->Prop) (hr:R ρ) (hw: ∀ρ,R ρ->exec P os ρ h K):exec P os ρ h K:=hw ρ hr
def rU (l:Lb) (af:List Ob) (c:Cl):Nat×Nat×List Ob:=if names c.ai=false then(4,0,af) else l8 l af c
def aMy {c:Cl}:rU l af c=if names c.ai=false then(4,0,af) else if c.kind<1\/4<c.kind then(8,0,af) else if(dM af l c.id 1).2≠0 then((dM af l c.id 1).2,0,af) else if dW l (dM af l c.id 1).1.ai=false then(6,0,af) else xw l af c (dM af l c.id 1).1:=by
 unfold rU l8
 rw[<-BD (fun e=>(e,0,af)) (fun o=>xw l af c o)]
theorem FB {c:Cl} {id:Nat}:(dZ c id).c τ=[.int .u64 id, .int .i64 c.kind, .int .u8 c.ai.d, .vs (aB.R c.ai.ps) (τ 0), .vs [] (τ 1), .vs [] (τ 2), .vs [] (τ 3), .int .i64 (if c.kind=1 then c.n else 0), .int .i64 0, .int .i64 (if c.kind=1 then 1 else 0), .vs (BS (if c.kind=2 then c.data else [])) (τ 4), .vs ((ay .u16).R (if c.kind=3 then c.bf else [])) (τ 5), .vs [] (τ 6)]:=rfl
def aGc (ok:aA P tb) (K:RK h rb rt ah af) (ht) {c:Cl} (k:ik c) (CG:dF c.ai=true) (EA:lL c.bf=true) (hl:af.length<980): ∃h',al P 77 [.ptr rb 0, .int .i64 t, .agg (c.c τ)] h (.aE [.int .u64 (rU ah[t].ai af c).2.1, .int .i64 (rU ah[t].ai af c).1]) h'/\RE h rb rt ah (rU ah[t].ai af c).2.2 h':=by
 obtain⟨V,hV⟩: ∃V,V=rU ah[t].ai af c:=⟨_,rfl⟩
 rw[<-hV]
 obtain⟨Q,hQ⟩: ∃Q:aa->Prop,∀h',Q h'↔RE h rb rt ah V.2.2 h':=⟨_,fun _=>Iff.rfl⟩
 suffices hu: ∃h',al P 77 [.ptr rb 0, .int .i64 t, .agg (c.c aC)] h (.aE [.int .u64 V.2.1, .int .i64 V.1]) h'/\Q h' by
  obtain⟨h',c1,q⟩:=hu
  exact⟨h',al.au (by simp only[AV.a8,AV.strip,xm];exact c1),(hQ _).1 q⟩
 refine ok.dr Vj ?_
 rw[aMy] at hV
 obtain⟨W,hW⟩: ∃W,W=AV.aE [.int .u64 V.2.1, .int .i64 V.1]:=⟨_,rfl⟩
 rw[<-hW]
 have ls:=Of CG
 have l16:=k.GM
 simp+decide only[sv,Vj,ayI,ed]
 generalize hY:aa.at _ _ _=Y
 have oY:Old h Y:=by rw[<-hY];exact(Old.refl h).at (ak _)
 have cY:cellsOf Y h.next=some (c.c aC):=by rw[<-hY];exact aq (by simp[aa.at];try rfl)
 have nY:Y.next=h.next+1:=by rw[<-hY];simp[aa.at]
 clear hY
 simp only[ed] at cY
 have KY:=K.old oY
 have fC: ∀(n:Nat) (H:aa),Old h H->V=(n,0,af)->W= .aE [.int .u64 0, .int .i64 n]/\Q H:=fun n H o q=>⟨by rw[hW,q];rfl,(hQ _).2 (by rw[q];exact⟨K.old o,RF.old o⟩)⟩
 simp+decide only[sv,ayH,cY]
 refine ao (VD ok (l:=c.ai) (t:= .au) (by omega)) ?_
 cases hn:names c.ai with
 |false=>
  rw[ax hn] at hV
  simp+decide only[sv,ayG]
  have:=fC 4 Y oY hV
  exact⟨by rw[this.1];rfl,this.2⟩
 |true=>
 rw[aj (by simp[hn])] at hV
 by_cases k1:c.kind<1
 ·rw[ax (.inl k1)] at hV
  simp+decide only[sv,Se,adO,cY,k1]
  have:=fC 8 Y oY hV
  exact⟨by rw[this.1];rfl,this.2⟩
 by_cases k4:4<c.kind
 ·rw[ax (.inr k4)] at hV
  simp+decide only[sv,Se,adO,cY,k1,k4]
  have:=fC 8 Y oY hV
  exact⟨by rw[this.1];rfl,this.2⟩
 rw[aj (by omega)] at hV
 simp+decide only[sv,Se,ayF,cY,k1,k4]
 refine ao (Be ok KY ht (kind:=1) k.id) ?_
 have hm:=Br (l:=ah[t].ai) (id:=c.id) (kind:=1) K
 generalize dM af ah[t].ai c.id 1=R at*
 obtain⟨o,e⟩:=R
 simp only at hm hV
 simp+decide only[sv,Ob.c]
 generalize hZ:aa.set _ _ _=Z
 have oZ:Old Y Z:=by rw[<-hZ];exact((Old.refl Y).at (ak _)).set (ak _)
 have nZ:Z.next=Y.next+1:=by rw[<-hZ];simp[aa.at,aa.set]
 have zz:cellsOf Z Y.next=some (o.c aC):=by rw[<-hZ];exact aq (by simp[aa.set];rfl)
 clear hZ
 have z0:=oZ.cells (by omega) cY
 have KZ:=KY.old oZ
 have oo:=oY.trans oZ
 by_cases he:e=0
 case neg=>
  have bP: ¬(e:Int)=0:=by omega
  rw[ax he] at hV
  simp+decide only[sv,adN,Sd,Jq,O7,bP]
  have:=fC e Z oo hV
  exact⟨by rw[this.1];rfl,this.2⟩
 subst he
 rw[aj (fun q=>q rfl)] at hV
 obtain⟨om,pJ,oi⟩:=hm rfl
 obtain⟨s1,s2,s3⟩:=K.ks.ai om
 have cb:=Nw ok KZ ht (o:=o) (τ:=aC) s1 (by omega)
 have zz':=zz
 simp only[Ob.c] at cb zz'
 simp+decide only[sv,adN,zz']
 refine ao cb ?_
 cases hs:dW ah[t].ai o.ai with
 |false=>
  rw[hs,ax rfl] at hV
  simp+decide only[sv,ayE,Sd,Jq,O7]
  have:=fC 6 Z oo hV
  exact⟨by rw[this.1];rfl,this.2⟩
 |true=>
 rw[hs,aj (by simp)] at hV
 obtain⟨q1,q2,q3⟩:=K.ai ht
 obtain⟨r1,r2,r3,r4⟩:=K.row ht
 have hle:t*12+2<=(aI aH ah).flatten.length:=by omega
 have iZ:(t:Int)<(ah.length:Int):=by omega
 obtain⟨tt,g⟩:=KZ.top
 have l1:=KZ.l1
 have l2:=KZ.l2
 have n0:h.next<Z.next:=by omega
 have y0:cellsOf (Z.clean 12) rb=_:=(Old.refl Z).clean.cells KZ.l1 (aq g)
 have y1:cellsOf (Z.clean 12) rt=_:=(Old.refl Z).clean.cells KZ.l2 (aq KZ.aU)
 have y2:cellsOf (Z.clean 12) h.next=_:=(Old.refl Z).clean.cells n0 z0
 simp+decide only[sv,Sd]
 refine bq 12 rfl rfl ?_
 simp+decide only[sv,ayD,y0,y1,y2,hle,iZ,r3]
 refine dX (aFO ok (a:=ah[t].ai) (b:=c.ai) (t:= .au) (t':= .au) q1 ls (by omega) (by omega)) (ba (ak _)) ?_
 unfold xw at hV
 have oC:=oo.clean (n:=12)
 have y3:cellsOf (Z.clean 12) Y.next=_:=(Old.refl Z).clean.cells (by omega) zz
 have nC:(Z.clean 12).next=Z.next+12:=rfl
 have KC:=KZ.old ((Old.refl Z).clean (n:=12))
 generalize Z.clean 12=C at*
 generalize aTg:vD ah[t].ai c.ai=lm at*
 by_cases he:lm=0
 case neg=>
  have bP: ¬(lm:Int)=0:=by omega
  rw[ax he] at hV
  simp+decide only[sv,Jq,O7,bP]
  have:=fC lm C oC hV
  exact⟨by rw[this.1];rfl,this.2⟩
 subst he
 rw[aj (fun q=>q rfl)] at hV
 simp+decide only[sv,Jq,ann,y2]
 generalize hM:aa.set _ _ _=M
 have oM:Old C M:=by rw[<-hM];exact((Old.refl C).at (ak _)).set (ak _)
 have nM:M.next=C.next+1:=by rw[<-hM];simp[aa.at,aa.set]
 have mm:cellsOf M C.next=some [.int .u64 0, .int .i64 c.kind, .int .u8 c.ai.d, .vs (aB.R c.ai.ps) .au, .vs [] .full, .vs [] .full, .vs [] .full, .int .i64 0, .int .i64 0, .int .i64 0, .vs [] .full, .vs [] .full, .vs [] .full]:=by rw[<-hM];exact aq (by simp[aa.set])
 clear hM
 have m0:=oM.cells (by omega) y2
 have m1:=oM.cells (by omega) y3
 have Un:=oC.trans oM
 have KM:=KC.old oM
 have Bs:h.next<Y.next/\Y.next<C.next/\C.next<M.next:=by omega
 refine zg (fun ρ=>ρ 0= .ptr rb 0/\ρ 1= .int .i64 t/\ρ 5= .ptr h.next 0/\ρ 8= .ptr Y.next 0/\ρ 10= .ptr C.next 0) ⟨rfl,rfl,rfl,rfl,rfl⟩ ?_
 generalize C.next=oc at*
 generalize Y.next=bc at*
 clear y0 y1 y2 y3 zz z0 cb g KZ KC oZ oo oC l1 l2 n0 nC nZ oM
 rintro ρ ⟨r0,Mk,r5,r8,bK⟩
 generalize hK:jO 0 _=K0
 have ret: ∀(n:Nat) (ρ:Env) (H:aa),Old h H->V=(n,0,af)->ρ 6= .int .u64 0->ρ 7= .int .i64 n->K0 .ret ρ H:=by
  intro n ρ H o q r6 r7
  rw[<-hK]
  have:=fC n H o q
  simp+decide only[sv,r7]
  refine⟨?_,this.2⟩
  rw[this.1]
  simp only[ft,C8,r6,r7];rfl
 have fin: ∀(ρ:Env) (H:aa) (τ':Nat->aL),Old h H->bc<oc->oc<H.next->cellsOf H bc=some (o.c aC)->cellsOf H oc=some ((dZ c 0).c τ')->ny ah[t].ai c=0-> ¬63<o.next->ρ 0= .ptr rb 0->ρ 8= .ptr bc 0->ρ 10= .ptr oc 0->K0 .normal ρ H:=by
  intro ρ H τ' oH lbo lo cb co hf pS r0 r8 bK
  rw[<-hK]
  rw[aj (fun q=>q hf),aj pS] at hV
  have v:=K.ks.val o om
  have KH:=K.old oH
  have Hs:=v.ok.id
  have ke:=cb
  have co':=co
  rw[FB] at co'
  simp only[Ob.c] at ke
  simp+decide only[sv,ank,r8,ke]
  refine ao (aHN ok (n:=o.next) Hs) ?_
  have hnf:=Jf (b:=o.id) (n:=o.next)
  generalize iW o.id o.next=N at*
  obtain⟨id,e⟩:=N
  simp only at hV hnf
  simp+decide only[sv,bK,co',xr]
  generalize hG:aa.set _ _ _=G
  have oG:Old h G:=by rw[<-hG];exact oH.set (by omega)
  have nG:H.next<=G.next:=by rw[<-hG];exact ak _
  have gb:cellsOf G bc=some (o.c aC):=by
   rw[<-hG];unfold cellsOf at cb ⊢;simp only[aa.set];grind
  have go:cellsOf G oc=some ((dZ c id).c τ'):=by rw[<-hG,FB];exact aq (by simp[aa.set])
  clear hG
  have n0:bc<G.next:=by omega
  have n1:oc<G.next:=by omega
  have hb:=fC
  by_cases he:e=0
  case neg=>
   have bP: ¬(e:Int)=0:=by omega
   rw[ax he] at hV
   simp+decide only[sv,XP,anj,bP]
   have:=fC e G oG hV
   exact⟨by rw[this.1];rfl,this.2⟩
  subst he
  rw[aj (fun q=>q rfl)] at hV
  obtain⟨n,e1,e2,e3,e4,e5,e6,e7,e8,e9⟩:=hnf rfl
  have vk:jj (dZ c id):=amE (l:=ah[t].ai) k (show id<2^64 by rw[e5];omega) (by grind) CG aTg hf EA (by omega)
  have hvc:=Fg vk.may vk.norm
  have UU:0<=cost (dZ c id)/\cost (dZ c id)<2^60:=by
   unfold cost
   omega
  have hp:ko o=true:=by have:=v.may;unfold eS at this;grind
  unfold ko at hp
  rw[ax pJ] at hp
  simp only[fV,rK] at hp
  have x0:cellsOf (G.clean 9) bc=_:=(Old.refl G).clean.cells n0 gb
  have x1:cellsOf (G.clean 9) oc=_:=(Old.refl G).clean.cells n1 go
  have cc:=VO ok (h:=G.clean 9) (o:=dZ c id) (t:=τ') (by omega) (by omega)
  have ca:=aHQ ok (h:=G.clean 9) (o:=o) (t:=aC) (c:=cost (dZ c id)) (by omega) (by omega) (by omega)
  simp only[Ob.c] at x0 x1 cc ca
  simp+decide only[sv,XP]
  refine jk 3 9 rfl (by omega) rfl ?_
  simp+decide only[sv,ani,r8,bK,x0,x1,n0,n1,kD]
  refine dh cc (ba (ak _)) ?_
  simp+decide only[sv,sR]
  refine dX ca (ba (ak _)) ?_
  generalize hA:mu o (cost (dZ c id))=A at*
  obtain⟨o2,e⟩:=A
  simp only at hV
  simp+decide only[sv,r8,x0]
  refine⟨(jx n0).2 (ba (ak _)),?_⟩
  generalize hB:aa.set _ _ _=B
  have oB:Old h B:=by rw[<-hB];exact oG.clean.set (by omega)
  have bb:cellsOf B bc=some (o2.c aC):=by rw[<-hB];exact aq (by simp[aa.set];rfl)
  have bo:cellsOf B oc=some ((dZ c id).c τ'):=by
   have:cellsOf (G.clean 9) oc=some ((dZ c id).c τ'):=x1
   rw[<-hB];unfold cellsOf at this ⊢;simp only[aa.set];grind
  have nB:oc<B.next:=by rw[<-hB];show oc<G.next+9;omega
  clear hB x0 x1 cc ca
  by_cases he:e=0
  case neg=>
   have bP: ¬(e:Int)=0:=by omega
   rw[ax he] at hV
   simp+decide only[sv,XO,anh,bP]
   have:=fC e B oB hV
   exact⟨by rw[this.1];rfl,this.2⟩
  subst he
  rw[aj (fun q=>q rfl)] at hV
  have AL:o2={o with used:=o.used+cost (dZ c id)}/\cost (dZ c id)<=o.aP-o.used:=by
   unfold mu at hA
   grind
  obtain⟨rfl,hq⟩:=AL
  have vb:jj {o with used:=o.used+cost (dZ c id),next:=o.next+1}:=amk v pJ UU.1 hq (by omega)
  have w1:IntKind.wrap .i64 (o.next+1)=o.next+1:=bj (by omega) (by omega)
  simp only[Ob.c] at bb
  simp+decide only[sv,XO,ang,r8,bb,w1]
  generalize hD:aa.set _ _ _=D
  have oD:Old h D:=by rw[<-hD];exact oB.set (by omega)
  have db:cellsOf D bc=some (Ob.c {o with used:=o.used+cost (dZ c id),next:=o.next+1} aC):=by rw[<-hD];exact aq (by simp[aa.set];rfl)
  have do_:cellsOf D oc=some ((dZ c id).c τ'):=by
   rw[<-hD];unfold cellsOf at bo ⊢;simp only[aa.set];grind
  have nD:oc<D.next:=by rw[<-hD];exact nB
  clear hD
  have KD:=K.old oD
  obtain⟨F,cp,RP,rf⟩:=CV ok KD (o:={o with used:=o.used+cost (dZ c id),next:=o.next+1}) (τ:=aC) vb (by omega)
  have ol:=WM (o:={o with used:=o.used+cost (dZ c id),next:=o.next+1}) (l:=af)
  have k1':=K.l1
  have k2':=K.l2
  have fo:cellsOf F oc=some ((dZ c id).c τ'):=by
   unfold cellsOf at do_ ⊢;rw[rf.2 oc nD (by omega) (by omega)];exact do_
  obtain⟨F2,cp2,RP2,HI⟩:=CV ok RP (o:=dZ c id) (τ:=τ') vk (by omega)
  have fo2:cellsOf F2 oc=some ((dZ c id).c τ'):=by
   unfold cellsOf at fo ⊢;rw[HI.2 oc (by have:=rf.1;omega) (by omega) (by omega)];exact fo
  simp only[Ob.c] at db cp cp2 fo fo2
  simp+decide only[sv,anf,r0,r8,db]
  refine ao cp ?_
  simp+decide only[sv,ane,r0,bK,fo]
  refine ao cp2 ?_
  simp+decide only[sv,anc,bK,fo2]
  exact⟨by rw[hW,hV];rfl,(hQ _).2 (by rw[hV];exact⟨RP2,(RF.old oD).trans (rf.trans HI)⟩)⟩
 clear hK
 have CJ:ny ah[t].ai c=if c.kind=1/\ ¬(0<=c.n/\c.n<=400) then 1 else if c.kind=2/\64<c.data.length then 12 else if c.kind=3/\x9 ah[t].ai c.bf=false then 5 else 0:=rfl
 have aSN:ny ah[t].ai c=0->63<o.next->V=(9,0,af):=fun q1 q2=>by grind
 have RJ: ∀n,ny ah[t].ai c=n->n≠0->V=(n,0,af):=fun n q1 q2=>by grind
 have n0:h.next<M.next:=by omega
 have n1:bc<M.next:=by omega
 have x0:cellsOf (M.clean 19) h.next=_:=(Old.refl M).clean.cells n0 m0
 have x1:cellsOf (M.clean 19) bc=_:=(Old.refl M).clean.cells n1 m1
 have x2:cellsOf (M.clean 19) oc=_:=(Old.refl M).clean.cells (by omega) mm
 simp only[Ob.c] at x1
 have oC:Old h (M.clean 19):=Un.clean
 have n2:oc<(M.clean 19).next:=by show oc<M.next+19;omega
 have Uc:cellsOf (M.clean 19) bc=some (o.c aC):=x1
 have nb: ∀cs,cellsOf ((M.clean 19).set oc cs) bc=some (o.c aC):=fun cs=>by
  have:=Uc
  unfold cellsOf at this ⊢;simp only[aa.set];grind
 have os: ∀cs,Old h ((M.clean 19).set oc cs):=fun cs=>oC.set (by omega)
 have tl: ∀ρ:Env,ny ah[t].ai c=0->ρ 0= .ptr rb 0->ρ 5= .ptr h.next 0->ρ 8= .ptr bc 0->ρ 10= .ptr oc 0->exec P Dg ρ (M.clean 19) (iD (WP P (.cond (Am.t 104) (.seq (.cA XT) .ret) (.seq (.cA FN) (.cond (Am.t 108) (.cA XS) (.seq (.cA Jo) (.cond (Am.t 116) (.cA XR) (.seq (.cA O6) (.cond (Am.t 125) (.cA XQ) .skip))))))) K0) K0 .normal):=by
  intro ρ hf r0 r5 r8 bK
  by_cases pS:63<o.next
  ·simp+decide only[sv,Dg,XT,r8,x1,pS]
   exact ret 9 _ _ oC (aSN hf pS) rfl rfl
  by_cases h1:c.kind=1
  ·have e1:=bW h1
   simp+decide only[sv,Dg,FN,XS,r5,r8,bK,x0,x1,x2,pS,e1,xr]
   refine fin _ _ (fun i=>if i=0 then .au else .full) (os _) (by omega) n2 (nb _) (aq ?_) hf pS r0 r8 bK
   rw[FB,ax h1,ax h1,aj (show¬c.kind=2 by omega),aj (show¬c.kind=3 by omega)]
   simp[aa.set];exact⟨rfl,rfl⟩
  have e1:=bk h1
  by_cases h2:c.kind=2
  ·have e2:=bW h2
   have hd:=k.data
   obtain⟨v1,G,a1,a2,a3,a4⟩:=(App.start dt (M.clean 19) (M.clean 19)).more (Old.refl _) 1 1 c.data (BS c.data) rfl rfl (by grind) (by decide)
   have hh:bQ 1 (BS c.data)=true:=iM
   obtain⟨tv,rfl,_⟩:=id a2
   rw[show(M.clean 19).next=M.next+19 from rfl] at a1
   have x3:cellsOf G oc=_:=a3.cells n2 x2
   simp+decide only[sv,Dg,FN,Jo,XR,r5,r8,bK,x0,x1,x3,pS,e1,e2,hh,np,a1]
   refine fin _ _ (fun i=>if i=0 then .au else if i=4 then tv else .full) ((oC.trans a3).set (show h.next<=oc by omega)) (by omega) (by show oc<G.next;have:=a3.next;omega) ?_ (aq ?_) hf pS r0 r8 bK
   ·have:=a3.cells (by omega) Uc
    unfold cellsOf at this ⊢;simp only[aa.set];grind
   ·rw[FB,aj h1,aj h1,ax h2,aj (show¬c.kind=3 by omega)]
    simp[aa.set];exact⟨rfl,rfl⟩
  have e2:=bk h2
  by_cases h3:c.kind=3
  ·have e3:=bW h3
   have hd:=k.bf
   obtain⟨v1,G,a1,a2,a3,a4⟩:=(App.start (ay .u16) (M.clean 19) (M.clean 19)).more (Old.refl _) 2 1 c.bf ((ay .u16).R c.bf) rfl rfl (by grind) (by decide)
   have hh:bQ 1 ((ay .u16).R c.bf)=true:=(ay .u16).fl
   obtain⟨tv,rfl,_⟩:=id a2
   rw[show(M.clean 19).next=M.next+19 from rfl] at a1
   have x3:cellsOf G oc=_:=a3.cells n2 x2
   simp+decide only[sv,Dg,FN,Jo,O6,XQ,r5,r8,bK,x0,x1,x3,pS,e1,e2,e3,hh,np,a1]
   refine fin _ _ (fun i=>if i=0 then .au else if i=5 then tv else .full) ((oC.trans a3).set (show h.next<=oc by omega)) (by omega) (by show oc<G.next;have:=a3.next;omega) ?_ (aq ?_) hf pS r0 r8 bK
   ·have:=a3.cells (by omega) Uc
    unfold cellsOf at this ⊢;simp only[aa.set];grind
   ·rw[FB,aj h1,aj h1,aj h2,ax h3]
    simp[aa.set];rfl
  have e3:=bk h3
  simp+decide only[sv,Dg,FN,Jo,O6,r5,r8,x0,x1,pS,e1,e2,e3]
  refine fin _ _ (fun i=>if i=0 then .au else .full) oC (by omega) n2 Uc ?_ hf pS r0 r8 bK
  rw[x2,FB,aj h1,aj h1,aj h2,aj h3];rfl
 by_cases h1:c.kind=1
 ·have e1:=bW h1
  have e2:(c.kind=2)=False:=bk (by omega)
  have e3:(c.kind=3)=False:=bk (by omega)
  by_cases tJ:c.n<0
  ·have:=RJ 1 (by grind) (by decide)
   simp+decide only[sv,BH,XU,r5,m0,e1,tJ]
   exact ret 1 _ _ Un this rfl rfl
  by_cases MI:400<c.n
  ·have:=RJ 1 (by rw[CJ,ax ⟨h1,by omega⟩]) (by decide)
   simp+decide only[sv,BH,XU,r5,m0,e1,tJ,MI]
   exact ret 1 _ _ Un this rfl rfl
  have hf:ny ah[t].ai c=0:=by rw[CJ,aj (by omega),aj (by omega),aj (by omega)]
  simp+decide only[sv,BH,FO,r5,m0,e1,e2,tJ,MI]
  refine m6 ?_
  simp+decide only[sv,Jp,r5,x0,n0,e3]
  exact⟨trivial,tl _ hf r0 r5 r8 bK⟩
 have e1:=bk h1
 by_cases h2:c.kind=2
 ·have e2:=bW h2
  have e3:(c.kind=3)=False:=bk (by omega)
  by_cases hd:64<c.data.length
  ·have jh:(64:Int)<(c.data.length:Int):=by omega
   have:=RJ 12 (by rw[CJ,aj (by omega),ax ⟨h2,hd⟩]) (by decide)
   simp+decide only[sv,BH,FO,anm,r5,m0,e1,e2,aY,jh]
   exact ret 12 _ _ Un this rfl rfl
  have jh: ¬(64:Int)<(c.data.length:Int):=by omega
  have hf:ny ah[t].ai c=0:=by rw[CJ,aj (by omega),aj (by omega),aj (by omega)]
  simp+decide only[sv,BH,FO,r5,m0,e1,e2,aY,jh]
  refine m6 ?_
  simp+decide only[sv,Jp,r5,x0,n0,e3]
  exact⟨trivial,tl _ hf r0 r5 r8 bK⟩
 have e2:=bk h2
 by_cases h3:c.kind=3
 ·have e3:=bW h3
  obtain⟨tt,g⟩:=KM.top
  have l1:=KM.l1
  have l2:=KM.l2
  have y0:cellsOf (M.clean 19) rb=_:=(Old.refl M).clean.cells KM.l1 (aq g)
  have y1:cellsOf (M.clean 19) rt=_:=(Old.refl M).clean.cells KM.l2 (aq KM.aU)
  have d9:=k.bf
  have elo:x9 ah[t].ai c.bf=(c.bf.all fun x=>(jU ah[t].ai 0).contains x):=aHl q1 (K.kv _ (bw ht)).d c.bf
  have hlv:(jU ah[t].ai 0).length<2^20:=by
   unfold jU;rw[fp];exact J0 (GD _ _) (by omega)
  have cl:=Ii ok (h:=M.clean 19) (l:=ah[t].ai) (t:= .au) (x:=0) (by omega)
  simp only[Lb.c] at cl
  simp+decide only[sv,BH,FO,r5,m0,e1,e2]
  refine m6 ?_
  simp+decide only[sv,Jp,r0,Mk,r5,x0,y0,y1,n0,l1,l2,hle,iZ,r3,e3]
  refine dh cl (ba (ak _)) ?_
  simp+decide only[sv]
  refine dh (aI7 ok (a:=c.bf) (b:=jU ah[t].ai 0) (by omega) (by omega)) (ba (ak _)) ?_
  rw[<-elo]
  cases i6:x9 ah[t].ai c.bf with
  |false=>
   have:=RJ 5 (by rw[CJ,aj (by omega),aj (by omega),ax ⟨h3,i6⟩]) (by decide)
   simp+decide only[sv,anl]
   exact ret 5 _ _ oC this rfl rfl
  |true=>
   have hf:ny ah[t].ai c=0:=by rw[CJ,aj (by omega),aj (by omega),aj (fun q=>by rw[i6] at q;cases q.2)]
   simp+decide only[sv,Vj]
   exact tl _ hf r0 r5 r8 bK
 have e3:=bk h3
 have hf:ny ah[t].ai c=0:=by rw[CJ,aj (by omega),aj (by omega),aj (by omega)]
 simp+decide only[sv,BH,FO,r5,m0,e1,e2]
 refine m6 ?_
 simp+decide only[sv,Jp,r5,x0,n0,e3]
 exact⟨trivial,tl _ hf r0 r5 r8 bK⟩
def aKk {c:Cl}:gz x af c done=if(dM af x.ai c.id 2).2≠0 then(true,(dM af x.ai c.id 2).2,x,af,0) else if eI x.ai (dM af x.ai c.id 2).1.ai=false then(true,6,x,af,0) else if(dM af x.ai c.to 2).2≠0 then(true,(dM af x.ai c.to 2).2,x,af,0) else if cM x.ai (dM af x.ai c.to 2).1.ai=false then(true,6,x,af,0) else if¬(0<=c.n/\c.n<=min ((dM af x.ai c.id 2).1.data.length:Int) (dM af x.ai c.to 2).1.data.length) then(true,11,x,af,0) else tD x af c done (dM af x.ai c.id 2).1 (dM af x.ai c.to 2).1:=by
 rw[show gz x af c done=_ from BD (fun e=>(true,e,x,af,0)) (fun fr=>if(bh af x.ai c.to 2 (cM x.ai)).2≠0 then(true,(bh af x.ai c.to 2 (cM x.ai)).2,x,af,0) else if¬(0<=c.n/\c.n<=min (fr.data.length:Int) (bh af x.ai c.to 2 (cM x.ai)).1.data.length) then(true,11,x,af,0) else tD x af c done fr (bh af x.ai c.to 2 (cM x.ai)).1)]
 rw[show∀fr:Ob,(if(bh af x.ai c.to 2 (cM x.ai)).2≠0 then(true,(bh af x.ai c.to 2 (cM x.ai)).2,x,af,0) else if¬(0<=c.n/\c.n<=min (fr.data.length:Int) (bh af x.ai c.to 2 (cM x.ai)).1.data.length) then(true,11,x,af,0) else tD x af c done fr (bh af x.ai c.to 2 (cM x.ai)).1)=_ from fun fr=>BD (fun e=>(true,e,x,af,0)) (fun to=>if¬(0<=c.n/\c.n<=min (fr.data.length:Int) to.data.length) then(true,11,x,af,0) else tD x af c done fr to)]
def RQ (h:aa) (rb rt:Nat) (R:Cr) (h':aa):Prop:=RE h rb rt R.ah R.af h'
def RK.same (K:RK h rb rt ah af) (hn:h.next<=h'.next) (e1:h'.get rb=h.get rb) (e2:h'.get rt=h.get rt):RK h' rb rt ah af:=by
 obtain⟨t,g⟩:=K.top
 exact⟨⟨t,by rw[e1,g]⟩,by rw[e2,K.aU],bJ K.l1 hn,bJ K.l2 hn,K.ne,K.ks,K.tv,K.kv,K.root,K.len⟩
def RE.kK (l1:rb<h.next) (l2:rt<h.next) (e:RE h rb rt ah af h1) (hi:h.next<=i) (b):RE h rb rt ah af (h1.set i b):=by
 have hz: ∀x,x≠i->(h1.set i b).get x=h1.get x:=fun x hx=>by simp only[aa.set];rw[aj hx]
 exact⟨e.1.same (ak _) (hz _ (by omega)) (hz _ (by omega)),e.2.1,fun x hx q1 q2=>by rw[hz x (by omega),e.2.2 x hx q1 q2]⟩
def aGb (ok:aA P tb) (K:RK h rb rt ah af) (ht) (h2:ah[t].does=2) (hi:ah[t].id<2^64/\ah[t].to<2^64) (hl:af.length<990): ∃h',al P 68 [.ptr rb 0, .int .i64 t] h (hP t ah ah[t] af {iv with op:=10,id:=ah[t].id,to:=ah[t].to,n:=ah[t].n} ah[t].done).v h'/\RQ h rb rt (hP t ah ah[t] af {iv with op:=10,id:=ah[t].id,to:=ah[t].to,n:=ah[t].n} ah[t].done) h':=by
 obtain⟨V,hV⟩: ∃V,V=hP t ah ah[t] af {iv with op:=10,id:=ah[t].id,to:=ah[t].to,n:=ah[t].n} ah[t].done:=⟨_,rfl⟩
 rw[<-hV]
 obtain⟨Q,hQ⟩: ∃Q:AV->aa->Prop,∀v h',Q v h'↔(v.strip=V.v/\RQ h rb rt V h'):=⟨_,fun _ _=>Iff.rfl⟩
 suffices hu: ∃v h',al P 68 [.ptr rb 0, .int .i64 t] h v h'/\Q v h' by
  obtain⟨v,h',c1,q⟩:=hu
  obtain⟨q1,q2⟩:=(hQ _ _).1 q
  exact⟨h',by rw[<-q1];exact c1.strip,q2⟩
 obtain⟨M,hM⟩: ∃M,M=gz (fH ah[t]) af {iv with op:=10,id:=ah[t].id,to:=ah[t].to,n:=ah[t].n} ah[t].done:=⟨_,rfl⟩
 have ED:V=told t ⟨M.1,M.2.1,M.2.2.1,M.2.2.2.1,M.2.2.2.2,[]⟩ ah:=by
  rw[hV,hM];unfold hP
  rw[pV (fun h=>by grind)];rfl
 clear hV
 rw[aKk] at hM
 have hkl:(fH ah[t]).ai=ah[t].ai:=rfl
 rw[hkl] at hM
 simp only at hM
 have kx:=K.kv _ (bw ht)
 have km:=kx.m h2
 refine ok.kP c68 ?_
 obtain⟨tt,g⟩:=K.top
 have c0:=aq g
 have c1:=aq K.aU
 obtain⟨r1,r2,r3,r4⟩:=K.row ht
 have iZ:(t:Int)<(ah.length:Int):=by omega
 simp only[Th.c] at r2
 have yv: ∀(ρ:Env) (H:aa) (e:Nat) (K1:cC->Env->aa->Prop),(∀ρ H,GY [.cell 4 true 4, .tmp 5] Q .ret ρ H->K1 .ret ρ H)->Old h H->h.next<H.next->cellsOf H h.next=some (fY.c .full)->e≠0->M=(true,e,fH ah[t],af,0)->ρ 0= .ptr rb 0->ρ 1= .int .i64 t->ρ 4= .ptr h.next 0->ρ 8= .int .i64 e->exec P X4 ρ H (iD (WP P (.seq (.cA XX) .ret) K1) K1 .normal):=by
  intro ρ H e K1 hK oH nH ch he hME s0 s1 s4 s8
  have KH:=K.old oH
  obtain⟨F,cp,RP,rf⟩:=Nu ok KH ht
  have k1':=K.l1
  have k2':=K.l2
  have fh:cellsOf F h.next=_:=(show cellsOf F h.next=cellsOf H h.next by unfold cellsOf;rw[rf.2 _ nH (by omega) (by omega)]).trans ch
  simp only[Rp.c] at fh
  simp+decide only[sv,X4,s0,s1]
  refine ao cp ?_
  simp+decide only[sv,XX,s1,s8]
  refine ao (CT ok) ?_
  simp+decide only[sv,s4,fh,Rp.c]
  refine hK _ _ ((eK).2 ?_)
  simp+decide only[sv,s4]
  refine(hQ _ _).2 ?_
  rw[ED,hME]
  unfold told
  simp only[ax he]
  exact⟨rfl,(RE.from oH ⟨RP,rf⟩).kK K.l1 K.l2 (ak _) _⟩
 simp+decide only[sv,c68,azt]
 generalize hY:aa.at _ _ _=Y
 have oY:Old h Y:=by rw[<-hY];exact(Old.refl h).at (ak _)
 have cY:cellsOf Y h.next=some (fY.c .full):=by rw[<-hY];exact aq (by simp[aa.at];try rfl)
 have nY:Y.next=h.next+1:=by rw[<-hY];simp[aa.at]
 clear hY
 simp only[Rp.c] at cY
 have KY:=K.old oY
 obtain⟨tt2,g2⟩:=KY.top
 have d0:=aq g2
 have d1:=aq KY.aU
 simp+decide only[sv,azs,d0,d1,iZ,r1,r2]
 generalize hZ:aa.set _ _ _=Z
 have oZ:Old Y Z:=by rw[<-hZ];exact((Old.refl Y).at (ak _)).set (ak _)
 have nZ:Z.next=Y.next+1:=by rw[<-hZ];simp[aa.at,aa.set]
 have zz:cellsOf Z Y.next=some (ah[t].c aH):=by rw[<-hZ];exact aq (by simp[aa.set];rfl)
 clear hZ
 have z0:=oZ.cells (by omega) cY
 have KZ:=KY.old oZ
 have oo:=oY.trans oZ
 simp only[Th.c] at zz
 simp+decide only[sv,azr,zz]
 refine ao (Be ok KZ ht (kind:=2) hi.1) ?_
 have hm:=Br (l:=ah[t].ai) (id:=ah[t].id) (kind:=2) K
 generalize dM af ah[t].ai ah[t].id 2=R at*
 obtain⟨o,e⟩:=R
 simp only at hm hM
 simp+decide only[sv,Ob.c]
 generalize hG:aa.set _ _ _=G
 have oG:Old Z G:=by rw[<-hG];exact((Old.refl Z).at (ak _)).set (ak _)
 have nG:G.next=Z.next+1:=by rw[<-hG];simp[aa.at,aa.set]
 have gg:cellsOf G Z.next=some (o.c aC):=by rw[<-hG];exact aq (by simp[aa.set];rfl)
 clear hG
 have g0:=oG.cells (by omega) z0
 have g1:=oG.cells (by omega) zz
 have KG:=KZ.old oG
 refine zg (fun ρ=>ρ 0= .ptr rb 0/\ρ 1= .int .i64 t/\ρ 4= .ptr h.next 0/\ρ 6= .ptr Y.next 0/\ρ 7= .ptr Z.next 0/\ρ 8= .int .i64 e) ⟨rfl,rfl,rfl,rfl,rfl,rfl⟩ ?_
 rintro ρ ⟨s0,s1,s4,s6,s7,s8⟩
 by_cases he:e=0
 case neg=>
  have bP: ¬(e:Int)=0:=by omega
  rw[ax he] at hM
  simp+decide only[sv,adW,Sn,Sm,KQ,zt,zr,s8,bP]
  exact yv _ _ e _ (fun _ _ h=>h) ((oo.trans oG).at (by omega)) (by simp[aa.at];omega) (((Old.refl G).at (ak _)).cells (by omega) g0) he hM s0 s1 s4 s8
 subst he
 rw[aj (fun q=>q rfl)] at hM
 obtain⟨om,pJ,oi⟩:=hm rfl
 obtain⟨u1,u2,u3⟩:=K.ks.ai om
 have cs:=Ik ok KG ht (o:=o) (τ:=aC) u1 (by omega)
 have l5:=gg
 simp only[Ob.c] at cs l5
 simp+decide only[sv,adW,s0,s1,s7,s8,l5]
 refine ao cs ?_
 cases hs:eI ah[t].ai o.ai with
 |false=>
  rw[hs,ax rfl] at hM
  simp+decide only[sv,azq,Sn,Sm,KQ,zt,zr]
  exact yv _ _ 6 _ (fun _ _ h=>h) ((oo.trans oG).at (by omega)) (by simp[aa.at];omega) (((Old.refl G).at (ak _)).cells (by omega) g0) (by decide) hM s0 s1 s4 rfl
 |true=>
 rw[hs,aj (by simp)] at hM
 simp+decide only[sv,Sn]
 generalize hD:aa.at _ _ _=D
 have oD:Old G D:=by rw[<-hD];exact(Old.refl G).at (ak _)
 have cD:cellsOf D G.next=some (bz.c mS):=by rw[<-hD];exact aq (by simp[aa.at];try rfl)
 have nD:D.next=G.next+1:=by rw[<-hD];simp[aa.at]
 clear hD
 have d0':=oD.cells (by omega) g0
 have d1':=oD.cells (by omega) g1
 have d2':=oD.cells (by omega) gg
 simp only[yD] at cD
 have KD:=KG.old oD
 simp+decide only[sv,Sm,azp,s0,s1,s6,s8,d1']
 refine ao (Be ok KD ht (kind:=2) hi.2) ?_
 have hm:=Br (l:=ah[t].ai) (id:=ah[t].to) (kind:=2) K
 generalize dM af ah[t].ai ah[t].to 2=R at*
 obtain⟨q,e⟩:=R
 simp only at hm hM
 simp+decide only[sv,Ob.c,cD]
 generalize hE:aa.set _ _ _=E
 have oE:Old G E:=by rw[<-hE];exact oD.set (ak _)
 have nE:E.next=G.next+1:=by rw[<-hE];exact nD
 have ee:cellsOf E G.next=some (q.c aC):=by rw[<-hE];exact aq (by simp[aa.set];rfl)
 clear hE
 have e0:=oE.cells (by omega) g0
 have e1:=oE.cells (by omega) g1
 have e2:=oE.cells (by omega) gg
 have KE:=KG.old oE
 have oH:=(oo.trans oG).trans oE
 refine zg (fun ρ=>ρ 0= .ptr rb 0/\ρ 1= .int .i64 t/\ρ 4= .ptr h.next 0/\ρ 6= .ptr Y.next 0/\ρ 7= .ptr Z.next 0/\ρ 8= .int .i64 e/\ρ 9= .ptr G.next 0) ⟨s0,s1,s4,s6,s7,rfl,rfl⟩ ?_
 clear s0 s1 s4 s6 s7 s8
 rintro ρ ⟨s0,s1,s4,s6,s7,s8,s9⟩
 by_cases he:e=0
 case neg=>
  have bP: ¬(e:Int)=0:=by omega
  rw[ax he] at hM
  simp+decide only[sv,KQ,zt,zr,s8,bP]
  exact yv _ _ e _ (fun _ _ h=>h) oH (by omega) e0 he hM s0 s1 s4 s8
 subst he
 rw[aj (fun q=>q rfl)] at hM
 obtain⟨qm,qk2,qi⟩:=hm rfl
 obtain⟨w1,w2,w3⟩:=K.ks.ai qm
 have ct:=Vz ok KE ht (o:=q) (τ:=aC) w1 (by omega)
 have EI:=ee
 have tM:=e2
 simp only[Ob.c] at ct EI tM
 simp+decide only[sv,KQ,s0,s1,s8,s9,EI]
 refine ao ct ?_
 cases hf:cM ah[t].ai q.ai with
 |false=>
  rw[hf,ax rfl] at hM
  simp+decide only[sv,azo,zt,zr]
  exact yv _ _ 6 _ (fun _ _ h=>h) oH (by omega) e0 (by decide) hM s0 s1 s4 rfl
 |true=>
 rw[hf,aj (by simp)] at hM
 have hv:=K.ks.val o om
 have hvq:=K.ks.val q qm
 have CL:=qy hv.may pJ
 have sg:=qy hvq.may qk2
 by_cases Mo:ah[t].n<0
 ·rw[ax (by omega)] at hM
  simp+decide only[sv,zt,O8,zr,s6,s8,e1,Mo,xr]
  exact yv _ _ 11 _ (fun _ _ h=>h) oH (by omega) e0 (by decide) hM s0 s1 s4 rfl
 by_cases pd:(o.data.length:Int)<ah[t].n
 ·rw[ax (by omega)] at hM
  simp+decide only[sv,zt,O8,zr,s6,s7,s8,e1,tM,Mo,pd,aY]
  exact yv _ _ 11 _ (fun _ _ h=>h) oH (by omega) e0 (by decide) hM s0 s1 s4 rfl
 by_cases qh:(q.data.length:Int)<ah[t].n
 ·rw[ax (by omega)] at hM
  simp+decide only[sv,zt,O8,zr,s6,s7,s8,s9,e1,tM,EI,Mo,pd,qh,aY]
  exact yv _ _ 11 _ (fun _ _ h=>h) oH (by omega) e0 (by decide) hM s0 s1 s4 rfl
 rw[aj (by omega)] at hM
 simp+decide only[sv,zt,zr,s6,s7,s8,s9,e1,tM,EI,Mo,pd,qh,aY]
 refine zg (fun ρ=>ρ 0= .ptr rb 0/\ρ 1= .int .i64 t/\ρ 4= .ptr h.next 0/\ρ 6= .ptr Y.next 0/\ρ 7= .ptr Z.next 0/\ρ 9= .ptr G.next 0) ⟨s0,s1,s4,s6,s7,s9⟩ ?_
 clear s0 s1 s4 s6 s7 s8 s9
 rintro ρ ⟨s0,s1,s4,s6,s7,s9⟩
 obtain⟨d,hd⟩: ∃d:Nat,ah[t].done=d:=⟨ah[t].done.toNat,by omega⟩
 obtain⟨n,hn⟩: ∃n:Nat,ah[t].n=n:=⟨ah[t].n.toNat,by omega⟩
 rw[hd,hn] at e1
 rw[hd,hn] at km
 rw[hn] at pd qh Mo
 obtain⟨m,mA⟩: ∃m:Nat,m=min 4 (n-d):=⟨_,rfl⟩
 have A3:M=if d+m<n then(false,0,{fH ah[t] with does:=2,id:=ah[t].id,to:=ah[t].to,done:=((d+m:Nat):Int),n:=ah[t].n},bC af {q with data:=my q.data d ((o.data.drop d).take m)},0) else(true,0,fH ah[t],bC af {q with data:=my q.data d ((o.data.drop d).take m)},n):=by
  rw[hM]
  unfold tD tC
  simp only
  have a1:(max 0 (min ah[t].done ah[t].n)).toNat=d:=by omega
  have a2:ah[t].n.toNat=n:=by omega
  rw[a1,a2]
  have a3:min (d+4) n=d+m:=by omega
  rw[a3,List.drop_take,show d+m-d=m by omega]
 have wd:IntKind.wrap .i64 ((n:Int)-(d:Int))=((n-d:Nat):Int):=by rw[bj]<;>omega
 have wm:min (4:Int) ((n-d:Nat):Int)=(m:Int):=by omega
 have wa:IntKind.wrap .i64 ((d:Int)+(m:Int))=((d+m:Nat):Int):=by rw[bj]<;>omega
 simp+decide only[sv,anz,s6,e1,wd,wm]
 have lE0:h.next<E.next:=by omega
 have Ee:Y.next<E.next:=by omega
 have lE2:Z.next<E.next:=by omega
 have Mq:G.next<E.next:=by omega
 have x0:cellsOf (E.clean 27) Y.next=_:=(Old.refl E).clean.cells Ee e1
 have x1:cellsOf (E.clean 27) Z.next=_:=(Old.refl E).clean.cells lE2 tM
 have x2:cellsOf (E.clean 27) G.next=_:=(Old.refl E).clean.cells Mq EI
 have dq:d<=q.data.length:=by omega
 have dmo:d+m<=o.data.length:=by omega
 have dmq:d+m<=q.data.length:=by omega
 have ddm:d<=d+m:=by omega
 have d0i:(0:Int)<=(d:Int):=by omega
 have dmi:(0:Int)<=((d+m:Nat):Int):=by omega
 have d0n:0<=d:=bM _
 have hh: ∀l,bQ 1 (BS l)=true:=fun l=>iM
 have q5:(BS (o.data.drop d)).take (d+m-d)=BS ((o.data.drop d).take m):=by rw[Fu,show d+m-d=m by omega]
 have q8:(BS (q.data.drop (d+m))).take (q.data.length-(d+m))=BS (q.data.drop (d+m)):=bX (by rw[aY,oI];omega)
 refine jk 21 27 rfl (by omega) rfl ?_
 simp+decide only[sv,anx,s6,s9,x0,x2,Ee,Mq,dq,d0i,d0n,aY,Fu,hh,qF,np,xr]
 obtain⟨v1,br,a1,a2,a3,a5⟩:=(App.start dt E (E.clean 27)).oJ (Old.refl E).clean (base:=E.next) (n:=27) (i:=6) 1 1 (q.data.take d) (BS (q.data.take d)) rfl rfl (ak _) RZ (by simp only[fI,jQ];omega) (by decide)
 refine⟨v1,br,a1,a5,fun x hx=>by rw[a3.get x hx,(Old.refl E).clean.get x hx],?_⟩
 have b0:cellsOf br Y.next=_:=a3.cells Ee e1
 have b1':cellsOf br Z.next=_:=a3.cells lE2 tM
 obtain⟨v2,cB,b1,b2,b3,b5⟩:=a2.oJ a3 (base:=E.next) (n:=27) (i:=16) 1 1 ((o.data.drop d).take m) (BS ((o.data.drop d).take m)) rfl rfl (ak _) (Cb (by decide) a5) (by simp only[kF,jQ,oI];omega) (by decide)
 simp+decide only[sv,s6,s7,b0,b1',Ee,lE2,d0i,dmi,wa,ddm,dmo,q5,aY,vw,hh,b1]
 refine⟨b5,fun x hx=>by rw[b3.get x hx,a3.get x hx],?_⟩
 have c0':cellsOf cB Y.next=_:=b3.cells Ee e1
 have Vq:cellsOf cB G.next=_:=b3.cells Mq EI
 obtain⟨v3,mC,d1,d2,d3,d5⟩:=b2.oJ b3 (base:=E.next) (n:=27) (i:=24) 1 1 (q.data.drop (d+m)) (BS (q.data.drop (d+m))) rfl rfl (ak _) (Cb (by decide) b5) (by simp only[kF,cw,jQ,oI];omega) (by decide)
 have x7:cellsOf mC G.next=_:=d3.cells Mq EI
 obtain⟨t3,rfl,_⟩:=id d2
 simp+decide only[sv,s6,s9,c0',Vq,x7,Ee,Mq,dmi,wa,dmq,q8,ak,aY,vw,hh,d1,d5]
 refine⟨fun j j1 j2=>by omega,?_⟩
 have hXl:((o.data.drop d).take m).length=m:=by rw[jQ,oI];omega
 have Mz:q.data.take d++(o.data.drop d).take m++q.data.drop (d+m)=my q.data d ((o.data.drop d).take m):=by unfold my;rw[hXl]
 have hlen:=Oo (d:=q.data) (v:=(o.data.drop d).take m) (off:=d) (by rw[hXl];exact dmq)
 rw[Mz]
 generalize my q.data d ((o.data.drop d).take m)=nd at*
 generalize hS:aa.set _ _ _=S
 have oS:Old h S:=by rw[<-hS];exact(oH.trans d3).set (by omega)
 have nS:E.next<=S.next:=by rw[<-hS];exact d3.next
 have gS:cellsOf S G.next=some (Ob.c {q with data:=nd} (fun i=>if i=4 then t3 else .au)):=by rw[<-hS];exact aq (by simp[aa.set];rfl)
 have oth: ∀x,x<E.next->x≠G.next->S.get x=E.get x:=fun x hx aT=>by rw[<-hS];simp only[aa.set];rw[aj aT,d3.get x hx]
 have gS0:cellsOf S h.next=_:=(show cellsOf S h.next=cellsOf E h.next by unfold cellsOf;rw[oth _ lE0 (by omega)]).trans e0
 have U6:cellsOf S Y.next=_:=(show cellsOf S Y.next=cellsOf E Y.next by unfold cellsOf;rw[oth _ Ee (by omega)]).trans e1
 clear hS
 refine zg (fun ρ=>ρ 0= .ptr rb 0/\ρ 1= .int .i64 t/\ρ 4= .ptr h.next 0/\ρ 6= .ptr Y.next 0/\ρ 9= .ptr G.next 0/\ρ 10= .int .i64 m) ⟨s0,s1,s4,s6,s9,rfl⟩ ?_
 clear s0 s1 s4 s6 s7 s9 x0 x1 x2 x7 c0' Vq b0 b1' a1 a2 a3 a5 b1 b2 b3 b5 d1 d2 d3 d5
 rintro ρ ⟨s0,s1,s4,s6,s9,s10⟩
 have KS':=K.old oS
 obtain⟨F,cp,RP,rf⟩:=CV ok KS' (o:={q with data:=nd}) (τ:=fun i=>if i=4 then t3 else .au) (hvq.data hlen) hl
 have rf1:=rf.1
 have k1':=K.l1
 have k2':=K.l2
 have f0:cellsOf F h.next=_:=(show cellsOf F h.next=cellsOf S h.next by unfold cellsOf;rw[rf.2 _ (by omega) (by omega) (by omega)]).trans gS0
 have f1:cellsOf F Y.next=_:=(show cellsOf F Y.next=cellsOf S Y.next by unfold cellsOf;rw[rf.2 _ (by omega) (by omega) (by omega)]).trans U6
 have rfF:RF h F rb rt:=(RF.old oS).trans rf
 simp only[Ob.c] at gS cp
 simp+decide only[sv,anw,s0,s9,gS]
 refine ao cp ?_
 by_cases aS:d+m<n
 ·have jK:((d+m:Nat):Int)<(n:Int):=by omega
  rw[ax aS] at A3
  obtain⟨tt5,g5⟩:=RP.top
  have y0:cellsOf (F.clean 12) rb=_:=(Old.refl F).clean.cells RP.l1 (aq g5)
  have y1:cellsOf (F.clean 12) rt=_:=(Old.refl F).clean.cells RP.l2 (aq RP.aU)
  have y2:cellsOf (F.clean 12) Y.next=_:=(Old.refl F).clean.cells (by omega) f1
  have l1:=RP.l1
  have l2:=RP.l2
  have n1:Y.next<F.next:=by omega
  simp+decide only[sv,XV,s6,s10,f1,wa,jK]
  have hle:t*12+9+1<=(aI aH ah).flatten.length:=by omega
  refine bq 12 rfl rfl ?_
  simp+decide only[sv,anv,s0,s1,s6,s10,y0,y1,y2,iZ,wa,hle]
  have iF:=pt (l:=ah) ht (j:=9) (v:=[.int .i64 ((d+m:Nat):Int)]) (x':={ah[t] with done:=((d+m:Nat):Int)}) (by simp) rfl
  have Mw: ∀(x:Th) (v:Int),x.does=2->({fH x with does:=2,id:=x.id,to:=x.to,done:=v,n:=x.n}:Th)={x with done:=v}:=fun x v hx=>by
   cases x;simp only at hx;subst hx;rfl
  rw[Mw _ _ h2] at A3
  rw[show List.take (t*12+9) (aI aH ah).flatten++[AV.int IntKind.i64 ((d+m:Nat):Int)]++List.drop (t*12+9+1) (aI aH ah).flatten=_ from iF]
  have kx2:KV {ah[t] with done:=((d+m:Nat):Int)}:=⟨kx.aQ,kx.d,kx.st,fun q=>by rw[show({ah[t] with done:=((d+m:Nat):Int)}:Th).does=ah[t].does from rfl,h2] at q;omega,fun q=>by rw[show({ah[t] with done:=((d+m:Nat):Int)}:Th).does=ah[t].does from rfl,h2] at q;omega,kx.dk,fun _=>⟨by show(0:Int)<=((d+m:Nat):Int);omega, .inl (by show((d+m:Nat):Int)<=ah[t].n;omega)⟩⟩
  obtain⟨_,lk⟩:=K.ai ht
  have RT:RE h rb rt (ah.set t {ah[t] with done:=((d+m:Nat):Int)}) (bC af {q with data:=nd}) ((F.clean 12).set rt (some (.cells (aI aH (ah.set t {ah[t] with done:=((d+m:Nat):Int)})).flatten))):=by
   refine⟨RP.lO lk kx2 (by show F.next<=F.next+12;omega) (by simp[aa.set]) (by simp only[aa.set,aa.clean];rw[aj K.ne,ax l1]),rfF.trans ⟨by show F.next<=F.next+12;omega,fun b hb q1 q2=>?_⟩⟩
   simp only[aa.set,aa.clean];rw[aj q2,ax hb]
  have g0':cellsOf ((F.clean 12).set rt (some (.cells (aI aH (ah.set t {ah[t] with done:=((d+m:Nat):Int)})).flatten))) h.next=some (fY.c .full):=by
   have:cellsOf (F.clean 12) h.next=_:=(Old.refl F).clean.cells (by omega) f0
   unfold cellsOf at this ⊢;simp only[aa.set];rw[aj (by omega)];exact this
  refine⟨fun j j1 j2=>by omega,?_⟩
  generalize(F.clean 12).set rt _=T at*
  simp only[Rp.c] at g0'
  simp+decide only[sv,anu,s4,g0',eK]
  refine(hQ _ _).2 ?_
  rw[ED,A3]
  exact⟨by simp only[told,Cr.v,Rp.c,AV.strip,AV.a8];rfl,RT.kK K.l1 K.l2 (ak _) _⟩
 ·have jK: ¬((d+m:Nat):Int)<(n:Int):=by omega
  rw[aj aS] at A3
  obtain⟨F2,ci,RI,ri⟩:=Nu ok RP ht
  have ri1:=ri.1
  have f2:cellsOf F2 h.next=_:=(show cellsOf F2 h.next=cellsOf F h.next by unfold cellsOf;rw[ri.2 _ (by omega) (by omega) (by omega)]).trans f0
  have f3:cellsOf F2 Y.next=_:=(show cellsOf F2 Y.next=cellsOf F Y.next by unfold cellsOf;rw[ri.2 _ (by omega) (by omega) (by omega)]).trans f1
  have wu:IntKind.wrap .u64 (n:Int)=n:=eo (by omega)
  simp+decide only[sv,XV,ant,s0,s1,s6,s10,f1,wa,jK]
  refine ao ci ?_
  simp+decide only[sv,ans,s1]
  refine ao (CT ok) ?_
  simp+decide only[sv,Rp.c]
  generalize hU:aa.set _ _ _=U
  have oU:Old F2 U:=by rw[<-hU];exact((Old.refl F2).at (ak _)).set (ak _)
  have uu:cellsOf U F2.next=some ((⟨t,0,0,[]⟩:Rp).c .au):=by rw[<-hU];exact aq (by simp[aa.set];rfl)
  clear hU
  have u0:=oU.cells (by omega) f3
  have u1:=oU.cells (by omega) f2
  simp only[Rp.c] at uu
  have aT: ¬h.next=F2.next:=by omega
  simp+decide only[sv,anr,s6,u0,uu,wu]
  simp+decide only[sv,anq,s4,u1,aT,eK]
  refine(hQ _ _).2 ?_
  rw[ED,A3]
  refine⟨by simp only[told,Cr.v,Rp.c,AV.strip,AV.a8,iz];rfl,?_⟩
  have hRE:RE h rb rt (ah.set t (fH ah[t])) (bC af {q with data:=nd}) U:=⟨RI.old oU,rfF.trans (ri.trans (RF.old oU))⟩
  exact(hRE.kK K.l1 K.l2 (by omega) _).kK K.l1 K.l2 (ak _) _
def aKi {c:Cl}:gN x af c=if(dM af x.ai c.id 4).2≠0 then(true,(dM af x.ai c.id 4).2,x,af,[]) else if dW x.ai (dM af x.ai c.id 4).1.ai=false then(true,6,x,af,[]) else match(dM af x.ai c.id 4).1.ring with
 |[]=>(false,0,{x with does:=1,id:=c.id},af,[])
 |b::m=>(true,0,x,bC af {(dM af x.ai c.id 4).1 with ring:=m},b):=
 BD (fun e=>(true,e,x,af,[])) (fun o=>match o.ring with
  |[]=>(false,0,{x with does:=1,id:=c.id},af,[])
  |b::m=>(true,0,x,bC af {o with ring:=m},b))
def ajp (ok:aA P tb) (K:RK h rb rt ah af) {t:Int} (hi: ∀x∈ah,x.id<2^64/\x.to<2^64) (hl:af.length<990): ∃h',al P 34 [.ptr rb 0, .int .i64 t] h (gf t ah af).v h'/\RQ h rb rt (gf t ah af) h':=by
 obtain⟨V,hV⟩: ∃V,V=gf t ah af:=⟨_,rfl⟩
 rw[<-hV]
 obtain⟨Q,hQ⟩: ∃Q:AV->aa->Prop,∀v h',Q v h'↔(v.strip=V.v/\RQ h rb rt V h'):=⟨_,fun _ _=>Iff.rfl⟩
 suffices hu: ∃v h',al P 34 [.ptr rb 0, .int .i64 t] h v h'/\Q v h' by
  obtain⟨v,h',c1,q⟩:=hu
  obtain⟨q1,q2⟩:=(hQ _ _).1 q
  exact⟨h',by rw[<-q1];exact c1.strip,q2⟩
 refine ok.kP c34 ?_
 unfold gf at hV
 simp+decide only[sv,c34,aCi]
 generalize hY:aa.at _ _ _=Y
 have oY:Old h Y:=by rw[<-hY];exact(Old.refl h).at (ak _)
 have cY:cellsOf Y h.next=some (fY.c .full):=by rw[<-hY];exact aq (by simp[aa.at];try rfl)
 have nY:Y.next=h.next+1:=by rw[<-hY];simp[aa.at]
 clear hY
 simp only[Rp.c] at cY
 have KY:=K.old oY
 have l1:=K.l1
 have l2:=K.l2
 simp+decide only[sv,aCh]
 refine ao (Nv ok KY) ?_
 cases hb:jB ah t with
 |false=>
  rw[ax hb] at hV
  simp+decide only[sv,aCg,cY,eK]
  refine(hQ _ _).2 ?_
  rw[hV]
  exact⟨rfl,RE.kK (rb:=rb) (rt:=rt) K.l1 K.l2 ⟨KY,RF.old oY⟩ (ak _) _⟩
 |true=>
 rw[aj (by simp[hb])] at hV
 have pj:mV ah t=true:=by
  unfold jB at hb
  grind
 have UZ:=hb
 obtain⟨n,rfl,hn⟩:=IW pj
 rw[i9,bn hn] at hV
 simp only at hV
 have kx:=K.kv _ (bw hn)
 have MM:=hi _ (bw hn)
 have Ez:ah[n].does≠0:=by
  unfold jB at UZ
  grind
 obtain⟨tt,g⟩:=KY.top
 have c0:=aq g
 have c1:=aq KY.aU
 obtain⟨r1,r2,r3,r4⟩:=K.row hn
 have iZ:(n:Int)<(ah.length:Int):=by omega
 have r6:=r4 6 (by decide)
 rw[show(ah[n].c aH)[6]? =some (.int .i64 ah[n].does) from rfl] at r6
 have r7:=r4 7 (by decide)
 rw[show(ah[n].c aH)[7]? =some (.int .u64 ah[n].id) from rfl] at r7
 have hle:n*12+6<(aI aH ah).flatten.length:=by omega
 have aEj:n*12+7<(aI aH ah).flatten.length:=by omega
 by_cases sg:ah[n].does=2
 ·have e2:=bW sg
  rw[aj (by omega)] at hV
  obtain⟨h',cm,Rm⟩:=aGb ok KY hn sg MM hl
  rw[<-hV] at cm Rm
  have z0:cellsOf h' h.next=_:=(show cellsOf h' h.next=cellsOf Y h.next by unfold cellsOf;rw[Rm.2.2 _ (by omega) (by omega) (by omega)]).trans cY
  simp+decide only[sv,aeG,aCf,c0,c1,iZ,r6,e2,xr]
  refine ao cm ?_
  simp+decide only[sv,z0,Cr.v,Rp.c,eK]
  exact(hQ _ _).2 ⟨by simp only[AV.strip,AV.a8,iz];rfl,RE.kK K.l1 K.l2 (RE.from oY Rm) (ak _) _⟩
 have e2:=bk sg
 have CL:ah[n].does=1:=by rcases kx.dk with e|e|e;exact absurd e Ez;exact e;omega
 rw[ax CL] at hV
 obtain⟨M,hM⟩: ∃M,M=gN (fH ah[n]) af {iv with op:=9,id:=ah[n].id}:=⟨_,rfl⟩
 have ED:V=told n ⟨M.1,M.2.1,M.2.2.1,M.2.2.2.1,0,M.2.2.2.2⟩ ah:=by
  rw[hV,hM];unfold hP
  rw[pV (fun h=>by grind)];rfl
 clear hV
 rw[aKi] at hM
 rw[show(fH ah[n]).ai=ah[n].ai from rfl] at hM
 simp only at hM
 simp+decide only[sv,aeG,aCe,c0,c1,iZ,r6,r7,e2,xr]
 refine ao (Be ok KY hn (kind:=4) MM.1) ?_
 have hm:=Br (l:=ah[n].ai) (id:=ah[n].id) (kind:=4) K
 generalize dM af ah[n].ai ah[n].id 4=R at*
 obtain⟨o,e⟩:=R
 simp only at hm hM
 simp+decide only[sv,Ob.c]
 generalize hG:aa.set _ _ _=G
 have oG:Old Y G:=by rw[<-hG];exact((Old.refl Y).at (ak _)).set (ak _)
 have nG:G.next=Y.next+1:=by rw[<-hG];simp[aa.at,aa.set]
 have gg:cellsOf G Y.next=some (o.c aC):=by rw[<-hG];exact aq (by simp[aa.set];rfl)
 clear hG
 have g0:=oG.cells (by omega) cY
 have KG:=KY.old oG
 have oo:=oY.trans oG
 refine zg (fun ρ=>ρ 0= .ptr rb 0/\ρ 1= .int .i64 n/\ρ 4= .ptr h.next 0/\ρ 6= .ptr Y.next 0/\ρ 7= .int .i64 e) ⟨rfl,rfl,rfl,rfl,rfl⟩ ?_
 rintro ρ ⟨s0,s1,s4,s6,s7⟩
 have yv: ∀(ρ:Env) (e:Nat) (K1:cC->Env->aa->Prop),(∀ρ H,GY [.cell 4 true 4, .tmp 5] Q .ret ρ H->K1 .ret ρ H)->e≠0->M=(true,e,fH ah[n],af,[])->ρ 0= .ptr rb 0->ρ 1= .int .i64 n->ρ 4= .ptr h.next 0->ρ 7= .int .i64 e->exec P aeE ρ G (iD (WP P (.seq (.cA Yo) .ret) K1) K1 .normal):=by
  intro ρ e K1 hK he hME s0 s1 s4 s7
  obtain⟨F,cp,RP,rf⟩:=Nu ok KG hn
  have fh:cellsOf F h.next=_:=(show cellsOf F h.next=cellsOf G h.next by unfold cellsOf;rw[rf.2 _ (by omega) (by omega) (by omega)]).trans g0
  simp+decide only[sv,aeE,s0,s1]
  refine ao cp ?_
  simp+decide only[sv,Yo,s1,s7]
  refine ao (CT ok) ?_
  simp+decide only[sv,s4,fh,Rp.c]
  refine hK _ _ ((eK).2 ?_)
  simp+decide only[sv,s4]
  refine(hQ _ _).2 ?_
  rw[ED,hME]
  unfold told
  simp only[ax he]
  exact⟨rfl,(RE.from oo ⟨RP,rf⟩).kK K.l1 K.l2 (ak _) _⟩
 by_cases he:e=0
 case neg=>
  have bP: ¬(e:Int)=0:=by omega
  rw[ax he] at hM
  simp+decide only[sv,aeF,SD,s7,bP]
  exact yv _ e _ (fun _ _ h=>h) he hM s0 s1 s4 s7
 subst he
 rw[aj (fun q=>q rfl)] at hM
 obtain⟨om,pJ,oi⟩:=hm rfl
 obtain⟨u1,u2,u3⟩:=K.ks.ai om
 have cs:=Nw ok KG hn (o:=o) (τ:=aC) u1 (by omega)
 have l5:=gg
 simp only[Ob.c] at cs l5
 simp+decide only[sv,aeF,s0,s1,s6,s7,l5]
 refine ao cs ?_
 cases hs:dW ah[n].ai o.ai with
 |false=>
  rw[hs,ax rfl] at hM
  simp+decide only[sv,aCd,SD]
  exact yv _ 6 _ (fun _ _ h=>h) (by decide) hM s0 s1 s4 rfl
 |true=>
 rw[hs,aj (by simp)] at hM
 have hv:=K.ks.val o om
 have rW:=xg hv.may pJ
 have jL:=xj rW
 simp+decide only[sv,SD,s7]
 cases hr:o.ring with
 |nil=>
  rw[hr] at hM
  simp only at hM
  have Mw: ∀x:Th,x.does=1->x.to=0/\x.done=0/\x.n=0->({fH x with does:=1,id:=x.id}:Th)=x:=fun x hx q=>by
   obtain⟨q1,q2,q3⟩:=q
   cases x;simp only at hx q1 q2 q3;subst hx q1 q2 q3;rfl
  have hM:M=(false,0,ah[n],af,[]):=by rw[hM];exact congrArg (fun x=>(false,0,x,af,[])) (Mw _ CL (kx.w CL))
  rw[hr] at l5
  simp+decide only[sv,Yn,aoa,s4,s6,l5,aF.ye,g0,eK]
  refine(hQ _ _).2 ?_
  rw[ED,hM]
  unfold told
  refine⟨rfl,?_⟩
  show RE h rb rt (ah.set n ah[n]) af _
  rw[u9]
  exact RE.kK K.l1 K.l2 ⟨KG,RF.old oo⟩ (ak _) _
 |cons b m=>
  rw[hr] at hM
  simp only at hM
  rw[hr] at l5 rW jL
  have hlz: ¬(((aR.R (b::m)).length:Nat):Int)=0:=by rw[aF.aD];grind
  simp+decide only[sv,Yn,s6,l5,hlz]
  simp+decide only[sv,an9,s1]
  refine ao (CT ok) ?_
  simp+decide only[sv,Rp.c]
  generalize hU:aa.set _ _ _=U
  have oU:Old G U:=by rw[<-hU];exact((Old.refl G).at (ak _)).set (ak _)
  have nU:U.next=G.next+1:=by rw[<-hU];simp[aa.at,aa.set]
  have uu:cellsOf U G.next=some ((⟨n,0,0,[]⟩:Rp).c .au):=by rw[<-hU];exact aq (by simp[aa.set];rfl)
  clear hU
  have u0:=oU.cells (by omega) g0
  have u1:=oU.cells (by omega) l5
  have n1:Y.next<U.next:=by omega
  have n2:G.next<U.next:=by omega
  have x1:cellsOf (U.clean 12) Y.next=_:=(Old.refl U).clean.cells n1 u1
  have x2:cellsOf (U.clean 12) G.next=_:=(Old.refl U).clean.cells n2 uu
  simp only[Rp.c] at x2
  have k1:bQ 1 (aR.R (b::m))=true:=aR.fl
  have k3:1<=(aR.R (b::m)).length:=by omega
  have k4:List.take ((aR.R (b::m)).length-1) (List.drop 1 (aR.R (b::m)))=aR.R m:=by rw[bX (by simp)];rfl
  have hg:(aR.R (b::m))[0]? =some [.vs (BS b) .au]:=rfl
  have aT: ¬Y.next=G.next:=by omega
  have DZ: ¬G.next=Y.next:=by omega
  refine jk 8 12 rfl (by omega) rfl ?_
  simp+decide only[sv,an8,s6,x1,n1,hg,k1,k3,k4,xr,kD]
  refine dh (aFQ ok (l:=m) (by grind) (fun x hx=>by grind)) (ba (ak _)) ?_
  simp+decide only[sv,s6,x1,x2,aT,xr]
  refine⟨(jx n2).2 (ba (ak _)),fun j j1 j2=>by omega,?_⟩
  generalize hS:aa.set _ _ _=S
  have oS:Old h S:=by rw[<-hS];exact(((oo.trans oU).clean).set (by omega)).set (by omega)
  have nS:U.next<=S.next:=by rw[<-hS];show U.next<=U.next+12;omega
  have U6:cellsOf S Y.next=some (Ob.c {o with ring:=m} aC):=by rw[<-hS];exact aq (by simp[aa.set];rfl)
  have gS2:cellsOf S G.next=some ((⟨n,0,0,b⟩:Rp).c .au):=by rw[<-hS];exact aq (by simp[aa.set,DZ];rfl)
  have gS0:cellsOf S h.next=some (fY.c .full):=by
   have:cellsOf (U.clean 12) h.next=_:=(Old.refl U).clean.cells (by omega) u0
   rw[<-hS];unfold cellsOf at this ⊢;simp only[aa.set];rw[aj (by omega),aj (by omega)];exact this
  clear hS x1 x2
  refine zg (fun ρ=>ρ 0= .ptr rb 0/\ρ 1= .int .i64 n/\ρ 4= .ptr h.next 0/\ρ 6= .ptr Y.next 0/\ρ 8= .ptr G.next 0) ⟨s0,s1,s4,s6,rfl⟩ ?_
  clear s0 s1 s4 s6 s7
  rintro ρ ⟨s0,s1,s4,s6,s8⟩
  obtain⟨F,cp,RP,rf⟩:=CV ok (K.old oS) (o:={o with ring:=m}) (τ:=aC) (OV hv pJ (ajo rW)) hl
  obtain⟨F2,ci,RI,ri⟩:=Nu ok RP hn
  have rf1:=rf.1
  have ri1:=ri.1
  have f0:cellsOf F2 h.next=_:=(show cellsOf F2 h.next=cellsOf S h.next by unfold cellsOf;rw[ri.2 _ (by omega) (by omega) (by omega),rf.2 _ (by omega) (by omega) (by omega)]).trans gS0
  have f2:cellsOf F2 G.next=_:=(show cellsOf F2 G.next=cellsOf S G.next by unfold cellsOf;rw[ri.2 _ (by omega) (by omega) (by omega),rf.2 _ (by omega) (by omega) (by omega)]).trans gS2
  simp only[Ob.c] at U6 cp
  simp only[Rp.c] at f0 f2
  simp+decide only[sv,an7,s0,s6,U6]
  refine ao cp ?_
  simp+decide only[sv,an6,s0,s1]
  refine ao ci ?_
  simp+decide only[sv,an5,s4,s8,f0,f2,eK]
  refine(hQ _ _).2 ?_
  rw[ED,hM]
  exact⟨by simp only[told,Cr.v,Rp.c,AV.strip,AV.a8,iz];rfl,RE.kK K.l1 K.l2 ⟨RI,(RF.old oS).trans (rf.trans ri)⟩ (ak _) _⟩
def RF.cells (f:RF h1 h2 rb rt) {b:Nat} (hb:b<h1.next) (n1:b≠rb) (n2:b≠rt) (c:cellsOf h1 b=some cs):cellsOf h2 b=some cs:=by
 unfold cellsOf at c ⊢;rw[f.2 b hb n1 n2];exact c
def B9 {l:List Th} {t:Nat} (ht:t<l.length) {x:Th}:(l.set t x)[t]'(by grind)=x:=by simp
def ajB {c:Cl} (hn:n<ah.length) (k:KV ah[n]) (h0:ah[n].does=0) (eB:c.op=9/\y={ah[n] with does:=1,id:=c.id}\/c.op=10/\y={ah[n] with does:=2,id:=c.id,to:=c.to,n:=c.n}):
 gf n (ah.set n y) af=told n (dE n ah[n] af c 0) ah:=by
 have hs:fH ah[n]=ah[n]:=k.same h0
 have hy:fH y=ah[n]:=by
  rw[<-hs]
  rcases eB with⟨_,rfl⟩|⟨_,rfl⟩<;>rfl
 have hl:n<(ah.set n y).length:=by grind
 have hg:(ah.set n y)[n]? =some y:=by grind
 have Ey:y.does≠0:=by grind
 have hb:jB (ah.set n y) n=true:=by
  unfold jB mV
  grind
 unfold gf
 rw[aj (by simp[hb]),i9,hg]
 simp only
 have iF: ∀z,(ah.set n y).set n z=ah.set n z:=fun z=>by simp_all
 rcases eB with⟨ho,rfl⟩|⟨ho,rfl⟩
 ·rw[ax rfl]
  unfold hP told
  rw[hy,iF]
  have e:dE n ah[n] af {iv with op:=9,id:=c.id} 0=dE n ah[n] af c 0:=by
   rw[pV (fun h=>by grind),pV (fun h=>by omega)]
   unfold iO
   rw[ho];rfl
  rw[e]
 ·rw[aj (by grind)]
  unfold hP told
  rw[hy,iF]
  have e:dE n ah[n] af {iv with op:=10,id:=c.id,to:=c.to,n:=c.n} ah[n].done=dE n ah[n] af c 0:=by
   rw[pV (fun h=>by grind),pV (fun h=>by omega),(k.idle h0).2.2.1]
   unfold iO
   rw[ho];rfl
  grind
def aHw {c:Cl} (h:(rU l af c).1≠0):(rU l af c).2.1=0:=by
 unfold rU l8 xw at h ⊢
 grind
def aIQ {c:Cl} (h:(lJ l af c).1≠0):(lJ l af c).2=[]:=by
 unfold lJ at h ⊢
 grind
def aIM {c:Cl} (h:(lI l af c).1≠0):(lI l af c).2.1=0/\(lI l af c).2.2=[]:=by
 unfold lI at h ⊢
 grind
def aIs (ok:aA P tb) (K:RK h rb rt ah af) {t:Int} {c:Cl} (k:ik c) (Hu:dF c.ai=true) (kZ:c.op=3->lL c.bf=true) (hi: ∀x∈ah,0<=x.own/\x.id<2^64/\x.to<2^64) (hl:af.length<980):
 ∃h',al P 35 [.ptr rb 0, .int .i64 t, .agg (c.c τ)] h (bU t ah af c).v h'/\RQ h rb rt (bU t ah af c) h':=by
 obtain⟨V,hV⟩: ∃V,V=bU t ah af c:=⟨_,rfl⟩
 rw[<-hV]
 obtain⟨Q,hQ⟩: ∃Q:AV->aa->Prop,∀v h',Q v h'↔(v.strip=V.v/\RQ h rb rt V h'):=⟨_,fun _ _=>Iff.rfl⟩
 suffices hu: ∃v h',al P 35 [.ptr rb 0, .int .i64 t, .agg (c.c aC)] h v h'/\Q v h' by
  obtain⟨v,h',c1,q⟩:=hu
  obtain⟨q1,q2⟩:=(hQ _ _).1 q
  exact⟨h',al.au (by simp only[AV.a8,AV.strip,xm];rw[<-q1];exact c1.strip),q2⟩
 refine ok.kP c35 ?_
 unfold bU at hV
 simp+decide only[sv,c35,aCc,ed]
 generalize hX:aa.at _ _ _=X
 have xo:Old h X:=by rw[<-hX];exact((Old.refl h).at (ak _)).at (by omega)
 have x0:cellsOf X h.next=some (c.c aC):=by rw[<-hX];exact aq (by simp[aa.at];rfl)
 have x1:cellsOf X (h.next+1)=some (fY.c .full):=by rw[<-hX];exact aq (by simp[aa.at];rfl)
 have xn:X.next=h.next+2:=by rw[<-hX];simp[aa.at]
 clear hX
 have KX:=K.old xo
 simp only[ed] at x0
 simp only[Rp.c] at x1
 have kl1:=K.l1
 have kl2:=K.l2
 have no:V=⟨fY,false,ah,af⟩-> ∀b,Q (.aE [.agg (fY.c .full), .bool false]) (X.set (h.next+1) b):=fun e b=>(hQ _ _).2 (by
  rw[e]
  exact⟨rfl,RE.kK K.l1 K.l2 ⟨KX,RF.old xo⟩ (by omega) _⟩)
 simp only[Rp.c] at no
 obtain⟨tt,g⟩:=KX.top
 have c0:=aq g
 by_cases AH:t<0
 ·rw[ax (by unfold mV;simp;omega)] at hV
  simp+decide only[sv,SC,SB,AH,x1,eK]
  exact no hV _
 by_cases tI:(ah.length:Int)<=t
 ·rw[ax (by unfold mV;simp;omega)] at hV
  simp+decide only[sv,SC,SB,AH,tI,c0,x1,eK]
  exact no hV _
 have pj:mV ah t=true:=by unfold mV;simp;omega
 rw[aj (by simp[pj])] at hV
 simp+decide only[sv,SC,AH,tI,c0]
 refine ao (Nv ok KX) ?_
 cases hb:jB ah t with
 |true=>
  rw[ax hb] at hV
  simp+decide only[sv,SB,x1,eK]
  exact no hV _
 |false=>
 rw[aj (by simp[hb])] at hV
 clear no
 obtain⟨n,rfl,hn⟩:=IW pj
 rw[i9,bn hn] at hV
 simp only at hV
 have kx:=K.kv _ (bw hn)
 have MM:=hi _ (bw hn)
 have Ez:ah[n].does=0:=by
  unfold jB at hb
  rw[pj,i9,bn hn,iB,iQ] at hb
  simpa using hb
 have aTi:=kx.same Ez
 have hV:V=told n (dE n ah[n] af c 0) ah:=by rw[hV];unfold hP;rw[aTi]
 have ht4:=K.tv.len
 simp+decide only[sv,aCb]
 refine ao (CT ok) ?_
 simp+decide only[sv,Rp.c]
 generalize hG:aa.set _ _ _=G
 have oG:Old X G:=by rw[<-hG];exact((Old.refl X).at (ak _)).set (ak _)
 have nG:G.next=X.next+1:=by rw[<-hG];simp[aa.at,aa.set]
 have gg:cellsOf G X.next=some ((⟨n,0,0,[]⟩:Rp).c .au):=by rw[<-hG];exact aq (by simp[aa.set];rfl)
 clear hG
 have g0:=oG.cells (by omega) x0
 have g1:=oG.cells (by omega) x1
 have KG:=KX.old oG
 have oo:=xo.trans oG
 simp+decide only[sv,aCa,g0]
 generalize yN:X.next=bx at*
 refine zg (fun ρ=>ρ 0= .ptr rb 0/\ρ 1= .int .i64 n/\ρ 5= .ptr h.next 0/\ρ 6= .ptr (h.next+1) 0/\ρ 8= .ptr bx 0/\ρ 30= .int .i64 c.op) ⟨rfl,rfl,rfl,rfl,rfl,rfl⟩ ?_
 rintro ρ ⟨s0,s1,s5,s6,s8,pI⟩
 generalize hK:jO 0 _=K0
 have afb: ∀(ρ:Env) (H:aa) (r:Rp) (τ':aL) (is:Bool),V.r=r->V.is=is->RE h rb rt V.ah V.af H->cellsOf H (h.next+1)=some (r.c τ')->ρ 6= .ptr (h.next+1) 0->ρ 7= .bool is->K0 .ret ρ H:=by
  intro ρ H r τ' is q1 q2 q3 q4 q6 q7
  rw[<-hK]
  simp only[Rp.c] at q4
  simp+decide only[sv,q6,q7,q4,eK]
  refine(hQ _ _).2 ⟨?_,q3⟩
  unfold Cr.v
  rw[q1,q2]
  simp only[Rp.c,AV.strip,AV.a8,iz]
 have fin: ∀(ρ:Env) (H:aa) (D:Dr) (τ':aL),dE n ah[n] af c 0=D->D.is=true->RE h rb rt (ah.set n D.th) D.af H->cellsOf H (h.next+1)=some (fY.c .full)->cellsOf H bx=some ((if D.err≠0 then(⟨n,D.err,0,[]⟩:Rp) else⟨n,0,D.ret,D.data⟩).c τ')->ρ 6= .ptr (h.next+1) 0->ρ 8= .ptr bx 0->K0 .normal ρ H:=by
  intro ρ H D τ' q1 q2 q3 q4 q5 q6 q8
  rw[q1] at hV
  have hVr:V.r=(if D.err≠0 then(⟨n,D.err,0,[]⟩:Rp) else⟨n,0,D.ret,D.data⟩):=by rw[hV];unfold told;simp only[q2];rfl
  have hVi:V.is=true:=by rw[hV];exact q2
  generalize(if D.err≠0 then(⟨n,D.err,0,[]⟩:Rp) else⟨n,0,D.ret,D.data⟩)=r at*
  rw[<-hK]
  simp only[Rp.c] at q4 q5
  simp+decide only[sv,anS,q6,q8,q4,q5,eK]
  refine(hQ _ _).2 ⟨?_,?_⟩
  ·unfold Cr.v
   rw[hVr,hVi]
   simp only[Rp.c,AV.strip,AV.a8,iz]
  ·rw[hV];exact RE.kK K.l1 K.l2 q3 (by omega) _
 have fQ:h.next+1<G.next:=by omega
 have pK:bx<G.next:=by omega
 have rr: ∀(e ret:Nat) (data:List UInt8),(e≠0->ret=0/\data=[])->(if e≠0 then(⟨n,e,0,[]⟩:Rp) else⟨n,0,ret,data⟩)=⟨n,e,ret,data⟩:=fun e ret data q=>by
  by_cases he:e=0
  ·rw[aj (fun q=>q he),he];rfl
  ·rw[ax he,(q he).1,(q he).2]
 have Lw: ∀(ρ:Env) (F:aa) (e:Nat) (th:Th) (fK:List Ob) (ret:Nat) (data:List UInt8) (τ':aL),dE n ah[n] af c 0=⟨true,e,th,fK,ret,data⟩->(e≠0->ret=0/\data=[])->RE h rb rt (ah.set n th) fK F->cellsOf F (h.next+1)=some (fY.c .full)->ρ 6= .ptr (h.next+1) 0->ρ 8= .ptr bx 0->K0 .normal ρ (F.set bx (some (.cells ((⟨n,e,ret,data⟩:Rp).c τ')))):=by
  intro ρ F e th fK ret data τ' q1 q0 q2 q3 q6 q8
  refine fin ρ _ _ τ' q1 rfl (RE.kK K.l1 K.l2 q2 (by omega) _) ?_ (aq ?_) q6 q8
  ·unfold cellsOf at q3 ⊢;simp only[aa.set];rw[aj (by omega)];exact q3
  ·simp only[aa.set,dP]
   rw[rr e ret data q0]
 have DX: ∀(ρ:Env) (F:aa) (e:Nat) (th:Th) (fK:List Ob),dE n ah[n] af c 0=⟨true,e,th,fK,0,[]⟩->RE h rb rt (ah.set n th) fK F->cellsOf F (h.next+1)=some (fY.c .full)->ρ 6= .ptr (h.next+1) 0->ρ 8= .ptr bx 0->K0 .normal ρ (F.set bx (some (.cells ((⟨n,e,0,[]⟩:Rp).c .au)))):=
  fun ρ F e th fK q1 q2 q3 q6 q8=>Lw ρ F e th fK 0 [] .au q1 (fun _=>⟨rfl,rfl⟩) q2 q3 q6 q8
 have i5:ah.set n ah[n]=ah:=u9 hn
 have l5:=gg
 simp only[Rp.c] at l5
 obtain⟨tG,gG⟩:=KG.top
 have w0:=aq gG
 have w1:=aq KG.aU
 obtain⟨r1,r2,r3,r4⟩:=K.row hn
 have wM:(n:Int)<(ah.length:Int):=by omega
 have hl5:n*12+5+1<=(aI aH ah).flatten.length:=by omega
 have aUO:n*12+5<(aI aH ah).flatten.length:=by omega
 have iq:n*12+2<=(aI aH ah).flatten.length:=by omega
 obtain⟨lsr,lk⟩:=K.ai hn
 by_cases h1:c.op=1
 ·have e1:=bW h1
  have r5:=r4 5 (by decide)
  rw[show(ah[n].c aH)[5]? =some (.int .i64 ah[n].own) from rfl] at r5
  have hk:dE n ah[n] af c 0=⟨true,(mO n ah[n]).1,(mO n ah[n]).2.2,af,(mO n ah[n]).2.1,[]⟩:=by
   rw[pV (fun q=>by rcases q.1 with q|q<;>omega)];unfold iO;rw[h1];rfl
  have oO:=MM.1
  unfold mO at hk
  have a1:IntKind.wrap .i64 ((16:Int)*(n:Int))=16*n:=bj (by omega) (by omega)
  have a2:IntKind.wrap .i64 ((1000:Int)+16*(n:Int))=1000+16*n:=bj (by omega) (by omega)
  by_cases A5:15<=ah[n].own
  ·rw[ax A5] at hk
   rw[hk] at hV
   simp+decide only[sv,p5,pI,e1]
   obtain⟨a3,ha3⟩: ∃z,IntKind.wrap .i64 ((1000:Int)+16*(n:Int)+ah[n].own)=z:=⟨_,rfl⟩
   simp+decide only[sv,aeD,aeC,aB9,s0,s1,w0,w1,wM,r5,a1,a2,A5]
   refine ao (CT ok) ?_
   simp+decide only[sv,Rp.c,s6,g1]
   refine afb _ _ ⟨n,9,0,[]⟩ .au true (by rw[hV];rfl) (by rw[hV];rfl) ?_ (aq (by simp[aa.set];rfl)) s6 rfl
   rw[hV]
   refine RE.kK K.l1 K.l2 ?_ (by omega) _
   show RE h rb rt (ah.set n ah[n]) af G
   rw[i5];exact⟨KG,RF.old oo⟩
  rw[aj A5] at hk
  have a3:IntKind.wrap .i64 ((1000:Int)+16*(n:Int)+ah[n].own)=1000+16*n+ah[n].own:=bj (by omega) (by omega)
  have a4:IntKind.wrap .i64 ((1000:Int)+16*(n:Int)+ah[n].own+1)=1000+16*n+ah[n].own+1:=bj (by omega) (by omega)
  have a5:IntKind.wrap .u16 ((1000:Int)+16*(n:Int)+ah[n].own+1)=((1000+16*n+ah[n].own.toNat+1:Nat):Int):=by
   have e:(1000:Int)+16*(n:Int)+ah[n].own+1=((1000+16*n+ah[n].own.toNat+1:Nat):Int):=by omega
   rw[e];exact amo (by omega)
  have oe:1000+16*n+ah[n].own.toNat+1<65536:=by omega
  simp+decide only[sv,p5,pI,e1]
  simp+decide only[sv,aeD,aeC,aB8,s0,s1,w0,w1,wM,r5,a1,a2,a3,a4,a5,A5]
  generalize 1000+16*n+ah[n].own.toNat+1=cc at*
  obtain⟨F,cp,RP,rf⟩:=aiP ok KG hn (cs:=[cc]) (tl:= .full) (fun c hc=>by rw[List.mem_singleton.1 hc];exact oe) (by simp)
  refine ao cp ?_
  have f1:=rf.cells fQ (by omega) (by omega) g1
  have f2:=rf.cells pK (by omega) (by omega) l5
  have wU:dD ah[n] [cc]=(9,ah[n])\/((dD ah[n] [cc]).1=0/\(dD ah[n] [cc]).2.own=ah[n].own):=by
   unfold dD
   split
   ·exact .inl rfl
   ·exact .inr ⟨rfl,rfl⟩
  rcases wU with wU|⟨mY,mX⟩
  ·rw[wU] at RP ⊢
   rw[wU,ax (by simp)] at hk
   simp+decide only[sv,Ym,s8,f2]
   exact DX _ F 9 ah[n] af hk (RE.from oo ⟨RP,rf⟩) f1 s6 s8
  ·rw[mY,aj (by simp)] at hk
   rw[mY]
   obtain⟨t7,g7⟩:=RP.top
   rw[kE] at g7
   have nF:=rf.1
   have q0: ∀cs,cellsOf (F.set bx cs) rb=_:=fun cs=>(show cellsOf (F.set bx cs) rb=cellsOf F rb by unfold cellsOf;simp only[aa.set];rw[aj (by omega)]).trans (aq g7)
   have q1: ∀cs,cellsOf (F.set bx cs) rt=_:=fun cs=>(show cellsOf (F.set bx cs) rt=cellsOf F rt by unfold cellsOf;simp only[aa.set];rw[aj (by omega)]).trans (aq RP.aU)
   have MG:n<(ah.set n (dD ah[n] [cc]).2).length:=by rw[kE];exact hn
   obtain⟨u1,u2,u3,u4⟩:=RP.row MG
   have u5:=u4 5 (by decide)
   rw[B9 hn,show((dD ah[n] [cc]).2.c aH)[5]? =some (.int .i64 (dD ah[n] [cc]).2.own) from rfl,mX] at u5
   have ul:n*12+5+1<=(aI aH (ah.set n (dD ah[n] [cc]).2)).flatten.length:=by omega
   have a6:IntKind.wrap .i64 (ah[n].own+1)=ah[n].own+1:=bj (by omega) (by omega)
   have wc:IntKind.wrap .u64 (cc:Int)=cc:=eo (by omega)
   have ls2:(ah.set n (dD ah[n] [cc]).2).length=ah.length:=kE
   have iF:=pt (l:=ah.set n (dD ah[n] [cc]).2) MG (j:=5) (v:=[.int .i64 (ah[n].own+1)]) (x':={(dD ah[n] [cc]).2 with own:=ah[n].own+1}) (by simp) (by rw[B9 hn];rfl)
   rw[rH] at iF
   have aNZ:List.take (n*12+5) (aI aH (ah.set n (dD ah[n] [cc]).2)).flatten++[AV.int .i64 (ah[n].own+1)]++List.drop (n*12+5+1) (aI aH (ah.set n (dD ah[n] [cc]).2)).flatten=(aI aH (ah.set n {(dD ah[n] [cc]).2 with own:=ah[n].own+1})).flatten:=iF
   have kk:=RP.kv _ (bw MG)
   rw[B9 hn] at kk
   have kl:=RP.ai MG
   rw[B9 hn] at kl
   have nbr: ¬bx=rt:=by omega
   have nrb: ¬rt=bx:=by omega
   simp+decide only[sv,Ym,s8,f2]
   simp+decide only[sv,an4,s0,s1,q0,q1,wM,u5,ul,a6,aNZ]
   have qb:cellsOf ((F.set bx (some (.cells [.int .i64 n, .int .i64 0, .int .u64 0, .vs (BS []) .au]))).set rt (some (.cells (aI aH (ah.set n {(dD ah[n] [cc]).2 with own:=ah[n].own+1})).flatten))) bx=some [.int .i64 n, .int .i64 0, .int .u64 0, .vs (BS []) .au]:=by
    unfold cellsOf;simp only[aa.set];rw[aj nbr];simp
   simp+decide only[sv,an3,s8,qb,wc]
   refine Lw _ _ 0 _ af cc [] .au hk (fun q=>absurd rfl q) ⟨?_,?_⟩ ?_ s6 s8
   ·have:=RP.lO (h':=(F.set bx (some (.cells [.int .i64 n, .int .i64 0, .int .u64 0, .vs (BS []) .au]))).set rt (some (.cells (aI aH (ah.set n {(dD ah[n] [cc]).2 with own:=ah[n].own+1})).flatten))) (x:={(dD ah[n] [cc]).2 with own:=ah[n].own+1}) (t:=n) kl.2 ⟨kk.aQ,kk.d,kk.st,kk.idle,kk.w,kk.dk,kk.m⟩ (ak _) (by rw[rH];simp[aa.set]) (by simp only[aa.set];rw[aj K.ne,aj (by omega)])
    rw[rH] at this
    exact this
   ·refine⟨?_,fun b hb q1 q2=>?_⟩
    ·show h.next<=F.next;omega
    ·simp only[aa.set];rw[aj q2,aj (by omega),rf.2 b (by omega) q1 q2,oo.get b hb]
   ·unfold cellsOf at f1 ⊢;simp only[aa.set];rw[aj (by omega),aj (by omega)];exact f1
 have n1:=bk h1
 by_cases h2:c.op=2
 ·have e2:=bW h2
  have hk:dE n ah[n] af c 0=⟨true,(ou ah[n] c.ai).1,(ou ah[n] c.ai).2,af,0,[]⟩:=by
   unfold dE
   by_cases jZ:names c.ai=false
   ·rw[ax ⟨.inl h2,jZ⟩]
    have:vC ah[n].ai c.ai=4:=ax jZ
    unfold ou
    rw[this,ax (by decide)]
   ·rw[aj (fun q=>jZ q.2)]
    unfold iO;rw[h2];rfl
  have csr:=Of Hu
  have Ig:=k.GM
  have x0:cellsOf (G.clean 13) rb=_:=(Old.refl G).clean.cells KG.l1 w0
  have x1:cellsOf (G.clean 13) rt=_:=(Old.refl G).clean.cells KG.l2 w1
  have x2:cellsOf (G.clean 13) h.next=_:=(Old.refl G).clean.cells (by omega) g0
  have x3:cellsOf (G.clean 13) bx=_:=(Old.refl G).clean.cells pK l5
  have l1:=KG.l1
  have l2:=KG.l2
  have lh:h.next<G.next:=by omega
  have cr:=aFM ok (h:=G.clean 13) (a:=ah[n].ai) (b:=c.ai) (t:= .au) (t':= .au) lsr csr (by omega) (by omega)
  simp only[Lb.c] at cr
  simp+decide only[sv,p5,rC,pI,n1,e2]
  refine bq 13 rfl rfl ?_
  simp+decide only[sv,an2,s0,s1,s5,x0,x1,x2,wM,iq,r3]
  refine dX cr (ba (ak _)) ?_
  unfold ou at hk
  generalize vC ah[n].ai c.ai=e at*
  simp+decide only[sv,s8,x3,xr]
  refine⟨fun j j1 j2=>by omega,?_⟩
  by_cases he:e=0
  case neg=>
   have bP: ¬(e:Int)=0:=by omega
   rw[ax he] at hk
   simp+decide only[sv,Yl,s8,bP]
   refine DX _ (G.clean 13) e ah[n] af hk (by rw[i5];exact⟨KG.old (Old.refl G).clean,RF.old oo.clean⟩) ?_ s6 s8
   exact(Old.refl G).clean.cells fQ g1
  subst he
  rw[aj (fun q=>q rfl)] at hk
  have KC:=KG.old ((Old.refl G).clean (n:=13))
  have y1:cellsOf (G.clean 13) (h.next+1)=some (fY.c .full):=(Old.refl G).clean.cells fQ g1
  simp+decide only[sv,Yl,s8]
  generalize hS:aa.set _ _ _=S
  have sk: ∀{b:Nat} {cs:List AV},b≠bx->cellsOf (G.clean 13) b=some cs->cellsOf S b=some cs:=fun{b cs} hb hc=>by
   rw[<-hS];unfold cellsOf at hc ⊢;simp only[aa.set];rw[aj hb];exact hc
  have RS:RE h rb rt ah af S:=by rw[<-hS];exact RE.kK K.l1 K.l2 ⟨KC,RF.old oo.clean⟩ (by omega) _
  have nS:S.next=G.next+13:=by rw[<-hS];rfl
  have gS:cellsOf S bx=some ((⟨n,0,0,[]⟩:Rp).c .au):=by rw[<-hS];exact aq (by simp[aa.set];rfl)
  have z0:cellsOf (S.clean 10) rb=_:=(Old.refl S).clean.cells (by omega) (sk (by omega) x0)
  have z1:cellsOf (S.clean 10) rt=_:=(Old.refl S).clean.cells (by omega) (sk (by omega) x1)
  have z2:cellsOf (S.clean 10) h.next=_:=(Old.refl S).clean.cells (by omega) (sk (by omega) x2)
  have z3:cellsOf (S.clean 10) (h.next+1)=some (fY.c .full):=(Old.refl S).clean.cells (by omega) (sk (by omega) y1)
  have z4:cellsOf (S.clean 10) bx=some ((⟨n,0,0,[]⟩:Rp).c .au):=(Old.refl S).clean.cells (by omega) gS
  have m1:rb<S.next:=by omega
  have m2:rt<S.next:=by omega
  have m3:h.next<S.next:=by omega
  clear hS
  refine bq 10 rfl rfl ?_
  simp+decide only[sv,an1,s0,s1,s5,z0,z1,z2,wM,iq]
  have iF:=pt (l:=ah) hn (j:=0) (v:=[.int .u8 c.ai.d, .vs (aB.R c.ai.ps) .au]) (x':={ah[n] with ai:=c.ai}) (by simp) rfl
  rw[show List.take (n*12) (aI aH ah).flatten++[AV.int IntKind.u8 ↑c.ai.d,AV.vs (aB.R c.ai.ps) aL.au]++List.drop (n*12+(1+1)) (aI aH ah).flatten=_ from iF]
  have lmd:=(E3.1 Hu).2.1
  have kv2:KV {ah[n] with ai:=c.ai}:=⟨csr,by show c.ai.d≠0;omega,kx.st,kx.idle,kx.w,kx.dk,kx.m⟩
  refine⟨fun j j1 j2=>by omega,fin _ _ _ .au hk rfl ⟨RS.1.lO (x:={ah[n] with ai:=c.ai}) ⟨k.ai,Ig⟩ kv2 ?_ ?_ ?_,RS.2.trans ⟨?_,fun b hb q1 q2=>?_⟩⟩ ?_ ?_ s6 s8⟩
  ·show S.next<=S.next+10;omega
  ·simp[aa.set]
  ·simp only[aa.set,aa.clean];rw[aj K.ne,ax m1]
  ·show S.next<=S.next+10;omega
  ·simp only[aa.set,aa.clean];rw[aj q2,ax hb]
  ·unfold cellsOf at z3 ⊢;simp only[aa.set];rw[aj (by omega)];exact z3
  ·unfold cellsOf at z4 ⊢;simp only[aa.set];rw[aj (by omega)];exact z4
 have n2:=bk h2
 by_cases h3:c.op=3
 ·have e3:=bW h3
  have hk:dE n ah[n] af c 0=⟨true,(rU ah[n].ai af c).1,ah[n],(rU ah[n].ai af c).2.2,(rU ah[n].ai af c).2.1,[]⟩:=by
   unfold dE rU
   by_cases jZ:names c.ai=false
   ·rw[ax ⟨.inr h3,jZ⟩,ax jZ]
   ·rw[aj (fun q=>jZ q.2),aj jZ]
    unfold iO;rw[h3];rfl
  have kr:=aHw (l:=ah[n].ai) (af:=af) (c:=c)
  obtain⟨F,cp,RP⟩:=aGc ok KG hn (τ:=aC) k Hu (kZ h3) hl
  generalize rU ah[n].ai af c=W at*
  have f1:=RP.2.cells fQ (by omega) (by omega) g1
  have f2:=RP.2.cells pK (by omega) (by omega) l5
  simp only[ed] at cp
  simp+decide only[sv,p5,rC,sF,an0,s0,s1,s5,pI,n1,n2,e3,g0]
  refine ao cp ?_
  simp+decide only[sv,s8,f2,xr]
  exact Lw _ F W.1 ah[n] W.2.2 W.2.1 [] .au hk (fun q=>⟨kr q,rfl⟩) (by rw[i5];exact RE.from oo RP) f1 s6 s8
 have n3:=bk h3
 by_cases h4:c.op=4
 ·have e4:=bW h4
  have hk:dE n ah[n] af c 0=⟨true,(lJ ah[n].ai af c).1,ah[n],af,0,(lJ ah[n].ai af c).2⟩:=by
   rw[pV (fun q=>by rcases q.1 with q|q<;>omega)];unfold iO;rw[h4];rfl
  have kr:=aIQ (l:=ah[n].ai) (af:=af) (c:=c)
  have cp:=aF9 ok KG hn (τ:=aC) k h4
  generalize lJ ah[n].ai af c=W at*
  simp only[ed] at cp
  simp+decide only[sv,p5,rC,sF,tZ,Yk,s0,s1,s5,pI,n1,n2,n3,e4,g0]
  refine ao cp ?_
  simp+decide only[sv,s8,l5,xr]
  exact Lw _ G W.1 ah[n] af 0 W.2 .au hk (fun q=>⟨rfl,kr q⟩) (by rw[i5];exact⟨KG,RF.old oo⟩) g1 s6 s8
 have n4:=bk h4
 by_cases h5:c.op=5
 ·have e5:=bW h5
  have hk:dE n ah[n] af c 0=⟨true,(iN ah[n].ai af c).1,ah[n],(iN ah[n].ai af c).2,0,[]⟩:=by
   rw[pV (fun q=>by rcases q.1 with q|q<;>omega)];unfold iO;rw[h5];rfl
  obtain⟨F,cp,RP⟩:=aFr ok KG hn (τ:=aC) k h5 (by omega)
  generalize iN ah[n].ai af c=W at*
  have f1:=RP.2.cells fQ (by omega) (by omega) g1
  have f2:=RP.2.cells pK (by omega) (by omega) l5
  simp only[ed] at cp
  simp+decide only[sv,p5,rC,sF,tZ,vH,Yk,s0,s1,s5,pI,n1,n2,n3,n4,e5,g0]
  refine ao cp ?_
  simp+decide only[sv,s8,f2,xr]
  exact DX _ F W.1 ah[n] W.2 hk (by rw[i5];exact RE.from oo RP) f1 s6 s8
 have n5:=bk h5
 by_cases h6:c.op=6
 ·have e6:=bW h6
  have hk:dE n ah[n] af c 0=⟨true,(kA ah[n].ai af c).1,ah[n],(kA ah[n].ai af c).2,0,[]⟩:=by
   rw[pV (fun q=>by rcases q.1 with q|q<;>omega)];unfold iO;rw[h6];rfl
  obtain⟨F,cp,RP⟩:=aGf ok KG hn (c:=c) k.id (by omega)
  generalize kA ah[n].ai af c=W at*
  have f1:=RP.2.cells fQ (by omega) (by omega) g1
  have f2:=RP.2.cells pK (by omega) (by omega) l5
  simp+decide only[sv,p5,rC,sF,tZ,vH,xG,anZ,s0,s1,s5,pI,n1,n2,n3,n4,n5,e6,g0]
  refine ao cp ?_
  simp+decide only[sv,s8,f2]
  exact DX _ F W.1 ah[n] W.2 hk (by rw[i5];exact RE.from oo RP) f1 s6 s8
 have n6:=bk h6
 by_cases h7:c.op=7
 ·have e7:=bW h7
  have hk:dE n ah[n] af c 0=⟨true,(mE ah[n] af c).1,(mE ah[n] af c).2,af,0,[]⟩:=by
   rw[pV (fun q=>by rcases q.1 with q|q<;>omega)];unfold iO;rw[h7];rfl
  obtain⟨F,cp,RP⟩:=aFt ok KG hn (c:=c) k.id
  generalize mE ah[n] af c=W at*
  have f1:=RP.2.cells fQ (by omega) (by omega) g1
  have f2:=RP.2.cells pK (by omega) (by omega) l5
  simp+decide only[sv,p5,rC,sF,tZ,vH,xG,zu,anY,s0,s1,s5,pI,n1,n2,n3,n4,n5,n6,e7,g0]
  refine ao cp ?_
  simp+decide only[sv,s8,f2]
  exact DX _ F W.1 W.2 af hk (RE.from oo RP) f1 s6 s8
 have n7:=bk h7
 by_cases h8:c.op=8
 ·have e8:=bW h8
  have hk:dE n ah[n] af c 0=⟨true,(kH ah[n].ai af c).1,ah[n],(kH ah[n].ai af c).2,0,[]⟩:=by
   rw[pV (fun q=>by rcases q.1 with q|q<;>omega)];unfold iO;rw[h8];rfl
  obtain⟨F,cp,RP⟩:=aF8 ok KG hn (τ:=aC) k (by omega)
  generalize kH ah[n].ai af c=W at*
  have f1:=RP.2.cells fQ (by omega) (by omega) g1
  have f2:=RP.2.cells pK (by omega) (by omega) l5
  simp only[ed] at cp
  simp+decide only[sv,p5,rC,sF,tZ,vH,xG,zu,BI,anX,s0,s1,s5,pI,n1,n2,n3,n4,n5,n6,n7,e8,g0]
  refine ao cp ?_
  simp+decide only[sv,s8,f2]
  exact DX _ F W.1 ah[n] W.2 hk (by rw[i5];exact RE.from oo RP) f1 s6 s8
 have n8:=bk h8
 by_cases afE:c.op=9\/c.op=10
 ·obtain⟨t5,g5⟩:=KG.top
  have x0:cellsOf (G.clean 18) rb=_:=(Old.refl G).clean.cells KG.l1 (aq g5)
  have x1:cellsOf (G.clean 18) rt=_:=(Old.refl G).clean.cells KG.l2 (aq KG.aU)
  have x2:cellsOf (G.clean 18) h.next=_:=(Old.refl G).clean.cells (by omega) g0
  have l1:=KG.l1
  have l2:=KG.l2
  have lh:h.next<G.next:=by omega
  obtain⟨r1,r2,r3,r4⟩:=K.row hn
  have iZ:(n:Int)<(ah.length:Int):=by omega
  have aTh:n*12+6+1<=(aI aH ah).flatten.length:=by omega
  have aT: ¬h.next=rt:=by omega
  have To: ¬rb=rt:=K.ne
  have Es:List.take (n*12+6) (aI aH ah).flatten++[AV.int .i64 1]++List.drop (n*12+6+1) (aI aH ah).flatten=(aI aH (ah.set n {ah[n] with does:=1})).flatten:=pt (l:=ah) hn (j:=6) (v:=[.int .i64 1]) (x':={ah[n] with does:=1}) (by simp) rfl
  have HT:n<(ah.set n {ah[n] with does:=1}).length:=by rw[kE];exact hn
  have Er:List.take (n*12+7) (aI aH (ah.set n {ah[n] with does:=1})).flatten++[AV.int .u64 c.id]++List.drop (n*12+7+1) (aI aH (ah.set n {ah[n] with does:=1})).flatten=(aI aH (ah.set n {ah[n] with does:=1,id:=c.id})).flatten:=by
   have:=pt (l:=ah.set n {ah[n] with does:=1}) HT (j:=7) (v:=[.int .u64 c.id]) (x':={ah[n] with does:=1,id:=c.id}) (by simp) (by rw[B9 hn];rfl)
   rw[rH] at this
   exact this
  have aEj:n*12+7+1<=(aI aH (ah.set n {ah[n] with does:=1})).flatten.length:=by rw[kS l7,gI,kE];omega
  obtain⟨_,lk⟩:=K.ai hn
  obtain⟨i1,i2,i3,i4⟩:=kx.idle Ez
  have kv1:KV {ah[n] with does:=1,id:=c.id}:=⟨kx.aQ,kx.d,kx.st,fun q=>absurd q (by show¬(1:Int)=0;decide),fun _=>⟨i2,i3,i4⟩, .inr (.inl rfl),fun q=>absurd q (by show¬(1:Int)=2;decide)⟩
  have fz:=fun i=>ba (h:=G) (n:=18) (m:=18) (base:=G.next) (i:=i) (ak _)
  have e9:((c.op=9)=True/\(c.op=10)=False)\/((c.op=9)=False/\(c.op=10)=True):=by
   rcases afE with q|q
   ·exact .inl ⟨bW q,bk (by omega)⟩
   ·exact .inr ⟨bk (by omega),bW q⟩
  have R1:RE h rb rt (ah.set n {ah[n] with does:=1,id:=c.id}) af ((G.clean 18).set rt (some (.cells (aI aH (ah.set n {ah[n] with does:=1,id:=c.id})).flatten))):=by
   refine⟨KG.lO (x:={ah[n] with does:=1,id:=c.id}) lk kv1 (by show G.next<=G.next+18;omega) (by simp[aa.set]) (by simp only[aa.set,aa.clean];rw[aj To,ax l1]),(RF.old oo).trans ⟨by show G.next<=G.next+18;omega,fun b hb q1 q2=>?_⟩⟩
   simp only[aa.set,aa.clean];rw[aj q2,ax hb]
  have fN: ∀{b:Nat} {cs:List AV},b<G.next->b≠rt->cellsOf G b=some cs->cellsOf ((G.clean 18).set rt (some (.cells (aI aH (ah.set n {ah[n] with does:=1,id:=c.id})).flatten))) b=some cs:=fun{b cs} hb aT hc=>by
   have:cellsOf (G.clean 18) b=some cs:=(Old.refl G).clean.cells hb hc
   unfold cellsOf at this ⊢;simp only[aa.set];rw[aj aT];exact this
  have y0:=fN (by omega) (by omega) g0
  have y1:=fN fQ (by omega) g1
  have aTj: ∀y:Th,y.id<2^64->y.to<2^64-> ∀x∈ah.set n y,x.id<2^64/\x.to<2^64:=fun y q1 q2 x hx=>by
   rcases List.mem_or_eq_of_mem_set hx with hx|rfl
   ·exact(hi x hx).2
   ·exact⟨q1,q2⟩
  have go: ∀(ρ:Env) (H:aa) (y:Th) (K1:Env->aa->Prop),(∀ρ H,K0 .ret ρ H->K1 ρ H)->gf n (ah.set n y) af=V->y.id<2^64->y.to<2^64->RE h rb rt (ah.set n y) af H->h.next+1<H.next->cellsOf H (h.next+1)=some (fY.c .full)->ρ 0= .ptr rb 0->ρ 1= .int .i64 n->ρ 6= .ptr (h.next+1) 0->exec P Yh ρ H K1:=by
   intro ρ H y K1 U3 hg q1 q2 R lH ch s0 s1 s6
   obtain⟨F,cp,RQ⟩:=ajp ok R.1 (t:=(n:Int)) (aTj y q1 q2) (by omega)
   rw[hg] at cp RQ
   have fh:=RQ.2.cells lH (by omega) (by omega) ch
   simp only[Rp.c] at fh
   simp+decide only[sv,Yh,s0,s1]
   refine ao cp ?_
   simp+decide only[sv,s6,fh,Cr.v,Rp.c]
   refine U3 _ _ (afb _ _ V.r .au V.is rfl rfl (RE.kK K.l1 K.l2 ⟨RQ.1,R.2.trans RQ.2⟩ (by omega) _) (aq (by simp[aa.set];rfl)) s6 rfl)
  have first: ∀(ρ:Env) (K1:Env->aa->Prop),ρ 0= .ptr rb 0->ρ 1= .int .i64 n->ρ 5= .ptr h.next 0->ρ 6= .ptr (h.next+1) 0->(∀ρ,ρ 0= .ptr rb 0->ρ 1= .int .i64 n->ρ 5= .ptr h.next 0->ρ 6= .ptr (h.next+1) 0->K1 ρ ((G.clean 18).set rt (some (.cells (aI aH (ah.set n {ah[n] with does:=1,id:=c.id})).flatten))))-> ∀K2:cC->Env->aa->Prop,(∀ρ H,K1 ρ H->K2 .normal ρ H)->WP P (.jG Yj [[],[],[],[],[],[],[],[],[],[],[],[],[],[],[11],[],[],[]]) K2 ρ G:=by
   intro ρ K1 s0 s1 s5 s6 hk K2 mX
   refine Om (fun b=>b=rt) 18 rfl ?_
   simp+decide only[sv,Yj,sw,s0,s1,s5,x0,x1,x2,l1,lh,iZ,aTh,aEj,Es,Er,aT,To,xr]
   refine⟨(jx l2).2 (fz _),NH rfl,(jx l2).2 (fz _),Bh rfl,?_⟩
   exact mX _ _ (hk _ s0 s1 s5 s6)
  have nT:((G.clean 18).set rt (some (.cells (aI aH (ah.set n {ah[n] with does:=1,id:=c.id})).flatten))).next=G.next+18:=rfl
  generalize(G.clean 18).set rt (some (.cells (aI aH (ah.set n {ah[n] with does:=1,id:=c.id})).flatten))=T at*
  rcases e9 with⟨e9,EJ⟩|⟨e9,EJ⟩
  ·simp+decide only[sv,p5,rC,sF,tZ,vH,xG,zu,BI,Dh,pI,n1,n2,n3,n4,n5,n6,n7,n8,e9]
   refine first _ _ ?_ ?_ ?_ ?_ ?_ _ (fun _ _ h=>h)
   ·exact s0
   ·exact s1
   ·exact s5
   ·exact s6
   clear s0 s1 s5 s6 s8 pI
   intro ρ s0 s1 s5 s6
   simp+decide only[sv,Yi,s5,y0,EJ]
   refine go _ _ _ _ (fun ρ H h=>by simp+decide only[sv];exact h) ((ajB hn kx Ez (.inl ⟨of_eq_true e9,rfl⟩)).trans hV.symm) k.id (by show ah[n].to<2^64;exact MM.2.2) R1 (by omega) y1 s0 s1 s6
  ·simp+decide only[sv,p5,rC,sF,tZ,vH,xG,zu,BI,Dh,FP,pI,n1,n2,n3,n4,n5,n6,n7,n8,e9,EJ]
   refine first _ _ ?_ ?_ ?_ ?_ ?_ _ (fun _ _ h=>h)
   ·exact s0
   ·exact s1
   ·exact s5
   ·exact s6
   clear s0 s1 s5 s6 s8 pI
   intro ρ s0 s1 s5 s6
   obtain⟨t6,g6⟩:=R1.1.top
   rw[kE] at g6
   have u0:cellsOf (T.clean 28) rb=_:=(Old.refl T).clean.cells R1.1.l1 (aq g6)
   have u1:cellsOf (T.clean 28) rt=_:=(Old.refl T).clean.cells R1.1.l2 (aq R1.1.aU)
   have u2:cellsOf (T.clean 28) h.next=_:=(Old.refl T).clean.cells (by omega) y0
   have m1:=R1.1.l1
   have m2:=R1.1.l2
   have mh:h.next<T.next:=by omega
   have y1l:(ah.set n {ah[n] with does:=1,id:=c.id}).length=ah.length:=kE
   have a0:(aI aH (ah.set n {ah[n] with does:=1,id:=c.id})).flatten.length=ah.length*12:=by rw[kS l7,gI,kE]
   have a1:n*12+6+1<=(aI aH (ah.set n {ah[n] with does:=1,id:=c.id})).flatten.length:=by omega
   have hn3:n<(ah.set n {ah[n] with does:=1,id:=c.id}).length:=by rw[kE];exact hn
   have hq1:List.take (n*12+6) (aI aH (ah.set n {ah[n] with does:=1,id:=c.id})).flatten++[AV.int .i64 2]++List.drop (n*12+6+1) (aI aH (ah.set n {ah[n] with does:=1,id:=c.id})).flatten=(aI aH (ah.set n {ah[n] with does:=2,id:=c.id})).flatten:=by
    have:=pt (l:=ah.set n {ah[n] with does:=1,id:=c.id}) hn3 (j:=6) (v:=[.int .i64 2]) (x':={ah[n] with does:=2,id:=c.id}) (by simp) (by rw[B9 hn];rfl)
    rw[rH] at this
    exact this
   have MI:n<(ah.set n {ah[n] with does:=2,id:=c.id}).length:=by rw[kE];exact hn
   have a2:n*12+8+1<=(aI aH (ah.set n {ah[n] with does:=2,id:=c.id})).flatten.length:=by rw[kS l7,gI,kE];omega
   have yI:List.take (n*12+8) (aI aH (ah.set n {ah[n] with does:=2,id:=c.id})).flatten++[AV.int .u64 c.to]++List.drop (n*12+8+1) (aI aH (ah.set n {ah[n] with does:=2,id:=c.id})).flatten=(aI aH (ah.set n {ah[n] with does:=2,id:=c.id,to:=c.to})).flatten:=by
    have:=pt (l:=ah.set n {ah[n] with does:=2,id:=c.id}) MI (j:=8) (v:=[.int .u64 c.to]) (x':={ah[n] with does:=2,id:=c.id,to:=c.to}) (by simp) (by rw[B9 hn];rfl)
    rw[rH] at this
    exact this
   have hn5:n<(ah.set n {ah[n] with does:=2,id:=c.id,to:=c.to}).length:=by rw[kE];exact hn
   have a3:n*12+10+1<=(aI aH (ah.set n {ah[n] with does:=2,id:=c.id,to:=c.to})).flatten.length:=by rw[kS l7,gI,kE];omega
   have hq3:List.take (n*12+10) (aI aH (ah.set n {ah[n] with does:=2,id:=c.id,to:=c.to})).flatten++[AV.int .i64 c.n]++List.drop (n*12+10+1) (aI aH (ah.set n {ah[n] with does:=2,id:=c.id,to:=c.to})).flatten=(aI aH (ah.set n {ah[n] with does:=2,id:=c.id,to:=c.to,n:=c.n})).flatten:=by
    have:=pt (l:=ah.set n {ah[n] with does:=2,id:=c.id,to:=c.to}) hn5 (j:=10) (v:=[.int .i64 c.n]) (x':={ah[n] with does:=2,id:=c.id,to:=c.to,n:=c.n}) (by simp) (by rw[B9 hn];rfl)
    rw[rH] at this
    exact this
   have kv2:KV {ah[n] with does:=2,id:=c.id,to:=c.to,n:=c.n}:=⟨kx.aQ,kx.d,kx.st,fun q=>absurd q (by show¬(2:Int)=0;decide),fun q=>absurd q (by show¬(2:Int)=1;decide), .inr (.inr rfl),fun _=>⟨by show 0<=ah[n].done;omega,by show ah[n].done<=c.n\/c.n<0;omega⟩⟩
   have R2:RE h rb rt (ah.set n {ah[n] with does:=2,id:=c.id,to:=c.to,n:=c.n}) af ((T.clean 28).set rt (some (.cells (aI aH (ah.set n {ah[n] with does:=2,id:=c.id,to:=c.to,n:=c.n})).flatten))):=by
    have:=R1.1.lO (h':=(T.clean 28).set rt (some (.cells (aI aH (ah.set n {ah[n] with does:=2,id:=c.id,to:=c.to,n:=c.n})).flatten))) (x:={ah[n] with does:=2,id:=c.id,to:=c.to,n:=c.n}) (t:=n) lk kv2 (by show T.next<=T.next+28;omega) (by rw[rH];simp[aa.set]) (by simp only[aa.set,aa.clean];rw[aj To,ax m1])
    rw[rH] at this
    refine⟨this,R1.2.trans ⟨by show T.next<=T.next+28;omega,fun b hb q1 q2=>?_⟩⟩
    simp only[aa.set,aa.clean];rw[aj q2,ax hb]
   have z1:cellsOf ((T.clean 28).set rt (some (.cells (aI aH (ah.set n {ah[n] with does:=2,id:=c.id,to:=c.to,n:=c.n})).flatten))) (h.next+1)=some (fY.c .full):=by
    have:cellsOf (T.clean 28) (h.next+1)=_:=(Old.refl T).clean.cells (by omega) y1
    unfold cellsOf at this ⊢;simp only[aa.set];rw[aj (by omega)];exact this
   have fz:=fun i=>ba (h:=T) (n:=28) (m:=28) (base:=T.next) (i:=i) (ak _)
   simp+decide only[sv,Yi,s5,y0,EJ]
   refine Om (fun b=>b=rt) 28 rfl ?_
   simp+decide only[sv,anW,sw,s0,s1,s5,u0,u1,u2,m1,mh,iZ,a1,a2,a3,hq1,yI,hq3,aT,To,xr]
   refine⟨(jx m2).2 (fz _),NH rfl,(jx m2).2 (fz _),Bh rfl,(jx m2).2 (fz _),Bh rfl,?_⟩
   refine go _ _ _ _ (fun ρ H h=>by simp+decide only[sv];exact h) ((ajB hn kx Ez (.inr ⟨of_eq_true EJ,rfl⟩)).trans hV.symm) k.id k.to R2 (by show h.next+1<T.next+28;omega) z1 s0 s1 s6
 have n9:(c.op=9)=False:=bk (by omega)
 have wJ:(c.op=10)=False:=bk (by omega)
 by_cases m4:c.op=11
 ·have Va:=bW m4
  have hk:dE n ah[n] af c 0=⟨true,(lI ah[n].ai af c).1,ah[n],af,(lI ah[n].ai af c).2.1,(lI ah[n].ai af c).2.2⟩:=by
   rw[pV (fun q=>by rcases q.1 with q|q<;>omega)];unfold iO;rw[m4];rfl
  have kr:=aIM (l:=ah[n].ai) (af:=af) (c:=c)
  have cp:=aF7 ok KG hn (c:=c) k.id
  generalize lI ah[n].ai af c=W at*
  rw[hk] at hV
  simp+decide only[sv,p5,rC,sF,tZ,vH,xG,zu,BI,Dh,FP,Jr,anV,s0,s1,s5,pI,n1,n2,n3,n4,n5,n6,n7,n8,n9,wJ,Va,g0]
  refine ao cp ?_
  simp+decide only[sv,Rp.c,s6,g1]
  refine afb _ _ ⟨n,W.1,W.2.1,W.2.2⟩ .au true ?_ (by rw[hV];rfl) ?_ (aq (by simp[aa.set];rfl)) s6 rfl
  ·rw[hV];unfold told;simp only;exact rr _ _ _ kr
  ·rw[hV]
   refine RE.kK K.l1 K.l2 ?_ (by omega) _
   show RE h rb rt (ah.set n ah[n]) af G
   rw[i5];exact⟨KG,RF.old oo⟩
 have Eb:=bk m4
 by_cases dU:c.op=12
 ·have e12:=bW dU
  have hk:dE n ah[n] af c 0=⟨true,0,ah[n],af,n,cE ah[n].ai⟩:=by
   rw[pV (fun q=>by rcases q.1 with q|q<;>omega)];unfold iO;rw[dU];rfl
  obtain⟨t5,g5⟩:=KG.top
  have d0:=aq g5
  have d1:=aq KG.aU
  obtain⟨r1,r2,r3,r4⟩:=K.row hn
  have iZ:(n:Int)<(ah.length:Int):=by omega
  have hle:n*12+2<=(aI aH ah).flatten.length:=by omega
  obtain⟨q1,q2,q3⟩:=K.ai hn
  have Mi:IntKind.wrap .u64 (n:Int)=n:=eo (by omega)
  have cp:=Nq ok (h:=G) (b:=[]) (t:= .full) (l:=ah[n].ai) (t':= .au) q2 (by simp)
  simp only[Lb.c] at cp
  simp+decide only[sv,p5,rC,sF,tZ,vH,xG,zu,BI,Dh,FP,Jr,Ph,anU,s0,s1,pI,n1,n2,n3,n4,n5,n6,n7,n8,n9,wJ,Eb,e12,d0,d1,iZ,hle,r3,Mi]
  refine ao cp ?_
  simp+decide only[sv,s8,l5,xr]
  exact Lw _ G 0 ah[n] af n (cE ah[n].ai) .au hk (fun q=>absurd rfl q) (by rw[i5];exact⟨KG,RF.old oo⟩) g1 s6 s8
 have Mn:=bk dU
 by_cases rh:c.op=13
 ·have e13:=bW rh
  have hk:dE n ah[n] af c 0=⟨true,0,ah[n],af,0,[]⟩:=by
   rw[pV (fun q=>by rcases q.1 with q|q<;>omega)];unfold iO;rw[rh];rfl
  simp+decide only[sv,p5,rC,sF,tZ,vH,xG,zu,BI,Dh,FP,Jr,Ph,Yg,pI,n1,n2,n3,n4,n5,n6,n7,n8,n9,wJ,Eb,Mn,e13]
  exact fin _ G _ .au hk rfl (by rw[i5];exact⟨KG,RF.old oo⟩) g1 gg s6 s8
 have n13:=bk rh
 have hk:dE n ah[n] af c 0=⟨true,2,ah[n],af,0,[]⟩:=by
  rw[pV (fun q=>by rcases q.1 with q|q<;>omega)];unfold iO
  rw[aj h1,aj h2,aj h3,aj h4,aj h5,aj h6,aj h7,aj h8,aj (fun q=>afE (.inl q)),aj (fun q=>afE (.inr q)),aj m4,aj dU,aj rh]
 simp+decide only[sv,p5,rC,sF,tZ,vH,xG,zu,BI,Dh,FP,Jr,Ph,Yg,anT,s8,pI,n1,n2,n3,n4,n5,n6,n7,n8,n9,wJ,Eb,Mn,n13,l5]
 exact DX _ G 2 ah[n] af hk (by rw[i5];exact⟨KG,RF.old oo⟩) g1 s6 s8
end
section
open Go
variable {P:Program}
def aIy {v:AV} (h:v.one=true):v.strip.one=true:=by
 cases v<;>simp_all[AV.strip,AV.one]
def HR.Xn (H:HR ι I h w) {b:Nat} (hg:h.get b=some (.cells cs)):HR ι I (h.set b (some (.cells (AV.a8 cs)))) w:=by
 have hx: ∀b' x,(h.set b (some (.cells (AV.a8 cs)))).get b'=some x-> ∃y,h.get b'=some y:=fun b' x hq=>by
  by_cases e:b'=b
  ·subst e;exact⟨_,hg⟩
  ·simp only[aa.set] at hq;rw[aj e] at hq;exact⟨x,hq⟩
 have aT: ∀b',b'≠b->(h.set b (some (.cells (AV.a8 cs)))).get b'=h.get b':=fun b' e=>by simp only[aa.set];rw[aj e]
 have heq:(h.set b (some (.cells (AV.a8 cs)))).get b=some (.cells (AV.a8 cs)):=by simp[aa.set]
 refine⟨H.dI,H.inside,fun b' b8 l hc hl=>?_,fun b' es l hc hl=>?_,fun b' l hc hl=>?_,fun b1 b2 l1 l2 x1 x2 k j hn h1 h2 g1 g2=>?_,fun b' l x k j hl hq=>?_,H.eP,fun b' b8 cb o room hc hl=>?_⟩
 ·by_cases e:b'=b
  ·subst e
   rw[heq] at hc
   cases hc
   obtain⟨cb,o,room,rfl,h1,h2,h3⟩:=H.cells b' cs l hg hl
   refine⟨cb,o,room,rfl,by rw[CU];exact h1,fun v hv=>?_,fun j hj=>?_⟩
   ·obtain⟨j,hj,rfl⟩:=jm hv
    obtain⟨u,hu,e⟩:=Bj (bn hj)
    rw[e]
    exact aIy (h2 u (iC hu))
   ·obtain⟨c,q1,q2,q3⟩:=h3 j hj
    refine⟨c,q1,q2,fun v hv=>?_⟩
    obtain⟨u,hu,rfl⟩:=Bj hv
    exact(q3 u hu).strip
  ·rw[aT b' e] at hc;exact H.cells b' b8 l hc hl
 ·by_cases e:b'=b
  ·subst e;rw[heq] at hc;cases hc
  ·rw[aT b' e] at hc;exact H.maps b' es l hc hl
 ·by_cases e:b'=b
  ·subst e;rw[heq] at hc;cases hc
  ·rw[aT b' e] at hc;exact H.iE b' l hc hl
 ·obtain⟨y1,k1⟩:=hx _ _ g1
  obtain⟨y2,k2⟩:=hx _ _ g2
  exact H.eN b1 b2 l1 l2 y1 y2 k j hn h1 h2 k1 k2
 ·obtain⟨y,k1⟩:=hx _ _ hq
  exact H.bZ b' l y k j hl k1
 ·by_cases e:b'=b
  ·subst e;exact H.pl b' cs cb o room hg hl
  ·rw[aT b' e] at hc;exact H.pl b' b8 cb o room hc hl
def al.Xn (hc:al P f args h r h') {b:Nat} (hg:h'.get b=some (.cells cs)) (hb:h.next<=b):al P f args h r (h'.set b (some (.cells (AV.a8 cs)))):=by
 intro ι I w cU H hl
 refine(hc ι I w cU H hl).mono ?_
 rintro e w' ⟨v,ι',I',rfl,hv,H',E⟩
 have ow: ∀k j,fJ ι' (h'.set b (some (.cells (AV.a8 cs)))) k j->fJ ι' h' k j:=by
  rintro k j ⟨b',l,x,q1,q2,q3⟩
  by_cases e:b'=b
  ·subst e;exact⟨b',l,_,q1,hg,q3⟩
  ·simp only[aa.set] at q2;rw[aj e] at q2;exact⟨b',l,x,q1,q2,q3⟩
 exact⟨v,ι',I',rfl,hv,H'.Xn hg,E.fN,E.more,E.next,E.bZ,E.os,E.tape,E.output,E.size,E.block,E.cell,E.frozen,fun k j q=>E.own k j (ow k j q),E.jW,fun b' q1 q2=>by
  have:=E.lost b' q1 q2
  simp only[aa.set];rw[aj (fun e=>q1 (by subst e;exact hb))];exact this⟩
end
section
open Go
variable {P:Program} {h:aa} {rb rt t:Nat} {ah:List Th} {af:List Ob}
def aE1 (ok:aA P tb) {r:Rp}:al P 36 [.agg (r.c τ), .agg (r.c τ')] h (.bool true) h:=by
 refine ok.bA c36 ?_
 simp+decide only[sv,c36,aB7,Rp.c]
 generalize hX:aa.at _ _ _=X
 have oX:Old h X:=by rw[<-hX];exact((Old.refl h).at (ak _)).at (by omega)
 have x0:cellsOf X h.next=some (r.c τ):=by rw[<-hX];exact aq (by simp[aa.at];rfl)
 have x1:cellsOf X (h.next+1)=some (r.c τ'):=by rw[<-hX];exact aq (by simp[aa.at];rfl)
 clear hX
 simp only[Rp.c] at x0 x1
 have e1:bH false .eql (.str ⟨r.data.toArray⟩) (.str ⟨r.data.toArray⟩)=some (.bool true):=by rw[akN];simp
 simp+decide only[sv,aB6,x0,x1,iM,xt,e1]
 exact oX.get
def aG9 (ok:aA P tb) {c:Cf} (hc:jX c=true) (hl: ∀l∈c.aU,l.ok): ∃rb rt h',al P 27 [.agg (c.c τ)] h (.aE [.ptr rb 0, .int .i64 0]) h'/\RK h' rb rt (c.aU.map iV) [root c.aP]/\Old h h'/\h.next<=rb/\h.next<=rt:=by
 have MU:=hc
 unfold jX at MU
 simp only[fV,rK,ui] at MU
 obtain⟨⟨⟨⟨⟨⟨a1,a2⟩,a3⟩,a4⟩,a5⟩,a6⟩,a7⟩:=MU
 suffices key: ∃v h',al P 27 [.agg (c.c τ)] h v h'/\ ∃rb rt,v= .aE [.ptr rb 0, .int .i64 0]/\h'.get rb=some (.cells [.vs [(root c.aP).c mS] .full, .rs rt 0 c.aU.length 12])/\h'.get rt=some (.cells (aI aH (c.aU.map iV)).flatten)/\rb<h'.next/\rt<h'.next/\rb≠rt/\Old h h'/\h.next<=rb/\h.next<=rt by
  obtain⟨v,h',d9,rb,rt,rfl,g1,g2,l1,l2,ne,o,n1,n2⟩:=key
  have e:AV.a8 [.vs [(root c.aP).c mS] .full, .rs rt 0 c.aU.length 12]=[.vs (bg [root c.aP]) .au, .rs rt 0 c.aU.length 12]:=by
   simp only[AV.a8,AV.strip,AV.fU,vj];rfl
  have hs:=d9.Xn g1 n1
  rw[e] at hs
  refine⟨rb,rt,_,hs,⟨⟨.au,by simp[aa.set]⟩,?_,l1,l2,ne,?_,?_,?_,⟨_,rfl⟩,by simp⟩,o.set n1,n1,n2⟩
  ·simp only[aa.set];rw[aj (Ne.symm ne)];exact g2
  ·exact⟨List.pairwise_singleton _ _,fun o ho=>by rw[List.mem_singleton.1 ho];exact amw a1 a2⟩
  ·exact⟨by rw[fp];exact a6,fun x hx=>by
    obtain⟨y,hy,rfl⟩:=List.mem_map.1 hx
    exact⟨hl y hy,Bp (a7 y hy)⟩⟩
  ·intro x hx
   obtain⟨y,hy,rfl⟩:=List.mem_map.1 hx
   have:=(E3.1 (a7 y hy)).2.1
   exact KV.iV (Of (a7 y hy)) (by omega)
 obtain⟨Q,hQ⟩: ∃Q:AV->aa->Prop,∀v h',Q v h'↔ ∃rb rt,v= .aE [.ptr rb 0, .int .i64 0]/\h'.get rb=some (.cells [.vs [(root c.aP).c mS] .full, .rs rt 0 c.aU.length 12])/\h'.get rt=some (.cells (aI aH (c.aU.map iV)).flatten)/\rb<h'.next/\rt<h'.next/\rb≠rt/\Old h h'/\h.next<=rb/\h.next<=rt:=⟨_,fun _ _=>Iff.rfl⟩
 suffices key: ∃v h',al P 27 [.agg (c.c τ)] h v h'/\Q v h' by
  obtain⟨v,h',c1,q⟩:=key
  exact⟨v,h',c1,(hQ _ _).1 q⟩
 refine ok.kP Vo ?_
 simp+decide only[sv,Vo,aCN,Cf.c]
 generalize hX:aa.at _ _ _=X
 have oX:Old h X:=by rw[<-hX];exact(Old.refl h).at (ak _)
 have cX:cellsOf X h.next=some ([AV.int .i64 c.aP, .int .i64 c.ot, .vs (zX.R c.aU) τ]):=by rw[<-hX];exact aq (by simp[aa.at];try rfl)
 have nX:X.next=h.next+1:=by rw[<-hX];simp[aa.at]
 clear hX
 have b1: ¬c.aP<0:=by omega
 have b2: ¬400<c.aP:=by omega
 have b3: ¬c.ot<0:=by omega
 have b4: ¬100000<c.ot:=by omega
 have b5: ¬(c.aU.length:Int)<1:=by omega
 have b6: ¬(4:Int)<(c.aU.length:Int):=by omega
 simp+decide only[sv,aCM,cX,b1,b2,b3,b4,b5,b6,aF.aD]
 simp+decide only[sv,aCL,cX]
 generalize hY:aa.at _ _ _=Y
 have oY:Old X Y:=by rw[<-hY];exact(Old.refl X).at (ak _)
 have nY:Y.next=X.next+1:=by rw[<-hY];simp[aa.at]
 have gY:Y.get X.next=some (.cells [.vs [(root c.aP).c mS] .full, .vs [] .full]):=by rw[<-hY];simp[aa.at];rfl
 clear hY
 simp+decide only[sv,aCK]
 let J:Nat->Env->aa->Prop:=fun i ρ H=>Old X H/\Y.next<=H.next/\(∃tv,H.get X.next=some (.cells [.vs [(root c.aP).c mS] .full,tv])/\nO 12 Y H tv (aI aH ((c.aU.take i).map iV)))/\ρ 1= .ptr h.next 0/\ρ 4= .ptr X.next 0
 refine eQ 5 0 c.aU.length (by omega) (bM _) J ?_ ?_ ⟨oY,ak _,⟨_,gY, .inl ⟨rfl,rfl⟩⟩,rfl,rfl⟩ rfl
 ·rintro i ρ H ⟨ho,hn,⟨tv,gH,hg⟩,r1,r4⟩ r5-hi av aK hw
  have y0:=ho.cells (by omega) cX
  have gi:(zX.R c.aU)[i]? =some (c.aU[i].c .au):=zX.cj hi
  have lY:=hl _ (bw hi)
  have UF:=a7 _ (bw hi)
  have wS:=Bp UF
  have cm:=ai9 ok (h:=H) (l:=c.aU[i]) (t:= .au) (by omega)
  rw[UF] at cm
  simp only[Lb.c] at gi cm
  simp+decide only[sv,aeP,aCJ,r1,r5,y0,aF.aD,av,aK,gi]
  refine ao cm ?_
  have tI:=uj i c.aU
  obtain⟨Av,H',ha,dz,cV,h1,h2,eV,ka⟩:=hg.qT (bytes:=160) (id:=H.next+12) (n:=16) hn (by omega) (by omega) (x:=(iV c.aU[i]).c aH) (by rw[gI];simp;omega) (by omega) l7
  have tK:iS 160 12 (H.next+12) (H.clean 16) tv (some [[.int .u8 c.aU[i].d, .vs (aB.R c.aU[i].ps) .au, .vs [] .full, .vs [] .full, .vs [] .full, .int .i64 0, .int .i64 0, .int .u64 0, .int .u64 0, .int .i64 0, .int .i64 0, .bool false]])=some (Av,H'):=ha
  have z0:cellsOf (H.clean 16) h.next=_:=(Old.refl H).clean.cells (by omega) y0
  have z1:cellsOf (H.clean 16) X.next=_:=(Old.refl H).clean.cells (by omega) (aq gH)
  have lX:X.next<H.next:=by omega
  have lh:h.next<H.next:=by omega
  have cH:cellsOf H' X.next=some [.vs [(root c.aP).c mS] .full,tv]:=aq (by rw[eV _ (by omega),gH])
  simp+decide only[sv,Vo]
  refine bq 16 rfl rfl ?_
  simp+decide only[sv,aCI,r1,r4,r5,z0,z1,aK,gi,tK,h1,h2,cH]
  refine⟨fun j j1 j2=>ka _ (by omega) (by omega),fun j j1 j2=>by omega,?_⟩
  simp+decide only[sv,aCH,r5,hw]
  refine⟨⟨by show X.next<=H'.next;omega,fun b hb=>?_⟩,by show Y.next<=H'.next;omega,⟨Av,by simp[aa.set],?_⟩,r1,r4⟩
  ·simp only[aa.set];rw[aj (by omega),eV b (by omega),ho.get b hb]
  ·rw[lN hi,jz]
   unfold aI at dz ⊢
   rw[jz]
   exact dz.Lt (by omega)
 ·rintro ρ H ⟨ho,hn,⟨tv,gH,hg⟩,r1,r4⟩ r5 av
  rw[bX (ak _)] at hg
  have y0:=ho.cells (by omega) cX
  simp+decide only[sv,aeP,aoc,r1,r4,r5,y0,aF.aD,av,eK]
  rcases hg with⟨e,_⟩|⟨b,_,rfl,fA,gw,dB⟩
  ·have:=congrArg List.length e
   rw[gI,fp] at this
   simp only[fI] at this
   omega
  have MP:H.get b=some (.cells (aI aH (c.aU.map iV)).flatten):=by
   revert fA;unfold cellsOf;split
   ·rename_i e;intro hh;cases hh;exact e
   ·intro hh;cases hh
  rw[gI,fp] at gH
  exact(hQ _ _).2 ⟨X.next,b,rfl,gH,MP,by omega,dB,by omega,oX.trans ho,by omega,by omega⟩
theorem aO3 {b:List UInt8} (hb:b.length<2^40):E6 (.str ⟨b.toArray⟩)=some (.vs (BS b) .au):=by
 unfold E6
 simp only
 rw[ax (by show b.toArray.size<_;simpa using hb)]
 rfl
def aka {l:List Ob} (hl:l.length<1000) (hv: ∀o∈l,jj o):(l.flatMap fun o=>be o.id 8++cq (eM o)).length<=1000*l.length:=by
 clear hl
 induction l with
 |nil=>simp
 |cons o l ih=>
  have h1:=ih (fun x hx=>hv x (by simp[hx]))
  have h2:=Fi (hv o (by simp)).may
  rw[jR,cw,cQ]
  simp only[cw,bG,cq] at h1 ⊢
  omega
def RA.bytes (ok:aA P tb) {p:Nat} (R:RA h p (af.map (·.id)) (af.map eM)) (hl:af.length<1000) (hv: ∀o∈af,jj o):al P 87 [.ptr p 0] h (.vs (BS (af.flatMap fun o=>be o.id 8++cq (eM o))) .au) h:=by
 refine ok.df (rf:=c87) rfl (bT rfl) dt.i7 ?_
 obtain⟨t1,t2,g⟩:=R.get
 have lt:=R.lt
 have c0:=aq g
 simp+decide only[sv,c87,axV,axU,axT]
 let J:Nat->Env->aa->Prop:=fun i ρ H=>Old h H/\ρ 0= .ptr p 0/\ ∃t,ρ 3= .vs (BS ((af.take i).flatMap fun o=>be o.id 8++cq (eM o))) t
 refine eQ 4 0 af.length (by omega) (bM _) J ?_ ?_ ⟨Old.refl h,rfl,_,rfl⟩ rfl
 ·rintro i ρ H ⟨ho,r0,t0,r3⟩ r4-hi av aK hw
  have y0:=ho.cells lt c0
  have lH:p<H.next:=bJ lt ho.next
  have z0:cellsOf (H.clean 19) p=_:=(Old.refl H).clean.cells lH y0
  have gi:((ay .u64).R (af.map (·.id)))[i]? =some [.int .u64 af[i].id]:=by rw[(ay .u64).cj (by rw[fp];exact hi)];simp;rfl
  have gj:(tw.R (af.map eM))[i]? =some [.str ⟨(eM af[i]).toArray⟩]:=by rw[tw.cj (by rw[fp];exact hi)];simp;rfl
  have hlen:=aka (l:=af.take i) (by rw[jQ];omega) (fun o ho=>hv o (uk ho))
  rw[jQ] at hlen
  have qY:=Fi (hv _ (bw hi)).may
  have hsb:=aO3 (b:=eM af[i]) (by omega)
  have hiM:(i:Int)<((af.map (·.id)).length:Int):=by rw[fp];exact av
  simp+decide only[sv,adu,r0,r4,y0,aF.aD,hiM]
  refine m6 ?_
  simp+decide only[sv,axS,r0,r3,r4,z0,lH,aK,gi]
  refine dh (Ir ok (b:=(af.take i).flatMap fun o=>be o.id 8++cq (eM o)) (by decide) (by omega)) (ba (ak _)) ?_
  simp+decide only[sv,r0,r4,z0,lH,aK,gj,hsb]
  refine dh (ahL ok (by simp only[cw,bG];omega) (by omega)) (ba (ak _)) ?_
  simp+decide only[sv,axR,r4,hw]
  refine⟨ho.clean,r0, .au,?_⟩
  rw[lN hi,vX,show [af[i]].flatMap (fun o=>be o.id 8++cq (eM o))=be af[i].id 8++cq (eM af[i]) by simp,<-eR];rfl
 ·rintro ρ H ⟨ho,r0,t0,r3⟩ r4 av
  have y0:=ho.cells lt c0
  rw[bX (ak _)] at r3
  have hiM: ¬(af.length:Int)<((af.map (·.id)).length:Int):=by rw[fp];exact av
  simp+decide only[sv,adu,axQ,r0,r3,r4,y0,aF.aD,hiM,aV]
  exact⟨dt.iy,ho.get⟩
def aFu (ok:aA P tb) (K:RK h rb rt ah af):al P 38 [.ptr rb 0] h (.vs (BS (xD af ah)) .au) h:=by
 refine ok.df (rf:=c38) rfl (bT rfl) dt.i7 ?_
 have hl:=K.len
 have ht4:=K.tv.len
 simp+decide only[sv,c38,aBZ,aBY]
 generalize hX:aa.at _ _ _=X
 have oX:Old h X:=by rw[<-hX];exact(Old.refl h).at (ak _)
 have nX:X.next=h.next+1:=by rw[<-hX];simp[aa.at]
 have R0:RA X h.next [] []:=⟨by omega,rfl, .full, .full,by rw[<-hX];simp[aa.at];exact⟨rfl,rfl⟩⟩
 clear hX
 simp+decide only[sv,aBX]
 let J:Nat->Env->aa->Prop:=fun i ρ H=>Old h H/\RA H h.next ((af.take i).map (·.id)) ((af.take i).map eM)/\ρ 0= .ptr rb 0/\ρ 3= .ptr h.next 0
 refine eQ 4 0 af.length (by omega) (bM _) J ?_ ?_ ⟨oX,R0,rfl,rfl⟩ rfl
 ·rintro i ρ H ⟨ho,R,r0,r3⟩ r4-hi av aK hw
  have KH:=K.old ho
  obtain⟨tt,g⟩:=KH.top
  have c0:=aq g
  have gi:=Xr hi
  have v:=K.ks.val _ (bw hi)
  obtain⟨H',cp,R',n',k'⟩:=R.put ok (id:=af[i].id) (b:=eM af[i]) (t:= .au) (fun x hx=>by
   obtain⟨o,hm,rfl⟩:=List.mem_map.1 hx
   obtain⟨j,hj,rfl⟩:=jm hm
   rw[jQ] at hj
   rw[List.getElem_take]
   exact(List.pairwise_iff_getElem.1 K.ks.aQ) j i (by omega) hi (by omega)) (by unfold eM;rfl) (by have:=Fi v.may;omega) (by simp;omega)
  have cu:=aGF ok (h:=H) (o:=af[i]) (τ:=aC) v.may v.ok
  have ll:(bg af).length=af.length:=OW
  generalize hx:af[i]=x at*
  simp only[Ob.c] at gi cu
  simp+decide only[sv,aeA,aBW,r0,r4,c0,ll,av,aK,gi]
  refine ao cu ?_
  simp+decide only[sv,aBV,r0,r3,r4,c0,aK,gi]
  refine ao cp ?_
  simp+decide only[sv,aBU,r4,hw]
  refine⟨⟨fm ho.next n',fun b hb=>by rw[k' b (bJ hb ho.next) (by omega),ho.get b hb]⟩,?_,r0,r3⟩
  rw[lN hi,jz,jz,hx]
  exact R'
 ·rintro ρ H ⟨ho,R,r0,r3⟩ r4 av
  rw[bX (ak _)] at R
  have KH:=K.old ho
  obtain⟨tt,g⟩:=KH.top
  have c0:=aq g
  have ll:(bg af).length=af.length:=OW
  simp+decide only[sv,aeA,aBT,r0,r3,r4,c0,ll,av]
  refine ao (R.bytes ok hl K.ks.val) ?_
  have hlen:=aka hl K.ks.val
  have Tv:xD af ah=(af.flatMap fun o=>be o.id 8++cq (eM o))++ah.flatMap fun x=>cE x.ai:=rfl
  rw[Tv]
  generalize(af.flatMap fun o=>be o.id 8++cq (eM o))=B at*
  simp+decide only[sv,aBS]
  let J2:Nat->Env->aa->Prop:=fun i ρ H=>Old h H/\ρ 0= .ptr rb 0/\ ∃t,ρ 7= .vs (BS (B++(ah.take i).flatMap fun x=>cE x.ai)) t
  refine eQ 8 0 ah.length (by omega) (bM _) J2 ?_ ?_ ⟨ho,r0, .au,by rw[kD,sS,fE];rfl⟩ rfl
  ·clear r0 r3 r4 av c0 R g
   rintro i ρ H ⟨ho,r0,t0,r7⟩ r8-hi av aK hw
   have KH:=K.old ho
   obtain⟨tt,g⟩:=KH.top
   have c0:=aq g
   have c1:=aq KH.aU
   obtain⟨r1,r2,r3,r4⟩:=K.row hi
   obtain⟨q1,q2,q3⟩:=K.ai hi
   have hle:i*12+2<=(aI aH ah).flatten.length:=by omega
   have da: ∀i,i<=ah.length->((ah.take i).flatMap fun x=>cE x.ai).length<=50*i:=by
    intro i
    induction i with
    |zero=>intro _;simp
    |succ i ih=>
     intro hi
     have:=ih (by omega)
     have hq:=(K.ai (show i<ah.length by omega)).2.2
     rw[lN (by omega),vX,cw]
     simp only[jR,sS,fE,CZ];omega
   have:=da i (by omega)
   have cl:=Nq ok (h:=H) (b:=B++(ah.take i).flatMap fun x=>cE x.ai) (t:=t0) (l:=ah[i].ai) (t':= .au) q2 (by rw[cw];omega)
   simp only[Lb.c] at cl
   simp+decide only[sv,aez,anR,r0,r7,r8,c0,c1,av,hle,r3]
   refine ao cl ?_
   simp+decide only[sv,anQ,r8,hw]
   refine⟨ho,r0, .au,?_⟩
   rw[lN hi,vX,show [ah[i]].flatMap (fun x=>cE x.ai)=cE ah[i].ai by simp,<-eR];rfl
  ·clear r0 r3 r4 av c0 R g
   rintro ρ H ⟨ho,r0,t0,r7⟩ r8 av
   have KH:=K.old ho
   obtain⟨tt,g⟩:=KH.top
   have c0:=aq g
   rw[bX (ak _)] at r7
   simp+decide only[sv,aez,anP,r0,r7,r8,c0,av,aV]
   exact⟨dt.iy,ho.get⟩
end
section
open Go
variable {P:Program} {h:aa}
theorem aJH {t:Nat}:(told t D ah).ah=ah.set t D.th:=rfl
end
section
open Go
variable {P:Program} {h:aa} {p n:Nat} {l:List UInt8}
structure PK (h:aa) (p:Nat) (l:List UInt8) (n:Nat):Prop where
 lt:p<h.next
 le:n<=l.length
 len:l.length<2^30
 get: ∃t,h.get p=some (.cells [.vs (BS l) t, .int .i64 n])
def PF (h h':aa) (p:Nat):Prop:=h.next<=h'.next/\ ∀b,b<h.next->b≠p->h'.get b=h.get b
structure Ps (h h':aa) (p:Nat) (l:List UInt8) (n k n':Nat):Prop where
 pk:PK h' p l n'
 f:PF h h' p
 lo:min (n+k) l.length<=n'
 le:n<=n'
def PF.refl:PF h h p:=⟨ak _,fun _ _ _=>rfl⟩
def PF.trans (a:PF h h1 p) (b:PF h1 h2 p):PF h h2 p:=⟨fm a.1 b.1,fun x hx hp=>by rw[b.2 x (by have:=a.1;omega) hp,a.2 x hx hp]⟩
def PF.old (o:Old h h'):PF h h' p:=⟨o.next,fun b hb _=>o.get b hb⟩
def PK.old (K:PK h p l n) (o:Old h h'):PK h' p l n:=by
 obtain⟨t,g⟩:=K.get
 exact⟨bJ K.lt o.next,K.le,K.len,t,by rw[o.get p K.lt,g]⟩
def PK.ps (K:PK h p l n) (o:Old h h'):Ps h h' p l n 0 n:=⟨K.old o,PF.old o,by omega,ak _⟩
def Ps.trans (a:Ps h h1 p l n k n1) (b:Ps h1 h2 p l n1 k2 n2):Ps h h2 p l n (k+k2) n2:=
 ⟨b.pk,a.f.trans b.f,by have:=a.lo;have:=b.lo;have:=a.pk.le;omega,fm a.le b.le⟩
def Ps.to (a:Ps h h1 p l n k n1) (o:Old h1 h2):Ps h h2 p l n k n1:=⟨a.pk.old o,a.f.trans (PF.old o),a.lo,a.le⟩
def Ps.from (o:Old h h1) (a:Ps h1 h2 p l n k n1):Ps h h2 p l n k n1:=⟨a.pk,(PF.old o).trans a.f,a.lo,a.le⟩
def Ps.less (a:Ps h h1 p l n k n1) (hk:k2<=k):Ps h h1 p l n k2 n1:=⟨a.pk,a.f,by have:=a.lo;omega,a.le⟩
def Ps.low (K:PK h p l n) (a:Ps h h1 p l n k n1) (hn:h1.next<=h2.next) (hk: ∀b,b<h.next->h2.get b=h1.get b):Ps h h2 p l n k n1:=by
 obtain⟨t,g⟩:=a.pk.get
 exact⟨⟨bJ a.pk.lt hn,a.pk.le,a.pk.len,t,by rw[hk p K.lt,g]⟩,⟨fm a.f.1 hn,fun b hb hp=>by rw[hk b hb,a.f.2 b hb hp]⟩,a.lo,a.le⟩
def App.pf (a:App h0 h v rows) (f:PF h h' p) (hp:p<h0.next):App h0 h' v rows:=a.to f.1 fun k h1 h2 hk=>by rw[f.2 k h2 (by omega)];exact hk
def Ps.aT4 (K:PK h p l n) (hn:n<l.length) {t:aL} (o:Old h X):Ps h (X.set p (some (.cells [.vs (BS l) t, .int .i64 ((n+1:Nat):Int)]))) p l n 1 (n+1):=by
 have lt:=K.lt
 have on:=o.next
 refine⟨⟨by show p<X.next;omega,by omega,K.len,t,by simp[aa.set]⟩,⟨on,fun b hb hp=>?_⟩,by omega,by omega⟩
 simp only[aa.set]
 rw[aj hp,o.get b hb]
def lD (ok:aA P tb) (K:PK h p l n) {m:Nat} (hm:0<m) (sd:m<2^31): ∃r h' n',al P 31 [.ptr p 0, .int .i64 m] h (.int .i64 (r:Nat)) h'/\r<m/\Ps h h' p l n 1 n':=by
 obtain⟨t,g⟩:=K.get
 have cg:=aq g
 have lt:=K.lt
 have hl:=K.len
 by_cases hn:n<l.length
 ·have cV: ¬(l.length:Int)<=(n:Int):=by omega
  refine⟨l[n].toNat%m,?_⟩
  have hx: ∃h',al P 31 [.ptr p 0, .int .i64 m] h (.int .i64 (l[n].toNat%m:Nat)) h'/\Ps h h' p l n 1 (n+1):=by
   refine ok.dr M9 ?_
   simp+decide only[sv,M9,aeK]
   refine bq 10 rfl rfl ?_
   have hw:=dj (show n<2^61 by omega)
   have tH:IntKind.wrap .i64 (((n+1:Nat):Int)-1)=n:=by rw[bj]<;>omega
   have gn:(BS l)[n]? =some [.int .u8 l[n].toNat]:=by rw[QI,bn hn];rfl
   have MK: ¬(m:Int)=0:=by omega
   have hr:(l[n].toNat:Int).tmod m=((l[n].toNat%m:Nat):Int):=(Int.ofNat_tmod _ m).symm
   have wQ:IntKind.wrap .i64 (l[n].toNat:Int)=l[n].toNat:=by have:=l[n].toNat_lt;exact bj (by omega) (by omega)
   have tJ:(0:Int)<=n:=by omega
   have aSV:p<h.next+10:=by omega
   simp+decide only[sv,aeJ,aCs,cg,lt,aY,cV,hw]
   refine bq 15 rfl rfl ?_
   simp+decide only[sv,aCr,cg,lt,tH,gn,MK,wQ,hr,tJ,aSV]
   exact⟨rfl,(Ps.aT4 K hn (Old.refl h).clean).to (Old.refl _).clean⟩
  obtain⟨h',c,q⟩:=hx
  exact⟨h',_,c,Nat.mod_lt _ hm,q⟩
 ·have cV:(l.length:Int)<=(n:Int):=by omega
  have hx: ∃h',al P 31 [.ptr p 0, .int .i64 m] h (.int .i64 0) h'/\Ps h h' p l n 1 n:=by
   refine ok.dr M9 ?_
   simp+decide only[sv,M9,aeK]
   refine bq 10 rfl rfl ?_
   simp+decide only[sv,aeJ,aCt,cg,lt,aY,cV]
   exact⟨rfl,K.old (Old.refl h).clean,PF.old (Old.refl h).clean,by omega,ak _⟩
  obtain⟨h',c,q⟩:=hx
  exact⟨0,h',_,c,hm,q⟩
theorem aD9 {α:Type} {z:α}:List.replicate 6 z=[z,z,z,z,z,z]:=rfl
theorem aD8 {α:Type} {z:α}:List.replicate 7 z=[z,z,z,z,z,z,z]:=rfl
theorem aNQ {α:Type} {z:α}:List.replicate 20 z=[z,z,z,z,z,z,z,z,z,z,z,z,z,z,z,z,z,z,z,z]:=rfl
theorem DD {L:List Nat} {t:aL} (hr:r<L.length):kj 1 (.vs (L.map fun c:Nat=>[AV.int k c]) t) (.int .i64 r)=some (.vp [.int k (L.getD r 0)] 0):=by
 unfold kj
 have h0:(0:Int)<=r:=by omega
 simp only[ax h0,i9,Dz,bn hr,mr,iB,iQ]
 rfl
def VW (ok:aA P tb) (K:PK h p l n):al P 30 [.ptr p 0] h (.bool (decide (l.length<=n))) h:=by
 obtain⟨t,g⟩:=K.get
 have cg:=aq g
 have lt:=K.lt
 have hl:=K.len
 refine ok.bA c30 ?_
 simp+decide only[sv,c30,aCv]
 refine bq 11 rfl rfl ?_
 have e:decide ((l.length:Int)<=(n:Int))=decide (l.length<=n):=by
  by_cases h:l.length<=n
  ·rw[mF h,mF (by omega)]
  ·rw[mc h,mc (by omega)]
 simp+decide only[sv,aCu,cg,lt,aY]
 intro b hb
 rw[ax hb]
def Kv:List Nat:=[5,6,1001,1002,1017,7]
def aKR:Kv.getD r 0<65536:=by
 unfold Kv
 match r with
 |0=>decide
 |1=>decide
 |2=>decide
 |3=>decide
 |4=>decide
 |5=>decide
 |r+6=>exact(by decide:0<65536)
def ajQ (ok:aA P tb) (K:PK h p l n): ∃c h' n',al P 50 [.ptr p 0] h (.int .u16 (c:Nat)) h'/\c<65536/\Ps h h' p l n 1 n':=by
 obtain⟨r,h1,n1,c1,hr,K1⟩:=lD ok K (m:=6) (by decide) (by decide)
 have hx: ∃h',al P 50 [.ptr p 0] h (.int .u16 (Kv.getD r 0:Nat)) h'/\h'=h1:=by
  refine ok.dr c50 ?_
  simp+decide only[sv,c50,aAO,aAN]
  refine ao c1 ?_
  have e:kj 1 (.vs [[.int .u16 5],[.int .u16 6],[.int .u16 1001],[.int .u16 1002],[.int .u16 1017],[.int .u16 7]] .full) (.int .i64 r)=some (.vp [.int .u16 (Kv.getD r 0:Nat)] 0):=DD (k:= .u16) (L:=Kv) hr
  simp+decide only[sv,aD9,xr,e]
  exact⟨rfl,rfl⟩
 obtain⟨h',c,rfl⟩:=hx
 exact⟨_,_,_,c,aKR,K1⟩
def Kd:List Nat:=[4,1,4,2,0,3]
def aKc:Kd.getD r 0<=4:=by
 unfold Kd
 match r with
 |0=>decide
 |1=>decide
 |2=>decide
 |3=>decide
 |4=>decide
 |5=>decide
 |r+6=>exact(by decide:0<=4)
def aMJ {l:List (Nat×Nat)} (h4:d<=4) (hp: ∀p∈l,p.1<65536/\p.2<=4): ∀q∈(kO d l).ps,q.1<65536/\q.2<=4:=by
 intro q hq
 obtain⟨a1,a2,a3⟩:=ak0 hq
 obtain⟨p,hpm,hpe⟩:=List.mem_map.1 ((xz (l.map (·.1))).2.1 _ a1)
 exact⟨by rw[<-hpe];exact(hp p hpm).1,by rw[a2];exact akp h4 (fun p pe=>(hp p pe).2)⟩
def ail (ok:aA P tb) (K:PK h p l n): ∃L h' n',al P 48 [.ptr p 0, .bool s] h (.agg ((L:Lb).c .au)) h'/\L.ok/\dF L=true/\L.d=2/\L.ps.length<=2/\(∀q∈L.ps,q.1<65536/\q.2<=4)/\Ps h h' p l n 1 n':=by
 have hx: ∃v h',al P 48 [.ptr p 0, .bool s] h v h'/\ ∃L n',v= .agg ((L:Lb).c .au)/\L.ok/\dF L=true/\L.d=2/\L.ps.length<=2/\(∀q∈L.ps,q.1<65536/\q.2<=4)/\Ps h h' p l n 1 n':=by
  refine ok.kP Vm ?_
  have lt:=K.lt
  simp+decide only[sv,Vm,aA2,aA1]
  generalize hX:aa.at _ _ _=X
  have oX:Old h X:=by rw[<-hX];exact(Old.refl h).at (ak _)
  have nX:X.next=h.next+1:=by rw[<-hX];simp[aa.at]
  have gX:X.get h.next=some (.cells [.int .u8 0, .vs [] .full]):=by rw[<-hX];simp[aa.at]
  clear hX
  obtain⟨r,h1,n1,c1,hr,K1⟩:=lD ok (K.old oX) (m:=3) (by decide) (by decide)
  simp+decide only[sv,aA0]
  refine ao c1 ?_
  simp+decide only[sv,Vm]
  have CA:=K1.f.1
  let I:Nat->Env->aa->Prop:=fun m ρ H=> ∃n2 v qs,m+qs.length<=2/\Ps h H p l n 1 n2/\h.next<H.next/\H.get h.next=some (.cells [.int .u8 0, .vs [] .full])/\App ⟨h.get,h.next+1⟩ H v (aB.R qs)/\(∀q∈qs,q.1<65536/\q.2<=4)/\ρ 0= .ptr p 0/\ρ 1= .bool s/\ρ 4= .ptr h.next 0/\ρ 5=v/\ρ 6= .int .i64 m
  refine dv I ?_ r ⟨n1,_,[],by simp;omega,K1.from oX,by omega,by rw[K1.f.2 _ (by omega) (by omega)];exact gX,⟨_,rfl, .inl rfl⟩,(fun q hq=>(Dy hq).elim),rfl,rfl,rfl,rfl,rfl⟩
  clear K1 c1 gX CA
  rintro m ρ H ⟨n2,v,qs,hmq,K2,iJ,g0,ha,hq,r0,r1,r4,r5,r6⟩
  by_cases hm:0<m
  ·have pg:(0:Int)<(m:Int):=by omega
   obtain⟨r2,h2,n3,c2,qh,K3⟩:=lD ok K2.pk (m:=6) (by decide) (by decide)
   have e:kj 1 (.vs [[.int .u8 4],[.int .u8 1],[.int .u8 4],[.int .u8 2],[.int .u8 0],[.int .u8 3]] .full) (.int .i64 r2)=some (.vp [.int .u8 (Kd.getD r2 0:Nat)] 0):=DD (k:= .u8) (L:=Kd) qh
   simp+decide only[sv,aer,aAZ,r0,r6,pg]
   refine ao c2 ?_
   simp+decide only[sv,aD9,xr,e]
   have aEh:=aKc (r:=r2)
   generalize Kd.getD r2 0=gB at*
   have f3:PF H h2 p:=K3.f
   have K3:=K2.trans K3
   have ga: ∀{G:aa},PF H G p->G.get h.next=some (.cells [.int .u8 0, .vs [] .full]):=fun f=>by rw[f.2 _ iJ (by omega)];exact g0
   generalize hK7:iD (WP P (.cA aep) _) _=K7
   have fin: ∀(ρ:Env) (G:aa) (n4 Lz:Nat),Lz<=4->Ps h G p l n 1 n4->PF H G p->ρ 0= .ptr p 0->ρ 1= .bool s->ρ 4= .ptr h.next 0->ρ 5=v->ρ 6= .int .i64 m->ρ 7= .int .u8 Lz->K7 .normal ρ G:=by
    intro ρ G n4 Lz hl4 K4 fG r0 r1 r4 r5 r6 r7
    rw[<-hK7]
    obtain⟨c,h5,n5,c5,hc,K5⟩:=ajQ ok K4.pk
    have f5:=fG.trans K5.f
    have qt:App ⟨h5.get,h.next+1⟩ h5 v (aB.R qs):=ha.pf f5 (show p<h.next+1 by omega)
    have n5':=f5.1
    obtain⟨v',h6,b1,b2,b3,b4,b5,b6,b7⟩:=qt.app ⟨by show h.next+1<=h5.next;omega,fun _ _=>rfl⟩ (bytes:=4) (sz:=2) (id:=h5.next) (by show h.next+1<=h5.next;omega) [[AV.int .u16 c,AV.int .u8 Lz]] aB.fl (by rw[aF.aD];simp only[cQ,fI];omega) (by rw[aF.aD];simp only[cQ,fI];omega)
    have hw:IntKind.wrap .i64 ((m:Int)-1)=((m-1:Nat):Int):=by rw[bj]<;>omega
    simp+decide only[sv,aep,r0,r5]
    refine ao c5 ?_
    simp+decide only[sv,aAY,r6,r7,b1,hw]
    have K6:=(K4.trans K5).less (show 1<=1+1 by omega)
    refine⟨m-1,by omega,n5,v',qs++[(c,Lz)],by simp;omega,K6.low K b4 (fun b hb=>b3.get b (by show b<h.next+1;omega)),by omega,by rw[b3.get _ (by show h.next<h.next+1;omega)];show h5.get h.next=_;exact ga f5,?_,fun q js=>?_,r0,r1,r4,rfl,rfl⟩
    ·rw[<-aF.kX];exact b2
    ·rcases List.mem_append.1 js with js|js
     ·exact hq q js
     ·rw[List.mem_singleton.1 js];exact⟨hc,hl4⟩
   clear hK7
   have EP:=K3.less (show 1<=1+1 by omega)
   by_cases l0:gB=0
   ·have Ut:(gB:Int)=0:=by omega
    have Us: ¬(gB:Int)=3:=by omega
    cases s with
    |true=>
     simp+decide only[sv,Le,r1,Ut]
     exact fin _ _ _ 0 (by decide) EP f3 r0 r1 r4 r5 r6 rfl
    |false=>
     simp+decide only[sv,Le,aeq,r1,Ut]
     exact fin _ _ _ 4 (ak _) EP f3 r0 r1 r4 r5 r6 rfl
   ·have Ut: ¬(gB:Int)=0:=by omega
    by_cases l3:gB=3
    ·have Us:(gB:Int)=3:=by omega
     obtain⟨r3,h4,n4,c4,HQ,K4⟩:=lD ok K3.pk (m:=3) (by decide) (by decide)
     have K4':=(EP.trans K4).less (show 1<=1+1 by omega)
     simp+decide only[sv,Le,r0,Us]
     refine ao c4 ?_
     by_cases z:0<r3
     ·have z':(0:Int)<(r3:Int):=by omega
      simp+decide only[sv,aeq,z']
      exact fin _ _ _ 4 (ak _) K4' (f3.trans K4.f) r0 r1 r4 r5 r6 rfl
     ·have z': ¬(0:Int)<(r3:Int):=by omega
      simp+decide only[sv,z']
      exact fin _ _ _ 3 (by decide) K4' (f3.trans K4.f) r0 r1 r4 r5 r6 rfl
    ·have Us: ¬(gB:Int)=3:=by omega
     simp+decide only[sv,Le,Ut,Us]
     exact fin _ _ _ gB aEh EP f3 r0 r1 r4 r5 r6 rfl
  ·have pg: ¬(0:Int)<(m:Int):=by omega
   obtain⟨tt,rfl,_⟩:=id ha
   have c0:=aq g0
   simp+decide only[sv,aer,aAX,r5,r6,pg]
   refine ao (Nh ok (l:=qs) (d:=2) (by omega)) ?_
   simp+decide only[sv,r4,c0,Lb.c,eK]
   obtain⟨a1,a2,a3⟩:=amB (d:=2) (l:=qs) (by decide) (by decide) (by omega) hq
   exact⟨kO 2 qs,n2,rfl,a1,a2,rfl,by omega,aMJ (by decide) hq,K2.low K (ak _) (fun b hb=>by simp only[aa.set];rw[aj (by omega)])⟩
 obtain⟨v,h',c,L,n',rfl,r⟩:=hx
 exact⟨L,h',n',c,r⟩
def RD:List Nat:=[1,65,66,67,0,64,4160]
def aJV:RD.getD r 0<2^64:=by
 unfold RD
 match r with
 |0=>decide
 |1=>decide
 |2=>decide
 |3=>decide
 |4=>decide
 |5=>decide
 |6=>decide
 |r+7=>exact(by decide:0<2^64)
def aiZ (ok:aA P tb) (K:PK h p l n) {t:aL} (aM: ∀o∈af,o.id<2^64) (hl:af.length<2^20): ∃id h' n',al P 47 [.ptr p 0, .vs (bg af) t, .int .i64 op] h (.int .u64 (id:Nat)) h'/\id<2^64/\Ps h h' p l n 2 n':=by
 have hx: ∃v h',al P 47 [.ptr p 0, .vs (bg af) t, .int .i64 op] h v h'/\ ∃id n',v= .int .u64 (id:Nat)/\id<2^64/\Ps h h' p l n 2 n':=by
  refine ok.kP c47 ?_
  have lt:=K.lt
  simp+decide only[sv,c47,aA6,aA5,aA4]
  generalize hK:jO 0 _=K0
  have fin: ∀(ρ:Env) (kd:Nat),ρ 0= .ptr p 0->ρ 1= .vs (bg af) t->ρ 7= .int .i64 kd->K0 .normal ρ h:=by
   intro ρ kd r0 r1 r7
   rw[<-hK]
   simp+decide only[sv,anJ,anI]
   let I:Nat->Env->aa->Prop:=fun m ρ H=> ∃i ids v,af.length=i+m/\ids.length<=i/\Old h H/\App h H v ((ay .u64).R ids)/\(∀x∈ids,x<2^64)/\ρ 0= .ptr p 0/\ρ 1= .vs (bg af) t/\ρ 7= .int .i64 kd/\ρ 8=v/\ρ 9= .int .i64 i
   refine dv I ?_ af.length ⟨0,[],_,by omega,by simp,Old.refl h,App.nil h h,(fun q hq=>(Dy hq).elim),r0,r1,r7,rfl,rfl⟩
   clear r0 r1 r7
   rintro m ρ H ⟨i,ids,v,uT,jM,ho,ha,afu,r0,r1,r7,r8,r9⟩
   have ol:(bg af).length=af.length:=by simp[bg]
   by_cases hi:i<af.length
   ·have av:(i:Int)<(af.length:Int):=by omega
    have aK:(0:Int)<=i:=by omega
    have hw:=dj (show i<2^61 by omega)
    have gi:(bg af)[i]? =some (af[i].c aC):=by simp[bg,bn hi]
    have gl:(af[i].c aC).length=13:=rfl
    have aTf:=aM _ (bw hi)
    simp only[Ob.c] at gi
    simp+decide only[sv,Yb,r1,r9,ol,av]
    generalize hK2:jO 2 _=K2
    have kn: ∀(ρ:Env) (G:aa) (LJ:List Nat) (v':AV),LJ.length<=i+1->Old h G->App h G v' ((ay .u64).R LJ)->(∀x∈LJ,x<2^64)->ρ 0= .ptr p 0->ρ 1= .vs (bg af) t->ρ 7= .int .i64 kd->ρ 8=v'->ρ 9= .int .i64 i->K2 .normal ρ G:=by
     intro ρ G LJ v' q1 q2 q3 q4 r0 r1 r7 r8 r9
     rw[<-hK2]
     simp+decide only[sv,anH,r9,hw]
     exact⟨m-1,by omega,i+1,LJ,v',by omega,q1,q2,q3,q4,r0,r1,r7,r8,rfl⟩
    obtain⟨v',h6,b1,b2,b3,b4,_⟩:=ha.app ho (bytes:=8) (sz:=1) (id:=H.next) ho.next [[AV.int .u64 af[i].id]] (ay .u64).fl (by rw[aF.aD];simp only[cQ,fI];omega) (by rw[aF.aD];simp only[cQ,fI];omega)
    have b2:App h h6 v' ((ay .u64).R (ids++[af[i].id])):=by rw[<-aF.kX];exact b2
    have awR: ∀x∈ids++[af[i].id],x<2^64:=fun x hx=>by
     rcases List.mem_append.1 hx with hx|hx
     ·exact afu x hx
     ·rw[List.mem_singleton.1 hx];exact aTf
    have aEn:(ids++[af[i].id]).length<=i+1:=by simp;omega
    by_cases k0:kd=0
    ·have Uu:(kd:Int)=0:=by omega
     simp+decide only[sv,Pa,Ya,r1,r7,r8,r9,Uu,gi,aK,b1]
     exact kn _ _ _ _ aEn b3 b2 awR r0 r1 r7 rfl r9
    ·have Uu: ¬(kd:Int)=0:=by omega
     by_cases k1:af[i].kind=kd
     ·simp+decide only[sv,Pa,Ya,r1,r7,r8,r9,Uu,gi,aK,k1,b1]
      exact kn _ _ _ _ aEn b3 b2 awR r0 r1 r7 rfl r9
     ·simp+decide only[sv,Pa,r1,r7,r9,Uu,gi,aK,k1]
      exact kn _ _ _ _ (by omega) ho ha afu r0 r1 r7 r8 r9
   ·have av: ¬(i:Int)<(af.length:Int):=by omega
    obtain⟨r2,h2,n2,c2,qh,K2⟩:=lD ok (K.old ho) (m:=12) (by decide) (by decide)
    have K2:=Ps.from ho K2
    simp+decide only[sv,Yb,anG,r0,r1,r9,ol,av]
    refine ao c2 ?_
    obtain⟨tt,rfl,_⟩:=id ha
    have root: ∀(ρ:Env) (K:cC->Env->aa->Prop),ρ 0= .ptr p 0->(∀ρ G,GY [.tmp 6] (fun v h'=> ∃id n',v= .int .u64 (id:Nat)/\id<2^64/\Ps h h' p l n 2 n') .ret ρ G->K .ret ρ G)->exec P X9 ρ h2 (iD (WP P .ret K) K .normal):=by
     intro ρ K r0 hK
     obtain⟨r3,h3,n3,c3,HQ,K3⟩:=lD ok K2.pk (m:=7) (by decide) (by decide)
     have e:kj 1 (.vs [[.int .u64 1],[.int .u64 65],[.int .u64 66],[.int .u64 67],[.int .u64 0],[.int .u64 64],[.int .u64 4160]] .full) (.int .i64 r3)=some (.vp [.int .u64 (RD.getD r3 0:Nat)] 0):=DD (k:= .u64) (L:=RD) HQ
     simp+decide only[sv,X9,r0]
     refine ao c3 ?_
     simp+decide only[sv,aD8,xr,e]
     exact hK _ _ ⟨_,rfl,_,_,rfl,aJV,K2.trans K3⟩
    by_cases z:r2=0
    ·have z':(r2:Int)=0:=by omega
     simp+decide only[sv,O9,z']
     exact root _ _ r0 (fun _ _ q=>q)
    ·have z': ¬(r2:Int)=0:=by omega
     by_cases y:ids.length=0
     ·have y':(ids.length:Int)=0:=by omega
      simp+decide only[sv,O9,r8,z',aF.aD,y']
      exact root _ _ r0 (fun _ _ q=>q)
     ·have y': ¬(ids.length:Int)=0:=by omega
      obtain⟨r3,h3,n3,c3,HQ,K3⟩:=lD ok K2.pk (m:=ids.length) (by omega) (by omega)
      have gr:((ay .u64).R ids)[r3]? =some [.int .u64 ids[r3]]:=(ay .u64).cj HQ
      have wQ:(0:Int)<=r3:=by omega
      simp+decide only[sv,O9,anF,r0,r8,z',aF.aD,y']
      refine ao c3 ?_
      simp+decide only[sv,gr,wQ,eK]
      exact⟨_,_,rfl,afu _ (bw HQ),K2.trans K3⟩
  clear hK
  by_cases o3:op=3
  ·simp+decide only[sv,zZ,aA3,o3]
   exact fin _ 1 rfl rfl rfl
  by_cases o4:op=4
  ·simp+decide only[sv,zZ,Cg,Sy,o4]
   exact fin _ 2 rfl rfl rfl
  by_cases o5:op=5
  ·simp+decide only[sv,zZ,Cg,DP,Sy,o5]
   exact fin _ 2 rfl rfl rfl
  by_cases AD:op=10
  ·simp+decide only[sv,zZ,Cg,DP,G5,Sy,AD]
   exact fin _ 2 rfl rfl rfl
  by_cases o7:op=7
  ·simp+decide only[sv,zZ,Cg,DP,G5,Lf,anK,o7]
   exact fin _ 3 rfl rfl rfl
  by_cases o8:op=8
  ·simp+decide only[sv,zZ,Cg,DP,G5,Lf,Pb,Yc,o8]
   exact fin _ 4 rfl rfl rfl
  by_cases o9:op=9
  ·simp+decide only[sv,zZ,Cg,DP,G5,Lf,Pb,Yd,Yc,o9]
   exact fin _ 4 rfl rfl rfl
  ·simp+decide only[sv,zZ,Cg,DP,G5,Lf,Pb,Yd,o3,o4,o5,AD,o7,o8,o9]
   exact fin _ 0 rfl rfl rfl
 obtain⟨v,h',c,id,n',rfl,r⟩:=hx
 exact⟨id,h',n',c,r⟩
theorem awC: ∀{n off:Nat} {cs:List AV},off+n<=cs.length->rowsOf cs off 1 n=((cs.drop off).take n).map fun v=>[v]
 |0,off,cs,_=>by simp[rowsOf]
 |n+1,off,cs,h=>by
  unfold rowsOf
  rw[awC (by omega)]
  have e:cs.drop off=cs[off]'(by omega)::cs.drop (off+1):=(List.drop_eq_getElem_cons (by omega))
  rw[e,zS,zS,eG,kD]
def yA (bs:List UInt8):List AV:=bs.map fun b=> .int .u8 b.toNat
def Ot:(yA bs).length=bs.length:=by simp[yA]
theorem akP {b:Nat}:AV.gE b (yA bs) (.rs b 0 bs.length 1)= .vs (BS bs) .au:=by
 unfold AV.gE
 rw[ax rfl,ax (by rw[Ot];omega),awC (by rw[Ot];omega),sR,bX (by rw[Ot];exact ak _)]
 unfold yA
 rw[List.map_map]
 rfl
def aiI (ok:aA P tb) (K:PK h p l n) {m:Nat} (hm:m<2^20): ∃bs h' n',al P 49 [.ptr p 0, .int .i64 m] h (.vs (BS bs) .au) h'/\bs.length<=m/\Ps h h' p l n 1 n':=by
 have hx: ∃v h',al P 49 [.ptr p 0, .int .i64 m] h v h'/\ ∃bs b n',v= .rs b 0 bs.length 1/\h.next<=b/\h'.get b=some (.cells (yA bs))/\bs.length<=m/\Ps h h' p l n 1 n':=by
  refine ok.kP c49 ?_
  have lt:=K.lt
  obtain⟨r,h1,n1,c1,hr,K1⟩:=lD ok K (m:=m+1) (by omega) (by omega)
  have hw:=dj (show m<2^61 by omega)
  simp+decide only[sv,c49,aAW,aAV,hw]
  refine ao c1 ?_
  have ml:qA 1 (.int .i64 r) (.int .i64 r)=some r:=by
   show(if 0<=(r:Int)/\(r:Int)=r/\(r:Int)<2^40/\((1:Nat):Int)*r<=2^40 then some (r:Int).toNat else none)=_
   rw[ax (by omega),i9]
  simp+decide only[sv,aAU,ml]
  have CA:=K1.f.1
  generalize hX:aa.at _ _ _=X
  have oX:Old h1 X:=by rw[<-hX];exact(Old.refl h1).at (ak _)
  have nX:X.next=h1.next+1:=by rw[<-hX];simp[aa.at]
  have gX:X.get h1.next=some (.cells (yA (List.replicate r 0))):=by
   rw[<-hX];simp[aa.at,yA]
  clear hX
  have KX:=K1.to oX
  obtain⟨t,gp⟩:=KX.pk.get
  have wK:=KX.pk.lt
  let I:Nat->Env->aa->Prop:=fun k ρ H=> ∃i bs,r=i+k/\bs.length=r/\X.next<=H.next/\(∀b,b<X.next->b≠h1.next->H.get b=X.get b)/\H.get h1.next=some (.cells (yA bs))/\ρ 0= .ptr p 0/\ρ 5= .rs h1.next 0 r 1/\ρ 6= .int .i64 i
  refine dv I ?_ r ⟨0,List.replicate r 0,by omega,by simp,ak _,fun _ _ _=>rfl,gX,rfl,rfl,rfl⟩
  rintro k ρ H ⟨i,bs,hik,lZ,iJ,hold,gH,r0,r5,r6⟩
  by_cases hi:i<r
  ·have av:(i:Int)<(r:Int):=by omega
   have aK:(0:Int)<=i:=by omega
   have pN:=dj (show i<2^61 by omega)
   have cg:=aq gH
   have cp:cellsOf H p=some [.vs (BS l) t, .int .i64 n1]:=aq (by rw[hold p wK (by have:=K1.pk.lt;omega)];exact gp)
   have hia:kj 1 (.rs h1.next 0 r 1) (.int .i64 i)=some (.ptr h1.next i):=by
    unfold kj
    simp only[ax aK]
    rw[ax ⟨trivial,av⟩,i9,Nat.mul_one,rI]
   have hle:i+1<=(yA bs).length:=by rw[Ot,lZ];omega
   simp+decide only[sv,aeo,aAT,aAS,r0,r5,r6,av,pN,cg,cp,hia,hle,wrap_u8]
   refine⟨k-1,by omega,i+1,bs.set i (wG (IntKind.wrap .i64 ((n1:Int)+i))),by omega,by rw[kE];exact lZ,iJ,fun b hb aT=>by simp only[aa.set];rw[aj aT];exact hold b hb aT,?_,r0,r5,rfl⟩
   simp only[aa.set,dP]
   congr 2
   unfold yA
   rw[List.map_set,List.set_eq_take_append_cons_drop,ax (by rw[fp,lZ];exact hi)]
   simp
  ·have av: ¬(i:Int)<(r:Int):=by omega
   simp+decide only[sv,aeo,aAR,r5,r6,av,eK]
   refine⟨bs,h1.next,n1,by rw[lZ],CA,gH,by omega,KX.low K iJ (fun b hb=>hold b (by omega) (by omega))⟩
 obtain⟨v,h',c,bs,b,n',rfl,hb,hg,hl,Kp⟩:=hx
 have c2:=c.freeze hg hb (by rw[akP];exact dt.i7)
 rw[akP] at c2
 exact⟨bs,_,n',c2,hl,Kp.low K (ak _) (fun x hx=>by simp only[aa.set];rw[aj (by omega)])⟩
end
section
open Go
theorem ajJ: ∀(os:List RO) (i:Nat) (ρ:Env) (h:aa) (done:List (Env×aa×Option AV)),(∀j,i+os.length<=j->un.getD j []=[])->
 done.length=i->az.drop i=os++AB->
 (∀k d,done[k]? =some d->xC base W d.2.1 h/\ ∀ok q v,az[k]? =some ok->ok.op= .p q->jS un k=true->d.2.2=some v->bt q d.1 d.2.1=some v/\GN base W (q.key d.1))->
 rB P W un az.length base os i ρ h (fun ρ' h'=>eL P az.length base AB (i+os.length) ρ' h' K)->sU P az un base (os++AB) i ρ h done K
 |[],i,ρ,h,done,hu,_,_,_,he=>V4 AB i ρ h done hu he
 |o::os,i,ρ,h,done,hu,hl,hd,hinv,⟨r,h',hs,hf,hk,rT,he⟩=>by
  have uQ:az[i]? =some o:=by
   have:(az.drop i)[0]? =some o:=by rw[hd];rfl
   rw[List.getElem?_drop] at this
   simpa using this
  have da: ∀k,k∈un.getD i []->jS un i=true/\jS un k=true:=fun k hk=>by
   constructor
   ·unfold jS
    cases hq:un.getD i [] with
    |nil=>rw[hq] at hk;cases hk
    |cons a b=>rfl
   ·unfold jS
    have:un.any (fun l=>l.contains k)=true:=by
     rw[List.any_eq_true]
     rw[mr] at hk
     cases hq:un[i]? with
     |none=>rw[hq] at hk;cases hk
     |some l=>rw[hq] at hk;exact⟨l,iC hq,by simpa using hk⟩
    rw[this,Bool.or_true]
  have hval: ∀q v,o.op= .p q->r=some v->bt q ρ h=some v/\h'=h:=fun q v hq hr=>by
   unfold bS at hs
   split at hs
   ·obtain⟨v',h1,h2⟩:=hs
    rw[hr] at h1;cases h1
    rw[hq] at h2
    exact h2
   ·rw[hr] at hs;cases hs.1
   ·exact hs.elim
  refine⟨r,h',hs,fun k Ev ok d bO gv=>?_,hf,?_⟩
  ·obtain⟨f1,f2⟩:=da k Ev
   obtain⟨hold,tp⟩:=hinv k d gv
   unfold tP
   split
   ·split
    ·rename_i v q hv hq
     obtain⟨h1,h2⟩:=tp ok q v bO hq f2 hv
     rw[<-h1]
     refine(xh q d.1 d.2.1 h' (fun b hb=>?_)).symm
     rw[hb] at h2
     rw[hk b h2.1 h2.2,hold b h2.1 h2.2]
    ·trivial
   ·split
    ·rename_i v q hq
     obtain⟨h1,rfl⟩:=hval q v hq rfl
     have h2:=rT q hq f1
     rw[<-h1]
     refine xh q ρ d.2.1 h' (fun b hb=>?_)
     rw[hb] at h2
     exact(hold b h2.1 h2.2).symm
    ·trivial
  ·refine ajJ os (i+1) _ h' _ (fun j hj=>hu j (by simp only[cQ];omega)) (by simp[hl]) ?_ ?_ (by simpa only[cQ,rJ,Nat.add_comm 1] using he)
   ·rw[<-vV,hd];rfl
   ·intro k d gv
    rw[B8] at gv
    split at gv
    ·obtain⟨g1,g2⟩:=hinv k d gv
     exact⟨fun b hb hw=>by rw[hk b hb hw,g1 b hb hw],g2⟩
    ·rename_i aS
     have UL:k=i:=by
      have:=(List.getElem?_eq_some_iff.1 gv).1
      simp at this;omega
     subst UL
     simp[hl] at gv
     subst gv
     refine⟨hk,fun ok q v bO hq da hv=>?_⟩
     rw[uQ] at bO;cases bO
     exact⟨(hval q v hq hv).1,rT q hq da⟩
def Ol (W) (k n) (hn:az.length=n) (hk:k<=n) (hu:(un.drop k).all (·.isEmpty)=true)
 (he:rB P W un n h.next (az.take k) 0 ρ (h.clean n) (fun ρ' h'=>eL P n h.next (az.drop k) k ρ' h' (K .normal))):WP P (.jG az un) K ρ h:=by
 subst hn
 have hl:(az.take k).length=k:=by rw[jQ];omega
 have:=ajJ (W:=W) (P:=P) (az:=az) (AB:=az.drop k) (un:=un) (base:=h.next) (K:=K .normal) (az.take k) 0 ρ (h.clean az.length) [] (fun j hj=>by
  rw[hl,rI] at hj
  have h1:un.getD j []=(un.drop k).getD (j-k) []:=by
   rw[mr,mr,List.getElem?_drop,show k+(j-k)=j by omega]
  rw[h1,mr]
  cases hq:(un.drop k)[j-k]? with
  |none=>rfl
  |some l=>
   have:=List.all_eq_true.1 hu l (iC hq)
   cases l with
   |nil=>rfl
   |cons a b=>simp at this) rfl (by simp) (fun k d hd=>by simp at hd) (by simpa only[hl,rI] using he)
 rw[J3] at this
 obtain⟨ρ1,h1,he,hk⟩:=E4 this
 exact⟨_,_,_, .Hq he,hk⟩
end
section
open Go
variable {P:Program} {h:aa} {p n:Nat} {l:List UInt8}
def PF.free {H:aa} {m:Nat} (f:PF (H.clean m) h' p) (hp:p<H.next):dY m H.next i h':=by
 intro j _ hj
 rw[f.2 _ (by show _<H.next+m;omega) (by omega)]
 simp only[aa.clean]
 rw[aj (by omega)]
def PF.keeps {H:aa} {m:Nat} (f:PF (H.clean m) h' p):xC H.next (fun b=>b=p) (H.clean m) h':=fun b hb hw=>f.2 b (by show b<H.next+m;omega) hw
def PF.aMS (f:PF h1 h2 p) (hb:base<=h1.next):xC base (fun b=>b=p) h1 h2:=fun b cF hw=>f.2 b (by omega) hw
def PF.RY {m:Nat} (f:PF h1 h2 p) (hb:base+m<=h1.next) (hp:p<base) (hf:dY m base i h1):dY m base i h2:=fun j hj hm=>by
 rw[f.2 _ (by omega) (by omega)];exact hf j hj hm
def Lv:List Nat:=[40,100,400,12]
def Ls:List Nat:=[100000,100000,100000,200]
def aLh:Lv.getD r 0<=400:=by
 unfold Lv
 match r with
 |0=>decide
 |1=>decide
 |2=>decide
 |3=>decide
 |r+4=>exact(by decide:0<=400)
def aLf:Ls.getD r 0<=100000:=by
 unfold Ls
 match r with
 |0=>decide
 |1=>decide
 |2=>decide
 |3=>decide
 |r+4=>exact(by decide:0<=100000)
def aFS (ok:aA P tb) (K:PK h p l n): ∃c h' n',al P 32 [.ptr p 0] h (.agg (Cf.c c .au)) h'/\jX c=true/\(∀x∈c.aU,x.ok)/\Ps h h' p l n 3 n':=by
 have hx: ∃v h',al P 32 [.ptr p 0] h v h'/\ ∃c n',v.strip= .agg (Cf.c c .au)/\jX c=true/\(∀x∈c.aU,x.ok)/\Ps h h' p l n 3 n':=by
  refine ok.kP c32 ?_
  have lt:=K.lt
  simp+decide only[sv,c32,aCq]
  generalize hX:aa.at _ _ _=X
  have oX:Old h X:=by rw[<-hX];exact(Old.refl h).at (ak _)
  have nX:X.next=h.next+1:=by rw[<-hX];simp[aa.at]
  have gX:X.get h.next=some (.cells [.int .i64 0, .int .i64 0, .vs [] .full]):=by rw[<-hX];simp[aa.at]
  clear hX
  have KX:=K.old oX
  have wK:=KX.lt
  obtain⟨r1,h1,n1,c1,pd,K1⟩:=lD ok (KX.old (h':=X.clean 13) (Old.refl X).clean) (m:=4) (by decide) (by decide)
  obtain⟨r2,h2,n2,c2,qh,K2⟩:=lD ok K1.pk (m:=4) (by decide) (by decide)
  have e1:kj 1 (.vs [[.int .i64 40],[.int .i64 100],[.int .i64 400],[.int .i64 12]] .full) (.int .i64 r1)=some (.vp [.int .i64 (Lv.getD r1 0:Nat)] 0):=DD (k:= .i64) (L:=Lv) pd
  have e2:kj 1 (.vs [[.int .i64 100000],[.int .i64 100000],[.int .i64 100000],[.int .i64 200]] .full) (.int .i64 r2)=some (.vp [.int .i64 (Ls.getD r2 0:Nat)] 0):=DD (k:= .i64) (L:=Ls) qh
  have CA:X.next+13<=h1.next:=K1.f.1
  refine Ol (fun b=>b=p) 8 13 rfl (by omega) rfl ?_
  simp+decide only[sv,aCp,sw,xr,sR]
  refine⟨_,h1,c1,K1.f.free wK,K1.f.keeps,?_⟩
  simp+decide only[sv,sw,xr,e1]
  refine⟨_,h2,c2,K2.f.RY CA wK (K1.f.free wK),K2.f.aMS (by omega),?_⟩
  simp+decide only[sv,sw,e2]
  refine⟨fun j hj hm=>by omega,?_⟩
  have hq4:=aLh (r:=r1)
  have hs4:=aLf (r:=r2)
  generalize Lv.getD r1 0=qq at*
  generalize Ls.getD r2 0=ss at*
  have Um:=K2.f.1
  have K12:=Ps.from (oX.trans (Old.refl X).clean) (K1.trans K2)
  have g0:h2.get h.next=some (.cells [.int .i64 0, .int .i64 0, .vs [] .full]):=by
   rw[K2.f.2 _ (by omega) (by omega),K1.f.2 _ (by show _<X.next+13;omega) (by omega)]
   simp only[aa.clean];rw[ax (by omega)];exact gX
  generalize hY:aa.set _ _ _=Y
  obtain⟨cb,fA⟩: ∃cb,cb=X.next+(8+1+1+1):=⟨_,rfl⟩
  rw[<-fA] at hY
  have nY:h2.next<=Y.next:=by rw[<-hY];show h2.next<=max _ _;omega
  have gY:Y.get cb=some (.cells [.int .i64 qq, .int .i64 ss, .vs [] .full]):=by rw[<-hY];simp[aa.set]
  have afd: ∀b,b≠cb->Y.get b=h2.get b:=fun b hb=>by rw[<-hY];simp[aa.set,aa.at,hb]
  have KY:=K12.low K nY (fun b hb=>afd b (by omega))
  have g0Y:Y.get h.next=some (.cells [.int .i64 0, .int .i64 0, .vs [] .full]):=by rw[afd _ (by omega)];exact g0
  clear hY
  rw[<-fA]
  obtain⟨r3,h3,n3,c3,HQ,K3⟩:=lD ok KY.pk (m:=3) (by decide) (by decide)
  have hw:IntKind.wrap .i64 (1+(r3:Int))=(((r3+2:Nat):Int)-1):=by rw[bj]<;>omega
  simp+decide only[sv,aCo]
  refine ao c3 ?_
  simp+decide only[sv,hw]
  have EP:=KY.trans K3
  let I:Nat->Env->aa->Prop:=fun m ρ H=> ∃n4 v aU,aU.length+m=r3+2/\Ps h H p l n 3 n4/\cb<H.next/\H.get cb=some (.cells [.int .i64 qq, .int .i64 ss,v])/\H.get h.next=some (.cells [.int .i64 0, .int .i64 0, .vs [] .full])/\App ⟨h.get,cb+1⟩ H v (zX.R aU)/\(∀x∈aU,x.ok/\dF x=true)/\ρ 0= .ptr p 0/\ρ 2= .ptr h.next 0/\ρ 3= .ptr cb 0/\ρ 4= .int .i64 ((m:Int)-1)
  refine dv I ?_ (r3+2) ⟨n3,_,[],by simp,EP,by have:=K3.f.1;omega,by rw[K3.f.2 _ (by omega) (by omega)];exact gY,by rw[K3.f.2 _ (by omega) (by omega)];exact g0Y,⟨_,rfl, .inl rfl⟩,(fun q hq=>(Dy hq).elim),rfl,rfl,rfl,rfl⟩
  clear K1 K2 K3 K12 KY EP c1 c2 c3 gY g0Y g0 gX afd
  rintro m ρ H ⟨n4,v,aU,hm,K4,hcH,gc,g0,ha,iY,r0,uN,HL,r4⟩
  by_cases MK:0<m
  ·have se:(0:Int)<=(m:Int)-1:=by omega
   obtain⟨L,h5,n5,c5,L1,L2,L3,L4,L5,K5⟩:=ail ok K4.pk (s:=true)
   simp+decide only[sv,aeI,aCn,r0,r4,se]
   refine ao c5 ?_
   simp+decide only[sv,Lb.c]
   have f5:=K5.f
   have K45:=(K4.trans K5).less (show 3<=3+1 by omega)
   generalize hK8:iD (WP P (.cA aeH) _) _=K8
   have n45:=f5.1
   have fin: ∀(ρ:Env) (G:aa) (n6:Nat) (L':Lb),L'.ok->dF L'=true->Ps h G p l n 3 n6->h5.next<G.next->G.get h5.next=some (.cells [.int .u8 L'.d, .vs (aB.R L'.ps) .au])->(∀b,b<h5.next->b≠p->G.get b=h5.get b)->ρ 0= .ptr p 0->ρ 2= .ptr h.next 0->ρ 3= .ptr cb 0->ρ 4= .int .i64 ((m:Int)-1)->ρ 5= .ptr h5.next 0->K8 .normal ρ G:=by
    intro ρ G n6 L' q1 q2 K6 hnG gL hG r0 uN HL r4 r5
    rw[<-hK8]
    have qt:App ⟨G.get,cb+1⟩ G v (zX.R aU):=(ha.pf f5 (show p<cb+1 by omega)).to (by omega) fun k h1 h2 hk=>by rw[hG k h2 (by have:cb+1<=k:=h1;omega)];exact hk
    have gcG:G.get cb=some (.cells [.int .i64 qq, .int .i64 ss,v]):=by rw[hG _ (by omega) (by omega),f5.2 _ hcH (by omega)];exact gc
    have g0G:G.get h.next=some (.cells [.int .i64 0, .int .i64 0, .vs [] .full]):=by rw[hG _ (by omega) (by omega),f5.2 _ (by omega) (by omega)];exact g0
    obtain⟨v',h6,b1,b2,b3,b4,b5,b6,b7⟩:=qt.app ⟨by show cb+1<=G.next;omega,fun _ _=>rfl⟩ (bytes:=32) (sz:=2) (id:=G.next) (by show cb+1<=G.next;omega) [[AV.int .u8 L'.d,AV.vs (aB.R L'.ps) .au]] zX.fl (by rw[aF.aD];simp only[cQ,fI];omega) (by rw[aF.aD];simp only[cQ,fI];omega)
    have cL:=aq gL
    have cc:=aq gcG
    have c6:cellsOf h6 cb=some [.int .i64 qq, .int .i64 ss,v]:=aq (by rw[b3.get _ (by show cb<cb+1;omega)];exact gcG)
    have v1:v'.one=true/\v'.cells=[v']:=by obtain⟨t,rfl,_⟩:=b2;exact⟨rfl,rfl⟩
    have hw:IntKind.wrap .i64 ((m:Int)-1-1)=(((m-1:Nat):Int)-1):=by rw[bj]<;>omega
    simp+decide only[sv,aeH,aCj,HL,r4,r5,cL,cc,c6,b1,v1.1,v1.2,hw]
    refine⟨m-1,by omega,n6,v',aU++[L'],by simp;omega,K6.low K b4 (fun b hb=>by simp only[aa.set];rw[aj (by omega)];exact b3.get b (by show b<cb+1;omega)),by show cb<h6.next;omega,by simp[aa.set],by simp only[aa.set];rw[aj (by omega),b3.get _ (by show h.next<cb+1;omega)];exact g0G,?_,fun q js=>?_,r0,uN,HL,rfl⟩
    ·rw[<-aF.kX]
     obtain⟨t3,q,w⟩:=b2
     refine⟨t3,q,w.imp id fun⟨j,q1,q2,q3,q4⟩=>⟨j,q1,q2,q3,?_⟩⟩
     simp only[aa.set]
     rw[aj (by have:cb+1<=j:=q2;omega)]
     exact q4
    ·rcases List.mem_append.1 js with js|js
     ·exact iY q js
     ·rw[List.mem_singleton.1 js];exact⟨q1,q2⟩
   clear hK8
   generalize hZ:aa.set _ _ _=Z
   have oZ:Old h5 Z:=by rw[<-hZ];exact((Old.refl h5).at (ak _)).set (ak _)
   have nZ:Z.next=h5.next+1:=by rw[<-hZ];simp[aa.set,aa.at]
   have gZ:Z.get h5.next=some (.cells [.int .u8 L.d, .vs (aB.R L.ps) .au]):=by rw[<-hZ];simp[aa.set]
   clear hZ
   have KZ:=K45.to oZ
   have pZ:=K5.pk.lt
   obtain⟨r6,h7,n7,c7,hr6,K7⟩:=lD ok KZ.pk (m:=12) (by decide) (by decide)
   have K7':=(KZ.trans K7).less (show 3<=3+1 by omega)
   have g7:h7.get h5.next=_:=(K7.f.2 _ (by omega) (by omega)).trans gZ
   have n77:=K7.f.1
   have h7o: ∀b,b<h5.next->b≠p->h7.get b=h5.get b:=fun b hb hp=>by rw[K7.f.2 b (by omega) hp,oZ.get b hb]
   simp+decide only[sv,aCm,r0]
   refine ao c7 ?_
   by_cases Va:r6=11
   ·have afJ:(r6:Int)=11:=by omega
    have M7:=aq g7
    simp+decide only[sv,aCl,aCk,afJ,M7,xr]
    refine ao (Nh ok (l:=L.ps) (d:=1) (by omega)) ?_
    simp+decide only[sv,Lb.c,xr]
    obtain⟨a1,a2,a3⟩:=amB (d:=1) (l:=L.ps) (by decide) (by decide) (by omega) L5
    exact fin _ _ _ (kO 1 L.ps) a1 a2 (K7'.low K (ak _) (fun b hb=>by simp only[aa.set];rw[aj (by omega)])) (by show h5.next<h7.next;omega) (by simp[aa.set]) (fun b hb hp=>by simp only[aa.set];rw[aj (by omega)];exact h7o b hb hp) r0 uN HL r4 rfl
   ·have afJ: ¬(r6:Int)=11:=by omega
    simp+decide only[sv,afJ]
    exact fin _ _ _ L L1 L2 K7' (by omega) g7 h7o r0 uN HL r4 rfl
  ·have se: ¬(0:Int)<=(m:Int)-1:=by omega
   have cc:=aq gc
   have c0:=aq g0
   obtain⟨tt,rfl,_⟩:=ha
   simp+decide only[sv,aeI,aob,uN,HL,r4,se,cc,c0,eK]
   refine⟨⟨qq,ss,aU⟩,n4,by simp only[AV.strip,AV.a8,Cf.c,zX.dJ],?_,fun x hx=>(iY x hx).1,K4.low K (ak _) (fun b hb=>by simp only[aa.set];rw[aj (by omega)])⟩
   have ea:aU.all dF=true:=List.all_eq_true.2 fun x hx=>(iY x hx).2
   unfold jX
   rw[ea]
   simp only[Dw,fV,rK]
   omega
 obtain⟨v,h',c,cf,n',hv,r⟩:=hx
 have c2:=c.strip
 rw[hv] at c2
 exact⟨cf,h',n',c2,r⟩
def opP:List Nat:=[3,3,3,3,1,2,4,5,6,7,8,8,9,10,10,11,12,13,4,5]
def ac0:List Nat:=[1,2,2,4,3,2,9]
structure ClP (c:Cl):Prop where
 ok:ik c
 new:c.op=3->dF c.ai=true/\lL c.bf=true
 n:c.op=10->c.n<=16
 ai:dF c.ai=true
theorem aOp (h:cs.length<=1):lL cs=true:=by
 match cs,h with
 |[],_=>rfl
 |[x],_=>rfl
def V6 (ok:aA P tb) (K:PK h p l n) {t:aL} (aM: ∀o∈af,o.id<2^64) (hl:af.length<2^20): ∃c h' n',al P 17 [.ptr p 0, .vs (bg af) t] h (.agg (Cl.c c aC)) h'/\ClP c/\Ps h h' p l n (if c.op=3 then 10 else 6) n':=by
 have hx: ∃v h',al P 17 [.ptr p 0, .vs (bg af) t] h v h'/\ ∃c n',v.strip= .agg (Cl.c c aC)/\ClP c/\Ps h h' p l n (if c.op=3 then 10 else 6) n':=by
  refine ok.kP Vr ?_
  have lt:=K.lt
  simp+decide only[sv,Vr,aDt]
  generalize hX:aa.at _ _ _=X
  have oX:Old h X:=by rw[<-hX];exact(Old.refl h).at (ak _)
  have nX:X.next=h.next+1:=by rw[<-hX];simp[aa.at]
  have gX:X.get h.next=some (.cells [.int .i64 0, .int .i64 0, .int .u64 0, .int .u64 0, .int .i64 0, .int .i64 0, .int .u8 0, .vs [] .full, .vs [] .full, .vs [] .full, .vs [] .full, .vs [] .full, .vs [] .full]):=by rw[<-hX];simp[aa.at]
  clear hX
  obtain⟨r1,h1,n1,c1,pd,K1⟩:=lD ok (K.old oX) (m:=20) (by decide) (by decide)
  have e1:kj 1 (.vs [[.int .i64 3],[.int .i64 3],[.int .i64 3],[.int .i64 3],[.int .i64 1],[.int .i64 2],[.int .i64 4],[.int .i64 5],[.int .i64 6],[.int .i64 7],[.int .i64 8],[.int .i64 8],[.int .i64 9],[.int .i64 10],[.int .i64 10],[.int .i64 11],[.int .i64 12],[.int .i64 13],[.int .i64 4],[.int .i64 5]] .full) (.int .i64 r1)=some (.vp [.int .i64 (opP.getD r1 0:Nat)] 0):=DD (k:= .i64) (L:=opP) pd
  simp+decide only[sv,aDs]
  refine ao c1 ?_
  simp+decide only[sv,aNQ,xr,e1]
  generalize opP.getD r1 0=op at*
  have f1:=K1.f
  have CA:=K1.f.1
  have K1:=Ps.from oX K1
  generalize hY:aa.set _ _ _=Y
  have oY:Old h1 Y:=by rw[<-hY];exact((Old.refl h1).at (ak _)).set (ak _)
  have nY:Y.next=h1.next+1:=by rw[<-hY];simp[aa.at,aa.set]
  have gY:Y.get h1.next=some (.cells [.int .i64 op, .int .i64 0, .int .u64 0, .int .u64 0, .int .i64 0, .int .i64 0, .int .u8 0, .vs [] .full, .vs [] .full, .vs [] .full, .vs [] .full, .vs [] .full, .vs [] .full]):=by rw[<-hY];simp[aa.set]
  clear hY
  have KY:=K1.to oY
  have AE:=KY.pk.lt
  have g0:Y.get h.next=some (.cells [.int .i64 0, .int .i64 0, .int .u64 0, .int .u64 0, .int .i64 0, .int .i64 0, .int .u8 0, .vs [] .full, .vs [] .full, .vs [] .full, .vs [] .full, .vs [] .full, .vs [] .full]):=by
   rw[oY.get _ (by omega),f1.2 _ (by omega) (by omega)]
   exact gX
  generalize hb:h1.next=b5 at*
  have cY:=aq gY
  have Ur:b5<Y.next:=by omega
  obtain⟨i1,h2,n2,c2,qZ,K2⟩:=aiZ ok (KY.pk.old (h':=Y.clean 14) (Old.refl Y).clean) (af:=af) (t:=t) (op:=op) aM hl
  obtain⟨i2,h3,n3,c3,yM,K3⟩:=aiZ ok K2.pk (af:=af) (t:=t) (op:=op) aM hl
  have Um:Y.next+14<=h2.next:=K2.f.1
  have nb: ¬b5=p:=by omega
  have gYc:=(show(Y.clean 14).get b5=Y.get b5 by simp only[aa.clean];rw[ax Ur]).trans gY
  have g2:=(K2.f.2 b5 (by show b5<Y.next+14;omega) nb).trans gYc
  have g3:=(K3.f.2 b5 (by omega) nb).trans g2
  have cg2:=aq g2
  have cg3:=aq g3
  refine Ol (fun b=>b=p) 9 14 rfl (by omega) rfl ?_
  simp+decide only[sv,aDr,sw,cY,Ur,nb,sR]
  refine⟨_,h2,c2,K2.f.free AE,K2.f.keeps,?_⟩
  simp+decide only[sv,sw,cg2,Ur,nb]
  refine dX c3 (K3.f.RY Um AE (K2.f.free AE)) ?_
  have d1: ∀x,cellsOf (h3.set b5 (some (.cells x))) b5=some x:=fun x=>aq (by simp[aa.set])
  have fr: ∀i x,dY 14 Y.next i (h3.set b5 x):=fun i x=>(jx Ur).2 (K3.f.RY Um AE (K2.f.free AE))
  simp+decide only[sv,xr,cg3,d1,fr]
  generalize hZ:aa.set h3 _ _=Z
  have gZ:Z.get b5=some (.cells [.int .i64 op, .int .i64 0, .int .u64 i1, .int .u64 i2, .int .i64 0, .int .i64 0, .int .u8 0, .vs [] .full, .vs [] .full, .vs [] .full, .vs [] .full, .vs [] .full, .vs [] .full]):=by rw[<-hZ];simp[aa.set]
  have oZ: ∀b,b≠b5->Z.get b=h3.get b:=fun b hb=>by rw[<-hZ];simp[aa.set,hb]
  have nZ:Z.next=h3.next:=by rw[<-hZ];rfl
  clear hZ
  have on3:=K3.f.1
  have KZ:Ps h Z p l n 5 n3:=(((Ps.from (h:=Y) (Old.refl Y).clean (K2.trans K3))|>KY.trans).less (by decide)).low K (by omega) (fun b hb=>oZ b (by omega))
  have g0Z:Z.get h.next=some (.cells [.int .i64 0, .int .i64 0, .int .u64 0, .int .u64 0, .int .i64 0, .int .i64 0, .int .u8 0, .vs [] .full, .vs [] .full, .vs [] .full, .vs [] .full, .vs [] .full, .vs [] .full]):=by
   rw[oZ _ (by omega),K3.f.2 _ (by omega) (by omega),K2.f.2 _ (by show _<Y.next+14;omega) (by omega)]
   simp only[aa.clean];rw[ax (by omega)];exact g0
  generalize hρ:put _ _ _=ρ
  have r0:ρ 0= .ptr p 0:=by rw[<-hρ];rfl
  have r1:ρ 1= .vs (bg af) t:=by rw[<-hρ];rfl
  have r4:ρ 4= .ptr h.next 0:=by rw[<-hρ];rfl
  have r5:ρ 5= .ptr b5 0:=by rw[<-hρ];rfl
  clear hρ fr d1 cg2 cg3 c2 c3 c1 e1 g2 g3 gYc cY gY K2 K3 KY
  have zb:b5<Z.next:=by omega
  have zh:h.next<b5:=by omega
  have zl:h.next<Z.next:=by omega
  clear CA Um on3 nY nZ oZ oY g0
  obtain⟨L,h5,n5,c5,L1,L2,L3,L4,L5,K5⟩:=ail ok KZ.pk (s:=decide ((op:Int)=2))
  have cZ:=aq gZ
  simp+decide only[sv,aDq,r0,r5,cZ]
  refine ao c5 ?_
  have g5:=(K5.f.2 b5 zb nb).trans gZ
  have c5g:=aq g5
  have d1: ∀x,cellsOf (h5.set b5 (some (.cells x))) b5=some x:=fun x=>aq (by simp[aa.set])
  simp+decide only[sv,aDp,r5,c5g,d1,Lb.c,xr]
  generalize hW:aa.set h5 _ _=W
  have gW:W.get b5=some (.cells [.int .i64 op, .int .i64 0, .int .u64 i1, .int .u64 i2, .int .i64 0, .int .i64 0, .int .u8 L.d, .vs (aB.R L.ps) .au, .vs [] .full, .vs [] .full, .vs [] .full, .vs [] .full, .vs [] .full]):=by rw[<-hW];simp[aa.set]
  have oW: ∀b,b≠b5->W.get b=h5.get b:=fun b hb=>by rw[<-hW];simp[aa.set,hb]
  have nW:W.next=h5.next:=by rw[<-hW];rfl
  clear hW d1
  have n5':=K5.f.1
  have KW:Ps h W p l n 6 n5:=(KZ.trans K5).low K (by omega) (fun b hb=>oW b (by omega))
  have U7:W.get h.next=some (.cells [.int .i64 0, .int .i64 0, .int .u64 0, .int .u64 0, .int .i64 0, .int .i64 0, .int .u8 0, .vs [] .full, .vs [] .full, .vs [] .full, .vs [] .full, .vs [] .full, .vs [] .full]):=by
   rw[oW _ (by omega),K5.f.2 _ (by omega) (by omega)];exact g0Z
  have wb:b5<W.next:=by omega
  generalize hK:jO 0 _=K0
  have fin: ∀(ρ:Env) (G:aa) (n':Nat) (kd off nn:Int) (data:List UInt8) (bf:List Nat) (t1 t2:aL),ρ 4= .ptr h.next 0->ρ 5= .ptr b5 0->b5<G.next->G.get b5=some (.cells [.int .i64 op, .int .i64 kd, .int .u64 i1, .int .u64 i2, .int .i64 off, .int .i64 nn, .int .u8 L.d, .vs (aB.R L.ps) .au, .vs [] .full, .vs [] .full, .vs [] .full, .vs (BS data) t1, .vs ((ay .u16).R bf) t2])->G.get h.next=some (.cells [.int .i64 0, .int .i64 0, .int .u64 0, .int .u64 0, .int .i64 0, .int .i64 0, .int .u8 0, .vs [] .full, .vs [] .full, .vs [] .full, .vs [] .full, .vs [] .full, .vs [] .full])->data.length<=20->bf.length<=1->(∀x∈bf,x<65536)->((op:Int)=10->nn<=16)->Ps h G p l n (if(op:Int)=3 then 10 else 6) n'->K0 .normal ρ G:=by
   intro ρ G n' kd off nn data bf t1 t2 r4 r5 hbG gb gh q1 q2 q3 q4 KG
   rw[<-hK]
   have cb:=aq gb
   have ch:=aq gh
   simp+decide only[sv,arl,r4,r5,cb,ch,eK]
   refine⟨⟨op,kd,i1,i2,off,nn,L,qV,data,bf⟩,n',?_,⟨⟨L1,by show L.ps.length<=16;omega,qZ,yM,by show data.length<2^20;omega,by show bf.length<2^16;omega,q3⟩,fun _=>⟨L2,aOp q2⟩,q4,L2⟩,KG.low K (ak _) (fun b hb=>by simp only[aa.set];rw[aj (by omega)])⟩
   simp only[AV.strip,AV.a8,AV.fU,Cl.c,aB.dJ,iz,(ay .u16).dJ,aC]
   rfl
  clear hK
  generalize hρ:put _ _ _=ρ1
  have Ay:ρ1 0= .ptr p 0:=by rw[<-hρ];exact r0
  have HK:ρ1 4= .ptr h.next 0:=by rw[<-hρ];exact r4
  have Cz:ρ1 5= .ptr b5 0:=by rw[<-hρ];exact r5
  have yC:ρ1 32= .int .i64 op:=by rw[<-hρ];rfl
  clear hρ r0 r1 r4 r5
  have cW:=aq gW
  have d1: ∀(H:aa) x,cellsOf (H.set b5 (some (.cells x))) b5=some x:=fun H x=>aq (by simp[aa.set])
  have ams: ¬(op:Int)=3-> ∀ρ:Env,ρ 0= .ptr p 0->ρ 4= .ptr h.next 0->ρ 5= .ptr b5 0->exec P aax ρ W (K0 .normal):=by
   intro o3 ρ r0 r4 r5
   obtain⟨a1,h6,n6,c6,uW,K6⟩:=lD ok KW.pk (m:=6) (by decide) (by decide)
   obtain⟨a2,h7,n7,c7,tK,K7⟩:=lD ok K6.pk (m:=14) (by decide) (by decide)
   have n6':=K6.f.1
   have n7':=K7.f.1
   have g7:=(K7.f.2 b5 (by omega) nb).trans ((K6.f.2 b5 wb nb).trans gW)
   have gh7:=(K7.f.2 h.next (by omega) (by omega)).trans ((K6.f.2 h.next (by omega) (by omega)).trans U7)
   have M7:=aq g7
   simp+decide only[sv,aax,r0]
   refine ao c6 ?_
   simp+decide only[sv,r0]
   refine ao c7 ?_
   simp+decide only[sv,r5,M7,d1,xr]
   exact fin _ _ n7 0 a1 a2 [] [] .full .full r4 r5 (by show b5<h7.next;omega) (by simp only[aa.set,dP];rfl) (by simp only[aa.set];rw[aj (by omega)];exact gh7) (bM _) (bM _) (fun q hq=>(Dy hq).elim) (fun _=>by omega) (by rw[aj o3];exact((KW.trans (K6.trans K7)).less (by omega)).low K (ak _) (fun b hb=>by simp only[aa.set];rw[aj (by omega)]))
  have amr: ¬(op:Int)=3-> ∀ρ:Env,ρ 0= .ptr p 0->ρ 4= .ptr h.next 0->ρ 5= .ptr b5 0->exec P aav ρ W (K0 .normal):=by
   intro o3 ρ r0 r4 r5
   obtain⟨a1,h6,n6,c6,uW,K6⟩:=lD ok KW.pk (m:=6) (by decide) (by decide)
   obtain⟨bs,h7,n7,c7,AZ,K7⟩:=aiI ok K6.pk (m:=17) (by decide)
   have n6':=K6.f.1
   have n7':=K7.f.1
   have g7:=(K7.f.2 b5 (by omega) nb).trans ((K6.f.2 b5 wb nb).trans gW)
   have gh7:=(K7.f.2 h.next (by omega) (by omega)).trans ((K6.f.2 h.next (by omega) (by omega)).trans U7)
   have M7:=aq g7
   simp+decide only[sv,aav,r0]
   refine ao c6 ?_
   simp+decide only[sv,r0]
   refine ao c7 ?_
   simp+decide only[sv,r5,M7,d1,xr]
   exact fin _ _ n7 0 a1 0 bs [] .au .full r4 r5 (by show b5<h7.next;omega) (by simp only[aa.set,dP];rfl) (by simp only[aa.set];rw[aj (by omega)];exact gh7) (by omega) (bM _) (fun q hq=>(Dy hq).elim) (fun _=>by omega) (by rw[aj o3];exact((KW.trans (K6.trans K7)).less (by omega)).low K (ak _) (fun b hb=>by simp only[aa.set];rw[aj (by omega)]))
  by_cases o3:(op:Int)=3
  ·simp+decide only[sv,DQ,yC,o3]
   obtain⟨a1,h6,n6,c6,uW,K6⟩:=lD ok KW.pk (m:=7) (by decide) (by decide)
   have e1:kj 1 (.vs [[.int .i64 1],[.int .i64 2],[.int .i64 2],[.int .i64 4],[.int .i64 3],[.int .i64 2],[.int .i64 9]] .full) (.int .i64 a1)=some (.vp [.int .i64 (ac0.getD a1 0:Nat)] 0):=DD (k:= .i64) (L:=ac0) uW
   generalize ac0.getD a1 0=kd at*
   have n6':=K6.f.1
   have g6:=(K6.f.2 b5 wb nb).trans gW
   have gh6:=(K6.f.2 h.next (by omega) (by omega)).trans U7
   have c6g:=aq g6
   simp+decide only[sv,aDo,Ay]
   refine ao c6 ?_
   simp+decide only[sv,aD8,xr,e1,Cz,c6g]
   generalize hV:aa.set h6 _ _=V
   have gV:V.get b5=some (.cells [.int .i64 op, .int .i64 kd, .int .u64 i1, .int .u64 i2, .int .i64 0, .int .i64 0, .int .u8 L.d, .vs (aB.R L.ps) .au, .vs [] .full, .vs [] .full, .vs [] .full, .vs [] .full, .vs [] .full]):=by rw[<-hV];simp[aa.set]
   have oV: ∀b,b≠b5->V.get b=h6.get b:=fun b hb=>by rw[<-hV];simp[aa.set,hb]
   have nV:V.next=h6.next:=by rw[<-hV];rfl
   clear hV
   have KV:Ps h V p l n 7 n6:=(KW.trans K6).low K (by omega) (fun b hb=>oV b (by omega))
   have ghV:=(oV h.next (by omega)).trans gh6
   obtain⟨a2,h7,n7,c7,tK,K7⟩:=lD ok KV.pk (m:=40) (by decide) (by decide)
   obtain⟨bs,h8,n8,c8,AZ,K8⟩:=aiI ok K7.pk (m:=20) (by decide)
   have n7':=K7.f.1
   have n8':=K8.f.1
   have g8:=(K8.f.2 b5 (by omega) nb).trans ((K7.f.2 b5 (by omega) nb).trans gV)
   have gh8:=(K8.f.2 h.next (by omega) (by omega)).trans ((K7.f.2 h.next (by omega) (by omega)).trans ghV)
   have c8g:=aq g8
   simp+decide only[sv,aDn,Ay]
   refine ao c7 ?_
   simp+decide only[sv,Ay]
   refine ao c8 ?_
   simp+decide only[sv,Cz,c8g,d1,xr]
   generalize hU:aa.set h8 _ _=U
   have gU:U.get b5=some (.cells [.int .i64 op, .int .i64 kd, .int .u64 i1, .int .u64 i2, .int .i64 0, .int .i64 a2, .int .u8 L.d, .vs (aB.R L.ps) .au, .vs [] .full, .vs [] .full, .vs [] .full, .vs (BS bs) .au, .vs [] .full]):=by rw[<-hU];simp[aa.set]
   have oU: ∀b,b≠b5->U.get b=h8.get b:=fun b hb=>by rw[<-hU];simp[aa.set,hb]
   have nU:U.next=h8.next:=by rw[<-hU];rfl
   clear hU
   have KU:Ps h U p l n 9 n8:=(KV.trans (K7.trans K8)).low K (by omega) (fun b hb=>oU b (by omega))
   have ghU:=(oU h.next (by omega)).trans gh8
   obtain⟨a3,h9,n9,c9,ha3,K9⟩:=lD ok KU.pk (m:=2) (by decide) (by decide)
   have n9':=K9.f.1
   have g9:=(K9.f.2 b5 (by omega) nb).trans gU
   have gh9:=(K9.f.2 h.next (by omega) (by omega)).trans ghU
   have KK:=KU.trans K9
   simp+decide only[sv,aDm,Ay]
   refine ao c9 ?_
   simp+decide only[sv,Vr]
   let I:Nat->Env->aa->Prop:=fun m ρ H=> ∃n' bf t2,bf.length+m<=1/\(∀x∈bf,x<65536)/\(t2= .full\/m=0)/\Ps h H p l n 10 n'/\b5<H.next/\H.get b5=some (.cells [.int .i64 op, .int .i64 kd, .int .u64 i1, .int .u64 i2, .int .i64 0, .int .i64 a2, .int .u8 L.d, .vs (aB.R L.ps) .au, .vs [] .full, .vs [] .full, .vs [] .full, .vs (BS bs) .au, .vs ((ay .u16).R bf) t2])/\H.get h.next=some (.cells [.int .i64 0, .int .i64 0, .int .u64 0, .int .u64 0, .int .i64 0, .int .i64 0, .int .u8 0, .vs [] .full, .vs [] .full, .vs [] .full, .vs [] .full, .vs [] .full, .vs [] .full])/\ρ 0= .ptr p 0/\ρ 4= .ptr h.next 0/\ρ 5= .ptr b5 0/\ρ 6= .int .i64 m
   refine dv I ?_ a3 ⟨n9,[], .full,by simp;omega,(fun q hq=>(Dy hq).elim), .inl rfl,KK,by omega,g9,gh9,Ay,HK,Cz,rfl⟩
   clear KK K9 KU K8 K7 KV K6 c6 c7 c8 c9 gU oU oV gV g6 g8 g9 gh6 gh8 gh9 ghU ghV
   rintro m ρ H ⟨n',bf,t2,EA,aTv,UA,KH,U0,gH,ghH,r0,r4,r5,r6⟩
   have cH:=aq gH
   by_cases hm:0<m
   ·have pg:(0:Int)<(m:Int):=by omega
    simp+decide only[sv,ae0,r6,pg]
    obtain rfl:bf=[]:=List.length_eq_zero_iff.1 (by omega)
    obtain rfl:t2= .full:=UA.elim id (fun e=>by omega)
    have aEc:=KH.pk.lt
    obtain⟨c,jv,wJ,iK,hc,K10⟩:=ajQ ok (KH.pk.old (h':=H.clean 8) (Old.refl H).clean)
    have f10:=K10.f
    have aUD:H.next+8<=jv.next:=f10.1
    have aTB: ∀i,dY 8 H.next i jv:=fun i=>f10.free aEc
    have g10:=(f10.2 b5 (by show b5<H.next+8;omega) nb).trans ((show(H.clean 8).get b5=H.get b5 by simp only[aa.clean];rw[ax U0]).trans gH)
    have zhH:h.next<H.next:=by omega
    have aTA:=(f10.2 h.next (by show h.next<H.next+8;omega) (by omega)).trans ((show(H.clean 8).get h.next=H.get h.next by simp only[aa.clean];rw[ax zhH]).trans ghH)
    obtain⟨v',m4,b1,⟨t3,rfl,_⟩,b3,b4,b5'⟩:=(App.nil ⟨jv.get,H.next⟩ jv).qT ⟨by show H.next<=jv.next;omega,fun _ _=>rfl⟩ (bytes:=2) (sz:=1) (base:=H.next) (n:=8) (i:=5) (ak _) (fun j hj=>by
     by_cases h0:j=0
     ·exact .inr (by omega)
     ·exact .inl (aTB 0 j (by omega) hj)) [[AV.int .u16 c]] rfl (by simp) (by simp)
    have b1:qc 2 1 (H.next+5) jv (.vs ((ay .u16).R []) .full) (some [[AV.int .u16 c]])=some (.vs ((ay .u16).R [c]) t3,m4):=b1
    have Nb:=aq ((b3.get b5 (by show b5<H.next;exact U0)).trans g10)
    have f7: ∀x,dY 8 H.next 7 x:=fun x j h1 h2=>by omega
    have hw:IntKind.wrap .i64 ((m:Int)-1)=((m-1:Nat):Int):=by rw[bj]<;>omega
    refine Ol (fun b=>b=p) 4 8 rfl (by omega) rfl ?_
    simp+decide only[sv,aro,sw,r0,r5,cH,U0,nb,sR]
    refine⟨_,jv,iK,f10.free aEc,f10.keeps,?_⟩
    simp+decide only[sv,arn,sw,r5,r6,Nb,b1,b5',f7,hw]
    have b4':H.next+8<=m4.next:=by have:jv.next<=m4.next:=b4;omega
    refine⟨m-1,by omega,wJ,[c],t3,by simp;omega,fun q hq=>by rw[List.mem_singleton.1 hq];exact hc, .inr (by omega),?_,by show b5<m4.next;omega,by simp only[aa.set,dP],by simp only[aa.set];rw[aj (by omega),b3.get h.next (by show h.next<H.next;omega)];exact aTA,r0,r4,r5,rfl⟩
    have KF:=(KH.trans (Ps.from (h:=H) (Old.refl H).clean K10)).less (show 10<=10+1 by omega)
    exact KF.low K b4 (fun b hb=>by simp only[aa.set];rw[aj (by omega),b3.get b (by show b<H.next;omega)])
   ·have pg: ¬(0:Int)<(m:Int):=by omega
    simp+decide only[sv,ae0,r6,pg]
    exact fin _ H n' kd 0 a2 bs bf .au t2 r4 r5 U0 gH ghH AZ (by omega) aTv (fun e=>by omega) (by rw[ax o3];exact KH)
  by_cases o4:(op:Int)=4
  ·simp+decide only[sv,DQ,Gc,yC,o4]
   exact ams o3 _ Ay HK Cz
  by_cases AD:(op:Int)=10
  ·simp+decide only[sv,DQ,Gc,JC,yC,AD]
   exact ams o3 _ Ay HK Cz
  by_cases o5:(op:Int)=5
  ·simp+decide only[sv,DQ,Gc,JC,P2,yC,o5]
   exact amr o3 _ Ay HK Cz
  by_cases o8:(op:Int)=8
  ·simp+decide only[sv,DQ,Gc,JC,P2,aaw,yC,o8]
   exact amr o3 _ Ay HK Cz
  ·simp+decide only[sv,DQ,Gc,JC,P2,aaw,yC,o3,o4,AD,o5,o8]
   exact fin _ W n5 0 0 0 [] [] .full .full HK Cz wb gW U7 (bM _) (bM _) (fun q hq=>(Dy hq).elim) (fun _=>by omega) (by rw[aj o3];exact KW)
 obtain⟨v,h',c,cl,n',hv,r⟩:=hx
 have c2:=c.strip
 rw[hv] at c2
 exact⟨cl,h',n',c2,r⟩
end
section
open Go
variable {P:Program} {h:aa} {af:List Ob}
def NK (a:KA) (lb z:Nat):Prop:= ¬FK a z/\ ¬FA a lb z/\ ¬FS a z
def NK.to {a:KA} {m z:Nat} (k:NK a lb z) (hl:aW=lb\/m<=aW) (hz:z<m):NK a aW z:=by
 refine⟨k.1,?_,k.2.2⟩
 rintro(e|e|e)
 ·exact k.2.1 (.inl e)
 ·exact k.2.1 (.inr (.inl e))
 ·rcases hl with h|h
  ·exact k.2.1 (.inr (.inr (e.trans h)))
  ·omega
theorem Bo: ∀{l:List Ob},(bC l o).length<=l.length+1
 |[]=>by simp[bC]
 |x::l=>by
  have:=Bo (o:=o) (l:=l)
  unfold bC
  split
  ·simp
  split
  ·simp
  ·simp;omega
theorem Ix: ∀{l:List Ob},l.Pairwise (·.id< ·.id)->(∃x∈l,x.id=o.id)->(bC l o).length=l.length
 |[],_,⟨x,hx,_⟩=>by cases hx
 |y::l,hs,⟨x,hx,he⟩=>by
  have h':=List.pairwise_cons.1 hs
  unfold bC
  rcases List.mem_cons.1 hx with rfl|hx
  ·rw[aj (by omega),ax he];simp
  ·have:=h'.1 x hx
   rw[aj (by omega),aj (by omega),cQ,Ix h'.2 ⟨x,hx,he⟩,cQ]
def aHx {c:Cl} (ks:KS af) (hr: ∃r,a9 af 1=some r):(l8 l af c).2.2.length<=af.length+1:=by
 unfold l8
 split
 ·exact vT _
 split
 ·exact vT _
 rename_i hk
 have hm:=(oq hr (show(bh af l c.id 1 (dW l)).2=0 by omega)).1
 generalize(bh af l c.id 1 (dW l)).1=b at*
 unfold xw
 split
 ·exact vT _
 split
 ·exact vT _
 split
 ·exact vT _
 split
 ·exact vT _
 split
 ·exact vT _
 rename_i ha
 refine fm Bo ?_
 suffices e:b.id=(mu b (cost (dZ c (iW b.id b.next).1))).1.id by
  exact Nat.succ_le_succ (Nat.le_of_eq (Ix ks.aQ ⟨b,hm,e⟩))
 generalize cost (dZ c (iW b.id b.next).1)=w at*
 unfold mu at ha ⊢
 by_cases h1:w<0
 ·rw[ax h1] at ha;exact absurd (show(1:Nat)≠0 by decide) ha
 ·rw[aj h1] at ha ⊢
  by_cases h2:b.aP-b.used<w
  ·rw[ax h2] at ha;exact absurd (show(10:Nat)≠0 by decide) ha
  ·rw[aj h2]
def aIW {t:Nat} {c:Cl} (ks:KS af) (hr: ∃r,a9 af 1=some r):(dE t x af c done).af.length<=af.length+1:=by
 have step: ∀{p:Prop} [Decidable p] {a b:Dr},(p->a.af.length<=af.length+1)->(¬p->b.af.length<=af.length+1)->(if p then a else b).af.length<=af.length+1:=fun{p} _ {a b} h1 h2=>by
  by_cases hp:p
  ·rw[ax hp];exact h1 hp
  ·rw[aj hp];exact h2 hp
 have same:af.length<=af.length+1:=vT _
 unfold dE
 refine step (fun _=>same) (fun _=>?_)
 unfold iO
 refine step (fun _=>same) (fun _=>?_)
 refine step (fun _=>same) (fun _=>?_)
 refine step (fun _=>aHx ks hr) (fun _=>?_)
 refine step (fun _=>same) (fun _=>?_)
 refine step (fun _=>?_) (fun _=>?_)
 ·show(iN x.ai af c).2.length<=_
  unfold iN
  split
  ·exact same
  split
  ·exact Bo
  ·exact same
 refine step (fun _=>?_) (fun _=>?_)
 ·show(kA x.ai af c).2.length<=_
  unfold kA
  split
  ·exact same
  split
  ·exact same
  split
  ·exact same
  ·refine fm Bo ?_
   have:=GD (fun o=>!iA o.id c.id) af
   unfold kL
   omega
 refine step (fun _=>same) (fun _=>?_)
 refine step (fun _=>?_) (fun _=>?_)
 ·show(kH x.ai af c).2.length<=_
  unfold kH
  split
  ·exact same
  split
  ·exact same
  ·exact Bo
 refine step (fun _=>?_) (fun _=>?_)
 ·show(gN x af c).2.2.2.1.length<=_
  unfold gN
  split
  ·exact same
  split
  ·exact same
  ·exact Bo
 refine step (fun _=>?_) (fun _=>?_)
 ·show(gz x af c done).2.2.2.1.length<=_
  unfold gz
  split
  ·exact same
  split
  ·exact same
  split
  ·exact same
  ·unfold tD
   simp only
   split
   ·exact Bo
   ·exact Bo
 refine step (fun _=>same) (fun _=>?_)
 refine step (fun _=>same) (fun _=>?_)
 refine step (fun _=>same) (fun _=>?_)
 exact same
def aLy {t:Int} {c:Cl} (ks:KS af) (hr: ∃r,a9 af 1=some r):(bU t ah af c).af.length<=af.length+1:=by
 unfold bU
 split
 ·exact vT _
 split
 ·exact vT _
 split
 ·exact aIW ks hr
 ·exact vT _
def KL.pf {a:KA} {p:Nat} (K:KL h a lb N M ah af) (f:PF h h' p) (nk:NK a lb p):KL h' a lb N M ah af:=
 ⟨K.k.more f.1 (fun b hb hf=>f.2 b hb (fun e=>by
   subst e
   rcases hf with q|q|q
   ·exact nk.1 q
   ·exact nk.2.1 q
   ·exact nk.2.2 q)) (ak _) (ak _),K.inv⟩
def PK.kf {a:KA} {p:Nat} (K:PK h p l n) (f:KF h h' a lb) (nk:NK a lb p):PK h' p l n:=by
 obtain⟨t,g⟩:=K.get
 exact⟨bJ K.lt f.1,K.le,K.len,t,by rw[f.2 p K.lt nk.1 nk.2.1 nk.2.2,g]⟩
end
section
open Go
variable {P:Program} {h:aa}
def qd.cf {c:Cf} (h:jX c=true) (hl: ∀x∈c.aU,x.ok):qd (c.aU.map iV) [Am.root c.aP]:=by
 unfold jX at h
 simp only[fV,rK,ui] at h
 obtain⟨⟨⟨⟨⟨⟨h1,h2⟩,h3⟩,h4⟩,h5⟩,h6⟩,h7⟩:=h
 refine⟨⟨by simpa using h6,fun x hx=>?_⟩,⟨_,rfl⟩,fun o ho h1=>?_,fun x hx=>?_⟩
 ·obtain⟨y,hy,rfl⟩:=List.mem_map.1 hx
  refine⟨hl y hy,?_⟩
  have:=h7 y hy
  unfold dF at this
  simp only[fV,rK] at this
  exact this.1.2
 ·rw[List.mem_singleton.1 ho] at h1;exact absurd rfl h1
 ·obtain⟨y,hy,rfl⟩:=List.mem_map.1 hx
  exact⟨Int.le_refl _,(by decide:0<2^64),(by decide:0<2^64)⟩
def Ka (h: ∃r,a9 af 1=some r):af≠[]:=fun e=>by
 obtain⟨r,h⟩:=h
 rw[e] at h;cases h
def bc1:Cl:={iv with op:=3,kind:=2,id:=1,ai:=rA,data:=[7]}
def bc2:Cl:={iv with op:=4,id:=65,n:=1}
def Nd:List Ob:=[{root 40 with used:=2,next:=2},{bz with id:=65,kind:=2,ai:=rA,data:=[7]}]
def bd1:bU 0 [iV rA] [root 40] bc1=⟨⟨0,0,65,[]⟩,true,[iV rA],Nd⟩:=by decide+kernel
def bd2:bU 0 [iV rA] Nd bc2=⟨⟨0,0,0,[7]⟩,true,[iV rA],Nd⟩:=by decide+kernel
def bd3:20<(xD Nd [iV rA]).length:=by decide+kernel
def bd4:jB [iV rA] 0=false:=by decide+kernel
def Ij (ok:aA P tb):al P 9 [] h (.bool true) h:=by
 refine ok.bA c9 ?_
 simp+decide only[sv,c9,aED,aEC]
 rcases ain ok (h:=h) (c:=⟨40,0,[rA]⟩) (τ:= .full) (w:= .vs ([rA].map (fun l=>l.c .full)) .full) (fun h' _=>lz.vsr (fun r hr=>by rw[List.mem_singleton.1 hr];rfl)) rfl rfl (fun l hl=>by rw[List.mem_singleton.1 hl];exact Wg) (by decide) with⟨e,_⟩|⟨_,a,lb,h1,d9,K,o,kn,kt⟩
 ·cases e
 refine ao d9 ?_
 simp+decide only[sv,aEB,aEA]
 have K1:KL h1 a lb 1 0 [iV rA] [root 40]:=⟨K,qd.one (n:=1) (by decide)⟩
 obtain⟨h2,cI,pK,N2,M2,K2,tE,iq,hN2,A3⟩:=K1.do ok (t:=0) (c:=bc1) (tl:=fun _=> .full) ⟨Wg,by decide,by decide,by decide,by decide,by decide,fun _ h=>by cases h⟩ (fun _=>by decide) (by decide) (by decide) (fun e=>by cases e)
 rw[bd1] at cI K2
 refine ao cI ?_
 have o2:=tE.fN o kn kt
 have Mr:=kn.to iq o.next
 simp+decide only[sv,Cr.v,Rp.c]
 generalize hX:aa.set _ _ _=X
 have xo:Old h2 X:=by rw[<-hX];exact((Old.refl h2).at (ak _)).set (ak _)
 have x0:X.get h2.next=some (.cells [.int .i64 0, .int .i64 0, .int .u64 65, .vs (BS []) .au]):=by rw[<-hX];simp[aa.set]
 have xn:X.next=h2.next+1:=by rw[<-hX];simp[aa.at,aa.set]
 simp+decide only[sv,aEz]
 obtain⟨h3,qo,lb3,N3,M3,K3,Ef,CI,hN3,hM3⟩:=(K2.old xo).do ok (t:=0) (c:=bc2) (tl:=fun _=> .full) ⟨Bu,by decide,by decide,by decide,by decide,by decide,fun _ h=>by cases h⟩ (fun e=>by cases e) (by omega) (by omega) (fun e=>by cases e)
 rw[bd2] at qo K3
 refine ao qo ?_
 have o3:=Ef.fN (o2.trans xo) Mr kt
 have eO:=K2.k.eO
 have kx:h3.get h2.next=some (.cells [.int .i64 0, .int .i64 0, .int .u64 65, .vs (BS []) .au]):=by
  rw[Ef.2 _ (by omega) (fun e=>by have:=eO _ (.inl e);omega) (fun e=>by have:=eO _ (.inr (.inl e));omega) (fun e=>by have:=eO _ (.inr (.inr e));omega),x0]
 have nh:=Ef.1
 simp+decide only[sv,Cr.v,Rp.c]
 generalize hY:aa.set _ _ _=Y
 have yo:Old h3 Y:=by rw[<-hY];exact((Old.refl h3).at (ak _)).set (ak _)
 have y0:cellsOf Y h3.next=some [.int .i64 0, .int .i64 0, .int .u64 0, .vs (BS [7]) .au]:=by rw[<-hY];exact aq (by simp[aa.set])
 have y1:cellsOf Y h2.next=some [.int .i64 0, .int .i64 0, .int .u64 65, .vs (BS []) .au]:=aq (by rw[yo.get _ (by omega),kx])
 have KY:=K3.old yo
 simp+decide only[sv,aEy,y0,y1,aY]
 refine ao (C0 ok KY.k (by decide) (by decide)) ?_
 simp+decide only[sv,fD]
 refine ao (NY ok KY.k (by decide) (fun x hx=>by rw[List.mem_singleton.1 hx];decide)) ?_
 simp+decide only[sv,gI]
 refine ao (Nn ok KY.k (by decide) (by decide) KY.inv.tv) ?_
 have b3:(20:Int)<((xD Nd [iV rA]).length:Int):=by have:=bd3;omega
 simp+decide only[sv,aY]
 refine ao (EW ok KY.k (t:=0)) ?_
 rw[bd4]
 simp+decide only[sv]
 exact(o3.trans yo).get
def Ks (H:aa) (a:KA) (ah:List Th) (af:List Ob) (B:Nat) (Z:Nat->Prop):Prop:= ∃lb N M,KL H a lb N M ah af/\(∀z,Z z->NK a lb z/\z<H.next)/\N<=1+2*B/\M<=B
variable {H H':aa} {a:KA} {ah:List Th} {af:List Ob} {B rb rt p n:Nat} {l:List UInt8} {Z:Nat->Prop}
def Ks.to (K:Ks H a ah af B Z) (hn:H.next<=H'.next) (hk: ∀b,b<H.next-> ¬Z b->H'.get b=H.get b):Ks H' a ah af B Z:=by
 obtain⟨lb,N,M,K,nk,hN,hM⟩:=K
 refine⟨lb,N,M,⟨K.k.more hn (fun b hb hf=>hk b hb (fun q=>?_)) (ak _) (ak _),K.inv⟩,fun z hz=>⟨(nk z hz).1,by grind⟩,hN,hM⟩
 rcases hf with f|f|f
 ·exact(nk b q).1.1 f
 ·exact(nk b q).1.2.1 f
 ·exact(nk b q).1.2.2 f
def Ks.old (K:Ks H a ah af B Z) (o:Old H H'):Ks H' a ah af B Z:=K.to o.next fun b hb _=>o.get b hb
def Ks.add (K:Ks H a ah af B Z) (o:Old H H') {Z':Nat->Prop} (hz: ∀z,Z' z->H.next<=z/\z<H'.next):Ks H' a ah af B (fun b=>Z b\/Z' b):=by
 obtain⟨lb,N,M,K,nk,hN,hM⟩:=K
 have eO:=K.k.eO
 refine⟨lb,N,M,K.old o,fun x hx=>?_,hN,hM⟩
 rcases hx with hx|hx
 ·exact⟨(nk x hx).1,by have:=(nk x hx).2;have:=o.next;omega⟩
 ·obtain⟨h1,h2⟩:=hz x hx
  exact⟨⟨fun f=>by grind,fun f=>by grind,fun f=>by grind⟩,h2⟩
def Ks.less (K:Ks H a ah af B Z) (hz: ∀z,Z' z->Z z):Ks H a ah af B Z':=by
 obtain⟨lb,N,M,K,nk,hN,hM⟩:=K
 exact⟨lb,N,M,K,fun z q=>nk z (hz z q),hN,hM⟩
def tR.ks (E:tR H a lb N M wA fK H') (nk: ∀z,Z z->NK a lb z/\z<H.next) (hN:N<=1+2*B) (hM:M<=B):Ks H' a wA fK (B+1) Z/\(∀z,Z z->H'.get z=H.get z)/\H.next<=H'.next:=by
 obtain⟨aW,N',M',K',kf,hl,U2,MV⟩:=E
 exact⟨⟨aW,N',M',K',fun z hz=>⟨(nk z hz).1.to hl (nk z hz).2,by have:=(nk z hz).2;have:=kf.1;omega⟩,by omega,by omega⟩,fun z hz=>kf.2 z (nk z hz).2 (nk z hz).1.1 (nk z hz).1.2.1 (nk z hz).1.2.2,kf.1⟩
def Ks.do (ok:aA P tb) (K:Ks H a ah af B Z) (hB:B<100) {t:Int} {c:Cl} (k:ClP c) (dU:af.length<=12):
 ∃h',al P 16 [.ptr a.kb 0, .int .i64 t, .agg (c.c tl)] H (bU t ah af c).v h'/\Ks h' a (bU t ah af c).ah (bU t ah af c).af (B+1) Z/\(∀z,Z z->h'.get z=H.get z)/\H.next<=h'.next:=by
 obtain⟨lb,N,M,K,nk,hN,hM⟩:=K
 obtain⟨h',c1,E⟩:=K.do ok (t:=t) (c:=c) (tl:=tl) k.ok k.new (by omega) (by omega) (fun _=>dU)
 exact⟨h',c1,E.ks nk hN hM⟩
def Ks.go (ok:aA P tb) (K:Ks H a ah af B Z) (hB:B<100) {t:Int}:
 ∃h',al P 28 [.ptr a.kb 0, .int .i64 t] H (gf t ah af).v h'/\Ks h' a (gf t ah af).ah (gf t ah af).af (B+1) Z/\(∀z,Z z->h'.get z=H.get z)/\H.next<=h'.next:=by
 obtain⟨lb,N,M,K,nk,hN,hM⟩:=K
 obtain⟨h',c1,E⟩:=K.go ok (t:=t) (by omega) (by omega)
 exact⟨h',c1,E.ks nk hN hM⟩
def PK.to (K:PK H p l n) (hn:H.next<=H'.next) (hk:H'.get p=H.get p):PK H' p l n:=by
 obtain⟨t,g⟩:=K.get
 exact⟨bJ K.lt hn,K.le,K.len,t,by rw[hk,g]⟩
structure Bs (H:aa) (a:KA) (rb rt p:Nat) (l:List UInt8) (ah:List Th) (af:List Ob) (n' B:Nat):Prop where
 k:Ks H a ah af B (fun b=>b=p\/b=rb\/b=rt)
 r:RK H rb rt ah af
 pk:PK H p l n'
 pr:p≠rb/\p≠rt
 l1:1<=ah.length
 len:af.length<=10
 use:n'<l.length->11*(af.length-1)<=n'
 LB:af.length<=(l.length+10)/11+1
def VZ {t:Nat} {c:Cl} (ks:KS af) (hr: ∃r,a9 af 1=some r) (h3:c.op≠3):(dE t x af c done).af.length<=af.length:=by
 have wr: ∀{o:Ob} {d:List UInt8},o∈af->(tC af o d).length<=af.length:=fun{o d} ho=>by
  unfold tC
  rw[Ix (o:={o with data:=d}) ks.aQ ⟨o,ho,rfl⟩];omega
 have wr2: ∀{o:Ob} {r:List (List UInt8)},o∈af->(bC af {o with ring:=r}).length<=af.length:=fun{o r} ho=>by
  rw[Ix (o:={o with ring:=r}) ks.aQ ⟨o,ho,rfl⟩];omega
 have same:af.length<=af.length:=ak _
 have step: ∀{p:Prop} [Decidable p] {a b:Dr},(p->a.af.length<=af.length)->(¬p->b.af.length<=af.length)->(if p then a else b).af.length<=af.length:=fun{p} _ {a b} h1 h2=>by
  grind
 unfold dE
 refine step (fun _=>same) (fun _=>?_)
 unfold iO
 refine step (fun _=>same) (fun _=>?_)
 refine step (fun _=>same) (fun _=>?_)
 refine step (fun q=>absurd q h3) (fun _=>?_)
 refine step (fun _=>same) (fun _=>?_)
 refine step (fun _=>?_) (fun _=>?_)
 ·show(iN x.ai af c).2.length<=_
  unfold iN
  have eD:=oq (l:=x.ai) (id:=c.id) (kind:=2) (q:=cM x.ai) hr
  grind
 refine step (fun _=>?_) (fun _=>?_)
 ·show(kA x.ai af c).2.length<=_
  unfold kA
  split
  ·exact same
  rename_i h1
  have yN:=N4 (l:=x.ai) hr h1
  split
  ·exact same
  rename_i he
  obtain⟨_,b,hb,gw,jZ⟩:=yN (Classical.not_not.1 he)
  rw[hb,iQ]
  split
  ·exact same
  have si:=ix hb
  have uH:b∈kL c.id af:=List.mem_filter.2 ⟨si.1,by rw[si.2,ah3 jZ h1];rfl⟩
  rw[Ix (N8 ks.aQ) ⟨b,uH,OA.1.symm⟩]
  exact GD _ _
 refine step (fun _=>same) (fun _=>?_)
 refine step (fun _=>?_) (fun _=>?_)
 ·show(kH x.ai af c).2.length<=_
  unfold kH
  have eD:=oq (l:=x.ai) (id:=c.id) (kind:=4) (q:=dW x.ai) hr
  grind
 refine step (fun _=>?_) (fun _=>?_)
 ·show(gN x af c).2.2.2.1.length<=_
  unfold gN
  have eD:=oq (l:=x.ai) (id:=c.id) (kind:=4) (q:=dW x.ai) hr
  grind
 refine step (fun _=>?_) (fun _=>?_)
 ·show(gz x af c done).2.2.2.1.length<=_
  unfold gz
  have eD:=oq (l:=x.ai) (id:=c.to) (kind:=2) (q:=cM x.ai) hr
  split
  ·exact same
  split
  ·exact same
  rename_i he
  split
  ·exact same
  ·unfold tD
   grind
 grind
def akr {t:Int} {c:Cl} (ks:KS af) (hr: ∃r,a9 af 1=some r):(bU t ah af c).af.length<=if c.op=3 then af.length+1 else af.length:=by
 by_cases h3:c.op=3
 ·rw[ax h3];exact aLy ks hr
 ·rw[aj h3]
  unfold bU
  split
  ·grind
  split
  ·grind
  split
  ·exact VZ ks hr h3
  grind
def ak9 {t:Int} (ks:KS af) (hr: ∃r,a9 af 1=some r):(gf t ah af).af.length<=af.length:=by
 unfold gf
 split
 ·grind
 split
 ·split
  ·exact VZ ks hr (by grind)
  ·exact VZ ks hr (by grind)
 grind
def ajC {t:Nat} {c:Cl}:(hP t ah x af c done).ah.length=ah.length:=by
 unfold hP;rw[aJH,kE]
theorem aMT {t:Int} {c:Cl}:(bU t ah af c).ah.length=ah.length:=by
 unfold bU
 split
 ·rfl
 split
 ·rfl
 split
 ·exact ajC
 ·rfl
theorem aMQ {t:Int}:(gf t ah af).ah.length=ah.length:=by
 unfold gf
 split
 ·rfl
 split
 ·split<;>exact ajC
 ·rfl
end
end Go.Proofs.YtoioonbabnomkaaGreat.Am
