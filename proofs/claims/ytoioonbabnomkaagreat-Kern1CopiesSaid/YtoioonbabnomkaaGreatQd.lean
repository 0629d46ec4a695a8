/- What the functions do. Conditions: none. -/
import Derived.Test.YtoioonbabnomkaaGreatQc
set_option autoImplicit true
set_option relaxedAutoImplicit true
set_option maxRecDepth 100000
set_option maxHeartbeats 8000000
set_option linter.unusedSimpArgs false
set_option linter.unusedVariables false
set_option linter.unnecessarySimpa false
set_option linter.defProp false
namespace Go.Proofs.YtoioonbabnomkaaGreat.Am
section
open Go
variable {P:Program} {h:aa}
variable {B n':Nat} {H H':aa} {a:KA} {ah:List Th} {af:List Ob} {rb rt p n:Nat} {l:List UInt8} {Z:Nat->Prop}
def Ks.set (K:Ks H a ah af B Z) {z:Nat} (hz:Z z) (x):Ks (H.set z x) a ah af B Z:=K.to (ak _) fun b _ hb=>by simp only[aa.set];grind
def RK.to (K:RK H rb rt ah af) (hn:H.next<=H'.next) (hk: ∀b,(b=rb\/b=rt)->H'.get b=H.get b):RK H' rb rt ah af:=K.same hn (hk _ (.inl rfl)) (hk _ (.inr rfl))
structure Bz (H:aa) (a:KA) (rb rt p:Nat) (l:List UInt8) (ah:List Th) (af:List Ob) (n' B:Nat) (Z:Nat->Prop):Prop where
 k:Ks H a ah af B (fun b=>(b=p\/b=rb\/b=rt)\/Z b)
 r:RK H rb rt ah af
 pk:PK H p l n'
 pr:p≠rb/\p≠rt
 zz: ∀z,Z z->z≠p/\z≠rb/\z≠rt
def Bz.old (b:Bz H a rb rt p l ah af n' B Z) (o:Old H H'):Bz H' a rb rt p l ah af n' B Z:=⟨b.k.old o,b.r.old o,b.pk.old o,b.pr,b.zz⟩
def Bz.add (b:Bz H a rb rt p l ah af n' B Z) (o:Old H H') {Z':Nat->Prop} (hz: ∀z,Z' z->H.next<=z/\z<H'.next):Bz H' a rb rt p l ah af n' B (fun b=>Z b\/Z' b):=by
 have l1:=b.r.l1
 have l2:=b.r.l2
 have l3:=b.pk.lt
 refine⟨(b.k.add o hz).less fun x q=>?_,b.r.old o,b.pk.old o,b.pr,fun x q=>?_⟩
 ·grind
 ·rcases q with q|q
  ·exact b.zz x q
  grind
def Bz.put (b:Bz H a rb rt p l ah af n' B Z) {z:Nat} (hz:Z z) (x):Bz (H.set z x) a rb rt p l ah af n' B Z:=by
 obtain⟨z1,z2,z3⟩:=b.zz z hz
 refine⟨b.k.set (.inr hz) x,b.r.to (ak _) fun b hb=>?_,?_,b.pr,b.zz⟩
 ·simp only[aa.set];grind
 ·obtain⟨t,g⟩:=b.pk.get
  exact⟨b.pk.lt,b.pk.le,b.pk.len,t,by simp only[aa.set];grind⟩
def Bz.ps (b:Bz H a rb rt p l ah af n' B Z) {k:Nat} (s:Ps H H' p l n' k n2):Bz H' a rb rt p l ah af n2 B Z:=⟨b.k.to s.f.1 fun x hx nz=>s.f.2 x hx fun e=>nz (.inl (.inl e)),b.r.same s.f.1 (s.f.2 _ b.r.l1 fun e=>b.pr.1 e.symm) (s.f.2 _ b.r.l2 fun e=>b.pr.2 e.symm),s.pk,b.pr,b.zz⟩
def yT {b:Nat} (e:H'.get b=H.get b) (c:cellsOf H b=some cs):cellsOf H' b=some cs:=by unfold cellsOf at c ⊢;rw[e];exact c
def RC {z:Nat} {b:Option lB} (e:z≠x):(H.set x b).get z=H.get z:=by simp only[aa.set];rw[aj e]
def Zf (rb rt p:Nat) (Z:Nat->Prop):Nat->Prop:=fun b=>(b=p\/b=rb\/b=rt)\/Z b
def Bz.half (b:Bz H a rb rt p l ah af n' B Z) {R:Cr} (K:Ks H1 a R.ah R.af (B+1) (Zf rb rt p Z)) (hk: ∀z,Zf rb rt p Z z->H1.get z=H.get z) (hn:H.next<=H1.next) (hx:Z x) {c:List AV}:
 RK (H1.set x (some (.cells c))) rb rt ah af/\PK (H1.set x (some (.cells c))) p l n'/\Ks (H1.set x (some (.cells c))) a R.ah R.af (B+1) (Zf rb rt p Z)/\cellsOf (H1.set x (some (.cells c))) x=some c/\ ∀y cs,Z y->y≠x->cellsOf H y=some cs->cellsOf (H1.set x (some (.cells c))) y=some cs:=by
 obtain⟨z1,z2,z3⟩:=b.zz x hx
 refine⟨b.r.to hn fun y q=>?_,b.pk.to hn ?_,K.set (.inr hx) _,aq (by simp[aa.set]),fun y cs hy e q=>yT (by rw[RC e,hk y (.inr hy)]) q⟩
 ·rw[RC (fun e=>by omega),hk y (.inl (.inr q))]
 ·rw[RC (fun e=>z1 e.symm),hk p (.inl (.inl rfl))]
def Bz.whole (b:Bz H a rb rt p l ah af n' B Z) {R:Cr} (K:Ks H1 a R.ah R.af (B+1) (Zf rb rt p Z)) (kp:PK H1 p l n') (E:RE H1 rb rt R.ah R.af H2) (hy:Z y) {c:List AV}:
 Bz (H2.set y (some (.cells c))) a rb rt p l R.ah R.af n' (B+1) Z/\cellsOf (H2.set y (some (.cells c))) y=some c/\ ∀x cs,x<H1.next->Z x->x≠y->cellsOf H1 x=some cs->cellsOf (H2.set y (some (.cells c))) x=some cs:=by
 have e2:Bz H2 a rb rt p l R.ah R.af n' (B+1) Z:=⟨K.to E.2.1 fun x hx nz=>E.2.2 x hx (fun e=>nz (.inl (.inr (.inl e)))) (fun e=>nz (.inl (.inr (.inr e)))),E.1,kp.to E.2.1 (E.2.2 _ kp.lt b.pr.1 b.pr.2),b.pr,b.zz⟩
 exact⟨e2.put hy _,aq (by simp[aa.set]),fun x cs hl hx e q=>yT (RC e) (E.2.cells hl (b.zz x hx).2.1 (b.zz x hx).2.2 q)⟩
structure yX (V:List Ob->Prop):Prop where
 s: ∀q:Int,0<=q->V [root q]
 d: ∀{t:Int} {ah:List Th} {af:List Ob} {c:Cl},V af->KS af->Tree af->(∃r,a9 af 1=some r)->V (bU t ah af c).af
 g: ∀{t:Int} {ah:List Th} {af:List Ob},V af->KS af->Tree af->(∃r,a9 af 1=some r)->V (gf t ah af).af
def yX.no:yX fun _=>True:=⟨fun _ _=>trivial,fun _ _ _ _=>trivial,fun _ _ _ _=>trivial⟩
def Im (ok:aA P tb) (kV:yX V) (K:PK h p l 0) (hl:l.length<=90) {N:Nat} (hN:N<=64): ∃a rb rt h' ah af n' B,al P 10 [.ptr p 0, .int .i64 N] h (.aE [.ptr a.kb 0, .ptr rb 0, .bool true]) h'/\Bs h' a rb rt p l ah af n' B/\B<=N/\V af:=by
 suffices key: ∃v h',al P 10 [.ptr p 0, .int .i64 N] h v h'/\ ∃a rb rt ah af n' B,v= .aE [.ptr a.kb 0, .ptr rb 0, .bool true]/\Bs h' a rb rt p l ah af n' B/\B<=N/\V af by
  grind
 obtain⟨Q,hQ⟩: ∃Q:AV->aa->Prop,∀v h',Q v h'↔ ∃a rb rt ah af n' B,v= .aE [.ptr a.kb 0, .ptr rb 0, .bool true]/\Bs h' a rb rt p l ah af n' B/\B<=N/\V af:=⟨_,fun _ _=>Iff.rfl⟩
 suffices key: ∃v h',al P 10 [.ptr p 0, .int .i64 N] h v h'/\Q v h' by
  grind
 refine ok.kP iK ?_
 obtain⟨cf,h2,n2,c2,Vc,cf2,K2⟩:=aFS ok K
 simp+decide only[sv,iK,aDR,ae7,Cf.c]
 refine ao c2 ?_
 have aUJ:1<=cf.aU.length/\cf.aU.length<=4:=by
  have h:=Vc
  unfold jX at h
  grind
 have rl: ∀r∈(cf.aU.map fun l=>l.c .au),r.length=2:=fun r hr=>by
  obtain⟨x,_,rfl⟩:=List.mem_map.1 hr;rfl
 simp+decide only[sv,iK,ae7,Cf.c,xr]
 generalize hX:aa.set _ _ _=X
 have xo:Old h2 X:=by rw[<-hX];exact((Old.refl h2).at (ak _)).set (ak _)
 have x0:cellsOf X h2.next=some (cf.c .au):=by rw[<-hX];exact aq (by simp[aa.set];rfl)
 have xn:h2.next<X.next:=by rw[<-hX];simp[aa.at,aa.set]
 clear hX
 simp only[Cf.c] at x0
 simp+decide only[sv,iK,ae6,x0]
 rcases ain ok (h:=X) (c:=cf) (τ:= .au) (w:= .vs (zX.R cf.aU) .au) (fun h' _=>lz.vsr rl) rfl rfl cf2 (by omega) with⟨e,_⟩|⟨_,a,lb,h3,d9,K3,o3,kn,kt⟩
 ·grind
 refine ao d9 ?_
 have KL0:KL h3 a lb 1 0 (cf.aU.map iV) [Am.root cf.aP]:=⟨K3,qd.cf Vc cf2⟩
 have y0:=o3.cells xn x0
 simp+decide only[sv,iK,ae6,ae5,y0,xr]
 obtain⟨rb,rt,h4,c4,R4,o4,g1,g2⟩:=aG9 ok (h:=h3) (c:=cf) (τ:= .au) Vc cf2
 refine ao c4 ?_
 have AE:=K2.pk.lt
 have on3:=o3.next
 have nk0:NK a lb p:=⟨fun e=>by rcases e with e|e;have:=kn.1;omega;omega,fun e=>by have:=kn.2.1 _ e;omega,fun e=>by have:=kn.2.2 _ e;omega⟩
 have Kp:Ks h3 a (cf.aU.map iV) [Am.root cf.aP] 0 (fun b=>b=p):=⟨lb,1,0,KL0,fun z hz=>by grind,by omega,by omega⟩
 have B0:Bs h4 a rb rt p l (cf.aU.map iV) [Am.root cf.aP] n2 0:=by
  refine⟨?_,R4,(K2.pk.old (xo.trans o3)).old o4,⟨by omega,by omega⟩,by simp;omega,by simp,fun _=>by simp,by grind⟩
  obtain⟨lb,N,M,K,nk,hN,hM⟩:=Kp
  have eO:=K.k.eO
  refine⟨lb,N,M,K.old o4,fun x hx=>?_,hN,hM⟩
  have l1:=R4.l1
  have l2:=R4.l2
  rcases hx with rfl|hx
  ·grind
  ·have e:h3.next<=x:=by omega
   exact⟨⟨fun f=>by grind,fun f=>by grind,fun f=>by grind⟩,by omega⟩
 have v0:V [Am.root cf.aP]:=kV.s _ (by
  have h:=Vc
  unfold jX at h
  grind)
 generalize cf.aU.map iV=aO2 at*
 generalize [Am.root cf.aP]=aSL at*
 clear Kp KL0 nk0 kn kt
 simp+decide only[sv,iK,ae5,aDQ,aDP,xr]
 clear c2 d9 c4 y0 x0 o3 o4 xo K3 R4 K2
 let I:Nat->Env->aa->Prop:=fun m ρ H=> ∃i ah af n',N=i+m/\Bs H a rb rt p l ah af n' i/\V af/\ρ 0= .ptr p 0/\ρ 1= .int .i64 N/\ρ 8= .ptr a.kb 0/\ρ 10= .ptr rb 0/\ρ 12= .int .i64 i
 refine dv I ?_ N ⟨0,aO2,aSL,n2,by omega,B0,v0,rfl,rfl,rfl,rfl,rfl⟩
 clear B0
 rintro m ρ H ⟨i,ah,af,n',uT,B,vo,r0,r1,r8,bK,iI⟩
 obtain⟨kk,rr,pk,pr,l1,len,use,LB⟩:=id B
 have Z0:Bz H a rb rt p l ah af n' i (fun _=>False):=⟨kk.less fun x q=>q.elim id False.elim,rr,pk,pr,fun z q=>q.elim⟩
 by_cases hi:i<N
 ·have av:(i:Int)<(N:Int):=by omega
  have hw:=dj (show i<2^61 by omega)
  simp+decide only[sv,iK,Lm,r0,r1,iI,av]
  refine ao (VW ok pk) ?_
  by_cases qj:l.length<=n'
  ·rw[mF qj]
   simp+decide only[sv,iK,Lm,acq,r8,bK,eK]
   grind
  ·rw[mc qj]
   have us:=use (by omega)
   obtain⟨tt,g⟩:=rr.top
   have cg:=aq g
   have l4:=rr.tv.len
   obtain⟨r,h5,n5,c5,hr,K5⟩:=lD ok pk (m:=ah.length) (by omega) (by omega)
   have lo5:=K5.lo
   have Z1:=Z0.ps K5
   clear Z0 kk rr pk
   simp+decide only[sv,iK,Lm,ae4,r0,bK,cg]
   refine ao c5 ?_
   simp+decide only[sv,iK,ae4,aDO,av3]
   generalize hX:aa.set _ _ _=X
   have xo:Old h5 X:=by rw[<-hX];exact((((Old.refl h5).at (ak _)).set (ak _)).at (by omega)).set (by omega)
   have x0:cellsOf X h5.next=some (fY.c .full):=by rw[<-hX];exact aq (by simp[aa.at,aa.set];rfl)
   have x1:cellsOf X (h5.next+1)=some (fY.c .full):=by rw[<-hX];exact aq (by simp[aa.at,aa.set];rfl)
   have xn:X.next=h5.next+2:=by rw[<-hX];simp[aa.at,aa.set]
   clear hX
   have Z2:=Z1.add xo (Z':=fun z=>z=h5.next\/z=h5.next+1) fun z q=>by omega
   clear Z1
   generalize h5.next=x at*
   have kx:=Z2.k
   obtain⟨pK,N2,M2,KX,nk2,hN2,A3⟩:=id kx
   simp+decide only[sv,iK,acy,r8,bK]
   refine ao (EW ok KX.k (t:=(r:Int))) ?_
   simp+decide only[sv,bK]
   refine ao (Nv ok Z2.r (t:=(r:Int))) ?_
   have bb: ∀b:Bool,bH true .neq (.bool b) (.bool b)=some (.bool false):=fun b=>by cases b<;>rfl
   simp+decide only[sv,iK,acy,av2,bb,bK]
   refine ao (Nv ok Z2.r (t:=(r:Int))) ?_
   generalize hK:iD (WP P _ (jO 1 _)) (jO 1 _)=K1
   refine zg (fun ρ=>ρ 0= .ptr p 0/\ρ 1= .int .i64 N/\ρ 8= .ptr a.kb 0/\ρ 10= .ptr rb 0/\ρ 12= .int .i64 i/\ρ 13= .int .i64 r/\ρ 14= .ptr x 0/\ρ 16= .ptr (x+1) 0/\ρ 69= .bool (jB ah r)) ⟨r0,r1,r8,bK,iI,rfl,rfl,rfl,rfl⟩ ?_
   clear r0 r1 r8 bK iI
   rintro ρ ⟨r0,r1,r8,bK,iI,fv,jg,jY,Uf⟩
   have last: ∀(ρ:Env) (G:aa) (wA:List Th) (fK:List Ob) (n6:Nat) (q:Rp) (τ τ':aL) (is:Bool) (Z:Nat->Prop),Bz G a rb rt p l wA fK n6 (i+1) Z->cellsOf G x=some (q.c τ)->cellsOf G (x+1)=some (q.c τ')->1<=wA.length->fK.length<=10/\fK.length<=(l.length+10)/11+1/\V fK->(n6<l.length->11*(fK.length-1)<=n6)->ρ 0= .ptr p 0->ρ 1= .int .i64 N->ρ 8= .ptr a.kb 0->ρ 10= .ptr rb 0->ρ 12= .int .i64 i->ρ 14= .ptr x 0->ρ 16= .ptr (x+1) 0->ρ 15= .bool is->ρ 17= .bool is->K1 .normal ρ G:=by
    intro ρ G wA fK n6 q τ τ' is Z b q1 q2 q3 q4 q5 r0 r1 r8 bK iI jg jY fZ oR
    rw[<-hK]
    simp only[Rp.c] at q1 q2
    simp+decide only[sv,iK,acr,jg,fZ,jY,oR,q1,q2,bb]
    refine ao (aE1 ok (r:=q) (τ:=τ) (τ':=τ')) ?_
    have hw:=dj (show i<2^61 by omega)
    simp+decide only[sv,iK,acr,av1,iI,hw]
    exact⟨m-1,by omega,i+1,wA,fK,n6,by omega,⟨b.k.less fun _ q=> .inl q,b.r,b.pk,b.pr,q3,q4.1,q5,q4.2.1⟩,q4.2.2,r0,r1,r8,bK,rfl⟩
   clear hK
   have aN:=KX.inv.own
   have zx:=Z2.zz x (.inr (.inl rfl))
   have zy:=Z2.zz (x+1) (.inr (.inr rfl))
   cases EC:jB ah (r:Int) with
   |true=>
    rw[EC] at Uf
    simp+decide only[sv,iK,acx,Uf,r8,fv]
    obtain⟨h7,c7,k7,f7,o7⟩:=kx.go ok (by omega) (t:=(r:Int))
    have gl:=ak9 (t:=(r:Int)) (ah:=ah) Z2.r.ks Z2.r.root
    have gt:=aMQ (t:=(r:Int)) (ah:=ah) (af:=af)
    refine ao c7 ?_
    obtain⟨R8,p8,k8,q8,t8⟩:=Z2.half k7 f7 o7 (.inr (.inl rfl)) (c:=(gf (r:Int) ah af).r.c .au)
    have t8:=t8 _ _ (.inr (.inr rfl)) (by omega) x1
    obtain⟨h9,c9,E9⟩:=ajp ok R8 (t:=(r:Int)) (fun x hx=>(aN x hx).2) (by omega)
    obtain⟨Z9,q9,t9⟩:=Z2.whole k8 p8 E9 (.inr (.inr rfl)) (c:=(gf (r:Int) ah af).r.c .au)
    have t9:=t9 _ _ (by show x<h7.next;omega) (.inr (.inl rfl)) (by omega) q8
    have y9:=E9.2.cells (by show x+1<h7.next;omega) zy.2.1 zy.2.2 t8
    have x7:cellsOf h7 x=some (fY.c .full):=yT (f7 _ (.inr (.inr (.inl rfl)))) x0
    have lx:x<h7.next:=by omega
    have ly:x+1<h9.next:=by have:=E9.2.1;have e:(h7.set x (some (.cells ((gf (r:Int) ah af).r.c .au)))).next=h7.next:=rfl;omega
    have v9:=kV.g (t:=(r:Int)) (ah:=ah) vo KX.k.ks KX.inv.tree KX.inv.root
    generalize gf (r:Int) ah af=R at*
    simp only[Rp.c] at q8 t8 q9 t9 x7 y9 c9
    simp+decide only[sv,iK,acx,acw,r8,bK,fv,jg,jY,Cr.v,Rp.c,xr,x7,lx]
    refine ao c9 ?_
    simp+decide only[sv,iK,acw,jY,Cr.v,Rp.c,xr,y9,ly]
    exact last _ _ R.ah R.af n5 R.r .au .au R.is _ Z9 t9 q9 (by omega) ⟨by omega,by omega,v9⟩ (fun q=>by omega) r0 r1 r8 bK iI jg jY rfl rfl
   |false=>
    rw[EC] at Uf
    obtain⟨tt2,gX⟩:=Z2.r.top
    have cX:=aq gX
    simp+decide only[sv,iK,acv,Uf,r0,bK,cX]
    obtain⟨cl,h6,n6,c6,P6,K6⟩:=V6 ok Z2.pk (af:=af) (t:=tt2) (fun o ho=>(KX.k.ks.val o ho).ok.id) (by omega)
    refine ao c6 ?_
    have x6:=yT (K6.f.2 x (by omega) zx.1) x0
    have y6:=yT (K6.f.2 (x+1) (by omega) zy.1) x1
    have lo6:=K6.lo
    have ln6:=K6.f.1
    have Z6:=Z2.ps K6
    simp+decide only[sv,iK,acv,ed]
    generalize hY:aa.set _ _ _=Y
    have yo:Old h6 Y:=by rw[<-hY];exact((Old.refl h6).at (ak _)).set (ak _)
    have c0:cellsOf Y h6.next=some (cl.c aC):=by rw[<-hY];exact aq (by simp[aa.set];rfl)
    have yn:Y.next=h6.next+1:=by rw[<-hY];simp[aa.at,aa.set]
    clear hY
    simp only[ed] at c0
    have Z7:=Z6.add yo (Z':=fun z=>z=h6.next) fun z q=>by omega
    have x7:=yo.cells (by omega) x6
    have y7:=yo.cells (by omega) y6
    have z7:=Z7.zz h6.next (.inr rfl)
    clear Z2 Z6 kx x0 x1 x6 y6
    have kx:=Z7.k
    generalize h6.next=z at*
    simp+decide only[sv,iK,acu,r8,fv,c0]
    obtain⟨h7,c7,k7,f7,o7⟩:=kx.do ok (by omega) (t:=(r:Int)) (c:=cl) (tl:=aC) P6 (by omega)
    have gl:=akr (t:=(r:Int)) (ah:=ah) (c:=cl) Z7.r.ks Z7.r.root
    have gt:=aMT (t:=(r:Int)) (ah:=ah) (af:=af) (c:=cl)
    refine ao c7 ?_
    obtain⟨R8,p8,k8,q8,t8⟩:=Z7.half k7 f7 o7 (.inl (.inr (.inl rfl))) (c:=(bU (r:Int) ah af cl).r.c .au)
    have d8:=t8 _ _ (.inr rfl) (by omega) c0
    have t8:=t8 _ _ (.inl (.inr (.inr rfl))) (by omega) y7
    obtain⟨h9,c9,E9⟩:=aIs ok R8 (t:=(r:Int)) (c:=cl) (τ:=aC) P6.ok P6.ai (fun e=>(P6.new e).2) (fun x hx=>aN x hx) (by omega)
    obtain⟨Z9,q9,t9⟩:=Z7.whole k8 p8 E9 (.inl (.inr (.inr rfl))) (c:=(bU (r:Int) ah af cl).r.c .au)
    have t9:=t9 _ _ (by show x<h7.next;omega) (.inl (.inr (.inl rfl))) (by omega) q8
    have y9:=E9.2.cells (by show x+1<h7.next;omega) zy.2.1 zy.2.2 t8
    have x7:cellsOf h7 x=some (fY.c .full):=yT (f7 _ (.inr (.inl (.inr (.inl rfl))))) x7
    have lx:x<h7.next:=by omega
    have ly:x+1<h9.next:=by have:=E9.2.1;have e:(h7.set x (some (.cells ((bU (r:Int) ah af cl).r.c .au)))).next=h7.next:=rfl;omega
    have v9:=kV.d (t:=(r:Int)) (ah:=ah) (c:=cl) vo KX.k.ks KX.inv.tree KX.inv.root
    generalize bU (r:Int) ah af cl=R at*
    simp only[Rp.c] at q8 t8 q9 t9 x7 y9 c9 d8
    simp only[ed] at c9
    simp+decide only[sv,iK,acu,acs,r8,bK,fv,jg,jY,Cr.v,Rp.c,xr,x7,lx,d8]
    refine ao c9 ?_
    simp+decide only[sv,iK,acs,jY,Cr.v,Rp.c,xr,y9,ly]
    have us9:n6<l.length->11*(R.af.length-1)<=n6:=fun q=>by split at gl<;>split at lo6<;>omega
    have aD5:R.af.length<=10/\R.af.length<=(l.length+10)/11+1:=by split at gl<;>omega
    exact last _ _ R.ah R.af n6 R.r .au .au R.is _ Z9 t9 q9 (by omega) ⟨aD5.1,aD5.2,v9⟩ us9 r0 r1 r8 bK iI jg jY rfl rfl
 ·have av: ¬(i:Int)<(N:Int):=by omega
  simp+decide only[sv,iK,Lm,acq,r1,r8,bK,iI,av,eK]
  exact(hQ _ _).2 ⟨a,rb,rt,ah,af,n',i,rfl,B,by omega,vo⟩
end
section
open Go
variable {P:Program} {h:aa}
def aE5 (ok:aA P tb) (K:RK h rb rt l af) {t:aL}:al P 19 [.vs (aI τ l) t, .rs rt 0 l.length 12] h (.bool true) h:=by
 refine ok.bA tQ ?_
 have hl:=K.tv.len
 simp+decide only[sv,tQ,aeY,aeX,aeW,gI]
 let J:Nat->Env->aa->Prop:=fun i ρ H=>Old h H/\ρ 0= .vs (aI τ l) t/\ρ 1= .rs rt 0 l.length 12
 refine eQ 5 0 l.length (by omega) (bM _) J ?_ ?_ ⟨Old.refl h,rfl,rfl⟩ rfl
 ·rintro i ρ H ⟨ho,r0,r1⟩ r5-hi av aK hw
  have gi:(aI τ l)[i]? =some (l[i].c τ):=Fm hi
  obtain⟨q1,q2,q3,q4⟩:=K.row hi
  have c1:=ho.cells K.l2 (aq K.aU)
  have lt:=K.l2
  have on:=ho.next
  have l2:rt<H.next:=by omega
  have k2:=(K.kv _ (bw hi)).st
  obtain⟨_,_,k1⟩:=K.ai hi
  simp only[Th.c] at gi q2
  simp+decide only[sv,tQ,Ll,r0,r5,gI,av]
  refine bq 10 rfl rfl ?_
  simp+decide only[sv,tQ,Lk,r0,r1,r5,aK,av,gi,c1,l2,q1,q2,xr]
  refine dX (ahY ok (o:=l[i]) (τ:=τ) (τ':=aH) (by omega) k2) (ba (ak _)) ?_
  simp+decide only[sv,tQ,Lk,aeV,r5,hw]
  exact⟨ho.clean,r0,r1⟩
 ·rintro ρ H ⟨ho,r0,r1⟩ r5 av
  simp+decide only[sv,tQ,Ll,aeU,r0,r5,gI,av]
  exact ho.get
variable {a:KA} {ah:List Th} {af:List Ob} {B n' rb rt p:Nat} {l:List UInt8}
def yY (ok:aA P tb) (b:Bs h a rb rt p l ah af n' B):al P 12 [.ptr a.kb 0, .ptr rb 0] h (.bool true) h:=by
 refine ok.bA Vt ?_
 obtain⟨lb,N,M,K,nk,hN,hM⟩:=b.k
 have hl:=b.len
 have l4:=b.r.tv.len
 have ne:=Ka b.r.root
 obtain⟨tt,g⟩:=b.r.top
 have c0:=aq g
 have gQ: ∀x∈ah,x.ai.ps.length<2^20:=fun x hx=>by have:=(b.r.tv.ai x hx).2;omega
 have l1:=b.r.l1
 have l2:=b.r.l2
 have rr: ∀{n},RK (h.clean n) rb rt ah af:=fun{n}=>b.r.old (Old.refl h).clean
 have K:=K.old ((Old.refl h).clean (n:=26))
 have hB:bQ 1 (BS (xD af ah))=true:=by cases xD af ah<;>rfl
 have wU: ∀o∈af,o.ai.ps.length<2^30/\o.st.s.length<2^30/\o.st.i.length<2^30/\o.st.o.length<2^30/\o.bf.length<2^30/\o.ring.length<2^30:=fun o ho=>by
  have v:=b.r.ks.val o ho
  have e:o.st=qV:=by rw[<-v.norm];unfold mo;split;rfl;split;rfl;split<;>rfl
  have l:=(b.r.ks.ai ho).2.2
  have k:=v.ok.bf
  have r:=v.ok.ring
  rw[e]
  exact⟨by omega,by decide,by decide,by decide,by omega,by omega⟩
 simp+decide only[sv,Vt,aDL]
 refine jk 22 26 rfl (by omega) rfl ?_
 simp+decide only[sv,Vt,aDK,c0,zS,kD]
 refine dh (C0 ok K.k ne (by omega)) (ba (ak _)) ?_
 simp+decide only[sv,c0,l1]
 refine dh (aE7 ok (by omega) wU) (ba (ak _)) ?_
 simp+decide only[sv]
 refine dh (NY ok K.k (by omega) gQ) (ba (ak _)) ?_
 simp+decide only[sv,c0,l1]
 refine dh (aE5 ok rr) (ba (ak _)) ?_
 simp+decide only[sv]
 refine dh (Nn ok K.k ne (by omega) b.r.tv) (ba (ak _)) ?_
 simp+decide only[sv,hB,xt,iB]
 refine⟨trivial,?_⟩
 refine dh (aFu ok rr) (ba (ak _)) ?_
 simp+decide only[sv,hB,xt,iB,List.drop_succ_cons,sR]
 have es: ∀s:ByteArray,bH false .eql (.str s) (.str s)=some (.bool true):=fun s=>by simp[bH]
 simp+decide only[sv,es]
 exact fun b hb=>ax hb
def CW (ok:aA P tb) {t:aL} (hl:l.length<2^30): ∃h',al P 11 [.vs (BS l) t] h (.ptr h.next 0) h'/\PK h' h.next l 0/\Old h h':=by
 refine ok.dr Nb ?_
 simp+decide only[sv,Nb,aDN,aDM,xr]
 exact⟨rfl,⟨by simp[aa.at],bM _,hl,t,by simp[aa.at]⟩,(Old.refl h).at (ak _)⟩
def aUh (ok:aA P tb) {t:aL}: ∃h',al P 3 [.vs (BS l) t] h (.bool true) h'/\True:=by
 refine ok.dr c3 ?_
 simp+decide only[sv,c3,aEV,TC]
 refine ao (Ij ok) ?_
 by_cases h90:90<l.length
 ·have D2:(90:Int)<(l.length:Int):=by omega
  simp+decide only[sv,c3,TC,af3,aEU,aY,D2]
  exact⟨rfl,trivial⟩
 have D2: ¬(90:Int)<(l.length:Int):=by omega
 simp+decide only[sv,c3,TC,af3,af2,aY,D2]
 obtain⟨h1,c1,K1,o1⟩:=CW ok (h:=h) (l:=l) (t:=t) (by omega)
 refine ao c1 ?_
 obtain⟨a,rb,rt,h2,ah,af,n',B,c2,b,_,_⟩:=Im ok yX.no K1 (by omega) (N:=30) (by omega)
 simp+decide only[sv]
 refine ao c2 ?_
 simp+decide only[sv,c3,af2,aET,xr]
 refine ao (yY ok b) ?_
 simp+decide only[sv]
 exact⟨rfl,trivial⟩
end
section
open Go
variable {P:Program} {h:aa}
def aE4 (ok:aA P tb) (hl:l.length<2^30) (hk: ∀x∈l,x.ai.ps.length<2^30/\x.st=qV) {t:aL}:al P 19 [.vs (aI τ l) t, .vs (aI τ' l) t'] h (.bool true) h:=by
 refine ok.bA tQ ?_
 simp+decide only[sv,tQ,aeY,aeX,aeW,gI]
 let J:Nat->Env->aa->Prop:=fun i ρ H=>Old h H/\ρ 0= .vs (aI τ l) t/\ρ 1= .vs (aI τ' l) t'
 refine eQ 5 0 l.length (by omega) (bM _) J ?_ ?_ ⟨Old.refl h,rfl,rfl⟩ rfl
 ·rintro i ρ H ⟨ho,r0,r1⟩ r5-hi av aK hw
  have gi:(aI τ l)[i]? =some (l[i].c τ):=Fm hi
  have gj:(aI τ' l)[i]? =some (l[i].c τ'):=Fm hi
  obtain⟨k1,k2⟩:=hk _ (bw hi)
  simp only[Th.c] at gi gj
  simp+decide only[sv,tQ,Ll,r0,r5,gI,av]
  refine bq 10 rfl rfl ?_
  simp+decide only[sv,tQ,Lk,r0,r1,r5,aK,av,gi,gj,xr]
  refine dX (ahY ok (o:=l[i]) (τ:=τ) (τ':=τ') k1 k2) (ba (ak _)) ?_
  simp+decide only[sv,tQ,Lk,aeV,r5,hw]
  exact⟨ho.clean,r0,r1⟩
 ·rintro ρ H ⟨ho,r0,r1⟩ r5 av
  simp+decide only[sv,tQ,Ll,aeU,r0,r5,gI,av]
  exact ho.get
variable {a:KA} {ah:List Th} {af:List Ob} {B n' rb rt p:Nat} {l:List UInt8}
def aUc (ok:aA P tb) {m:List UInt8} {t:aL} {x:Nat} (hx:x<256): ∃h',al P 4 [.vs (BS l) t, .int .u8 x, .vs (BS m) t'] h (.bool true) h'/\True:=by
 refine ok.dr c4 ?_
 simp+decide only[sv,c4,aES,LY]
 refine ao (Ij ok) ?_
 by_cases h60:60<l.length
 ·have tu:(60:Int)<(l.length:Int):=by omega
  simp+decide only[sv,c4,LY,TB,af1,aY,tu]
  exact⟨rfl,trivial⟩
 have tu: ¬(60:Int)<(l.length:Int):=by omega
 by_cases h20:20<m.length
 ·have afH:(20:Int)<(m.length:Int):=by omega
  simp+decide only[sv,c4,LY,TB,af1,aY,tu,afH]
  exact⟨rfl,trivial⟩
 have afH: ¬(20:Int)<(m.length:Int):=by omega
 simp+decide only[sv,c4,LY,TB,af0,aY,tu,afH]
 obtain⟨h1,c1,K1,o1⟩:=CW ok (h:=h) (l:=l) (t:=t) (by omega)
 refine ao c1 ?_
 obtain⟨a,rb,rt,h2,ah,af,n',B,c2,b,hB,_⟩:=Im ok yX.no K1 (by omega) (N:=20) (by omega)
 simp+decide only[sv]
 refine ao c2 ?_
 obtain⟨tt,g⟩:=b.r.top
 have c0:=aq g
 have l4:=b.r.tv.len
 have l1:=b.l1
 have hr:(x:Int).tmod ah.length=((x%ah.length:Nat):Int):=(Int.ofNat_tmod _ _).symm
 have wQ:IntKind.wrap .i64 (x:Int)=x:=bj (by omega) (by omega)
 have pd: ¬(ah.length:Int)=0:=by omega
 have hn:x%ah.length<ah.length:=Nat.mod_lt _ (by omega)
 simp+decide only[sv,c4,af0,aER,aEQ,aEP,xr,c0,hr,wQ,pd]
 generalize x%ah.length=n at*
 have ne:=Ka b.r.root
 have len:=b.len
 have gQ: ∀x∈ah,x.ai.ps.length<2^20:=fun x hx=>by have:=(b.r.tv.ai x hx).2;omega
 have hB:bQ 1 (BS (xD af ah))=true:=by cases xD af ah<;>rfl
 obtain⟨lb,N,M,K,nk,hN,hM⟩:=id b.k
 refine ao (EW ok K.k (t:=(n:Int))) ?_
 cases EC:jB ah (n:Int) with
 |true=>
  simp+decide only[sv,c4,aAQ]
  exact⟨rfl,trivial⟩
 |false=>
  simp+decide only[sv]
  have K:=K.old ((Old.refl h2).clean (n:=7))
  refine jk 5 7 rfl (by omega) rfl ?_
  simp+decide only[sv,c4,aAP]
  refine dh (Nn ok K.k ne (by omega) b.r.tv) (ba (ak _)) ?_
  simp+decide only[sv,hB,xt,iB]
  refine⟨trivial,?_⟩
  refine dh (NY ok K.k (by omega) gQ) (ba (ak _)) ?_
  simp+decide only[sv,c4,aen]
  obtain⟨h4,c4,K4,o4⟩:=CW ok (h:=h2.clean 7) (l:=m) (t:=t') (by omega)
  refine ao c4 ?_
  have o2:Old h2 (h2.clean 7):=(Old.refl h2).clean
  have k4:=(b.k.old o2).add o4 (Z':=fun z=>z=(h2.clean 7).next) (fun z q=>⟨by omega,by have:=K4.lt;omega⟩)
  generalize(h2.clean 7).next=q at*
  clear c4 nk hN hM K
  obtain⟨lb,N,M,K,nk,hN,hM⟩:=id k4
  simp+decide only[sv,c4,aen]
  refine ao (C0 ok K.k ne (by omega)) ?_
  simp+decide only[sv]
  obtain⟨cl,h5,n5,c5,P5,K5⟩:=V6 ok K4 (af:=af) (t:= .au) (fun o ho=>(K.k.ks.val o ho).ok.id) (by omega)
  refine ao c5 ?_
  have k5:=k4.to K5.f.1 fun x hx nz=>K5.f.2 x hx fun e=>nz (.inr e)
  obtain⟨h6,c6,k6,f6,q6⟩:=k5.do ok (by omega) (t:=(n:Int)) (c:=cl) (tl:=aC) P5 (by omega)
  simp+decide only[sv]
  refine ao c6 ?_
  simp+decide only[sv,c4,Ld,Cr.v,Rp.c,xr]
  generalize hY:aa.set _ _ _=Y
  have yo:Old h6 Y:=by rw[<-hY];exact((Old.refl h6).at (ak _)).set (ak _)
  have y0:cellsOf Y h6.next=some ((bU n ah af cl).r.c .au):=by rw[<-hY];exact aq (by simp[aa.set];rfl)
  have er:=aKp (c:=cl) (af:=af) hn b.r.kv EC
  have yn:h6.next<Y.next:=by rw[<-hY];simp[aa.at,aa.set]
  clear hY
  generalize bU n ah af cl=R at*
  simp only[Rp.c] at y0
  cases pj:R.is with
  |false=>
   simp+decide only[sv,c4,Ld,aem,Bool.not_false]
   exact⟨rfl,trivial⟩
  |true=>
   by_cases he:R.r.err=0
   ·simp+decide only[sv,c4,Ld,aem,Bool.not_true,y0,he]
    exact⟨rfl,trivial⟩
   obtain⟨e1,e2,e3,e4,e5⟩:=er pj he
   have k7:=k6.old yo
   rw[e1,e2] at k7
   clear c5 c6 k4 k5 k6 nk hN hM K
   obtain⟨lb,N,M,K,nk,hN,hM⟩:=k7
   simp+decide only[sv,c4,Ld,ael,Bool.not_true,y0,he]
   refine ao (Nn ok K.k ne (by omega) b.r.tv) ?_
   have es: ∀s:ByteArray,bH false .eql (.str s) (.str s)=some (.bool true):=fun s=>by simp[bH]
   simp+decide only[sv,hB,xt,iB,es]
   refine ao (NY ok K.k (by omega) gQ) ?_
   simp+decide only[sv]
   refine ao (aE4 ok (by omega) (fun x hx=>⟨by have:=gQ x hx;omega,(b.r.kv x hx).st⟩)) ?_
   have hz:((0:Nat):Int)=0:=rfl
   simp only[e3,e4,e5] at y0
   simp+decide only[sv,c4,ael,y0,aY,fI,hz]
   exact⟨rfl,trivial⟩
end
section
open Go
variable {P:Program} {h H:aa}
def Bs.old {a:KA} {p:Nat} (b:Bs H a rb rt p l ah af n' B) (o:Old H H'):Bs H' a rb rt p l ah af n' B:=⟨b.k.old o,b.r.old o,b.pk.old o,b.pr,b.l1,b.len,b.use,b.LB⟩
def aks {t:Nat} {c:Cl} (ht) (k: ∀y∈ah,KV y) (hb:jB ah t=false):(c.op=4->(bU t ah af c).r.err=(lJ ah[t].ai af c).1)/\(c.op=5->(bU t ah af c).r.err=(iN ah[t].ai af c).1):=by
 have hk:mV ah t=true:=by unfold mV;simp[ht]
 have hz:ah[t].does=0:=by
  unfold jB at hb
  rw[hk,zR,Bool.not_eq_false',decide_eq_true_iff] at hb
  simpa [ht] using hb
 have hx:=(k _ (bw ht)).same hz
 unfold bU
 rw[aj (by rw[hk];decide),aj (by rw[hb];decide)]
 simp only[i9,bn ht]
 unfold hP told dE
 have fin: ∀e:Nat,(if(true:Bool)=false then fY else if e≠0 then(⟨t,e,0,[]⟩:Rp) else⟨t,0,0,[]⟩).err=e:=fun e=>by
  rw[aj (by decide)];split
  ·rfl
  ·rename_i h;simp only;omega
 refine⟨fun hc=>?_,fun hc=>?_⟩
 ·rw[aj (show¬((c.op=2\/c.op=3)/\names c.ai=false) from fun e=>by omega),hx]
  unfold iO
  rw[aj (show¬c.op=1 by omega),aj (show¬c.op=2 by omega),aj (show¬c.op=3 by omega),ax hc]
  simp only[Bool.true_eq_false,fj]
  split
  ·rfl
  ·rename_i h;simp only;omega
 ·rw[aj (show¬((c.op=2\/c.op=3)/\names c.ai=false) from fun e=>by omega),hx]
  unfold iO
  rw[aj (show¬c.op=1 by omega),aj (show¬c.op=2 by omega),aj (show¬c.op=3 by omega),aj (show¬c.op=4 by omega),ax hc]
  simp only[Bool.true_eq_false,fj]
  split
  ·rfl
  ·rename_i h;simp only;omega
variable {a:KA} {ah:List Th} {af:List Ob} {B n' rb rt p:Nat} {l:List UInt8} {Z:Nat->Prop}
def Ks.look (ok:aA P tb) (K:Ks H a ah af B Z) (hB:B<100) (kv: ∀y∈ah,KV y) {t:Nat} (ht:t<ah.length) {c:Cl} (k:ik c) (hc:c.op=4\/c.op=5/\c.data=[]):
 ∃h',al P 16 [.ptr a.kb 0, .int .i64 (t:Nat), .agg (c.c tl)] H (bU t ah af c).v h'/\Ks h' a ah af (B+1) Z/\(∀z,Z z->h'.get z=H.get z)/\H.next<=h'.next:=by
 obtain⟨lb,N,M,K,nk,hN,hM⟩:=K
 obtain⟨h',c1,E⟩:=K.do ok (t:=t) (c:=c) (tl:=tl) k (fun e=>by omega) (by omega) (by omega) (fun e=>by omega)
 have e:=aKo ht kv K.k.ks.aQ K.inv.root (c:=c) hc
 rw[e.1,e.2] at E
 exact⟨h',c1,E.ks nk hN hM⟩
def aUb (ok:aA P tb) {t:aL} {x y:Nat} (hx:x<256) (hy:y<256): ∃h',al P 6 [.vs (BS l) t, .int .u8 x, .int .u8 y] h (.bool true) h'/\True:=by
 refine ok.dr c6 ?_
 simp+decide only[sv,c6,aEK,Tz]
 refine ao (Ij ok) ?_
 by_cases h60:60<l.length
 ·have tu:(60:Int)<(l.length:Int):=by omega
  simp+decide only[sv,c6,Tz,afW,aEJ,aY,tu]
  exact⟨rfl,trivial⟩
 have tu: ¬(60:Int)<(l.length:Int):=by omega
 simp+decide only[sv,c6,Tz,afW,afV,aY,tu]
 obtain⟨h1,c1,K1,o1⟩:=CW ok (h:=h) (l:=l) (t:=t) (by omega)
 refine ao c1 ?_
 obtain⟨a,rb,rt,h2,ah,af,n',B,c2,b,hB,_⟩:=Im ok yX.no K1 (by omega) (N:=20) (by omega)
 simp+decide only[sv]
 refine ao c2 ?_
 obtain⟨tt,g⟩:=b.r.top
 have c0:=aq g
 have l4:=b.r.tv.len
 have l1:=b.l1
 have hr:(x:Int).tmod ah.length=((x%ah.length:Nat):Int):=(Int.ofNat_tmod _ _).symm
 have wQ:IntKind.wrap .i64 (x:Int)=x:=bj (by omega) (by omega)
 have pd: ¬(ah.length:Int)=0:=by omega
 have hn:x%ah.length<ah.length:=Nat.mod_lt _ (by omega)
 simp+decide only[sv,c6,afV,aEI,aEH,afU,xr,c0,hr,wQ,pd]
 generalize x%ah.length=n at*
 have ne:=Ka b.r.root
 have len:=b.len
 obtain⟨lb,N,M,K,nk,hN,hM⟩:=id b.k
 refine ao (C0 ok K.k ne (by omega)) ?_
 have lo: ¬(af.length:Int)=0:=by have:=List.length_pos_iff.2 ne;omega
 simp+decide only[sv,c6,afU,Sj,fD,lo]
 refine ao (EW ok K.k (t:=(n:Int))) ?_
 cases EC:jB ah (n:Int) with
 |true=>
  have lo':(0:Int)<(af.length:Int):=by omega
  simp+decide only[sv,c6,Sj,azk,fD,lo']
  exact⟨rfl,trivial⟩
 |false=>
  have hs:(y:Int).tmod af.length=((y%af.length:Nat):Int):=(Int.ofNat_tmod _ _).symm
  have AK:IntKind.wrap .i64 (y:Int)=y:=bj (by omega) (by omega)
  have hm:y%af.length<af.length:=Nat.mod_lt _ (by omega)
  have gm:=Bt hm
  have pg:((y%af.length:Nat):Int)<(af.length:Int):=by omega
  simp+decide only[sv,c6,Sj,azj,fD,hs,AK,lo]
  generalize y%af.length=i at*
  generalize ho:af[i]=o at*
  have uH:o∈af:=by rw[<-ho];exact bw hm
  simp+decide only[sv,gm,Ob.c,xr,fD,pg]
  generalize hY:aa.set _ _ _=Y
  have yo:Old h2 Y:=by rw[<-hY];exact((Old.refl h2).at (ak _)).set (ak _)
  have y0:cellsOf Y h2.next=some (o.c aC):=by rw[<-hY];exact aq (by simp[aa.set];rfl)
  have yn:Y.next=h2.next+1:=by rw[<-hY];simp[aa.at,aa.set]
  clear hY
  have aM:=(K.k.ks.val o uH).ok.id
  have kc: ∀op:Int,ik {iv with op:=op,id:=o.id}:=fun op=>⟨Bu,show iv.ai.ps.length<=16 by decide,aM,show iv.to<2^64 by decide,show iv.data.length<2^20 by decide,show iv.bf.length<2^16 by decide,fun _ h=>by cases h⟩
  have k3:=b.k.add yo (Z':=fun z=>z=h2.next) (fun z q=>by omega)
  simp only[Ob.c] at y0
  have y1:h2.next<Y.next:=by omega
  simp+decide only[sv,c6,adU,y0,y1,xr]
  obtain⟨h4,c4,k4,f4,q4⟩:=k3.look ok (by omega) b.r.kv hn (c:={iv with op:=4,id:=o.id}) (tl:=fun _=> .full) (kc 4) (.inl rfl)
  refine ao c4 ?_
  have w0:=yT (f4 _ (.inr rfl)) y0
  simp+decide only[sv,c6,adU,Cr.v,Rp.c,xr]
  generalize hX:aa.set _ _ _=X
  have xo:Old h4 X:=by rw[<-hX];exact((Old.refl h4).at (ak _)).set (ak _)
  have x1:cellsOf X h4.next=some ((bU n ah af {iv with op:=4,id:=o.id}).r.c .au):=by rw[<-hX];exact aq (by simp[aa.set];rfl)
  have xn:X.next=h4.next+1:=by rw[<-hX];simp[aa.at,aa.set]
  clear hX
  have x0:=xo.cells (by omega) w0
  have k5:=k4.add xo (Z':=fun z=>z=h4.next) (fun z q=>by omega)
  have x2:h2.next<X.next:=by omega
  simp+decide only[sv,c6,adT,x0,x2,xr]
  obtain⟨h6,c6,k6,f6,q6⟩:=k5.look ok (by omega) b.r.kv hn (c:={iv with op:=5,id:=o.id}) (tl:=fun _=> .full) (kc 5) (.inr ⟨rfl,rfl⟩)
  refine ao c6 ?_
  have w0:=yT (f6 _ (.inl (.inr rfl))) x0
  have w1:=yT (f6 _ (.inr rfl)) x1
  simp+decide only[sv,c6,adT,Cr.v,Rp.c,xr]
  generalize hV:aa.set _ _ _=V
  have vo:Old h6 V:=by rw[<-hV];exact((Old.refl h6).at (ak _)).set (ak _)
  have v2:cellsOf V h6.next=some ((bU n ah af {iv with op:=5,id:=o.id}).r.c .au):=by rw[<-hV];exact aq (by simp[aa.set];rfl)
  have vn:V.next=h6.next+1:=by rw[<-hV];simp[aa.at,aa.set]
  clear hV
  have v0:=vo.cells (by omega) w0
  have v1:=vo.cells (by omega) w1
  have k7:=k6.old vo
  have ea:=(aks hn b.r.kv EC (af:=af) (c:={iv with op:=4,id:=o.id})).1 rfl
  have eb:=(aks hn b.r.kv EC (af:=af) (c:={iv with op:=5,id:=o.id})).2 rfl
  generalize(bU n ah af {iv with op:=4,id:=o.id}).r=ra at*
  generalize(bU n ah af {iv with op:=5,id:=o.id}).r=rw' at*
  have le:h2.next<=V.next:=by omega
  have old: ∀z,(z=h.next\/z=rb\/z=rt)->z<h2.next->V.get z=h2.get z:=fun z q lt=>by
   rw[vo.get _ (by omega),f6 _ (.inl (.inl q)),xo.get _ (by omega),f4 _ (.inl q),yo.get _ lt]
  have BV:Bs V a rb rt h.next l ah af n' (B+1+1):=by
   refine⟨k7.less fun z q=> .inl (.inl q),b.r.to le fun z q=>old z (.inr q) (by rcases q with rfl|rfl;exact b.r.l1;exact b.r.l2),b.pk.to le (old _ (.inl rfl) b.pk.lt),b.pr,b.l1,b.len,b.use,b.LB⟩
  clear k3 k4 k5 k6 k7 c4 c6 f4 f6 x0 x1 w0 w1 y0 K nk hN hM old
  have KV:=BV.r
  obtain⟨tt,g⟩:=KV.top
  have u1:cellsOf (V.clean 36) rb=_:=(Old.refl V).clean.cells KV.l1 (aq g)
  have u2:cellsOf (V.clean 36) rt=_:=(Old.refl V).clean.cells KV.l2 (aq KV.aU)
  have v0:cellsOf (V.clean 36) h2.next=_:=(Old.refl V).clean.cells (by omega) v0
  have v1:cellsOf (V.clean 36) h4.next=_:=(Old.refl V).clean.cells (by omega) v1
  have v2:cellsOf (V.clean 36) h6.next=_:=(Old.refl V).clean.cells (by omega) v2
  have l1:=KV.l1
  have l2:=KV.l2
  have m0:h2.next<V.next:=by omega
  have m1:h4.next<V.next:=by omega
  have m2:h6.next<V.next:=by omega
  obtain⟨r1,r2,r3,r4⟩:=KV.row hn
  have hle:n*12+2<=(aI aH ah).flatten.length:=by omega
  have cV:(n:Int)<(ah.length:Int):=by omega
  obtain⟨s1,s2,s3⟩:=KV.ai hn
  simp only[Ob.c,Rp.c] at v0 v1 v2
  refine bq 36 rfl rfl ?_
  have fo:=lE b.r.ks.aQ uH
  have sa:ra.err=0->eI ah[n].ai o.ai=true/\o.kind=2:=fun e=>by
   obtain⟨o',e1,e2,e3⟩:=aHt (l:=ah[n].ai) (c:={iv with op:=4,id:=o.id}) b.r.root (by rw[e] at ea;omega)
   rw[fo] at e1;cases e1;exact⟨e3,e2⟩
  have sb:rw'.err=0->cM ah[n].ai o.ai=true:=fun e=>by
   obtain⟨o',e1,e2,e3⟩:=aFD (l:=ah[n].ai) (c:={iv with op:=5,id:=o.id}) b.r.root (by rw[e] at eb;omega)
   rw[fo] at e1;cases e1;exact e3
  obtain⟨t1,t2,t3⟩:=b.r.ks.ai uH
  have vo:Old V (V.clean 36):=(Old.refl V).clean
  have z0:=v0
  have z1:=v1
  have BV:=BV.old vo
  have Up:h2.next<(V.clean 36).next:=by have:=vo.next;omega
  have Uo:h4.next<(V.clean 36).next:=by have:=vo.next;omega
  by_cases ha:ra.err=0
  ·obtain⟨sa1,sa2⟩:=sa ha
   simp+decide only[sv,c6,Si,v0,v1,v2,u1,u2,l1,l2,m0,m1,m2,hle,cV,r3,xr,ha]
   refine dX (VM ok (a:=ah[n].ai) (b:=o.ai) (t:= .au) (t':=aC 0) s1 t1 (by omega) (by omega)) (ba (ak _)) ?_
   rw[sa1]
   by_cases hb:rw'.err=0
   ·simp+decide only[sv,v0,v1,v2,u1,u2,l1,l2,m0,m1,m2,hle,cV,r3,xr,hb]
    refine dX (VC ok (a:=ah[n].ai) (b:=o.ai) (t:= .au) (t':=aC 0) s1 t1 (by omega) (by omega)) (ba (ak _)) ?_
    rw[sb hb]
    simp+decide only[sv,c6,KP,z0,z1,Up,Uo,ha,sa2,xr]
    refine ao (yY ok BV) ?_
    simp+decide only[sv]
    exact⟨rfl,trivial⟩
   ·simp+decide only[sv,c6,KP,v0,v1,v2,u1,u2,l1,l2,m0,m1,m2,hle,cV,r3,xr,hb,z0,z1,Up,Uo,ha,sa2]
    refine ao (yY ok BV) ?_
    simp+decide only[sv]
    exact⟨rfl,trivial⟩
  ·by_cases hb:rw'.err=0
   ·simp+decide only[sv,c6,Si,v0,v1,v2,u1,u2,l1,l2,m0,m1,m2,hle,cV,r3,xr,ha,hb]
    refine dX (VC ok (a:=ah[n].ai) (b:=o.ai) (t:= .au) (t':=aC 0) s1 t1 (by omega) (by omega)) (ba (ak _)) ?_
    rw[sb hb]
    simp+decide only[sv,c6,KP,z0,z1,Up,Uo,ha,xr]
    refine ao (yY ok BV) ?_
    simp+decide only[sv]
    exact⟨rfl,trivial⟩
   ·simp+decide only[sv,c6,Si,KP,v0,v1,v2,u1,u2,l1,l2,m0,m1,m2,hle,cV,r3,xr,ha,hb,z0,z1,Up,Uo]
    refine ao (yY ok BV) ?_
    simp+decide only[sv]
    exact⟨rfl,trivial⟩
end
section
open Go
variable {P:Program} {h H:aa} {a d:KA} {ah:List Th} {af:List Ob} {B n' rb rt p:Nat} {l:List UInt8} {Z:Nat->Prop}
def Bs.copy (ok:aA P tb) (b:Bs H a rb rt p l ah af n' B): ∃d h',al P 29 [.ptr a.kb 0] H (.ptr d.kb 0) h'/\Ks h' d ah af 10 (fun z=>z<H.next)/\Old H h':=by
 obtain⟨lb,N,M,K,nk,hN,hM⟩:=b.k
 have ne:=Ka b.r.root
 have len:=b.len
 have l1:=b.l1
 obtain⟨d,aW,M',h',c,K',MV,o,kn,kt⟩:=aGz ok K.k ne (by omega) b.r.tv (by rintro rfl;simp at l1)
 have on:=o.next
 refine⟨d,h',c,⟨aW,af.length,M',⟨K',K.inv⟩,fun z hz=>⟨⟨?_,?_,?_⟩,by omega⟩,by omega,by omega⟩,o⟩
 ·have:=kn.1;rintro(rfl|rfl)<;>omega
 ·intro f;have:=kn.2.1 _ f;omega
 ·intro f;have:=kn.2.2 _ f;omega
def Ks.do3 (ok:aA P tb) (K:Ks H a ah af B Z) (hB:B<100) {t:Int} {c:Cl} (k:ik c) (h3:c.op≠3) (h6:c.op≠6):
 ∃h',al P 16 [.ptr a.kb 0, .int .i64 t, .agg (c.c tl)] H (bU t ah af c).v h'/\Ks h' a (bU t ah af c).ah (bU t ah af c).af (B+1) Z/\(∀z,Z z->h'.get z=H.get z)/\H.next<=h'.next:=by
 obtain⟨lb,N,M,K,nk,hN,hM⟩:=K
 obtain⟨h',c1,E⟩:=K.do ok (t:=t) (c:=c) (tl:=tl) k (fun e=>absurd e h3) (by omega) (by omega) (fun e=>absurd e h6)
 exact⟨h',c1,E.ks nk hN hM⟩
def aUa (ok:aA P tb) {m:List UInt8} {t:aL}: ∃h',al P 8 [.vs (BS l) t, .vs (BS m) t'] h (.bool true) h'/\True:=by
 refine ok.dr c8 ?_
 simp+decide only[sv,c8,aEG,LX]
 refine ao (Ij ok) ?_
 by_cases h60:60<l.length
 ·have tu:(60:Int)<(l.length:Int):=by omega
  simp+decide only[sv,c8,LX,Ty,afT,aY,tu]
  exact⟨rfl,trivial⟩
 have tu: ¬(60:Int)<(l.length:Int):=by omega
 by_cases h40:40<m.length
 ·have afG:(40:Int)<(m.length:Int):=by omega
  simp+decide only[sv,c8,LX,Ty,afT,aY,tu,afG]
  exact⟨rfl,trivial⟩
 have afG: ¬(40:Int)<(m.length:Int):=by omega
 simp+decide only[sv,c8,LX,Ty,afS,aY,tu,afG]
 obtain⟨h1,c1,K1,o1⟩:=CW ok (h:=h) (l:=l) (t:=t) (by omega)
 refine ao c1 ?_
 obtain⟨a,rb,rt,h2,ah,af,n',B,c2,b,hB,_⟩:=Im ok yX.no K1 (by omega) (N:=20) (by omega)
 simp+decide only[sv]
 refine ao c2 ?_
 simp+decide only[sv,c8,afS,aEF,aEE,xr]
 obtain⟨d,h3,c3,k3,o3⟩:=b.copy ok
 refine ao c3 ?_
 simp+decide only[sv,c8,afR]
 obtain⟨h4,c4,K4,o4⟩:=CW ok (h:=h3) (l:=m) (t:=t') (by omega)
 refine ao c4 ?_
 have k4:=k3.add o4 (Z':=fun z=>z=h3.next) (fun z q=>⟨by omega,by have:=K4.lt;omega⟩)
 have on3:=o3.next
 obtain⟨q,hq⟩: ∃q,q=h3.next:=⟨_,rfl⟩
 rw[<-hq] at K4 k4 ⊢
 have nq:h2.next<=q:=by omega
 have O4:=o3.trans o4
 have AW:af.length<=7:=by have:=b.LB;omega
 have l1:=b.l1
 have l4:=b.r.tv.len
 obtain⟨tt,g⟩:=b.r.top
 have lr:=b.r.l1
 clear hq c4 o3 o4 k3 c3 c2 c1
 let I:Nat->Env->aa->Prop:=fun k ρ H=> ∃i wA fK n2,10=i+k/\Ks H d wA fK (10+2*i) (fun z=>z<h2.next\/z=q)/\PK H q m n2/\Old h2 H/\fK.length<=af.length+4/\(n2<m.length->12*(fK.length-af.length)<=n2)/\ρ 5= .ptr a.kb 0/\ρ 6= .ptr rb 0/\ρ 8= .ptr d.kb 0/\ρ 9= .ptr q 0/\ρ 10= .int .i64 i
 simp+decide only[sv,c8,afR,axH]
 refine dv I ?_ 10 ⟨0,ah,af,0,rfl,k4,K4,O4,by omega,fun _=>by omega,rfl,rfl,rfl,rfl,rfl⟩
 clear k4 K4 O4
 rintro k ρ H ⟨i,wA,fK,n2,hik,K,pk,O,le,use,r5,r6,r8,r9,bK⟩
 by_cases hx:i<10/\n2<m.length
 ·obtain⟨hi,qj⟩:=hx
  have av:(i:Int)<10:=by omega
  have hw:=dj (show i<2^61 by omega)
  simp+decide only[sv,c8,G1,r9,bK,av]
  refine ao (VW ok pk) ?_
  rw[mc (show¬m.length<=n2 by omega)]
  simp+decide only[sv,c8,G1]
  have us:=use qj
  have oC:Old H (H.clean 15):=(Old.refl H).clean
  have c0:cellsOf (H.clean 15) rb=_:=(O.trans oC).cells lr (aq g)
  have AE:=pk.lt
  have on:=O.next
  obtain⟨r1,h5,n5,c5,hr5,K5⟩:=lD ok (pk.old oC) (m:=ah.length) (by omega) (by omega)
  have c1:cellsOf h5 rb=_:=yT (K5.f.2 rb (by have:=oC.next;omega) (by omega)) c0
  obtain⟨cl,h6,n6,c6,P6,K6⟩:=V6 ok K5.pk (af:=af) (t:=tt) (fun o ho=>(b.r.ks.val o ho).ok.id) (by omega)
  have k6:=(((K.old oC).to K5.f.1 fun x hx nz=>K5.f.2 x hx fun e=>nz (.inr e))).to K6.f.1 fun x hx nz=>K6.f.2 x hx fun e=>nz (.inr e)
  obtain⟨h7,c7,k7,f7,q7⟩:=k6.do ok (by omega) (t:=(r1:Int)) (c:=cl) (tl:=aC) P6 (by omega)
  have f5: ∀i,dY 15 H.next i h5:=fun i=>K5.f.free AE
  have on5:H.next+15<=h5.next:=K5.f.1
  have lrH:rb<H.next:=by omega
  refine Ol (fun b=>b=q) 13 15 rfl (by omega) rfl ?_
  simp+decide only[sv,c8,axG,sw,r6,r8,r9,c0,lrH,xr,zS,kD,List.drop_succ_cons,sR]
  refine⟨_,h5,c5,f5 _,K5.f.keeps,?_⟩
  simp+decide only[sv,sw,c1,lrH,xr,r6,r9]
  refine⟨by omega,?_⟩
  refine dX c6 (K6.f.RY on5 AE (f5 _)) ?_
  simp+decide only[sv,xr]
  refine dX c7 (fun j a b=>by omega) ?_
  have p7:PK h7 q m n6:=K6.pk.to q7 (f7 q (.inr rfl))
  obtain⟨r2,h8,n8,c8,hr8,K8⟩:=lD ok p7 (m:=4) (by decide) (by decide)
  have k8:=k7.to K8.f.1 fun x hx nz=>K8.f.2 x hx fun e=>nz (.inr e)
  obtain⟨h9,c9,k9,f9,q9⟩:=k8.go ok (by omega) (t:=(r2:Int))
  simp+decide only[sv,c8,axF,r8,r9]
  refine ao c8 ?_
  simp+decide only[sv,r8]
  refine ao c9 ?_
  simp+decide only[sv,c8,axE,bK,hw]
  obtain⟨_,_,_,K0,_⟩:=id K
  obtain⟨_,_,_,K7,_⟩:=id k7
  have gl:=akr (t:=(r1:Int)) (ah:=wA) (c:=cl) K0.k.ks K0.inv.root
  have gm:=ak9 (t:=(r2:Int)) (ah:=(bU r1 wA fK cl).ah) K7.k.ks K7.inv.root
  have e1:=K5.lo
  have e2:=K6.lo
  have e3:=K8.lo
  refine⟨k-1,by omega,i+1,_,_,n8,by omega,by rw[show 10+2*(i+1)=10+2*i+1+1 by omega];exact k9,K8.pk.to q9 (f9 q (.inr rfl)),⟨?_,fun z hz=>?_⟩,?_,?_,r5,r6,r8,r9,rfl⟩
  ·have:=K8.f.1;have:=K6.f.1;omega
  ·have:=K8.f.1;have:=K6.f.1
   rw[f9 z (.inl hz),K8.f.2 z (by omega) (by omega),f7 z (.inl hz),K6.f.2 z (by omega) (by omega),K5.f.2 z (by have:=oC.next;omega) (by omega),oC.get z (by omega),O.get z hz]
  ·split at gl<;>split at e2<;>omega
  ·intro hh;split at gl<;>split at e2<;>omega
 ·have tail: ¬i<10\/i<10/\m.length<=n2:=by omega
  obtain⟨h5,c5,k5,f5,q5⟩:=K.do3 ok (by omega) (t:=0) (c:={iv with op:=1}) (tl:=fun _=> .full) ⟨Bu,by decide,by decide,by decide,by decide,by decide,fun _ h=>by cases h⟩ (by decide) (by decide)
  have b5:=b.old ⟨fm O.next q5,fun z hz=>(f5 z (.inl hz)).trans (O.get z hz)⟩
  obtain⟨d2,h6,c6,k6,o6⟩:=b5.copy ok
  have b6:Bs h6 d2 rb rt h.next l ah af n' 10:=⟨k6.less fun z hz=>by rcases hz with rfl|rfl|rfl;exact b5.pk.lt;exact b5.r.l1;exact b5.r.l2,b5.r.old o6,b5.pk.old o6,b.pr,b.l1,b.len,b.use,b.LB⟩
  rcases tail with hi|⟨hi,qj⟩
  ·have av: ¬(i:Int)<10:=by omega
   simp+decide only[sv,c8,G1,adq,r8,bK,av]
   refine ao c5 ?_
   simp+decide only[sv,c8,adp,r5,r6]
   refine ao (yY ok b5) ?_
   simp+decide only[sv,r5,r6]
   refine ao c6 ?_
   simp+decide only[sv,r6]
   refine ao (yY ok b6) ?_
   simp+decide only[sv]
   exact⟨rfl,trivial⟩
  ·have av:(i:Int)<10:=by omega
   simp+decide only[sv,c8,G1,r9,bK,av]
   refine ao (VW ok pk) ?_
   rw[mF qj]
   simp+decide only[sv,c8,G1,adq,r8]
   refine ao c5 ?_
   simp+decide only[sv,c8,adp,r5,r6]
   refine ao (yY ok b5) ?_
   simp+decide only[sv,r5,r6]
   refine ao c6 ?_
   simp+decide only[sv,r6]
   refine ao (yY ok b6) ?_
   simp+decide only[sv]
   exact⟨rfl,trivial⟩
end
section
open Go
theorem ajr: ∀{l:List Ob},(∀x∈l,f x=0)->eZ f l=0
 |[],_=>rfl
 |x::l,h=>by rw[po,h x (by simp),ajr (fun y hy=>h y (by simp[hy]))];rfl
def WN (hs:af.Pairwise (·.id< ·.id)) (h:x∈bC af o):x=o\/(x∈af/\x.id≠o.id):=by
 by_cases e:x.id=o.id
 ·left
  have h1:=lE (IE hs) h
  rw[tS hs,ax e] at h1
  exact(Option.some.inj h1).symm
 ·rcases Bn h with h|h
  ·exact .inl h
  ·exact .inr ⟨h,e⟩
def Wx:cR 1=0:=by decide
def KC.new (k:KC af) (hs:af.Pairwise (·.id< ·.id)) (T:Tree af) (hm:box∈af) (hk:box.kind=1) (e:b'.id=box.id) (ek:b'.kind=1) (eu:b'.used=box.used+cost o) (eq:b'.aP=box.aP) (hq:box.used+cost o<=box.aP) (hn: ∀x∈af,x.id≠o.id) (hp:cR o.id=box.id) (ho:o.kind=1->o.used=0/\0<=o.aP) (h0:o.id≠0):KC (bC (bC af b') o):=by
 have ec:cost b'=cost box:=by unfold cost;rw[ax ek,ax hk,eq]
 have Es:(bC af b').Pairwise (·.id< ·.id):=IE hs
 have uR: ∀x∈bC af b',x.id≠o.id:=by
  intro x hx
  rcases Bn hx with rfl|hx
  ·rw[e];exact hn box hm
  ·exact hn x hx
 have Cp: ∀b,eZ (dR b) (bC (bC af b') o)=dR b o+eZ (dR b) af:=by
  intro b
  rw[akd uR,N9 hs hm e.symm]
  have:dR b b'=dR b box:=by unfold dR;rw[e,ec]
  rw[this];omega
 refine⟨fun b hb mX=>?_⟩
 rw[Cp]
 rcases WN Es hb with rfl|⟨hb,aT⟩
 ·obtain⟨z1,z2⟩:=ho mX
  have y1:dR b.id b=0:=by
   unfold dR
   rw[aj (by rw[hp];exact hn box hm)]
  have y2:eZ (dR b.id) af=0:=ajr (fun x hx=>by
   unfold dR
   refine aj (fun e2=>?_)
   by_cases pM:x.id=1
   ·rw[pM,Wx] at e2;exact h0 e2.symm
   ·obtain⟨w,hw,gP,_⟩:=T x hx pM
    exact hn w hw (by rw[gP,e2]))
  rw[y1,y2,z1]
  exact⟨rfl,z2⟩
 ·rcases WN hs hb with rfl|⟨hb,afp⟩
  ·obtain⟨z1,z2⟩:=k.used box hm hk
   rw[eu,eq,e]
   refine⟨?_,hq⟩
   unfold dR
   rw[ax hp,z1]
   unfold dR
   omega
  ·obtain⟨z1,z2⟩:=k.used b hb mX
   refine⟨?_,z2⟩
   have:dR b.id o=0:=by
    unfold dR
    exact aj (by rw[hp,<-e];exact fun h=>afp h.symm)
   rw[this,z1];omega
def aIT {c:Cl} (k:KC af) (ks:KS af) (T:Tree af) (hr: ∃r,a9 af 1=some r):KC (l8 l af c).2.2:=by
 unfold l8
 split
 ·exact k
 split
 ·exact k
 rename_i hck ph
 obtain⟨f1,f2,f3⟩:=Bf hr (Classical.not_not.1 ph)
 have hm:=(ix f1).1
 generalize(bh af l c.id 1 (dW l)).1=b at*
 unfold xw
 split
 ·exact k
 split
 ·exact k
 split
 ·exact k
 split
 ·exact k
 split
 ·exact k
 rename_i hmk hf iJ il ha
 have aEe:=Classical.not_not.1 il
 have CO:=Classical.not_not.1 ha
 obtain⟨j,j1,j2,j3,j4,j5,j6,j7,j8,j9⟩:=Jf aEe
 have ka:=Ws ks T hm aEe
 generalize aM:(iW b.id b.next).1=id at*
 subst j5
 have Hs:(dZ c (b.id*64+j)).id=b.id*64+j:=rfl
 have aTy:0<=cost (dZ c (b.id*64+j))/\ ¬b.aP-b.used<cost (dZ c (b.id*64+j))/\(mu b (cost (dZ c (b.id*64+j)))).1={b with used:=b.used+cost (dZ c (b.id*64+j))}:=by
  generalize cost (dZ c (b.id*64+j))=w at*
  unfold mu at CO ⊢
  by_cases h1:w<0
  ·rw[ax h1] at CO;cases CO
  ·rw[aj h1] at CO ⊢
   by_cases h2:b.aP-b.used<w
   ·rw[ax h2] at CO;cases CO
   ·rw[aj h2];exact⟨by omega,h2,rfl⟩
 obtain⟨a1,a2,a3⟩:=aTy
 rw[a3]
 refine k.new ks.aQ T hm f2 rfl f2 rfl rfl (by omega) (fun x hx qX=>?_) j7 (fun mY=>?_) (by rw[Hs];omega)
 ·have:=lE ks.aQ hx
  rw[qX,Hs,ka] at this
  cases this
 ·have aEl:c.kind=1:=mY
  refine⟨rfl,?_⟩
  have hq:(dZ c (b.id*64+j)).aP=if c.kind=1 then c.n else 0:=rfl
  rw[hq,ax aEl]
  have wY:=Classical.not_not.1 hf
  unfold ny at wY
  by_cases h:c.kind=1/\ ¬(0<=c.n/\c.n<=400)
  ·rw[ax h] at wY;cases wY
  ·have:0<=c.n/\c.n<=400:=Classical.not_not.1 (fun hh=>h ⟨aEl,hh⟩)
   exact this.1
def aju {id:Nat} (h:y∈bu id):y<=id:=by
 cases hn:eT id with
 |none=>rw[Fb hn] at h;cases h
 |some l=>
  have h1:1<=id:=by
   have:=(Bv hn).1
   rcases Gy id with e|e
   ·rw[e,Nat.zero_div] at this;cases this
   ·exact e
  rw[y8 hn] at h
  rcases List.mem_cons.1 h with rfl|h
  ·exact h1
  ·unfold dn at h
   obtain⟨j,_,rfl⟩:=List.mem_map.1 h
   exact Nat.div_le_self _ _
def Oc {id:Nat} (h:cP id=true):1<=id:=by
 have:=NS id
 rw[h] at this
 have h2:0<(bu id).length:=by simpa using this.symm
 cases hp:bu id with
 |nil=>rw[hp] at h2;simp at h2
 |cons y ys=>
  cases hn:eT id with
  |none=>rw[Fb hn] at hp;cases hp
  |some l=>exact aju (by rw[y8 hn];simp)
def aLo {id:Nat} (h:cP id=true):cR id<id:=by
 have:=Oc h
 unfold cR
 split
 ·omega
 ·omega
def aLi {c:Nat} (h:cP c=true):iA (cR c) c=false:=by
 unfold iA
 rw[Bool.eq_false_iff]
 intro e
 have:=aju (List.contains_iff_mem.1 e)
 have:=aLo h
 omega
theorem NR {c:Nat}: ∀{l:List Ob} {o:Ob},l.Pairwise (·.id< ·.id)->o∈l->o.id=c->eZ (fun x=>if x.id=c then 0 else g x) l=eZ g l-g o
 |x::l,o,hs,h,e=>by
  have gu:=List.pairwise_cons.1 hs
  rw[po,po]
  rcases List.mem_cons.1 h with e1|h
  ·subst e1
   rw[ax e,VX (g:=g) (fun y hy=>aj (by have:=gu.1 y hy;omega))];omega
  ·have:=gu.1 o h
   rw[aj (by omega),NR gu.2 h e];omega
theorem Oz: ∀{l:List Ob},(∀x∈l,0<=f x)->0<=eZ f l
 |[],_=>Int.le_refl _
 |x::l,h=>by
  have h1:=h x (by simp)
  have h2:=Oz (fun y hy=>h y (eH x hy))
  rw[po];omega
def ze (v:jj o):cP o.id=true:=by
 have:=v.may
 unfold eS at this
 rw[fV,fV] at this
 exact this.1.1
def WX (v:jj o):0<=cost o:=by
 unfold cost
 split
 ·rename_i hk
  have:=v.may
  unfold eS ko at this
  rw[ax hk] at this
  simp only[fV,decide_eq_true_iff] at this
  omega
 split
 ·omega
 split
 ·omega
 split<;>omega
def aJY {b:Ob}:(kY b w).id=b.id/\(kY b w).kind=b.kind/\(kY b w).aP=b.aP/\cost (kY b w)=cost b:=by
 unfold kY
 split
 ·exact⟨rfl,rfl,rfl,rfl⟩
 ·exact⟨rfl,rfl,rfl,rfl⟩
def aIU {c:Cl} (k:KC af) (ks:KS af) (T:Tree af) (hr: ∃r,a9 af 1=some r):KC (kA l af c).2:=by
 unfold kA
 split
 ·exact k
 split
 ·exact k
 split
 ·exact k
 rename_i h1 hc hb
 have ho:=Nx hr (Classical.not_not.1 hc)
 generalize(di af l c.id).1=o at*
 obtain⟨om,tA⟩:=ix ho
 have aTe:cP c.id=true:=by rw[<-tA];exact ze (ks.val o om)
 obtain⟨b,bm,b1,b2,_⟩:=T o om (by rw[tA];exact h1)
 rw[tA] at b1
 have hfb:a9 af (cR c.id)=some b:=by rw[<-b1];exact lE ks.aQ bm
 rw[hfb,iQ]
 show KC (bC (kL c.id af) (kY b (cost o)))
 obtain⟨s1,s2,s3,s4⟩:=aJY (b:=b) (w:=cost o)
 have hsL:(kL c.id af).Pairwise (·.id< ·.id):=DB List.filter_sublist ks.aQ
 have aEW:iA b.id c.id=false:=by rw[b1];exact aLi aTe
 have bL:b∈kL c.id af:=List.mem_filter.2 ⟨bm,by rw[aEW];rfl⟩
 have Cp: ∀z,eZ (dR z) (bC (kL c.id af) (kY b (cost o)))=eZ (dR z) (kL c.id af):=by
  intro z
  rw[N9 hsL bL s1.symm]
  have:dR z (kY b (cost o))=dR z b:=by unfold dR;rw[s1,s4]
  rw[this];omega
 have aT5:1<=b.id:=Oc (ze (ks.val b bm))
 have aEr: ∀z,1<=z->iA z c.id=false->eZ (dR z) (kL c.id af)=eZ (fun x=>if x.id=c.id then 0 else dR z x) af:=by
  intro z hz hzo
  unfold kL
  rw[VH]
  refine VX (fun x hx=>?_)
  by_cases pM:x.id=1
  ·have y:dR z x=0:=by unfold dR;exact aj (by rw[pM,Wx];omega)
   rw[y];split<;>split<;>rfl
  ·by_cases hp:cR x.id=z
   ·rw[aFy (ze (ks.val x hx)) pM,hp,hzo,Bool.false_or]
    by_cases e:x.id=c.id
    ·simp[e]
    ·simp[e]
   ·have y:dR z x=0:=by unfold dR;exact aj hp
    rw[y];split<;>split<;>rfl
 refine⟨fun bb pR hk=>?_⟩
 rw[Cp]
 rcases WN hsL pR with rfl|⟨pR,aT⟩
 ·obtain⟨z1,z2⟩:=k.used b bm b2
  rw[s1,s3,aEr b.id aT5 aEW,NR ks.aQ om tA,<-z1]
  have ek:dR b.id o=cost o:=by unfold dR;exact ax (by rw[tA,b1])
  have MH:0<=eZ (fun x=>if x.id=c.id then 0 else dR b.id x) af:=Oz (fun x hx=>by
   split
   ·exact Int.le_refl _
   ·unfold dR
    split
    ·exact WX (ks.val x hx)
    ·exact Int.le_refl _)
  rw[NR ks.aQ om tA,<-z1,ek] at MH
  have hcn:=WX (ks.val o om)
  rw[ek]
  unfold kY
  split
  ·simp only;omega
  ·omega
 ·obtain⟨hm,hw⟩:=List.mem_filter.1 pR
  have hw':iA bb.id c.id=false:=by simpa using hw
  obtain⟨z1,z2⟩:=k.used bb hm hk
  refine⟨?_,z2⟩
  rw[aEr bb.id (Oc (ze (ks.val bb hm))) hw',z1,NR ks.aQ om tA]
  have:dR bb.id o=0:=by unfold dR;exact aj (by rw[tA,<-b1,<-s1];exact fun e=>aT e.symm)
  rw[this];omega
def aKn {t:Nat} {c:Cl} (k:KC af) (ks:KS af) (T:Tree af) (hr: ∃r,a9 af 1=some r):KC (dE t x af c done).af:=by
 unfold dE
 by_cases h0:(c.op=2\/c.op=3)/\names c.ai=false
 ·rw[ax h0];exact k
 rw[aj h0]
 unfold iO
 by_cases h1:c.op=1
 ·rw[ax h1];exact k
 rw[aj h1]
 by_cases h2:c.op=2
 ·rw[ax h2];exact k
 rw[aj h2]
 by_cases h3:c.op=3
 ·rw[ax h3];exact aIT k ks T hr
 rw[aj h3]
 by_cases h4:c.op=4
 ·rw[ax h4];exact k
 rw[aj h4]
 by_cases h5:c.op=5
 ·rw[ax h5];exact aIL k ks.aQ hr
 rw[aj h5]
 by_cases h6:c.op=6
 ·rw[ax h6];exact aIU k ks T hr
 rw[aj h6]
 by_cases h7:c.op=7
 ·rw[ax h7];exact k
 rw[aj h7]
 by_cases h8:c.op=8
 ·rw[ax h8];exact aKg k ks.aQ hr
 rw[aj h8]
 by_cases h9:c.op=9
 ·rw[ax h9];exact aKh k ks.aQ hr
 rw[aj h9]
 by_cases jv:c.op=10
 ·rw[ax jv];exact aKj k ks.aQ hr
 rw[aj jv]
 by_cases m4:c.op=11
 ·rw[ax m4];exact k
 rw[aj m4]
 by_cases dU:c.op=12
 ·rw[ax dU];exact k
 rw[aj dU]
 by_cases rh:c.op=13
 ·rw[ax rh];exact k
 rw[aj rh]
 exact k
def Wi {t:Nat} {c:Cl} (k:KC af) (ks:KS af) (T:Tree af) (hr: ∃r,a9 af 1=some r):KC (hP t ah x af c done).af:=aKn k ks T hr
def aMU {t:Int} {c:Cl} (k:KC af) (ks:KS af) (T:Tree af) (hr: ∃r,a9 af 1=some r):KC (bU t ah af c).af:=by
 unfold bU
 split
 ·exact k
 split
 ·exact k
 split
 ·exact Wi k ks T hr
 ·exact k
def aMR {t:Int} (k:KC af) (ks:KS af) (T:Tree af) (hr: ∃r,a9 af 1=some r):KC (gf t ah af).af:=by
 unfold gf
 split
 ·exact k
 split
 ·split
  ·exact Wi k ks T hr
  ·exact Wi k ks T hr
 ·exact k
theorem KC.start (hq:0<=q):KC [root q]:=by
 refine⟨fun b hb hk=>?_⟩
 rw[List.mem_singleton.1 hb]
 refine⟨?_,hq⟩
 have:dR (root q).id (root q)=0:=by unfold dR;exact aj (show¬cR 1=1 by decide)
 rw[po,this];rfl
end
section
open Go
variable {P:Program} {h H:aa} {l:List Ob} {t:aL} {id:Nat}
theorem aiA (ok:aA P tb) (hl:l.length<1000):al P 57 [.vs (bg l) t, .int .u64 id] h (.int .i64 (iU (fun o=>o.id==id) l)) h:=by
 refine ok.bA Ic ?_
 simp+decide only[sv,Ic,aAq,aAp]
 let J:Nat->Env->aa->Prop:=fun i ρ H=>H=h/\(∀j,j<i-> ∀hj:j<l.length,(l[j].id==id)=false)/\ρ 0= .vs (bg l) t/\ρ 1= .int .u64 id
 refine eQ 5 0 l.length (by omega) (bM _) J ?_ ?_ ⟨rfl,fun j hj=>by omega,rfl,rfl⟩ rfl
 ·rintro i ρ H ⟨rfl,hf,r0,r1⟩ r5-hi av aK hw
  have gi:(bg l)[i]? =some (l[i].c aC):=Bt hi
  simp only[Ob.c] at gi
  by_cases e:l[i].id=id
  ·have e1:(l[i].id:Int)=(id:Int):=by omega
   have e2:=C4 (q:=fun o:Ob=>o.id==id) hi hf (by simp[e])
   simp+decide only[sv,Ic,Sv,aec,aAo,r0,r1,r5,fD,av,aK,gi,e1,e2]
  ·have e1: ¬(l[i].id:Int)=(id:Int):=by omega
   simp+decide only[sv,Ic,Sv,aec,aAn,r0,r1,r5,fD,av,aK,gi,e1,hw]
   refine⟨rfl,fun j hj iu=>?_,r0,r1⟩
   by_cases q:j=i
   ·subst q;simpa using e
   ·exact hf j (by omega) iu
 ·rintro ρ H ⟨rfl,hf,r0,r1⟩ r5 av
  have e2:=Fq (q:=fun o:Ob=>o.id==id) (l:=l) (fun j hj iu=>hf j iu iu)
  simp+decide only[sv,Ic,Sv,aAm,r0,r5,fD,av,e2]
  try rfl
def aHP (ok:aA P tb) (hl:l.length<1000) (hk:k<l.length) (h1:l[k].kind=1):al P 103 [.vs (bg l) t, .int .u64 l[k].id] h (.bool true) h:=by
 refine ok.bA HE ?_
 simp+decide only[sv,HE,awn,awm]
 let J:Nat->Env->aa->Prop:=fun i ρ H=>H=h/\i<=k/\ρ 0= .vs (bg l) t/\ρ 1= .int .u64 l[k].id
 refine eQ 5 0 l.length (by omega) (bM _) J ?_ ?_ ⟨rfl,bM _,rfl,rfl⟩ rfl
 ·rintro i ρ H ⟨rfl,hik,r0,r1⟩ r5-hi av aK hw
  have gi:(bg l)[i]? =some (l[i].c aC):=Bt hi
  simp only[Ob.c] at gi
  by_cases e:l[i].id=l[k].id/\l[i].kind=1
  ·obtain⟨e,e2⟩:=e
   have e1:(l[i].id:Int)=(l[k].id:Int):=by omega
   simp+decide only[sv,HE,QF,QE,awl,r0,r1,r5,fD,av,aK,gi,e1,e2]
  ·have aT:i≠k:=by rintro rfl;exact e ⟨rfl,h1⟩
   by_cases e1:(l[i].id:Int)=(l[k].id:Int)
   ·have e2: ¬l[i].kind=1:=fun q=>e ⟨by omega,q⟩
    simp+decide only[sv,HE,QF,QE,acG,r0,r1,r5,fD,av,aK,gi,e1,e2,hw]
    exact⟨rfl,by omega,r0,r1⟩
   ·simp+decide only[sv,HE,QF,QE,acG,r0,r1,r5,fD,av,aK,gi,e1,hw]
    exact⟨rfl,by omega,r0,r1⟩
 ·rintro ρ H ⟨rfl,hf,r0,r1⟩ r5 av
  omega
def aFP (ok:aA P tb) (aM:id<2^64):al P 55 [.int .u64 id] h (.int .i64 (iT id)) h:=by
 refine ok.bA c55 ?_
 simp+decide only[sv,c55,aAv,aAu]
 refine ao (Bi ok aM) ?_
 have AW:=zd (id:=id)
 have hw:IntKind.wrap .i64 (((bu id).length:Int)-1)=((bu id).length:Int)-1:=bj (by omega) (by omega)
 simp+decide only[sv,aF.aD,hw]
 exact congrArg _ (by rw[Fc];omega)
def aFk (ok:aA P tb) (aM:id<2^64):al P 23 [.int .u64 id] h (.int .i64 (if iT id=0 then 0 else id%64:Nat)) h:=by
 refine ok.bA Na ?_
 simp+decide only[sv,Na,aC2,SF]
 refine ao (Bi ok aM) ?_
 have AW:=zd (id:=id)
 rw[Fc]
 by_cases h2:(bu id).length<2
 ·have cB:((bu id).length:Int)<2:=by omega
  rw[ax (by omega)]
  simp+decide only[sv,Na,SF,aC1,aF.aD,cB]
 ·have cB: ¬((bu id).length:Int)<2:=by omega
  have se:((id:Int)).tmod 64=((id%64:Nat):Int):=(Int.ofNat_tmod _ 64).symm
  have sd:IntKind.wrap .i64 ((id%64:Nat):Int)=((id%64:Nat):Int):=bj (by omega) (by omega)
  have hm3:IntKind.wrap .u64 ((id%64:Nat):Int)=((id%64:Nat):Int):=eo (by omega)
  rw[aj (by omega)]
  simp+decide only[sv,Na,SF,aC0,aF.aD,cB,se,sd,hm3]
def aLJ (hk:k<l.length) (h:q l[k]=true): ∃j:Nat,iU q l=j:=by
 unfold iU
 rw[ax (List.findIdx_lt_length_of_exists ⟨_,bw hk,h⟩)]
 exact⟨_,rfl⟩
def way (l:List Ob) (id:Nat):Prop:= ∀i (hi:i<(bu id).length),∃k,∃hk:k<l.length,l[k].id=(bu id)[i]/\(i+1<(bu id).length->l[k].kind=1)
def aE9 (ok:aA P tb) (hl:l.length<1000) (aM:id<2^64) (hm:cP id=true) (w:way l id):al P 56 [.vs (bg l) t, .int .u64 id] h (.bool true) h:=by
 refine ok.bA A7 ?_
 simp+decide only[sv,A7,aAt,aef]
 refine ao (Bi ok aM) ?_
 have AW:=zd (id:=id)
 have hp:0<(bu id).length:=by
  have:=NS id;rw[hm] at this;exact of_decide_eq_true this.symm
 simp+decide only[sv,A7,aef,aAs]
 let J:Nat->Env->aa->Prop:=fun i ρ H=>H=h/\ρ 0= .vs (bg l) t/\ρ 5= .vs ((ay .u64).R (bu id)) .au
 refine eQ 6 0 (bu id).length (by omega) (bM _) J ?_ ?_ ⟨rfl,rfl,rfl⟩ rfl
 ·rintro i ρ H ⟨rfl,r0,r5⟩ r6-hi av aK hw
  have gi:((ay .u64).R (bu id))[i]? =some [.int .u64 (bu id)[i]]:=(ay .u64).cj hi
  obtain⟨k,hk,e1,e2⟩:=w i hi
  obtain⟨j,ej⟩:=aLJ (q:=fun o:Ob=>o.id==(bu id)[i]) hk (by simp[e1])
  have cf:=aiA ok (h:=H) (t:=t) (id:=(bu id)[i]) hl
  rw[ej] at cf
  have j0: ¬(j:Int)<0:=by omega
  have w1:IntKind.wrap .i64 (((bu id).length:Int)-1)=((bu id).length:Int)-1:=bj (by omega) (by omega)
  simp+decide only[sv,A7,aee,Sx,r0,r5,r6,aF.aD,av,aK,gi]
  refine ao cf ?_
  by_cases hq:i+1<(bu id).length
  ·have cb:=aHP ok (h:=H) (t:=t) hl hk (e2 hq)
   rw[e1] at cb
   have q1:(i:Int)<((bu id).length:Int)-1:=by omega
   simp+decide only[sv,A7,Sx,Sw,r0,r5,r6,aF.aD,av,aK,gi,j0,w1,q1]
   refine ao cb ?_
   simp+decide only[sv,A7,Sw,aed,r6,hw]
   exact⟨rfl,r0,r5⟩
  ·have q1: ¬(i:Int)<((bu id).length:Int)-1:=by omega
   simp+decide only[sv,A7,Sx,Sw,aed,r0,r5,r6,aF.aD,av,aK,gi,j0,w1,q1,hw]
   exact⟨rfl,r0,r5⟩
 ·rintro ρ H ⟨rfl,r0,r5⟩ r6 av
  have pe:(0:Int)<((bu id).length:Int):=by omega
  simp+decide only[sv,A7,aee,aAr,r5,r6,aF.aD,av,pe]
def Wc:bu 1=[1]:=by decide+kernel
def aMs (ks:KS af) (T:Tree af) (hr: ∃r,a9 af 1=some r): ∀{n:Nat} {o:Ob},o∈af->(bu o.id).length=n->(∀q∈bu o.id,∃x∈af,x.id=q)/\(o.id≠1-> ∀q∈bu (cR o.id),∃x∈af,x.id=q/\x.kind=1):=by
 intro n
 induction n using Nat.strongRecOn with
 |_ n ih=>
  intro o ho hn
  have hm:=ze (ks.val o ho)
  by_cases h1:o.id=1
  ·refine⟨fun q hq=>?_,fun e=>absurd h1 e⟩
   rw[h1,Wc] at hq
   exact⟨o,ho,by rw[List.mem_singleton.1 hq,h1]⟩
  ·obtain⟨b,hb,b1,b2,_⟩:=T o ho h1
   obtain⟨e,e'⟩:=NC hm h1
   obtain⟨i1,i2⟩:=ih (bu b.id).length (by rw[b1,<-hn,e];simp) hb rfl
   have two: ∀q∈bu (cR o.id),∃x∈af,x.id=q/\x.kind=1:=fun q hq=>by
    rw[<-b1] at hq
    by_cases h2:b.id=1
    ·rw[h2,Wc] at hq
     exact⟨b,hb,by rw[List.mem_singleton.1 hq,h2],b2⟩
    ·rw[(NC (ze (ks.val b hb)) h2).1,vW] at hq
     rcases hq with hq|hq
     ·exact i2 h2 q hq
     ·exact⟨b,hb,(List.mem_singleton.1 hq).symm,b2⟩
   refine⟨fun q hq=>?_,fun _=>two⟩
   rw[e,vW] at hq
   rcases hq with hq|hq
   ·obtain⟨x,x1,x2,_⟩:=two q hq
    exact⟨x,x1,x2⟩
   ·exact⟨o,ho,(List.mem_singleton.1 hq).symm⟩
def aK5 (ks:KS af) (T:Tree af) (hr: ∃r,a9 af 1=some r) (ho:o∈af):way af o.id:=by
 obtain⟨w1,w2⟩:=aMs ks T hr ho rfl
 intro i hi
 by_cases h1:o.id=1
 ·obtain⟨x,hx,e⟩:=w1 _ (bw hi)
  obtain⟨k,hk,rfl⟩:=jm hx
  exact⟨k,hk,e,fun q=>by rw[h1,Wc] at q;simp at q⟩
 ·have e:=(NC (ze (ks.val o ho)) h1).1
  by_cases h2:i<(bu (cR o.id)).length
  ·obtain⟨x,hx,e1,e2⟩:=w2 h1 _ (bw h2)
   obtain⟨k,hk,rfl⟩:=jm hx
   refine⟨k,hk,?_,fun _=>e2⟩
   rw[e1];simp only[e];rw[List.getElem_append_left h2]
  ·obtain⟨x,hx,e1⟩:=w1 _ (bw hi)
   obtain⟨k,hk,rfl⟩:=jm hx
   exact⟨k,hk,e1,fun q=>by rw[e] at q;simp at q;omega⟩
def aLq:iT id<=6:=by have:=zd (id:=id);rw[Fc];omega
theorem akI {f:Ob->Nat}: ∀{l:List Ob},l.countP (fun o=>decide (f o<d+1))=l.countP (fun o=>decide (f o<d))+l.countP (fun o=>decide (f o=d))
 |[]=>rfl
 |x::l=>by
  simp only[List.countP_cons,rK]
  rw[akI (l:=l)]
  by_cases h1:f x<d
  ·rw[ax (by omega),ax h1,aj (by omega)];omega
  ·by_cases h2:f x=d
   ·rw[ax (by omega),aj h1,ax h2];omega
   ·rw[aj (by omega),aj h1,aj h2];omega
theorem aFN (ok:aA P tb) (hl:l.length<1000) (hs:l.Pairwise (·.id< ·.id)) (aM: ∀o∈l,o.id<2^64/\cP o.id=true/\way l o.id): ∃v h',al P 20 [.vs (bg l) t] h v h'/\(∃rows tl,v= .vs rows tl/\rows.length=l.length)/\Old h h':=by
 obtain⟨Q,hQ⟩: ∃Q:AV->aa->Prop,∀v h',Q v h'↔(∃rows tl,v= .vs rows tl/\rows.length=l.length)/\Old h h':=⟨_,fun _ _=>Iff.rfl⟩
 suffices key: ∃v h',al P 20 [.vs (bg l) t] h v h'/\Q v h' by
  obtain⟨v,h',c1,q⟩:=key
  exact⟨v,h',c1,(hQ _ _).1 q⟩
 refine ok.kP su ?_
 simp+decide only[sv,su,aDd,aDc,aDb]
 let J:Nat->Env->aa->Prop:=fun d ρ H=>Old h H/\ρ 0= .vs (bg l) t/\ ∃v out,ρ 3=v/\App h H v ((ay .u64).R out)/\out.length=l.countP (fun o=>decide (iT o.id<d))
 refine eQ 4 0 7 (by omega) (bM _) J ?_ ?_ ⟨Old.refl h,rfl,_,[],rfl,App.start _ _ _,by simp⟩ rfl
 ·rintro d ρ H ⟨o0,r0,v,out,r3,ha,hlen⟩ r4-hd jh Ez hdw
  have d6:(d:Int)<=6:=by omega
  have lo:out.length<=l.length:=by rw[hlen];exact List.countP_le_length
  simp+decide only[sv,su,aeT,aDa,aC9,r4,d6]
  let J2:Nat->Env->aa->Prop:=fun i ρ G=>Old H G/\ρ 0= .vs (bg l) t/\ρ 3=v/\ρ 4= .int .i64 d/\ ∃v5 row,ρ 5=v5/\App H G v5 ((ay .u64).R row)/\row.length=(l.take i).countP (fun o=>decide (iT o.id=d))
  refine eQ 6 0 l.length (by omega) (bM _) J2 ?_ ?_ ⟨Old.refl H,r0,r3,r4,_,[],rfl,App.start _ _ _,rfl⟩ rfl
  ·rintro i ρ G ⟨o1,r0,r3,r4,v5,row,r5,hb,cS⟩ r6-hi av aK hw
   obtain⟨id1,id2,id3⟩:=aM _ (bw hi)
   have gi:(bg l)[i]? =some (l[i].c aC):=Bt hi
   simp only[Ob.c] at gi
   have lr:row.length<=i:=by rw[cS];exact fm List.countP_le_length (uj i l)
   have cnt:(l.take (i+1)).countP (fun o=>decide (iT o.id=d))=row.length+if iT l[i].id=d then 1 else 0:=by
    rw[lN hi,List.countP_append,<-cS];simp[List.countP_cons]
   have cf:=aiA ok (h:=G) (t:=t) (id:=l[i].id) hl
   rw[C4 (q:=fun o:Ob=>o.id==l[i].id) hi (fun j hj iu=>by
    have:=List.pairwise_iff_getElem.1 hs j i iu hi hj
    simp;omega) (by simp)] at cf
   simp+decide only[sv,su,aeS,aC8,r0,r6,fD,av,aK,gi]
   refine ao (VN ok id1) ?_
   rw[id2]
   simp+decide only[sv,r0,r6,aK,av,gi,fD]
   refine ao (aFP ok id1) ?_
   by_cases hq:iT l[i].id=d
   ·rw[hq]
    simp+decide only[sv,r0,r4,r6,aK,av,gi,fD]
    refine ao (aE9 ok hl id1 id2 id3) ?_
    simp+decide only[sv,r0,r4,r6,aK,av,gi,fD]
    refine ao cf ?_
    simp+decide only[sv,su,aC7,r6]
    rw[ax hq] at cnt
    obtain⟨tr,e5,_⟩:=id hb
    have fin: ∀(ρ:Env) (G2:aa) (k:Nat) (K:cC->Env->aa->Prop),(∀v6 Te G3 ρ',Te.length=row.length+1->App H G3 v6 ((ay .u64).R Te)->Old H G3->ρ' 0= .vs (bg l) t->ρ' 3=v->ρ' 4= .int .i64 d->ρ' 5=v6->ρ' 6= .int .i64 i->K .normal ρ' G3)->Old H G2->k<=row.length->ρ 0= .vs (bg l) t->ρ 3=v->ρ 4= .int .i64 d->ρ 5=v5->ρ 6= .int .i64 i->ρ 7= .int .i64 k->WP P (.jG PD [[],[],[],[],[],[],[],[],[],[4],[],[],[],[],[],[],[]]) K ρ G2:=by
     intro ρ X k K next oX hk r0 r3 r4 r5 r6 r7
     subst e5
     obtain⟨va,h2,a1,a2,a3,a5⟩:=(show App X (X.clean 17) (.vs [] .full) ((ay .u64).R []) from App.nil _ _).oJ (Old.refl X).clean (base:=X.next) (n:=17) (i:=4) 8 1 (row.take k) (((ay .u64).R row).take k) ((ay .u64).awx).symm rfl (ak _) (fun j hj=> .inl (by simp only[aa.clean];rw[aj (by omega)])) (by simp only[fI,jQ];omega) (by decide)
     obtain⟨tv,rfl,_⟩:=id a2
     have hh:bQ 1 ((ay .u64).R row)=true:=(ay .u64).fl
     have gC:(k:Int)<=(row.length:Int):=by omega
     have od:(0:Int)<=(k:Int):=by omega
     refine jk 10 17 rfl (by omega) rfl ?_
     have UP:bQ 1 (((ay .u64).R row).take k)=true:=by rw[(ay .u64).awx];exact(ay .u64).fl
     have hhd:bQ 1 (((ay .u64).R row).drop k)=true:=by rw[(ay .u64).awz];exact(ay .u64).fl
     have s1:=bW (show 0<=k/\k<=row.length by omega)
     have s2:=bW (show k<=row.length/\row.length<=row.length by omega)
     simp+decide only[sv,su,PD,r0,r5,r6,r7,aK,av,gi,fD,hh,gC,od,aF.aD,xr,zS,kD,s1,qF,np,UP]
     refine⟨_,h2,a1,a5,fun b hb=>?_,?_⟩
     ·rw[a3.get b hb];exact((Old.refl X).clean.get b hb).symm
     simp+decide only[sv,r0,r6,aK,av,gi,fD]
     obtain⟨vb,h3,b1,b2,b3,b5⟩:=a2.oJ a3 (base:=X.next) (n:=17) (i:=11) 8 1 [l[i].id] [[.int .u64 l[i].id]] rfl rfl (ak _) (fun j hj=>by
      by_cases jv:j<=11
      ·exact .inr jv
      ·exact .inl (a5 j (by omega) hj)) (by simp only[kF,jQ,cQ,fI];omega) (by decide)
     rw[kF] at b1 b2
     obtain⟨tv2,rfl,_⟩:=id b2
     have MB:List.take (row.length-k) (List.drop k ((ay .u64).R row))=List.drop k ((ay .u64).R row):=bX (by rw[oI,aF.aD];exact ak _)
     simp+decide only[sv,b1,r5,r7,gC,od,hk,aF.aD,hh,hhd,MB]
     refine⟨b5,?_⟩
     obtain⟨vc,h4,d1,d2,d3,d5⟩:=b2.oJ b3 (base:=X.next) (n:=17) (i:=15) 8 1 (row.drop k) (((ay .u64).R row).drop k) ((ay .u64).awz).symm rfl (ak _) (fun j hj=>by
      by_cases jv:j<=15
      ·exact .inr jv
      ·exact .inl (b5 j (by omega) hj)) (by simp only[cw,jQ,oI,cQ,fI];omega) (by decide)
     simp+decide only[sv,d1]
     obtain⟨tv3,e3,e4⟩:=id d2
     have onX:=oX.next
     refine⟨d5,next _ _ _ _ ?_ ⟨tv3,e3,e4.imp id fun⟨q,q1,q2,q3⟩=>⟨q,q1,by omega,q3⟩⟩ (oX.trans d3) r0 r3 r4 rfl r6⟩
     simp only[cw,jQ,oI,cQ,fI];omega
    generalize hK:iD (WP P (.jG PD _) _) _=K1
    let I2:Nat->Env->aa->Prop:=fun m ρ G2=> ∃k,row.length=k+m/\Old H G2/\ρ 0= .vs (bg l) t/\ρ 3=v/\ρ 4= .int .i64 d/\ρ 5=v5/\ρ 6= .int .i64 i/\ρ 7= .int .i64 k
    refine dv I2 ?_ row.length ⟨0,by omega,o1,r0,r3,r4,r5,r6,rfl⟩
    rintro m ρ G2 ⟨k,hk,o2,r0,r3,r4,r5,r6,r7⟩
    have last: ∀(ρ:Env) (G2:aa),Old H G2->ρ 0= .vs (bg l) t->ρ 3=v->ρ 4= .int .i64 d->ρ 5=v5->ρ 6= .int .i64 i->ρ 7= .int .i64 k->K1 .normal ρ G2:=by
     intro ρ G2 o2 r0 r3 r4 r5 r6 r7
     rw[<-hK]
     simp+decide only[sv]
     refine fin _ _ k _ ?_ o2 (by omega) r0 r3 r4 r5 r6 r7
     intro v6 Te G3 ρ' l2 A2 o3 q0 q3 q4 q5 q6
     simp+decide only[sv,su,Z4,q6,hw]
     exact⟨o3,q0,q3,q4,_,Te,q5,A2,by omega⟩
    have kw:=dj (show k<2^61 by omega)
    have k0:(0:Int)<=(k:Int):=by omega
    have oC:Old H (G2.clean 16):=o2.clean
    subst e5
    by_cases hkl:k<row.length
    ·have Tt:(k:Int)<(row.length:Int):=by omega
     have gk:((ay .u64).R row)[k]? =some [.int .u64 row[k]]:=(ay .u64).cj hkl
     by_cases aS:row[k]<l[i].id
     ·have jK:(row[k]:Int)<(l[i].id:Int):=by omega
      simp+decide only[sv]
      refine bq 16 rfl rfl ?_
      simp+decide only[sv,su,SH,aqc,r0,r5,r6,r7,aK,av,gi,fD,aF.aD,Tt,k0,gk,jK,kw]
      exact⟨m-1,by omega,k+1,by omega,oC,r0,r3,r4,r5,r6,rfl⟩
     ·have jK: ¬(row[k]:Int)<(l[i].id:Int):=by omega
      simp+decide only[sv]
      refine bq 16 rfl rfl ?_
      simp+decide only[sv,su,SH,r0,r5,r6,r7,aK,av,gi,fD,aF.aD,Tt,k0,gk,jK]
      exact last _ _ oC r0 r3 r4 r5 r6 r7
    ·have Tt: ¬(k:Int)<(row.length:Int):=by omega
     simp+decide only[sv]
     refine bq 16 rfl rfl ?_
     simp+decide only[sv,su,SH,r0,r5,r6,r7,aK,av,gi,fD,aF.aD,Tt]
     exact last _ _ oC r0 r3 r4 r5 r6 r7
   ·have js: ¬((iT l[i].id:Nat):Int)=(d:Int):=by omega
    simp+decide only[sv,su,Z4,r0,r4,r6,aK,av,gi,fD,js,hw]
    rw[aj hq] at cnt
    exact⟨o1,r0,r3,r4,_,row,r5,hb,cnt.symm⟩
  ·rintro ρ G ⟨o1,r0,r3,r4,v5,row,r5,hb,cS⟩ r6 av
   rw[List.take_length] at cS
   have lr:row.length<=l.length:=by rw[cS];exact List.countP_le_length
   obtain⟨tr,rfl,_⟩:=id hb
   obtain⟨vc,h4,d1,d2,d3,d4⟩:=(ha.old o1).more (o0.trans o1) 8 1 row _ rfl rfl (by omega) (by decide)
   have hh:bQ 1 ((ay .u64).R row)=true:=(ay .u64).fl
   simp+decide only[sv,su,aeS,aqb,aqa,r0,r3,r4,r5,r6,fD,av,hh,d1,hdw]
   refine⟨d3,r0,vc,_,rfl,d2,?_⟩
   rw[cw,hlen,cS,akI]
 ·rintro ρ H ⟨o0,r0,v,out,r3,ha,hlen⟩ r4 jh
  obtain⟨tl,rfl,_⟩:=ha
  simp+decide only[sv,su,aeT,ap9,r3,r4,eK]
  refine(hQ _ _).2 ⟨⟨_,_,rfl,?_⟩,o0⟩
  rw[aF.aD,hlen,List.countP_eq_length.2 fun o _=>mF (by have:=aLq (id:=o.id);omega)]
end
section
open Go
variable {P:Program} {h:aa}
def yX.kc:yX KC:=⟨fun _ q=>KC.start q,fun a b c d=>aMU a b c d,fun a b c d=>aMR a b c d⟩
def ake {a b:List Ob}:eZ f (a++b)=eZ f a+eZ f b:=by
 induction a with
 |nil=>simp[eZ]
 |cons x a ih=>rw[Gw,po,po,ih];omega
def aIv (hf: ∀x∈l,0<=f x) (n):0<=eZ f (l.take n)/\eZ f (l.take n)<=eZ f l:=by
 have h:=ake (f:=f) (a:=l.take n) (b:=l.drop n)
 rw[J3] at h
 have h1:=Oz (f:=f) (l:=l.take n) fun x hx=>hf x (uk hx)
 have h2:=Oz (f:=f) (l:=l.drop n) fun x hx=>hf x (List.mem_of_mem_drop hx)
 omega
def aIw {l:List Ob} (hn):eZ f (l.take (n+1))=eZ f (l.take n)+f l[n]:=by
 rw[lN hn,ake];simp[eZ]
def aLb {af:List Ob} (hs:af.Pairwise (·.id< ·.id)) (hx:x∈af) (hy:y∈af) (e:x.id=y.id):x=y:=by
 have a:=lE hs hx
 rw[e,lE hs hy] at a
 exact(Option.some.inj a).symm
def aUd (ok:aA P tb) {t:aL}: ∃h',al P 5 [.vs (BS l) t] h (.bool true) h'/\True:=by
 refine ok.dr c5 ?_
 simp+decide only[sv,c5,aEO,TA]
 refine ao (Ij ok) ?_
 by_cases h90:90<l.length
 ·have D2:(90:Int)<(l.length:Int):=by omega
  simp+decide only[sv,c5,TA,afZ,aEN,aY,D2]
  exact⟨rfl,trivial⟩
 have D2: ¬(90:Int)<(l.length:Int):=by omega
 simp+decide only[sv,c5,TA,afZ,afY,aY,D2]
 obtain⟨h1,c1,K1,o1⟩:=CW ok (h:=h) (l:=l) (t:=t) (by omega)
 refine ao c1 ?_
 obtain⟨a,rb,rt,h2,ah,af,n',B,c2,b,_,kc⟩:=Im ok yX.kc K1 (by omega) (N:=30) (by omega)
 simp+decide only[sv]
 refine ao c2 ?_
 have ne:=Ka b.r.root
 have len:=b.len
 obtain⟨lb,N,M,K,nk,hN,hM⟩:=b.k
 have ks:=K.k.ks
 have T:=K.inv.tree
 have hr:=K.inv.root
 simp+decide only[sv,c5,afY,aEM,aEL,xr]
 refine ao (C0 ok K.k ne (by omega)) ?_
 simp+decide only[sv,c5,afX]
 obtain⟨v,h3,c3,⟨rows,tl,rfl,e3⟩,o3⟩:=aFN ok (h:=h2) (l:=af) (t:= .au) (by omega) ks.aQ (fun o ho=>⟨(ks.val o ho).ok.id,ze (ks.val o ho),aK5 ks T hr ho⟩)
 refine ao c3 ?_
 simp+decide only[sv,c5,afX,az7,fD,e3]
 clear c1 c2 c3 b K nk o1 K1 o3
 have hv:=fun i (hi:i<af.length)=>ks.val _ (bw hi)
 have nn: ∀c,∀x∈af,0<=dR c x:=fun c x hx=>by
  unfold dR;split
  ·exact WX (ks.val x hx)
  ·exact Int.le_refl _
 let J:Nat->Env->aa->Prop:=fun i ρ H=>ρ 6= .vs (bg af) .au
 refine eQ 7 0 af.length (by omega) (bM _) J ?_ ?_ rfl rfl
 ·rintro i ρ H r6 r7-hi av aK hw
  have r6:ρ 6= .vs (bg af) .au:=r6
  have gi:(bg af)[i]? =some (af[i].c aC):=Bt hi
  have mi:=bw hi
  simp only[Ob.c] at gi
  by_cases hk:af[i].kind=1
  case neg=>
   simp+decide only[sv,c5,Ss,ad9,ad6,r6,r7,fD,av,aK,gi,hk,hw]
   exact r6
  obtain⟨u1,u2⟩:=kc.used _ mi hk
  obtain⟨_,_,u3,_,_⟩:=zf (ks.val _ mi).may hk
  simp+decide only[sv,c5,Ss,ad9,az6,az5,r6,r7,fD,av,aK,gi,hk]
  let J2:Nat->Env->aa->Prop:=fun n ρ H=>ρ 6= .vs (bg af) .au/\ρ 7= .int .i64 i/\ρ 8= .int .i64 (eZ (dR af[i].id) (af.take n))
  refine eQ 9 0 af.length (by omega) (bM _) J2 ?_ ?_ ⟨r6,r7,rfl⟩ rfl
  ·rintro n ρ H ⟨r6,r7,r8⟩ r9-hn cV tJ nw
   have gn:(bg af)[n]? =some (af[n].c aC):=Bt hn
   have mn:=bw hn
   simp only[Ob.c] at gn
   have vn:=ks.val _ mn
   have es:=aIw (f:=dR af[i].id) hn
   have b1:=aIv (nn af[i].id) (n+1)
   simp+decide only[sv,c5,ad8,r6,r9,fD,cV]
   refine jk 11 12 rfl (by omega) rfl ?_
   simp+decide only[sv,c5,az4,r6,r7,r9,fD,cV,tJ,gn]
   refine dh (aiz ok vn.ok.id) (ba (ak _)) ?_
   by_cases hp:cR af[n].id=af[i].id
   ·have pe:(cR af[n].id:Int)=(af[i].id:Int):=by omega
    have vc:=Fg vn.may vn.norm
    have ek:dR af[i].id af[n]=cost af[n]:=ax hp
    rw[ek] at es
    have w1:IntKind.wrap .i64 (eZ (dR af[i].id) (af.take n)+cost af[n])=eZ (dR af[i].id) (af.take (n+1)):=by rw[<-es];exact bj (by omega) (by omega)
    simp+decide only[sv,c5,az3,r6,r7,r8,r9,fD,av,aK,gi,cV,tJ,gn,pe]
    refine ao (VO ok (o:=af[n]) (t:=aC) (by omega) (by omega)) ?_
    simp+decide only[sv,w1]
    refine jk 11 12 rfl (by omega) rfl ?_
    simp+decide only[sv,c5,az2,r6,r7,r9,fD,cV,tJ,gn]
    refine dh (aFk ok vn.ok.id) (ba (ak _)) ?_
    have h1:af[n].id≠1:=fun e=>by
     rw[e,Wx] at hp
     have:=Oc (ze (ks.val _ mi));omega
    obtain⟨y,hy,y1,y2,y3⟩:=T _ mn h1
    have ey:=aLb ks.aQ hy mi (y1.trans hp)
    rw[ey] at y3
    have aS: ¬af[i].next<=((if iT af[n].id=0 then 0 else af[n].id%64:Nat):Int):=by split<;>omega
    simp+decide only[sv,c5,ad7,r6,r7,r9,fD,av,aK,gi,aS,nw]
    exact⟨r6,r7,rfl⟩
   ·have pe: ¬(cR af[n].id:Int)=(af[i].id:Int):=by omega
    simp+decide only[sv,c5,ad7,r6,r7,r9,fD,av,aK,gi,pe,nw]
    refine⟨r6,r7,?_⟩
    rw[es];unfold dR;rw[aj hp,Int.add_zero];exact r8
  ·rintro ρ H ⟨r6,r7,r8⟩ r9 cV
   rw[List.take_length] at r8
   have q1: ¬af[i].aP<eZ (dR af[i].id) af:=by omega
   simp+decide only[sv,c5,ad8,az1,ad6,r6,r7,r8,r9,fD,cV,av,aK,gi,u1,q1,hw]
   exact r6
 ·rintro ρ H r6 r7 av
  have r6:ρ 6= .vs (bg af) .au:=r6
  simp+decide only[sv,c5,Ss,az0,r6,r7,fD,av]
  exact⟨rfl,trivial⟩
end
end Go.Proofs.YtoioonbabnomkaaGreat.Am
