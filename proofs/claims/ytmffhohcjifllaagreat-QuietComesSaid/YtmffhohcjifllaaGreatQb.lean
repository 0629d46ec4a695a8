/- What the functions do. Conditions: none. -/
import Derived.Test.YtmffhohcjifllaaGreatQa
set_option maxRecDepth 100000
set_option maxHeartbeats 8000000
set_option linter.unusedSimpArgs false
set_option linter.unusedVariables false
set_option linter.unnecessarySimpa false
namespace Go.Proofs.YtmffhohcjifllaaGreat.Am
section
open Go
variable {P:Program} {h:aa} {ab mb lb cA:Nat} {S:List Sl} {es:List (Nat×Nat)}
def iE (S:List Sl):Nat×List Sl:=match xG S with
 |some i=>(i,S)
 |none=>(S.length,S++[⟨none,0⟩])
theorem avA (ok:ax P tb) (A:eh h ab mb lb cA S es) (hs:S.length<2^19): ∃h',an P 56 [.ptr ab 0] h (.int .i64 (iE S).1) h'/\ ∃aT,eh h' ab mb aT cA (iE S).2 es/\h.next<=h'.next/\(aT=lb\/h.next<=aT)/\ ∀b,b<h.next->b≠ab->b≠lb->h'.get b=h.get b:=by
 refine ok.dz (rf:=wI) rfl (Nat.le_of_ble_eq_true rfl) ?_
 obtain⟨lv,t1,q1,q2,mX⟩:=A.mX
 have hc:=av t1
 simp+decide only[st,xv,wI,agi,Ep,hc]
 refine aq (aqR ok (mX h rfl) (q:=fun s=>!s.r.isSome) (by omega) (ok.bZ _ rfl) (fun p _=>auJ ok)) ?_
 rw[amr]
 unfold iE
 cases hq:xG S with
 |some i=>
  have hi: ¬((i:Int)<0):=by omega
  simp+decide only[st,xv,wI,Ep,J0,JZ,kE]
  exact⟨lb,A, .inl rfl⟩
 |none=>
  obtain⟨lv',je,t2⟩:=A.top
  rw[t1] at je
  injection je with je;injection je with je;injection je with _ je;injection je with je _
  subst je
  have l1:=A.l1
  have l2:=A.l2
  have n1:=A.n1
  have tm:=A.map
  rcases t2 with⟨rfl,rfl⟩|⟨e0,rfl,e2,e3,e4,e5⟩
  ·have ha:fp 48 4 h.next h (.vs [] .full) (some [[.int .u64 0, .vs [] .full, .bool false, .int .i64 0]])=some (.rs h.next 0 1 4,h.at h.next (.cells [.int .u64 0, .vs [] .full, .bool false, .int .i64 0])):=rfl
   have q2: ¬(ab=h.next):=by omega
   simp+decide only[st,xv,wI,Ep,J0,Te,Td,JZ,kE,hc,ha,zg,xr,q2]
   refine⟨h.next,⟨⟨.rs h.next 0 1 4,by simp[aa.set,aa.at], .inr ⟨by simp,rfl,?_,?_,by omega,by omega⟩⟩,?_,?_,?_,n1,by simp⟩,?_, .inr (Nat.le_refl _),fun b hb h1 h2=>?_⟩
   all_goals (try simp only[aa.set,aa.at])
   ·rw[if_neg (by omega),if_pos trivial];rfl
   ·omega
   ·rw[if_neg (by omega),if_neg (by omega),tm]
   ·omega
   ·omega
   ·omega
   ·rw[if_neg h1,if_neg (by omega)]
  ·have hlen:(S.map Sl.enc).flatten.length=S.length*4:=by rw[jE rO,List.length_map]
   have bk:=av e2
   have ha:fp 48 4 h.next h (.rs lb 0 S.length 4) (some [[.int .u64 0, .vs [] .full, .bool false, .int .i64 0]])=some (.rs h.next 0 (S.length+1) 4,(h.set lb none).at h.next (.cells ((S++[(⟨none,0⟩:Sl)]).map Sl.enc).flatten)):=by
    simp only[fp,bk,Option.bind_some]
    rw[if_neg (by simp),if_pos (by refine⟨trivial,trivial,?_,?_,?_⟩<;>(try simp only[List.length_singleton])<;>omega),List.take_of_length_le (by omega)]
    simp only[List.map_append,List.flatten_append];rfl
   have q2: ¬(ab=h.next):=by omega
   have q3: ¬(ab=lb):=fun e=>e4 e.symm
   simp+decide only[st,xv,wI,Ep,J0,Te,Td,JZ,kE,hc,ha,zg,xr,q2,q3]
   refine⟨h.next,⟨⟨.rs h.next 0 (S.length+1) 4,by simp[aa.set,aa.at], .inr ⟨by simp,by simp,?_,?_,by omega,by omega⟩⟩,?_,?_,?_,n1,by simp;omega⟩,?_, .inr (Nat.le_refl _),fun b hb h1 h2=>?_⟩
   all_goals (try simp only[aa.set,aa.at])
   ·rw[if_neg (by omega),if_pos trivial]
   ·omega
   ·rw[if_neg (by omega),if_neg (by omega),if_neg (fun e=>e5 e.symm),tm]
   ·omega
   ·omega
   ·omega
   ·rw[if_neg h1,if_neg (by omega),if_neg h2]
theorem eh.old (A:eh h ab mb lb cA S es) {h':aa} (hn:h.next<=h'.next) (hk: ∀b,b<h.next->h'.get b=h.get b):eh h' ab mb lb cA S es:=by
 refine A.bM hn (hk _ A.l1) (hk _ A.l2) fun hS=>?_
 obtain⟨lv,t1,t2⟩:=A.top
 rcases t2 with⟨e,_⟩|⟨e0,rfl,e2,e3,e4,e5⟩
 ·exact absurd e hS
 ·exact hk _ e3
theorem eh.clean (A:eh h ab mb lb cA S es) {n:Nat}:eh (h.clean n) ab mb lb cA S es:=A.old (by simp[aa.clean]) fun b hb=>by simp only[aa.clean];rw[if_pos hb]
theorem eh.AS (A:eh h ab mb lb cA S es) (hS:S≠[]):h.get ab=some (.cells [.int .u8 cA, .rs lb 0 S.length 4, .map (some mb)])/\h.get lb=some (.cells (S.map Sl.enc).flatten)/\lb<h.next/\lb≠ab/\lb≠mb:=by
 obtain⟨lv,t1,t2⟩:=A.top
 rcases t2 with⟨e,_⟩|⟨e0,rfl,e2,e3,e4,e5⟩
 ·exact absurd e hS
 ·exact⟨t1,e2,e3,e4,e5⟩
theorem eh.aiC (A:eh h ab mb lb cA S es) (hS:S≠[]) {T:List Sl} (hT:T.length=S.length):eh (h.set lb (some (.cells (T.map Sl.enc).flatten))) ab mb lb cA T es:=by
 obtain⟨t1,e2,e3,e4,e5⟩:=A.AS hS
 have hT0:T≠[]:=fun e=>hS (List.length_eq_zero_iff.1 (by rw[<-hT,e];rfl))
 refine⟨⟨_,by simp only[aa.set];rw[if_neg (fun e=>e4 e.symm),t1], .inr ⟨hT0,by rw[hT],by simp[aa.set],e3,e4,e5⟩⟩,by simp only[aa.set];rw[if_neg (fun e=>e5 e.symm),A.map],A.l1,A.l2,A.n1,by rw[hT];exact A.small⟩
theorem eh.aiD (A:eh h ab mb lb cA S es) {aV:List (Nat×Nat)}:eh (h.set mb (some (.map (k9 aV)))) ab mb lb cA S aV:=by
 obtain⟨lv,t1,t2⟩:=A.top
 refine⟨⟨lv,by simp only[aa.set];rw[if_neg A.n1,t1],?_⟩,by simp[aa.set],A.l1,A.l2,A.n1,A.small⟩
 rcases t2 with t2|⟨e0,e1,e2,e3,e4,e5⟩
 ·exact .inl t2
 ·exact .inr ⟨e0,e1,by simp only[aa.set];rw[if_neg e5,e2],e3,e4,e5⟩
def jC (h h':aa) (ab mb lb:Nat):Prop:=h.next<=h'.next/\ ∀b,b<h.next->b≠ab->b≠mb->b≠lb->h'.get b=h.get b
theorem avz (ok:ax P tb) (A:eh h ab mb lb cA S es) {ρ:Env} {id i:Nat} {rec:List UInt8} {t:aH} {K:aQ->Env->aa->Prop} (hr:rec.length<2^30) (hi:i<S.length) (r0:ρ 0= .ptr ab 0) (r1:ρ 1= .int .u64 id) (r2:ρ 2= .vs (BS rec) t) (r7:ρ 7= .int .i64 i)
 (hK: ∀ρ' h',ρ' 6= .int .i64 0->eh h' ab mb lb cA (S.set i ⟨some (id,rec),IntKind.wrap .i64 (S[i].cu+1)⟩) es->jC h h' ab mb lb->K .ret ρ' h'):
 WP P (.aU J7 [[],[],[],[],[],[],[],[3],[],[],[],[7],[],[],[],[7],[],[],[],[]]) (i9 (WP P (.seq (.af Ia) .ret) K) K) ρ h:=by
 have hS:S≠[]:=fun e=>by rw[e] at hi;simp at hi
 obtain⟨t1,e2,e3,e4,e5⟩:=A.AS hS
 have l1:=A.l1
 have c1:=av t1
 have c2:=av e2
 have aB:(i:Int)<(S.length:Int):=by omega
 have rows:(S.map Sl.enc)[i]? =some S[i].enc:=by rw[List.getElem?_map,List.getElem?_eq_getElem hi];rfl
 have g3:=wT (sz:=4) (j:=3) rO rows (by omega)
 rw[Sl.trn] at g3
 have hlen:(S.map Sl.enc).flatten.length=S.length*4:=by rw[jE rO,List.length_map]
 have hle:i*4+4<=S.length*4:=by omega
 have mo:=Ho (sz:=4) (S.map Sl.enc) rO i (Sl.enc ⟨some (id,rec),IntKind.wrap .i64 (S[i].cu+1)⟩) (by simpa using hi) rfl
 rw[<-List.map_set] at mo
 refine qg 16 20 rfl (by omega) rfl ?_
 simp+decide only[st,xv,p8,J7,r0,r1,r2,r7,c1,l1]
 refine i6 (zP ok rfl (l:=rec) (t:=t) (by omega)) (dp (Nat.le_refl _)) ?_
 simp+decide only[st,xv,r0,r1,r2,r7,c1,c2,l1,e3,aB,g3]
 rw[show List.take (i*4) (List.map Sl.enc S).flatten++[AV.int IntKind.u64 ↑id,AV.vs (BS rec) aH.ao,AV.bool true,AV.int IntKind.i64 (IntKind.i64.wrap (S[i].cu+1))]++List.drop (i*4+(1+1+1+1)) (List.map Sl.enc S).flatten=_ from mo.symm]
 simp+decide only[st,xv,p8,Ia,hlen,hle]
 refine⟨fun j hj hn=>?_,hK _ _ rfl (A.clean.aiC hS (by simp)) ⟨by simp[aa.set,aa.clean],fun b hb h1 h2 h3=>?_⟩⟩
 ·simp only[aa.set,aa.clean]
  rw[if_neg (by omega)]
  exact if_neg (by omega)
 ·simp only[aa.set,aa.clean]
  rw[if_neg h3]
  exact if_pos hb
theorem jC.refl {h:aa} {ab mb lb:Nat}:jC h h ab mb lb:=⟨Nat.le_refl _,fun _ _ _ _ _=>rfl⟩
theorem jC.trans {h h1 h2:aa} {ab mb lb aT:Nat} (a:jC h h1 ab mb lb) (b:jC h1 h2 ab mb aT) (hl:aT=lb\/h.next<=aT):jC h h2 ab mb lb:=⟨Nat.le_trans a.1 b.1,fun x h1 h2 h3 h4=>by
 have:=a.1
 rw[b.2 x (by omega) h2 h3 (by rcases hl with rfl|hl<;>omega),a.2 x h1 h2 h3 h4]⟩
theorem jC.clean {h:aa} {ab mb lb n:Nat}:jC h (h.clean n) ab mb lb:=⟨by simp[aa.clean],fun b hb _ _ _=>by simp only[aa.clean];exact if_pos hb⟩
theorem CL:(iE S).1<(iE S).2.length/\(iE S).2.length<=S.length+1:=by
 unfold iE
 cases hq:xG S with
 |none=>simp
 |some i=>exact⟨(List.findIdx?_eq_some_iff_getElem.1 hq).1,by simp⟩
def AQ (n:Int):Int:=IntKind.wrap .i64 (n+1)
def mc (S:List Sl) (es:List (Nat×Nat)) (id:Nat) (rec:List UInt8):List Sl×List (Nat×Nat):=match cD es id with
 |some i=>(S.set i ⟨some (id,rec),AQ (S.getD i ⟨none,0⟩).cu⟩,es)
 |none=>((iE S).2.set (iE S).1 ⟨some (id,rec),AQ ((iE S).2.getD (iE S).1 ⟨none,0⟩).cu⟩,es++[(id,(iE S).1)])
theorem axd (ok:ax P tb) (A:eh h ab mb lb cA S es) {id:Nat} {x:UInt8} {rec:List UInt8} {t:aH} (hv:x.toNat=cA) (hr:rec.length<2^20) (hs:S.length<2^19) (hk: ∀i,cD es id=some i->i<S.length):
 ∃h',an P 39 [.ptr ab 0, .int .u64 id, .vs (BS (x::rec)) t] h (.int .i64 0) h'/\ ∃aT,eh h' ab mb aT cA (mc S es id (x::rec)).1 (mc S es id (x::rec)).2/\(aT=lb\/h.next<=aT)/\jC h h' ab mb lb:=by
 refine ok.dz (rf:=p8) rfl (Nat.le_of_ble_eq_true rfl) ?_
 obtain⟨lv,t1,_⟩:=A.top
 have l1:=A.l1
 have hc:=av t1
 have b0:(BS (x::rec))=[.int .u8 x.toNat]::BS rec:=rfl
 have hvv:((x.toNat:Int)=(cA:Int))=True:=by rw[hv];simp
 simp+decide only[st,xv,p8,ag6]
 refine bJ 17 rfl rfl ?_
 simp+decide only[st,xv,p8,ag5,hc,l1,b0,hvv,xr]
 have A1:=A.clean (n:=17)
 have k1:= @jC.clean h ab mb lb 17
 have bn:cellsOf (h.clean 17) ab=_:=av (by rw[show(h.clean 17).get ab=h.get ab by simp only[aa.clean];exact if_pos l1];exact t1)
 have ee:=NH A1.map (id:=id) (b:=true)
 generalize hX:h.clean 17=X at*
 have hXn:h.next<=X.next:=by rw[<-hX];simp[aa.clean]
 have fin: ∀{aT:Nat} {S1:List Sl} {W1:List (Nat×Nat)} {H:aa} {ρ:Env} {i:Nat},eh H ab mb aT cA S1 W1->(aT=lb\/h.next<=aT)->jC h H ab mb lb->(hi:i<S1.length)->ρ 0= .ptr ab 0->ρ 1= .int .u64 id->ρ 2= .vs ([.int .u8 x.toNat]::BS rec) t->ρ 7= .int .i64 i->
  mc S es id (x::rec)=(S1.set i ⟨some (id,x::rec),IntKind.wrap .i64 (S1[i].cu+1)⟩,W1)->WP P (.aU J7 [[],[],[],[],[],[],[],[3],[],[],[],[7],[],[],[],[7],[],[],[],[]]) (i9 (WP P (.seq (.af Ia) .ret) (DT [.tmp 6] (.int .i64 0) fun h'=> ∃aT,eh h' ab mb aT cA (mc S es id (x::rec)).1 (mc S es id (x::rec)).2/\(aT=lb\/h.next<=aT)/\jC h h' ab mb lb)) (DT [.tmp 6] (.int .i64 0) fun h'=> ∃aT,eh h' ab mb aT cA (mc S es id (x::rec)).1 (mc S es id (x::rec)).2/\(aT=lb\/h.next<=aT)/\jC h h' ab mb lb)) ρ H:=by
  intro aT S1 W1 H ρ i B1 m7 hK hi r0 r1 r2 r7 hs
  refine avz ok B1 (rec:=x::rec) (t:=t) (by simp;omega) hi r0 r1 r2 r7 fun ρ' h' r6 B2 k2=>?_
  rw[hs]
  exact⟨by simp[dL,zJ,r6,eQ],aT,B2,m7,hK.trans k2 m7⟩
 simp+decide only[st,xv,p8,J8,bn,ee]
 cases hn:cD es id with
 |some i=>
  have hi:=hk i hn
  simp+decide only[st,xv,p8,J8,TN]
  refine fin A1 (.inl rfl) k1 hi rfl rfl rfl rfl ?_
  unfold mc
  rw[hn]
  simp only[AQ,List.getD_eq_getElem?_getD,List.getElem?_eq_getElem hi,Option.getD_some]
 |none=>
  obtain⟨H1,bk,aT,A2,LM,fY,By⟩:=avA ok A1 hs
  simp+decide only[st,xv,p8,J8,TN,TM]
  refine aq bk ?_
  obtain⟨lv2,t2,_⟩:=A2.top
  have c2:=av t2
  have mA:mapOf H1 mb=some (k9 es):=by simp[mapOf,A2.map]
  have jg:=ans (id:=id) (i:=(iE S).1) hn
  simp+decide only[st,xv,p8,TM,ag4,ag3,c2,mA,AV.strip,jg]
  refine fin (A2.aiD (aV:=es++[(id,(iE S).1)])) (by rcases fY with h|h<;>omega) (k1.trans ⟨?_,fun b hb h1 h2 h3=>?_⟩ (.inl rfl)) CL.1 rfl rfl rfl rfl ?_
  ·exact LM
  ·simp only[aa.set]
   rw[if_neg h2]
   exact By b hb h1 h3
  ·unfold mc
   rw[hn]
   simp only[AQ,List.getD_eq_getElem?_getD,List.getElem?_eq_getElem CL.1,Option.getD_some]
end
section
open Go
variable {P:Program} {h:aa}
theorem akq (ok:ax P tb) {a:Nat}:an P 156 [.int .u64 a] h (.bool false) h:=by
 refine ok.keeps (rf:=FC) rfl (Nat.le_of_ble_eq_true rfl) rfl ?_
 simp+decide only[st,xv,FC,acv,acu]
theorem ala (ok:ax P tb) {a b:Nat}:an P 119 [.int .u64 a, .int .u64 b] h (.bool (decide (a<b))) h:=by
 refine ok.keeps (rf:=Be) rfl (Nat.le_of_ble_eq_true rfl) rfl ?_
 simp+decide only[st,xv,Be,QD,QC]
 refine aq (akq ok) ?_
 simp+decide only[st,xv,Be,QD,QC]
 first|done|rfl|skip
theorem aao {α:Type} {l m:List α} {v w:α} {n:Nat} (h:l.length=n):List.take n (l++v::m)++[w]++List.drop (n+1) (l++v::m)=l++w::m:=by
 rw[qe h,<-List.drop_drop,tF h];simp
theorem Zx {l m:List Nat} {x:Nat}:List.map (fun(n:Nat)=>AV.int .u64 n) (l++x::m)=List.map (fun(n:Nat)=>AV.int .u64 n) l++ .int .u64 x::List.map (fun(n:Nat)=>AV.int .u64 n) m:=by simp
def eH (l:List Nat):List AV:=l.map fun(n:Nat)=> .int .u64 n
theorem Cp {l:List Nat}:(eH l).length=l.length:=by simp[eH]
theorem aaj {l m:List Nat} {x:Nat}:(eH (l++x::m))[l.length]? =some (.int .u64 x):=by simp[eH]
structure zd (L0:List Nat) (A:List Nat) (x:Nat) (B C:List Nat):Prop where
 perm:(A++x::(B++C)).Perm L0
 di:(A++B).Pairwise (· <= ·)
 lt: ∀b∈B,x<=b
theorem zd.step {L0 A B C:List Nat} {x y:Nat} (I:zd L0 (A++[y]) x B C) (wh:x<y):zd L0 A x (y::B) C where
 perm:=by
  refine List.Perm.trans ?_ I.perm
  simp only[List.append_assoc,List.singleton_append,List.cons_append]
  exact List.Perm.append_left _ (List.Perm.swap ..)
 di:=by simpa using I.di
 lt b hb:=by
  rcases List.mem_cons.1 hb with rfl|hb
  ·omega
  ·exact I.lt b hb
theorem zd.fin {L0 A B C:List Nat} {x:Nat} (I:zd L0 A x B C) (h: ∀y,A.getLast?=some y->y<=x):(A++x::B).Pairwise (· <= ·):=by
 rw[List.pairwise_append]
 have hs:=List.pairwise_append.1 I.di
 refine⟨hs.1,List.pairwise_cons.2 ⟨fun b hb=>I.lt b hb,hs.2.1⟩,fun a ha b hb=>?_⟩
 have WL:a<=x:=by
  rcases List.eq_nil_or_concat A with rfl|⟨A',y,rfl⟩
  ·cases ha
  ·simp only[List.concat_eq_append] at*
   have hy:=h y (by simp)
   rcases List.mem_append.1 ha with ha|ha
   ·have:=(List.pairwise_append.1 hs.1).2.2 a ha y (by simp)
    omega
   ·have:a=y:=by simpa using ha
    omega
 rcases List.mem_cons.1 hb with rfl|hb
 ·exact WL
 ·have:=I.lt b hb;omega
theorem aup (ok:ax P tb) {b:Nat} {L:List Nat} (hb:b<h.next) (hc:cellsOf h b=some (eH L)) (hl:L.length<2^20):
 ∃h',an P 113 [.rs b 0 L.length 1, .int .i64 0, .int .i64 L.length] h (.az []) h'/\ ∃M,M.Perm L/\M.Pairwise (· <= ·)/\fl b h h' (eH M):=by
 refine ok.dz (rf:=pH) rfl (Nat.le_of_ble_eq_true rfl) ?_
 simp+decide only[st,xv,pH,IM,xr]
 let I:Nat->Env->aa->Prop:=fun n ρ H=> ∃i M,L.length+1-i=n/\1<=i/\M.Perm L/\(M.take i).Pairwise (· <= ·)/\fl b h H (eH M)/\ρ 0= .rs b 0 L.length 1/\ρ 1= .int .i64 0/\ρ 2= .int .i64 L.length/\ρ 6= .int .i64 i
 have h1:(L.take 1).Pairwise (· <= ·):=by
  cases L with
  |nil=>simp
  |cons a l=>simp
 refine dn I ?_ L.length ⟨1,L,by omega,by omega,List.Perm.refl _,h1,⟨hc,Nat.le_refl _,fun _ _ _=>rfl⟩,rfl,rfl,rfl,rfl⟩
 rintro n ρ H ⟨i,M,hn,ux,hp,hs,ha,r0,r1,r2,r6⟩
 have hML:=hp.length_eq
 by_cases hi:i<L.length
 ·have aB:(i:Int)<(L.length:Int):=by omega
  simp+decide only[st,xv,pH,DA,IL,r0,r1,r2,r6,aB]
  have hw:=cT (show i<2^61 by omega)
  let J:Nat->Env->aa->Prop:=fun j ρ H=> ∃A x B C,A.length=j/\j+B.length=i/\zd L A x B C/\fl b h H (eH (A++x::(B++C)))/\ρ 0= .rs b 0 L.length 1/\ρ 1= .int .i64 0/\ρ 2= .int .i64 L.length/\ρ 6= .int .i64 i/\ρ 7= .int .i64 j
  have hMi:M.take i++M[i]::([]++M.drop (i+1))=M:=by
   rw[List.nil_append,<-List.drop_eq_getElem_cons (by omega),List.take_append_drop]
  have Mc:J i (put (put (put (put (put ρ (some 10) (ρ 6)) (some 11) (ρ 2)) (some 12) (.bool true)) (some 15) (ρ 6)) (some 7) (ρ 6)) H:=⟨M.take i,M[i],[],M.drop (i+1),by simp;omega,by simp,⟨by rw[hMi];exact hp,by simpa using hs,by simp⟩,by rw[hMi];exact ha,r0,r1,r2,r6,r6⟩
  rw[r6,r2] at Mc
  refine dn J ?_ i Mc
  rintro j ρ H ⟨A,x,B,C,hA,hAB,hI,ha,r0,r1,r2,r6,r7⟩
  have hc:=ha.cell
  have hlen:=hI.perm.length_eq
  simp only[List.length_append,List.length_cons] at hlen
  have hn9:b<H.next:=by have:=ha.next;omega
  have Vi:=ha.clean (n:=15) hb
  have fin:(A++x::B).Pairwise (· <= ·)-> ∀{ρ':Env},ρ' 0= .rs b 0 L.length 1->ρ' 1= .int .i64 0->ρ' 2= .int .i64 L.length->ρ' 6= .int .i64 ((i+1:Nat):Int)-> ∃m,m<n/\I m ρ' (H.clean 15):=by
   intro hpw ρ' q0 q1 q2 q6
   refine⟨L.length+1-(i+1),by omega,i+1,A++x::(B++C),rfl,by omega,hI.perm,?_,Vi,q0,q1,q2,q6⟩
   have:(A++x::(B++C)).take (i+1)=A++x::B:=by
    rw[show A++x::(B++C)=(A++x::B)++C by simp,qe (by simp;omega)]
   rw[this];exact hpw
  simp+decide only[st,xv]
  refine bJ 15 rfl rfl ?_
  rcases List.eq_nil_or_concat A with rfl|⟨A',y,rfl⟩
  ·have:j=0:=by simpa using hA.symm
   subst this
   simp+decide only[st,xv,pH,QG,Dz,r0,r1,r2,r6,r7,hw]
   exact fin (hI.fin (by simp)) r0 r1 r2 rfl
  ·have uw:j=A'.length+1:=by simpa using hA.symm
   have hjp:(0:Int)<(j:Int):=by omega
   have dO:(j:Int)<(L.length:Int):=by omega
   have oJ:IntKind.wrap .i64 ((j:Int)-1)=(A'.length:Int):=by rw[bw]<;>omega
   have WM:(A'.length:Int)<(L.length:Int):=by omega
   have g1:(eH ((A'.concat y)++x::(B++C)))[j]? =some (.int .u64 x):=by rw[<-hA];exact aaj
   have g2:(eH ((A'.concat y)++x::(B++C)))[A'.length]? =some (.int .u64 y):=by rw[List.concat_append];exact aaj
   simp+decide only[st,xv,pH,QG,r0,r1,r2,r6,r7,oJ,hjp,dO,WM,hc,hn9,g1,g2,Nat.mul_one]
   refine fA (ala ok) (fun k h1 h2=>by simp only[aa.clean];exact if_neg (by omega)) ?_
   by_cases wh:x<y
   ·have awL:=Vi.cell
    have g0:(A'.concat y)++x::(B++C)=(A'++[y])++x::(B++C):=by simp
    have g5:List.take j (eH ((A'.concat y)++x::(B++C)))++[.int .u64 y]++List.drop (j+1) (eH ((A'.concat y)++x::(B++C)))=eH (A'++y::(y::(B++C))):=by
     rw[g0];unfold eH;rw[Zx,aao (by simp[uw])];simp
    have g6:List.take A'.length (eH (A'++y::(y::(B++C))))++[.int .u64 x]++List.drop (A'.length+1) (eH (A'++y::(y::(B++C))))=eH (A'++x::(y::(B++C))):=by unfold eH;rw[Zx,aao (by simp)];simp
    have g7:j+1<=(eH ((A'.concat y)++x::(B++C))).length:=by rw[Cp];simp;omega
    have g8:A'.length+1<=(eH (A'++y::(y::(B++C)))).length:=by rw[Cp];simp
    have Vg:b<H.next+15:=by omega
    simp+decide only[st,xv,pH,IM,DA,IL,QF,QE,Dz,wh]
    refine bJ 18 rfl rfl ?_
    simp+decide only[st,xv,pH,IM,DA,IL,QF,QE,Dz,r0,r1,r2,r6,r7,oJ,hjp,dO,WM,awL,Vg,g1,g2,g5,g6,g7,g8,Nat.mul_one]
    have fr:=fun i=>(jD (n:=18) (i:=i) (h:=(H.clean 15).clean 18) (x:=some (.cells (eH (A'++y::y::(B++C))))) Vg).2 (dp (h:=H.clean 15) (by simp[aa.clean]))
    refine⟨fr _,(jD Vg).2 (fr _),A'.length,by omega,A',x,y::B,C,rfl,by simp;omega,zd.step (by simpa using hI) wh,((Vi.clean hb).trans fl.set).trans fl.set,r0,r1,r2,r6,rfl⟩
   ·simp+decide only[st,xv,pH,Dz,wh,r6,hw]
    exact fin (hI.fin (by simp;omega)) r0 r1 r2 rfl
 ·have aB: ¬(i:Int)<(L.length:Int):=by omega
  simp+decide only[st,xv,pH,DA,r6,r2,aB]
  refine⟨rfl,M,hp,?_,ha⟩
  rwa [List.take_of_length_le (by omega)] at hs
def aw9 (tb:fk) (fuel f:Nat) (k k':IntKind) (n:Nat):Bool:=(List.range n).all fun x=>match vf tb (runK tb fuel) f [.int k x] ⟨.leaf,0⟩ (fun v _=>some v) with
 |some (.int k2 _)=>k2==k'
 |_=>false
theorem aoQ {T:fk} (ok:ax P T) {fuel f:Nat} {k k':IntKind} {n:Nat} (hc:aw9 T fuel f k k' n=true) {x:Nat} (hx:x<n) (h:aa): ∃y,an P f [.int k x] h (.int k' y) h:=by
 have h1:=List.all_eq_true.1 hc x (List.mem_range.2 hx)
 split at h1
 ·rename_i k2 y hv
  have:k2=k':=by simpa using h1
  subst this
  exact⟨y,Yk ok hv rfl rfl h⟩
 ·cases h1
theorem akT (ok:ax P tb) {b:Nat} {L:List Nat} (hb:b<h.next) (hc:cellsOf h b=some (eH L)) (hl:L.length<=12):
 ∃h',an P 44 [.rs b 0 L.length 1] h (.az []) h'/\ ∃M,M.Perm L/\M.Pairwise (· <= ·)/\fl b h h' (eH M):=by
 refine ok.dz (rf:=y4) rfl (Nat.le_of_ble_eq_true rfl) ?_
 have hw:IntKind.wrap .u64 (L.length:Int)=L.length:=fC (by omega)
 obtain⟨y,hy⟩:=aoQ ok (fuel:=200) (f:=76) (k:= .u64) (k':= .i64) (n:=13) (by decide+kernel) (show L.length<13 by omega) h
 have hp: ∃h',an P 75 [.rs b 0 L.length 1, .int .i64 0, .int .i64 L.length, .int .i64 y] h (.az []) h'/\ ∃M,M.Perm L/\M.Pairwise (· <= ·)/\fl b h h' (eH M):=by
  refine ok.dz (rf:=y3) rfl (Nat.le_of_ble_eq_true rfl) ?_
  have w1:IntKind.wrap .i64 ((L.length:Int)-0)=L.length:=by rw[bw]<;>omega
  have f0:(L.length:Int)<=12:=by omega
  obtain⟨h',c1,hM⟩:=aup ok hb hc (by omega)
  simp+decide only[st,xv,y3,afj,afi]
  refine zr ?_
  simp+decide only[st,xv,y3,afh,afg,Sb,w1,f0]
  refine aq c1 ?_
  simp+decide only[st,xv,y3,Sb]
  exact⟨rfl,hM⟩
 obtain⟨h',c1,hM⟩:=hp
 simp+decide only[st,xv,y4,agM,J2,hw]
 refine aq hy ?_
 simp+decide only[st,xv,y4,J2]
 refine aq c1 ?_
 simp+decide only[st,xv,y4,J2]
 exact⟨rfl,hM⟩
end
section
open Go
variable {P:Program} {h:aa} {ab mb lb cA:Nat} {S:List Sl} {es:List (Nat×Nat)}
theorem axe (ok:ax P tb) {v:Nat}: ∃h',an P 34 [.int .u8 v] h (.ptr (h.next+1) 0) h'/\eh h' (h.next+1) h.next (h.next+2) v [] []/\h'.next=h.next+2/\Old h h':=by
 refine ok.dz (rf:=GJ) rfl (Nat.le_of_ble_eq_true rfl) ?_
 simp+decide only[st,xv,GJ,ahg,ahf]
 refine⟨rfl,⟨⟨_,by simp only[aa.at,if_true], .inl ⟨rfl,rfl⟩⟩,by simp[aa.at,k9],by simp[aa.at],by simp[aa.at];omega,by omega,by simp⟩,by simp[aa.at],((Old.refl h).at (Nat.le_refl _)).at (by omega)⟩
def tM (S:List Sl) (es:List (Nat×Nat)) (id:Nat):List Sl×List (Nat×Nat):=match cD es id,og es id with
 |some i,some j=>(S.set i ⟨none,(S.getD i ⟨none,0⟩).cu⟩,es.eraseIdx j)
 |_,_=>(S,es)
theorem avB (ok:ax P tb) (A:eh h ab mb lb cA S es) {id:Nat} (hk: ∀i,cD es id=some i->i<S.length):
 ∃e h',an P 148 [.ptr ab 0, .int .u64 id] h (.int .i64 e) h'/\eh h' ab mb lb cA (tM S es id).1 (tM S es id).2/\jC h h' ab mb lb:=by
 have ee:=NH A.map (id:=id) (b:=true)
 cases hn:cD es id with
 |none=>
  refine⟨7,ok.dz (rf:=qI) rfl (Nat.le_of_ble_eq_true rfl) ?_⟩
  simp+decide only[st,xv,qI,PY,Dc]
  refine aq (UL ok A) ?_
  rw[hn]
  simp+decide only[st,xv,qI,Dc,PX,PW,XD]
  refine⟨rfl,?_, .refl⟩
  unfold tM
  rw[hn];exact A
 |some i=>
  refine⟨0,ok.dz (rf:=qI) rfl (Nat.le_of_ble_eq_true rfl) ?_⟩
  have hi:=hk i hn
  have hS:S≠[]:=fun e=>by rw[e] at hi;simp at hi
  obtain⟨t1,e2,e3,e4,e5⟩:=A.AS hS
  have l1:=A.l1
  have l2:=A.l2
  have c1:=av t1
  have c2:=av e2
  have aB:(i:Int)<(S.length:Int):=by omega
  have rows:(S.map Sl.enc)[i]? =some S[i].enc:=by rw[List.getElem?_map,List.getElem?_eq_getElem hi];rfl
  have g3:=wT (sz:=4) (j:=3) rO rows (by omega)
  rw[Sl.trn] at g3
  have hlen:(S.map Sl.enc).flatten.length=S.length*4:=by rw[jE rO,List.length_map]
  have hle:i*4+4<=S.length*4:=by omega
  have mo:=Ho (sz:=4) (S.map Sl.enc) rO i (Sl.enc ⟨none,S[i].cu⟩) (by simpa using hi) rfl
  rw[<-List.map_set] at mo
  obtain⟨j,hj⟩: ∃j,og es id=some j:=by
   rw[G8] at hn
   cases hq:og es id with
   |none=>rw[hq] at hn;cases hn
   |some j=>exact⟨j,rfl⟩
  have hmd:=ant hj
  have mA:mapOf h mb=some (k9 es):=by simp[mapOf,A.map]
  simp+decide only[st,xv,qI,PY,Dc]
  refine aq (UL ok A) ?_
  rw[hn]
  simp+decide only[st,xv,qI,Dc,PX]
  refine bJ 16 rfl rfl ?_
  simp+decide only[st,xv,qI,acE,c1,c2,l1,e3,aB,g3]
  rw[show List.take (i*4) (List.map Sl.enc S).flatten++[AV.int IntKind.u64 0,AV.vs [] .full,AV.bool false,AV.int IntKind.i64 S[i].cu]++List.drop (i*4+(1+1+1+1)) (List.map Sl.enc S).flatten=_ from mo.symm]
  have nb: ¬ab=lb:=fun e=>e4 e.symm
  have nm: ¬mb=lb:=fun e=>e5 e.symm
  simp+decide only[st,xv,qI,acD,PW,hlen,hle,c1,l1,nb,nm,mA,l2,hmd,XD]
  have Wr:tM S es id=(S.set i ⟨none,S[i].cu⟩,es.eraseIdx j):=by
   unfold tM
   rw[hn,hj]
   simp only[List.getD_eq_getElem?_getD,List.getElem?_eq_getElem hi,Option.getD_some]
  refine⟨(jD e3).2 (dp (Nat.le_refl _)),rfl,?_,?_,fun b hb h1 h2 h3=>?_⟩
  ·rw[Wr];exact(A.clean.aiC hS (by simp)).aiD
  ·simp[aa.set,aa.clean]
  ·simp only[aa.set,aa.clean]
   rw[if_neg h2,if_neg h3]
   exact if_pos hb
def jb (S:List Sl):List Nat:=S.filterMap fun s=>s.r.map (·.1)
theorem am7 {S:List Sl}:(jb S).length<=S.length:=List.length_filterMap_le _ _
def zf (h H:aa) (v:AV) (l:List Nat):Prop:=(l=[]/\v= .vs [] .full)\/ ∃b,l≠[]/\v= .rs b 0 l.length 1/\cellsOf H b=some (eH l)/\h.next<=b/\b<H.next
theorem zf.app {h H:aa} {v:AV} {l:List Nat} (g:zf h H v l) (ho:h.next<=H.next) (x:Nat) (hl:l.length<2^20): ∃v' H',fp 8 1 H.next H v (some [[.int .u64 x]])=some (v',H')/\zf h H' v' (l++[x])/\H.next<=H'.next/\ ∀b,b<h.next->H'.get b=H.get b:=by
 rcases g with⟨rfl,rfl⟩|⟨b,h0,rfl,hc,h1,h2⟩
 ·refine⟨_,_,by simp only[fp,List.length_singleton,List.cons_ne_nil,if_false];rfl, .inr ⟨H.next,by simp,rfl,av (by simp[aa.at,eH]),ho,by simp[aa.at]⟩,by simp[aa.at],fun b hb=>by simp only[aa.at];rw[if_neg (by omega)]⟩
 ·have hlen:=Cp (l:=l)
  refine⟨.rs H.next 0 (l.length+1) 1,(H.set b none).at H.next (.cells (eH (l++[x]))),?_, .inr ⟨H.next,by simp,by simp,av (by simp[aa.at]),ho,by simp[aa.at];omega⟩,by simp[aa.at,aa.set],fun c hb=>by simp only[aa.at,aa.set];rw[if_neg (by omega),if_neg (by omega)]⟩
  simp only[fp,hc,Option.bind_some,List.length_singleton,List.cons_ne_nil,if_false]
  rw[if_pos (by refine⟨trivial,trivial,?_,?_,?_⟩<;>omega),List.take_of_length_le (by omega)]
  simp[eH]
theorem zf.to {h H X:aa} {v:AV} {l:List Nat} (g:zf h H v l) (o:Old H X):zf h X v l:=by
 rcases g with g|⟨b,h0,h1,hc,h2,h3⟩
 ·exact .inl g
 ·refine .inr ⟨b,h0,h1,?_,h2,Nat.lt_of_lt_of_le h3 o.next⟩
  unfold cellsOf at hc ⊢
  rw[o.get b h3];exact hc
def yb (x:Nat):List Nat->List Nat
 |[]=>[x]
 |y::l=>if x<=y then x::y::l else y::yb x l
def qv:List Nat->List Nat
 |[]=>[]
 |x::l=>yb x (qv l)
theorem M5 {x:Nat}: ∀{l:List Nat},(yb x l).Perm (x::l)
 |[]=> .refl _
 |y::l=>by
  unfold yb
  split
  ·exact .refl _
  ·exact(M5.cons y).trans (.swap ..)
theorem Ch: ∀{l:List Nat},(qv l).Perm l
 |[]=> .refl _
 |x::l=>M5.trans (Ch.cons x)
theorem ZL {x:Nat}: ∀{l:List Nat},l.Pairwise (· <= ·)->(yb x l).Pairwise (· <= ·)
 |[],_=>by simp[yb]
 |y::l,h=>by
  have h':=List.pairwise_cons.1 h
  unfold yb
  split
  ·refine List.pairwise_cons.2 ⟨fun z hz=>?_,h⟩
   rcases List.mem_cons.1 hz with rfl|hz
   ·assumption
   ·have:=h'.1 z hz;omega
  ·refine List.pairwise_cons.2 ⟨fun z hz=>?_,ZL h'.2⟩
   rcases List.mem_cons.1 (M5.mem_iff.1 hz) with rfl|hz
   ·omega
   ·exact h'.1 z hz
theorem M4: ∀{l:List Nat},(qv l).Pairwise (· <= ·)
 |[]=>by simp[qv]
 |x::l=>ZL M4
theorem Nh: ∀{l m:List Nat},l.Pairwise (· <= ·)->m.Pairwise (· <= ·)->l.Perm m->l=m
 |[],m,_,_,hp=>(List.Perm.nil_eq hp)
 |x::l,[],_,_,hp=>absurd hp.length_eq (by simp)
 |x::l,y::m,hl,hm,hp=>by
  have h1:=List.pairwise_cons.1 hl
  have h2:=List.pairwise_cons.1 hm
  have wh:x=y:=by
   have hx:x∈y::m:=hp.mem_iff.1 (by simp)
   have hy:y∈x::l:=hp.mem_iff.2 (by simp)
   rcases List.mem_cons.1 hx with e|hx
   ·exact e
   rcases List.mem_cons.1 hy with e|hy
   ·exact e.symm
   have:=h1.1 y hy
   have:=h2.1 x hx
   omega
  subst wh
  rw[Nh h1.2 h2.2 (List.perm_cons x |>.1 hp)]
theorem Yr: ∀{l:List Nat},rowsOf (eH l) 0 1 l.length=(ay .u64).R l
 |[]=>rfl
 |x::l=>by
  have ih:=Yr (l:=l)
  have hc:eH (x::l)=[AV.int .u64 x]++eH l:=rfl
  rw[List.length_cons,rowsOf,hc,show 0+1=[AV.int .u64 (x:Nat)].length+0 by rfl,Cg (by rw[Cp];omega),ih];rfl
theorem alV {p:Nat->Bool} {M:List Nat}:(AV.vs ((ay .u64).R M) .ao).bB p=true:=ba.lV _
theorem YW {S:List Sl} {i:Nat} (hi:i<S.length):jb (S.take (i+1))=jb (S.take i)++(match S[i].r with|some r=>[r.1]|none=>[]):=by
 rw[<-List.take_append_getElem hi,jb,jb,List.filterMap_append]
 congr 1
 cases hr:S[i].r<;>simp[hr]
theorem axf (ok:ax P tb) (A:eh h ab mb lb cA S es) (h0:jb S≠[]) (f0:(jb S).length<=12):
 an P 31 [.ptr ab 0] h (.vs ((ay .u64).R (qv (jb S))) .ao) h:=by
 obtain⟨lv,t1,q1,q2,mX⟩:=A.mX
 have l1:=A.l1
 have hc:=av t1
 have yM:=A.small
 have hlen:gI lv=some S.length:=by rw[(mX h rfl).len,List.length_map]
 refine ok.N8 (rf:=tp) rfl (Nat.le_of_ble_eq_true rfl) (ba.lV _) ?_
 simp+decide only[st,xv,tp,aht,ahs,ahr,ahq,hc,hlen]
 let I:Nat->Env->aa->Prop:=fun n ρ H=> ∃i,S.length=i+n/\Old h H/\zf h H (ρ 3) (jb (S.take i))/\ρ 11=lv/\ρ 12= .int .i64 S.length/\ρ 13= .int .i64 i
 refine dn I ?_ S.length ⟨0,by omega,Old.refl h, .inl ⟨by simp[jb],rfl⟩,rfl,rfl,rfl⟩
 rintro n ρ H ⟨i,aE,ho,hg,eU,fX,eJ⟩
 have wt:=ho.next
 have m7:S≠[]->H.get lb=h.get lb:=fun hS=>ho.get _ (A.AS hS).2.2.1
 by_cases hi:i<S.length
 ·have aB:(i:Int)<(S.length:Int):=by omega
  have hw:=cT (show i<2^61 by omega)
  obtain⟨p,g1,g2⟩:=(mX H (m7 (fun e=>by rw[e] at hi;simp at hi))).get i (by rw[List.length_map];exact hi)
  rw[List.getElem_map] at g2
  have e4:S[i].enc.length=4:=Sl.len
  have st4:dq [AV.int .u64 0, .vs [] .full, .bool false, .int .i64 0] 0 S[i].enc=S[i].enc:=al3 e4.symm
  simp+decide only[st,xv,tp,TZ,ahp,eU,fX,eJ,aB,g1,g2,Sl.adY,e4]
  generalize hX:aa.set _ _ _=X
  have xo:Old H X:=by rw[<-hX];exact((Old.refl H).at (Nat.le_refl _)).set (Nat.le_refl _)
  have xc:cellsOf X H.next=some S[i].enc:=by rw[<-hX];exact av (by simp[aa.set])
  have xn:=xo.next
  have tk:=Sl.taken (s:=S[i])
  cases hr:S[i].r with
  |none=>
   rw[hr] at tk
   simp+decide only[st,xv,tp,TY,TX,xc,tk,eJ,hw,Option.isSome_none]
   refine⟨n-1,by omega,i+1,by omega,ho.trans xo,?_,eU,fX,rfl⟩
   rw[YW hi,hr,List.append_nil]
   exact hg.to xo
  |some r=>
   rw[hr] at tk
   have aL:S[i].enc[0]? =some (.int .u64 r.1):=by simp[Sl.enc,hr]
   have pP:=am7 (S:=S.take i)
   obtain⟨v',H',ha,cF,gQ,ed⟩:=(hg.to xo).app (Nat.le_trans wt xn) r.1 (by rw[List.length_take] at pP;omega)
   simp+decide only[st,xv,tp,TY,aho,TX,xc,tk,eJ,hw,Option.isSome_some,aL,zg,ha,xr]
   refine⟨n-1,by omega,i+1,by omega,⟨by omega,fun b hb=>by rw[ed b hb,xo.get b (by omega),ho.get b hb]⟩,?_,eU,fX,rfl⟩
   rw[YW hi,hr]
   exact cF
 ·have aB: ¬(i:Int)<(S.length:Int):=by omega
  rw[List.take_of_length_le (by omega)] at hg
  rcases hg with⟨e,_⟩|⟨b,_,r3,jk,ef,bY⟩
  ·exact absurd e h0
  obtain⟨H',c1,M,hM,hMs,ha⟩:=akT ok bY jk f0
  have hMM:M=qv (jb S):=Nh hMs M4 (hM.trans Ch.symm)
  simp+decide only[st,xv,tp,TZ,OS,fX,eJ,r3,aB]
  refine aq c1 ?_
  simp+decide only[st,xv,tp,OS,abM,r3,Hb]
  have lE:=ha.cell
  rw[hMM] at lE
  subst hMM
  have wu:(qv (jb S)).length=(jb S).length:=Ch.length_eq
  have pU:AV.eK b (eH (qv (jb S))) (.rs b 0 (jb S).length 1)= .vs ((ay .u64).R (qv (jb S))) .ao:=by
   unfold AV.eK
   rw[if_pos rfl,if_pos (by rw[Cp];omega),<-wu,Yr]
  refine⟨_,b,eH (qv (jb S)),rfl,?_,ef,?_,?_,fun x hx=>?_⟩
  ·revert lE;unfold cellsOf;split
   ·rename_i e;intro hh;cases hh;exact e
   ·intro hh;cases hh
  ·rw[pU];exact alV
  ·rw[pU];exact ba.lR _
  ·rw[ha.old x (by omega) (by omega)];exact ho.get x hx
structure axh (S:List Sl) (es:List (Nat×Nat)) (B:Nat):Prop where
 rc: ∀id i,cD es id=some i-> ∃rec cu,S[i]? =some ⟨some (id,rec),cu⟩/\rec.length<B
 idx: ∀id i rec cu,S[i]? =some ⟨some (id,rec),cu⟩->cD es id=some i
 id: ∀id i,cD es id=some i->id<2^64
end
section
open Go
variable {P:Program} {h:aa} {ab mb lb cA:Nat} {S:List Sl} {es:List (Nat×Nat)}
structure kZ (S:List Sl) (es:List (Nat×Nat)) (f:Nat->Option (List UInt8)):Prop where
 k:axh S es 1000
 f: ∀id,f id=((cD es id).bind fun i=>(S[i]?).bind (·.r)).map (·.2)
 keys:(es.map (·.1)).Nodup
theorem getElem?_lt {α:Type} {l:List α} {i:Nat} {a:α} (h:l[i]? =some a):i<l.length:=by
 rcases Nat.lt_or_ge i l.length with hh|hh
 ·exact hh
 ·rw[List.getElem?_eq_none hh] at h;cases h
theorem kZ.lt {f} (R:kZ S es f) {id i:Nat} (hn:cD es id=some i):i<S.length:=by
 obtain⟨rec,cu,h1,_⟩:=R.k.rc id i hn
 exact getElem?_lt h1
theorem kZ.sm {f} (R:kZ S es f) {id:Nat} {rec:List UInt8} (hf:f id=some rec): ∃i cu,cD es id=some i/\S[i]? =some ⟨some (id,rec),cu⟩/\rec.length<1000:=by
 rw[R.f] at hf
 cases hn:cD es id with
 |none=>rw[hn] at hf;cases hf
 |some i=>
  obtain⟨axy,cu,h1,h2⟩:=R.k.rc id i hn
  rw[hn,Option.bind_some,h1] at hf
  simp at hf;subst hf
  exact⟨i,cu,rfl,h1,h2⟩
theorem kZ.of {f} (R:kZ S es f) {id i:Nat} {rec:List UInt8} {cu:Int} (h1:S[i]? =some ⟨some (id,rec),cu⟩):f id=some rec/\cD es id=some i:=by
 have hn:=R.k.idx _ _ _ _ h1
 exact⟨by rw[R.f,hn,Option.bind_some,h1];rfl,hn⟩
theorem kZ.mem {f} (R:kZ S es f) {id:Nat}:id∈jb S↔(f id).isSome=true:=by
 constructor
 ·intro aL
  obtain⟨s,hs,hr⟩:=List.mem_filterMap.1 aL
  obtain⟨i,hi⟩:=List.mem_iff_getElem?.1 hs
  obtain⟨⟨sN,rec⟩,Bw,uo⟩:=Option.map_eq_some_iff.1 hr
  simp only at uo;subst uo
  have Wq:S[i]? =some ⟨some (sN,rec),s.cu⟩:=by rw[hi];cases s;simp_all
  rw[(R.of Wq).1];rfl
 ·intro hf
  obtain⟨rec,hf⟩:=Option.isSome_iff_exists.1 hf
  obtain⟨i,cu,_,h1,_⟩:=R.sm hf
  exact List.mem_filterMap.2 ⟨_,List.mem_of_getElem? h1,rfl⟩
theorem akU {f} (R:kZ S es f):(jb S).Nodup:=by
 unfold jb List.Nodup
 rw[List.pairwise_filterMap]
 refine List.pairwise_iff_getElem.2 fun i j hi hj oO a ha b hb=>?_
 obtain⟨⟨ia,ra⟩,h1,h2⟩:=Option.map_eq_some_iff.1 ha
 obtain⟨⟨ib,rb⟩,h3,h4⟩:=Option.map_eq_some_iff.1 hb
 simp only at h2 h4;subst h2;subst h4
 intro e;subst e
 have e1:S[i]? =some ⟨some (ia,ra),S[i].cu⟩:=by rw[List.getElem?_eq_getElem hi,<-h1]
 have e2:S[j]? =some ⟨some (ia,rb),S[j].cu⟩:=by rw[List.getElem?_eq_getElem hj,<-h3]
 have:=(R.of e1).2.symm.trans (R.of e2).2
 cases this;omega
theorem aqU {f} (R:kZ S es f) {l:List Nat} (hl:l.Pairwise (· < ·)) (hm: ∀id,id∈l↔(f id).isSome=true):qv (jb S)=l:=by
 refine Nh M4 (hl.imp (fun h=>Nat.le_of_lt h)) (Ch.trans ?_)
 refine(List.perm_ext_iff_of_nodup (akU R) (hl.imp (fun h=>Nat.ne_of_lt h))).2 fun id=>?_
 rw[R.mem,hm]
def jc (f:Nat->Option (List UInt8)) (id:Nat) (r:Option (List UInt8)):Nat->Option (List UInt8):=fun x=>if x=id then r else f x
theorem G9 {id x i:Nat} (hn:cD es id=none):cD (es++[(id,i)]) x=if x=id then some i else cD es x:=by
 unfold cD at*
 rw[List.find?_append]
 by_cases h:x=id
 ·subst h
  rw[if_pos rfl]
  rw[Option.map_eq_none_iff] at hn
  rw[hn];simp
 ·rw[if_neg h]
  simp[h]
theorem YA {id:Nat} (hn:cD es id=none):id∉es.map (·.1):=by
 intro hm
 obtain⟨e,he,rfl⟩:=List.mem_map.1 hm
 unfold cD at hn
 rw[Option.map_eq_none_iff,List.find?_eq_none] at hn
 exact hn e he (by simp)
theorem G7 {id i:Nat} (hn:cD es id=some i):(id,i)∈es:=by
 unfold cD at hn
 obtain⟨e,he,rfl⟩:=Option.map_eq_some_iff.1 hn
 have h1:=List.find?_some he
 have h2:=List.mem_of_find?_eq_some he
 have:id=e.1:=by simpa using h1
 subst this;exact h2
theorem ZM {id i:Nat} (hk:(es.map (·.1)).Nodup) (hm:(id,i)∈es):cD es id=some i:=by
 cases hq:cD es id with
 |none=>exact absurd (List.mem_map.2 ⟨_,hm,rfl⟩) (YA hq)
 |some j=>
  have hj:=G7 hq
  obtain⟨a,ha,e1⟩:=List.getElem_of_mem hm
  obtain⟨b,hb,e2⟩:=List.getElem_of_mem hj
  have:=Cm hk (i:=a) (j:=b) (by simpa using ha) (by simpa using hb) (by simp[e1,e2])
  subst this
  rw[e1] at e2;cases e2;rfl
theorem Hz {i:Nat} {r:Nat×List UInt8} {cu:Int}:(iE S).2[i]? =some ⟨some r,cu⟩↔S[i]? =some ⟨some r,cu⟩:=by
 unfold iE
 cases xG S with
 |some k=>exact Iff.rfl
 |none=>
  simp only
  by_cases h:i<S.length
  ·rw[List.getElem?_append_left h]
  ·rw[List.getElem?_append_right (by omega),List.getElem?_eq_none (l:=S) (by omega)]
   cases hk:i-S.length with
   |zero=>simp
   |succ n=>simp
theorem am8: ∃cu,(iE S).2[(iE S).1]? =some ⟨none,cu⟩:=by
 unfold iE
 cases hq:xG S with
 |none=>exact⟨0,by simp⟩
 |some k=>
  obtain⟨hk,h1,_⟩:=List.findIdx?_eq_some_iff_getElem.1 hq
  refine⟨S[k].cu,?_⟩
  rw[List.getElem?_eq_getElem hk]
  cases hs:S[k] with
  |mk r cu=>rw[hs] at h1;cases r<;>simp_all
theorem kZ.put {f} (R:kZ S es f) {id:Nat} {rec:List UInt8} (aL:id<2^64) (hr:rec.length<1000):kZ (mc S es id rec).1 (mc S es id rec).2 (jc f id (some rec)):=by
 unfold mc
 cases hn:cD es id with
 |some i=>
  have hi:=R.lt hn
  obtain⟨r0,t0,h0,_⟩:=R.k.rc id i hn
  have key: ∀{x j:Nat},cD es x=some j->(j=i↔x=id):=by
   intro x j hx
   constructor
   ·intro e;subst e
    obtain⟨r1,t1,h1,_⟩:=R.k.rc x j hx
    rw[h0] at h1;cases h1;rfl
   ·intro e;subst e
    rw[hn] at hx;cases hx;rfl
  simp only
  generalize(AQ (S.getD i ⟨none,0⟩).cu)=T
  refine⟨⟨fun x j hx=>?_,fun x j r t hx=>?_,R.k.id⟩,fun x=>?_,R.keys⟩
  ·by_cases e:j=i
   ·obtain rfl:=(key hx).1 e
    subst e
    exact⟨rec,T,by simp[hi],hr⟩
   ·obtain⟨r1,t1,h1,h2⟩:=R.k.rc x j hx
    exact⟨r1,t1,by rw[List.getElem?_set_ne (Ne.symm e),h1],h2⟩
  ·by_cases e:i=j
   ·subst e
    rw[List.getElem?_set_self hi] at hx
    cases hx;exact hn
   ·rw[List.getElem?_set_ne e] at hx
    exact R.k.idx x j r t hx
  ·unfold jc
   by_cases e:x=id
   ·subst e
    rw[if_pos rfl,hn,Option.bind_some,List.getElem?_set_self hi];rfl
   ·rw[if_neg e,R.f]
    cases hx:cD es x with
    |none=>rfl
    |some j=>
     have: ¬i=j:=fun h=>e ((key hx).1 h.symm)
     rw[Option.bind_some,Option.bind_some,List.getElem?_set_ne this]
 |none=>
  obtain⟨tf,hf⟩:=am8 (S:=S)
  have bH:=(CL (S:=S)).1
  generalize(AQ ((iE S).2.getD (iE S).1 ⟨none,0⟩).cu)=T
  simp only
  have ne: ∀{x j:Nat},cD es x=some j-> ¬(iE S).1=j:=by
   intro x j hx e
   obtain⟨r1,t1,h1,_⟩:=R.k.rc x j hx
   rw[<-Hz,<-e,hf] at h1
   cases h1
  refine⟨⟨fun x j hx=>?_,fun x j r t hx=>?_,fun x j hx=>?_⟩,fun x=>?_,?_⟩
  ·rw[G9 hn] at hx
   split at hx
   ·rename_i e;cases hx;subst e
    exact⟨rec,T,by simp[bH],hr⟩
   ·obtain⟨r1,t1,h1,h2⟩:=R.k.rc x j hx
    exact⟨r1,t1,by rw[List.getElem?_set_ne (ne hx),Hz,h1],h2⟩
  ·rw[G9 hn]
   by_cases e:(iE S).1=j
   ·subst e
    rw[List.getElem?_set_self bH] at hx
    cases hx;rw[if_pos rfl]
   ·rw[List.getElem?_set_ne e,Hz] at hx
    have:=R.k.idx x j r t hx
    rw[if_neg (fun h=>by rw[h,hn] at this;cases this)];exact this
  ·rw[G9 hn] at hx
   split at hx
   ·rename_i e;subst e;exact aL
   ·exact R.k.id x j hx
  ·unfold jc
   rw[G9 hn]
   by_cases e:x=id
   ·rw[if_pos e,if_pos e,Option.bind_some,List.getElem?_set_self bH];rfl
   ·rw[if_neg e,if_neg e,R.f]
    cases hx:cD es x with
    |none=>rfl
    |some j=>
     obtain⟨r1,t1,h1,_⟩:=R.k.rc x j hx
     rw[Option.bind_some,Option.bind_some,List.getElem?_set_ne (ne hx),h1,Hz.2 h1]
  ·rw[List.map_append,List.nodup_append]
   refine⟨R.keys,by simp,fun a ha b hb=>?_⟩
   have:b=id:=by simpa using hb
   subst this
   intro e;subst e
   exact YA hn ha
theorem kZ.drop {f} (R:kZ S es f) {id:Nat}:kZ (tM S es id).1 (tM S es id).2 (jc f id none):=by
 unfold tM
 cases hn:cD es id with
 |none=>
  refine⟨R.k,fun x=>?_,R.keys⟩
  unfold jc
  by_cases e:x=id
  ·rw[if_pos e,e,hn];rfl
  ·rw[if_neg e,R.f]
 |some i=>
  obtain⟨j,hj⟩: ∃j,og es id=some j:=by
   rw[G8] at hn
   cases hq:og es id with
   |none=>rw[hq] at hn;cases hn
   |some j=>exact⟨j,rfl⟩
  have hi:=R.lt hn
  obtain⟨r0,t0,h0,_⟩:=R.k.rc id i hn
  rw[hj]
  simp only
  generalize(S.getD i ⟨none,0⟩).cu=T
  obtain⟨dO,uw,pS⟩:=List.findIdx?_eq_some_iff_getElem.1 hj
  have U6:id=es[j].1:=by simpa using uw
  have fe: ∀x,cD (es.eraseIdx j) x=if x=id then none else cD es x:=by
   intro x
   by_cases e:x=id
   ·rw[if_pos e]
    cases hq:cD (es.eraseIdx j) x with
    |none=>rfl
    |some k=>
     exfalso
     subst e
     obtain⟨a,ha,aM,ea⟩:=List.mem_eraseIdx_iff_getElem.1 (G7 hq)
     exact aM (Cm R.keys (i:=a) (j:=j) (by simpa using ha) (by simpa using dO) (by simp[ea,<-U6]))
   ·rw[if_neg e]
    cases hq:cD es x with
    |none=>
     cases wo:cD (es.eraseIdx j) x with
     |none=>rfl
     |some k=>
      have:=ZM R.keys (List.mem_of_mem_eraseIdx (G7 wo))
      rw[hq] at this;cases this
    |some k=>
     refine ZM ((R.keys).sublist (List.Sublist.map _ (List.eraseIdx_sublist ..))) ?_
     obtain⟨a,ha,ea⟩:=List.getElem_of_mem (G7 hq)
     refine List.mem_eraseIdx_iff_getElem.2 ⟨a,ha,fun h=>?_,ea⟩
     subst h
     rw[ea] at U6
     exact e U6.symm
  have key: ∀{x k:Nat},cD es x=some k->x≠id-> ¬i=k:=by
   intro x k hx e he
   subst he
   obtain⟨r1,t1,h1,_⟩:=R.k.rc x i hx
   rw[h0] at h1;cases h1;exact e rfl
  refine⟨⟨fun x k hx=>?_,fun x k r t hx=>?_,fun x k hx=>?_⟩,fun x=>?_,(R.keys).sublist (List.Sublist.map _ (List.eraseIdx_sublist ..))⟩
  ·rw[fe] at hx
   split at hx
   ·cases hx
   ·rename_i e
    obtain⟨r1,t1,h1,h2⟩:=R.k.rc x k hx
    exact⟨r1,t1,by rw[List.getElem?_set_ne (key hx e),h1],h2⟩
  ·rw[fe]
   by_cases e:i=k
   ·subst e
    rw[List.getElem?_set_self hi] at hx;cases hx
   ·rw[List.getElem?_set_ne e] at hx
    have:=R.k.idx x k r t hx
    rw[if_neg ?_]
    ·exact this
    ·intro h;subst h;rw[hn] at this;cases this;exact e rfl
  ·rw[fe] at hx
   split at hx
   ·cases hx
   ·exact R.k.id x k hx
  ·unfold jc
   rw[fe]
   by_cases e:x=id
   ·rw[if_pos e,if_pos e];rfl
   ·rw[if_neg e,if_neg e,R.f]
    cases hx:cD es x with
    |none=>rfl
    |some k=>rw[Option.bind_some,Option.bind_some,List.getElem?_set_ne (key hx e)]
end
section
open Go
variable {P:Program} {h:aa}
def AA (h:aa) (ab mb lb cA N:Nat) (f:Nat->Option (List UInt8)):Prop:= ∃S es,eh h ab mb lb cA S es/\kZ S es f/\S.length<=N/\lb<h.next
variable {ab mb lb cA N:Nat} {f:Nat->Option (List UInt8)}
theorem AA.lt (A:AA h ab mb lb cA N f):ab<h.next/\mb<h.next/\ab≠mb/\lb<h.next:=by
 obtain⟨S,es,A,_,_,hb⟩:=A
 exact⟨A.l1,A.l2,A.n1,hb⟩
theorem AA.bM (A:AA h ab mb lb cA N f) {h':aa} (hn:h.next<=h'.next) (h1:h'.get ab=h.get ab) (h2:h'.get mb=h.get mb) (h3:lb<h.next->h'.get lb=h.get lb) {M:Nat} (hM:N<=M):AA h' ab mb lb cA M f:=by
 obtain⟨S,es,A,R,hl,hb⟩:=A
 exact⟨S,es,A.bM hn h1 h2 (fun hS=>h3 (A.AS hS).2.2.1),R,by omega,by omega⟩
theorem AA.old (A:AA h ab mb lb cA N f) {h':aa} (o:Old h h'):AA h' ab mb lb cA N f:=A.bM o.next (o.get _ A.lt.1) (o.get _ A.lt.2.1) (fun hl=>o.get _ hl) (Nat.le_refl _)
theorem AA.fn (A:AA h ab mb lb cA N f) {g:Nat->Option (List UInt8)} (hg: ∀x,f x=g x):AA h ab mb lb cA N g:=by
 have:f=g:=funext hg
 rw[<-this];exact A
theorem AA.new (ok:ax P tb) {v:Nat}: ∃h',an P 34 [.int .u8 v] h (.ptr (h.next+1) 0) h'/\AA h' (h.next+1) h.next (h.next+1) v 0 (fun _=>none)/\h'.next=h.next+2/\Old h h':=by
 obtain⟨h',c,A,e,o⟩:=axe ok (h:=h) (v:=v)
 obtain⟨lv,t1,t2⟩:=A.top
 have A':eh h' (h.next+1) h.next (h.next+1) v [] []:=⟨⟨lv,t1,by rcases t2 with t2|t2;exact .inl t2;exact absurd rfl t2.1⟩,A.map,A.l1,A.l2,A.n1,A.small⟩
 refine⟨h',c,⟨[],[],A',⟨⟨fun id i hi=>?_,fun id i r t hi=>?_,fun id i hi=>?_⟩,fun id=>rfl,by simp⟩,by simp,A.l1⟩,e,o⟩
 ·cases hi
 ·simp at hi
 ·cases hi
theorem AA.get (ok:ax P tb) (A:AA h ab mb lb cA N f) {id:Nat}:an P 45 [.ptr ab 0, .int .u64 id] h (match f id with|some r=> .az [.vs (BS r) .ao, .int .i64 0]|none=> .az [.vs [] .ao, .int .i64 7]) h:=by
 obtain⟨S,es,A,R,hl,hb⟩:=A
 have:=axg ok A (id:=id) (fun i hi=>by obtain⟨rec,cu,h1,h2⟩:=R.k.rc id i hi;exact⟨rec,cu,h1,by omega⟩)
 rw[R.f]
 cases hq:(cD es id).bind fun i=>(S[i]?).bind (·.r) with
 |none=>rw[hq] at this;exact this
 |some r=>rw[hq] at this;exact this
theorem AA.put (ok:ax P tb) (A:AA h ab mb lb cA N f) {id:Nat} {x:UInt8} {rec:List UInt8} {t:aH} (aL:id<2^64) (hv:x.toNat=cA) (hr:rec.length<999) (hN:N<2^19):
 ∃h',an P 39 [.ptr ab 0, .int .u64 id, .vs (BS (x::rec)) t] h (.int .i64 0) h'/\ ∃aT,AA h' ab mb aT cA (N+1) (jc f id (some (x::rec)))/\(aT=lb\/h.next<=aT)/\jC h h' ab mb lb:=by
 obtain⟨S,es,A,R,hl,hb⟩:=A
 obtain⟨h',c,aT,A',h1,h2⟩:=axd ok A (id:=id) (x:=x) (rec:=rec) (t:=t) hv (by omega) (by omega) (fun i hi=>R.lt hi)
 have aM:(mc S es id (x::rec)).1≠[]:=by
  intro e
  have e:=congrArg List.length e
  unfold mc at e
  have:=(CL (S:=S)).1
  split at e
  ·rename_i i hi;have:=R.lt hi;simp at e;subst e;simp at this
  ·simp at e;rw[e] at this;simp at this
 refine⟨h',c,aT,⟨_,_,A',R.put aL (by simp;omega),?_,(A'.AS aM).2.2.1⟩,h1,h2⟩
 unfold mc
 have:=(CL (S:=S)).2
 split<;>simp<;>omega
theorem AA.drop (ok:ax P tb) (A:AA h ab mb lb cA N f) {id:Nat}: ∃e h',an P 148 [.ptr ab 0, .int .u64 id] h (.int .i64 e) h'/\AA h' ab mb lb cA N (jc f id none)/\jC h h' ab mb lb:=by
 obtain⟨S,es,A,R,hl,hb⟩:=A
 obtain⟨e,h',c,A',h1⟩:=avB ok A (id:=id) (fun i hi=>R.lt hi)
 refine⟨e,h',c,⟨_,_,A',R.drop,?_,Nat.lt_of_lt_of_le hb h1.1⟩,h1⟩
 unfold tM
 split<;>simp<;>omega
theorem AA.ids (ok:ax P tb) (A:AA h ab mb lb cA N f) {l:List Nat} (hl:l.Pairwise (· < ·)) (hm: ∀id,id∈l↔(f id).isSome=true) (h0:l≠[]) (f0:l.length<=12):an P 31 [.ptr ab 0] h (.vs ((ay .u64).R l) .ao) h:=by
 obtain⟨S,es,A,R,hN,_⟩:=A
 have he:=aqU R hl hm
 have:=axf ok A (fun e=>h0 (by rw[<-he,e];rfl)) (by rw[<-Ch.length_eq,he];exact f0)
 rwa [he] at this
def bI (l:List UInt8):List Int:=l.map fun b=>(b.toNat:Int)
theorem aaR {l:List UInt8}:lj (bI l)=BS l:=by simp[lj,bI,BS]
theorem xD {l:List UInt8}:(bI l).length=l.length:=by simp[bI]
def SG (h:aa) (bs bm bl bp M:Nat) (g:Nat->Option (List UInt8)):Prop:= ∃A,gT h bs bm bl bp 512 A/\(∀id:Nat,gN A id=(g id).map bI)/\jJ A<=4*M
variable {bs bm bl bp M:Nat} {g:Nat->Option (List UInt8)}
theorem SG.lt (S:SG h bs bm bl bp M g):bs<h.next/\bm<h.next/\bl<h.next/\bp<h.next:=by
 obtain⟨A,S,_⟩:=S
 exact S.lt
theorem gT.same {A:Mem} {n:Nat} (S:gT h bs bm bl bp n A) {h':aa} (hn:h.next<=h'.next) (h1:h'.get bs=h.get bs) (h2:h'.get bm=h.get bm) (h3:h'.get bl=h.get bl) (h4:h'.get bp=h.get bp):gT h' bs bm bl bp n A:=by
 obtain⟨fs,ts,S,R⟩:=S
 exact⟨fs,ts,⟨by rw[h1,S.top],⟨by rw[h2,S.mem.top],by rw[h3,S.mem.row],S.mem.ne,S.mem.len,S.mem.small⟩,by rw[h4,S.map],S.n1,S.n2,S.n3,S.n4,S.n5,Nat.lt_of_lt_of_le S.l1 hn,Nat.lt_of_lt_of_le S.l2 hn,Nat.lt_of_lt_of_le S.l3 hn,Nat.lt_of_lt_of_le S.l4 hn,S.tn⟩,R⟩
theorem SG.bM (S:SG h bs bm bl bp M g) {h':aa} (hn:h.next<=h'.next) (h1:h'.get bs=h.get bs) (h2:h'.get bm=h.get bm) (h3:h'.get bl=h.get bl) (h4:h'.get bp=h.get bp) {M':Nat} (hM:M<=M'):SG h' bs bm bl bp M' g:=by
 obtain⟨A,S,hg,hu⟩:=S
 exact⟨A,S.same hn h1 h2 h3 h4,hg,by omega⟩
theorem SG.old (S:SG h bs bm bl bp M g) {h':aa} (o:Old h h'):SG h' bs bm bl bp M g:=S.bM o.next (o.get _ S.lt.1) (o.get _ S.lt.2.1) (o.get _ S.lt.2.2.1) (o.get _ S.lt.2.2.2) (Nat.le_refl _)
theorem SG.fn (S:SG h bs bm bl bp M g) {g':Nat->Option (List UInt8)} (hg: ∀x,g x=g' x):SG h bs bm bl bp M g':=by
 have:g=g':=funext hg
 rw[<-this];exact S
theorem SG.new (ok:ax P tb): ∃bs bm bl bp h',an P 35 [.int .i64 512] h (.ptr bs 0) h'/\SG h' bs bm bl bp 0 (fun _=>none)/\h.next<=bs/\h.next<=bm/\h.next<=bl/\h.next<=bp/\Old h h':=by
 obtain⟨bs,bm,bl,bp,h',c,S,h1,h2,h3,h4,h5,h6⟩:=avH ok h 512
 exact⟨bs,bm,bl,bp,h',c,⟨[],S,fun _=>rfl,by simp[jJ]⟩,h1,h2,h3,h4,h5,h6⟩
def y7 (h h':aa) (bl bp:Nat):Prop:=h.next<=h'.next/\ ∀b,b<h.next->b≠bl->b≠bp->h'.get b=h.get b
theorem aoa {A:Mem} {id x:Int} {d:List Int} (hn:gN A id=none):gN (A++[(id,d)]) x=if x=id then some d else gN A x:=by
 unfold gN at*
 rw[List.find?_append]
 by_cases h:x=id
 ·subst h
  rw[if_pos rfl]
  rw[Option.map_eq_none_iff] at hn
  rw[hn];simp
 ·rw[if_neg h];simp[h]
theorem SG.map (ok:ax P tb) (S:SG h bs bm bl bp M g) {id n:Nat} (hn:n<=64) (hM:M<128): ∃e h',an P 40 [.ptr bs 0, .int .u64 id, .int .i64 n] h (.int .i64 e) h'/\SG h' bs bm bl bp (M+1) (if(g id).isSome then g else jc g id (some (List.replicate n 0)))/\y7 h h' bl bp:=by
 obtain⟨A,S,hg,hu⟩:=S
 obtain⟨h',c,S',h1,h2⟩:=avI ok S id n
 refine⟨_,h',c,⟨_,S',?_,?_⟩,h1,h2⟩
 ·intro x
  unfold xE
  rw[if_neg (by omega),hg]
  cases hq:g id with
  |some d=>simp only[Option.map_some,Option.isSome_some,if_true];exact hg x
  |none=>
   simp only[Option.map_none,Option.isSome_none,Bool.false_eq_true,if_false]
   rw[if_neg (by unfold j0;omega),aoa (by rw[hg,hq];rfl),jc]
   by_cases e:x=id
   ·rw[if_pos (by omega),if_pos e];simp[bI]
   ·rw[if_neg (by omega),if_neg e,hg]
 ·unfold xE
  rw[if_neg (by omega)]
  split
  ·show jJ A<=_;omega
  ·split
   ·show jJ A<=_;omega
   ·show jJ (A++_)<=_
    unfold jJ at*
    simp only[List.map_append,List.map_cons,List.map_nil,List.sum_append,List.sum_cons,List.sum_nil,j0,List.length_replicate,Int.toNat_natCast] at*
    omega
theorem gT.keys {A:Mem} {n:Nat} (S:gT h bs bm bl bp n A):(A.map (·.1)).Nodup:=by
 obtain⟨fs,ts,S,R⟩:=S
 rw[R.s9,List.map_map]
 exact R.keys
theorem aaf {id x:Int}: ∀{A:Mem},(A.map (·.1)).Nodup->gN (sH A id) x=if x=id then none else gN A x
 |[],_=>by simp[gN,sH]
 |e::A,hn=>by
  have gQ:=List.nodup_cons.1 hn
  have ih:=aaf (id:=id) (x:=x) (A:=A) gQ.2
  unfold gN sH at*
  rw[List.eraseP_cons]
  by_cases h:(id==e.1)=true
  ·rw[h,cond_true]
   have he:id=e.1:=by simpa using h
   by_cases hx:x=id
   ·rw[if_pos hx,Option.map_eq_none_iff,List.find?_eq_none]
    intro y hy
    have:e.1≠y.1:=fun h=>gQ.1 (List.mem_map.2 ⟨y,hy,h.symm⟩)
    simp;omega
   ·rw[if_neg hx,List.find?_cons]
    have:(x==e.1)=false:=by simp;omega
    rw[this]
  ·have hf:(id==e.1)=false:=by simpa using h
   rw[hf,cond_false,List.find?_cons,List.find?_cons]
   have he: ¬id=e.1:=by simpa using h
   by_cases hx:x=e.1
   ·have:(x==e.1)=true:=by simpa using hx
    rw[this,if_neg (by omega)]
   ·have:(x==e.1)=false:=by simpa using hx
    rw[this];exact ih
theorem Zp {id:Int}: ∀{A:Mem},jJ (sH A id)<=jJ A
 |[]=>by simp[sH]
 |e::A=>by
  have ih:=Zp (id:=id) (A:=A)
  unfold jJ sH at*
  rw[List.eraseP_cons]
  cases id==e.1
  ·simp only[cond_false,List.map_cons,List.sum_cons];omega
  ·simp
theorem aaT {id x:Int} {off:Nat} {v:List Int}: ∀{A:Mem},gN (vI A id off v) x=if x=id then(gN A id).map (fun d=>d.take off++v++d.drop (off+v.length)) else gN A x
 |[]=>by simp[gN,vI]
 |e::A=>by
  have ih:=aaT (id:=id) (x:=x) (off:=off) (v:=v) (A:=A)
  unfold gN vI at*
  rw[List.map_cons,List.find?_cons,List.find?_cons]
  by_cases h:(id==e.1)=true
  ·have he:id=e.1:=by simpa using h
   rw[if_pos h]
   by_cases hx:x=id
   ·have:(x==e.1)=true:=by simp;omega
    simp only[this]
    rw[if_pos hx,h];rfl
   ·have:(x==e.1)=false:=by simp;omega
    simp only[this]
    rw[ih,if_neg hx,if_neg hx,List.find?_cons,this]
  ·have he: ¬id=e.1:=by simpa using h
   rw[if_neg h]
   have hf:(id==e.1)=false:=by simpa using h
   by_cases hx:x=e.1
   ·have:(x==e.1)=true:=by simpa using hx
    rw[if_neg (by omega)]
    simp only[this,List.find?_cons]
   ·have:(x==e.1)=false:=by simpa using hx
    simp only[this,hf,List.find?_cons]
    exact ih
theorem aac {id:Int} {off:Nat} {v:List Int}: ∀{A:Mem},(∀d,(id,d)∈A->off+v.length<=d.length)->jJ (vI A id off v)=jJ A
 |[],_=>rfl
 |e::A,hd=>by
  have ih:=aac (id:=id) (off:=off) (v:=v) (A:=A) (fun d h=>hd d (List.mem_cons_of_mem _ h))
  unfold jJ vI at*
  simp only[List.map_cons,List.sum_cons,ih]
  congr 1
  by_cases h:(id==e.1)=true
  ·have he:id=e.1:=by simpa using h
   have:=hd e.2 (by rw[he];simp)
   rw[if_pos h]
   congr 1
   simp;omega
  ·rw[if_neg h]
theorem an9 {id:Int} {d:List Int} {A:Mem} (hk:(A.map (·.1)).Nodup) (hm:(id,d)∈A):gN A id=some d:=by
 unfold gN
 cases hq:A.find? (fun e=>id==e.1) with
 |none=>rw[List.find?_eq_none] at hq;exact absurd (hq _ hm) (by simp)
 |some e=>
  have h1:=List.find?_some hq
  have h2:=List.mem_of_find?_eq_some hq
  obtain⟨i,hi,e1⟩:=List.getElem_of_mem hm
  obtain⟨j,hj,e2⟩:=List.getElem_of_mem h2
  have:=Cm hk (i:=i) (j:=j) (by simpa using hi) (by simpa using hj) (by simp[e1,e2];simpa using h1)
  subst this
  rw[e1] at e2;rw[<-e2];rfl
theorem SG.QZ (ok:ax P tb) (S:SG h bs bm bl bp M g) {id:Nat}: ∃e h',an P 149 [.ptr bs 0, .int .u64 id] h (.int .i64 e) h'/\SG h' bs bm bl bp M (jc g id none)/\y7 h h' bl bp:=by
 obtain⟨A,S,hg,hu⟩:=S
 obtain⟨h',c,S',h1,h2⟩:=apg ok S id
 have hk:=S.keys
 refine⟨_,h',c,⟨_,S',?_,?_⟩,h1,h2⟩
 ·intro x
  unfold wS
  rw[hg,jc]
  cases hq:g id with
  |none=>
   by_cases e:x=id
   ·rw[if_pos e,e];show gN A id=_;rw[hg,hq]
   ·rw[if_neg e];exact hg x
  |some d=>
   show gN (sH A id) x=_
   rw[aaf hk]
   by_cases e:x=id
   ·rw[if_pos (by omega),if_pos e];rfl
   ·rw[if_neg (by omega),if_neg e,hg]
 ·unfold wS
  have:=Zp (id:=id) (A:=A)
  split
  ·show jJ A<=_;omega
  ·show jJ (sH A id)<=_;omega
theorem SG.len (ok:ax P tb) (S:SG h bs bm bl bp M g) {id:Nat} {d:List UInt8} (hd:g id=some d):an P 47 [.ptr bs 0, .int .u64 id] h (.az [.int .i64 d.length, .int .i64 0]) h:=by
 obtain⟨A,S,hg,hu⟩:=S
 have:=avJ ok S id
 rw[hg,hd] at this
 simpa [xD] using this
theorem SG.read (ok:ax P tb) (S:SG h bs bm bl bp M g) {id off n:Nat} {d:List UInt8} (hd:g id=some d) (aE:off+n<=d.length):an P 48 [.ptr bs 0, .int .u64 id, .int .i64 off, .int .i64 n] h (.az [.vs (BS ((d.drop off).take n)) .ao, .int .i64 0]) h:=by
 obtain⟨A,S,hg,hu⟩:=S
 have:=asF ok S (id:=id) (off:=off) (n:=n) (d:=bI d) (by unfold sl;rw[hg,hd];simp only[Option.map_some,xD];rw[if_neg (by omega)])
 have e:((bI d).drop off).take n=bI ((d.drop off).take n):=by simp[bI,List.map_take,List.map_drop]
 rw[e,aaR] at this
 exact this
theorem SG.aon (ok:ax P tb) (S:SG h bs bm bl bp M g) {id:Nat} {off n:Int} {d:List UInt8} (hd:g id=some d) (aE:off<0\/n<0\/(d.length:Int)<off\/(d.length:Int)-off<n):an P 48 [.ptr bs 0, .int .u64 id, .int .i64 off, .int .i64 n] h (.az [.vs [] .full, .int .i64 11]) h:=by
 obtain⟨A,S,hg,hu⟩:=S
 exact akM ok S (id:=id) (off:=off) (n:=n) (e:=11) (by unfold sl;rw[hg,hd];simp only[Option.map_some,xD];rw[if_pos aE]) (by omega)
def yA (d:List UInt8) (off:Nat) (v:List UInt8):List UInt8:=d.take off++v++d.drop (off+v.length)
theorem SG.write (ok:ax P tb) (S:SG h bs bm bl bp M g) {id off:Nat} {d v:List UInt8} {t:aH} (hd:g id=some d) (aE:off+v.length<=d.length): ∃h',an P 41 [.ptr bs 0, .int .u64 id, .int .i64 off, .vs (BS v) t] h (.int .i64 0) h'/\SG h' bs bm bl bp M (jc g id (some (yA d off v)))/\y7 h h' bl bp:=by
 obtain⟨A,S,hg,hu⟩:=S
 obtain⟨h',c,S',h1,h2⟩:=apf ok S (id:=id) (off:=off) (vs:=bI v) (d:=bI d) (tl:=t) (by unfold sl;rw[hg,hd];simp only[Option.map_some,xD];rw[if_neg (by omega)])
 rw[aaR] at c
 refine⟨h',c,⟨_,S',?_,?_⟩,h1,fun b hb k1 _=>h2 b hb k1⟩
 ·intro x
  rw[aaT,jc,hg]
  by_cases e:x=id
  ·rw[if_pos (by omega),if_pos e,hd]
   simp[yA,bI,List.map_take,List.map_drop]
  ·rw[if_neg (by omega),if_neg e,hg]
 ·rw[aac]
  ·exact hu
  ·intro d' kY
   have:=an9 S.keys kY
   rw[hg,hd] at this
   cases this
   rw[xD,xD];exact aE
theorem SG.amQ (ok:ax P tb) (S:SG h bs bm bl bp M g) {id:Nat} {off:Int} {d v:List UInt8} {t:aH} (hd:g id=some d) (aE:off<0\/(d.length:Int)<off\/(d.length:Int)-off<v.length):an P 41 [.ptr bs 0, .int .u64 id, .int .i64 off, .vs (BS v) t] h (.int .i64 11) h:=by
 obtain⟨A,S,hg,hu⟩:=S
 refine ajY ok S (id:=id) (off:=off) (e:=11) ?_ (by omega)
 unfold sl
 rw[hg,hd]
 simp only[Option.map_some,xD,b8]
 rw[if_pos (by rcases aE with h|h|h<;>omega)]
end
section
open Go
variable {P:Program} {h:aa}
structure Th where
 ak:Lb
 st:St
 own:Int
 bG:Int
 id:Nat
 to:Nat
 done:Int
 n:Int
 new:Bool
 deriving DecidableEq
def Th.c (x:Th) (t:Nat->aH):List AV:=[.int .u8 x.ak.d, .vs (aw.R x.ak.ps) (t 0), .vs ((ay .u16).R x.st.s) (t 1), .vs ((ay .u16).R x.st.i) (t 2), .vs ((ay .u16).R x.st.o) (t 3), .int .i64 x.own, .int .i64 x.bG, .int .u64 x.id, .int .u64 x.to, .int .i64 x.done, .int .i64 x.n, .bool x.new]
def aW:Nat->aH:=fun i=>if i=0 then .ao else .full
def aS (τ:Nat->aH) (l:List Th):List (List AV):=l.map fun x=>x.c τ
theorem mJ {τ:Nat->aH} {l:List Th}: ∀r∈aS τ l,r.length=12:=fun r hr=>by
 obtain⟨x,_,rfl⟩:=List.mem_map.1 hr;rfl
theorem gE {τ:Nat->aH} {l:List Th}:(aS τ l).length=l.length:=by simp[aS]
theorem CA {τ:Nat->aH} {l:List Th} {i:Nat} (hi:i<l.length):(aS τ l)[i]? =some (l[i].c τ):=by simp[aS,List.getElem?_eq_getElem hi]
def bK (l:List Ob) (id:Nat):Option Ob:=l.find? fun o=>o.id==id
structure jB (o:Ob):Prop where
 ok:Lo o
 may:eY o=true
 norm:jr o=o
structure KS (ah:List Ob):Prop where
 di:ah.Pairwise (·.id< ·.id)
 val: ∀o∈ah,jB o
theorem lO {l:List Ob} {id:Nat} {o:Ob} (h:bK l id=some o):o∈l/\o.id=id:=⟨List.mem_of_find?_eq_some h,by simpa using List.find?_some h⟩
theorem mH {l:List Ob} (hs:l.Pairwise (·.id< ·.id)) {o:Ob} (ho:o∈l):bK l o.id=some o:=by
 induction l with
 |nil=>cases ho
 |cons x l ih=>
  have iW:=List.pairwise_cons.1 hs
  unfold bK at ih ⊢
  rw[List.find?_cons]
  rcases List.mem_cons.1 ho with rfl|ho
  ·simp
  ·have:=iW.1 o ho
   have hf:(x.id==o.id)=false:=by simp;omega
   rw[hf];exact ih iW.2 ho
def AO (f:Nat->Option (List UInt8)) (ah:List Ob):Prop:= ∀id,match bK ah id with
 |none=>f id=none
 |some o=> ∃d,d.length=o.data.length/\f id=some (me {o with data:=d})
def eC (ah:List Ob) (id:Nat):Option (List UInt8):=(bK ah id).bind fun o=>if o.kind=2 then some o.data else none
structure KA where
 kb:Nat
 tb:Nat
 ab:Nat
 mb:Nat
 bs:Nat
 bm:Nat
 bl:Nat
 bp:Nat
def FK (a:KA) (b:Nat):Prop:=b=a.kb\/b=a.tb
def FA (a:KA) (lb b:Nat):Prop:=b=a.ab\/b=a.mb\/b=lb
def FS (a:KA) (b:Nat):Prop:=b=a.bs\/b=a.bm\/b=a.bl\/b=a.bp
structure KH (h:aa) (a:KA) (lb N M:Nat) (ai:List Th) (ah:List Ob) (g:Nat->Option (List UInt8)):Prop where
 top:h.get a.kb=some (.cells [.rs a.tb 0 ai.length 12, .ptr a.ab 0, .ptr a.bs 0])
 bg:h.get a.tb=some (.cells (aS aW ai).flatten)
 ar: ∃f,AA h a.ab a.mb lb 1 N f/\AO f ah
 sp:SG h a.bs a.bm a.bl a.bp M g
 l1:a.kb<h.next
 l2:a.tb<h.next
 BO:a.kb≠a.tb
 lI: ∀b,FA a lb b-> ¬FS a b
 lH: ∀b,FK a b-> ¬FA a lb b
 oS: ∀b,FK a b-> ¬FS a b
 ks:KS ah
def KF (h h':aa) (a:KA) (lb:Nat):Prop:=h.next<=h'.next/\ ∀b,b<h.next-> ¬FK a b-> ¬FA a lb b-> ¬FS a b->h'.get b=h.get b
variable {a:KA} {lb N M:Nat} {ai:List Th} {ah:List Ob} {g:Nat->Option (List UInt8)}
theorem KH.bM (K:KH h a lb N M ai ah g) {h':aa} (hn:h.next<=h'.next) (hk: ∀b,b<h.next->FK a b\/FA a lb b\/FS a b->h'.get b=h.get b) {N' M':Nat} (hN:N<=N') (hM:M<=M'):KH h' a lb N' M' ai ah g:=by
 obtain⟨f,A,R⟩:=K.ar
 have S:=K.sp
 refine⟨by rw[hk _ K.l1 (.inl (.inl rfl)),K.top],by rw[hk _ K.l2 (.inl (.inr rfl)),K.bg],⟨f,A.bM hn (hk _ A.lt.1 (.inr (.inl (.inl rfl)))) (hk _ A.lt.2.1 (.inr (.inl (.inr (.inl rfl))))) (fun hl=>hk _ hl (.inr (.inl (.inr (.inr rfl))))) hN,R⟩,
  S.bM hn (hk _ S.lt.1 (.inr (.inr (.inl rfl)))) (hk _ S.lt.2.1 (.inr (.inr (.inr (.inl rfl))))) (hk _ S.lt.2.2.1 (.inr (.inr (.inr (.inr (.inl rfl)))))) (hk _ S.lt.2.2.2 (.inr (.inr (.inr (.inr (.inr rfl)))))) hM,Nat.lt_of_lt_of_le K.l1 hn,Nat.lt_of_lt_of_le K.l2 hn,K.BO,K.lI,K.lH,K.oS,K.ks⟩
theorem KH.old (K:KH h a lb N M ai ah g) {h':aa} (o:Old h h'):KH h' a lb N M ai ah g:=K.bM o.next (fun b hb _=>o.get b hb) (Nat.le_refl _) (Nat.le_refl _)
theorem KF.refl:KF h h a lb:=⟨Nat.le_refl _,fun _ _ _ _ _=>rfl⟩
theorem KF.old {h':aa} (o:Old h h'):KF h h' a lb:=⟨o.next,fun b hb _ _ _=>o.get b hb⟩
theorem KF.trans {h1 h2:aa} {aT:Nat} (x:KF h h1 a lb) (y:KF h1 h2 a aT) (hl:aT=lb\/h.next<=aT):KF h h2 a lb:=⟨Nat.le_trans x.1 y.1,fun b hb h1 h2 h3=>by
 have:=x.1
 rw[y.2 b (by omega) h1 ?_ h3,x.2 b hb h1 h2 h3]
 rintro(e|e|e)
 ·exact h2 (.inl e)
 ·exact h2 (.inr (.inl e))
 ·rcases hl with hl|hl
  ·exact h2 (.inr (.inr (e.trans hl)))
  ·omega⟩
theorem HG (ok:ax P tb) {x m:Int}:an P 18 [.int .i64 x, .int .i64 m] h (.bool (decide (0<=x)&&decide (x<=m))) h:=by
 refine ok.keeps (rf:=B7) rfl (Nat.le_of_ble_eq_true rfl) rfl ?_
 by_cases h0:0<=x
 ·simp+decide only[st,xv,B7,Uq,Up,h0]
 ·simp+decide only[st,xv,B7,Uq,Up,h0]
  simp
theorem G5 (ok:ax P tb) {l:Lb} {t:aH} (hl:l.ps.length<2^30):an P 21 [.agg (l.c t)] h (.agg (l.c .ao)) h:=by
 refine ok.eM (rf:=B6) rfl (Nat.le_of_ble_eq_true rfl) (by simp only[Lb.c,AV.bB,AV.bX,aw.iB];rfl) ?_
 simp+decide only[st,xv,B6,ah2,Lb.c]
 generalize hX:aa.at _ _ _=X
 have xo:Old h X:=by rw[<-hX];exact((Old.refl h).at (Nat.le_refl _)).at (by omega)
 have x0:cellsOf X h.next=some [.int .u8 l.d, .vs (aw.R l.ps) t]:=by rw[<-hX];exact av (by simp[aa.at])
 have x1:cellsOf X (h.next+1)=some [.int .u8 0, .vs [] .full]:=by rw[<-hX];exact av (by simp[aa.at])
 have xn:X.next=h.next+2:=by rw[<-hX];simp[aa.at]
 have n0:h.next<X.next:=by omega
 have n1:h.next+1<X.next:=by omega
 refine qg 5 7 rfl (by omega) rfl ?_
 simp+decide only[st,xv,B6,ah1,x0,x1,n0,n1]
 refine i6 (Of aw ok rfl (l:=l.ps) (t:=t) (by omega) (by omega)) (dp (Nat.le_refl _)) ?_
 simp+decide only[st,xv,x0,x1,n0,n1,bE]
 refine⟨(jD n1).2 (dp (Nat.le_refl _)),?_⟩
 refine⟨by simp only[AV.strip,AV.bA,aw.ew],fun b hb=>?_⟩
 rw[if_neg (by omega),if_pos (by omega)]
 exact xo.get b hb
theorem anh {o:Ob} (hm:eY o=true):(me o).length<990:=by
 have hl:=Hn (Nl hm).1
 have hp:=Hj (l:=o.ak)
 have ht:(kH o).length<300:=by
  unfold kH
  split
  ·simp[bW]
  split
  ·rename_i h2;have:=tE hm h2;simp[ei,bW];omega
  split
  ·rename_i h3;have:=Hq (G6 hm h3);rw[Ck];omega
  ·rename_i h1 h2 h3
   have h4:o.kind=4:=by rcases uU hm with h|h|h|h<;>first|exact absurd h ‹_› |exact h
   have iJ:=wP (zw hm h4)
   have bH: ∀(m:List (List UInt8)),(∀x∈m,x.length<=16)->(m.flatMap ei).length<=18*m.length:=by
    intro m
    induction m with
    |nil=>intro _;simp
    |cons c m ih=>
     intro hm
     have h1:=ih (fun x hx=>hm x (List.mem_cons_of_mem _ hx))
     have h2:=hm c (List.mem_cons_self ..)
     simp only[List.flatMap_cons,List.length_append,ei,bW,List.length_cons] at h1 ⊢;omega
   have:=bH o.ring iJ.2
   unfold jo
   rw[List.length_append,bW];omega
 unfold me
 simp only[List.length_append,List.length_cons,List.length_nil,bW,hp];omega
theorem jB.data {o:Ob} (v:jB o) {d:List UInt8} (hd:d.length=o.data.length):jB {o with data:=d}:=by
 have hm:eY {o with data:=d}=eY o:=by
  unfold eY qB nF
  simp only[hd]
 refine⟨⟨v.ok.ak,v.ok.id,v.ok.bu,v.ok.ring,v.ok.cat⟩,by rw[hm];exact v.may,?_⟩
 have hn:=v.norm
 cases o with
 |mk Lx kind ak bf used next data bu ring st=>
  unfold jr at hn ⊢
  simp only at hn hd ⊢
  by_cases h2:kind=2
  ·have h1: ¬kind=1:=by omega
   rw[if_neg h1,if_pos h2] at hn ⊢
   simp only[Ob.mk.injEq,bc] at hn ⊢
   obtain⟨e1,e2,e3,e4,e5,e6,e7,e8,e9,Gx⟩:=hn
   exact⟨trivial,trivial,trivial,e4,e5,e6,trivial,e8,e9,Gx⟩
  ·have:data=[]:=by
    split at hn
    ·simp only[Ob.mk.injEq] at hn;exact hn.2.2.2.2.2.2.1.symm
    ·split at hn<;>(simp only[Ob.mk.injEq,bc] at hn;exact hn.2.2.2.2.2.2.1.symm)
   subst this
   have:d=[]:=List.length_eq_zero_iff.1 hd
   subst this
   exact hn
theorem jB.apu {o:Ob} (v:jB o) (h2:o.kind≠2):o.data=[]:=by
 have hn:=v.norm
 cases o with
 |mk Lx kind ak bf used next data bu ring st=>
  unfold jr at hn
  simp only at hn h2 ⊢
  split at hn
  ·simp only[Ob.mk.injEq] at hn;exact hn.2.2.2.2.2.2.1.symm
  ·split at hn<;>(simp only[Ob.mk.injEq,bc] at hn;exact hn.2.2.2.2.2.2.1.symm)
theorem KN (ok:ax P tb) (K:KH h a lb N M ai ah (eC ah)) {id:Nat}:an P 32 [.ptr a.kb 0, .int .u64 id] h (match bK ah id with|some o=> .az [.agg (o.c aK), .bool true]|none=> .az [.agg (bc.c aK), .bool false]) h:=by
 refine ok.eM (rf:=p9) rfl (Nat.le_of_ble_eq_true rfl) (by split<;>(simp only[AV.bB,AV.bX,u9];rfl)) ?_
 have c0:=av K.top
 have l1:=K.l1
 have hnk: ¬a.kb=h.next:=by omega
 simp+decide only[st,xv,p9,ahn,Kc,c0,hnk]
 generalize hX:aa.at _ _ _=X
 have xo:Old h X:=by rw[<-hX];exact(Old.refl h).at (Nat.le_refl _)
 have VV:cellsOf X h.next=some (bc.c (fT .full .full .full .full)):=by rw[<-hX];exact av (by simp[aa.at];rfl)
 have xn:X.next=h.next+1:=by rw[<-hX];simp[aa.at]
 have KX:=K.old xo
 obtain⟨f,A,R⟩:=KX.ar
 refine aq (A.get ok) ?_
 have hR:=R id
 cases ho:bK ah id with
 |none=>
  rw[ho] at hR
  simp only at hR
  rw[hR]
  simp only[bc,Ob.c,fT,oz] at VV
  simp+decide only[st,xv,p9,Kc,TW,ahm,VV,xr,bE]
  refine⟨?_,fun b hb=>?_⟩
  ·rfl
  ·rw[if_neg (by omega)];exact xo.get b hb
 |some o=>
  rw[ho] at hR
  simp only at hR
  obtain⟨d,hd,hf⟩:=hR
  rw[hf]
  have v:=(KX.ks.val o (lO ho).1)
  have vd:=v.data hd
  simp+decide only[st,xv,p9,Kc,TW,TU]
  refine aq (akb ok vd.ok vd.may vd.norm) ?_
  simp+decide only[st,xv,p9,TU,ahl,Ob.c,xr]
  generalize hY:aa.set _ _ _=Y
  have yo:Old X Y:=by rw[<-hY];exact((Old.refl X).at (Nat.le_refl _)).set (Nat.le_refl _)
  have y0:cellsOf Y h.next=some (bc.c (fT .full .full .full .full)):=by rw[<-VV];unfold cellsOf;rw[yo.get _ (by omega)]
  have y1:cellsOf Y (h.next+1)=some (Ob.c {o with data:=d} aK):=by rw[<-hY,<-xn];exact av (by simp[aa.set,Ob.c])
  have yn:Y.next=h.next+2:=by rw[<-hY];simp[aa.at,aa.set];omega
  simp only[bc,Ob.c,fT,oz] at y0
  simp only[Ob.c] at y1
  have KY:=KX.old yo
  have c0Y:=av KY.top
  have nb: ¬(h.next=h.next+1):=by omega
  have fin: ∀{ρ:Env} {Z:aa} {t':Nat->aH},ρ 4= .ptr h.next 0->ρ 8= .ptr (h.next+1) 0->cellsOf Z h.next=some (bc.c (fT .full .full .full .full))->cellsOf Z (h.next+1)=some (o.c t')->(∀b,b<h.next->Z.get b=h.get b)->
   exec P TQ ρ Z (i9 (WP P .ret (vk [.cell 4 true 13, .tmp 5] (.az [.agg (o.c aK), .bool true]) h)) (vk [.cell 4 true 13, .tmp 5] (.az [.agg (o.c aK), .bool true]) h) .normal):=by
   intro ρ Z t' r4 r8 z0 z1 zo
   simp only[bc,Ob.c,fT,oz] at z0
   simp only[Ob.c] at z1
   simp+decide only[st,xv,p9,TQ,r4,r8,z0,z1,xr,bE]
   refine⟨?_,fun b hb=>?_⟩
   ·show(AV.az [.agg (o.c t'), .bool true]).strip=_
    simp only[AV.strip,AV.bA,zz]
   ·rw[if_neg (by omega)];exact zo b hb
  by_cases h2:o.kind=2
  ·have pF:eC ah id=some o.data:=by unfold eC;rw[ho];simp[h2]
   have hk:(o.kind=2)=True:=eq_true h2
   rw[xn]
   simp+decide only[st,xv,p9,TT,hk,c0Y]
   refine aq (KY.sp.len ok pF) ?_
   simp+decide only[st,xv,p9,TT,TS,c0Y]
   have ku:=KY.sp.read ok (off:=0) (n:=o.data.length) pF (by omega)
   rw[List.drop_zero,List.take_of_length_le (Nat.le_refl _)] at ku
   refine aq ku ?_
   simp+decide only[st,xv,p9,TS,y1,xr]
   refine fin (t':=aK) rfl rfl ?_ ?_ fun b hb=>?_
   ·rw[show cellsOf (Y.set _ _) h.next=cellsOf Y h.next by simp only[cellsOf,aa.set];rw[if_neg nb],y0];rfl
   ·exact av (by simp[aa.set];rfl)
   ·simp only[aa.set]
    rw[if_neg (by omega),yo.get b (by omega),xo.get b hb]
  ·have pV:d=o.data:=by
    have:=v.apu h2
    rw[this] at hd ⊢
    exact List.length_eq_zero_iff.1 hd
   subst pV
   have hk:(o.kind=2)=False:=eq_false h2
   rw[xn]
   simp+decide only[st,xv,hk]
   exact fin (t':=aK) rfl rfl (by rw[y0];rfl) (by rw[y1];rfl) (fun b hb=>by rw[yo.get b (by omega),xo.get b hb])
def ec:List Ob->Ob->List Ob
 |[],o=>[o]
 |x::l,o=>if o.id<x.id then o::x::l else if x.id=o.id then o::l else x::ec l o
theorem Cs {o x:Ob}: ∀{l:List Ob},x∈ec l o->x=o\/x∈l
 |[],h=>by simpa [ec] using h
 |y::l,h=>by
  unfold ec at h
  split at h
  ·simpa using h
  split at h
  ·rcases List.mem_cons.1 h with h|h
   ·exact .inl h
   ·exact .inr (List.mem_cons_of_mem _ h)
  ·rcases List.mem_cons.1 h with h|h
   ·exact .inr (by simp[h])
   ·rcases Cs h with h|h
    ·exact .inl h
    ·exact .inr (List.mem_cons_of_mem _ h)
theorem Nk {o:Ob}: ∀{l:List Ob},l.Pairwise (·.id< ·.id)->(ec l o).Pairwise (·.id< ·.id)
 |[],_=>by simp[ec]
 |y::l,h=>by
  have h':=List.pairwise_cons.1 h
  unfold ec
  split
  ·rename_i aC
   refine List.pairwise_cons.2 ⟨fun z hz=>?_,h⟩
   rcases List.mem_cons.1 hz with rfl|hz
   ·exact aC
   ·have:=h'.1 z hz;omega
  split
  ·rename_i he
   exact List.pairwise_cons.2 ⟨fun z hz=>by have:=h'.1 z hz;omega,h'.2⟩
  ·refine List.pairwise_cons.2 ⟨fun z hz=>?_,Nk h'.2⟩
   rcases Cs hz with rfl|hz
   ·omega
   ·exact h'.1 z hz
theorem tB {o:Ob} {id:Nat}: ∀{l:List Ob},l.Pairwise (·.id< ·.id)->bK (ec l o) id=if id=o.id then some o else bK l id
 |[],_=>by
  unfold ec bK
  rw[List.find?_cons]
  by_cases h:id=o.id
  ·rw[if_pos h];simp[h]
  ·rw[if_neg h]
   have:(o.id==id)=false:=by simp;omega
   rw[this]
 |y::l,hs=>by
  have h':=List.pairwise_cons.1 hs
  have ih:=tB (o:=o) (id:=id) h'.2
  unfold ec
  unfold bK at ih ⊢
  split
  ·rw[List.find?_cons]
   by_cases h:id=o.id
   ·rw[if_pos h];simp[h]
   ·rw[if_neg h]
    have:(o.id==id)=false:=by simp;omega
    rw[this]
  split
  ·rename_i he
   rw[List.find?_cons]
   by_cases h:id=o.id
   ·rw[if_pos h];simp[h]
   ·rw[if_neg h]
    have:(o.id==id)=false:=by simp;omega
    rw[this,List.find?_cons]
    have:(y.id==id)=false:=by simp;omega
    rw[this]
  ·rename_i he
   rw[List.find?_cons,List.find?_cons]
   by_cases h:y.id=id
   ·have:(y.id==id)=true:=by simpa using h
    rw[this,if_neg (by omega)]
   ·have:(y.id==id)=false:=by simpa using h
    rw[this];exact ih
theorem KS.put {o:Ob} (k:KS ah) (v:jB o):KS (ec ah o):=by
 refine⟨Nk k.di,fun x hx=>?_⟩
 rcases Cs hx with rfl|hx
 ·exact v
 ·exact k.val x hx
end
section
open Go
variable {P:Program} {h:aa} {a:KA} {lb N M:Nat} {ai:List Th} {ah:List Ob} {g:Nat->Option (List UInt8)}
theorem aab {o:Ob} (k:KS ah) {id:Nat}:eC (ec ah o) id=if id=o.id then(if o.kind=2 then some o.data else none) else eC ah id:=by
 unfold eC
 rw[tB k.di]
 by_cases e:id=o.id
 ·rw[if_pos e,if_pos e];rfl
 ·rw[if_neg e,if_neg e]
theorem AO.put {f:Nat->Option (List UInt8)} {o:Ob} (k:KS ah) (R:AO f ah) {d:List UInt8} (hd:d.length=o.data.length):AO (jc f o.id (some (me {o with data:=d}))) (ec ah o):=by
 intro id
 rw[tB k.di]
 unfold jc
 by_cases e:id=o.id
 ·rw[if_pos e,if_pos e]
  exact⟨d,hd,rfl⟩
 ·rw[if_neg e,if_neg e]
  exact R id
theorem y7.kf {h h':aa} {a:KA} {lb:Nat} (s:y7 h h' a.bl a.bp):KF h h' a lb:=⟨s.1,fun b hb _ _ h3=>s.2 b hb (fun e=>h3 (.inr (.inr (.inl e)))) (fun e=>h3 (.inr (.inr (.inr e))))⟩
theorem jC.kf {h h':aa} {a:KA} {lb:Nat} (s:jC h h' a.ab a.mb lb):KF h h' a lb:=⟨s.1,fun b hb _ h2 _=>s.2 b hb (fun e=>h2 (.inl e)) (fun e=>h2 (.inr (.inl e))) (fun e=>h2 (.inr (.inr e)))⟩
theorem KH.aiz (K:KH h a lb N M ai ah g) {h':aa} {aT N':Nat} {f':Nat->Option (List UInt8)} {AX:List Ob} (s:jC h h' a.ab a.mb lb) (hl:aT=lb\/h.next<=aT) (A:AA h' a.ab a.mb aT 1 N' f') (R:AO f' AX) (ks:KS AX):KH h' a aT N' M ai AX g:=by
 have e: ∀b,FS a b\/FK a b->b<h.next->h'.get b=h.get b:=by
  intro b hb aC
  refine s.2 b aC ?_ ?_ ?_<;>intro e<;>rcases hb with hb|hb
  ·exact K.lI b (.inl e) hb
  ·exact K.lH b hb (.inl e)
  ·exact K.lI b (.inr (.inl e)) hb
  ·exact K.lH b hb (.inr (.inl e))
  ·exact K.lI b (.inr (.inr e)) hb
  ·exact K.lH b hb (.inr (.inr e))
 have S:=K.sp
 refine⟨by rw[e _ (.inr (.inl rfl)) K.l1,K.top],by rw[e _ (.inr (.inr rfl)) K.l2,K.bg],⟨f',A,R⟩,S.bM s.1 (e _ (.inl (.inl rfl)) S.lt.1) (e _ (.inl (.inr (.inl rfl))) S.lt.2.1) (e _ (.inl (.inr (.inr (.inl rfl)))) S.lt.2.2.1) (e _ (.inl (.inr (.inr (.inr rfl)))) S.lt.2.2.2) (Nat.le_refl _),
  Nat.lt_of_lt_of_le K.l1 s.1,Nat.lt_of_lt_of_le K.l2 s.1,K.BO,fun b hb hs=>?_,fun b hb ha=>?_,K.oS,ks⟩
 ·rcases hb with hb|hb|hb
  ·exact K.lI b (.inl hb) hs
  ·exact K.lI b (.inr (.inl hb)) hs
  ·rcases hl with hl|hl
   ·exact K.lI b (.inr (.inr (hb.trans hl))) hs
   ·have:=S.lt
    rcases hs with hs|hs|hs|hs<;>omega
 ·rcases ha with ha|ha|ha
  ·exact K.lH b hb (.inl ha)
  ·exact K.lH b hb (.inr (.inl ha))
  ·rcases hl with hl|hl
   ·exact K.lH b hb (.inr (.inr (ha.trans hl)))
   ·have:=K.l1
    have:=K.l2
    rcases hb with hb|hb<;>omega
theorem KH.Jl (K:KH h a lb N M ai ah g) {h':aa} {M':Nat} {g':Nat->Option (List UInt8)} (s:y7 h h' a.bl a.bp) (S:SG h' a.bs a.bm a.bl a.bp M' g'):KH h' a lb N M' ai ah g':=by
 have e: ∀b,FA a lb b\/FK a b->b<h.next->h'.get b=h.get b:=by
  intro b hb aC
  refine s.2 b aC ?_ ?_<;>intro e<;>rcases hb with hb|hb
  ·exact K.lI b hb (.inr (.inr (.inl e)))
  ·exact K.oS b hb (.inr (.inr (.inl e)))
  ·exact K.lI b hb (.inr (.inr (.inr e)))
  ·exact K.oS b hb (.inr (.inr (.inr e)))
 obtain⟨f,A,R⟩:=K.ar
 exact⟨by rw[e _ (.inr (.inl rfl)) K.l1,K.top],by rw[e _ (.inr (.inr rfl)) K.l2,K.bg],⟨f,A.bM s.1 (e _ (.inl (.inl rfl)) A.lt.1) (e _ (.inl (.inr (.inl rfl))) A.lt.2.1) (fun hl=>e _ (.inl (.inr (.inr rfl))) hl) (Nat.le_refl _),R⟩,S,
  Nat.lt_of_lt_of_le K.l1 s.1,Nat.lt_of_lt_of_le K.l2 s.1,K.BO,K.lI,K.lH,K.oS,K.ks⟩
theorem KH.fn (K:KH h a lb N M ai ah g) {g':Nat->Option (List UInt8)} (hg: ∀x,g x=g' x):KH h a lb N M ai ah g':=by
 have:g=g':=funext hg
 rw[<-this];exact K
theorem aiJ (ok:ax P tb) (K:KH h a lb N M ai ah (eC ah)) {o:Ob} {t:Nat->aH} (v:jB o) (hs: ∀o',bK ah o.id=some o'->o'.kind≠2/\o.kind≠2) (hN:N<2^19) (hM:M<128):
 ∃h',an P 22 [.ptr a.kb 0, .agg (o.c t)] h (.az []) h'/\ ∃aT,KH h' a aT (N+1) (if o.kind=2 then M+1 else M) ai (ec ah o) (eC (ec ah o))/\(aT=lb\/h.next<=aT)/\KF h h' a lb:=by
 suffices hu: ∃h',an P 22 [.ptr a.kb 0, .agg (o.c aK)] h (.az []) h'/\ ∃aT,KH h' a aT (N+1) (if o.kind=2 then M+1 else M) ai (ec ah o) (eC (ec ah o))/\(aT=lb\/h.next<=aT)/\KF h h' a lb by
  obtain⟨h',c,hq⟩:=hu
  exact⟨h',an.ao (by simp only[AV.bA,NZ];exact c),hq⟩
 refine ok.dz (rf:=np) rfl (Nat.le_of_ble_eq_true rfl) ?_
 have l1:=K.l1
 simp+decide only[st,xv,np,ah0,Ob.c]
 generalize hX:aa.at _ _ _=X
 have xo:Old h X:=by rw[<-hX];exact(Old.refl h).at (Nat.le_refl _)
 have x0:cellsOf X h.next=some (o.c aK):=by rw[<-hX];exact av (by simp[aa.at,Ob.c])
 have xn:X.next=h.next+1:=by rw[<-hX];simp[aa.at]
 have KX:=K.old xo
 have We:=K.sp.lt
 obtain⟨f,A0,_⟩:=K.ar
 have ltA:=A0.lt
 have nK: ∀b,FK a b->b<h.next:=fun b hb=>by
  have:=K.l2
  rcases hb with hb|hb<;>omega
 have nA: ∀b,FA a lb b->b<h.next:=fun b hb=>by rcases hb with hb|hb|hb<;>omega
 have nS: ∀b,FS a b->b<h.next:=fun b hb=>by rcases hb with hb|hb|hb|hb<;>omega
 simp only[Ob.c] at x0
 simp+decide only[st,xv,np,Um,x0]
 refine aq (ak2 ok (o:=o) (t:=aK) v.ok) ?_
 have hp:DE o= .az [.vs (BS (me o)) .ao, .int .i64 0]:=by unfold DE;rw[v.may,if_pos rfl]
 rw[hp]
 simp+decide only[st,xv,np,Um]
 refine bJ 8 rfl rfl ?_
 have c0:=av KX.top
 have lX:a.kb<X.next:=by omega
 have Gq:h.next<X.next:=by omega
 simp+decide only[st,xv,np,Kh,c0,x0,lX,Gq]
 have KC:=KX.old ((Old.refl X).clean (n:=8))
 obtain⟨f,A,R⟩:=KC.ar
 obtain⟨rec,sv⟩: ∃rec,me o=1::rec:=⟨_,rfl⟩
 have kV:=anh v.may
 obtain⟨h1,c1,fw,A1,ee,k1⟩:=A.put ok (id:=o.id) (x:=1) (rec:=rec) (t:= .ao) v.ok.id rfl (by rw[sv] at kV;simp at kV;omega) hN
 rw[<-sv] at c1 A1
 refine fA c1 (fun j hj hn=>by omega) ?_
 have kf0:KF h (X.clean 8) a lb:=KF.old (xo.trans ((Old.refl X).clean))
 have kn:=kf0.1
 have iG:KF h h1 a lb:=kf0.trans k1.kf (.inl rfl)
 have K1:KH h1 a fw (N+1) M ai (ec ah o) (eC ah):=KC.aiz k1 ee A1 (R.put KC.ks rfl) (KC.ks.put v)
 have x1:cellsOf h1 h.next=some (o.c aK):=by
  rw[show cellsOf h1 h.next=cellsOf X h.next from ?_,x0];rfl
  unfold cellsOf
  rw[k1.2 _ (by simp[aa.clean];omega) (by omega) (by omega) (by omega)]
  simp only[aa.clean]
  rw[if_pos Gq]
 simp only[Ob.c] at x1
 have k11:=k1.1
 have xc8:(X.clean 8).next=X.next+8:=rfl
 have La:fw=lb\/h.next<=fw:=by
  rcases ee with e|e
  ·exact .inl e
  ·exact .inr (by omega)
 by_cases h2:o.kind=2
 ·have hk:(o.kind=2)=True:=eq_true h2
  simp+decide only[st,xv,np,Kh,Ul,x1,hk]
  refine bJ 10 rfl rfl ?_
  have c1:=av K1.top
  have ln:=K1.l1
  have sS:h.next<h1.next:=by omega
  simp+decide only[st,xv,np,Uk,x1,c1,ln,sS,b8]
  have K2:=K1.old ((Old.refl h1).clean (n:=10))
  have yU:=tE v.may h2
  have Jx:eC ah o.id=none:=by
   unfold eC
   cases ho:bK ah o.id with
   |none=>rfl
   |some o'=>exact absurd h2 (hs o' ho).2
  obtain⟨e2,fH,c2,S2,k2⟩:=K2.sp.map ok (id:=o.id) yU hM
  rw[Jx,Option.isSome_none,if_neg (by simp)] at S2
  refine fA c2 (fun j hj hn=>by omega) ?_
  have K3:=K2.Jl k2 S2
  have qT:KF h1 fH a fw:=(KF.old ((Old.refl h1).clean (n:=10))).trans k2.kf (.inl rfl)
  have av7:=iG.trans qT La
  have x2:cellsOf fH h.next=some (o.c aK):=by
   rw[show cellsOf fH h.next=cellsOf h1 h.next from ?_,x1];rfl
   unfold cellsOf
   rw[qT.2 _ sS (fun hb=>by have:=nK _ hb;omega) (fun hb=>by rcases hb with hb|hb|hb<;>omega) (fun hb=>by have:=nS _ hb;omega)]
  simp only[Ob.c] at x2
  have LM:h.next<fH.next:=by have:=qT.1;omega
  have c3:=av K3.top
  have l3:=K3.l1
  simp+decide only[st,xv,np,Uk]
  refine bJ 9 rfl rfl ?_
  simp+decide only[st,xv,np,Uj,x2,c3,l3,LM]
  have K4:=K3.old ((Old.refl fH).clean (n:=9))
  obtain⟨h3,c4,S4,k4⟩:=K4.sp.write ok (id:=o.id) (off:=0) (v:=o.data) (t:= .ao) (by unfold jc;rw[if_pos rfl]) (by simp)
  refine fA c4 (fun j hj hn=>by omega) ?_
  simp+decide only[st,xv,np,Uj]
  have K5:=K4.Jl k4 S4
  have kf3:KF fH h3 a fw:=(KF.old ((Old.refl fH).clean (n:=9))).trans k4.kf (.inl rfl)
  refine⟨rfl,fw,K5.fn fun x=>?_,La,av7.trans kf3 La⟩
  rw[aab KC.ks,if_pos h2]
  unfold jc
  by_cases e:x=o.id
  ·rw[if_pos e,if_pos e]
   simp[yA]
  ·rw[if_neg e,if_neg e,if_neg e]
 ·have hk:(o.kind=2)=False:=eq_false h2
  simp+decide only[st,xv,np,Kh,Ul,x1,hk]
  refine⟨rfl,fw,K1.fn fun x=>?_,La,iG⟩
  rw[aab KC.ks,if_neg h2]
  by_cases e:x=o.id
  ·rw[if_pos e,e]
   unfold eC
   cases ho:bK ah o.id with
   |none=>rfl
   |some o'=>simp[(hs o' ho).1]
  ·rw[if_neg e]
end
section
open Go
variable {P:Program} {h:aa} {a:KA} {lb N M:Nat} {ai:List Th} {ah:List Ob} {g:Nat->Option (List UInt8)}
def qC (l:List Ob) (id:Nat):List Ob:=l.filter fun o=>!(o.id==id)
theorem GU {id x:Nat}: ∀{l:List Ob},bK (qC l id) x=if x=id then none else bK l x
 |[]=>by simp[bK,qC]
 |o::l=>by
  have ih:=GU (id:=id) (x:=x) (l:=l)
  unfold bK qC at*
  rw[List.filter_cons]
  by_cases h:o.id=id
  ·have:(!(o.id==id))=false:=by simpa using h
   rw[this,if_neg (by simp),ih]
   by_cases hx:x=id
   ·rw[if_pos hx,if_pos hx]
   ·rw[if_neg hx,if_neg hx,List.find?_cons]
    have:(o.id==x)=false:=by simp;omega
    rw[this]
  ·have:(!(o.id==id))=true:=by simpa using h
   rw[this,if_pos rfl,List.find?_cons,List.find?_cons]
   by_cases hx:o.id=x
   ·have:(o.id==x)=true:=by simpa using hx
    rw[this,if_neg (by omega)]
   ·have:(o.id==x)=false:=by simpa using hx
    rw[this];exact ih
theorem KS.del (k:KS ah) {id:Nat}:KS (qC ah id):=⟨k.di.sublist (List.filter_sublist ..),fun o ho=>k.val o (List.mem_filter.1 ho).1⟩
theorem anY {id x:Nat}:eC (qC ah id) x=if x=id then none else eC ah x:=by
 unfold eC
 rw[GU]
 by_cases e:x=id
 ·rw[if_pos e,if_pos e];rfl
 ·rw[if_neg e,if_neg e]
theorem asT (ok:ax P tb) (K:KH h a lb N M ai ah (eC ah)) {id:Nat}:
 ∃h',an P 109 [.ptr a.kb 0, .int .u64 id] h (.az []) h'/\KH h' a lb N M ai (qC ah id) (eC (qC ah id))/\KF h h' a lb:=by
 refine ok.dz (rf:=yv) rfl (Nat.le_of_ble_eq_true rfl) ?_
 have c0:=av K.top
 obtain⟨f,A,R⟩:=K.ar
 obtain⟨e1,dc,c1,A1,k1⟩:=A.drop ok (id:=id)
 simp+decide only[st,xv,yv,QR,c0]
 refine aq c1 ?_
 have K1:KH dc a lb N M ai (qC ah id) (eC ah):=K.aiz k1 (.inl rfl) A1 (fun x=>by
  rw[GU]
  unfold jc
  by_cases e:x=id
  ·rw[if_pos e,if_pos e]
  ·rw[if_neg e,if_neg e];exact R x) K.ks.del
 obtain⟨e2,fH,c2,S2,k2⟩:=K1.sp.QZ ok (id:=id)
 have GK:=av K1.top
 simp+decide only[st,xv,yv,QR,QQ,GK]
 refine aq c2 ?_
 simp+decide only[st,xv,yv,QQ]
 refine⟨rfl,(K1.Jl k2 S2).fn fun x=>?_,k1.kf.trans k2.kf (.inl rfl)⟩
 rw[anY];rfl
theorem KH.row (K:KH h a lb N M ai ah g) {t:Nat} (ht:t<ai.length) {j:Nat} (hj:j<12):(aS aW ai).flatten[t*12+j]? =(ai[t].c aW)[j]?:=wT mJ (CA ht) hj
def qS (ai:List Th) (t:Int):Bool:=decide (0<=t)&&decide (t<ai.length)
theorem Y7 (ok:ax P tb) (K:KH h a lb N M ai ah g) {t:Int}:an P 26 [.ptr a.kb 0, .int .i64 t] h (.bool (qS ai t)) h:=by
 refine ok.keeps (rf:=B5) rfl (Nat.le_of_ble_eq_true rfl) rfl ?_
 have c0:=av K.top
 unfold qS
 by_cases h0:0<=t
 ·simp+decide only[st,xv,B5,T7,T6,c0,h0]
 ·simp+decide only[st,xv,B5,T7,T6,c0,h0]
  simp
def si (ai:List Th) (t:Int):Bool:=qS ai t&&!decide (((ai[t.toNat]?).map (·.bG)).getD 0=0)
theorem NI {t:Int} (ht:qS ai t=true): ∃n:Nat,t=n/\n<ai.length:=by
 unfold qS at ht
 simp only[Bool.and_eq_true,decide_eq_true_eq] at ht
 obtain⟨n,rfl⟩:=Int.eq_ofNat_of_zero_le ht.1
 exact⟨n,rfl,by omega⟩
theorem MD (ok:ax P tb) (K:KH h a lb N M ai ah g) {t:Int}:an P 11 [.ptr a.kb 0, .int .i64 t] h (.bool (si ai t)) h:=by
 refine ok.keeps (rf:=uN) rfl (Nat.le_of_ble_eq_true rfl) rfl ?_
 have c0:=av K.top
 have c1:=av K.bg
 unfold si
 simp+decide only[st,xv,uN,aix,Km]
 refine aq (Y7 ok K) ?_
 cases hk:qS ai t with
 |false=>
  simp+decide only[st,xv,uN,Km]
  first|done|rfl|simp
 |true=>
  obtain⟨n,rfl,hn⟩:=NI hk
  have gQ:(n:Int)<(ai.length:Int):=by omega
  have r6:=K.row hn (j:=6) (by omega)
  have e6:(ai[n].c aW)[6]? =some (.int .i64 ai[n].bG):=rfl
  rw[e6] at r6
  simp+decide only[st,xv,uN,Km,c0,c1,gQ,r6]
  simp[List.getElem?_eq_getElem hn]
end
section
open Go
variable {P:Program} {h:aa} {a:KA} {lb N M:Nat} {ai:List Th} {ah:List Ob} {g:Nat->Option (List UInt8)}
def kj (sz:Nat) (h H:aa) (v:AV) (rows:List (List AV)):Prop:=(rows=[]/\v= .vs [] .full)\/ ∃b,rows≠[]/\v= .rs b 0 rows.length sz/\cellsOf H b=some rows.flatten/\h.next<=b/\b<H.next
theorem kj.to {sz:Nat} {h H X:aa} {v:AV} {l:List (List AV)} (g:kj sz h H v l) (o:Old H X):kj sz h X v l:=by
 rcases g with g|⟨b,h0,h1,hc,h2,h3⟩
 ·exact .inl g
 ·refine .inr ⟨b,h0,h1,?_,h2,Nat.lt_of_lt_of_le h3 o.next⟩
  unfold cellsOf at hc ⊢
  rw[o.get b h3];exact hc
theorem kj.app {sz bytes id:Nat} {h H:aa} {v:AV} {l:List (List AV)} (g:kj sz h H v l) (ho:h.next<=id) (aL:H.next<=id) {x:List AV} (hl:l.length<2^20) (hb:bytes<2^10) (hs: ∀r∈l,r.length=sz): ∃v' H',fp bytes sz id H v (some [x])=some (v',H')/\kj sz h H' v' (l++[x])/\H.next<=H'.next/\v'.one=true/\v'.cells=[v']/\ ∀b,b<h.next->H'.get b=H.get b:=by
 have hmul:(l.length+1)*bytes<2^40:=Nat.lt_of_lt_of_le (Nat.mul_lt_mul_of_lt_of_lt (show l.length+1<2^21 by omega) hb) (by decide)
 rcases g with⟨rfl,rfl⟩|⟨b,h0,rfl,hc,h1,h2⟩
 ·have ef:(1:Nat)*bytes<2^40:=by omega
  refine⟨.rs id 0 1 sz,H.at id (.cells [x].flatten),?_, .inr ⟨id,by simp,rfl,av (by simp[aa.at]),ho,by simp[aa.at];omega⟩,by simp[aa.at];omega,rfl,rfl,fun b hb=>by simp only[aa.at];rw[if_neg (by omega)]⟩
  simp only[fp,List.length_singleton,List.cons_ne_nil,if_false]
  rw[if_pos ⟨ef,by decide⟩]
 ·have hlen:l.flatten.length=l.length*sz:=jE hs
  refine⟨.rs id 0 (l.length+1) sz,(H.set b none).at id (.cells (l++[x]).flatten),?_, .inr ⟨id,by simp,by simp,av (by simp[aa.at]),ho,by simp[aa.at];omega⟩,by simp[aa.at,aa.set];omega,rfl,rfl,fun c hb=>by simp only[aa.at,aa.set];rw[if_neg (by omega),if_neg (by omega)]⟩
  simp only[fp,hc,Option.bind_some,List.length_singleton,List.cons_ne_nil,if_false]
  rw[if_pos (by refine⟨trivial,trivial,?_,?_,?_⟩<;>omega),List.take_of_length_le (by omega)]
  simp
theorem jw {x:Th}:x.c aW=[.int .u8 x.ak.d, .vs (aw.R x.ak.ps) .ao, .vs ((ay .u16).R x.st.s) .full, .vs ((ay .u16).R x.st.i) .full, .vs ((ay .u16).R x.st.o) .full, .int .i64 x.own, .int .i64 x.bG, .int .u64 x.id, .int .u64 x.to, .int .i64 x.done, .int .i64 x.n, .bool x.new]:=rfl
theorem aoO (ok:ax P tb) {v:AV} {l:List Th} (hv: ∀h',Old h h'->i0 h' v 12 (aS aW l)) (hl:l.length<2^20) (m7: ∀x∈l,x.ak.ps.length<2^20):
 ∃w h',an P 25 [v] h w h'/\kj 12 h h' w (aS aW l)/\Old h h':=by
 refine ok.py (rf:=tq) rfl (Nat.le_of_ble_eq_true rfl) ?_
 have hlen:gI v=some l.length:=by rw[(hv h (Old.refl h)).len,gE]
 simp+decide only[st,xv,tq,ahQ,ahP,ahO,hlen]
 let I:Nat->Env->aa->Prop:=fun n ρ H=> ∃i,l.length=i+n/\Old h H/\kj 12 h H (ρ 3) (aS aW (l.take i))/\ρ 6=v/\ρ 7= .int .i64 l.length/\ρ 8= .int .i64 i
 refine dn I ?_ l.length ⟨0,by omega,Old.refl h, .inl ⟨rfl,rfl⟩,rfl,rfl,rfl⟩
 rintro n ρ H ⟨i,aE,ho,hg,r6,r7,r8⟩
 have wt:=ho.next
 by_cases hi:i<l.length
 ·have aB:(i:Int)<(l.length:Int):=by omega
  have hw:=cT (show i<2^61 by omega)
  obtain⟨p,g1,g2⟩:=(hv H ho).get i (by rw[gE];exact hi)
  have g3:(aS aW l)[i]'(by rw[gE];exact hi)=l[i].c aW:=by simp[aS]
  rw[g3] at g2
  simp+decide only[st,xv,tq,Ua,ahN,r6,r7,r8,aB,g1,g2,jw]
  generalize hX:aa.set _ _ _=X
  have xo:Old H X:=by rw[<-hX];exact((Old.refl H).at (Nat.le_refl _)).set (Nat.le_refl _)
  have x0:cellsOf X H.next=some (l[i].c aW):=by rw[<-hX];exact av (by simp[aa.set];rfl)
  have xn:X.next=H.next+1:=by rw[<-hX];simp[aa.at,aa.set]
  simp only[jw] at x0
  simp+decide only[st,xv,tq,T9,x0]
  refine aq (G5 ok (l:=l[i].ak) (t:= .ao) (by have:=m7 _ (List.getElem_mem hi);omega)) ?_
  have iP:X.set H.next (some (.cells (l[i].c aW)))=X:=by
   refine aa.gj ?_
   rw[<-hX];simp[aa.set];rfl
  simp only[jw] at iP
  simp+decide only[st,xv,tq,T9,T8,x0,Lb.c,iP,zg,xr]
  have uj:=List.length_take_le i l
  obtain⟨v',H',ha,cF,gQ,h1,h2,ed⟩:=(hg.to xo).app (bytes:=160) (id:=X.next) (by omega) (Nat.le_refl _) (x:=l[i].c aW) (by rw[gE];omega) (by omega) mJ
  simp only[jw] at ha
  simp+decide only[st,xv,tq,T8,ahM,ha,r8,hw]
  refine⟨n-1,by omega,i+1,by omega,⟨by omega,fun b hb=>by rw[ed b hb,xo.get b (by omega),ho.get b hb]⟩,?_,r6,r7,rfl⟩
  rw[<-List.take_append_getElem hi]
  unfold aS at cF ⊢
  rw[List.map_append]
  exact cF
 ·have aB: ¬(i:Int)<(l.length:Int):=by omega
  rw[List.take_of_length_le (by omega)] at hg
  simp+decide only[st,xv,tq,Ua,ahL,r7,r8,aB]
  exact⟨_,rfl,hg,ho⟩
theorem KH.mX (K:KH h a lb N M ai ah g) {h':aa} (o:Old h h'):i0 h' (.rs a.tb 0 ai.length 12) 12 (aS aW ai):=by
 have:=i0.rs (h:=h') (b:=a.tb) (sz:=12) (rows:=aS aW ai) (cs:=(aS aW ai).flatten) (av (by rw[o.get _ K.l2,K.bg])) (by rw[<-jE mJ,List.take_length]) mJ
 rwa [gE] at this
theorem anx (ok:ax P tb) (K:KH h a lb N M ai ah g) (hl:ai.length<2^20) (m7: ∀x∈ai,x.ak.ps.length<2^20):
 ∃w h',an P 10 [.ptr a.kb 0] h w h'/\kj 12 h h' w (aS aW ai)/\Old h h':=by
 refine ok.py (rf:=qc) rfl (Nat.le_of_ble_eq_true rfl) ?_
 have c0:=av K.top
 obtain⟨w,h',c,hg,ho⟩:=aoO ok (v:= .rs a.tb 0 ai.length 12) (l:=ai) (h:=h) (fun h' o=>K.mX o) hl m7
 simp+decide only[st,xv,qc,UK,UJ,UI,UH,c0]
 refine aq c ?_
 simp+decide only[st,xv,qc,UK,UJ,UI,UH]
 exact⟨w,rfl,hg,ho⟩
theorem kj.eK {sz:Nat} {h H:aa} {v:AV} {l:List (List AV)} {f:Nat} {args:List AV} (g:kj sz h H v l) (c:an P f args h v H) (o:Old h H) (hs: ∀r∈l,r.length=sz) (gM: ∀p,AV.iA p l=true) (aen: ∀p,AV.iA p (AV.fy l)=true):an P f args h (.vs (AV.fy l) .ao) h:=by
 rcases g with⟨rfl,rfl⟩|⟨b,h0,rfl,hc,h1,h2⟩
 ·exact(c.strip).restore o.get rfl
 ·have hg:H.get b=some (.cells l.flatten):=by
   revert hc;unfold cellsOf;split
   ·rename_i e;intro hh;cases hh;exact e
   ·intro hh;cases hh
  have hlen:l.flatten.length=l.length*sz:=jE hs
  have hr:rowsOf l.flatten 0 sz l.length=l:=by
   clear hc hg h0 c aen
   induction l with
   |nil=>rfl
   |cons r l ih=>
    have yN:=hs r (List.mem_cons_self ..)
    have ih:=ih (fun x hx=>hs x (List.mem_cons_of_mem _ hx)) (fun p=>by have:=gM p;simp only[AV.iA,Bool.and_eq_true] at this;exact this.2) (jE fun x hx=>hs x (List.mem_cons_of_mem _ hx))
    rw[List.flatten_cons,List.length_cons,rowsOf,List.drop_zero,qe yN]
    have:(0:Nat)+sz=r.length+0:=by omega
    rw[this,Cg (by rw[jE fun x hx=>hs x (List.mem_cons_of_mem _ hx)];omega),ih]
  have hf:AV.eK b l.flatten (.rs b 0 l.length sz)= .vs l .ao:=by
   unfold AV.eK
   rw[if_pos rfl,if_pos (by omega),hr]
  have c2:=c.freeze hg h1 (by rw[hf];simp only[AV.bB,gM];rfl)
  rw[hf] at c2
  have c3:=c2.strip
  refine an.restore (h':=H.set b none) c3 (fun x hx=>?_) ?_
  ·simp only[aa.set]
   rw[if_neg (by omega)]
   exact o.get x hx
  ·simp only[AV.strip,AV.bB,aen];rfl
theorem M0 {τ:Nat->aH}: ∀{l:List Th},AV.fy (aS τ l)=aS aK l
 |[]=>rfl
 |x::l=>by
  have ih:=M0 (τ:=τ) (l:=l)
  unfold aS at*
  simp only[List.map_cons,AV.fy,ih]
  congr 1
  simp only[Th.c,AV.bA,AV.strip,aw.ew,(ay .u16).ew,aK]
theorem aal {p:Nat->Bool}: ∀{l:List Th},AV.iA p (aS aK l)=true
 |[]=>rfl
 |x::l=>by
  have ih:=aal (p:=p) (l:=l)
  have h1:AV.bX p (x.c aK)=true:=by simp only[Th.c,AV.bX,AV.bB,aw.iB,(ay .u16).iB,aK];rfl
  unfold aS at*
  simp only[List.map_cons,AV.iA,ih,h1];rfl
theorem ZB {p:Nat->Bool}: ∀{l:List Th},AV.iA p (aS aW l)=true
 |[]=>rfl
 |x::l=>by
  have ih:=ZB (p:=p) (l:=l)
  have h1:AV.bX p (x.c aW)=true:=by simp only[jw,AV.bX,AV.bB,aw.iB,(ay .u16).iB];rfl
  unfold aS at*
  simp only[List.map_cons,AV.iA,ih,h1];rfl
theorem zx (ok:ax P tb) (K:KH h a lb N M ai ah g) (hl:ai.length<2^20) (m7: ∀x∈ai,x.ak.ps.length<2^20):an P 10 [.ptr a.kb 0] h (.vs (aS aK ai) .ao) h:=by
 obtain⟨w,h',c,hg,ho⟩:=anx ok K hl m7
 have:=hg.eK c ho mJ (fun p=>ZB) (fun p=>by rw[M0];exact aal)
 rwa [M0] at this
def iF (l:List Ob):List (List AV):=l.map fun o=>o.c aK
theorem Yz {l:List Ob}:(iF l).length=l.length:=by simp[iF]
theorem anl {l:List Ob}:dF 13 (iF l)=true:=by cases l<;>rfl
theorem Y3: ∀{l:List Ob},AV.fy (iF l)=iF l
 |[]=>rfl
 |x::l=>by
  have ih:=Y3 (l:=l)
  unfold iF at*
  simp only[List.map_cons,AV.fy,ih,zz]
theorem aat {p:Nat->Bool}: ∀{l:List Ob},AV.iA p (iF l)=true
 |[]=>rfl
 |x::l=>by
  have ih:=aat (p:=p) (l:=l)
  unfold iF at*
  simp only[List.map_cons,AV.iA,ih,u9];rfl
theorem dv {o:Ob}:o.c aK=[.int .u64 o.id, .int .i64 o.kind, .int .u8 o.ak.d, .vs (aw.R o.ak.ps) .ao, .vs ((ay .u16).R o.st.s) .ao, .vs ((ay .u16).R o.st.i) .ao, .vs ((ay .u16).R o.st.o) .ao, .int .i64 o.bf, .int .i64 o.used, .int .i64 o.next, .vs (BS o.data) .ao, .vs ((ay .u16).R o.bu) .ao, .vs (a9.R o.ring) .ao]:=rfl
theorem KS.ids (k:KS ah) (h0:ah≠[]) {f:Nat->Option (List UInt8)} (R:AO f ah):(ah.map (·.id)).Pairwise (· < ·)/\(∀id,id∈ah.map (·.id)↔(f id).isSome=true)/\ah.map (·.id)≠[]:=by
 refine⟨List.pairwise_map.2 k.di,fun id=>?_,?_⟩
 ·have:=R id
  constructor
  ·intro hm
   obtain⟨o,ho,rfl⟩:=List.mem_map.1 hm
   rw[mH k.di ho] at this
   obtain⟨d,_,hf⟩:=this
   rw[hf];rfl
  ·intro hf
   cases ho:bK ah id with
   |none=>rw[ho] at this;simp only at this;rw[this] at hf;cases hf
   |some o=>
    obtain⟨h1,rfl⟩:=lO ho
    exact List.mem_map.2 ⟨o,h1,rfl⟩
 ·exact fun e=>h0 (List.map_eq_nil_iff.1 e)
theorem anz (ok:ax P tb) (K:KH h a lb N M ai ah (eC ah)) (h0:ah≠[]) (f0:ah.length<=12):an P 14 [.ptr a.kb 0] h (.vs (iF ah) .ao) h:=by
 refine ok.eM (rf:=tu) rfl (Nat.le_of_ble_eq_true rfl) (by simp only[AV.bB,aat];rfl) ?_
 have c0:=av K.top
 obtain⟨f,A,R⟩:=K.ar
 obtain⟨i1,i2,i3⟩:=K.ks.ids h0 R
 simp+decide only[st,xv,tu,air,aiq,aip,Uz,c0]
 refine aq (A.ids ok i1 i2 i3 (by simpa using f0)) ?_
 simp+decide only[st,xv,tu,Uz,ba.aN,List.length_map]
 let I:Nat->Env->aa->Prop:=fun n ρ H=> ∃i,ah.length=i+n/\Old h H/\App h H (ρ 3) (iF (ah.take i))/\ρ 0= .ptr a.kb 0/\ρ 14= .vs ((ay .u64).R (ah.map (·.id))) .ao/\ρ 15= .int .i64 ah.length/\ρ 16= .int .i64 i
 refine dn I ?_ ah.length ⟨0,by omega,Old.refl h,App.nil h h,rfl,rfl,rfl,rfl⟩
 rintro n ρ H ⟨i,aE,ho,hg,r0,jf,gA,we⟩
 have wt:=ho.next
 by_cases hi:i<ah.length
 ·have aB:(i:Int)<(ah.length:Int):=by omega
  have hw:=cT (show i<2^61 by omega)
  have g1:((ay .u64).R (ah.map (·.id)))[i]? =some [.int .u64 ah[i].id]:=by
   rw[(ay .u64).eW (by simpa using hi)];simp[ay]
  have KX:=K.old ho
  have a7:=KN ok KX (id:=ah[i].id)
  rw[mH K.ks.di (List.getElem_mem hi)] at a7
  simp+decide only[st,xv,tu,Uy,aio,Ux,r0,jf,gA,we,aB,g1]
  refine aq a7 ?_
  simp+decide only[st,xv,tu,Ux,dv,xr]
  generalize hX:aa.set _ _ _=X
  have xo:Old H X:=by rw[<-hX];exact((Old.refl H).at (Nat.le_refl _)).set (Nat.le_refl _)
  have x0:cellsOf X H.next=some (ah[i].c aK):=by rw[<-hX];exact av (by simp[aa.set];rfl)
  simp only[dv] at x0
  have uj:=List.length_take_le i ah
  obtain⟨v',H',a1,a2,a3,a4,a5,a6⟩:=(hg.old xo).app (ho.trans xo) (bytes:=216) (sz:=13) (id:=X.next) (ho.trans xo).next [ah[i].c aK] anl (by rw[Yz];simp only[List.length_singleton];omega) (by rw[Yz];simp only[List.length_singleton];omega)
  simp only[dv] at a1
  simp+decide only[st,xv,tu,ain,aim,x0,a1,we,hw,xr]
  refine⟨n-1,by omega,i+1,by omega,a3,?_,r0,jf,gA,rfl⟩
  rw[<-List.take_append_getElem hi]
  unfold iF at a2 ⊢
  rw[List.map_append]
  exact a2
 ·have aB: ¬(i:Int)<(ah.length:Int):=by omega
  rw[List.take_of_length_le (by omega)] at hg
  obtain⟨tt,hv,_⟩:=hg
  simp+decide only[st,xv,tu,Uy,acC,gA,we,hv,aB,bE]
  exact⟨by simp only[AV.strip,Y3],ho.get⟩
end
section
open Go
variable {P:Program} {h:aa} {a:KA} {lb N M:Nat} {ai:List Th} {ah:List Ob} {g:Nat->Option (List UInt8)}
structure TV (l:List Th):Prop where
 len:l.length<=4
 ak: ∀x∈l,x.ak.ok/\x.ak.ps.length<=16
end
section
open Go
variable {P:Program} {h:aa} {a:KA} {lb N M:Nat} {ai:List Th} {ah:List Ob} {g:Nat->Option (List UInt8)} {tv:AV} {t:Nat}
structure KE (h:aa) (a:KA) (lb:Nat) (tv:AV):Prop where
 top:h.get a.kb=some (.cells [tv, .ptr a.ab 0, .ptr a.bs 0])
 ar:AA h a.ab a.mb lb 1 0 (fun _=>none)
 sp:SG h a.bs a.bm a.bl a.bp 0 (fun _=>none)
 l1:a.kb<h.next
 lI: ∀b,FA a lb b-> ¬FS a b
 lH: ∀b,b=a.kb-> ¬FA a lb b
 oS: ∀b,b=a.kb-> ¬FS a b
def yz (n:Nat) (a:KA) (lb:Nat):Prop:=n<=a.kb/\(∀b,FA a lb b->n<=b)/\ ∀b,FS a b->n<=b
theorem akx (ok:ax P tb) {tv:AV} (ho:tv.one=true) (hc:tv.cells=[tv]) (t0:Nat): ∃a lb h',an P 19 [tv] h (.ptr a.kb 0) h'/\a.tb=t0/\KE h' a lb tv/\yz h.next a lb/\Old h h':=by
 obtain⟨h1,c1,A1,n1,o1⟩:=AA.new ok (h:=h) (v:=1)
 obtain⟨bs,bm,bl,bp,h2,c2,S2,b1,b2,b3,b4,o2⟩:=SG.new ok (h:=h1)
 have lS:=S2.lt
 have n2:=o2.next
 refine⟨⟨h2.next,t0,h.next+1,h.next,bs,bm,bl,bp⟩,h.next+1,?_⟩
 have hx: ∃h',an P 19 [tv] h (.ptr h2.next 0) h'/\h'=h2.at h2.next (.cells [tv, .ptr (h.next+1) 0, .ptr bs 0]):=by
  refine ok.dz (rf:=y5) rfl (Nat.le_of_ble_eq_true rfl) ?_
  simp+decide only[st,xv,y5,ah6,Kj]
  refine aq c1 ?_
  simp+decide only[st,xv,y5,Kj]
  refine aq c2 ?_
  simp+decide only[st,xv,y5,Kj,hc,ho,xr]
  exact⟨rfl,rfl⟩
 obtain⟨h',c,rfl⟩:=hx
 have o3:Old h2 (h2.at h2.next (.cells [tv, .ptr (h.next+1) 0, .ptr bs 0])):=(Old.refl h2).at (Nat.le_refl _)
 refine⟨_,c,rfl,⟨by simp[aa.at],(A1.old o2).old o3,S2.old o3,by simp[aa.at],?_,?_,?_⟩,⟨by show h.next<=h2.next;omega,?_,?_⟩,(o1.trans o2).trans o3⟩
 ·rintro b (e|e|e) (f|f|f|f)<;>(try simp only at e)<;>(try simp only at f)<;>omega
 ·rintro b e (f|f|f)<;>(try simp only at e)<;>(try simp only at f)<;>omega
 ·rintro b e (f|f|f|f)<;>(try simp only at e)<;>(try simp only at f)<;>omega
 ·rintro b (f|f|f)<;>(try simp only at f)<;>omega
 ·rintro b (f|f|f|f)<;>(try simp only at f)<;>omega
theorem KE.bM (K:KE h a lb tv) {h':aa} (o: ∀b,b<h.next->b=a.kb\/FA a lb b\/FS a b->h'.get b=h.get b) (hn:h.next<=h'.next):KE h' a lb tv:=by
 have A:=K.ar.lt
 have S:=K.sp.lt
 exact⟨by rw[o _ K.l1 (.inl rfl),K.top],K.ar.bM hn (o _ A.1 (.inr (.inl (.inl rfl)))) (o _ A.2.1 (.inr (.inl (.inr (.inl rfl))))) (fun h=>o _ h (.inr (.inl (.inr (.inr rfl))))) (Nat.le_refl _),
  K.sp.bM hn (o _ S.1 (.inr (.inr (.inl rfl)))) (o _ S.2.1 (.inr (.inr (.inr (.inl rfl))))) (o _ S.2.2.1 (.inr (.inr (.inr (.inr (.inl rfl)))))) (o _ S.2.2.2 (.inr (.inr (.inr (.inr (.inr rfl)))))) (Nat.le_refl _),Nat.lt_of_lt_of_le K.l1 hn,K.lI,K.lH,K.oS⟩
theorem KE.kh (K:KE h a lb (.rs t 0 ai.length 12)) (ht:h.get t=some (.cells (aS aW ai).flatten)) (l2:t<h.next) (hn:a.kb≠t/\ ¬FA a lb t/\ ¬FS a t):KH h {a with tb:=t} lb 0 0 ai [] (eC []):=
 ⟨K.top,ht,⟨_,K.ar,fun id=>rfl⟩,K.sp,K.l1,l2,hn.1,K.lI,by
   rintro b (e|e)
   ·exact K.lH b e
   ·simp only at e;subst e;exact hn.2.1,by
   rintro b (e|e)
   ·exact K.oS b e
   ·simp only at e;subst e;exact hn.2.2,⟨List.Pairwise.nil,fun o ho=>by cases ho⟩⟩
structure Cf where
 bf:Int
 lY:Int
 bg:List Lb
def Ay:ba Lb:=⟨fun l=>l.c .ao,2,fun _=>rfl,fun l=>by simp only[Lb.c,AV.bA,AV.strip,aw.ew],fun p l=>by simp only[Lb.c,AV.bX,AV.bB,aw.iB];rfl⟩
def Cf.c (c:Cf) (t:aH):List AV:=[.int .i64 c.bf, .int .i64 c.lY, .vs (Ay.R c.bg) t]
def iU (c:Cf):Bool:=decide (0<=c.bf)&&decide (c.bf<=400)&&decide (0<=c.lY)&&decide (c.lY<=100000)&&decide (1<=c.bg.length)&&decide (c.bg.length<=4)&&c.bg.all dB
def qN (l:Lb):Th:=⟨l,oz,0,0,0,0,0,0,false⟩
def root (q:Int):Ob:={bc with id:=1,kind:=1,ak:=⟨2,[]⟩,bf:=q,next:=1}
theorem apn {q:Int} (h0:0<=q) (h1:q<=400):jB (root q):=by
 refine⟨⟨⟨show 2<256 by decide,fun p hp=>(by cases hp),show 0<2^20 by decide⟩,show 1<2^64 by decide,show 0<2^20 by decide,show 0<2^20 by decide,fun c hc=>(by cases hc)⟩,?_,rfl⟩
 have e1:dM (root q).id=true:=show dM 1=true by decide
 have e2:qB (root q)=true:=show(dB ⟨2,[]⟩&&(dR []).length==0)=true by decide
 unfold eY
 rw[e1,e2]
 unfold nF root
 simp[h0,h1,bc]
theorem KE.mQ (K:KE h a lb tv) {yC:AV}:KE (h.set a.kb (some (.cells [yC, .ptr a.ab 0, .ptr a.bs 0]))) a lb yC:=by
 have e: ∀b,FA a lb b\/FS a b->(h.set a.kb (some (.cells [yC, .ptr a.ab 0, .ptr a.bs 0]))).get b=h.get b:=by
  intro b hb
  simp only[aa.set]
  rw[if_neg]
  intro he;subst he
  rcases hb with hb|hb
  ·exact K.lH _ rfl hb
  ·exact K.oS _ rfl hb
 have hn:h.next<=(h.set a.kb (some (.cells [yC, .ptr a.ab 0, .ptr a.bs 0]))).next:=Nat.le_refl _
 exact⟨by simp[aa.set],K.ar.bM hn (e _ (.inl (.inl rfl))) (e _ (.inl (.inr (.inl rfl)))) (fun _=>e _ (.inl (.inr (.inr rfl)))) (Nat.le_refl _),
  K.sp.bM hn (e _ (.inr (.inl rfl))) (e _ (.inr (.inr (.inl rfl)))) (e _ (.inr (.inr (.inr (.inl rfl))))) (e _ (.inr (.inr (.inr (.inr rfl))))) (Nat.le_refl _),K.l1,K.lI,K.lH,K.oS⟩
theorem kj.avL {sz k:Nat} {h H:aa} {v:AV} {l:List (List AV)} {x:Option cI} (g:kj sz h H v l) (hk:k<h.next):kj sz h (H.set k x) v l:=by
 rcases g with g|⟨b,h0,h1,hc,h2,h3⟩
 ·exact .inl g
 ·refine .inr ⟨b,h0,h1,?_,h2,h3⟩
  unfold cellsOf at hc ⊢
  simp only[aa.set]
  rw[if_neg (by omega)];exact hc
theorem kj.sG {sz bytes id n:Nat} {h H:aa} {v:AV} {l:List (List AV)} (g:kj sz h H v l) (ho:h.next<=H.next) (aL:H.next<=id) (aE:id<H.next+n) {x:List AV} (hl:l.length<2^20) (hb:bytes<2^10) (hs: ∀r∈l,r.length=sz): ∃v' H',fp bytes sz id (H.clean n) v (some [x])=some (v',H')/\kj sz h H' v' (l++[x])/\H'.next=H.next+n/\v'.one=true/\v'.cells=[v']/\(∀b,b<h.next->H'.get b=H.get b)/\ ∀b,b≠id->H.next<=b->H'.get b=none:=by
 have hmul:(l.length+1)*bytes<2^40:=Nat.lt_of_lt_of_le (Nat.mul_lt_mul_of_lt_of_lt (show l.length+1<2^21 by omega) hb) (by decide)
 rcases g with⟨rfl,rfl⟩|⟨b,h0,rfl,hc,h1,h2⟩
 ·have ef:(1:Nat)*bytes<2^40:=by omega
  refine⟨.rs id 0 1 sz,(H.clean n).at id (.cells [x].flatten),?_, .inr ⟨id,by simp,rfl,av (by simp[aa.at]),by omega,by simp[aa.at,aa.clean];omega⟩,by simp[aa.at,aa.clean];omega,rfl,rfl,fun b hb=>by simp only[aa.at,aa.clean];rw[if_neg (by omega),if_pos (by omega)],fun b hb hn=>by simp only[aa.at,aa.clean];rw[if_neg hb,if_neg (by omega)]⟩
  simp only[fp,List.length_singleton,List.cons_ne_nil,if_false]
  rw[if_pos ⟨ef,by decide⟩]
 ·have hlen:l.flatten.length=l.length*sz:=jE hs
  have dm:cellsOf (H.clean n) b=some l.flatten:=by
   rw[<-hc];unfold cellsOf;simp only[aa.clean];rw[if_pos h2]
  refine⟨.rs id 0 (l.length+1) sz,((H.clean n).set b none).at id (.cells (l++[x]).flatten),?_, .inr ⟨id,by simp,by simp,av (by simp[aa.at]),by omega,by simp[aa.at,aa.clean,aa.set];omega⟩,by simp[aa.at,aa.set,aa.clean];omega,rfl,rfl,fun c hb=>by simp only[aa.at,aa.set,aa.clean];rw[if_neg (by omega),if_neg (by omega),if_pos (by omega)],fun c hb hn=>by simp only[aa.at,aa.set,aa.clean];rw[if_neg hb,if_neg (by omega),if_neg (by omega)]⟩
  simp only[fp,dm,Option.bind_some,List.length_singleton,List.cons_ne_nil,if_false]
  rw[if_pos (by refine⟨trivial,trivial,?_,?_,?_⟩<;>omega),List.take_of_length_le (by omega)]
  simp
theorem akp (ok:ax P tb) {c:Cf} {w:AV} {τ:aH} (hv: ∀h',Old h h'->i0 h' w 2 (c.bg.map fun l=>l.c τ)) (w1:w.one=true) (w2:w.cells=[w]) (hl: ∀l∈c.bg,l.ok) (hn:c.bg.length<2^20):
 (iU c=false/\ ∃h',an P 6 [.agg [.int .i64 c.bf, .int .i64 c.lY,w]] h (.az [.nil, .int .i64 1]) h'/\Old h h')\/
 (iU c=true/\ ∃a lb h',an P 6 [.agg [.int .i64 c.bf, .int .i64 c.lY,w]] h (.az [.ptr a.kb 0, .int .i64 0]) h'/\KH h' a lb 1 0 (c.bg.map qN) [root c.bf] (eC [root c.bf])/\Old h h'/\yz h.next a lb/\h.next<=a.tb):=by
 have key: ∃v h',an P 6 [.agg [.int .i64 c.bf, .int .i64 c.lY,w]] h v h'/\Old h h'/\((iU c=false/\v= .az [.nil, .int .i64 1])\/(iU c=true/\ ∃a lb,v= .az [.ptr a.kb 0, .int .i64 0]/\KH h' a lb 1 0 (c.bg.map qN) [root c.bf] (eC [root c.bf])/\yz h.next a lb/\h.next<=a.tb)):=by
  refine ok.py (rf:=c6) rfl (Nat.le_of_ble_eq_true rfl) ?_
  have hlen: ∀h',Old h h'->gI w=some c.bg.length:=fun h' o=>by rw[(hv h' o).len,List.length_map]
  have hlen:=hlen h (Old.refl h)
  simp+decide only[st,xv,c6,aji,w1,w2]
  generalize hX:aa.at _ _ _=X
  have xo:Old h X:=by rw[<-hX];exact(Old.refl h).at (Nat.le_refl _)
  have x0:cellsOf X h.next=some [.int .i64 c.bf, .int .i64 c.lY,w]:=by rw[<-hX];exact av (by simp[aa.at])
  have xn:X.next=h.next+1:=by rw[<-hX];simp[aa.at]
  simp+decide only[st,xv,c6,vT,x0]
  refine aq (HG ok) ?_
  by_cases a1:0<=c.bf/\c.bf<=400
  case neg=>
   have e1:(decide (0<=c.bf)&&decide (c.bf<=400))=false:=by
    rw[<-Bool.not_eq_true];simpa using a1
   have hb:iU c=false:=by unfold iU;rw[e1];simp
   rw[e1]
   simp+decide only[st,xv,c6,vT,Ft]
   exact⟨_,rfl,xo, .inl ⟨hb,rfl⟩⟩
  have e1:(decide (0<=c.bf)&&decide (c.bf<=400))=true:=by simpa using a1
  rw[e1]
  simp+decide only[st,xv,c6,vT,x0]
  refine aq (HG ok) ?_
  by_cases a2:0<=c.lY/\c.lY<=100000
  case neg=>
   have e2:(decide (0<=c.lY)&&decide (c.lY<=100000))=false:=by
    rw[<-Bool.not_eq_true];simpa using a2
   have hb:iU c=false:=by unfold iU;rw[e1,Bool.true_and,e2];simp
   rw[e2]
   simp+decide only[st,xv,c6,vT,Ft]
   exact⟨_,rfl,xo, .inl ⟨hb,rfl⟩⟩
  have e2:(decide (0<=c.lY)&&decide (c.lY<=100000))=true:=by simpa using a2
  rw[e2]
  by_cases a3:c.bg.length<1
  ·have hb:iU c=false:=by unfold iU;rw[show decide (1<=c.bg.length)=false from decide_eq_false (by omega)];simp
   have Mq:(c.bg.length:Int)<1:=by omega
   simp+decide only[st,xv,c6,vT,Ft,x0,hlen,Mq]
   exact⟨_,rfl,xo, .inl ⟨hb,rfl⟩⟩
  have Mq: ¬(c.bg.length:Int)<1:=by omega
  by_cases a4:4<c.bg.length
  ·have hb:iU c=false:=by unfold iU;rw[show decide (c.bg.length<=4)=false from decide_eq_false (by omega)];simp
   have Xb:(4:Int)<(c.bg.length:Int):=by omega
   simp+decide only[st,xv,c6,vT,Ft,x0,hlen,Mq,Xb]
   exact⟨_,rfl,xo, .inl ⟨hb,rfl⟩⟩
  have Xb: ¬(4:Int)<(c.bg.length:Int):=by omega
  simp+decide only[st,xv,c6,vT,VG,x0,hlen,Mq,Xb]
  obtain⟨a,lb,X1,c1,kB,K1,sM,o1⟩:=akx ok (h:=X) (tv:= .vs [] .full) rfl rfl 0
  refine aq c1 ?_
  have x1:cellsOf X1 h.next=some [.int .i64 c.bf, .int .i64 c.lY,w]:=by rw[<-x0];unfold cellsOf;rw[o1.get _ (by omega)]
  have wg:=o1.next
  simp+decide only[st,xv,c6,VG,ajh,x1,hlen]
  let I:Nat->Env->aa->Prop:=fun n ρ H=> ∃i tv,c.bg.length=i+n/\KE H a lb tv/\kj 12 X1 H tv (aS aW ((c.bg.take i).map qN))/\X1.next<=H.next/\(∀b,b<X1.next->b≠a.kb->H.get b=X1.get b)/\(∀l∈c.bg.take i,dB l=true)/\ρ 1= .ptr h.next 0/\ρ 4= .ptr a.kb 0/\ρ 31=w/\ρ 32= .int .i64 c.bg.length/\ρ 33= .int .i64 i
  refine dn I ?_ c.bg.length ⟨0,_,by omega,K1, .inl ⟨rfl,rfl⟩,Nat.le_refl _,fun _ _ _=>rfl,fun l hl=>by simp at hl,rfl,rfl,rfl,rfl,rfl⟩
  rintro n ρ H ⟨i,tv,aE,K,hg,wt,ho,hm,r1,r4,r31,sL,V4⟩
  have Vj:Old h H:=⟨by have:=xo.next;omega,fun b hb=>by
   have:=sM.1
   rw[ho b (by omega) (by omega),o1.get b (by omega),xo.get b hb]⟩
  by_cases hi:i<c.bg.length
  ·have aB:(i:Int)<(c.bg.length:Int):=by omega
   have hw:=cT (show i<2^61 by omega)
   obtain⟨p,g1,g2⟩:=(hv H Vj).get i (by rw[List.length_map];exact hi)
   have g3:(c.bg.map fun l=>l.c τ)[i]'(by rw[List.length_map];exact hi)=[.int .u8 c.bg[i].d, .vs (aw.R c.bg[i].ps) τ]:=by simp[Lb.c]
   rw[g3] at g2
   simp+decide only[st,xv,c6,VF,ajg,r31,sL,V4,aB,g1,g2]
   generalize hY:aa.set _ _ _=Y
   have yo:Old H Y:=by rw[<-hY];exact((Old.refl H).at (Nat.le_refl _)).set (Nat.le_refl _)
   have y0:cellsOf Y H.next=some [.int .u8 c.bg[i].d, .vs (aw.R c.bg[i].ps) τ]:=by rw[<-hY];exact av (by simp[aa.set])
   have yn:Y.next=H.next+1:=by rw[<-hY];simp[aa.at,aa.set]
   have jh:=hl _ (List.getElem_mem hi)
   simp+decide only[st,xv,c6,Lk,y0]
   refine aq (Ng (l:=c.bg[i]) (t:=τ) ok jh) ?_
   cases Wz:dB c.bg[i] with
   |false=>
    have hb:iU c=false:=by
     unfold iU
     rw[show c.bg.all dB=false from ?_]
     ·simp
     ·rw[List.all_eq_false];exact⟨_,List.getElem_mem hi,by simp[Wz]⟩
    simp+decide only[st,xv,c6,Lk,ajf]
    exact⟨_,rfl,Vj.trans yo, .inl ⟨hb,rfl⟩⟩
   |true=>
    have KY:=K.bM (h':=Y) (fun b hb _=>yo.get b hb) yo.next
    have cY:=av KY.top
    have lk:=KY.l1
    have ly:H.next<Y.next:=by omega
    have qX:=Hn Wz
    simp+decide only[st,xv,c6,Lk]
    refine qg 7 13 rfl (by omega) rfl ?_
    simp+decide only[st,xv,c6,VE,r4,y0,cY,lk,ly]
    refine i6 (G5 ok (l:=c.bg[i]) (t:=τ) (by omega)) (dp (Nat.le_refl _)) ?_
    have uj:=List.length_take_le i c.bg
    obtain⟨yC,H',ha,cF,gQ,h1,h2,ed,fF⟩:=(hg.to yo).sG (bytes:=160) (id:=Y.next+(7+1+1)) (n:=13) (by omega) (by omega) (by omega) (x:=(qN c.bg[i]).c aW) (by rw[gE];simp;omega) (by omega) mJ
    have rq:fp 160 12 (Y.next+(7+1+1)) (Y.clean 13) tv (some [[.int .u8 c.bg[i].d, .vs (aw.R c.bg[i].ps) .ao, .vs [] .full, .vs [] .full, .vs [] .full, .int .i64 0, .int .i64 0, .int .u64 0, .int .u64 0, .int .i64 0, .int .i64 0, .bool false]])=some (yC,H'):=ha
    have Wg:=K1.l1
    have gk: ∀b,b<Y.next->b<X1.next->H'.get b=Y.get b:=by
     intro b hb ef
     rw[ed b ef]
    have cH:cellsOf H' a.kb=some [tv, .ptr a.ab 0, .ptr a.bs 0]:=by
     rw[<-cY];unfold cellsOf;rw[gk _ lk Wg]
    simp+decide only[st,xv,c6,VE,Lb.c,y0,cY,lk,ly,zg,rq,xr,h1,h2,cH]
    have KA:=KY.ar.lt
    have KSl:=KY.sp.lt
    have hA1:=K1.ar.lt
    have hS1:=K1.sp.lt
    have KH':KE H' a lb tv:=KY.bM (fun b hb hf=>gk b hb (by
     rcases hf with hf|hf|hf
     ·omega
     ·rcases hf with hf|hf|hf<;>omega
     ·rcases hf with hf|hf|hf|hf<;>omega)) (by omega)
    refine⟨fun j hj hn=>fF _ (by omega) (by omega),(jD lk).2 (fun j hj hn=>fF _ (by omega) (by omega)),?_⟩
    simp+decide only[st,xv,c6,afH,V4,hw]
    refine⟨n-1,by omega,i+1,yC,by omega,KH'.mQ,?_,by simp only[aa.set];omega,fun b hb hk=>?_,?_,r1,r4,r31,sL,rfl⟩
    ·rw[<-List.take_append_getElem hi,List.map_append]
     unfold aS at cF ⊢
     rw[List.map_append]
     exact cF.avL Wg
    ·simp only[aa.set]
     rw[if_neg hk,gk b (by omega) hb,yo.get b (by omega),ho b hb hk]
    ·intro l bj
     rw[<-List.take_append_getElem hi] at bj
     rcases List.mem_append.1 bj with bj|bj
     ·exact hm l bj
     ·have:l=c.bg[i]:=by simpa using bj
      rw[this];exact Wz
  ·have aB: ¬(i:Int)<(c.bg.length:Int):=by omega
   have WE:i=c.bg.length:=by omega
   rw[List.take_of_length_le (by omega)] at hg hm
   have hcf:iU c=true:=by
    unfold iU
    have:c.bg.all dB=true:=List.all_eq_true.2 hm
    simp[this,a1,a2];omega
   rcases hg with⟨e,_⟩|⟨b,_,rfl,dm,ef,bY⟩
   ·have:=congrArg List.length e
    rw[gE] at this
    simp only[List.length_map,List.length_nil] at this
    omega
   rw[gE,List.length_map] at K
   have hgb:H.get b=some (.cells (aS aW (c.bg.map qN)).flatten):=by
    revert dm;unfold cellsOf;split
    ·rename_i e;intro hh;cases hh;exact e
    ·intro hh;cases hh
   have hA1:=K1.ar.lt
   have hS1:=K1.sp.lt
   have Wg:=K1.l1
   have KK:=(KE.kh (ai:=c.bg.map qN) (t:=b) (by rw[List.length_map];exact K) hgb bY ⟨by omega,by rintro(e|e|e)<;>omega,by rintro(e|e|e|e)<;>omega⟩)
   have xH:cellsOf H h.next=some [.int .i64 c.bf, .int .i64 c.lY,w]:=by
    rw[<-x1];unfold cellsOf;rw[ho _ (by omega) (by have:=sM.1;omega)]
   obtain⟨h',c2,aT,K2,fY,qT⟩:=aiJ ok KK (o:=root c.bf) (t:=fun _=> .full) (apn a1.1 a1.2) (fun o' ed=>by cases ed) (by decide) (by decide)
   simp+decide only[st,xv,c6,VF,Sz,sL,V4,r1,r4,aB,xH]
   refine aq c2 ?_
   simp+decide only[st,xv,c6,Sz,afG,r4]
   refine⟨_,rfl,⟨by have:=qT.1;have:=xo.next;omega,fun x hx=>?_⟩, .inr ⟨hcf,{a with tb:=b},aT,rfl,K2,⟨?_,?_,?_⟩,?_⟩⟩
   ·rw[qT.2 x (by have:=xo.next;omega) ?_ ?_ ?_]
    ·exact Vj.get x hx
    ·rintro(e|e)
     ·have:=sM.1;simp only at e;omega
     ·simp only at e;omega
    ·intro e;have:=sM.2.1 x e;omega
    ·intro e;have:=sM.2.2 x e;omega
   ·have:=sM.1;show h.next<=a.kb;omega
   ·rintro x (e|e|e)
    ·have:=sM.2.1 x (.inl e);omega
    ·have:=sM.2.1 x (.inr (.inl e));omega
    ·rcases fY with h|h
     ·have:=sM.2.1 x (.inr (.inr (e.trans h)));omega
     ·omega
   ·intro x e;have:=sM.2.2 x e;omega
   ·show h.next<=b;omega
 obtain⟨v,h',hc,o,hq⟩:=key
 rcases hq with⟨e,rfl⟩|⟨e,a,lb,rfl,hq⟩
 ·exact .inl ⟨e,h',hc,o⟩
 ·exact .inr ⟨e,a,lb,h',hc,hq.1,o,hq.2⟩
end
section
open Go
variable {P:Program} {h:aa} {a:KA} {lb N M:Nat} {ai:List Th} {ah:List Ob} {g:Nat->Option (List UInt8)}
theorem KF.eZ {h0 h h':aa} {a:KA} {lb:Nat} (k:KF h h' a lb) (o:Old h0 h) (kn:yz h0.next a lb) (ht:h0.next<=a.tb):Old h0 h':=by
 have:=o.next
 refine⟨Nat.le_trans o.next k.1,fun x hx=>?_⟩
 rw[k.2 x (by omega) ?_ ?_ ?_,o.get x hx]
 ·rintro(e|e)
  ·have:=kn.1;omega
  ·omega
 ·intro e;have:=kn.2.1 x e;omega
 ·intro e;have:=kn.2.2 x e;omega
theorem yz.to {n m:Nat} {a:KA} {lb aT:Nat} (k:yz n a lb) (hl:aT=lb\/m<=aT) (hm:n<=m):yz n a aT:=by
 refine⟨k.1,fun b hb=>?_,k.2.2⟩
 rcases hb with hb|hb|hb
 ·exact k.2.1 b (.inl hb)
 ·exact k.2.1 b (.inr (.inl hb))
 ·rcases hl with h|h
  ·exact k.2.1 b (.inr (.inr (hb.trans h)))
  ·omega
end
section
open Go
variable {P:Program} {h:aa} {a:KA} {lb N M:Nat} {ai:List Th} {ah:List Ob} {g:Nat->Option (List UInt8)}
structure Rp where
 NW:Int
 err:Int
 ret:Nat
 data:List UInt8
 deriving DecidableEq
structure KX (h:aa) (xb:Nat) (a:KA) (lb N M t:Nat) (ai:List Th) (ah:List Ob) (rp:Rp):Prop where
 k:KH h a lb N M ai ah (eC ah)
 x: ∃tl,h.get xb=some (.cells [.ptr a.kb 0, .ptr a.tb (t*12), .int .i64 t, .int .i64 rp.NW, .int .i64 rp.err, .int .u64 rp.ret, .vs (BS rp.data) tl])
 lx:xb<h.next
 dK: ¬FK a xb
 dA: ¬FA a lb xb
 dS: ¬FS a xb
 ht:t<ai.length
 tv:TV ai
 root: ∃r,bK ah 1=some r
variable {xb t:Nat} {rp:Rp}
theorem KX.old (X:KX h xb a lb N M t ai ah rp) {h':aa} (o:Old h h'):KX h' xb a lb N M t ai ah rp:=by
 obtain⟨tl,hx⟩:=X.x
 exact⟨X.k.old o,⟨tl,by rw[o.get _ X.lx,hx]⟩,Nat.lt_of_lt_of_le X.lx o.next,X.dK,X.dA,X.dS,X.ht,X.tv,X.root⟩
theorem KX.ak (X:KX h xb a lb N M t ai ah rp):(ai[t]'X.ht).ak.ok:=(X.tv.ak _ (List.getElem_mem X.ht)).1
theorem KX.th (X:KX h xb a lb N M t ai ah rp):cellsOf h a.tb=some (aS aW ai).flatten/\t*12+12<=(aS aW ai).flatten.length/\((aS aW ai).flatten.drop (t*12)).take 2=[.int .u8 (ai[t]'X.ht).ak.d, .vs (aw.R (ai[t]'X.ht).ak.ps) .ao]:=by
 have hl:(aS aW ai).flatten.length=ai.length*12:=by rw[jE mJ,gE]
 have ht:=X.ht
 refine⟨av X.k.bg,by omega,?_⟩
 have hc:=Hc (rows:=aS aW ai) (i:=t) (by rw[gE];exact ht) mJ
 have e:((aS aW ai).flatten.drop (t*12)).take 2=(((aS aW ai).flatten.drop (t*12)).take 12).take 2:=by rw[List.take_take];rfl
 rw[e,hc]
 simp[aS,jw]
theorem DJ (ok:ax P tb) (X:KX h xb a lb N M t ai ah rp) {o:Ob} {tl:Nat->aH} (hl:o.ak.ok):an P 104 [.ptr xb 0, .agg (o.c tl)] h (.bool (fD (ai[t]'X.ht).ak o.ak)) h:=by
 refine ok.keeps (rf:=Bh) rfl (Nat.le_of_ble_eq_true rfl) rfl ?_
 obtain⟨rt,hx⟩:=X.x
 have cx:=av hx
 obtain⟨ct,hle,ff⟩:=X.th
 have l2:=X.k.l2
 have lx:=X.lx
 have jt:t*12+2<=(aS aW ai).flatten.length:=by omega
 simp+decide only[st,xv,Bh,adO,Ob.c]
 generalize hY:aa.at _ _ _=Y
 have yo:Old h Y:=by rw[<-hY];exact(Old.refl h).at (Nat.le_refl _)
 have y0:cellsOf Y h.next=some (o.c tl):=by rw[<-hY];exact av (by simp[aa.at,Ob.c])
 have yn:h.next<Y.next:=by rw[<-hY];simp[aa.at]
 have oT:cellsOf Y xb=_:=(show cellsOf Y xb=cellsOf h xb by unfold cellsOf;rw[yo.get _ lx]).trans cx
 have wE:cellsOf Y a.tb=_:=(show cellsOf Y a.tb=cellsOf h a.tb by unfold cellsOf;rw[yo.get _ l2]).trans ct
 simp only[Ob.c] at y0
 have n1:xb<Y.next:=by omega
 have n2:a.tb<Y.next:=by omega
 refine bJ 11 rfl rfl ?_
 simp+decide only[st,xv,Bh,adN,oT,wE,y0,n1,n2,yn,jt,ff]
 refine fA (alN (a:=(ai[t]'X.ht).ak) (b:=o.ak) (ta:= .ao) (eI:=tl 0) ok X.ak hl) (dp (Nat.le_refl _)) ?_
 simp+decide only[st,xv]
 intro b hb
 rw[if_pos (by omega)]
 exact yo.get b hb
theorem N6 (ok:ax P tb) (X:KX h xb a lb N M t ai ah rp) {o:Ob} {tl:Nat->aH} (hl:o.ak.ok):an P 105 [.ptr xb 0, .agg (o.c tl)] h (.bool (fo (ai[t]'X.ht).ak o.ak)) h:=by
 refine ok.keeps (rf:=Bg) rfl (Nat.le_of_ble_eq_true rfl) rfl ?_
 obtain⟨rt,hx⟩:=X.x
 have cx:=av hx
 obtain⟨ct,hle,ff⟩:=X.th
 have l2:=X.k.l2
 have lx:=X.lx
 have jt:t*12+2<=(aS aW ai).flatten.length:=by omega
 simp+decide only[st,xv,Bg,adM,Ob.c]
 generalize hY:aa.at _ _ _=Y
 have yo:Old h Y:=by rw[<-hY];exact(Old.refl h).at (Nat.le_refl _)
 have y0:cellsOf Y h.next=some (o.c tl):=by rw[<-hY];exact av (by simp[aa.at,Ob.c])
 have yn:h.next<Y.next:=by rw[<-hY];simp[aa.at]
 have oT:cellsOf Y xb=_:=(show cellsOf Y xb=cellsOf h xb by unfold cellsOf;rw[yo.get _ lx]).trans cx
 have wE:cellsOf Y a.tb=_:=(show cellsOf Y a.tb=cellsOf h a.tb by unfold cellsOf;rw[yo.get _ l2]).trans ct
 simp only[Ob.c] at y0
 have n1:xb<Y.next:=by omega
 have n2:a.tb<Y.next:=by omega
 refine bJ 11 rfl rfl ?_
 simp+decide only[st,xv,Bg,adL,oT,wE,y0,n1,n2,yn,jt,ff]
 refine fA (akJ (a:=(ai[t]'X.ht).ak) (b:=o.ak) (ta:= .ao) (eI:=tl 0) ok X.ak hl) (dp (Nat.le_refl _)) ?_
 simp+decide only[st,xv]
 intro b hb
 rw[if_pos (by omega)]
 exact yo.get b hb
def ey (l o:Lb):Bool:=fD l o&&fo l o
theorem Jt (ok:ax P tb) (X:KX h xb a lb N M t ai ah rp) {o:Ob} {tl:Nat->aH} (hl:o.ak.ok):an P 97 [.ptr xb 0, .agg (o.c tl)] h (.bool (ey (ai[t]'X.ht).ak o.ak)) h:=by
 refine ok.keeps (rf:=uE) rfl (Nat.le_of_ble_eq_true rfl) rfl ?_
 simp+decide only[st,xv,uE,aeA,Ob.c]
 generalize hY:aa.at _ _ _=Y
 have yo:Old h Y:=by rw[<-hY];exact(Old.refl h).at (Nat.le_refl _)
 have y0:cellsOf Y h.next=some (o.c tl):=by rw[<-hY];exact av (by simp[aa.at,Ob.c])
 simp only[Ob.c] at y0
 have XY:=X.old yo
 unfold ey
 simp+decide only[st,xv,uE,DZ,y0]
 refine aq (DJ ok XY (o:=o) (tl:=tl) hl) ?_
 cases hs:fD (ai[t]'X.ht).ak o.ak with
 |false=>
  simp+decide only[st,xv,uE,DZ]
  first|exact⟨rfl,yo.get⟩|(refine⟨by simp,yo.get⟩)
 |true=>
  simp+decide only[st,xv,uE,DZ,y0]
  refine aq (N6 ok XY (o:=o) (tl:=tl) hl) ?_
  simp+decide only[st,xv,uE,DZ]
  first|exact yo.get|(refine⟨?_,yo.get⟩;cases fo (ai[t]'X.ht).ak o.ak<;>rfl)
def gv (ah:List Ob) (l:Lb):Ob->List Nat->Ob×Nat
 |o,[]=>(o,0)
 |o,p::ps=>if o.kind≠1 then(bc,7) else if fD l o.ak=false then(bc,6) else match bK ah p with
  |none=>(bc,7)
  |some o'=>gv ah l o' ps
def ej (ah:List Ob) (l:Lb) (id:Nat):Ob×Nat:=match ij id with
 |[]=>(bc,7)
 |r::ps=>gv ah l ((bK ah r).getD bc) ps
theorem GW {id:Nat} (h:dM id=false):ij id=[]:=by
 unfold dM at h
 unfold ij
 cases hn:gx id with
 |none=>rfl
 |some l=>rw[hn] at h;cases h
theorem GV {id:Nat} (h:dM id=true): ∃ps,ij id=1::ps:=by
 unfold dM at h
 unfold ij
 cases hn:gx id with
 |none=>rw[hn] at h;cases h
 |some l=>
  have:=(HA hn).1
  refine⟨(List.range l.length).map fun j=>id/64^(l.length-(j+1)),?_⟩
  simp only[List.range_succ_eq_map,List.map_cons,List.map_map,Nat.sub_zero,this]
  rfl
theorem ZT {ah:List Ob} {l:Lb}: ∀{ps:List Nat} {o:Ob},(∃x∈ah,x=o)->(gv ah l o ps).1=bc\/(gv ah l o ps).1∈ah
 |[],o,h=>by obtain⟨x,hx,rfl⟩:=h;exact .inr hx
 |p::ps,o,h=>by
  unfold gv
  split
  ·exact .inl rfl
  split
  ·exact .inl rfl
  cases ho:bK ah p with
  |none=>exact .inl rfl
  |some o'=>exact ZT ⟨o',(lO ho).1,rfl⟩
def qM:Nat->aH:=fun _=> .full
theorem yE:bc.c qM=[.int .u64 0, .int .i64 0, .int .u8 0, .vs [] .full, .vs [] .full, .vs [] .full, .vs [] .full, .int .i64 0, .int .i64 0, .int .i64 0, .vs [] .full, .vs [] .full, .vs [] .full]:=rfl
theorem MC (ok:ax P tb) (X:KX h xb a lb N M t ai ah rp) {id:Nat} (aL:id<2^64):an P 106 [.ptr xb 0, .int .u64 id] h (.az [.agg ((ej ah (ai[t]'X.ht).ak id).1.c aK), .int .i64 (ej ah (ai[t]'X.ht).ak id).2]) h:=by
 refine ok.eM (rf:=jd) rfl (Nat.le_of_ble_eq_true rfl) (by simp only[AV.bB,AV.bX,u9];rfl) ?_
 simp+decide only[st,xv,jd,adK]
 generalize hY:aa.at _ _ _=Y
 have yo:Old h Y:=by rw[<-hY];exact(Old.refl h).at (Nat.le_refl _)
 have y0:cellsOf Y h.next=some (bc.c qM):=by rw[<-hY];exact av (by simp[aa.at];rfl)
 have yn:Y.next=h.next+1:=by rw[<-hY];simp[aa.at]
 have lx:=X.lx
 simp only[yE] at y0
 obtain⟨R,hR⟩: ∃R,R=ej ah (ai[t]'X.ht).ak id:=⟨_,rfl⟩
 rw[<-hR]
 let J:Nat->Env->aa->Prop:=fun n ρ H=> ∃o ps q ob t6,n=ps.length/\Old h H/\o∈ah/\gv ah (ai[t]'X.ht).ak o ps=R/\ρ 0= .ptr xb 0/\ρ 4= .ptr h.next 0/\ρ 6= .vs ((ay .u64).R (q::ps)) t6/\ρ 7= .ptr ob 0/\h.next<ob/\ob<H.next/\cellsOf H h.next=some (bc.c qM)/\cellsOf H ob=some (o.c aK)
 refine lQ 0 rfl rfl J (fun l' ρ h hk=>hk) ?_ ?_
 ·unfold ej at hR
  cases hm:dM id with
  |false=>
   rw[GW hm] at hR
   simp+decide only[st,xv,jd,DB,j7,List.foldr]
   refine aq (GX ok aL) ?_
   rw[hm]
   simp+decide only[st,xv,jd,DB,adJ,y0,xr,bE]
   refine⟨by rw[hR];rfl,fun b hb=>?_⟩
   rw[if_neg (by omega)];exact yo.get b hb
  |true=>
   obtain⟨ps,hp⟩:=GV hm
   rw[hp] at hR
   simp+decide only[st,xv,jd,DB,j7,List.foldr]
   refine aq (GX ok aL) ?_
   rw[hm]
   simp+decide only[st,xv,jd,DB,QT]
   refine aq (XU ok aL) ?_
   rw[hp]
   have XY:=X.old yo
   obtain⟨rt,hx⟩:=XY.x
   have cx:=av hx
   have Lz:=XY.lx
   have g0:((ay .u64).R (1::ps))[0]? =some [.int .u64 1]:=rfl
   obtain⟨r,hr⟩:=X.root
   have a7:=KN ok (XY.old ((Old.refl Y).clean (n:=14))).k (id:=1)
   change R=gv ah (ai[t]'X.ht).ak ((bK ah 1).getD bc) ps at hR
   rw[hr] at a7 hR
   rw[Option.getD_some] at hR
   simp+decide only[st,xv,jd,QT]
   refine bJ 14 rfl rfl ?_
   simp+decide only[st,xv,jd,adI,cx,Lz,g0,xr]
   refine fA a7 (dp (Nat.le_refl _)) ?_
   simp+decide only[st,xv,dv,xr]
   have wm:=(lO hr).1
   refine⟨fun j hj hn=>?_,ps.length,r,ps,1,Y.next+11,_,rfl,?_,wm,hR.symm,rfl,rfl,rfl,rfl,by omega,?_,?_,?_⟩
   ·simp only[aa.set,aa.at,aa.clean]
    rw[if_neg (by omega),if_neg (by omega)]
    exact if_neg (by omega)
   ·exact yo.trans (((Old.refl Y).clean.at (by omega)).set (by omega))
   ·simp[aa.set,aa.at,aa.clean]
   ·rw[show∀(Z:aa) (cs:List AV),cellsOf (Z.set (Y.next+(1+1+1+1+1+1+1+1+1+1+1)) (some (.cells cs))) h.next=cellsOf Z h.next from fun Z cs=>by unfold cellsOf;simp only[aa.set];rw[if_neg (by omega)]]
    rw[yE,<-y0]
    unfold cellsOf
    simp only[aa.at,aa.clean]
    rw[if_neg (by omega),if_pos (by omega)]
   ·exact av (by simp[aa.set];rfl)
 ·rintro n ρ H ⟨o,ps,q,ob,t6,hn,ho,db,hw,r0,r4,r6,r7,awv,KR,z0,z1⟩
  have XH:=X.old ho
  have wt:=ho.next
  simp only[yE] at z0
  simp only[dv] at z1
  have hv:=XH.k.ks.val o db
  have FV: ¬ob=h.next:=by omega
  have aiH: ¬h.next=ob:=by omega
  cases ps with
  |nil=>
   have e1:(ay .u64).R [q]=[[.int .u64 q]]:=rfl
   simp+decide only[st,xv,jd,IV,IU,adH,r4,r6,r7,e1,z0,z1,xr,FV,bE]
   unfold gv at hw
   rw[<-hw]
   refine⟨?_,fun b hb=>?_⟩
   ·show(AV.az [.agg (o.c aK), .int .i64 0]).strip=_
    simp only[AV.strip,AV.bA,zz];rfl
   ·rw[if_neg (by omega)];exact ho.get b hb
  |cons p ps=>
   have e1:(ay .u64).R (q::p::ps)=[.int .u64 q]::[.int .u64 p]::(ay .u64).R ps:=rfl
   have k1:List.take (((ay .u64).R ps).length+1+1-1) ([AV.int .u64 p]::(ay .u64).R ps)=[AV.int .u64 p]::(ay .u64).R ps:=List.take_of_length_le (by simp)
   unfold gv at hw
   by_cases h1:o.kind=1
   case neg=>
    simp+decide only[st,xv,jd,IV,IU,QS,adG,r4,r6,r7,e1,k1,z0,z1,xr,FV,h1,bE]
    rw[if_pos h1] at hw
    rw[<-hw]
    refine⟨rfl,fun b hb=>?_⟩
    rw[if_neg (by omega)];exact ho.get b hb
   rw[if_neg (fun h=>h h1)] at hw
   have hk:(o.kind=1)=True:=eq_true h1
   simp+decide only[st,xv,jd,IV,IU,QS,CI,r0,r4,r6,r7,e1,k1,z0,z1,xr,FV,hk]
   refine aq (DJ ok XH (o:=o) (tl:=aK) hv.ok.ak) ?_
   cases hs:fD (ai[t]'X.ht).ak o.ak with
   |false=>
    rw[hs,if_pos rfl] at hw
    simp+decide only[st,xv,jd,CI,aaQ,r4,z0,xr,bE]
    rw[<-hw]
    refine⟨rfl,fun b hb=>?_⟩
    rw[if_neg (by omega)];exact ho.get b hb
   |true=>
    rw[hs,if_neg (by simp)] at hw
    obtain⟨rt,hx⟩:=XH.x
    have cx:=av hx
    have Lz:=XH.lx
    have a7:=KN ok (XH.old ((Old.refl H).clean (n:=13))).k (id:=p)
    have zc:cellsOf (H.clean 13) ob=_:=(show cellsOf (H.clean 13) ob=cellsOf H ob by unfold cellsOf;simp only[aa.clean];rw[if_pos KR]).trans z1
    have fr: ∀(cs:List AV) (i:Nat),cU 13 H.next i ((H.clean 13).set ob (some (.cells cs))):=fun cs i=>(jD KR).2 (dp (Nat.le_refl _))
    cases hf:bK ah p with
    |none=>
     rw[hf] at a7 hw
     simp+decide only[st,xv,jd,CI,NU]
     refine bJ 13 rfl rfl ?_
     simp+decide only[st,xv,jd,NT,r0,r7,cx,Lz,xr]
     refine fA a7 (dp (Nat.le_refl _)) ?_
     have Gd:h.next<H.next:=by omega
     simp+decide only[st,xv,jd,NS,aaP,r0,r4,r7,z1,z0,KR,Gd,dv,FV,aiH,xr,bE]
     refine⟨fr _ _,?_,fun b hb=>?_⟩
     ·rw[<-hw];rfl
     ·rw[if_neg (by omega),if_neg (by omega),if_pos (by omega)];exact ho.get b hb
    |some o'=>
     rw[hf] at a7 hw
     simp+decide only[st,xv,jd,CI,NU]
     refine bJ 13 rfl rfl ?_
     simp+decide only[st,xv,jd,NT,r0,r7,cx,Lz,xr]
     refine fA a7 (dp (Nat.le_refl _)) ?_
     simp+decide only[st,xv,jd,NS,r0,r4,r7,z1,KR,dv,FV,aiH,xr]
     refine⟨fr _ _,ps.length,by simp only[List.length_cons] at hn;omega,o',ps,p,ob,_,rfl,(ho.trans ((Old.refl H).clean)).set (by omega),(lO hf).1,hw,r0,r4,rfl,r7,awv,by simp only[aa.set,aa.clean];omega,?_,av (by simp[aa.set];rfl)⟩
     rw[yE,<-z0]
     unfold cellsOf
     simp only[aa.set,aa.clean]
     rw[if_neg (by omega),if_pos (by omega)]
end
section
open Go
variable {P:Program} {h:aa} {a:KA} {lb N M:Nat} {ai:List Th} {ah:List Ob} {g:Nat->Option (List UInt8)} {xb t:Nat} {rp:Rp}
def bS (ah:List Ob) (l:Lb) (id:Nat) (kind:Int) (q:Lb->Bool):Ob×Nat:=if(ej ah l id).2≠0 then(bc,(ej ah l id).2) else if(ej ah l id).1.kind≠kind then(bc,8) else if q (ej ah l id).1.ak=false then(bc,6) else((ej ah l id).1,0)
theorem anE {l:Lb} {id:Nat} (hr: ∃r,bK ah 1=some r):(ej ah l id).1=bc\/(ej ah l id).1∈ah:=by
 unfold ej
 cases hm:dM id with
 |false=>rw[GW hm];exact .inl rfl
 |true=>
  obtain⟨ps,hp⟩:=GV hm
  obtain⟨r,hr⟩:=hr
  rw[hp]
  show(gv ah l ((bK ah 1).getD bc) ps).1=bc\/(gv ah l ((bK ah 1).getD bc) ps).1∈ah
  rw[hr]
  exact ZT ⟨r,(lO hr).1,rfl⟩
theorem CC:bc.ak.ok:=⟨by decide,fun p hp=>(by cases hp),by decide⟩
theorem KX.apy (X:KX h xb a lb N M t ai ah rp) {l:Lb} {id:Nat}:(ej ah l id).1.ak.ok:=by
 rcases anE (l:=l) (id:=id) X.root with e|e
 ·rw[e];exact CC
 ·exact(X.k.ks.val _ e).ok.ak
theorem apo {o:Ob} {n:Nat} {tl:Nat->aH}:(AV.az [.agg (o.c tl), .int .i64 n]).strip= .az [.agg (o.c aK), .int .i64 n]:=by simp only[AV.strip,AV.bA,zz]
theorem uS (ok:ax P tb) (X:KX h xb a lb N M t ai ah rp) {id:Nat} (aL:id<2^64) {kind:Int} {f:Nat} {q:Lb->Bool} (hf:bZ P f=true) (hq: ∀(o:Ob) (h':aa),o.ak.ok->Old h h'->an P f [.ptr xb 0, .agg (o.c aK)] h' (.bool (q o.ak)) h'):
 an P 96 [.ptr xb 0, .int .u64 id, .int .i64 kind, .fn f [.ptr xb 0] []] h (.az [.agg ((bS ah (ai[t]'X.ht).ak id kind q).1.c aK), .int .i64 (bS ah (ai[t]'X.ht).ak id kind q).2]) h:=by
 refine ok.eM (rf:=rz) rfl (Nat.le_of_ble_eq_true rfl) (by simp only[AV.bB,AV.bX,u9];rfl) ?_
 simp+decide only[st,xv,rz,aeF,Rq]
 generalize hY:aa.at _ _ _=Y
 have yo:Old h Y:=by rw[<-hY];exact(Old.refl h).at (Nat.le_refl _)
 have y0:cellsOf Y h.next=some (bc.c qM):=by rw[<-hY];exact av (by simp[aa.at];rfl)
 have yn:Y.next=h.next+1:=by rw[<-hY];simp[aa.at]
 have XY:=X.old yo
 refine aq (MC ok XY aL) ?_
 have gC:=X.apy (l:=(ai[t]'X.ht).ak) (id:=id)
 obtain⟨V,hV⟩: ∃V,V=bS ah (ai[t]'X.ht).ak id kind q:=⟨_,rfl⟩
 rw[<-hV]
 unfold bS at hV
 generalize ej ah (ai[t]'X.ht).ak id=R at*
 obtain⟨o,e⟩:=R
 simp only at gC hV ⊢
 simp+decide only[st,xv,rz,Rq,dv,xr]
 generalize hZ:aa.set _ _ _=Z
 have zo:Old Y Z:=by rw[<-hZ];exact((Old.refl Y).at (Nat.le_refl _)).set (Nat.le_refl _)
 have z1:cellsOf Z Y.next=some (o.c aK):=by rw[<-hZ];exact av (by simp[aa.set];rfl)
 have z0:cellsOf Z h.next=some (bc.c qM):=by rw[<-y0];unfold cellsOf;rw[zo.get _ (by omega)]
 have XZ:=XY.old zo
 have hold:=yo.trans zo
 simp only[yE] at z0
 simp only[dv] at z1
 by_cases he:e=0
 ·subst he
  rw[if_neg (fun h=>h rfl)] at hV
  by_cases hk:o.kind=kind
  ·have fh:(o.kind=kind)=True:=eq_true hk
   rw[if_neg (fun h=>h hk)] at hV
   simp+decide only[st,xv,rz,JF,Ro,JE,z1,fh]
   refine qf hf (hq o Z gC hold) ?_
   cases hqq:q o.ak with
   |false=>
    rw[hqq,if_pos rfl] at hV
    rw[hV]
    simp+decide only[st,xv,rz,JE,aeC,z0,xr,bE]
    exact⟨rfl,fun b hb=>by rw[if_neg (by omega)];exact hold.get b hb⟩
   |true=>
    rw[hqq,if_neg (by simp)] at hV
    rw[hV]
    simp+decide only[st,xv,rz,JE,aeB,z0,z1,xr,bE]
    exact⟨apo (o:=o) (n:=0) (tl:=aK),fun b hb=>by rw[if_neg (by omega)];exact hold.get b hb⟩
  ·have fh:(o.kind=kind)=False:=eq_false hk
   rw[if_pos hk] at hV
   rw[hV]
   simp+decide only[st,xv,rz,JF,Ro,aeD,z0,z1,fh,xr,bE]
   exact⟨rfl,fun b hb=>by rw[if_neg (by omega)];exact hold.get b hb⟩
 ·have dJ:((e:Int)=0)=False:=eq_false (by omega)
  rw[if_pos he] at hV
  rw[hV]
  simp+decide only[st,xv,rz,JF,aeE,z0,dJ,xr,bE]
  exact⟨rfl,fun b hb=>by rw[if_neg (by omega)];exact hold.get b hb⟩
theorem KX.mQ (X:KX h xb a lb N M t ai ah rp) {x:Th} (hx:x.ak.ok/\x.ak.ps.length<=16):KX (h.set a.tb (some (.cells (aS aW (ai.set t x)).flatten))) xb a lb N M t (ai.set t x) ah rp:=by
 obtain⟨tl,ug⟩:=X.x
 have We:=X.k.sp.lt
 obtain⟨f,A,R⟩:=X.k.ar
 have ltA:=A.lt
 have e: ∀b,b≠a.tb->(h.set a.tb (some (.cells (aS aW (ai.set t x)).flatten))).get b=h.get b:=fun b hb=>by simp only[aa.set];rw[if_neg hb]
 have nA: ∀b,FA a lb b->b≠a.tb:=fun b hb e=>X.k.lH b (.inr e) hb
 have nS: ∀b,FS a b->b≠a.tb:=fun b hb e=>X.k.oS b (.inr e) hb
 have hn:h.next<=(h.set a.tb (some (.cells (aS aW (ai.set t x)).flatten))).next:=Nat.le_refl _
 refine⟨⟨by rw[e _ X.k.BO,List.length_set,X.k.top],by simp[aa.set],⟨f,A.bM hn (e _ (nA _ (.inl rfl))) (e _ (nA _ (.inr (.inl rfl)))) (fun _=>e _ (nA _ (.inr (.inr rfl)))) (Nat.le_refl _),R⟩,
  X.k.sp.bM hn (e _ (nS _ (.inl rfl))) (e _ (nS _ (.inr (.inl rfl)))) (e _ (nS _ (.inr (.inr (.inl rfl))))) (e _ (nS _ (.inr (.inr (.inr rfl))))) (Nat.le_refl _),X.k.l1,X.k.l2,X.k.BO,X.k.lI,X.k.lH,X.k.oS,X.k.ks⟩,
  ⟨tl,by rw[e _ (fun e=>X.dK (.inr e)),ug]⟩,X.lx,X.dK,X.dA,X.dS,by rw[List.length_set];exact X.ht,⟨by rw[List.length_set];exact X.tv.len,fun y hy=>?_⟩,X.root⟩
 rcases List.mem_or_eq_of_mem_set hy with hy|rfl
 ·exact X.tv.ak y hy
 ·exact hx
def rV (l:Lb) (cs:List Nat):Lb:=cs.foldl (fun l c=>yc l c 0) l
theorem aa3 {d:Nat}: ∀{l acc:List (Nat×Nat)},(l.foldl (oA d) acc).length<=acc.length+l.length
 |[],acc=>by simp
 |p::l,acc=>by
  have h1:=aa3 (d:=d) (l:=l) (acc:=oA d acc p)
  have h2:=aav (d:=d) (l:=acc) (p:=p)
  rw[List.foldl_cons,List.length_cons];omega
theorem aa2 {d:Nat} {q:Nat×Nat}: ∀{l acc:List (Nat×Nat)},q∈l.foldl (oA d) acc->q∈acc\/q∈l
 |[],acc,h=> .inl h
 |p::l,acc,h=>by
  rcases aa2 (l:=l) (acc:=oA d acc p) h with h|h
  ·rcases aau h with h|h
   ·exact .inr (by simp[h])
   ·exact .inl h
  ·exact .inr (List.mem_cons_of_mem _ h)
theorem aov {l:Lb} {c gB:Nat} (hl:l.ok) (hs:l.ps.length<2^19) (hc:c<65536) (hv:gB<256):(yc l c gB).ok/\(yc l c gB).ps.length<=l.ps.length+1:=by
 have h1:(yc l c gB).ps.length<=l.ps.length+1:=by
  have:=aa3 (d:=l.d) (l:=l.ps++[(c,gB)]) (acc:=[])
  simpa [yc,km] using this
 refine⟨⟨hl.d,fun p hp=>?_,by omega⟩,h1⟩
 rcases aa2 hp with h|h
 ·cases h
 ·rcases List.mem_append.1 h with h|h
  ·exact hl.ps p h
  ·have:p=(c,gB):=by simpa using h
   subst this;exact⟨hc,hv⟩
theorem Y5 {cs:List Nat}: ∀{l:Lb},l.ok->l.ps.length+cs.length<2^19->(∀c∈cs,c<65536)->(rV l cs).ok/\(rV l cs).ps.length<=l.ps.length+cs.length:=by
 induction cs with
 |nil=>intro l hl _ _;exact⟨hl,by simp[rV]⟩
 |cons c cs ih=>
  intro l hl hs hc
  simp only[List.length_cons] at hs
  have h1:=aov (l:=l) (c:=c) (gB:=0) hl (by omega) (hc c (List.mem_cons_self ..)) (by omega)
  have h2:=ih h1.1 (by omega) (fun x hx=>hc x (List.mem_cons_of_mem _ hx))
  refine⟨h2.1,?_⟩
  have:=h2.2
  simp only[List.length_cons]
  show(rV (yc l c 0) cs).ps.length<=_
  omega
def XF (h h':aa) (a:KA) (lb xb:Nat):Prop:=h.next<=h'.next/\ ∀b,b<h.next-> ¬FK a b-> ¬FA a lb b-> ¬FS a b->b≠xb->h'.get b=h.get b
theorem XF.refl:XF h h a lb xb:=⟨Nat.le_refl _,fun _ _ _ _ _ _=>rfl⟩
theorem KF.xf {h':aa} (k:KF h h' a lb):XF h h' a lb xb:=⟨k.1,fun b hb h1 h2 h3 _=>k.2 b hb h1 h2 h3⟩
theorem XF.old {h':aa} (o:Old h h'):XF h h' a lb xb:=⟨o.next,fun b hb _ _ _ _=>o.get b hb⟩
theorem XF.trans {h1 h2:aa} {aT:Nat} (x:XF h h1 a lb xb) (y:XF h1 h2 a aT xb) (hl:aT=lb\/h.next<=aT):XF h h2 a lb xb:=⟨Nat.le_trans x.1 y.1,fun b hb h1 h2 h3 h4=>by
 have:=x.1
 rw[y.2 b (by omega) h1 ?_ h3 h4,x.2 b hb h1 h2 h3 h4]
 rintro(e|e|e)
 ·exact h2 (.inl e)
 ·exact h2 (.inr (.inl e))
 ·rcases hl with hl|hl
  ·exact h2 (.inr (.inr (e.trans hl)))
  ·omega⟩
theorem wY {l:List Th} {t j:Nat} (ht:t<l.length) {v:List AV} {x':Th} (hj:j+v.length<=12) (hx:List.take j (l[t].c aW)++v++List.drop (j+v.length) (l[t].c aW)=x'.c aW):List.take (t*12+j) (aS aW l).flatten++v++List.drop (t*12+j+v.length) (aS aW l).flatten=(aS aW (l.set t x')).flatten:=by
 have:=Cx (rows:=aS aW l) (i:=t) (j:=j) (v:=v) mJ (CA ht) hj
 rw[hx] at this
 unfold aS at*
 rw[List.map_set]
 exact this
def gq (x:Th) (cs:List Nat):Nat×Th:=if 16<(rV x.ak cs).ps.length then(9,x) else(0,{x with ak:=rV x.ak cs})
theorem tz {α:Type} {l:List α} {i:Nat} (h:i<l.length):l.set i l[i]=l:=by
 apply List.ext_getElem (by simp)
 intro j h1 h2
 rw[List.getElem_set]
 split
 ·rename_i e;subst e;rfl
 ·rfl
theorem Xy (ok:ax P tb) (X:KX h xb a lb N M t ai ah rp) {cs:List Nat} {tl:aH} (hc: ∀c∈cs,c<65536) (dj:cs.length<2^16):
 ∃h',an P 94 [.ptr xb 0, .vs ((ay .u16).R cs) tl] h (.int .i64 (gq (ai[t]'X.ht) cs).1) h'/\KX h' xb a lb N M t (ai.set t (gq (ai[t]'X.ht) cs).2) ah rp/\XF h h' a lb xb:=by
 refine ok.dz (rf:=p3) rfl (Nat.le_of_ble_eq_true rfl) ?_
 obtain⟨rt,hx⟩:=X.x
 have cx:=av hx
 obtain⟨ct,hle,ff⟩:=X.th
 have lx:=X.lx
 have jt:t*12+2<=(aS aW ai).flatten.length:=by omega
 have Lc:=X.ak
 have LF:=(X.tv.ak _ (List.getElem_mem X.ht)).2
 simp+decide only[st,xv,p3,aeM,aeL,cx,ct,jt,ff,xr]
 generalize hY:aa.set _ _ _=Y
 have yo:Old h Y:=by rw[<-hY];exact((Old.refl h).at (Nat.le_refl _)).set (Nat.le_refl _)
 have y0:cellsOf Y h.next=some ((ai[t]'X.ht).ak.c .ao):=by rw[<-hY];exact av (by simp[aa.set];rfl)
 have yn:Y.next=h.next+1:=by rw[<-hY];simp[aa.at,aa.set]
 simp+decide only[st,xv,p3,aeK,ba.aN]
 let I:Nat->Env->aa->Prop:=fun n ρ H=> ∃i,cs.length=i+n/\Old h H/\h.next<H.next/\cellsOf H h.next=some ((rV (ai[t]'X.ht).ak (cs.take i)).c .ao)/\ρ 0= .ptr xb 0/\ρ 5= .ptr h.next 0/\ρ 15= .vs ((ay .u16).R cs) tl/\ρ 16= .int .i64 cs.length/\ρ 17= .int .i64 i
 refine dn I ?_ cs.length ⟨0,by omega,yo,by omega,y0,rfl,rfl,rfl,rfl,rfl⟩
 rintro n ρ H ⟨i,aE,ho,hhn,bq,r0,r5,gA,we,wa⟩
 by_cases hi:i<cs.length
 ·have aB:(i:Int)<(cs.length:Int):=by omega
  have hw:=cT (show i<2^61 by omega)
  have g1:((ay .u16).R cs)[i]? =some [.int .u16 cs[i]]:=(ay .u16).eW hi
  have aY:=Y5 (cs:=cs.take i) Lc (by have:=List.length_take_le i cs;omega) (fun c h=>hc c (List.mem_of_mem_take h))
  simp only[Lb.c] at bq
  simp+decide only[st,xv,p3,JI,aeJ,RA,r5,gA,we,wa,aB,g1,bq]
  refine aq (amM (l:=rV (ai[t]'X.ht).ak (cs.take i)) (t:= .ao) (c:=cs[i]) (gB:=0) ok aY.1 (hc _ (List.getElem_mem hi)) (by omega)) ?_
  simp+decide only[st,xv,p3,RA,aeI,r5,wa,hw,bq,Lb.c,xr]
  refine⟨n-1,by omega,i+1,by omega,ho.set (Nat.le_refl _),by simp only[aa.set];omega,av ?_,r0,r5,gA,we,rfl⟩
  rw[<-List.take_append_getElem hi]
  unfold rV
  rw[List.foldl_append]
  simp[aa.set];rfl
 ·have aB: ¬(i:Int)<(cs.length:Int):=by omega
  rw[List.take_of_length_le (by omega)] at bq
  have aY:=Y5 (cs:=cs) Lc (by omega) hc
  have XH:=X.old ho
  obtain⟨Lp,oF⟩:=XH.x
  have oT:=av oF
  unfold gq
  generalize hL:rV (ai[t]'X.ht).ak cs=L at*
  simp only[Lb.c] at bq
  by_cases h16:16<L.ps.length
  ·have Vm:(16:Int)<(L.ps.length:Int):=by omega
   rw[if_pos h16]
   simp+decide only[st,xv,p3,JI,Rz,aeH,r5,we,wa,aB,bq,aw.aN,Vm]
   refine⟨rfl,?_,XF.old ho⟩
   show KX H xb a lb N M t (ai.set t (ai[t]'X.ht)) ah rp
   rw[tz];exact XH
  ·have Vm: ¬(16:Int)<(L.ps.length:Int):=by omega
   rw[if_neg h16]
   have wE:cellsOf H a.tb=some (aS aW ai).flatten:=av XH.k.bg
   have Wd:=XH.lx
   have lt2:=XH.k.l2
   simp+decide only[st,xv,p3,JI,Rz,r5,we,wa,aB,bq,aw.aN,Vm]
   refine bJ 8 rfl rfl ?_
   simp+decide only[st,xv,p3,aeG,r0,r5,oT,wE,bq,hhn,Wd,lt2,xr]
   have mo:=wY (l:=ai) X.ht (j:=0) (v:=[.int .u8 L.d, .vs (aw.R L.ps) .ao]) (x':={ai[t]'X.ht with ak:=L}) (by simp) rfl
   have hlen:t*12+2<=(aS aW ai).flatten.length:=by omega
   rw[show List.take (t*12) (aS aW ai).flatten++[AV.int IntKind.u8 ↑L.d,AV.vs (aw.R L.ps) aH.ao]++List.drop (t*12+(1+1)) (aS aW ai).flatten=_ from mo]
   simp+decide only[st,xv,p3,abj,hlen]
   have XC:=XH.old ((Old.refl H).clean (n:=8))
   refine⟨(jD lt2).2 (dp (Nat.le_refl _)),rfl,XC.mQ (x:={ai[t]'X.ht with ak:=L}) ⟨aY.1,by show L.ps.length<=16;omega⟩,?_⟩
   refine⟨by simp only[aa.set,aa.clean];have:=ho.next;omega,fun b hb h1 h2 h3 h4=>?_⟩
   simp only[aa.set,aa.clean]
   have wt:=ho.next
   rw[if_neg (fun e=>h1 (.inr e)),if_pos (by omega)]
   exact ho.get b hb
end
section
open Go
variable {P:Program} {h:aa} {a:KA} {lb N M:Nat} {ai:List Th} {ah:List Ob} {g:Nat->Option (List UInt8)} {xb t:Nat} {rp:Rp}
structure Cl where
 op:Int
 kind:Int
 id:Nat
 to:Nat
 off:Int
 n:Int
 ak:Lb
 st:St
 data:List UInt8
 bu:List Nat
def Cl.c (c:Cl) (t:Nat->aH):List AV:=[.int .i64 c.op, .int .i64 c.kind, .int .u64 c.id, .int .u64 c.to, .int .i64 c.off, .int .i64 c.n, .int .u8 c.ak.d, .vs (aw.R c.ak.ps) (t 0), .vs ((ay .u16).R c.st.s) (t 1), .vs ((ay .u16).R c.st.i) (t 2), .vs ((ay .u16).R c.st.o) (t 3), .vs (BS c.data) (t 4), .vs ((ay .u16).R c.bu) (t 5)]
structure iD (c:Cl):Prop where
 ak:c.ak.ok
 Jr:c.ak.ps.length<=16
 id:c.id<2^64
 to:c.to<2^64
 data:c.data.length<2^20
 bu:c.bu.length<2^16
 cat: ∀x∈c.bu,x<65536
theorem Cz {c:Cl} {t:Nat->aH}:AV.bA (c.c t)=c.c aK:=by
 simp only[Cl.c,AV.bA,AV.strip,aw.ew,jV,(ay .u16).ew,aK]
theorem abi {c:Cl} {t:Nat->aH}:(AV.agg (c.c t)).strip= .agg (c.c aK):=by simp only[AV.strip,Cz]
theorem fi {c:Cl}:c.c aK=[.int .i64 c.op, .int .i64 c.kind, .int .u64 c.id, .int .u64 c.to, .int .i64 c.off, .int .i64 c.n, .int .u8 c.ak.d, .vs (aw.R c.ak.ps) .ao, .vs ((ay .u16).R c.st.s) .ao, .vs ((ay .u16).R c.st.i) .ao, .vs ((ay .u16).R c.st.o) .ao, .vs (BS c.data) .ao, .vs ((ay .u16).R c.bu) .ao]:=rfl
theorem aqQ (ok:ax P tb) {g:Nat} {dX:List AV} {q:Nat->Bool} {l:List Nat} {t:aH} {h:aa} (hl:l.length<2^30) (hg:bZ P g=true) (hq: ∀p∈l,an P g (.int .u16 p::dX) h (.bool (q p)) h):
 an P 177 [.vs ((ay .u16).R l) t, .fn g [] dX] h (.int .i64 (kQ q l)) h:=by
 refine ok.calls (rf:=ym) rfl (Nat.le_of_ble_eq_true rfl) ?_
 simp+decide only[st,xv,ym,Ij,Ii,ba.aN]
 let I:Nat->Env->aa->Prop:=fun n ρ h'=>h'=h/\ ∃i:Nat,l.length=i+n/\(∀j,j<i-> ∀hj:j<l.length,q l[j]=false)/\ρ 0= .vs ((ay .u16).R l) t/\ρ 1= .fn g [] dX/\ρ 7= .int .i64 l.length/\ρ 8= .int .i64 i
 refine dn I ?_ l.length ⟨rfl,0,by omega,by omega,rfl,rfl,rfl,rfl⟩
 rintro n ρ h' ⟨rfl,i,aE,hf,r0,r1,r7,r8⟩
 by_cases hi:i<l.length
 ·have aB:(i:Int)<(l.length:Int):=by omega
  have bR:(0:Int)<=i:=by omega
  have hw:=cT (show i<2^61 by omega)
  have cE:((ay .u16).R l)[i]? =some [.int .u16 l[i]]:=(ay .u16).eW hi
  simp+decide only[st,xv,ym,Ij,Ii,Pc,Pb,Pa,O9,O8,O7,r0,r1,r7,r8,aB,bR,cE]
  refine qf hg (hq l[i] (List.getElem_mem hi)) ?_
  by_cases mz:q l[i]=true
  ·simp+decide only[st,xv,mz,r8,HM hi hf mz]
  ·have qW:q l[i]=false:=by simpa using mz
   simp+decide only[st,xv,qW,r8,hw]
   refine⟨n-1,by omega,rfl,i+1,by omega,fun j hj dO=>?_,r0,r1,r7,rfl⟩
   by_cases d7:j=i
   ·subst d7;exact qW
   ·exact hf j (by omega) dO
 ·have aB: ¬(i:Int)<(l.length:Int):=by omega
  have dH:=HL (q:=q) (l:=l) (fun j _ hj=>hf j (by omega) hj)
  simp+decide only[st,xv,ym,Ij,Ii,Pc,Pb,Pa,O9,O8,O7,r7,r8,aB,dH]
  rfl
def DG (l:Lb) (cs:List Nat):Bool:=cs.all fun c=>oD l c==0
theorem akl (ok:ax P tb) (X:KX h xb a lb N M t ai ah rp) {cs:List Nat} {tl:aH} (dj:cs.length<2^16):an P 141 [.ptr xb 0, .vs ((ay .u16).R cs) tl] h (.bool (DG (ai[t]'X.ht).ak cs)) h:=by
 refine ok.keeps (rf:=Bc) rfl (Nat.le_of_ble_eq_true rfl) rfl ?_
 simp+decide only[st,xv,Bc,acQ,P4]
 generalize hY:aa.at _ _ _=Y
 have yo:Old h Y:=by rw[<-hY];exact(Old.refl h).at (Nat.le_refl _)
 have y0:cellsOf Y h.next=some [.ptr xb 0]:=by rw[<-hY];exact av (by simp[aa.at])
 have hc:an P 164 [.vs ((ay .u16).R cs) tl, .fn 165 [] [.ptr h.next 0]] Y (.bool (cs.any fun c=>!(oD (ai[t]'X.ht).ak c==0))) Y:=by
  refine ok.calls (rf:=Fz) rfl (Nat.le_of_ble_eq_true rfl) ?_
  simp+decide only[st,xv,Fz,ach,acg]
  refine aq (aqQ ok (by omega) (ok.bZ _ rfl) (q:=fun c=>!(oD (ai[t]'X.ht).ak c==0)) (fun p hp=>?_)) ?_
  ·refine ok.calls (rf:=A8) rfl (Nat.le_of_ble_eq_true rfl) ?_
   have XY:=X.old yo
   obtain⟨rt,hx⟩:=XY.x
   have cx:=av hx
   obtain⟨ct,hle,ff⟩:=XY.th
   have jt:t*12+2<=(aS aW ai).flatten.length:=by omega
   simp+decide only[st,xv,A8,Pn,Pm,y0,cx,ct,jt,ff]
   refine aq (aah (l:=(ai[t]'X.ht).ak) (t:= .ao) ok (by have:=(X.tv.ak _ (List.getElem_mem X.ht)).2;omega)) ?_
   simp+decide only[st,xv,A8,Pn,Pm]
   by_cases hz:oD (ai[t]'X.ht).ak p=0<;>simp[hz]
  ·simp+decide only[st,xv,Nu]
 refine aq hc ?_
 simp+decide only[st,xv,Bc,P4]
 have e:DG (ai[t]'X.ht).ak cs=!(cs.any fun c=>!(oD (ai[t]'X.ht).ak c==0)):=by
  unfold DG
  rw[List.any_eq_not_all_not]
  simp
 rw[e]
 first|exact yo.get|exact⟨rfl,yo.get⟩
theorem rM {c:Cl} {tl:Nat->aH} {f:Nat} {x:Nat} {h h':aa} {r:AV} (hc:an P f [.ptr x 0, .agg (c.c aK)] h r h'):an P f [.ptr x 0, .agg (c.c tl)] h r h':=
 an.ao (by simp only[AV.bA,abi];exact hc)
def tP (l:Lb) (c:Cl):Nat:=if c.kind=1/\ ¬(0<=c.n/\c.n<=400) then 1 else if c.kind=2/\64<c.data.length then 12 else if c.kind=3/\DG l c.bu=false then 5 else 0
theorem akn (ok:ax P tb) (X:KX h xb a lb N M t ai ah rp) {c:Cl} {tl:Nat->aH} (k:iD c):an P 99 [.ptr xb 0, .agg (c.c tl)] h (.int .i64 (tP (ai[t]'X.ht).ak c)) h:=by
 refine rM ?_
 refine ok.keeps (rf:=nh) rfl (Nat.le_of_ble_eq_true rfl) rfl ?_
 have sV:=k.bu
 simp+decide only[st,xv,nh,aez,fi]
 generalize hY:aa.at _ _ _=Y
 have yo:Old h Y:=by rw[<-hY];exact(Old.refl h).at (Nat.le_refl _)
 have y0:cellsOf Y h.next=some (c.c aK):=by rw[<-hY];exact av (by simp[aa.at];rfl)
 simp only[fi] at y0
 have XY:=X.old yo
 obtain⟨V,hV⟩: ∃V,V=tP (ai[t]'X.ht).ak c:=⟨_,rfl⟩
 rw[<-hV]
 unfold tP at hV
 by_cases h1:c.kind=1
 ·have h2: ¬c.kind=2:=by omega
  have h3: ¬c.kind=3:=by omega
  have e1:(c.kind=1)=True:=eq_true h1
  have e2:(c.kind=2)=False:=eq_false h2
  have e3:(c.kind=3)=False:=eq_false h3
  simp+decide only[st,xv,nh,vv,y0,e1]
  refine aq (HG ok) ?_
  by_cases hn:0<=c.n/\c.n<=400
  ·have e:(decide (0<=c.n)&&decide (c.n<=400))=true:=by simpa using hn
   rw[if_neg (fun hh=>hh.2 hn),if_neg (fun hh=>h2 hh.1),if_neg (fun hh=>h3 hh.1)] at hV
   subst hV
   rw[e]
   simp+decide only[st,xv,nh,vv,AD,xR,DY,y0,e2,e3]
   first|exact yo.get|exact⟨rfl,yo.get⟩
  ·have e:(decide (0<=c.n)&&decide (c.n<=400))=false:=by rw[<-Bool.not_eq_true];simpa using hn
   rw[if_pos ⟨h1,hn⟩] at hV
   subst hV
   rw[e]
   simp+decide only[st,xv,nh,vv,aey]
   first|exact yo.get|exact⟨rfl,yo.get⟩
 rw[if_neg (fun hh=>h1 hh.1)] at hV
 have e1:(c.kind=1)=False:=eq_false h1
 by_cases h2:c.kind=2
 ·have h3: ¬c.kind=3:=by omega
  have e2:(c.kind=2)=True:=eq_true h2
  have e3:(c.kind=3)=False:=eq_false h3
  by_cases hn:64<c.data.length
  ·have gQ:(64:Int)<(c.data.length:Int):=by omega
   rw[if_pos ⟨h2,hn⟩] at hV
   subst hV
   simp+decide only[st,xv,nh,vv,AD,aex,y0,e1,e2,b8,gQ]
   first|exact yo.get|exact⟨rfl,yo.get⟩
  ·have gQ: ¬(64:Int)<(c.data.length:Int):=by omega
   rw[if_neg (fun hh=>hn hh.2),if_neg (fun hh=>h3 hh.1)] at hV
   subst hV
   simp+decide only[st,xv,nh,vv,AD,xR,DY,y0,e1,e2,e3,b8,gQ]
   first|exact yo.get|exact⟨rfl,yo.get⟩
 rw[if_neg (fun hh=>h2 hh.1)] at hV
 have e2:(c.kind=2)=False:=eq_false h2
 by_cases h3:c.kind=3
 ·have e3:(c.kind=3)=True:=eq_true h3
  simp+decide only[st,xv,nh,vv,AD,xR,y0,e1,e2,e3]
  refine aq (akl ok XY sV) ?_
  cases ho:DG (ai[t]'X.ht).ak c.bu with
  |false=>
   rw[if_pos ⟨h3,ho⟩] at hV
   subst hV
   simp+decide only[st,xv,nh,xR,aew]
   first|exact yo.get|exact⟨rfl,yo.get⟩
  |true=>
   rw[if_neg (by simp[ho])] at hV
   subst hV
   simp+decide only[st,xv,nh,xR,DY]
   first|exact yo.get|exact⟨rfl,yo.get⟩
 ·have e3:(c.kind=3)=False:=eq_false h3
  rw[if_neg (fun hh=>h3 hh.1)] at hV
  subst hV
  simp+decide only[st,xv,nh,vv,AD,xR,DY,y0,e1,e2,e3]
  first|exact yo.get|exact⟨rfl,yo.get⟩
end
section
open Go
variable {P:Program} {h:aa} {a:KA} {lb N M:Nat} {ai:List Th} {ah:List Ob} {g:Nat->Option (List UInt8)} {xb t:Nat} {rp:Rp}
theorem aph {n:Nat} (h:n<65536):IntKind.wrap .u16 (n:Int)=n:=by
 simp only[IntKind.wrap,IntKind.signed,IntKind.bits]
 simp;omega
theorem KX.su (X:KX h xb a lb N M t ai ah rp) {bT:Rp} {tl:aH}:KX (h.set xb (some (.cells [.ptr a.kb 0, .ptr a.tb (t*12), .int .i64 t, .int .i64 bT.NW, .int .i64 bT.err, .int .u64 bT.ret, .vs (BS bT.data) tl]))) xb a lb N M t ai ah bT:=by
 refine⟨X.k.bM (h':=h.set xb _) (Nat.le_refl _) (fun b hb hf=>?_) (Nat.le_refl _) (Nat.le_refl _),⟨tl,by simp[aa.set]⟩,X.lx,X.dK,X.dA,X.dS,X.ht,X.tv,X.root⟩
 simp only[aa.set]
 rw[if_neg]
 intro e;subst e
 rcases hf with hf|hf|hf
 ·exact X.dK hf
 ·exact X.dA hf
 ·exact X.dS hf
theorem XF.sr {h h':aa} {b:Option cI} (x:XF h h' a lb xb):XF h (h'.set xb b) a lb xb:=⟨x.1,fun c hc h1 h2 h3 h4=>by simp only[aa.set];rw[if_neg h4];exact x.2 c hc h1 h2 h3 h4⟩
theorem XF.mQ {h h':aa} {b:Option cI} (x:XF h h' a lb xb):XF h (h'.set a.tb b) a lb xb:=⟨x.1,fun c hc h1 h2 h3 h4=>by simp only[aa.set];rw[if_neg (fun e=>h1 (.inr e))];exact x.2 c hc h1 h2 h3 h4⟩
theorem KX.E5 (X:KX h xb a lb N M t ai ah rp):cellsOf h a.tb=some (aS aW ai).flatten/\t*12+12<=(aS aW ai).flatten.length/\ ∀j,j<12->(aS aW ai).flatten[t*12+j]? =((ai[t]'X.ht).c aW)[j]?:=⟨X.th.1,X.th.2.1,fun j hj=>X.k.row X.ht hj⟩
def fc (h:aa) (xb:Nat) (a:KA) (lb N M t:Nat) (ai:List Th) (ah:List Ob) (rp:Rp) (h':aa):Prop:= ∃aT N' M',KX h' xb a aT N' M' t ai ah rp/\XF h h' a lb xb/\(aT=lb\/h.next<=aT)/\N'<=N+2/\M'<=M+1
theorem KX.fin (X:KX h xb a lb N M t ai ah rp) {h':aa} (o:Old h h'):fc h xb a lb N M t ai ah rp h':=⟨lb,N,M,X.old o, .old o, .inl rfl,by omega,by omega⟩
def mn (t:Nat) (x:Th):Nat×Nat×Th:=if 15<=x.own then(9,0,x) else if(gq x [1000+16*t+x.own.toNat+1]).1≠0 then((gq x [1000+16*t+x.own.toNat+1]).1,0,x) else(0,1000+16*t+x.own.toNat+1,{(gq x [1000+16*t+x.own.toNat+1]).2 with own:=x.own+1})
theorem alj (ok:ax P tb) (X:KX h xb a lb N M t ai ah rp) (ho:0<=(ai[t]'X.ht).own):
 ∃h',an P 64 [.ptr xb 0] h (.int .i64 (mn t (ai[t]'X.ht)).1) h'/\fc h xb a lb N M t (ai.set t (mn t (ai[t]'X.ht)).2.2) ah (if(mn t (ai[t]'X.ht)).1=0 then{rp with ret:=(mn t (ai[t]'X.ht)).2.1} else rp) h':=by
 refine ok.dz (rf:=p7) rfl (Nat.le_of_ble_eq_true rfl) ?_
 obtain⟨rt,hx⟩:=X.x
 have cx:=av hx
 obtain⟨ct,hle,cw⟩:=X.E5
 have lx:=X.lx
 have l2:=X.k.l2
 have ht4:=X.tv.len
 have WG:=X.ht
 have r5:=cw 5 (by omega)
 have e5:((ai[t]'X.ht).c aW)[5]? =some (.int .i64 (ai[t]'X.ht).own):=rfl
 rw[e5] at r5
 obtain⟨V,hV⟩: ∃V,V=mn t (ai[t]'X.ht):=⟨_,rfl⟩
 rw[<-hV]
 unfold mn at hV
 simp+decide only[st,xv,p7,af6,af5,cx,ct,r5]
 by_cases Mg:15<=(ai[t]'X.ht).own
 ·rw[if_pos Mg] at hV
  subst hV
  simp+decide only[st,xv,p7,SR,Mg,kE]
  refine⟨rfl,?_⟩
  rw[tz]
  exact X.fin (Old.refl h)
 rw[if_neg Mg] at hV
 have w1:IntKind.wrap .i64 ((16:Int)*(t:Int))=16*t:=bw (by omega) (by omega)
 have w2:IntKind.wrap .i64 ((1000:Int)+16*(t:Int))=1000+16*t:=bw (by omega) (by omega)
 have w3:IntKind.wrap .i64 ((1000:Int)+16*(t:Int)+(ai[t]'X.ht).own)=1000+16*t+(ai[t]'X.ht).own:=bw (by omega) (by omega)
 have w4:IntKind.wrap .i64 ((1000:Int)+16*(t:Int)+(ai[t]'X.ht).own+1)=1000+16*t+(ai[t]'X.ht).own+1:=bw (by omega) (by omega)
 have w5:IntKind.wrap .u16 ((1000:Int)+16*(t:Int)+(ai[t]'X.ht).own+1)=((1000+16*t+(ai[t]'X.ht).own.toNat+1:Nat):Int):=by
  have e:(1000:Int)+16*(t:Int)+(ai[t]'X.ht).own+1=((1000+16*t+(ai[t]'X.ht).own.toNat+1:Nat):Int):=by omega
  rw[e];exact aph (by omega)
 simp+decide only[st,xv,p7,SR,Mg]
 refine bJ 17 rfl rfl ?_
 simp+decide only[st,xv,p7,af4,cx,ct,r5,lx,l2,w1,w2,w3,w4,w5]
 generalize jj:1000+16*t+(ai[t]'X.ht).own.toNat+1=cc at*
 have XC:=X.old ((Old.refl h).clean (n:=17))
 have eF: ∀c∈[cc],c<65536:=fun c hc=>by
  have:=List.mem_singleton.1 hc
  omega
 obtain⟨h1,c1,X1,f1⟩:=Xy ok XC (cs:=[cc]) (tl:= .full) eF (by simp)
 simp+decide only[st,xv,p7,JX,xr]
 refine aq c1 ?_
 have LQ:gq (ai[t]'X.ht) [cc]=(9,ai[t]'X.ht)\/((gq (ai[t]'X.ht) [cc]).1=0/\(gq (ai[t]'X.ht) [cc]).2.own=(ai[t]'X.ht).own):=by
  unfold gq
  split
  ·exact .inl rfl
  ·exact .inr ⟨rfl,rfl⟩
 have v8:XF h h1 a lb xb:=(XF.old ((Old.refl h).clean (n:=17))).trans f1 (.inl rfl)
 rcases LQ with LQ|⟨oM,oL⟩
 ·rw[LQ] at hV X1
  rw[LQ]
  rw[if_pos (by simp)] at hV
  subst hV
  simp+decide only[st,xv,p7,JX,SQ,af3,kE]
  exact⟨lb,N,M,X1,v8, .inl rfl,by omega,by omega⟩
 ·rw[oM]
  rw[oM,if_neg (by simp)] at hV
  subst hV
  obtain⟨Lp,oF⟩:=X1.x
  have oT:=av oF
  obtain⟨wE,jt,auu⟩:=X1.E5
  have q5:=auu 5 (by omega)
  have W4:(((ai.set t (gq (ai[t]'X.ht) [cc]).2)[t]'X1.ht).c aW)[5]? =some (.int .i64 (ai[t]'X.ht).own):=by
   rw[<-oL];simp[jw]
  rw[W4] at q5
  have w6:IntKind.wrap .i64 ((ai[t]'X.ht).own+1)=(ai[t]'X.ht).own+1:=bw (by omega) (by omega)
  simp+decide only[st,xv,p7,JX,SQ,af2,oT,wE,q5,w6,xr]
  have mo:=wY (l:=ai.set t (gq (ai[t]'X.ht) [cc]).2) X1.ht (j:=5) (v:=[.int .i64 ((ai[t]'X.ht).own+1)]) (x':={(gq (ai[t]'X.ht) [cc]).2 with own:=(ai[t]'X.ht).own+1}) (by simp) (by simp[jw])
  rw[show List.take (t*12+5) (aS aW (ai.set t (gq (ai[t]'X.ht) [cc]).2)).flatten++[AV.int .i64 ((ai[t]'X.ht).own+1)]++List.drop (t*12+5+1) (aS aW (ai.set t (gq (ai[t]'X.ht) [cc]).2)).flatten=_ from mo]
  have aiR:t*12+5+1<=(aS aW (ai.set t (gq (ai[t]'X.ht) [cc]).2)).flatten.length:=by omega
  have X2:=X1.mQ (x:={(gq (ai[t]'X.ht) [cc]).2 with own:=(ai[t]'X.ht).own+1}) (by
   have:=X1.tv.ak _ (List.getElem_mem X1.ht)
   simpa using this)
  rw[List.set_set] at X2 ⊢
  have wc:IntKind.wrap .u64 (cc:Int)=cc:=fC (by omega)
  have FU: ¬xb=a.tb:=fun e=>X.dK (.inr e)
  simp+decide only[st,xv,p7,af1,af0,aiR,oT,wc,FU,xr,kE]
  exact⟨lb,N,M,X2.su (bT:={rp with ret:=cc}),(v8.mQ).sr, .inl rfl,by omega,by omega⟩
end
section
open Go
variable {P:Program} {h:aa} {a:KA} {lb N M:Nat} {ai:List Th} {ah:List Ob} {g:Nat->Option (List UInt8)} {xb t:Nat} {rp:Rp}
theorem Y6 {l:Lb}: ∀{ps:List Nat} {o:Ob},o∈ah->(gv ah l o ps).2=0->(gv ah l o ps).1∈ah
 |[],o,h,_=>h
 |p::ps,o,h,h0=>by
  unfold gv at h0 ⊢
  split at h0
  ·cases h0
  split at h0
  ·cases h0
  rename_i h1 h2
  rw[if_neg h1,if_neg h2]
  cases ho:bK ah p with
  |none=>rw[ho] at h0;cases h0
  |some o'=>rw[ho] at h0;exact Y6 (lO ho).1 h0
theorem M9 {l:Lb} {id:Nat} (hr: ∃r,bK ah 1=some r) (h0:(ej ah l id).2=0):(ej ah l id).1∈ah:=by
 unfold ej at h0 ⊢
 cases hm:dM id with
 |false=>rw[GW hm] at h0;cases h0
 |true=>
  obtain⟨ps,hp⟩:=GV hm
  obtain⟨r,hr⟩:=hr
  rw[hp] at h0 ⊢
  change(gv ah l ((bK ah 1).getD bc) ps).2=0 at h0
  change(gv ah l ((bK ah 1).getD bc) ps).1∈ah
  rw[hr] at h0 ⊢
  exact Y6 (lO hr).1 h0
theorem mI {l:Lb} {id:Nat} {kind:Int} {q:Lb->Bool} (hr: ∃r,bK ah 1=some r) (h0:(bS ah l id kind q).2=0):(bS ah l id kind q).1∈ah/\(bS ah l id kind q).1.kind=kind/\bS ah l id kind q=((ej ah l id).1,0):=by
 unfold bS at h0 ⊢
 split at h0
 ·rename_i h1;exact absurd h0 h1
 split at h0
 ·cases h0
 split at h0
 ·cases h0
 rename_i h1 h2 h3
 rw[if_neg h1,if_neg h2,if_neg h3]
 exact⟨M9 hr (Classical.not_not.1 h1),Classical.not_not.1 h2,rfl⟩
theorem NL {Z h':aa} {n i:Nat} (hk: ∀b,Z.next<=b->b<Z.next+n->h'.get b=(Z.clean n).get b):cU n Z.next i h':=fun j hj hn=>by
 rw[hk _ (by omega) (by omega)]
 simp only[aa.clean]
 exact if_neg (by omega)
theorem KF.free {Z h':aa} {a:KA} {lb n i:Nat} (k:KF (Z.clean n) h' a lb) (hl: ∀b,FK a b\/FA a lb b\/FS a b->b<Z.next):cU n Z.next i h':=NL fun b h1 h2=>k.2 b h2 (fun e=>by have:=hl b (.inl e);omega) (fun e=>by have:=hl b (.inr (.inl e));omega) (fun e=>by have:=hl b (.inr (.inr e));omega)
theorem KH.cO (K:KH h a lb N M ai ah g): ∀b,FK a b\/FA a lb b\/FS a b->b<h.next:=by
 have l1:=K.l1
 have l2:=K.l2
 obtain⟨f,A,_⟩:=K.ar
 have hA:=A.lt
 have hS:=K.sp.lt
 rintro b (e|e|e)
 ·rcases e with e|e<;>omega
 ·rcases e with e|e|e<;>omega
 ·rcases e with e|e|e|e<;>omega
def nI (x:Th) (l:Lb):Nat×Th:=if w9 x.ak l≠0 then(w9 x.ak l,x) else(0,{x with ak:=l})
theorem ajM (ok:ax P tb) (X:KX h xb a lb N M t ai ah rp) {c:Cl} {tl:Nat->aH} (k:iD c):
 ∃h',an P 65 [.ptr xb 0, .agg (c.c tl)] h (.int .i64 (nI (ai[t]'X.ht) c.ak).1) h'/\fc h xb a lb N M t (ai.set t (nI (ai[t]'X.ht) c.ak).2) ah rp h':=by
 suffices hu: ∃h',an P 65 [.ptr xb 0, .agg (c.c aK)] h (.int .i64 (nI (ai[t]'X.ht) c.ak).1) h'/\fc h xb a lb N M t (ai.set t (nI (ai[t]'X.ht) c.ak).2) ah rp h' by
  obtain⟨h',c1,hq⟩:=hu
  exact⟨h',rM c1,hq⟩
 refine ok.dz (rf:=tj) rfl (Nat.le_of_ble_eq_true rfl) ?_
 simp+decide only[st,xv,tj,afZ,fi]
 generalize hY:aa.at _ _ _=Y
 have oY:Old h Y:=by rw[<-hY];exact(Old.refl h).at (Nat.le_refl _)
 have cY:cellsOf Y h.next=some (c.c aK):=by rw[<-hY];exact av (by simp[aa.at];try rfl)
 have nY:Y.next=h.next+1:=by rw[<-hY];simp[aa.at]
 simp only[fi] at cY
 have XY:=X.old oY
 obtain⟨rt,hx⟩:=XY.x
 have cx:=av hx
 obtain⟨ct,hle,ff⟩:=XY.th
 have lx:=XY.lx
 have l2:=XY.k.l2
 have hny:h.next<Y.next:=by omega
 have jt:t*12+2<=(aS aW ai).flatten.length:=by omega
 refine bJ 11 rfl rfl ?_
 simp+decide only[st,xv,tj,afY,cx,ct,cY,lx,l2,hny,jt,ff]
 refine fA (akK (a:=(ai[t]'X.ht).ak) (b:=c.ak) (ta:= .ao) (eI:= .ao) ok X.ak k.ak) (dp (Nat.le_refl _)) ?_
 unfold nI
 by_cases hr:w9 (ai[t]'X.ht).ak c.ak=0
 ·have hr': ¬(w9 (ai[t]'X.ht).ak c.ak≠0):=fun h=>h hr
  rw[hr]
  have XC:=XY.old ((Old.refl Y).clean (n:=11))
  obtain⟨Lp,oF⟩:=XC.x
  have oT:=av oF
  obtain⟨wE,aiR,axD⟩:=XC.th
  simp+decide only[st,xv,tj,SP]
  refine qg 7 10 rfl (by omega) rfl ?_
  have lC:(Y.clean 11).next=Y.next+11:=rfl
  have n1:xb<Y.next+11:=by omega
  have n2:a.tb<Y.next+11:=by omega
  have n3:h.next<Y.next+11:=by omega
  simp+decide only[st,xv,tj,afW,cx,ct,cY,lx,l2,hny,n1,n2,n3]
  refine i6 (G5 ok (l:=c.ak) (t:= .ao) (by have:=k.Jr;omega)) (dp (Nat.le_refl _)) ?_
  have mo:=wY (l:=ai) X.ht (j:=0) (v:=[.int .u8 c.ak.d, .vs (aw.R c.ak.ps) .ao]) (x':={ai[t]'X.ht with ak:=c.ak}) (by simp) rfl
  simp+decide only[st,xv,Lb.c,n2,l2,ct,jt]
  rw[show List.take (t*12) (aS aW ai).flatten++[AV.int IntKind.u8 ↑c.ak.d,AV.vs (aw.R c.ak.ps) aH.ao]++List.drop (t*12+(1+1)) (aS aW ai).flatten=_ from mo]
  simp+decide only[st,xv,tj,afV,kE]
  refine⟨(jD n2).2 (dp (by show(Y.clean 11).next<=_;omega)),lb,N,M,(XC.old ((Old.refl _).clean (n:=10))).mQ (x:={ai[t]'X.ht with ak:=c.ak}) ⟨k.ak,k.Jr⟩,?_, .inl rfl,by omega,by omega⟩
  exact(XF.old ((oY.trans ((Old.refl Y).clean)).trans ((Old.refl _).clean))).mQ
 ·have hr':((w9 (ai[t]'X.ht).ak c.ak:Int)=0)=False:=eq_false (by omega)
  rw[if_pos hr]
  simp+decide only[st,xv,tj,SP,afX,hr',kE]
  rw[tz]
  exact X.fin (oY.trans ((Old.refl Y).clean))
def xJ (l:Lb) (ah:List Ob) (c:Cl):Nat×List UInt8:=if(bS ah l c.id 2 (fD l)).2≠0 then((bS ah l c.id 2 (fD l)).2,[]) else if 0<=c.off/\0<=c.n/\c.off+c.n<=(bS ah l c.id 2 (fD l)).1.data.length then(0,((bS ah l c.id 2 (fD l)).1.data.drop c.off.toNat).take c.n.toNat) else(11,[])
theorem Nv {o:Ob} (k:KS ah) (ho:o∈ah) (h2:o.kind=2):eC ah o.id=some o.data:=by
 unfold eC
 rw[mH k.di ho]
 simp[h2]
theorem akk (ok:ax P tb) (X:KX h xb a lb N M t ai ah rp) {c:Cl} {tl:Nat->aH} (k:iD c):
 ∃h' bT,an P 67 [.ptr xb 0, .agg (c.c tl)] h (.int .i64 (xJ (ai[t]'X.ht).ak ah c).1) h'/\fc h xb a lb N M t ai ah bT h'/\((xJ (ai[t]'X.ht).ak ah c).1=0->bT={rp with data:=(xJ (ai[t]'X.ht).ak ah c).2}):=by
 obtain⟨V,hV⟩: ∃V,V=xJ (ai[t]'X.ht).ak ah c:=⟨_,rfl⟩
 suffices hu: ∃h',an P 67 [.ptr xb 0, .agg (c.c aK)] h (.int .i64 V.1) h'/\ ∃bT,fc h xb a lb N M t ai ah bT h'/\(V.1=0->bT={rp with data:=V.2}) by
  obtain⟨h',c1,bT,hq⟩:=hu
  rw[<-hV]
  exact⟨h',bT,rM c1,hq⟩
 unfold xJ at hV
 refine ok.dz (rf:=p6) rfl (Nat.le_of_ble_eq_true rfl) ?_
 simp+decide only[st,xv,p6,afR,fi]
 generalize hY:aa.at _ _ _=Y
 have oY:Old h Y:=by rw[<-hY];exact(Old.refl h).at (Nat.le_refl _)
 have cY:cellsOf Y h.next=some (c.c aK):=by rw[<-hY];exact av (by simp[aa.at];try rfl)
 have nY:Y.next=h.next+1:=by rw[<-hY];simp[aa.at]
 simp only[fi] at cY
 have XY:=X.old oY
 simp+decide only[st,xv,p6,SJ,cY]
 refine aq (uS ok XY k.id (ok.bZ _ rfl) (q:=fD (ai[t]'X.ht).ak) (fun o h' hl o'=>DJ ok (XY.old o') (tl:=aK) hl)) ?_
 have dI:=mI (l:=(ai[t]'X.ht).ak) (id:=c.id) (kind:=2) (q:=fD (ai[t]'X.ht).ak) X.root
 generalize bS ah (ai[t]'X.ht).ak c.id 2 (fD (ai[t]'X.ht).ak)=R at*
 obtain⟨o,e⟩:=R
 simp only at hV dI
 simp+decide only[st,xv,p6,SJ,dv,xr]
 generalize hZ:aa.set _ _ _=Z
 have oZ:Old Y Z:=by rw[<-hZ];exact((Old.refl Y).at (Nat.le_refl _)).set (Nat.le_refl _)
 have cZ:cellsOf Z Y.next=some (o.c aK):=by rw[<-hZ];exact av (by simp[aa.set];try rfl)
 have nZ:Z.next=Y.next+1:=by rw[<-hZ];simp[aa.at,aa.set]
 have mF:cellsOf Z h.next=_:=(show cellsOf Z h.next=cellsOf Y h.next by unfold cellsOf;rw[oZ.get _ (by omega)]).trans cY
 simp only[dv] at cZ
 by_cases he:e=0
 ·subst he
  rw[if_neg (fun h=>h rfl)] at hV
  obtain⟨db,aY,_⟩:=dI rfl
  have XZ:=XY.old oZ
  have pF:=Nv XZ.k.ks db aY
  obtain⟨rt,hx⟩:=XZ.x
  have cx:=av hx
  have ck:=av XZ.k.top
  have lx:=XZ.lx
  have lk:=XZ.k.l1
  have l0:h.next<Z.next:=by omega
  have l1:h.next+1<Z.next:=by omega
  simp+decide only[st,xv,p6,SI]
  refine bJ 23 rfl rfl ?_
  have XC:=XZ.old ((Old.refl Z).clean (n:=23))
  rw[nY] at cZ
  simp+decide only[st,xv,p6,afP,cx,ck,cZ,mF,lx,lk,l0,l1,nY]
  have lC:(Z.clean 23).next=Z.next+23:=rfl
  have n1:xb<Z.next+23:=by omega
  have hold:Old h (Z.clean 23):=(oY.trans oZ).trans ((Old.refl Z).clean)
  have fr: ∀(cs:List AV) (i:Nat),cU 23 Z.next i ((Z.clean 23).set xb (some (.cells cs))):=fun cs i=>(jD lx).2 (dp (Nat.le_refl _))
  by_cases aE:0<=c.off/\0<=c.n/\c.off+c.n<=o.data.length
  ·rw[if_pos aE] at hV
   subst hV
   obtain⟨off,vP⟩:=Int.eq_ofNat_of_zero_le aE.1
   obtain⟨n,hn⟩:=Int.eq_ofNat_of_zero_le aE.2.1
   have ku:=XC.k.sp.read ok (id:=o.id) (off:=off) (n:=n) pF (by omega)
   rw[<-vP,<-hn] at ku
   refine fA ku (dp (Nat.le_refl _)) ?_
   simp+decide only[st,xv,p6,SH,cx,lx,xr]
   refine⟨fr _ _,rfl,{rp with data:=(o.data.drop off).take n},⟨lb,N,M,XC.su (bT:={rp with data:=(o.data.drop off).take n}),(XF.old hold).sr, .inl rfl,by omega,by omega⟩,?_⟩
   rw[vP,hn];rfl
  ·rw[if_neg aE] at hV
   subst hV
   have ku:=XC.k.sp.aon ok (id:=o.id) (off:=c.off) (n:=c.n) pF (by omega)
   refine fA ku (dp (Nat.le_refl _)) ?_
   simp+decide only[st,xv,p6,SH,cx,lx,xr]
   exact⟨fr _ _,rfl,{rp with data:=[]},lb,N,M,XC.su (bT:={rp with data:=[]}),(XF.old hold).sr, .inl rfl,by omega,by omega⟩
 ·rw[if_pos he] at hV
  subst hV
  have dJ:((e:Int)=0)=False:=eq_false (by omega)
  simp+decide only[st,xv,p6,SI,afQ,dJ,kE]
  exact⟨rp,X.fin (oY.trans oZ),fun h=>absurd h he⟩
def FZ (ah:List Ob) (o:Ob) (d:List UInt8):List Ob:=ec ah {o with data:=d}
theorem KX.wr (X:KX h xb a lb N M t ai ah rp) {o:Ob} (ho:o∈ah) (h2:o.kind=2) {d:List UInt8} (hd:d.length=o.data.length) {h':aa} (s:y7 h h' a.bl a.bp) (S:SG h' a.bs a.bm a.bl a.bp M (jc (eC ah) o.id (some d))):KX h' xb a lb N M t ai (FZ ah o d) rp:=by
 have v:=X.k.ks.val o ho
 have vd:=v.data hd
 have K1:=X.k.Jl s S
 have BG: ∀id,bK (FZ ah o d) id=if id=o.id then some {o with data:=d} else bK ah id:=fun id=>tB X.k.ks.di
 obtain⟨f,A,R⟩:=K1.ar
 obtain⟨tl,hx⟩:=X.x
 refine⟨⟨K1.top,K1.bg,⟨f,A,fun id=>?_⟩,K1.sp.fn fun id=>?_,K1.l1,K1.l2,K1.BO,K1.lI,K1.lH,K1.oS,K1.ks.put vd⟩,⟨tl,by rw[s.2 _ X.lx (fun e=>X.dS (.inr (.inr (.inl e)))) (fun e=>X.dS (.inr (.inr (.inr e)))),hx]⟩,Nat.lt_of_lt_of_le X.lx s.1,X.dK,X.dA,X.dS,X.ht,X.tv,?_⟩
 ·rw[BG]
  by_cases e:id=o.id
  ·rw[if_pos e]
   have:=R o.id
   rw[mH X.k.ks.di ho] at this
   obtain⟨d',h1,h2⟩:=this
   exact⟨d',by rw[h1];exact hd.symm,by rw[e,h2]⟩
  ·rw[if_neg e];exact R id
 ·unfold jc eC
  rw[BG]
  by_cases e:id=o.id
  ·rw[if_pos e,if_pos e];simp[h2]
  ·rw[if_neg e,if_neg e]
 ·obtain⟨r,hr⟩:=X.root
  rw[BG]
  by_cases e:1=o.id
  ·rw[if_pos e];exact⟨_,rfl⟩
  ·rw[if_neg e];exact⟨r,hr⟩
def rW (l:Lb) (ah:List Ob) (c:Cl):Nat×List Ob:=if(bS ah l c.id 2 (fo l)).2≠0 then((bS ah l c.id 2 (fo l)).2,ah) else if 0<=c.off/\c.off+c.data.length<=(bS ah l c.id 2 (fo l)).1.data.length then(0,FZ ah (bS ah l c.id 2 (fo l)).1 (yA (bS ah l c.id 2 (fo l)).1.data c.off.toNat c.data)) else(11,ah)
theorem ajL (ok:ax P tb) (X:KX h xb a lb N M t ai ah rp) {c:Cl} {tl:Nat->aH} (k:iD c):
 ∃h',an P 68 [.ptr xb 0, .agg (c.c tl)] h (.int .i64 (rW (ai[t]'X.ht).ak ah c).1) h'/\fc h xb a lb N M t ai (rW (ai[t]'X.ht).ak ah c).2 rp h':=by
 obtain⟨V,hV⟩: ∃V,V=rW (ai[t]'X.ht).ak ah c:=⟨_,rfl⟩
 rw[<-hV]
 suffices hu: ∃h',an P 68 [.ptr xb 0, .agg (c.c aK)] h (.int .i64 V.1) h'/\fc h xb a lb N M t ai V.2 rp h' by
  obtain⟨h',c1,hq⟩:=hu
  exact⟨h',rM c1,hq⟩
 unfold rW at hV
 refine ok.dz (rf:=p5) rfl (Nat.le_of_ble_eq_true rfl) ?_
 simp+decide only[st,xv,p5,afO,fi]
 generalize hY:aa.at _ _ _=Y
 have oY:Old h Y:=by rw[<-hY];exact(Old.refl h).at (Nat.le_refl _)
 have cY:cellsOf Y h.next=some (c.c aK):=by rw[<-hY];exact av (by simp[aa.at];try rfl)
 have nY:Y.next=h.next+1:=by rw[<-hY];simp[aa.at]
 simp only[fi] at cY
 have XY:=X.old oY
 simp+decide only[st,xv,p5,SF,cY]
 refine aq (uS ok XY k.id (ok.bZ _ rfl) (q:=fo (ai[t]'X.ht).ak) (fun o h' hl o'=>N6 ok (XY.old o') (tl:=aK) hl)) ?_
 have dI:=mI (l:=(ai[t]'X.ht).ak) (id:=c.id) (kind:=2) (q:=fo (ai[t]'X.ht).ak) X.root
 generalize bS ah (ai[t]'X.ht).ak c.id 2 (fo (ai[t]'X.ht).ak)=R at*
 obtain⟨o,e⟩:=R
 simp only at hV dI
 simp+decide only[st,xv,p5,SF,dv,xr]
 generalize hZ:aa.set _ _ _=Z
 have oZ:Old Y Z:=by rw[<-hZ];exact((Old.refl Y).at (Nat.le_refl _)).set (Nat.le_refl _)
 have cZ:cellsOf Z Y.next=some (o.c aK):=by rw[<-hZ];exact av (by simp[aa.set];try rfl)
 have nZ:Z.next=Y.next+1:=by rw[<-hZ];simp[aa.at,aa.set]
 have mF:cellsOf Z h.next=_:=(show cellsOf Z h.next=cellsOf Y h.next by unfold cellsOf;rw[oZ.get _ (by omega)]).trans cY
 simp only[dv] at cZ
 by_cases he:e=0
 ·subst he
  rw[if_neg (fun h=>h rfl)] at hV
  obtain⟨db,aY,_⟩:=dI rfl
  have XZ:=XY.old oZ
  have pF:=Nv XZ.k.ks db aY
  obtain⟨rt,hx⟩:=XZ.x
  have cx:=av hx
  have ck:=av XZ.k.top
  have lx:=XZ.lx
  have lk:=XZ.k.l1
  have l0:h.next<Z.next:=by omega
  have l1:h.next+1<Z.next:=by omega
  simp+decide only[st,xv,p5,SE]
  refine bJ 15 rfl rfl ?_
  have XC:=XZ.old ((Old.refl Z).clean (n:=15))
  rw[nY] at cZ
  simp+decide only[st,xv,p5,JV,cx,ck,cZ,mF,lx,lk,l0,l1,nY]
  have lC:(Z.clean 15).next=Z.next+15:=rfl
  have hold:Old h (Z.clean 15):=(oY.trans oZ).trans ((Old.refl Z).clean)
  by_cases aE:0<=c.off/\c.off+c.data.length<=o.data.length
  ·rw[if_pos aE] at hV
   subst hV
   obtain⟨off,vP⟩:=Int.eq_ofNat_of_zero_le aE.1
   obtain⟨h1,bn,S1,k1⟩:=XC.k.sp.write ok (id:=o.id) (off:=off) (v:=c.data) (t:= .ao) pF (by omega)
   rw[<-vP] at bn
   have We:=XZ.k.sp.lt
   refine fA bn (NL fun b ef bY=>k1.2 b (by omega) (by omega) (by omega)) ?_
   simp+decide only[st,xv,p5,JV]
   refine⟨rfl,lb,N,M,XC.wr db aY (by simp[yA];omega) k1 ?_,(XF.old hold).trans k1.kf.xf (.inl rfl), .inl rfl,by omega,by omega⟩
   rw[vP];exact S1
  ·rw[if_neg aE] at hV
   subst hV
   have ku:=XC.k.sp.amQ ok (id:=o.id) (off:=c.off) (v:=c.data) (t:= .ao) pF (by omega)
   refine fA ku (dp (Nat.le_refl _)) ?_
   simp+decide only[st,xv,p5,JV]
   exact⟨rfl,X.fin hold⟩
 ·rw[if_pos he] at hV
  subst hV
  have dJ:((e:Int)=0)=False:=eq_false (by omega)
  simp+decide only[st,xv,p5,SE,afN,dJ]
  exact⟨rfl,X.fin (oY.trans oZ)⟩
def pt (x:Th) (ah:List Ob) (c:Cl):Nat×Th:=if(bS ah x.ak c.id 3 (fD x.ak)).2≠0 then((bS ah x.ak c.id 3 (fD x.ak)).2,x) else gq x (bS ah x.ak c.id 3 (fD x.ak)).1.bu
theorem ajO (ok:ax P tb) (X:KX h xb a lb N M t ai ah rp) {c:Cl} {tl:Nat->aH} (k:iD c):
 ∃h',an P 70 [.ptr xb 0, .agg (c.c tl)] h (.int .i64 (pt (ai[t]'X.ht) ah c).1) h'/\fc h xb a lb N M t (ai.set t (pt (ai[t]'X.ht) ah c).2) ah rp h':=by
 obtain⟨V,hV⟩: ∃V,V=pt (ai[t]'X.ht) ah c:=⟨_,rfl⟩
 rw[<-hV]
 suffices hu: ∃h',an P 70 [.ptr xb 0, .agg (c.c aK)] h (.int .i64 V.1) h'/\fc h xb a lb N M t (ai.set t V.2) ah rp h' by
  obtain⟨h',c1,hq⟩:=hu
  exact⟨h',rM c1,hq⟩
 unfold pt at hV
 refine ok.dz (rf:=ti) rfl (Nat.le_of_ble_eq_true rfl) ?_
 simp+decide only[st,xv,ti,afF,fi]
 generalize hY:aa.at _ _ _=Y
 have oY:Old h Y:=by rw[<-hY];exact(Old.refl h).at (Nat.le_refl _)
 have cY:cellsOf Y h.next=some (c.c aK):=by rw[<-hY];exact av (by simp[aa.at];try rfl)
 have nY:Y.next=h.next+1:=by rw[<-hY];simp[aa.at]
 simp only[fi] at cY
 have XY:=X.old oY
 simp+decide only[st,xv,ti,Sy,cY]
 refine aq (uS ok XY k.id (ok.bZ _ rfl) (q:=fD (ai[t]'X.ht).ak) (fun o h' hl o'=>DJ ok (XY.old o') (tl:=aK) hl)) ?_
 have dI:=mI (l:=(ai[t]'X.ht).ak) (id:=c.id) (kind:=3) (q:=fD (ai[t]'X.ht).ak) X.root
 generalize bS ah (ai[t]'X.ht).ak c.id 3 (fD (ai[t]'X.ht).ak)=R at*
 obtain⟨o,e⟩:=R
 simp only at hV dI
 simp+decide only[st,xv,ti,Sy,dv,xr]
 generalize hZ:aa.set _ _ _=Z
 have oZ:Old Y Z:=by rw[<-hZ];exact((Old.refl Y).at (Nat.le_refl _)).set (Nat.le_refl _)
 have cZ:cellsOf Z Y.next=some (o.c aK):=by rw[<-hZ];exact av (by simp[aa.set];try rfl)
 have nZ:Z.next=Y.next+1:=by rw[<-hZ];simp[aa.at,aa.set]
 simp only[dv] at cZ
 by_cases he:e=0
 ·subst he
  rw[if_neg (fun h=>h rfl)] at hV
  obtain⟨db,aY,_⟩:=dI rfl
  have XZ:=XY.old oZ
  have v:=XZ.k.ks.val o db
  have dj:=Hq (G6 v.may aY)
  obtain⟨h1,bn,X1,f1⟩:=Xy ok XZ (cs:=o.bu) (tl:= .ao) v.ok.cat (by omega)
  simp+decide only[st,xv,ti,Sx,Sw,cZ]
  rw[<-hV] at bn X1
  refine aq bn ?_
  simp+decide only[st,xv,ti,Sw]
  exact⟨rfl,lb,N,M,X1,(XF.old (oY.trans oZ)).trans f1 (.inl rfl), .inl rfl,by omega,by omega⟩
 ·rw[if_pos he] at hV
  subst hV
  have dJ:((e:Int)=0)=False:=eq_false (by omega)
  simp+decide only[st,xv,ti,Sx,afE,dJ]
  refine⟨rfl,?_⟩
  show fc h xb a lb N M t (ai.set t (ai[t]'X.ht)) ah rp _
  rw[tz]
  exact X.fin (oY.trans oZ)
end
section
open Go
def At (base:Nat) (W:Nat->Prop):Option Nat->Prop
 |none=>True
 |some b=>b<base/\ ¬W b
def rX (base:Nat) (W:Nat->Prop) (h h':aa):Prop:= ∀b,b<base-> ¬W b->h'.get b=h.get b
def mK (P:Program) (W:Nat->Prop) (un:List (List Nat)) (n base:Nat):List RO->Nat->Env->aa->(Env->aa->Prop)->Prop
 |[],_,ρ,h,K=>K ρ h
 |o::os,i,ρ,h,K=> ∃r h',br P o (base+i) ρ h r h'/\(o.op.cq=true-> ∀j,i<j->j<n->h'.get (base+j)=none)/\rX base W h h'/\
   (∀q,o.op= .p q->fQ un i=true->At base W (q.key ρ))/\mK P W un n base os (i+1) (put ρ o.dst (fO r)) h' K
theorem Zg {P:Program} {al:List RO} {un:List (List Nat)} {base:Nat} {W:Nat->Prop} {K:Env->aa->Prop}: ∀(os:List RO) (i:Nat) (ρ:Env) (h:aa) (done:List (Env×aa×Option AV)),
 done.length=i->al.drop i=os->
 (∀k d,done[k]? =some d->rX base W d.2.1 h/\ ∀ok q v,al[k]? =some ok->ok.op= .p q->fQ un k=true->d.2.2=some v->aX q d.1 d.2.1=some v/\At base W (q.key d.1))->
 mK P W un al.length base os i ρ h K->l7 P al un base os i ρ h done K
 |[],i,ρ,h,done,_,_,_,he=>he
 |o::os,i,ρ,h,done,hl,hd,hinv,⟨r,h',hs,hf,hk,iq,he⟩=>by
  have lA:al[i]? =some o:=by
   have:(al.drop i)[0]? =some o:=by rw[hd];rfl
   rw[List.getElem?_drop] at this
   simpa using this
  have bH: ∀k,k∈un.getD i []->fQ un i=true/\fQ un k=true:=fun k hk=>by
   constructor
   ·unfold fQ
    cases hq:un.getD i [] with
    |nil=>rw[hq] at hk;cases hk
    |cons a b=>rfl
   ·unfold fQ
    have:un.any (fun l=>l.contains k)=true:=by
     rw[List.any_eq_true]
     rw[List.getD_eq_getElem?_getD] at hk
     cases hq:un[i]? with
     |none=>rw[hq] at hk;cases hk
     |some l=>rw[hq] at hk;exact⟨l,List.mem_of_getElem? hq,by simpa using hk⟩
    rw[this,Bool.or_true]
  have oq: ∀q v,o.op= .p q->r=some v->aX q ρ h=some v/\h'=h:=fun q v hq hr=>by
   unfold br at hs
   split at hs
   ·obtain⟨v',h1,h2⟩:=hs
    rw[hr] at h1;cases h1
    rw[hq] at h2
    exact h2
   ·rw[hr] at hs;cases hs.1
   ·exact hs.elim
  refine⟨r,h',hs,fun k yR ok d aY cB=>?_,hf,?_⟩
  ·obtain⟨f1,f2⟩:=bH k yR
   obtain⟨hold,sv⟩:=hinv k d cB
   unfold lJ
   split
   ·split
    ·rename_i v q hv hq
     obtain⟨h1,h2⟩:=sv ok q v aY hq f2 hv
     rw[<-h1]
     refine(rK q d.1 d.2.1 h' (fun b hb=>?_)).symm
     rw[hb] at h2
     rw[hk b h2.1 h2.2,hold b h2.1 h2.2]
    ·trivial
   ·split
    ·rename_i v q hq
     obtain⟨h1,rfl⟩:=oq q v hq rfl
     have h2:=iq q hq f1
     rw[<-h1]
     refine rK q ρ d.2.1 h' (fun b hb=>?_)
     rw[hb] at h2
     exact(hold b h2.1 h2.2).symm
    ·trivial
  ·refine Zg os (i+1) _ h' _ (by simp[hl]) ?_ ?_ he
   ·rw[<-List.drop_drop,hd];rfl
   ·intro k d cB
    rw[List.getElem?_append] at cB
    split at cB
    ·obtain⟨g1,g2⟩:=hinv k d cB
     exact⟨fun b hb hw=>by rw[hk b hb hw,g1 b hb hw],g2⟩
    ·rename_i aC
     have mB:k=i:=by
      have:=(List.getElem?_eq_some_iff.1 cB).1
      simp at this;omega
     subst mB
     simp[hl] at cB
     subst cB
     refine⟨hk,fun ok q v aY hq bH hv=>?_⟩
     rw[lA] at aY;cases aY
     exact⟨(oq q v hq hv).1,iq q hq bH⟩
theorem aag {P:Program} {al:List RO} {un:List (List Nat)} {K:aQ->Env->aa->Prop} {ρ:Env} {h:aa} (W:Nat->Prop) (n:Nat) (hn:al.length=n) (he:mK P W un n h.next al 0 ρ (h.clean n) (K .normal)):WP P (.aU al un) K ρ h:=by
 subst hn
 obtain⟨ρ1,h1,he,hk⟩:=zp (Zg (W:=W) al 0 ρ _ [] rfl rfl (fun k d hd=>by simp at hd) he)
 exact⟨_,_,_, .AU he,hk⟩
section
variable {P:Program} {W:Nat->Prop} {un:List (List Nat)} {n base i:Nat} {ρ:Env} {h:aa} {K:Env->aa->Prop} {d:Option Nat} {os:List RO}
def W5 (P:Program) (W:Nat->Prop) (un:List (List Nat)) (n base:Nat) (os:List RO) (i:Nat) (d:Option Nat) (ρ:Env) (h:aa) (K:Env->aa->Prop) (o:Option AV):Prop:= ∃v,o=some v/\mK P W un n base os (i+1) (put ρ d v) h K
def d4E (P:Program) (W:Nat->Prop) (un:List (List Nat)) (n base:Nat) (os:List RO) (i:Nat) (d:Option Nat) (ρ:Env) (h:aa) (K:Env->aa->Prop) (o:Option (AV×aa)):Prop:= ∃v h',o=some (v,h')/\cU n base i h'/\rX base W h h'/\mK P W un n base os (i+1) (put ρ d v) h' K
def d4C (P:Program) (W:Nat->Prop) (un:List (List Nat)) (n base:Nat) (os:List RO) (i:Nat) (d:Option Nat) (ρ:Env) (h:aa) (K:Env->aa->Prop) (f:Nat) (as:List AV):Prop:= ∃v h',an P f as h v h'/\cU n base i h'/\rX base W h h'/\mK P W un n base os (i+1) (put ρ d v) h' K
theorem arc:mK P W un n base [] i ρ h K↔K ρ h:=Iff.rfl
theorem aw4 {q:a8}:mK P W un n base (⟨d,none, .p q⟩::os) i ρ h K↔(fQ un i=true->At base W (q.key ρ))/\W5 P W un n base os i d ρ h K (aX q ρ h):=by
 constructor
 ·rintro⟨r,h',hs,_,_,hk,he⟩
  simp only[br,bV,gF] at hs
  obtain⟨v,rfl,hv,rfl⟩:=hs
  exact⟨hk q rfl,v,hv,he⟩
 ·rintro⟨hk,v,hv,he⟩
  exact⟨some v,h,⟨v,rfl,hv,rfl⟩,fun hh=>by simp[bU.cq] at hh,fun _ _ _=>rfl,(fun q' hq=>by cases hq;exact hk),he⟩
theorem aw5 {q:gf}:mK P W un n base (⟨d,none, .e q⟩::os) i ρ h K↔d4E P W un n base os i d ρ h K (bN q ρ (base+i) h):=by
 constructor
 ·rintro⟨r,h',hs,hf,hk,_,he⟩
  simp only[br,bV,gF] at hs
  obtain⟨v,rfl,hv⟩:=hs
  exact⟨v,h',hv,hf rfl,hk,he⟩
 ·rintro⟨v,h',hv,hf,hk,he⟩
  exact⟨some v,h',⟨v,rfl,hv⟩,fun _=>hf,hk,(fun q' hq=>by cases hq),he⟩
theorem aw6 {f:Nat} {as:List au}:mK P W un n base (⟨d,none, .call f as⟩::os) i ρ h K↔d4C P W un n base os i d ρ h K f (as.map (au.ev ρ)):=by
 constructor
 ·rintro⟨r,h',hs,hf,hk,_,he⟩
  simp only[br,bV,gF] at hs
  obtain⟨v,rfl,hv⟩:=hs
  exact⟨v,h',hv,hf rfl,hk,he⟩
 ·rintro⟨v,h',hv,hf,hk,he⟩
  exact⟨some v,h',⟨v,rfl,hv⟩,fun _=>hf,hk,fun q' hq=>(by cases hq),he⟩
theorem anZ {v:AV}:W5 P W un n base os i d ρ h K (some v)↔mK P W un n base os (i+1) (put ρ d v) h K:=by simp[W5]
theorem an0 {v:AV} {h':aa}:d4E P W un n base os i d ρ h K (some (v,h'))↔cU n base i h'/\rX base W h h'/\mK P W un n base os (i+1) (put ρ d v) h' K:=by
 constructor
 ·rintro⟨v',h2,e,a,b,c⟩;cases e;exact⟨a,b,c⟩
 ·rintro⟨a,b,c⟩;exact⟨v,h',rfl,a,b,c⟩
theorem alh:At base W none↔True:=Iff.rfl
theorem alg {b:Nat}:At base W (some b)↔b<base/\ ¬W b:=Iff.rfl
end
theorem YF {base:Nat} {W:Nat->Prop} {h:aa} {b:Nat} {x:Option cI} (hw:W b):rX base W h (h.set b x):=fun c _ hc=>by
 simp only[aa.set]
 rw[if_neg]
 intro e;subst e;exact hc hw
theorem Cc {base:Nat} {W:Nat->Prop} {h:aa} {b:Nat} {x y:Option cI} (hw:W b):rX base W (h.set b x) (h.set b y):=fun c _ hc=>by
 have: ¬c=b:=fun e=>hc (e▸hw)
 simp only[aa.set]
 rw[if_neg this,if_neg this]
set_option linter.defProp false in
def sw:=And.intro @arc<|And.intro @aw4<|And.intro @aw5<|And.intro @aw6<|And.intro @anZ<|And.intro @an0<|And.intro @alh @alg
end
section
open Go
variable {P:Program} {h:aa} {a:KA} {lb N M:Nat} {ai:List Th} {ah:List Ob} {g:Nat->Option (List UInt8)} {xb t:Nat} {rp:Rp}
theorem DI (ok:ax P tb) (X:KX h xb a lb N M t ai ah rp) {o:Ob} {tl:Nat->aH} (v:jB o) (hs: ∀o',bK ah o.id=some o'->o'.kind≠2/\o.kind≠2) (hN:N<2^19) (hM:M<128):
 ∃h',an P 22 [.ptr a.kb 0, .agg (o.c tl)] h (.az []) h'/\ ∃aT,KX h' xb a aT (N+1) (if o.kind=2 then M+1 else M) t ai (ec ah o) rp/\(aT=lb\/h.next<=aT)/\KF h h' a lb:=by
 obtain⟨h',c,aT,K,hl,kf⟩:=aiJ ok X.k (t:=tl) v hs hN hM
 obtain⟨rt,hx⟩:=X.x
 refine⟨h',c,aT,⟨K,⟨rt,by rw[kf.2 _ X.lx X.dK X.dA X.dS,hx]⟩,Nat.lt_of_lt_of_le X.lx kf.1,X.dK,?_,X.dS,X.ht,X.tv,?_⟩,hl,kf⟩
 ·rintro(e|e|e)
  ·exact X.dA (.inl e)
  ·exact X.dA (.inr (.inl e))
  ·rcases hl with h|h
   ·exact X.dA (.inr (.inr (e.trans h)))
   ·have:=X.lx;omega
 ·obtain⟨r,hr⟩:=X.root
  rw[tB X.k.ks.di]
  by_cases e:1=o.id
  ·rw[if_pos e];exact⟨_,rfl⟩
  ·rw[if_neg e];exact⟨r,hr⟩
theorem aa1 {o:Ob} (v:jB o) (h4:o.kind=4) {r:List (List UInt8)} (hr:j8 r=true):jB {o with ring:=r}:=by
 have hm:=v.may
 have hn:=v.norm
 have iJ:=wP hr
 refine⟨⟨v.ok.ak,v.ok.id,v.ok.bu,by show r.length<_;omega,v.ok.cat⟩,?_,?_⟩
 ·have h1: ¬o.kind=1:=by omega
  have h2: ¬o.kind=2:=by omega
  have h3: ¬o.kind=3:=by omega
  unfold eY nF at hm ⊢
  simp only[h1,h2,h3,h4,if_true,if_false] at hm ⊢
  unfold qB at hm ⊢
  simp only[Bool.and_eq_true] at hm ⊢
  exact⟨hm.1,hr⟩
 ·cases o with
  |mk Lx kind ak bf used next data bu ring st=>
   unfold jr at hn ⊢
   simp only at hn h4 ⊢
   have h1: ¬kind=1:=by omega
   have h2: ¬kind=2:=by omega
   have h3: ¬kind=3:=by omega
   rw[if_neg h1,if_neg h2,if_neg h3] at hn ⊢
   simp only[Ob.mk.injEq,bc] at hn ⊢
   obtain⟨e1,e2,e3,e4,e5,e6,e7,e8,e9,Gx⟩:=hn
   exact⟨trivial,trivial,trivial,e4,e5,e6,e7,e8,trivial,Gx⟩
theorem ana {l:List (List UInt8)} {b:List UInt8} (hr:j8 l=true) (h0:(sf l b).2=0):sf l b=(l++[b],0)/\j8 (l++[b])=true:=by
 unfold sf at h0 ⊢
 split at h0
 ·cases h0
 split at h0
 ·cases h0
 rename_i h1 h2
 rw[if_neg h1,if_neg h2]
 refine⟨rfl,?_⟩
 unfold j8 at hr ⊢
 simp only[Bool.and_eq_true,decide_eq_true_eq,List.any_append,List.length_append,List.length_singleton,Bool.not_or,List.any_cons,List.any_nil,Bool.or_false] at hr ⊢
 refine⟨by omega,hr.2,by simp;omega⟩
def sh (l:Lb) (ah:List Ob) (c:Cl):Nat×List Ob:=if(bS ah l c.id 4 (ey l)).2≠0 then((bS ah l c.id 4 (ey l)).2,ah) else if(sf (bS ah l c.id 4 (ey l)).1.ring c.data).2≠0 then((sf (bS ah l c.id 4 (ey l)).1.ring c.data).2,ah) else(0,ec ah {(bS ah l c.id 4 (ey l)).1 with ring:=(sf (bS ah l c.id 4 (ey l)).1.ring c.data).1})
theorem aki (ok:ax P tb) (X:KX h xb a lb N M t ai ah rp) {c:Cl} {tl:Nat->aH} (k:iD c) (hN:N<2^19) (hM:M<128):
 ∃h',an P 71 [.ptr xb 0, .agg (c.c tl)] h (.int .i64 (sh (ai[t]'X.ht).ak ah c).1) h'/\fc h xb a lb N M t ai (sh (ai[t]'X.ht).ak ah c).2 rp h':=by
 obtain⟨V,hV⟩: ∃V,V=sh (ai[t]'X.ht).ak ah c:=⟨_,rfl⟩
 rw[<-hV]
 suffices hu: ∃h',an P 71 [.ptr xb 0, .agg (c.c aK)] h (.int .i64 V.1) h'/\fc h xb a lb N M t ai V.2 rp h' by
  obtain⟨h',c1,hq⟩:=hu
  exact⟨h',rM c1,hq⟩
 unfold sh at hV
 refine ok.dz (rf:=nj) rfl (Nat.le_of_ble_eq_true rfl) ?_
 simp+decide only[st,xv,nj,afD,fi]
 generalize hY:aa.at _ _ _=Y
 have oY:Old h Y:=by rw[<-hY];exact(Old.refl h).at (Nat.le_refl _)
 have cY:cellsOf Y h.next=some (c.c aK):=by rw[<-hY];exact av (by simp[aa.at];try rfl)
 have nY:Y.next=h.next+1:=by rw[<-hY];simp[aa.at]
 simp only[fi] at cY
 have XY:=X.old oY
 simp+decide only[st,xv,nj,Sv,cY]
 refine aq (uS ok XY k.id (ok.bZ _ rfl) (q:=ey (ai[t]'X.ht).ak) (fun o h' hl o'=>Jt ok (XY.old o') (tl:=aK) hl)) ?_
 have dI:=mI (l:=(ai[t]'X.ht).ak) (id:=c.id) (kind:=4) (q:=ey (ai[t]'X.ht).ak) X.root
 generalize bS ah (ai[t]'X.ht).ak c.id 4 (ey (ai[t]'X.ht).ak)=R at*
 obtain⟨o,e⟩:=R
 simp only at hV dI
 simp+decide only[st,xv,nj,Sv,dv,xr]
 generalize hZ:aa.set _ _ _=Z
 have oZ:Old Y Z:=by rw[<-hZ];exact((Old.refl Y).at (Nat.le_refl _)).set (Nat.le_refl _)
 have cZ:cellsOf Z Y.next=some (o.c aK):=by rw[<-hZ];exact av (by simp[aa.set];try rfl)
 have nZ:Z.next=Y.next+1:=by rw[<-hZ];simp[aa.at,aa.set]
 have mF:cellsOf Z h.next=_:=(show cellsOf Z h.next=cellsOf Y h.next by unfold cellsOf;rw[oZ.get _ (by omega)]).trans cY
 simp only[dv] at cZ
 rw[nY] at cZ
 have hold:=oY.trans oZ
 have n01: ¬h.next=h.next+1:=by omega
 by_cases he:e=0
 ·subst he
  rw[if_neg (fun h=>h rfl)] at hV
  obtain⟨db,aY,_⟩:=dI rfl
  have XZ:=XY.old oZ
  have v:=XZ.k.ks.val o db
  have wm:=zw v.may aY
  have iJ:=wP wm
  have hd:=k.data
  simp+decide only[st,xv,nj,Su,Ss,cZ,mF,nY]
  refine aq (alP ok (l:=o.ring) (b:=c.data) (t:= .ao) (t':= .ao) (by omega) (fun b hb=>by have:=iJ.2 b hb;omega) (by omega)) ?_
  have hpo:=ana (b:=c.data) wm
  generalize hQ:sf o.ring c.data=Q at*
  obtain⟨r,e2⟩:=Q
  simp only at hV hpo
  simp+decide only[st,xv,nj,Ss,cZ,nY,xr]
  obtain⟨W,hW⟩: ∃W,W=Z.set (h.next+1) (some (.cells (Ob.c {o with ring:=r} aK))):=⟨_,rfl⟩
  have lF:=hW
  simp only[dv] at lF
  rw[<-lF]
  have oW:Old h W:=by rw[hW];exact hold.set (by omega)
  have cW:cellsOf W (h.next+1)=some (Ob.c {o with ring:=r} aK):=by rw[hW];exact av (by simp[aa.set])
  have XW:=X.old oW
  simp only[dv] at cW
  by_cases uy:e2=0
  ·subst uy
   rw[if_neg (fun h=>h rfl)] at hV
   obtain⟨uq,Gb⟩:=hpo rfl
   cases uq
   subst hV
   obtain⟨rt,hx⟩:=XW.x
   have cx:=av hx
   have lx:=XW.lx
   have lW:h.next+1<W.next:=by rw[hW];simp only[aa.set];omega
   simp+decide only[st,xv,nj,Sr]
   refine bJ 6 rfl rfl ?_
   simp+decide only[st,xv,nj,afA,cx,cW,lx,lW,nY]
   have XC:=XW.old ((Old.refl W).clean (n:=6))
   obtain⟨h1,bn,fw,X1,ee,iG⟩:=DI ok XC (o:={o with ring:=o.ring++[c.data]}) (tl:=aK) (aa1 v aY Gb) (fun o' ed=>by
    have wk:=mH XC.k.ks.di db
    have:o'=o:=by rw[wk] at ed;exact(Option.some.inj ed).symm
    subst this
    exact⟨by omega,by show o'.kind≠2;omega⟩) hN hM
   refine fA bn (iG.free XW.k.cO) ?_
   simp+decide only[st,xv,nj,afz]
   have lC:(W.clean 6).next=W.next+6:=rfl
   have onW:=oW.next
   refine⟨rfl,fw,N+1,_,X1,(XF.old (oW.trans ((Old.refl W).clean))).trans iG.xf (.inl rfl),?_,by omega,by split<;>omega⟩
   rcases ee with h|h
   ·exact .inl h
   ·exact .inr (by omega)
  ·rw[if_pos uy] at hV
   subst hV
   have dJ:((e2:Int)=0)=False:=eq_false (by omega)
   simp+decide only[st,xv,nj,Sr,afB,dJ]
   exact⟨rfl,X.fin oW⟩
 ·rw[if_pos he] at hV
  subst hV
  have dJ:((e:Int)=0)=False:=eq_false (by omega)
  simp+decide only[st,xv,nj,Su,afC,dJ]
  exact⟨rfl,X.fin hold⟩
def ik (x:Th) (ah:List Ob) (c:Cl):Bool×Nat×Th×List Ob×List UInt8:=if(bS ah x.ak c.id 4 (ey x.ak)).2≠0 then(true,(bS ah x.ak c.id 4 (ey x.ak)).2,x,ah,[]) else match(bS ah x.ak c.id 4 (ey x.ak)).1.ring with
 |[]=>(false,0,{x with bG:=1,id:=c.id},ah,[])
 |b::m=>(true,0,x,ec ah {(bS ah x.ak c.id 4 (ey x.ak)).1 with ring:=m},b)
theorem al5 {b:List UInt8} {m:List (List UInt8)} (h:j8 (b::m)=true):j8 m=true:=by
 unfold j8 at h ⊢
 simp only[Bool.and_eq_true,decide_eq_true_eq,List.length_cons,List.any_cons,Bool.not_or] at h ⊢
 exact⟨by omega,h.2.2⟩
theorem akj (ok:ax P tb) (X:KX h xb a lb N M t ai ah rp) {c:Cl} {tl:Nat->aH} (k:iD c) (hN:N<2^19) (hM:M<128):
 ∃h' bT,an P 72 [.ptr xb 0, .agg (c.c tl)] h (.az [.bool (ik (ai[t]'X.ht) ah c).1, .int .i64 (ik (ai[t]'X.ht) ah c).2.1]) h'/\fc h xb a lb N M t (ai.set t (ik (ai[t]'X.ht) ah c).2.2.1) (ik (ai[t]'X.ht) ah c).2.2.2.1 bT h'/\((ik (ai[t]'X.ht) ah c).1=true->(ik (ai[t]'X.ht) ah c).2.1=0->bT={rp with data:=(ik (ai[t]'X.ht) ah c).2.2.2.2}):=by
 obtain⟨V,hV⟩: ∃V,V=ik (ai[t]'X.ht) ah c:=⟨_,rfl⟩
 rw[<-hV]
 obtain⟨Q,hQ⟩: ∃Q:aa->Prop,∀h',Q h'↔ ∃bT,fc h xb a lb N M t (ai.set t V.2.2.1) V.2.2.2.1 bT h'/\(V.1=true->V.2.1=0->bT={rp with data:=V.2.2.2.2}):=⟨_,fun _=>Iff.rfl⟩
 suffices hu: ∃h',an P 72 [.ptr xb 0, .agg (c.c aK)] h (.az [.bool V.1, .int .i64 V.2.1]) h'/\Q h' by
  obtain⟨h',c1,hq⟩:=hu
  obtain⟨bT,hq⟩:=(hQ h').1 hq
  exact⟨h',bT,rM c1,hq⟩
 unfold ik at hV
 refine ok.dz (rf:=ni) rfl (Nat.le_of_ble_eq_true rfl) ?_
 simp+decide only[st,xv,ni,afy,fi]
 generalize hY:aa.at _ _ _=Y
 have oY:Old h Y:=by rw[<-hY];exact(Old.refl h).at (Nat.le_refl _)
 have cY:cellsOf Y h.next=some (c.c aK):=by rw[<-hY];exact av (by simp[aa.at];try rfl)
 have nY:Y.next=h.next+1:=by rw[<-hY];simp[aa.at]
 simp only[fi] at cY
 have XY:=X.old oY
 simp+decide only[st,xv,ni,Sq,cY]
 refine aq (uS ok XY k.id (ok.bZ _ rfl) (q:=ey (ai[t]'X.ht).ak) (fun o h' hl o'=>Jt ok (XY.old o') (tl:=aK) hl)) ?_
 have dI:=mI (l:=(ai[t]'X.ht).ak) (id:=c.id) (kind:=4) (q:=ey (ai[t]'X.ht).ak) X.root
 generalize bS ah (ai[t]'X.ht).ak c.id 4 (ey (ai[t]'X.ht).ak)=R at*
 obtain⟨o,e⟩:=R
 simp only at hV dI
 simp+decide only[st,xv,ni,Sq,dv,xr]
 generalize hZ:aa.set _ _ _=Z
 have oZ:Old Y Z:=by rw[<-hZ];exact((Old.refl Y).at (Nat.le_refl _)).set (Nat.le_refl _)
 have cZ:cellsOf Z Y.next=some (o.c aK):=by rw[<-hZ];exact av (by simp[aa.set];try rfl)
 have nZ:Z.next=Y.next+1:=by rw[<-hZ];simp[aa.at,aa.set]
 have mF:cellsOf Z h.next=_:=(show cellsOf Z h.next=cellsOf Y h.next by unfold cellsOf;rw[oZ.get _ (by omega)]).trans cY
 simp only[dv] at cZ
 rw[nY] at cZ
 have hold:=oY.trans oZ
 have n01: ¬h.next=h.next+1:=by omega
 by_cases he:e=0
 ·subst he
  rw[if_neg (fun h=>h rfl)] at hV
  obtain⟨db,aY,_⟩:=dI rfl
  have XZ:=XY.old oZ
  have v:=XZ.k.ks.val o db
  have wm:=zw v.may aY
  have iJ:=wP wm
  simp+decide only[st,xv,ni,So,JT,cZ,mF,nY]
  refine aq (amN ok (l:=o.ring) (t:= .ao) (by omega) (fun b hb=>by have:=iJ.2 b hb;omega)) ?_
  cases Ra:o.ring with
  |nil=>
   rw[Ra] at hV
   subst hV
   obtain⟨rt,hx⟩:=XZ.x
   have cx:=av hx
   obtain⟨ct,hle,cw⟩:=XZ.E5
   have lx:=XZ.lx
   have l2:=XZ.k.l2
   have Wa: ¬h.next=a.tb:=by have:=X.k.l2;omega
   have V9: ¬xb=a.tb:=fun e=>X.dK (.inr e)
   have l0:h.next<Z.next:=by omega
   have Ws:List.take (t*12+6) (aS aW ai).flatten++[AV.int .i64 1]++List.drop (t*12+6+1) (aS aW ai).flatten=(aS aW (ai.set t {ai[t]'X.ht with bG:=1})).flatten:=wY (l:=ai) X.ht (j:=6) (v:=[.int .i64 1]) (x':={ai[t]'X.ht with bG:=1}) (by simp) (by simp[jw])
   have F8:List.take (t*12+7) (aS aW (ai.set t {ai[t]'X.ht with bG:=1})).flatten++[AV.int .u64 c.id]++List.drop (t*12+7+1) (aS aW (ai.set t {ai[t]'X.ht with bG:=1})).flatten=(aS aW (ai.set t {ai[t]'X.ht with bG:=1,id:=c.id})).flatten:=by
    have:=wY (l:=ai.set t {ai[t]'X.ht with bG:=1}) (t:=t) (by simpa using X.ht) (j:=7) (v:=[.int .u64 c.id]) (x':={ai[t]'X.ht with bG:=1,id:=c.id}) (by simp) (by simp[jw])
    rw[List.set_set] at this
    exact this
   have ee:t*12+6+1<=(aS aW ai).flatten.length:=by omega
   have fY:t*12+7+1<=(aS aW (ai.set t {ai[t]'X.ht with bG:=1})).flatten.length:=by
    rw[jE mJ,gE,List.length_set];have:=X.ht;omega
   simp+decide only[st,xv,ni,JT,Sn]
   refine aag (fun b=>b=a.tb) 16 rfl ?_
   simp+decide only[st,xv,ni,afw,afv,sw,cx,ct,mF,lx,l2,l0,Wa,V9,ee,nY,Ws,F8,fY,xr]
   have fz:=fun i=>dp (h:=Z) (n:=16) (m:=16) (base:=Z.next) (i:=i) (Nat.le_refl _)
   have LF:=XZ.tv.ak _ (List.getElem_mem XZ.ht)
   refine⟨(jD l2).2 (fz _),YF rfl,?_⟩
   refine⟨(jD l2).2 (fz _),Cc rfl,rfl,(hQ _).2 ⟨rp,⟨lb,N,M,(XZ.old ((Old.refl Z).clean (n:=16))).mQ (x:={ai[t]'X.ht with bG:=1,id:=c.id}) LF,(XF.old (hold.trans ((Old.refl Z).clean))).mQ, .inl rfl,by omega,by omega⟩,fun h=>by cases h⟩⟩
  |cons b m=>
   rw[Ra] at hV
   subst hV
   rw[Ra] at wm
   have awn:=al5 wm
   simp+decide only[st,xv,ni,JT,Sn,afu,cZ,nY,xr]
   obtain⟨W,hW⟩: ∃W,W=Z.set (h.next+1) (some (.cells (Ob.c {o with ring:=m} aK))):=⟨_,rfl⟩
   have lF:=hW
   simp only[dv] at lF
   rw[<-lF]
   have oW:Old h W:=by rw[hW];exact hold.set (by omega)
   have cW:cellsOf W (h.next+1)=some (Ob.c {o with ring:=m} aK):=by rw[hW];exact av (by simp[aa.set])
   have XW:=X.old oW
   simp only[dv] at cW
   obtain⟨rt,hx⟩:=XW.x
   have cx:=av hx
   have lx:=XW.lx
   have lW:h.next+1<W.next:=by rw[hW];simp only[aa.set];omega
   refine bJ 6 rfl rfl ?_
   simp+decide only[st,xv,ni,Sm,cx,cW,lx,lW,nY]
   have XC:=XW.old ((Old.refl W).clean (n:=6))
   obtain⟨h1,bn,fw,X1,ee,iG⟩:=DI ok XC (o:={o with ring:=m}) (tl:=aK) (aa1 v aY awn) (fun o' ed=>by
    have wk:=mH XC.k.ks.di db
    have:o'=o:=by rw[wk] at ed;exact(Option.some.inj ed).symm
    subst this
    exact⟨by omega,by show o'.kind≠2;omega⟩) hN hM
   refine fA bn (iG.free XW.k.cO) ?_
   obtain⟨rt1,pO⟩:=X1.x
   have BQ:=av pO
   simp+decide only[st,xv,ni,Sm,abA,abz,BQ,xr]
   have lC:(W.clean 6).next=W.next+6:=rfl
   have onW:=oW.next
   have e0:ai.set t (ai[t]'X.ht)=ai:=tz X.ht
   refine⟨rfl,(hQ _).2 ⟨{rp with data:=b},⟨fw,N+1,_,by rw[e0];exact X1.su (bT:={rp with data:=b}),((XF.old (oW.trans ((Old.refl W).clean))).trans iG.xf (.inl rfl)).sr,?_,by omega,by split<;>omega⟩,fun _ _=>rfl⟩⟩
   rcases ee with h|h
   ·exact .inl h
   ·exact .inr (by omega)
 ·rw[if_pos he] at hV
  subst hV
  have dJ:((e:Int)=0)=False:=eq_false (by omega)
  simp+decide only[st,xv,ni,So,afx,dJ]
  refine⟨rfl,(hQ _).2 ⟨rp,?_,fun _ h=>absurd h he⟩⟩
  show fc h xb a lb N M t (ai.set t (ai[t]'X.ht)) ah rp _
  rw[tz]
  exact X.fin hold
end
section
open Go
variable {P:Program} {h:aa} {a:KA} {lb N M:Nat} {ai:List Th} {ah:List Ob} {g:Nat->Option (List UInt8)} {xb t:Nat} {rp:Rp}
def tO (l:Lb) (ah:List Ob) (c:Cl):Nat×Nat×List UInt8:=if(ej ah l c.id).2≠0 then((ej ah l c.id).2,0,[]) else(0,if(ej ah l c.id).1.kind=2 then(ej ah l c.id).1.data.length else if(ej ah l c.id).1.kind=1 then(ej ah l c.id).1.bf.toNat else 0,UInt8.ofNat (ej ah l c.id).1.kind.toNat::du (ej ah l c.id).1.ak)
theorem akh (ok:ax P tb) (X:KX h xb a lb N M t ai ah rp) {c:Cl} {tl:Nat->aH} (k:iD c) (yN:rp.ret=0):
 ∃h' bT,an P 74 [.ptr xb 0, .agg (c.c tl)] h (.int .i64 (tO (ai[t]'X.ht).ak ah c).1) h'/\fc h xb a lb N M t ai ah bT h'/\((tO (ai[t]'X.ht).ak ah c).1=0->bT={rp with ret:=(tO (ai[t]'X.ht).ak ah c).2.1,data:=(tO (ai[t]'X.ht).ak ah c).2.2}):=by
 obtain⟨V,hV⟩: ∃V,V=tO (ai[t]'X.ht).ak ah c:=⟨_,rfl⟩
 rw[<-hV]
 obtain⟨Q,hQ⟩: ∃Q:aa->Prop,∀h',Q h'↔ ∃bT,fc h xb a lb N M t ai ah bT h'/\(V.1=0->bT={rp with ret:=V.2.1,data:=V.2.2}):=⟨_,fun _=>Iff.rfl⟩
 suffices hu: ∃h',an P 74 [.ptr xb 0, .agg (c.c aK)] h (.int .i64 V.1) h'/\Q h' by
  obtain⟨h',c1,hq⟩:=hu
  obtain⟨bT,hq⟩:=(hQ h').1 hq
  exact⟨h',bT,rM c1,hq⟩
 unfold tO at hV
 refine ok.dz (rf:=pc) rfl (Nat.le_of_ble_eq_true rfl) ?_
 simp+decide only[st,xv,pc,afo,fi]
 generalize hY:aa.at _ _ _=Y
 have oY:Old h Y:=by rw[<-hY];exact(Old.refl h).at (Nat.le_refl _)
 have cY:cellsOf Y h.next=some (c.c aK):=by rw[<-hY];exact av (by simp[aa.at];try rfl)
 have nY:Y.next=h.next+1:=by rw[<-hY];simp[aa.at]
 simp only[fi] at cY
 have XY:=X.old oY
 simp+decide only[st,xv,pc,Sg,cY]
 refine aq (MC ok XY k.id) ?_
 have dI:=M9 (l:=(ai[t]'X.ht).ak) (id:=c.id) X.root
 generalize ej ah (ai[t]'X.ht).ak c.id=R at*
 obtain⟨o,e⟩:=R
 simp only at hV dI
 simp+decide only[st,xv,pc,Sg,dv,xr]
 generalize hZ:aa.set _ _ _=Z
 have oZ:Old Y Z:=by rw[<-hZ];exact((Old.refl Y).at (Nat.le_refl _)).set (Nat.le_refl _)
 have cZ:cellsOf Z Y.next=some (o.c aK):=by rw[<-hZ];exact av (by simp[aa.set];try rfl)
 have nZ:Z.next=Y.next+1:=by rw[<-hZ];simp[aa.at,aa.set]
 have mF:cellsOf Z h.next=_:=(show cellsOf Z h.next=cellsOf Y h.next by unfold cellsOf;rw[oZ.get _ (by omega)]).trans cY
 simp only[dv] at cZ
 rw[nY] at cZ
 have hold:=oY.trans oZ
 by_cases he:e=0
 ·subst he
  rw[if_neg (fun h=>h rfl)] at hV
  have db:=dI rfl
  have XZ:=XY.old oZ
  have v:=XZ.k.ks.val o db
  obtain⟨rt,hx⟩:=XZ.x
  have cx:=av hx
  have lx:=XZ.lx
  have fg: ¬h.next+1=xb:=by have:=X.lx;omega
  obtain⟨kk,hk,oM,BC⟩: ∃kk:UInt8,o.kind=kk.toNat/\1<=kk.toNat/\kk.toNat<=4:=by
   rcases uU v.may with h|h|h|h<;>rw[h]
   ·exact⟨1,rfl,by decide⟩
   ·exact⟨2,rfl,by decide⟩
   ·exact⟨3,rfl,by decide⟩
   ·exact⟨4,rfl,by decide⟩
  have sU:UInt8.ofNat o.kind.toNat=kk:=by rw[hk];simp
  have w1:IntKind.wrap .u8 o.kind=kk.toNat:=by rw[hk,wrap_u8];unfold FJ;simp;omega
  simp+decide only[st,xv,pc,Sf,Se,cZ,nY,w1]
  refine aq (MP ok (b:=[kk]) (t:= .full) (l:=o.ak) (t':= .ao) v.ok.ak (by simp)) ?_
  simp+decide only[st,xv,pc,Se,afm,cZ,cx,nY,fg,xr]
  have Rc:=XF.old (a:=a) (lb:=lb) (xb:=xb) hold
  by_cases h2:o.kind=2
  ·have e2:(o.kind=2)=True:=eq_true h2
   have wv:=tE v.may h2
   have w2:IntKind.wrap .u64 (o.data.length:Int)=o.data.length:=fC (by omega)
   rw[if_pos h2,sU] at hV
   simp+decide only[st,xv,pc,JR,afl,H5,e2,cZ,cx,nY,fg,b8,w2,xr]
   subst hV
   refine⟨rfl,(hQ _).2 ⟨{rp with ret:=o.data.length,data:=kk::du o.ak},⟨lb,N,M,XZ.su (bT:={rp with ret:=o.data.length,data:=kk::du o.ak}),Rc.sr, .inl rfl,by omega,by omega⟩,fun _=>rfl⟩⟩
  have e2:(o.kind=2)=False:=eq_false h2
  rw[if_neg h2] at hV
  by_cases h1:o.kind=1
  ·have e1:(o.kind=1)=True:=eq_true h1
   obtain⟨b1,b2,b3,b4,b5⟩:=uX v.may h1
   obtain⟨q,hq⟩:=Int.eq_ofNat_of_zero_le (show 0<=o.bf by omega)
   have w2:IntKind.wrap .u64 o.bf=q:=by rw[hq];exact fC (by omega)
   rw[if_pos h1,sU,hq,Int.toNat_natCast] at hV
   simp+decide only[st,xv,pc,JR,Sd,afk,H5,e1,e2,cZ,cx,nY,fg,w2,xr]
   subst hV
   refine⟨rfl,(hQ _).2 ⟨{rp with ret:=q,data:=kk::du o.ak},⟨lb,N,M,XZ.su (bT:={rp with ret:=q,data:=kk::du o.ak}),Rc.sr, .inl rfl,by omega,by omega⟩,fun _=>rfl⟩⟩
  ·have e1:(o.kind=1)=False:=eq_false h1
   rw[if_neg h1,sU] at hV
   simp+decide only[st,xv,pc,JR,Sd,H5,e1,e2,cZ,cx,nY,fg,xr]
   subst hV
   refine⟨rfl,(hQ _).2 ⟨{rp with data:=kk::du o.ak},⟨lb,N,M,XZ.su (bT:={rp with data:=kk::du o.ak}),Rc.sr, .inl rfl,by omega,by omega⟩,fun _=>by rw[<-yN]⟩⟩
 ·rw[if_pos he] at hV
  subst hV
  have dJ:((e:Int)=0)=False:=eq_false (by omega)
  simp+decide only[st,xv,pc,Sf,afn,dJ]
  exact⟨rfl,(hQ _).2 ⟨rp,X.fin hold,fun h=>absurd h he⟩⟩
def Bq (x:Th) (ah:List Ob) (c:Cl) (done:Int) (fr to:Ob):Bool×Nat×Th×List Ob×Nat:=
 let d:=(max 0 (min done c.n)).toNat
 let e:=min (d+4) c.n.toNat
 let AX:=FZ ah to (yA to.data d ((fr.data.take e).drop d))
 if e<c.n.toNat then(false,0,{x with bG:=2,id:=c.id,to:=c.to,done:=e,n:=c.n},AX,0) else(true,0,x,AX,c.n.toNat)
def gw (x:Th) (ah:List Ob) (c:Cl) (done:Int):Bool×Nat×Th×List Ob×Nat:=
 if(bS ah x.ak c.id 2 (fD x.ak)).2≠0 then(true,(bS ah x.ak c.id 2 (fD x.ak)).2,x,ah,0)
 else if(bS ah x.ak c.to 2 (fo x.ak)).2≠0 then(true,(bS ah x.ak c.to 2 (fo x.ak)).2,x,ah,0)
 else if¬(0<=c.n/\c.n<=min ((bS ah x.ak c.id 2 (fD x.ak)).1.data.length:Int) (bS ah x.ak c.to 2 (fo x.ak)).1.data.length) then(true,11,x,ah,0)
 else Bq x ah c done (bS ah x.ak c.id 2 (fD x.ak)).1 (bS ah x.ak c.to 2 (fo x.ak)).1
theorem akm (ok:ax P tb) (X:KX h xb a lb N M t ai ah rp) {c:Cl} {tl:Nat->aH} {done:Int} (k:iD c):
 ∃h' bT,an P 73 [.ptr xb 0, .agg (c.c tl), .int .i64 done] h (.az [.bool (gw (ai[t]'X.ht) ah c done).1, .int .i64 (gw (ai[t]'X.ht) ah c done).2.1]) h'/\fc h xb a lb N M t (ai.set t (gw (ai[t]'X.ht) ah c done).2.2.1) (gw (ai[t]'X.ht) ah c done).2.2.2.1 bT h'/\((gw (ai[t]'X.ht) ah c done).1=true->(gw (ai[t]'X.ht) ah c done).2.1=0->bT={rp with ret:=(gw (ai[t]'X.ht) ah c done).2.2.2.2}):=by
 obtain⟨V,hV⟩: ∃V,V=gw (ai[t]'X.ht) ah c done:=⟨_,rfl⟩
 rw[<-hV]
 obtain⟨Q,hQ⟩: ∃Q:aa->Prop,∀h',Q h'↔ ∃bT,fc h xb a lb N M t (ai.set t V.2.2.1) V.2.2.2.1 bT h'/\(V.1=true->V.2.1=0->bT={rp with ret:=V.2.2.2.2}):=⟨_,fun _=>Iff.rfl⟩
 suffices hu: ∃h',an P 73 [.ptr xb 0, .agg (c.c aK), .int .i64 done] h (.az [.bool V.1, .int .i64 V.2.1]) h'/\Q h' by
  obtain⟨h',c1,hq⟩:=hu
  obtain⟨bT,hq⟩:=(hQ h').1 hq
  exact⟨h',bT,an.ao (by simp only[AV.bA,abi];exact c1),hq⟩
 unfold gw at hV
 refine ok.dz (rf:=kC) rfl (Nat.le_of_ble_eq_true rfl) ?_
 have e0:ai.set t (ai[t]'X.ht)=ai:=tz X.ht
 have lN: ∀{e:Nat} {H:aa},Old h H->e≠0->V=(true,e,(ai[t]'X.ht),ah,0)->Q H:=by
  intro e H o he hv
  refine(hQ _).2 ⟨rp,?_,fun _ h=>by rw[hv] at h;exact absurd h he⟩
  rw[hv]
  show fc h xb a lb N M t (ai.set t (ai[t]'X.ht)) ah rp H
  rw[e0]
  exact X.fin o
 simp+decide only[st,xv,kC,aft,fi]
 generalize hY:aa.at _ _ _=Y
 have oY:Old h Y:=by rw[<-hY];exact(Old.refl h).at (Nat.le_refl _)
 have cY:cellsOf Y h.next=some (c.c aK):=by rw[<-hY];exact av (by simp[aa.at];try rfl)
 have nY:Y.next=h.next+1:=by rw[<-hY];simp[aa.at]
 simp only[fi] at cY
 have XY:=X.old oY
 simp+decide only[st,xv,kC,Sk,cY]
 refine aq (uS ok XY k.id (ok.bZ _ rfl) (q:=fD (ai[t]'X.ht).ak) (fun o h' hl o'=>DJ ok (XY.old o') (tl:=aK) hl)) ?_
 have dI:=mI (l:=(ai[t]'X.ht).ak) (id:=c.id) (kind:=2) (q:=fD (ai[t]'X.ht).ak) X.root
 generalize bS ah (ai[t]'X.ht).ak c.id 2 (fD (ai[t]'X.ht).ak)=R at*
 obtain⟨o,e⟩:=R
 simp only at hV dI
 simp+decide only[st,xv,kC,Sk,dv,xr]
 generalize hZ:aa.set _ _ _=Z
 have oZ:Old Y Z:=by rw[<-hZ];exact((Old.refl Y).at (Nat.le_refl _)).set (Nat.le_refl _)
 have cZ:cellsOf Z Y.next=some (o.c aK):=by rw[<-hZ];exact av (by simp[aa.set];try rfl)
 have nZ:Z.next=Y.next+1:=by rw[<-hZ];simp[aa.at,aa.set]
 have mF:cellsOf Z h.next=_:=(show cellsOf Z h.next=cellsOf Y h.next by unfold cellsOf;rw[oZ.get _ (by omega)]).trans cY
 simp only[dv] at cZ
 have hold:=oY.trans oZ
 by_cases he:e=0
 case neg=>
  rw[if_pos he] at hV
  have dJ:((e:Int)=0)=False:=eq_false (by omega)
  rw[show V.1=true by rw[hV],show V.2.1=e by rw[hV]]
  simp+decide only[st,xv,kC,Sj,afs,dJ]
  exact⟨rfl,lN hold he hV⟩
 subst he
 rw[if_neg (fun h=>h rfl)] at hV
 obtain⟨db,aY,_⟩:=dI rfl
 have XZ:=XY.old oZ
 simp+decide only[st,xv,kC,Sj,Si,mF]
 refine aq (uS ok XZ k.to (ok.bZ _ rfl) (q:=fo (ai[t]'X.ht).ak) (fun o h' hl o'=>N6 ok (XZ.old o') (tl:=aK) hl)) ?_
 have Le:=mI (l:=(ai[t]'X.ht).ak) (id:=c.to) (kind:=2) (q:=fo (ai[t]'X.ht).ak) X.root
 generalize bS ah (ai[t]'X.ht).ak c.to 2 (fo (ai[t]'X.ht).ak)=R2 at*
 obtain⟨o2,e2⟩:=R2
 simp only at hV Le
 simp+decide only[st,xv,kC,Si,dv,xr]
 generalize hW:aa.set _ _ _=W
 have oW:Old Z W:=by rw[<-hW];exact((Old.refl Z).at (Nat.le_refl _)).set (Nat.le_refl _)
 have cW:cellsOf W Z.next=some (o2.c aK):=by rw[<-hW];exact av (by simp[aa.set];try rfl)
 have nW:W.next=Z.next+1:=by rw[<-hW];simp[aa.at,aa.set]
 have BR:cellsOf W h.next=_:=(show cellsOf W h.next=cellsOf Z h.next by unfold cellsOf;rw[oW.get _ (by omega)]).trans mF
 have Mp:cellsOf W Y.next=_:=(show cellsOf W Y.next=cellsOf Z Y.next by unfold cellsOf;rw[oW.get _ (by omega)]).trans cZ
 simp only[dv] at cW
 have Av:=hold.trans oW
 by_cases uy:e2=0
 case neg=>
  rw[if_pos uy] at hV
  have dJ:((e2:Int)=0)=False:=eq_false (by omega)
  rw[show V.1=true by rw[hV],show V.2.1=e2 by rw[hV]]
  simp+decide only[st,xv,kC,Sh,afr,dJ]
  exact⟨rfl,lN Av uy hV⟩
 subst uy
 rw[if_neg (fun h=>h rfl)] at hV
 obtain⟨U0,U1,_⟩:=Le rfl
 have XW:=XZ.old oW
 have v:=XW.k.ks.val o db
 have v2:=XW.k.ks.val o2 U0
 have hd1:=tE v.may aY
 have wx:=tE v2.may U1
 simp+decide only[st,xv,kC,Sh,JS,BR,Mp,cW,b8]
 refine aq (HG ok) ?_
 by_cases aE:0<=c.n/\c.n<=min (o.data.length:Int) o2.data.length
 case neg=>
  rw[if_pos aE] at hV
  have e:(decide (0<=c.n)&&decide (c.n<=min (o.data.length:Int) o2.data.length))=false:=by rw[<-Bool.not_eq_true];simp only[Bool.and_eq_true,decide_eq_true_eq];exact aE
  rw[show V.1=true by rw[hV],show V.2.1=11 by rw[hV],e]
  simp+decide only[st,xv,kC,JS,afq]
  exact⟨rfl,lN Av (by decide) hV⟩
 rw[if_neg (fun h=>h aE)] at hV
 have e:(decide (0<=c.n)&&decide (c.n<=min (o.data.length:Int) o2.data.length))=true:=by simp only[Bool.and_eq_true,decide_eq_true_eq];exact aE
 rw[e]
 obtain⟨n,hn⟩:=Int.eq_ofNat_of_zero_le aE.1
 unfold Bq at hV
 dsimp only at hV
 rw[hn,Int.toNat_natCast] at hV
 generalize hD:(max 0 (min done (n:Int))).toNat=d at*
 have iw:max 0 (min done (n:Int))=(d:Int):=by omega
 have Gm:d<=n:=by omega
 have Wy:n<=o.data.length/\n<=o2.data.length:=by omega
 have w1:IntKind.wrap .i64 ((d:Int)+4)=(d:Int)+4:=bw (by omega) (by omega)
 have awH:min ((d:Int)+4) (n:Int)=((min (d+4) n:Nat):Int):=by omega
 generalize hE:min (d+4) n=en at*
 have mD:d<=en:=by omega
 have hen:en<=n:=by omega
 simp+decide only[st,xv,kC,JS,afp,aby,BR,hn,iw,w1,awH]
 obtain⟨rt,hx⟩:=XW.x
 have cx:=av hx
 have ck:=av XW.k.top
 have lx:=XW.lx
 have lk:=XW.k.l1
 have l0:h.next<W.next:=by omega
 have l1:Y.next<W.next:=by omega
 have l2:Z.next<W.next:=by omega
 have k1:d<=en/\en<=o.data.length:=by omega
 have k2:dF 1 (BS o.data)=true:=qj
 have k3:List.take (en-d) (List.drop d (BS o.data))=BS ((o.data.take en).drop d):=by
  rw[wW,aaV,List.drop_take]
 refine bJ 16 rfl rfl ?_
 simp+decide only[st,xv,kC,abx,cx,ck,cW,BR,Mp,lx,lk,l0,l1,l2,b8,k1,k2,k3]
 have XC:=XW.old ((Old.refl W).clean (n:=16))
 have lC:(W.clean 16).next=W.next+16:=rfl
 have pF:=Nv XC.k.ks U0 U1
 have hlw:((o.data.take en).drop d).length=en-d:=by simp;omega
 obtain⟨h1,bn,S1,F1⟩:=XC.k.sp.write ok (id:=o2.id) (off:=d) (v:=(o.data.take en).drop d) (t:= .ao) pF (by omega)
 have We:=XW.k.sp.lt
 refine fA bn (NL fun b ef bY=>F1.2 b (by omega) (by omega) (by omega)) ?_
 have X1:=XC.wr U0 U1 (by simp[yA];omega) F1 S1
 have iG:XF h h1 a lb xb:=(XF.old (Av.trans ((Old.refl W).clean))).trans F1.kf.xf (.inl rfl)
 have qc:cellsOf h1 h.next=_:=(show cellsOf h1 h.next=cellsOf W h.next by
  have ns:=X.k.cO
  unfold cellsOf
  rw[F1.2 _ (by omega) (fun e=>by have:=ns _ (.inr (.inr (.inr (.inr (.inl e)))));omega) (fun e=>by have:=ns _ (.inr (.inr (.inr (.inr (.inr e)))));omega)]
  simp only[aa.clean]
  rw[if_pos l0]).trans BR
 have l1n:h.next<h1.next:=by have:=F1.1;omega
 simp+decide only[st,xv]
 generalize hρ:put _ _ _=ρ1
 have r0:ρ1 0= .ptr xb 0:=by rw[<-hρ];rfl
 have r4:ρ1 4= .ptr h.next 0:=by rw[<-hρ];rfl
 have eU:ρ1 11= .int .i64 en:=by rw[<-hρ];rfl
 clear hρ
 obtain⟨rt1,pO⟩:=X1.x
 have BQ:=av pO
 by_cases aC:en<n
 ·have kc:(en:Int)<(n:Int):=by omega
  rw[if_pos aC] at hV
  rw[show V.1=false by rw[hV],show V.2.1=0 by rw[hV]]
  obtain⟨ct,hle,_⟩:=X1.E5
  have lx1:=X1.lx
  have Wf:=X1.k.l2
  have Wa: ¬h.next=a.tb:=by have:=X.k.l2;omega
  have V9: ¬xb=a.tb:=fun e=>X.dK (.inr e)
  have WG:=X.ht
  have lp: ∀{x x':Th} {j:Nat} {v:AV},(j+1<=12)->List.take j (x.c aW)++[v]++List.drop (j+1) (x.c aW)=x'.c aW->List.take (t*12+j) (aS aW (ai.set t x)).flatten++[v]++List.drop (t*12+j+1) (aS aW (ai.set t x)).flatten=(aS aW (ai.set t x')).flatten/\t*12+j+1<=(aS aW (ai.set t x)).flatten.length:=by
   intro x x' j v hj oI
   have:=wY (l:=ai.set t x) (t:=t) (by simpa using WG) (j:=j) (v:=[v]) (x':=x') hj (by simpa using oI)
   rw[List.set_set] at this
   refine⟨this,?_⟩
   rw[jE mJ,gE,List.length_set];omega
  have s1:=lp (x:=ai[t]'X.ht) (x':={ai[t]'X.ht with bG:=2}) (j:=6) (v:= .int .i64 2) (by omega) (by simp[jw])
  rw[e0] at s1
  have s2:=lp (x:={ai[t]'X.ht with bG:=2}) (x':={ai[t]'X.ht with bG:=2,id:=c.id}) (j:=7) (v:= .int .u64 c.id) (by omega) (by simp[jw])
  have s3:=lp (x:={ai[t]'X.ht with bG:=2,id:=c.id}) (x':={ai[t]'X.ht with bG:=2,id:=c.id,to:=c.to}) (j:=8) (v:= .int .u64 c.to) (by omega) (by simp[jw])
  have s4:=lp (x:={ai[t]'X.ht with bG:=2,id:=c.id,to:=c.to}) (x':={ai[t]'X.ht with bG:=2,id:=c.id,to:=c.to,done:=en}) (j:=9) (v:= .int .i64 en) (by omega) (by simp[jw])
  have s5:=lp (x:={ai[t]'X.ht with bG:=2,id:=c.id,to:=c.to,done:=en}) (x':={ai[t]'X.ht with bG:=2,id:=c.id,to:=c.to,done:=en,n:=n}) (j:=10) (v:= .int .i64 n) (by omega) (by simp[jw])
  simp+decide only[st,xv,kC,Oo,r4,eU,qc,hn,kc]
  refine aag (fun b=>b=a.tb) 42 rfl ?_
  have fz:=fun i=>dp (h:=h1) (n:=42) (m:=42) (base:=h1.next) (i:=i) (Nat.le_refl _)
  simp+decide only[st,xv,kC,abw,abv,sw,r0,r4,eU,BQ,ct,qc,lx1,Wf,l1n,Wa,V9,hn,s1,s2,s3,s4,s5,xr]
  have fs:=fun(x:Option cI) i=>(jD (x:=x) Wf).2 (fz i)
  have LF:=X1.tv.ak _ (List.getElem_mem X1.ht)
  refine⟨fs _ _,YF rfl,fs _ _,Cc rfl,fs _ _,Cc rfl,fs _ _,Cc rfl,fs _ _,Cc rfl,rfl,(hQ _).2 ⟨rp,?_,fun h=>by rw[hV] at h;cases h⟩⟩
  rw[hV]
  exact⟨lb,N,M,(X1.old ((Old.refl h1).clean (n:=42))).mQ (x:={ai[t]'X.ht with bG:=2,id:=c.id,to:=c.to,done:=en,n:=n}) LF,(iG.trans (XF.old ((Old.refl h1).clean (n:=42))) (.inl rfl)).mQ, .inl rfl,by omega,by omega⟩
 ·have kc: ¬(en:Int)<(n:Int):=by omega
  rw[if_neg aC] at hV
  rw[show V.1=true by rw[hV],show V.2.1=0 by rw[hV]]
  have wn:IntKind.wrap .u64 (n:Int)=n:=fC (by omega)
  simp+decide only[st,xv,kC,Oo,abu,abt,r0,r4,eU,BQ,qc,hn,kc,wn,xr]
  refine⟨rfl,(hQ _).2 ⟨{rp with ret:=n},?_,fun _ _=>by rw[hV]⟩⟩
  rw[hV]
  show fc h xb a lb N M t (ai.set t (ai[t]'X.ht)) _ _ _
  rw[e0]
  exact⟨lb,N,M,X1.su (bT:={rp with ret:=n}),iG.sr, .inl rfl,by omega,by omega⟩
end
section
open Go
variable {P:Program} {h:aa} {a:KA} {lb N M:Nat} {ai:List Th} {ah:List Ob} {g:Nat->Option (List UInt8)} {xb t:Nat} {rp:Rp}
theorem XS {id:Nat} (hm:dM id=true) (h1:id≠1): ∃ps,ij id=ps++[fu id,id]/\(ps=[]->fu id=1)/\ ∀x∈ij id,x≠id->x<id:=by
 unfold dM at hm
 unfold fu mf ij
 cases hn:gx id with
 |none=>rw[hn] at hm;cases hm
 |some l=>
  obtain⟨e1,_⟩:=HA hn
  have hl:l≠[]:=by
   intro e;subst e
   simp at e1;exact h1 e1
  obtain⟨n,hlen⟩: ∃n,l.length=n+1:=⟨l.length-1,by have:=List.length_pos_iff.2 hl;omega⟩
  simp only[Option.getD_some,hlen]
  rw[if_neg (by omega)]
  refine⟨(List.range n).map fun j=>id/64^(n+1-j),?_,?_,?_⟩
  ·rw[List.range_succ,List.range_succ,List.map_append,List.map_append]
   simp
  ·intro e
   have e2:=congrArg List.length e
   simp at e2
   subst e2
   rw[hlen] at e1;simpa using e1
  ·intro x hx aM
   obtain⟨j,hj,rfl⟩:=List.mem_map.1 hx
   have kW:=List.mem_range.1 hj
   have iS:0<id:=by
    rcases Nat.eq_zero_or_pos id with h|h
    ·subst h;simp at e1
    ·exact h
   by_cases dO:j=n+1
   ·subst dO;simp at aM
   ·refine Nat.div_lt_self iS ?_
    have:1<=n+1-j:=by omega
    calc 1<64^1:=by decide
     _<=64^(n+1-j):=Nat.pow_le_pow_right (by decide) this
theorem GY {l:Lb} {p:Nat}: ∀{ps:List Nat} {o:Ob},(gv ah l o (ps++[p])).2=0-> ∃o',gv ah l o ps=(o',0)/\o'.kind=1/\fD l o'.ak=true/\bK ah p=some (gv ah l o (ps++[p])).1
 |[],o,h=>by
  simp only[List.nil_append] at h ⊢
  unfold gv at h ⊢
  split at h
  ·cases h
  split at h
  ·cases h
  rename_i h1 h2
  rw[if_neg h1,if_neg h2]
  cases ho:bK ah p with
  |none=>rw[ho] at h;cases h
  |some o'=>exact⟨o,rfl,Classical.not_not.1 h1,by simpa using h2,rfl⟩
 |q::ps,o,h=>by
  rw[List.cons_append] at h ⊢
  rw[gv] at h ⊢
  rw[gv]
  split at h
  ·cases h
  split at h
  ·cases h
  rename_i h1 h2
  rw[if_neg h1,if_neg h2,if_neg h1,if_neg h2]
  cases ho:bK ah q with
  |none=>rw[ho] at h;cases h
  |some o'=>rw[ho] at h;exact GY h
theorem Y8 {l:Lb} {id:Nat} (hr: ∃r,bK ah 1=some r) (h1:id≠1) (h0:(ej ah l id).2=0):bK ah id=some (ej ah l id).1/\ ∃b,bK ah (fu id)=some b/\b.kind=1/\dM id=true:=by
 cases hm:dM id with
 |false=>unfold ej at h0;rw[GW hm] at h0;cases h0
 |true=>
  obtain⟨ps,hp,uq,_⟩:=XS hm h1
  obtain⟨qs,hq⟩:=GV hm
  obtain⟨r,hr⟩:=hr
  unfold ej at h0 ⊢
  rw[hq] at h0 ⊢
  change(gv ah l ((bK ah 1).getD bc) qs).2=0 at h0
  change bK ah id=some (gv ah l ((bK ah 1).getD bc) qs).1/\_
  rw[hr,Option.getD_some] at h0 ⊢
  cases ps with
  |nil=>
   rw[hq] at hp
   have hn:=uq rfl
   rw[hn] at hp ⊢
   have Wt:qs=[id]:=by simpa using hp
   subst Wt
   obtain⟨o',e1,e2,_,e3⟩:=GY (ps:=[]) (p:=id) h0
   unfold gv at e1
   cases e1
   exact⟨e3,r,hr,e2,rfl⟩
  |cons p ps=>
   rw[hq] at hp
   have Wt:qs=ps++[fu id,id]:=by simpa using(List.cons.inj hp).2
   subst Wt
   have e:ps++[fu id,id]=(ps++[fu id])++[id]:=by simp
   rw[e] at h0 ⊢
   obtain⟨o',e1,e2,_,e3⟩:=GY h0
   have WY:(gv ah l r (ps++[fu id])).2=0:=by rw[e1]
   obtain⟨o'',_,_,_,e4⟩:=GY WY
   rw[e1] at e4
   exact⟨e3,o',e4,e2,rfl⟩
theorem apz (ok:ax P tb) (X:KX h xb a lb N M t ai ah rp) {id:Nat} (h1:id≠1):
 ∃h',an P 109 [.ptr a.kb 0, .int .u64 id] h (.az []) h'/\KX h' xb a lb N M t ai (qC ah id) rp/\KF h h' a lb:=by
 obtain⟨h',c,K,kf⟩:=asT ok X.k (id:=id)
 obtain⟨rt,hx⟩:=X.x
 refine⟨h',c,⟨K,⟨rt,by rw[kf.2 _ X.lx X.dK X.dA X.dS,hx]⟩,Nat.lt_of_lt_of_le X.lx kf.1,X.dK,X.dA,X.dS,X.ht,X.tv,?_⟩,kf⟩
 obtain⟨r,hr⟩:=X.root
 exact⟨r,by rw[GU,if_neg (fun e=>h1 e.symm),hr]⟩
def vK (gd:Nat) (ah:List Ob) (id:Nat):List Ob:=if jW id gd then qC ah id else ah
def AW (gd:Nat) (ah:List Ob):List Ob:=ah.filter fun o=>!jW o.id gd
theorem Zu {gd:Nat}: ∀{l:List Nat} {ah:List Ob},l.foldl (vK gd) ah=ah.filter fun o=>!(l.any fun id=>o.id==id&&jW id gd)
 |[],ah=>(List.filter_eq_self.2 (fun _ _=>rfl)).symm
 |id::l,ah=>by
  rw[List.foldl_cons,Zu]
  unfold vK
  by_cases hw:jW id gd=true
  ·rw[if_pos hw]
   unfold qC
   rw[List.filter_filter]
   congr 1
   funext o
   simp[hw,Bool.and_comm]
  ·have hw':jW id gd=false:=by simpa using hw
   rw[if_neg hw]
   congr 1
   funext o
   simp[hw']
theorem amW {gd:Nat}:(ah.map (·.id)).foldl (vK gd) ah=AW gd ah:=by
 rw[Zu]
 unfold AW
 refine List.filter_congr fun o ho=>?_
 congr 1
 rw[Bool.eq_iff_iff]
 simp only[List.any_eq_true,List.mem_map,Bool.and_eq_true,beq_iff_eq]
 constructor
 ·rintro⟨x,_,e,hw⟩;rw[e];exact hw
 ·intro hw;exact⟨o.id,⟨o,ho,rfl⟩,rfl,hw⟩
theorem ao5 {o:Ob} (v:jB o) (h1:o.kind=1) {c:Int}:jB (qA o c):=by
 obtain⟨b1,b2,b3,b4,b5⟩:=uX v.may h1
 unfold qA
 split
 ·refine⟨⟨v.ok.ak,v.ok.id,v.ok.bu,v.ok.ring,v.ok.cat⟩,?_,?_⟩
  ·have hm:=v.may
   unfold eY nF at hm ⊢
   rw[if_pos h1] at hm
   rw[if_pos (show({o with used:=max (o.used-c) 0}:Ob).kind=1 from h1)]
   unfold qB at hm ⊢
   simp only[Bool.and_eq_true,decide_eq_true_eq] at hm ⊢
   refine⟨hm.1,⟨⟨⟨by omega,by omega⟩,by omega⟩,by omega⟩,by omega⟩
  ·have hn:=v.norm
   cases o with
   |mk Lx kind ak bf used next data bu ring st=>
    simp only at h1
    subst h1
    unfold jr at hn ⊢
    simp only[if_true,Ob.mk.injEq] at hn ⊢
    exact⟨trivial,trivial,trivial,trivial,trivial,trivial,hn.2.2.2.2.2.2.1,hn.2.2.2.2.2.2.2.1,hn.2.2.2.2.2.2.2.2.1,hn.2.2.2.2.2.2.2.2.2⟩
 ·exact v
theorem NB {o:Ob} {c:Int}:(qA o c).id=o.id/\(qA o c).kind=o.kind:=by unfold qA;split<;>exact⟨rfl,rfl⟩
theorem Zv {o:Ob} (m:eY o=true) (hn:jr o=o):(-(2^61)<=o.bf/\o.bf<=400)/\o.data.length<=64/\0<=o.bf:=by
 have hq:0<=o.bf/\o.bf<=400:=by
  by_cases h1:o.kind=1
  ·have:=uX m h1;omega
  ·rw[<-hn];unfold jr
   rw[if_neg h1]
   split
   ·exact⟨Int.le_refl 0,(by decide:(0:Int)<=400)⟩
   split<;>exact⟨Int.le_refl 0,(by decide:(0:Int)<=400)⟩
 have hd:o.data.length<=64:=by
  by_cases h2:o.kind=2
  ·exact tE m h2
  ·rw[<-hn];unfold jr
   split
   ·exact Nat.zero_le _
   split<;>exact Nat.zero_le _
 exact⟨⟨by omega,hq.2⟩,hd,hq.1⟩
def rY (l:Lb) (ah:List Ob) (c:Cl):Nat×List Ob:=if c.id=1 then(1,ah) else if(ej ah l c.id).2≠0 then((ej ah l c.id).2,ah) else if ey l ((bK ah (fu c.id)).getD bc).ak=false then(6,ah) else(0,ec (AW c.id ah) (qA ((bK ah (fu c.id)).getD bc) (cost (ej ah l c.id).1)))
theorem alT {gd:Nat} (h1:gd≠1) {l:List Nat} {ah:List Ob} (hr: ∃r,bK ah 1=some r): ∀id∈l,jW id gd=true->id≠1:=by
 intro id _ hw e
 subst e
 unfold jW at hw
 have e:ij 1=[1]:=by decide
 rw[e] at hw
 have:=List.contains_iff_mem.1 hw
 exact h1 (List.mem_singleton.1 this)
theorem ajP (ok:ax P tb) (X:KX h xb a lb N M t ai ah rp) {c:Cl} {tl:Nat->aH} (k:iD c) (hN:N<2^19) (hM:M<128) (f0:ah.length<=12):
 ∃h',an P 69 [.ptr xb 0, .agg (c.c tl)] h (.int .i64 (rY (ai[t]'X.ht).ak ah c).1) h'/\fc h xb a lb N M t ai (rY (ai[t]'X.ht).ak ah c).2 rp h':=by
 obtain⟨V,hV⟩: ∃V,V=rY (ai[t]'X.ht).ak ah c:=⟨_,rfl⟩
 rw[<-hV]
 obtain⟨Q,hQ⟩: ∃Q:aa->Prop,∀h',Q h'↔fc h xb a lb N M t ai V.2 rp h':=⟨_,fun _=>Iff.rfl⟩
 suffices hu: ∃h',an P 69 [.ptr xb 0, .agg (c.c aK)] h (.int .i64 V.1) h'/\Q h' by
  obtain⟨h',c1,hq⟩:=hu
  exact⟨h',rM c1,(hQ h').1 hq⟩
 unfold rY at hV
 refine ok.dz (rf:=iZ) rfl (Nat.le_of_ble_eq_true rfl) ?_
 have lN: ∀{e:Nat} {H:aa},Old h H->V=(e,ah)->Q H:=by
  intro e H o hv
  refine(hQ _).2 ?_
  rw[hv]
  exact X.fin o
 simp+decide only[st,xv,iZ,afM,fi]
 generalize hY:aa.at _ _ _=Y
 have oY:Old h Y:=by rw[<-hY];exact(Old.refl h).at (Nat.le_refl _)
 have cY:cellsOf Y h.next=some (c.c aK):=by rw[<-hY];exact av (by simp[aa.at];try rfl)
 have nY:Y.next=h.next+1:=by rw[<-hY];simp[aa.at]
 simp only[fi] at cY
 have XY:=X.old oY
 by_cases h1:c.id=1
 ·have e1:((c.id:Int)=1)=True:=eq_true (by omega)
  rw[if_pos h1] at hV
  rw[show V.1=1 by rw[hV]]
  simp+decide only[st,xv,iZ,SD,afL,cY,e1]
  exact⟨rfl,lN oY hV⟩
 have e1:((c.id:Int)=1)=False:=eq_false (by omega)
 rw[if_neg h1] at hV
 simp+decide only[st,xv,iZ,SD,SC,cY,e1]
 refine aq (MC ok XY k.id) ?_
 have dI:=M9 (l:=(ai[t]'X.ht).ak) (id:=c.id) X.root
 have LX:=Y8 (l:=(ai[t]'X.ht).ak) X.root h1
 generalize ej ah (ai[t]'X.ht).ak c.id=R at*
 obtain⟨o,e⟩:=R
 simp only at hV dI LX
 simp+decide only[st,xv,iZ,SC,dv,xr]
 generalize hZ:aa.set _ _ _=Z
 have oZ:Old Y Z:=by rw[<-hZ];exact((Old.refl Y).at (Nat.le_refl _)).set (Nat.le_refl _)
 have cZ:cellsOf Z Y.next=some (o.c aK):=by rw[<-hZ];exact av (by simp[aa.set];try rfl)
 have nZ:Z.next=Y.next+1:=by rw[<-hZ];simp[aa.at,aa.set]
 have mF:cellsOf Z h.next=_:=(show cellsOf Z h.next=cellsOf Y h.next by unfold cellsOf;rw[oZ.get _ (by omega)]).trans cY
 simp only[dv] at cZ
 have hold:=oY.trans oZ
 by_cases he:e=0
 case neg=>
  rw[if_pos he] at hV
  have dJ:((e:Int)=0)=False:=eq_false (by omega)
  rw[show V.1=e by rw[hV]]
  simp+decide only[st,xv,iZ,SB,afK,dJ]
  exact⟨rfl,lN hold hV⟩
 subst he
 rw[if_neg (fun h=>h rfl)] at hV
 have db:=dI rfl
 obtain⟨_,b,hb,ef,m5⟩:=LX rfl
 rw[hb,Option.getD_some] at hV
 have XZ:=XY.old oZ
 have v:=XZ.k.ks.val o db
 have pW:=lO hb
 have vb:=XZ.k.ks.val b pW.1
 obtain⟨rt,hx⟩:=XZ.x
 have cx:=av hx
 have lx:=XZ.lx
 have lk:=XZ.k.l1
 have l0:h.next<Z.next:=by omega
 simp+decide only[st,xv,iZ,SB]
 refine qg 7 14 rfl (by omega) rfl ?_
 simp+decide only[st,xv,iZ,afJ,cx,mF,lx,l0]
 refine i6 (ajx ok k.id) (dp (Nat.le_refl _)) ?_
 have a7:=fun H (o:Old Z H)=>KN ok (XZ.old o).k (id:=fu c.id)
 rw[hb] at a7
 simp+decide only[st,xv,cx,lx]
 refine fA (a7 _ ((Old.refl Z).clean)) (dp (Nat.le_refl _)) ?_
 simp+decide only[st,xv,dv,xr]
 refine⟨fun j hj hn=>?_,?_⟩
 ·simp only[aa.set,aa.at,aa.clean]
  rw[if_neg (by omega),if_neg (by omega)]
  exact if_neg (by omega)
 generalize hW:aa.set _ _ _=W
 have oW:Old Z W:=by rw[<-hW];exact((Old.refl Z).clean.at (by omega)).set (by omega)
 have cW:cellsOf W (Z.next+11)=some (b.c aK):=by rw[<-hW];exact av (by simp[aa.set];rfl)
 have nW:W.next=Z.next+14:=by rw[<-hW];simp[aa.set,aa.at,aa.clean]
 have BR:cellsOf W h.next=_:=(show cellsOf W h.next=cellsOf Z h.next by unfold cellsOf;rw[oW.get _ (by omega)]).trans mF
 have Mp:cellsOf W Y.next=_:=(show cellsOf W Y.next=cellsOf Z Y.next by unfold cellsOf;rw[oW.get _ (by omega)]).trans cZ
 have XW:=XZ.old oW
 have Av:=hold.trans oW
 simp only[dv] at cW
 generalize hρ:put _ _ _=ρ1
 have r0:ρ1 0= .ptr xb 0:=by rw[<-hρ];rfl
 have r3:ρ1 3= .ptr h.next 0:=by rw[<-hρ];rfl
 have r5:ρ1 5= .ptr Y.next 0:=by rw[<-hρ];rfl
 have r7:ρ1 7= .ptr (Z.next+11) 0:=by rw[<-hρ];rfl
 clear hρ
 simp+decide only[st,xv,iZ,JU,r0,r7,cW]
 refine aq (Jt ok XW (o:=b) (tl:=aK) vb.ok.ak) ?_
 cases hbo:ey (ai[t]'X.ht).ak b.ak with
 |false=>
  rw[if_pos hbo] at hV
  rw[show V.1=6 by rw[hV]]
  simp+decide only[st,xv,iZ,JU,afI]
  exact⟨rfl,lN Av hV⟩
 |true=>
  rw[if_neg (by simp[hbo])] at hV
  obtain⟨Lp,oF⟩:=XW.x
  have oT:=av oF
  have ck2:=av XW.k.top
  obtain⟨f,A,Rr⟩:=XW.k.ar
  have aM:ah≠[]:=fun e=>by rw[e] at db;cases db
  obtain⟨i1,i2,i3⟩:=XW.k.ks.ids aM Rr
  simp+decide only[st,xv,iZ,JU,SA,r0,oT,ck2]
  refine aq (A.ids ok i1 i2 i3 (by simpa using f0)) ?_
  simp+decide only[st,xv,iZ,SA,ba.aN,List.length_map]
  have awB: ∀x∈ah.map (·.id),x<2^64:=fun x hx=>by
   obtain⟨o',ed,rfl⟩:=List.mem_map.1 hx
   exact(XW.k.ks.val o' ed).ok.id
  have Va:=amW (gd:=c.id) (ah:=ah)
  have hlen:(ah.map (·.id)).length=ah.length:=by simp
  generalize ah.map (·.id)=l at*
  let I:Nat->Env->aa->Prop:=fun n ρ H=> ∃i,l.length=i+n/\KX H xb a lb N M t ai ((l.take i).foldl (vK c.id) ah) rp/\XF h H a lb xb/\cellsOf H h.next=cellsOf Y h.next/\cellsOf H Y.next=cellsOf Z Y.next/\cellsOf H (Z.next+11)=cellsOf W (Z.next+11)/\W.next<=H.next/\ρ 0= .ptr xb 0/\ρ 3= .ptr h.next 0/\ρ 5= .ptr Y.next 0/\ρ 7= .ptr (Z.next+11) 0/\ρ 46= .vs ((ay .u64).R l) .ao/\ρ 47= .int .i64 l.length/\ρ 48= .int .i64 i
  have ee:l.length<2^20:=by omega
  have cO:=X.k.cO
  refine dn I ?_ l.length ⟨0,by omega,XW,XF.old Av,by rw[BR,cY],by rw[Mp,cZ],rfl,Nat.le_refl _,r0,r3,r5,r7,rfl,by rw[hlen];rfl,rfl⟩
  rintro n ρ H ⟨i,aE,KI,xf,d0,d1,d2,hWn,r0,r3,r5,r7,V2,Ls,Lr⟩
  rw[cY] at d0
  rw[cZ] at d1
  rw[cW] at d2
  by_cases hi:i<l.length
  ·have aB:(i:Int)<(l.length:Int):=by omega
   have hw:=cT (show i<2^61 by omega)
   have g1:((ay .u64).R l)[i]? =some [.int .u64 l[i]]:=(ay .u64).eW hi
   have mZ:l.take (i+1)=l.take i++[l[i]]:=(List.take_append_getElem hi).symm
   simp+decide only[st,xv,iZ,Ou,abD,H6,r3,V2,Ls,Lr,aB,g1,d0]
   refine aq (ajw ok (awB _ (List.getElem_mem hi))) ?_
   cases kT:jW l[i] c.id with
   |false=>
    simp+decide only[st,xv,iZ,H6,Oq,Lr,hw]
    refine⟨n-1,by omega,i+1,by omega,?_,xf,by rw[d0,cY],by rw[d1,cZ],by rw[d2,cW],hWn,r0,r3,r5,r7,V2,Ls,rfl⟩
    rw[mZ,List.foldl_append]
    show KX H xb a lb N M t ai (vK c.id _ l[i]) rp
    unfold vK
    rw[if_neg (by simp[kT])]
    exact KI
   |true=>
    have sS:=alT h1 (l:=l) X.root _ (List.getElem_mem hi) kT
    obtain⟨rt3,F3⟩:=KI.x
    have BP:=av F3
    obtain⟨H1,bn,K1,iG⟩:=apz ok KI sS
    simp+decide only[st,xv,iZ,H6,Ot,r0,BP]
    refine aq bn ?_
    simp+decide only[st,xv,iZ,Ot,Oq,Lr,hw]
    have same: ∀b,h.next<=b->b<W.next->H1.get b=H.get b:=fun b ef bY=>iG.2 b (by omega) (fun e=>by have:=cO b (.inl e);omega) (fun e=>by have:=cO b (.inr (.inl e));omega) (fun e=>by have:=cO b (.inr (.inr e));omega)
    have sc: ∀b,h.next<=b->b<W.next->cellsOf H1 b=cellsOf H b:=fun b ef bY=>by unfold cellsOf;rw[same b ef bY]
    refine⟨n-1,by omega,i+1,by omega,?_,xf.trans iG.xf (.inl rfl),by rw[sc _ (by omega) (by omega),d0,cY],by rw[sc _ (by omega) (by omega),d1,cZ],by rw[sc _ (by omega) (by omega),d2,cW],by have:=iG.1;omega,r0,r3,r5,r7,V2,Ls,rfl⟩
    rw[mZ,List.foldl_append]
    show KX H1 xb a lb N M t ai (vK c.id _ l[i]) rp
    unfold vK
    rw[if_pos kT]
    exact K1
  ·have aB: ¬(i:Int)<(l.length:Int):=by omega
   rw[List.take_of_length_le (by omega),Va] at KI
   obtain⟨rt3,F3⟩:=KI.x
   have BP:=av F3
   have Ly:=KI.lx
   have l3a:h.next<H.next:=by omega
   have l3b:Y.next<H.next:=by omega
   have l3c:Z.next+11<H.next:=by omega
   simp+decide only[st,xv,iZ,Ou,Ls,Lr,aB]
   refine qg 8 9 rfl (by omega) rfl ?_
   simp+decide only[st,xv,iZ,abC,r0,r5,r7,BP,d1,d2,Ly,l3a,l3b,l3c]
   have vq:=uU v.may
   have Jz:cost o<2^60/\ -(2^61)<=o.bf/\o.bf<2^61/\o.data.length<2^30:=by
    have hv:=Zv v.may v.norm
    refine⟨?_,by omega,by omega,by omega⟩
    unfold cost
    split<;>omega
   refine i6 (YR ok (o:=o) (t:=aK) ⟨Jz.2.1,Jz.2.2.1⟩ Jz.2.2.2) (dp (Nat.le_refl _)) ?_
   simp+decide only[st,xv,r0,r5,r7,BP,d1,d2,Ly,l3a,l3b,l3c]
   have lD:=uX vb.may ef
   refine i6 (amL ok (o:=b) (t:=aK) (c:=cost o) (by omega) Jz.1) (dp (Nat.le_refl _)) ?_
   have KC:=KI.old ((Old.refl H).clean (n:=9))
   have kx:=NB (o:=b) (c:=cost o)
   obtain⟨dc,bn,fw,X1,ee,iG⟩:=DI ok KC (o:=qA b (cost o)) (tl:=aK) (ao5 vb ef) (fun o' ed=>by
    have hm:=lO ed
    have hmo:=(List.mem_filter.1 hm.1).1
    have wk:=mH XW.k.ks.di hmo
    have e1:o'.id=b.id:=by rw[hm.2,kx.1]
    rw[e1,pW.2,hb] at wk
    have:=(Option.some.inj wk).symm
    subst this
    exact⟨by omega,by rw[kx.2];omega⟩) hN hM
   simp+decide only[st,xv]
   refine fA bn (iG.free KI.k.cO) ?_
   simp+decide only[st,xv,iZ,abB]
   rw[show V.1=0 by rw[hV]]
   refine⟨rfl,(hQ _).2 ?_⟩
   rw[hV]
   have lC:(H.clean 9).next=H.next+9:=rfl
   refine⟨fw,N+1,_,X1,(xf.trans (XF.old ((Old.refl H).clean)) (.inl rfl)).trans iG.xf (.inl rfl),?_,by omega,by split<;>omega⟩
   rcases ee with h|h
   ·exact .inl h
   ·exact .inr (by omega)
end
section
open Go
variable {P:Program} {h:aa} {a:KA} {lb N M:Nat} {ai:List Th} {ah:List Ob} {g:Nat->Option (List UInt8)} {xb t:Nat} {rp:Rp}
def jL (c:Cl) (id:Nat):Ob:={bc with id:=id,kind:=c.kind,ak:=c.ak,bf:=if c.kind=1 then c.n else 0,next:=if c.kind=1 then 1 else 0,data:=if c.kind=2 then c.data else [],bu:=if c.kind=3 then c.bu else []}
theorem ale (ok:ax P tb) {c:Cl} {id:Nat} {tl:Nat->aH} (k:iD c):an P 101 [.agg (c.c tl), .int .u64 id] h (.agg ((jL c id).c aK)) h:=by
 suffices hu:an P 101 [.agg (c.c aK), .int .u64 id] h (.agg ((jL c id).c aK)) h from an.ao (by simp only[AV.bA,AV.strip,Cz];exact hu)
 refine ok.eM (rf:=mV) rfl (Nat.le_of_ble_eq_true rfl) (by simp only[AV.bB,u9]) ?_
 have hl:=k.Jr
 have hd:=k.data
 have hc:=k.bu
 simp+decide only[st,xv,mV,adS,fi]
 generalize hX:aa.at _ _ _=X
 have xo:Old h X:=by rw[<-hX];exact((Old.refl h).at (Nat.le_refl _)).at (by omega)
 have x0:cellsOf X h.next=some (c.c aK):=by rw[<-hX];exact av (by simp[aa.at];rfl)
 have x1:cellsOf X (h.next+1)=some (bc.c qM):=by rw[<-hX];exact av (by simp[aa.at];rfl)
 have xn:X.next=h.next+2:=by rw[<-hX];simp[aa.at]
 simp only[fi] at x0
 simp only[yE] at x1
 have n0:h.next<X.next:=by omega
 have n1:h.next+1<X.next:=by omega
 refine qg 6 9 rfl (by omega) rfl ?_
 simp+decide only[st,xv,mV,adR,x0,x1,n0,n1]
 refine i6 (G5 ok (l:=c.ak) (t:= .ao) (by omega)) (dp (Nat.le_refl _)) ?_
 simp+decide only[st,xv,x0,x1,n0,n1,Lb.c]
 refine⟨fun j hj hn=>?_,?_⟩
 ·simp only[aa.set,aa.at,aa.clean]
  rw[if_neg (by omega),if_neg (by omega)]
  exact if_neg (by omega)
 generalize hW:aa.set _ _ _=W
 have oW:Old X W:=by rw[<-hW];exact((Old.refl X).clean.at (by omega)).set (by omega)
 have cW:cellsOf W (X.next+7)=some (Ob.c {bc with id:=id,kind:=c.kind,ak:=c.ak} (fT .ao .full .full .full)):=by rw[<-hW];exact av (by simp[aa.set];rfl)
 have nW:W.next=X.next+9:=by rw[<-hW];simp[aa.set,aa.at,aa.clean]
 have c0:cellsOf W h.next=_:=(show cellsOf W h.next=cellsOf X h.next by unfold cellsOf;rw[oW.get _ (by omega)]).trans x0
 have c1:cellsOf W (h.next+1)=_:=(show cellsOf W (h.next+1)=cellsOf X (h.next+1) by unfold cellsOf;rw[oW.get _ (by omega)]).trans x1
 have hold:=xo.trans oW
 rw[xn] at cW nW
 generalize hρ:put _ _ _=ρ1
 have r1:ρ1 1= .int .u64 id:=by rw[<-hρ];rfl
 have r2:ρ1 2= .ptr h.next 0:=by rw[<-hρ];rfl
 have r4:ρ1 4= .ptr (h.next+1) 0:=by rw[<-hρ];rfl
 have r5:ρ1 5= .ptr (h.next+9) 0:=by rw[<-hρ];simp[put,xn];try rfl
 have q0:h.next<W.next:=by omega
 obtain⟨V,hV⟩: ∃V,V=jL c id:=⟨_,rfl⟩
 rw[<-hV]
 unfold jL at hV
 have GK:cellsOf W (h.next+1)=some (bc.c qM):=c1
 clear c1
 have fin: ∀(ρ':Env) (H:aa) (t':Nat->aH),ρ' 4= .ptr (h.next+1) 0->ρ' 5= .ptr (h.next+9) 0->cellsOf H (h.next+9)=some (V.c t')->cellsOf H (h.next+1)=some (bc.c qM)->Old h H->exec P QU ρ' H (i9 (WP P aZ.ret (vk [fv.cell 4 true 13] (AV.agg (V.c aK)) h)) (vk [fv.cell 4 true 13] (AV.agg (V.c aK)) h) aQ.normal):=by
  intro ρ' H t' r4 r5 cc cd o
  simp only[Ob.c] at cc cd
  simp+decide only[st,xv,mV,QU,r4,r5,cc,cd,bE]
  refine⟨?_,(o.set (by omega)).get⟩
  exact NZ (o:=V) (t:=t')
 simp only[Ob.c] at cW
 have hs: ∀(b:Option cI),cellsOf (W.set (h.next+9) b) (h.next+1)=some (bc.c qM):=fun b=>by unfold cellsOf;simp only[aa.set];rw[if_neg (by omega)];exact GK
 simp+decide only[st,xv,mV,adQ,c0,r1,r2]
 by_cases h1:c.kind=1
 ·have e1:(c.kind=1)=True:=eq_true h1
  simp+decide only[st,xv,mV,DC,adP,c0,r1,r2,r4,r5,cW,e1]
  refine fin _ _ (fT .ao .full .full .full) r4 r5 (av ?_) ?_ ((hold.set (by omega)).set (by omega))
  ·simp only[aa.set]
   rw[if_pos trivial,hV]
   simp only[Ob.c,h1,if_true]
   rfl
  ·unfold cellsOf;simp only[aa.set];rw[if_neg (by omega),if_neg (by omega)];exact GK
 have e1:(c.kind=1)=False:=eq_false h1
 by_cases h2:c.kind=2
 ·have e2:(c.kind=2)=True:=eq_true h2
  simp+decide only[st,xv,mV,DC,I6,QX,c0,r1,r2,r4,r5,cW,e1,e2]
  refine aq (Of jM ok rfl (l:=c.data) (by omega) (by omega)) ?_
  simp+decide only[st,xv,mV,QX,c0,r1,r2,r4,r5,cW]
  refine fin _ _ (fT .ao .ao .full .full) r4 r5 (av ?_) (hs _) (hold.set (by omega))
  simp only[aa.set]
  rw[if_pos trivial,hV]
  simp only[Ob.c,h2,if_true]
  rfl
 have e2:(c.kind=2)=False:=eq_false h2
 by_cases h3:c.kind=3
 ·have e3:(c.kind=3)=True:=eq_true h3
  simp+decide only[st,xv,mV,DC,I6,QW,QV,c0,r1,r2,r4,r5,cW,e1,e2,e3]
  refine aq (Of (ay .u16) ok rfl (l:=c.bu) (by omega) (by omega)) ?_
  simp+decide only[st,xv,mV,QV,c0,r1,r2,r4,r5,cW]
  refine fin _ _ (fT .ao .full .ao .full) r4 r5 (av ?_) (hs _) (hold.set (by omega))
  simp only[aa.set]
  rw[if_pos trivial,hV]
  simp only[Ob.c,h3,if_true]
  rfl
 have e3:(c.kind=3)=False:=eq_false h3
 simp+decide only[st,xv,mV,DC,I6,QW,c0,r1,r2,r4,r5,cW,e1,e2,e3]
 refine fin _ _ (fT .ao .full .full .full) r4 r5 ?_ GK hold
 rw[cW,hV]
 simp only[Ob.c,h1,h2,h3,if_false]
 rfl
end
section
open Go
variable {P:Program} {h:aa} {a:KA} {lb N M:Nat} {ai:List Th} {ah:List Ob} {g:Nat->Option (List UInt8)} {xb t:Nat} {rp:Rp}
theorem Hk: ∀{k id j:Nat} {l:List Nat},fR k id=some l->l.length<=j->fR j id=some l
 |0,id,j,l,h,hj=>by
  simp only[fR] at h
  split at h
  ·rename_i e;subst e;cases h;exact Nn
  ·cases h
 |k+1,id,j,l,h,hj=>by
  simp only[fR] at h
  split at h
  ·rename_i e;subst e;cases h;exact Nn
  ·split at h
   ·rename_i h1 h2
    obtain⟨m,hm,rfl⟩:=Option.map_eq_some_iff.1 h
    obtain⟨j',rfl⟩: ∃j',j=j'+1:=⟨j-1,by simp at hj;omega⟩
    simp only[List.length_cons] at hj
    simp only[fR]
    rw[if_neg h1,if_pos h2,Hk hm (by omega)]
    rfl
   ·cases h
theorem N3 {b:Nat} {n:Int} (h0:(iu b n).2=0): ∃k:Nat,n=k/\1<=k/\k<=63/\dM b=true/\(iu b n).1=b*64+k/\dM (b*64+k)=true/\fu (b*64+k)=b/\(b*64+k)<2^40/\1<=b:=by
 unfold iu at h0 ⊢
 split at h0
 ·cases h0
 rename_i h1
 split at h0
 ·cases h0
 rename_i h2
 rw[if_neg h1,if_neg h2]
 have hm:dM b=true:=by
  cases h:dM b with
  |true=>rfl
  |false=>exact absurd (.inl h) h1
 obtain⟨k,hk⟩:=Int.eq_ofNat_of_zero_le (show 0<=n by omega)
 subst hk
 unfold dM at hm
 cases hn:gx b with
 |none=>rw[hn] at hm;cases hm
 |some l=>
  unfold mf at h2
  rw[hn] at h2
  simp only[Option.getD_some] at h2
  have hl:=wQ hn
  have hl5:l.length<=5:=by omega
  have h5:=Hk hn hl5
  have aC:=NC hn
  have hp:2^(1+6*l.length)<=2^31:=Nat.pow_le_pow_right (by decide) (by omega)
  have ef:1<=b:=by
   rcases Nat.eq_zero_or_pos b with e|e
   ·subst e
    unfold gx at hn
    simp[fR] at hn
   ·exact e
  have hn6:gx (b*64+k)=some (k::l):=by
   unfold gx
   show fR (5+1) _=_
   rw[fR]
   rw[if_neg (by omega),if_pos (by omega),show(b*64+k)/64=b by omega,show(b*64+k)%64=k by omega,h5]
   rfl
  refine⟨k,rfl,by omega,by omega,by unfold dM;rw[hn];rfl,by simp,by unfold dM;rw[hn6];rfl,?_,by omega,ef⟩
  unfold fu mf
  rw[hn6,if_neg (by simp)]
  omega
theorem ao7 {o:Ob} (v:jB o) (h1:o.kind=1) {c:Int} (hc:0<=c) (hq:c<=o.bf-o.used) (hn:o.next<=63):jB {o with used:=o.used+c,next:=o.next+1}:=by
 obtain⟨b1,b2,b3,b4,b5⟩:=uX v.may h1
 refine⟨⟨v.ok.ak,v.ok.id,v.ok.bu,v.ok.ring,v.ok.cat⟩,?_,?_⟩
 ·have hm:=v.may
  unfold eY nF at hm ⊢
  rw[if_pos h1] at hm
  rw[if_pos (show({o with used:=o.used+c,next:=o.next+1}:Ob).kind=1 from h1)]
  unfold qB at hm ⊢
  simp only[Bool.and_eq_true,decide_eq_true_eq] at hm ⊢
  refine⟨hm.1,⟨⟨⟨by omega,by omega⟩,by omega⟩,by omega⟩,by omega⟩
 ·have hn:=v.norm
  cases o with
  |mk Lx kind ak bf used next data bu ring st=>
   simp only at h1
   subst h1
   unfold jr at hn ⊢
   simp only[if_true,Ob.mk.injEq] at hn ⊢
   exact⟨trivial,trivial,trivial,trivial,trivial,trivial,hn.2.2.2.2.2.2.1,hn.2.2.2.2.2.2.2.1,hn.2.2.2.2.2.2.2.2.1,hn.2.2.2.2.2.2.2.2.2⟩
theorem apA {c:Cl} (k:iD c) {id:Nat} {l:Lb} (aL:id<2^64) (hn:dM id=true) (hl:dB c.ak=true) (hm:va l c.ak=0) (hf:tP l c=0) (hc:jY c.bu=true) (hk:1<=c.kind/\c.kind<=4):jB (jL c id):=by
 have hs:(dR c.ak.ps).length=0:=by
  unfold va at hm
  split at hm
  ·cases hm
  split at hm
  ·cases hm
  omega
 have sV:=k.bu
 have eF:((if c.kind=3 then c.bu else []):List Nat).length<=c.bu.length:=by split<;>simp
 refine⟨⟨k.ak,aL,by simp only[jL];omega,by simp[jL,bc],?_⟩,?_,?_⟩
 ·simp only[jL]
  intro x hx
  split at hx
  ·exact k.cat x hx
  ·cases hx
 ·unfold eY nF qB jL
  simp only[hn,hl,hs,Bool.true_and,beq_self_eq_true,Bool.and_true]
  unfold tP at hf
  by_cases h1:c.kind=1
  ·rw[if_pos h1]
   have:0<=c.n/\c.n<=400:=by
    by_cases hh:0<=c.n/\c.n<=400
    ·exact hh
    ·rw[if_pos ⟨h1,hh⟩] at hf;cases hf
   simp only[h1,if_true,bc]
   simp[this.1,this.2]
  rw[if_neg h1]
  rw[if_neg (fun hh=>h1 hh.1)] at hf
  by_cases h2:c.kind=2
  ·rw[if_pos h2]
   simp only[h2,if_true,decide_eq_true_eq]
   split at hf
   ·cases hf
   ·rename_i hh
    have: ¬64<c.data.length:=fun e=>hh ⟨h2,e⟩
    omega
  rw[if_neg h2]
  by_cases h3:c.kind=3
  ·rw[if_pos h3];simp only[h3,if_true];exact hc
  rw[if_neg h3,if_pos (by omega)]
  rfl
 ·unfold jr jL
  by_cases h1:c.kind=1
  ·simp only[h1,if_true]
   simp[bc]
  by_cases h2:c.kind=2
  ·simp[h2,bc]
  by_cases h3:c.kind=3
  ·simp[h3,bc]
  ·simp[h1,h2,h3,bc]
def Tree (ah:List Ob):Prop:= ∀o∈ah,o.id≠1-> ∃b∈ah,b.id=fu o.id/\b.kind=1/\((o.id%64:Nat):Int)<b.next
theorem Zy {b:Ob} (k:KS ah) (T:Tree ah) (hb:b∈ah) (h0:(iu b.id b.next).2=0):bK ah (iu b.id b.next).1=none:=by
 obtain⟨n,e1,e2,e3,e4,e5,e6,e7,e8,e9⟩:=N3 h0
 rw[e5]
 cases ho:bK ah (b.id*64+n) with
 |none=>rfl
 |some o=>
  obtain⟨hm,hi⟩:=lO ho
  obtain⟨b',bC,h1,h2,h3⟩:=T o hm (by omega)
  rw[hi,e7] at h1
  rw[hi] at h3
  have:=mH k.di hb
  have h4:=mH k.di bC
  rw[h1,this] at h4
  cases h4
  omega
end
section
open Go
variable {P:Program} {h:aa} {a:KA} {lb N M:Nat} {ai:List Th} {ah:List Ob} {g:Nat->Option (List UInt8)} {xb t:Nat} {rp:Rp}
def HI (l:Lb) (ah:List Ob) (c:Cl) (box:Ob):Nat×Nat×List Ob:=
 if va l c.ak≠0 then(va l c.ak,0,ah) else if tP l c≠0 then(tP l c,0,ah) else if 63<box.next then(9,0,ah) else if(iu box.id box.next).2≠0 then((iu box.id box.next).2,0,ah) else if(mR box (cost (jL c (iu box.id box.next).1))).2≠0 then((mR box (cost (jL c (iu box.id box.next).1))).2,0,ah) else(0,(iu box.id box.next).1,ec (ec ah {(mR box (cost (jL c (iu box.id box.next).1))).1 with next:=box.next+1}) (jL c (iu box.id box.next).1))
def nJ (l:Lb) (ah:List Ob) (c:Cl):Nat×Nat×List Ob:=
 if c.kind<1\/4<c.kind then(8,0,ah) else if(bS ah l c.id 1 (ey l)).2≠0 then((bS ah l c.id 1 (ey l)).2,0,ah) else HI l ah c (bS ah l c.id 1 (ey l)).1
theorem ajN (ok:ax P tb) (X:KX h xb a lb N M t ai ah rp) {c:Cl} {tl:Nat->aH} (k:iD c) (T:Tree ah) (hl:dB c.ak=true) (Gn:jY c.bu=true) (hN:N+1<2^19) (hM:M<128):
 ∃h' bT,an P 66 [.ptr xb 0, .agg (c.c tl)] h (.int .i64 (nJ (ai[t]'X.ht).ak ah c).1) h'/\fc h xb a lb N M t ai (nJ (ai[t]'X.ht).ak ah c).2.2 bT h'/\((nJ (ai[t]'X.ht).ak ah c).1=0->bT={rp with ret:=(nJ (ai[t]'X.ht).ak ah c).2.1}):=by
 obtain⟨V,hV⟩: ∃V,V=nJ (ai[t]'X.ht).ak ah c:=⟨_,rfl⟩
 rw[<-hV]
 obtain⟨Q,hQ⟩: ∃Q:aa->Prop,∀h',Q h'↔ ∃bT,fc h xb a lb N M t ai V.2.2 bT h'/\(V.1=0->bT={rp with ret:=V.2.1}):=⟨_,fun _=>Iff.rfl⟩
 suffices hu: ∃h',an P 66 [.ptr xb 0, .agg (c.c aK)] h (.int .i64 V.1) h'/\Q h' by
  obtain⟨h',c1,hq⟩:=hu
  obtain⟨bT,hq⟩:=(hQ h').1 hq
  exact⟨h',bT,rM c1,hq⟩
 unfold nJ at hV
 refine ok.dz (rf:=fj) rfl (Nat.le_of_ble_eq_true rfl) ?_
 have lN: ∀{e:Nat} {H:aa},e≠0->Old h H->V=(e,0,ah)->Q H:=by
  intro e H he o hv
  refine(hQ _).2 ⟨rp,?_⟩
  rw[hv]
  exact⟨X.fin o,fun h=>absurd h he⟩
 simp+decide only[st,xv,fj,afU,fi]
 generalize hY:aa.at _ _ _=Y
 have oY:Old h Y:=by rw[<-hY];exact(Old.refl h).at (Nat.le_refl _)
 have cY:cellsOf Y h.next=some (c.c aK):=by rw[<-hY];exact av (by simp[aa.at];try rfl)
 have nY:Y.next=h.next+1:=by rw[<-hY];simp[aa.at]
 simp only[fi] at cY
 refine MZ (Jc ?_)
 generalize hK:qU _ _=K1
 have kr: ∀(ρ:Env) (H:aa),ρ 4= .int .i64 V.1->Q H->K1 .ret ρ H:=by
  intro ρ H r4 hq
  rw[<-hK]
  exact⟨by show Option.map eQ (dL ρ H [fv.tmp 4])=_;simp[dL,zJ,eQ,r4],hq⟩
 have kg: ∀(ρ:Env) (H:aa),ρ 4= .int .i64 V.1->Q H->K1 (.goto 0) ρ H:=by
  intro ρ H r4 hq
  rw[<-hK]
  refine anG rfl ?_
  refine Jc ?_
  simp+decide only[st,xv,fj,Ov,r4,xr,xi]
  exact⟨rfl,hq⟩
 clear hK
 simp+decide only[st,xv,fj,afT,afS]
 generalize hZ:aa.at _ _ _=Z
 have oZ:Old Y Z:=by rw[<-hZ];exact((Old.refl Y).at (Nat.le_refl _)).at (by omega)
 have nZ:Z.next=h.next+3:=by rw[<-hZ];simp[aa.at,nY]
 have z1:cellsOf Z Y.next=some (bc.c qM):=by rw[<-hZ];exact av (by simp[aa.at,nY];rfl)
 have z2:cellsOf Z (Y.next+1)=some (bc.c qM):=by rw[<-hZ];exact av (by simp[aa.at,nY];rfl)
 have z0:cellsOf Z h.next=_:=(show cellsOf Z h.next=cellsOf Y h.next by unfold cellsOf;rw[oZ.get _ (by omega)]).trans cY
 have hold:=oY.trans oZ
 have XZ:=X.old hold
 simp only[yE] at z1 z2
 have s1:c.kind<1\/1<=c.kind:=by omega
 by_cases k1:c.kind<1
 ·have e1:(c.kind<1)=True:=eq_true k1
  rw[if_pos (.inl k1)] at hV
  simp+decide only[st,xv,fj,JW,SO,z0,e1,xr,xi]
  exact kr _ _ (by rw[hV];rfl) (lN (by decide) hold hV)
 have e1:(c.kind<1)=False:=eq_false k1
 by_cases k4:4<c.kind
 ·have e4:(4<c.kind)=True:=eq_true k4
  rw[if_pos (.inr k4)] at hV
  simp+decide only[st,xv,fj,JW,SO,z0,e1,e4,xr,xi]
  exact kr _ _ (by rw[hV];rfl) (lN (by decide) hold hV)
 have e4:(4<c.kind)=False:=eq_false k4
 rw[if_neg (by omega)] at hV
 simp+decide only[st,xv,fj,JW,SN,z0,e1,e4,xr,xi]
 refine aq (uS ok XZ k.id (ok.bZ _ rfl) (q:=ey (ai[t]'X.ht).ak) (fun o h' hl o'=>Jt ok (XZ.old o') (tl:=aK) hl)) ?_
 have dI:=mI (l:=(ai[t]'X.ht).ak) (id:=c.id) (kind:=1) (q:=ey (ai[t]'X.ht).ak) X.root
 generalize bS ah (ai[t]'X.ht).ak c.id 1 (ey (ai[t]'X.ht).ak)=R at*
 obtain⟨o,e⟩:=R
 simp only at hV dI
 simp+decide only[st,xv,fj,SN,dv,xr,z1]
 obtain⟨W,hW⟩: ∃W,W=Z.set Y.next (some (.cells (o.c aK))):=⟨_,rfl⟩
 have lF:=hW
 simp only[dv] at lF
 rw[<-lF]
 have oW:Old h W:=by rw[hW];exact hold.set (by omega)
 have w1:cellsOf W Y.next=some (o.c aK):=by rw[hW];exact av (by simp[aa.set])
 have w0:cellsOf W h.next=_:=(show cellsOf W h.next=cellsOf Z h.next by rw[hW];unfold cellsOf;simp only[aa.set];rw[if_neg (by omega)]).trans z0
 have w2:cellsOf W (Y.next+1)=_:=(show cellsOf W (Y.next+1)=cellsOf Z (Y.next+1) by rw[hW];unfold cellsOf;simp only[aa.set];rw[if_neg (by omega)]).trans z2
 have nW:W.next=h.next+3:=by rw[hW,<-nZ];rfl
 have XW:=X.old oW
 simp only[dv] at w1
 generalize hρ:put _ _ _=ρ1
 have r0:ρ1 0= .ptr xb 0:=by rw[<-hρ];rfl
 have r3:ρ1 3= .ptr h.next 0:=by rw[<-hρ];rfl
 have r4:ρ1 4= .int .i64 e:=by rw[<-hρ];rfl
 have r5:ρ1 5= .ptr Y.next 0:=by rw[<-hρ];rfl
 have r6:ρ1 6= .ptr (Y.next+1) 0:=by rw[<-hρ];rfl
 have r7:ρ1 7= .int .u64 0:=by rw[<-hρ];rfl
 clear hρ
 by_cases he:e=0
 case neg=>
  rw[if_pos he] at hV
  have dJ:((e:Int)=0)=False:=eq_false (by omega)
  simp+decide only[st,xv,fj,SM,r4,dJ,xr,xi]
  exact kg _ _ (by rw[hV];exact r4) (lN he oW hV)
 subst he
 rw[if_neg (fun h=>h rfl)] at hV
 obtain⟨db,aY,_⟩:=dI rfl
 have v:=XW.k.ks.val o db
 simp+decide only[st,xv,fj,SM,r4,xr,xi]
 have xx:=XW.x
 obtain⟨rt,hx⟩:=xx
 have cx:=av hx
 obtain⟨ct,hle,ff⟩:=XW.th
 have lx:=XW.lx
 have l2:=XW.k.l2
 have jt:t*12+2<=(aS aW ai).flatten.length:=by omega
 have q0:h.next<W.next:=by omega
 have q1:Y.next<W.next:=by omega
 have q2:Y.next+1<W.next:=by omega
 refine bJ 11 rfl rfl ?_
 simp+decide only[st,xv,fj,SL,r0,r3,r5,r6,cx,ct,w0,lx,l2,q0,jt,ff]
 refine fA (akL (a:=(ai[t]'X.ht).ak) (b:=c.ak) (ta:= .ao) (eI:= .ao) ok X.ak k.ak) (dp (Nat.le_refl _)) ?_
 unfold HI at hV
 obtain⟨B,hB⟩: ∃B,B=W.clean 11:=⟨_,rfl⟩
 have oB:Old W B:=by rw[hB];exact(Old.refl W).clean
 have nB:B.next=h.next+14:=by rw[hB];show W.next+11=_;omega
 rw[<-hB]
 clear hB
 have b1:cellsOf B Y.next=_:=(show cellsOf B Y.next=cellsOf W Y.next by unfold cellsOf;rw[oB.get _ (by omega)]).trans w1
 have b0:cellsOf B h.next=_:=(show cellsOf B h.next=cellsOf W h.next by unfold cellsOf;rw[oB.get _ (by omega)]).trans w0
 have b2:cellsOf B (Y.next+1)=_:=(show cellsOf B (Y.next+1)=cellsOf W (Y.next+1) by unfold cellsOf;rw[oB.get _ (by omega)]).trans w2
 have Bm:=oW.trans oB
 have XB:=X.old Bm
 simp+decide only[st,xv,fj,SL,r0]
 by_cases hm:va (ai[t]'X.ht).ak c.ak=0
 case neg=>
  rw[if_pos hm] at hV
  have oK:((va (ai[t]'X.ht).ak c.ak:Int)=0)=False:=eq_false (by omega)
  simp+decide only[st,xv,fj,SK,r0,oK]
  exact kg _ _ (by rw[hV];rfl) (lN hm Bm hV)
 rw[if_neg (fun h=>h hm)] at hV
 rw[hm]
 simp+decide only[st,xv,fj,SK,Ec,r0,r3,b0]
 refine aq (akn ok XB (tl:=aK) k) ?_
 by_cases hf:tP (ai[t]'X.ht).ak c=0
 case neg=>
  rw[if_pos hf] at hV
  have yS:((tP (ai[t]'X.ht).ak c:Int)=0)=False:=eq_false (by omega)
  simp+decide only[st,xv,fj,Ec,H8,r0,yS]
  exact kg _ _ (by rw[hV];rfl) (lN hf Bm hV)
 rw[if_neg (fun h=>h hf)] at hV
 rw[hf]
 obtain⟨bx1,bx2,bx3,bx4,bx5⟩:=uX v.may aY
 by_cases Mf:63<o.next
 ·rw[if_pos Mf] at hV
  have Vk:(63<o.next)=True:=eq_true Mf
  simp+decide only[st,xv,fj,Ec,H8,OA,abI,r0,r5,b1,Vk]
  exact kr _ _ (by rw[hV];rfl) (lN (by decide) Bm hV)
 rw[if_neg Mf] at hV
 have Vk:(63<o.next)=False:=eq_false Mf
 simp+decide only[st,xv,fj,Ec,H8,OA,H7,r0,r5,b1,Vk]
 refine aq (amd ok (box:=o.id) (n:=o.next) v.ok.id) ?_
 have dH:=N3 (b:=o.id) (n:=o.next)
 have gJ:=Zy XB.k.ks T db
 generalize iu o.id o.next=F at*
 obtain⟨id,fe⟩:=F
 simp only at hV dH gJ
 by_cases WH:fe=0
 case neg=>
  rw[if_pos WH] at hV
  have yS:((fe:Int)=0)=False:=eq_false (by omega)
  simp+decide only[st,xv,fj,H7,Oz,r0,yS,xr]
  exact kg _ _ (by rw[hV];rfl) (lN WH Bm hV)
 subst WH
 rw[if_neg (fun h=>h rfl)] at hV
 obtain⟨n,e1',e2',e3',e4',W4,e6',e7',e8',e9'⟩:=dH rfl
 have gJ:=gJ rfl
 simp+decide only[st,xv,fj,H7,Oz,Oy,r0,r3,b0,xr]
 have auB:id<2^64:=by omega
 refine aq (ale ok (id:=id) (tl:=aK) k) ?_
 have vo:=apA k auB (by rw[W4];exact e6') hl hm hf Gn (by omega)
 generalize Le:jL c id=p at*
 simp+decide only[st,xv,fj,Oy,r6,b2,dv]
 obtain⟨C,hC⟩: ∃C,C=B.set (Y.next+1) (some (.cells (p.c aK))):=⟨_,rfl⟩
 have WU:=hC
 simp only[dv] at WU
 rw[<-WU]
 have oC:Old h C:=by rw[hC];exact Bm.set (by omega)
 have d1:cellsOf C Y.next=_:=(show cellsOf C Y.next=cellsOf B Y.next by rw[hC];unfold cellsOf;simp only[aa.set];rw[if_neg (by omega)]).trans b1
 have d2:cellsOf C (Y.next+1)=some (p.c aK):=by rw[hC];exact av (by simp[aa.set])
 have nC:C.next=h.next+14:=by rw[hC];exact nB
 simp only[dv] at d2
 clear hC WU
 generalize hρ:put _ _ _=ρ2
 have s0:ρ2 0= .ptr xb 0:=by rw[<-hρ];exact r0
 have s5:ρ2 5= .ptr Y.next 0:=by rw[<-hρ];exact r5
 have s6:ρ2 6= .ptr (Y.next+1) 0:=by rw[<-hρ];exact r6
 have s7:ρ2 7= .int .u64 id:=by rw[<-hρ];rfl
 clear hρ
 have q1:Y.next<C.next:=by omega
 have q2:Y.next+1<C.next:=by omega
 have hv:=Zv vo.may vo.norm
 have hcp:0<=cost p/\cost p<2^60:=by
  unfold cost
  split
  ·omega
  split
  ·omega
  split
  ·omega
  split<;>omega
 refine qg 4 9 rfl (by omega) rfl ?_
 simp+decide only[st,xv,fj,abH,s5,s6,d1,d2,q1,q2]
 refine i6 (YR ok (o:=p) (t:=aK) ⟨by omega,by omega⟩ (by omega)) (dp (Nat.le_refl _)) ?_
 simp+decide only[st,xv]
 refine i6 (amP ok (o:=o) (t:=aK) (c:=cost p) ⟨by omega,by omega⟩ ⟨by omega,by omega⟩ hcp.2) (dp (Nat.le_refl _)) ?_
 have qZ:mR o (cost p)=(bc,10)\/mR o (cost p)=({o with used:=o.used+cost p},0)/\cost p<=o.bf-o.used:=by
  unfold mR
  rw[if_neg (by omega)]
  split
  ·exact .inl rfl
  ·exact .inr ⟨rfl,by omega⟩
 generalize mR o (cost p)=A at*
 obtain⟨oo,ae⟩:=A
 simp only at hV
 simp+decide only[st,xv,dv,s5,d1,q1,xr]
 refine⟨(jD q1).2 (dp (Nat.le_refl _)),?_⟩
 by_cases WN:ae=0
 case neg=>
  rw[if_pos WN] at hV
  have yS:((ae:Int)=0)=False:=eq_false (by omega)
  simp+decide only[st,xv,fj,Ox,s5,yS]
  exact kg _ _ (by rw[hV];rfl) (lN WN ((oC.trans (Old.refl C).clean).set (by omega)) hV)
 subst WN
 rw[if_neg (fun h=>h rfl)] at hV
 have qZ:=qZ.resolve_left (fun e=>by cases e)
 obtain⟨Wx,hle⟩:=qZ
 obtain⟨E,hE⟩: ∃E,E=(C.clean 9).set Y.next (some (.cells (oo.c aK))):=⟨_,rfl⟩
 have WT:=hE
 simp only[dv] at WT
 rw[<-WT]
 have oE:Old h E:=by rw[hE];exact(oC.trans (Old.refl C).clean).set (by omega)
 have g1:cellsOf E Y.next=some (oo.c aK):=by rw[hE];exact av (by simp[aa.set])
 have g2:cellsOf E (Y.next+1)=_:=(show cellsOf E (Y.next+1)=cellsOf C (Y.next+1) by rw[hE];unfold cellsOf;simp only[aa.set,aa.clean];rw[if_neg (by omega),if_pos (by omega)]).trans d2
 have nE:E.next=h.next+23:=by rw[hE];show C.next+9=_;omega
 clear hE WT
 have LL:oo={o with used:=o.used+cost p}:=(Prod.mk.inj Wx).1
 have VW:IntKind.wrap .i64 (oo.next+1)=oo.next+1:=bw (by rw[LL];show _<=o.next+1;omega) (by rw[LL];show o.next+1<_;omega)
 simp only[dv] at g1
 simp+decide only[st,xv,fj,Ox,abG,s5,g1,VW]
 generalize hρ:put _ _ _=ρ3
 have u0:ρ3 0= .ptr xb 0:=by rw[<-hρ];exact s0
 have u4:ρ3 4= .int .i64 0:=by rw[<-hρ];rfl
 have u5:ρ3 5= .ptr Y.next 0:=by rw[<-hρ];exact s5
 have u6:ρ3 6= .ptr (Y.next+1) 0:=by rw[<-hρ];exact s6
 have u7:ρ3 7= .int .u64 id:=by rw[<-hρ];exact s7
 clear hρ
 obtain⟨B2,Me⟩: ∃B2,B2={o with used:=o.used+cost p,next:=o.next+1}:=⟨_,rfl⟩
 have eB2:B2={oo with next:=o.next+1}:=by rw[Me,LL]
 obtain⟨G,hG⟩: ∃G,G=E.set Y.next (some (.cells (B2.c aK))):=⟨_,rfl⟩
 have Md:=hG
 rw[eB2] at Md
 simp only[dv] at Md
 rw[show oo.next=o.next by rw[LL],<-Md]
 have oG:Old h G:=by rw[hG];exact oE.set (by omega)
 have i1:cellsOf G Y.next=some (B2.c aK):=by rw[hG];exact av (by simp[aa.set])
 have i2:cellsOf G (Y.next+1)=_:=(show cellsOf G (Y.next+1)=cellsOf E (Y.next+1) by rw[hG];unfold cellsOf;simp only[aa.set];rw[if_neg (by omega)]).trans g2
 have nG:G.next=h.next+23:=by rw[hG];exact nE
 clear hG Md
 simp only[dv] at i1
 rw[<-eB2] at hV
 have XG:=X.old oG
 obtain⟨Lp,oF⟩:=XG.x
 have oT:=av oF
 have Wd:=XG.lx
 have q3:Y.next<G.next:=by omega
 have ck2:=av XG.k.top
 have lk2:=XG.k.l1
 refine bJ 6 rfl rfl ?_
 simp+decide only[st,xv,fj,abF,u0,u5,oT,i1,Wd,q3]
 have vb:jB B2:=by rw[Me];exact ao7 v aY hcp.1 hle (by omega)
 have XC:=XG.old ((Old.refl G).clean (n:=6))
 obtain⟨H1,bn,fw,X1,ee,iG⟩:=DI ok XC (o:=B2) (tl:=aK) vb (fun o' ed=>by
  have bY:B2.id=o.id/\B2.kind=1:=by rw[Me];exact⟨rfl,aY⟩
  have hmo:=lO ed
  have wk:=mH XW.k.ks.di db
  rw[bY.1,wk] at ed
  have:=Option.some.inj ed
  subst this
  exact⟨by omega,by omega⟩) (by omega) hM
 refine fA bn (iG.free XG.k.cO) ?_
 simp+decide only[st,xv,fj,Ow]
 have cO:=X.k.cO
 have lC:(G.clean 6).next=G.next+6:=rfl
 have bY:B2.id=o.id/\B2.kind=1:=by rw[Me];exact⟨rfl,aY⟩
 have j2:cellsOf H1 (Y.next+1)=_:=(show cellsOf H1 (Y.next+1)=cellsOf G (Y.next+1) by
  unfold cellsOf
  rw[iG.2 _ (by omega) (fun e=>by have:=cO _ (.inl e);omega) (fun e=>by have:=cO _ (.inr (.inl e));omega) (fun e=>by have:=cO _ (.inr (.inr e));omega)]
  simp only[aa.clean]
  rw[if_pos (by omega)]).trans i2
 have nH1:=iG.1
 obtain⟨rt3,F3⟩:=X1.x
 have BP:=av F3
 have Ly:=X1.lx
 have q4:Y.next+1<H1.next:=by omega
 refine bJ 6 rfl rfl ?_
 simp+decide only[st,xv,fj,Ow,u0,u6,BP,j2,Ly,q4]
 rw[if_neg (by rw[bY.2];decide)] at X1
 have X2:=X1.old ((Old.refl H1).clean (n:=6))
 have awo:p.id=id:=by rw[<-Le];rfl
 obtain⟨H2,bk,Wi,X3,fY,qT⟩:=DI ok X2 (o:=p) (tl:=aK) vo (fun o' ed=>by
  rw[tB XG.k.ks.di,awo,if_neg (by omega),gJ] at ed
  cases ed) (by omega) hM
 refine fA bk (qT.free X1.k.cO) ?_
 obtain⟨rt4,hx4⟩:=X3.x
 have cx4:=av hx4
 simp+decide only[st,xv,fj,abE,Ov,u0,u4,u7,cx4,xr]
 refine kr _ _ (by rw[hV];rfl) ((hQ _).2 ?_)
 rw[hV]
 have lC2:(H1.clean 6).next=H1.next+6:=rfl
 have v8:XF h H1 a lb xb:=(XF.old (oG.trans (Old.refl G).clean)).trans iG.xf (.inl rfl)
 have Ld:fw=lb\/h.next<=fw:=by
  rcases ee with e|e
  ·exact .inl e
  ·exact .inr (by omega)
 have xf2:XF h H2 a lb xb:=(v8.trans (XF.old (lb:=lb) (Old.refl H1).clean) (.inl rfl)).trans qT.xf Ld
 refine⟨{rp with ret:=id},⟨Wi,N+1+1,_,X3.su (bT:={rp with ret:=id}),xf2.sr,?_,by omega,by split<;>omega⟩,fun _=>rfl⟩
 rcases fY with e|e
 ·rw[e];exact Ld
 ·exact .inr (by omega)
end
section
open Go
variable {P:Program} {h:aa} {a:KA} {lb N M:Nat} {ai:List Th} {ah:List Ob} {g:Nat->Option (List UInt8)} {xb t:Nat} {rp:Rp}
structure Dr where
 is:Bool
 err:Nat
 th:Th
 ah:List Ob
 ret:Nat
 data:List UInt8
def xd (t:Nat) (x:Th) (ah:List Ob) (c:Cl) (done:Int):Dr:=
 if c.op=1 then⟨true,(mn t x).1,(mn t x).2.2,ah,(mn t x).2.1,[]⟩
 else if c.op=2 then⟨true,(nI x c.ak).1,(nI x c.ak).2,ah,0,[]⟩
 else if c.op=3 then⟨true,(nJ x.ak ah c).1,x,(nJ x.ak ah c).2.2,(nJ x.ak ah c).2.1,[]⟩
 else if c.op=4 then⟨true,(xJ x.ak ah c).1,x,ah,0,(xJ x.ak ah c).2⟩
 else if c.op=5 then⟨true,(rW x.ak ah c).1,x,(rW x.ak ah c).2,0,[]⟩
 else if c.op=6 then⟨true,(rY x.ak ah c).1,x,(rY x.ak ah c).2,0,[]⟩
 else if c.op=7 then⟨true,(pt x ah c).1,(pt x ah c).2,ah,0,[]⟩
 else if c.op=8 then⟨true,(sh x.ak ah c).1,x,(sh x.ak ah c).2,0,[]⟩
 else if c.op=9 then⟨(ik x ah c).1,(ik x ah c).2.1,(ik x ah c).2.2.1,(ik x ah c).2.2.2.1,0,(ik x ah c).2.2.2.2⟩
 else if c.op=10 then⟨(gw x ah c done).1,(gw x ah c done).2.1,(gw x ah c done).2.2.1,(gw x ah c done).2.2.2.1,(gw x ah c done).2.2.2.2,[]⟩
 else if c.op=11 then⟨true,(tO x.ak ah c).1,x,ah,(tO x.ak ah c).2.1,(tO x.ak ah c).2.2⟩
 else if c.op=12 then⟨true,0,x,ah,t,du x.ak⟩
 else if c.op=13 then⟨true,0,x,ah,0,[]⟩
 else⟨true,2,x,ah,0,[]⟩
def jI (t:Nat) (x:Th) (ah:List Ob) (c:Cl) (done:Int):Dr:=if(c.op=2\/c.op=3)/\names c.ak=false then⟨true,4,x,ah,0,[]⟩ else xd t x ah c done
theorem fc.from {Y h':aa} (o:Old h Y) (e:fc Y xb a lb N M t ai ah rp h'):fc h xb a lb N M t ai ah rp h':=by
 obtain⟨aT,N',M',X,xf,hl,hN,hM⟩:=e
 refine⟨aT,N',M',X,(XF.old (lb:=lb) o).trans xf (.inl rfl),?_,hN,hM⟩
 rcases hl with e|e
 ·exact .inl e
 ·exact .inr (Nat.le_trans o.next e)
def ajq (h:aa) (xb:Nat) (a:KA) (lb N M t:Nat) (ai:List Th) (rp:Rp) (D:Dr) (h':aa):Prop:= ∃bT,fc h xb a lb N M t (ai.set t D.th) D.ah bT h'/\(D.is=true->D.err=0->bT={rp with ret:=D.ret,data:=D.data})
theorem ako (ok:ax P tb) (X:KX h xb a lb N M t ai ah rp) {c:Cl} {tl:Nat->aH} {done:Int} (k:iD c) (gJ:c.op=3->Tree ah/\dB c.ak=true/\jY c.bu=true) (hN:N+1<2^19) (hM:M<128) (f0:c.op=6->ah.length<=12) (ho:0<=(ai[t]'X.ht).own) (hr:rp.ret=0) (hd:rp.data=[]):
 ∃h',an P 43 [.ptr xb 0, .agg (c.c tl), .int .i64 done] h (.az [.bool (jI t (ai[t]'X.ht) ah c done).is, .int .i64 (jI t (ai[t]'X.ht) ah c done).err]) h'/\ajq h xb a lb N M t ai rp (jI t (ai[t]'X.ht) ah c done) h':=by
 obtain⟨V,hV⟩: ∃V,V=jI t (ai[t]'X.ht) ah c done:=⟨_,rfl⟩
 rw[<-hV]
 obtain⟨Q,hQ⟩: ∃Q:aa->Prop,∀h',Q h'↔ajq h xb a lb N M t ai rp V h':=⟨_,fun _=>Iff.rfl⟩
 suffices hu: ∃h',an P 43 [.ptr xb 0, .agg (c.c aK), .int .i64 done] h (.az [.bool V.is, .int .i64 V.err]) h'/\Q h' by
  obtain⟨h',c1,hq⟩:=hu
  refine⟨h',an.ao ?_,(hQ h').1 hq⟩
  simp only[AV.bA,AV.strip,Cz]
  exact c1
 refine ok.dz (rf:=d8) rfl (Nat.le_of_ble_eq_true rfl) ?_
 have jy:ai.set t (ai[t]'X.ht)=ai:=tz X.ht
 have er: ∀n d,({rp with ret:=n,data:=d}:Rp)={rp with ret:=n,data:=d}:=fun _ _=>rfl
 have W2: ∀n,({rp with ret:=n}:Rp)={rp with ret:=n,data:=[]}:=fun n=>by rw[<-hd]
 have err: ∀d,({rp with data:=d}:Rp)={rp with ret:=0,data:=d}:=fun d=>by rw[<-hr]
 have A3:rp={rp with ret:=0,data:=[]}:=by rw[<-hr,<-hd]
 have axF:=k.Jr
 simp+decide only[st,xv,d8,agO,agN,fi]
 generalize hY:aa.at _ _ _=Y
 have oY:Old h Y:=by rw[<-hY];exact(Old.refl h).at (Nat.le_refl _)
 have cY:cellsOf Y h.next=some (c.c aK):=by rw[<-hY];exact av (by simp[aa.at];try rfl)
 have nY:Y.next=h.next+1:=by rw[<-hY];simp[aa.at]
 simp only[fi] at cY
 have XY:=X.old oY
 generalize ff:ai[t]'X.ht=x at*
 unfold jI at hV
 by_cases qF:(c.op=2\/c.op=3)/\names c.ak=false
 ·rw[if_pos qF] at hV
  have hq:Q Y:=(hQ _).2 ⟨rp,by rw[hV,jy];exact X.fin oY,fun _ e=>by rw[hV] at e;cases e⟩
  rcases qF.1 with e|e
  ·have e2:(c.op=2)=True:=eq_true e
   simp+decide only[st,xv,d8,ja,cY,e2]
   refine aq (zj ok (l:=c.ak) (t:= .ao) (by omega)) ?_
   rw[qF.2]
   simp+decide only[st,xv,d8,ja,TB]
   exact⟨by rw[hV];rfl,hq⟩
  ·have e2:(c.op=2)=False:=eq_false (by omega)
   have e3:(c.op=3)=True:=eq_true e
   simp+decide only[st,xv,d8,ja,cY,e2,e3]
   refine aq (zj ok (l:=c.ak) (t:= .ao) (by omega)) ?_
   rw[qF.2]
   simp+decide only[st,xv,d8,ja,TB]
   exact⟨by rw[hV];rfl,hq⟩
 rw[if_neg qF] at hV
 unfold xd at hV
 by_cases h1:c.op=1
 ·rw[if_pos h1] at hV
  have e1:(c.op=1)=True:=eq_true h1
  have z2:(c.op=2)=False:=eq_false (by omega)
  have z3:(c.op=3)=False:=eq_false (by omega)
  simp+decide only[st,xv,d8,ja,ma,l9,TA,cY,z2,z3,e1]
  obtain⟨h1,hc,he⟩:=alj ok XY (by rw[ff];exact ho)
  rw[ff] at hc he
  refine aq hc ?_
  simp+decide only[st,xv,d8,TA,l5]
  refine⟨by rw[hV];rfl,(hQ _).2 ⟨_,by rw[hV];exact he.from oY,fun _ e=>?_⟩⟩
  rw[hV] at e ⊢;simp only at e ⊢;rw[if_pos e];exact W2 _
 rw[if_neg h1] at hV
 have n1:(c.op=1)=False:=eq_false h1
 by_cases h2:c.op=2
 ·rw[if_pos h2] at hV
  have e2:(c.op=2)=True:=eq_true h2
  have z3:(c.op=3)=False:=eq_false (by omega)
  simp+decide only[st,xv,d8,ja,cY,e2,z3]
  refine aq (zj ok (l:=c.ak) (t:= .ao) (by omega)) ?_
  have m5:names c.ak=true:=by
   cases hh:names c.ak with
   |true=>rfl
   |false=>exact absurd ⟨by omega,hh⟩ qF
  rw[m5]
  simp+decide only[st,xv,d8,ja,ma,l9,mO,Tz,cY,e2,n1]
  obtain⟨h1,hc,he⟩:=ajM ok XY (tl:=aK) k
  rw[ff] at hc he
  refine aq hc ?_
  simp+decide only[st,xv,d8,Tz,l5]
  exact⟨by rw[hV];rfl,(hQ _).2 ⟨_,by rw[hV];exact he.from oY,fun _ e=>by rw[hV];exact A3⟩⟩
 rw[if_neg h2] at hV
 have n2:(c.op=2)=False:=eq_false h2
 by_cases h3:c.op=3
 ·rw[if_pos h3] at hV
  have e3:(c.op=3)=True:=eq_true h3
  simp+decide only[st,xv,d8,ja,cY,n2,e3]
  refine aq (zj ok (l:=c.ak) (t:= .ao) (by omega)) ?_
  have m5:names c.ak=true:=by
   cases hh:names c.ak with
   |true=>rfl
   |false=>exact absurd ⟨by omega,hh⟩ qF
  rw[m5]
  simp+decide only[st,xv,d8,ja,ma,l9,mO,nT,OK,cY,e3,n1,n2]
  obtain⟨T,hl,Gn⟩:=gJ h3
  obtain⟨h1,pK,hc,he,lz⟩:=ajN ok XY (tl:=aK) k T hl Gn hN hM
  rw[ff] at hc he lz
  refine aq hc ?_
  simp+decide only[st,xv,d8,OK,l5]
  refine⟨by rw[hV];rfl,(hQ _).2 ⟨pK,by rw[hV,jy];exact he.from oY,fun _ e=>?_⟩⟩
  rw[hV] at e ⊢;rw[lz e];exact W2 _
 rw[if_neg h3] at hV
 have n3:(c.op=3)=False:=eq_false h3
 by_cases h4:c.op=4
 ·rw[if_pos h4] at hV
  have e4:(c.op=4)=True:=eq_true h4
  simp+decide only[st,xv,d8,ja,ma,l9,mO,nT,pz,OJ,cY,n2,n3,e4,n1,n2,n3]
  obtain⟨h1,pK,hc,he,lz⟩:=akk ok XY (tl:=aK) k
  rw[ff] at hc lz
  refine aq hc ?_
  simp+decide only[st,xv,d8,OJ,l5]
  refine⟨by rw[hV];rfl,(hQ _).2 ⟨pK,by rw[hV,jy];exact he.from oY,fun _ e=>?_⟩⟩
  rw[hV] at e ⊢;rw[lz e];exact err _
 rw[if_neg h4] at hV
 have n4:(c.op=4)=False:=eq_false h4
 by_cases h5:c.op=5
 ·rw[if_pos h5] at hV
  have e5:(c.op=5)=True:=eq_true h5
  simp+decide only[st,xv,d8,ja,ma,l9,mO,nT,pz,qp,OI,cY,n2,n3,e5,n1,n2,n3,n4]
  obtain⟨h1,hc,he⟩:=ajL ok XY (tl:=aK) k
  rw[ff] at hc he
  refine aq hc ?_
  simp+decide only[st,xv,d8,OI,l5]
  exact⟨by rw[hV];rfl,(hQ _).2 ⟨_,by rw[hV,jy];exact he.from oY,fun _ e=>by rw[hV];exact A3⟩⟩
 rw[if_neg h5] at hV
 have n5:(c.op=5)=False:=eq_false h5
 by_cases h6:c.op=6
 ·rw[if_pos h6] at hV
  have e6:(c.op=6)=True:=eq_true h6
  simp+decide only[st,xv,d8,ja,ma,l9,mO,nT,pz,qp,rZ,OH,cY,n2,n3,e6,n1,n2,n3,n4,n5]
  obtain⟨h1,hc,he⟩:=ajP ok XY (tl:=aK) k (by omega) hM (f0 h6)
  rw[ff] at hc he
  refine aq hc ?_
  simp+decide only[st,xv,d8,OH,l5]
  exact⟨by rw[hV];rfl,(hQ _).2 ⟨_,by rw[hV,jy];exact he.from oY,fun _ e=>by rw[hV];exact A3⟩⟩
 rw[if_neg h6] at hV
 have n6:(c.op=6)=False:=eq_false h6
 by_cases h7:c.op=7
 ·rw[if_pos h7] at hV
  have e7:(c.op=7)=True:=eq_true h7
  simp+decide only[st,xv,d8,ja,ma,l9,mO,nT,pz,qp,rZ,tJ,OG,cY,n2,n3,e7,n1,n2,n3,n4,n5,n6]
  obtain⟨h1,hc,he⟩:=ajO ok XY (tl:=aK) k
  rw[ff] at hc he
  refine aq hc ?_
  simp+decide only[st,xv,d8,OG,l5]
  exact⟨by rw[hV];rfl,(hQ _).2 ⟨_,by rw[hV];exact he.from oY,fun _ e=>by rw[hV];exact A3⟩⟩
 rw[if_neg h7] at hV
 have n7:(c.op=7)=False:=eq_false h7
 by_cases h8:c.op=8
 ·rw[if_pos h8] at hV
  have e8:(c.op=8)=True:=eq_true h8
  simp+decide only[st,xv,d8,ja,ma,l9,mO,nT,pz,qp,rZ,tJ,vg,OF,cY,n2,n3,e8,n1,n2,n3,n4,n5,n6,n7]
  obtain⟨h1,hc,he⟩:=aki ok XY (tl:=aK) k (by omega) hM
  rw[ff] at hc he
  refine aq hc ?_
  simp+decide only[st,xv,d8,OF,l5]
  exact⟨by rw[hV];rfl,(hQ _).2 ⟨_,by rw[hV,jy];exact he.from oY,fun _ e=>by rw[hV];exact A3⟩⟩
 rw[if_neg h8] at hV
 have n8:(c.op=8)=False:=eq_false h8
 by_cases h9:c.op=9
 ·rw[if_pos h9] at hV
  have e9:(c.op=9)=True:=eq_true h9
  simp+decide only[st,xv,d8,ja,ma,l9,mO,nT,pz,qp,rZ,tJ,vg,xm,OE,cY,n2,n3,e9,n1,n2,n3,n4,n5,n6,n7,n8]
  obtain⟨h1,pK,hc,he,lz⟩:=akj ok XY (tl:=aK) k (by omega) hM
  rw[ff] at hc he lz
  refine aq hc ?_
  simp+decide only[st,xv,d8,OE,l5,xr]
  refine⟨by rw[hV];rfl,(hQ _).2 ⟨pK,by rw[hV];exact he.from oY,fun e0 e=>?_⟩⟩
  rw[hV] at e0 e ⊢;rw[lz e0 e];exact err _
 rw[if_neg h9] at hV
 have n9:(c.op=9)=False:=eq_false h9
 by_cases oQ:c.op=10
 ·rw[if_pos oQ] at hV
  have Gx:(c.op=10)=True:=eq_true oQ
  simp+decide only[st,xv,d8,ja,ma,l9,mO,nT,pz,qp,rZ,tJ,vg,xm,zQ,OD,cY,n2,n3,Gx,n1,n2,n3,n4,n5,n6,n7,n8,n9]
  obtain⟨h1,pK,hc,he,lz⟩:=akm ok XY (tl:=aK) (done:=done) k
  rw[ff] at hc he lz
  refine aq hc ?_
  simp+decide only[st,xv,d8,OD,l5,xr]
  refine⟨by rw[hV];rfl,(hQ _).2 ⟨pK,by rw[hV];exact he.from oY,fun e0 e=>?_⟩⟩
  rw[hV] at e0 e ⊢;rw[lz e0 e];exact W2 _
 rw[if_neg oQ] at hV
 have Bn:(c.op=10)=False:=eq_false oQ
 by_cases uC:c.op=11
 ·rw[if_pos uC] at hV
  have e11:(c.op=11)=True:=eq_true uC
  simp+decide only[st,xv,d8,ja,ma,l9,mO,nT,pz,qp,rZ,tJ,vg,xm,zQ,CY,OC,cY,n2,n3,e11,n1,n2,n3,n4,n5,n6,n7,n8,n9,Bn]
  obtain⟨h1,pK,hc,he,lz⟩:=akh ok XY (tl:=aK) k hr
  rw[ff] at hc lz
  refine aq hc ?_
  simp+decide only[st,xv,d8,OC,l5]
  refine⟨by rw[hV];rfl,(hQ _).2 ⟨pK,by rw[hV,jy];exact he.from oY,fun _ e=>?_⟩⟩
  rw[hV] at e ⊢;rw[lz e]
 rw[if_neg uC] at hV
 have Wb:(c.op=11)=False:=eq_false uC
 by_cases f0:c.op=12
 ·rw[if_pos f0] at hV
  have e12:(c.op=12)=True:=eq_true f0
  simp+decide only[st,xv,d8,ja,ma,l9,mO,nT,pz,qp,rZ,tJ,vg,xm,zQ,CY,H9,cY,n2,n3,e12,n1,n2,n3,n4,n5,n6,n7,n8,n9,Bn,Wb]
  obtain⟨rt,hx⟩:=XY.x
  have cx:=av hx
  obtain⟨ct,hle,cw⟩:=XY.th
  rw[ff] at cw
  have lx:=XY.lx
  have l2:=XY.k.l2
  have jt:t*12+2<=(aS aW ai).flatten.length:=by omega
  have gC:=X.ak
  rw[ff] at gC
  have ht4:=X.tv.len
  have WG:=X.ht
  have VW:IntKind.wrap .u64 (t:Int)=t:=fC (by omega)
  refine qg 14 23 rfl (by omega) rfl ?_
  simp+decide only[st,xv,d8,abL,cx,ct,lx,l2,jt,cw]
  refine i6 (MP ok (b:=[]) (t:= .full) (l:=x.ak) (t':= .ao) gC (by simp)) (dp (Nat.le_refl _)) ?_
  simp+decide only[st,xv,cx,lx,VW,xr]
  refine⟨(jD lx).2 (dp (Nat.le_refl _)),(jD lx).2 (dp (Nat.le_refl _)),?_⟩
  have XC:=(XY.old ((Old.refl Y).clean (n:=23))).su (bT:={rp with ret:=t,data:=du x.ak}) (tl:= .ao)
  simp+decide only[st,xv,d8,l5]
  exact⟨by rw[hV];rfl,(hQ _).2 ⟨{rp with ret:=t,data:=du x.ak},by rw[hV,jy];exact⟨lb,N,M,XC,(XF.old (oY.trans (Old.refl Y).clean)).sr, .inl rfl,by omega,by omega⟩,fun _ _=>by rw[hV]⟩⟩
 rw[if_neg f0] at hV
 have n12:(c.op=12)=False:=eq_false f0
 by_cases Mh:c.op=13
 ·rw[if_pos Mh] at hV
  have e13:(c.op=13)=True:=eq_true Mh
  simp+decide only[st,xv,d8,ja,ma,l9,mO,nT,pz,qp,rZ,tJ,vg,xm,zQ,CY,H9,OB,l5,cY,n2,n3,e13,n1,n2,n3,n4,n5,n6,n7,n8,n9,Bn,Wb,n12]
  exact⟨by rw[hV];rfl,(hQ _).2 ⟨rp,by rw[hV,jy];exact X.fin oY,fun _ _=>by rw[hV];exact A3⟩⟩
 rw[if_neg Mh] at hV
 have n13:(c.op=13)=False:=eq_false Mh
 simp+decide only[st,xv,d8,ja,ma,l9,mO,nT,pz,qp,rZ,tJ,vg,xm,zQ,CY,H9,OB,abK,l5,cY,n1,n2,n3,n4,n5,n6,n7,n8,n9,Bn,Wb,n12,n13]
 exact⟨by rw[hV];rfl,(hQ _).2 ⟨rp,by rw[hV,jy];exact X.fin oY,fun _ e=>by rw[hV] at e;cases e⟩⟩
end
section
open Go
variable {P:Program} {h:aa} {a:KA} {lb N M:Nat} {ai:List Th} {ah:List Ob} {g:Nat->Option (List UInt8)} {xb t:Nat} {rp:Rp}
def qx (x:Th):Th:={x with bG:=0,id:=0,to:=0,done:=0,n:=0}
def Rp.c (r:Rp) (t:aH):List AV:=[.int .i64 r.NW, .int .i64 r.err, .int .u64 r.ret, .vs (BS r.data) t]
def qO:Rp:=⟨0,0,0,[]⟩
structure Cr where
 r:Rp
 is:Bool
 ai:List Th
 ah:List Ob
 deriving DecidableEq
def told (t:Nat) (D:Dr) (ai:List Th):Cr:=⟨if D.is=false then qO else if D.err≠0 then⟨t,D.err,0,[]⟩ else⟨t,0,D.ret,D.data⟩,D.is,ai.set t D.th,D.ah⟩
def nL (t:Nat) (ai:List Th) (x:Th) (ah:List Ob) (c:Cl) (done:Int):Cr:=told t (jI t (qx x) ah c done) ai
def jU (h:aa) (a:KA) (lb N M:Nat) (ai:List Th) (ah:List Ob) (h':aa):Prop:= ∃aT N' M',KH h' a aT N' M' ai ah (eC ah)/\KF h h' a lb/\(aT=lb\/h.next<=aT)/\N'<=N+2/\M'<=M+1/\TV ai/\ ∃r,bK ah 1=some r
def Cr.v (r:Cr):AV:= .az [.agg (r.r.c .ao), .bool r.is]
theorem Mx (ok:ax P tb) (K:KH h a lb N M ai ah (eC ah)) (tv:TV ai) (root: ∃r,bK ah 1=some r) (ht:t<ai.length) {c:Cl} {tl:Nat->aH} {done:Int} (k:iD c) (gJ:c.op=3->Tree ah/\dB c.ak=true/\jY c.bu=true) (hN:N+1<2^19) (hM:M<128) (f0:c.op=6->ah.length<=12) (ho:0<=ai[t].own):
 ∃h',an P 27 [.ptr a.kb 0, .int .i64 t, .agg (c.c tl), .int .i64 done] h (nL t ai ai[t] ah c done).v h'/\jU h a lb N M (nL t ai ai[t] ah c done).ai (nL t ai ai[t] ah c done).ah h':=by
 obtain⟨V,hV⟩: ∃V,V=nL t ai ai[t] ah c done:=⟨_,rfl⟩
 rw[<-hV]
 obtain⟨Q,hQ⟩: ∃Q:aa->Prop,∀h',Q h'↔jU h a lb N M V.ai V.ah h':=⟨_,fun _=>Iff.rfl⟩
 obtain⟨Q2,nd⟩: ∃Q2:AV->aa->Prop,∀v h',Q2 v h'↔(v.strip=V.v/\Q h'):=⟨_,fun _ _=>Iff.rfl⟩
 suffices hu: ∃v h',an P 27 [.ptr a.kb 0, .int .i64 t, .agg (c.c aK), .int .i64 done] h v h'/\Q2 v h' by
  obtain⟨v,h',c1,wo⟩:=hu
  obtain⟨hv,hq⟩:=(nd _ _).1 wo
  refine⟨h',an.ao ?_,(hQ h').1 hq⟩
  simp only[AV.bA,AV.strip,Cz]
  rw[<-hv]
  exact c1.strip
 unfold nL at hV
 refine ok.py (rf:=qa) rfl (Nat.le_of_ble_eq_true rfl) ?_
 have cO:=K.cO
 simp+decide only[st,xv,qa,ahK,fi]
 generalize hX:aa.at _ _ _=X
 have xo:Old h X:=by rw[<-hX];exact((Old.refl h).at (Nat.le_refl _)).at (by omega)
 have x0:cellsOf X h.next=some (c.c aK):=by rw[<-hX];exact av (by simp[aa.at];rfl)
 have x1:cellsOf X (h.next+1)=some (qO.c .full):=by rw[<-hX];exact av (by simp[aa.at];rfl)
 have xn:X.next=h.next+2:=by rw[<-hX];simp[aa.at]
 have qd:=K.old xo
 have ck:=av qd.top
 have aC:(t:Int)<(ai.length:Int):=by omega
 simp+decide only[st,xv,qa,ahJ,ck,aC]
 generalize hY:aa.at _ _ _=Y
 have oY:Old X Y:=by rw[<-hY];exact(Old.refl X).at (Nat.le_refl _)
 have y2:Y.get X.next=some (.cells [.ptr a.kb 0, .ptr a.tb (t*12), .int .i64 t, .int .i64 t, .int .i64 0, .int .u64 0, .vs [] .full]):=by rw[<-hY];simp[aa.at]
 have yn:Y.next=h.next+3:=by rw[<-hY];simp[aa.at,xn]
 have y0:cellsOf Y h.next=_:=(show cellsOf Y h.next=cellsOf X h.next by unfold cellsOf;rw[oY.get _ (by omega)]).trans x0
 have y1:cellsOf Y (h.next+1)=_:=(show cellsOf Y (h.next+1)=cellsOf X (h.next+1) by unfold cellsOf;rw[oY.get _ (by omega)]).trans x1
 have hold:=xo.trans oY
 have XY:KX Y X.next a lb N M t ai ah ⟨t,0,0,[]⟩:=⟨qd.old oY,⟨.full,y2⟩,by omega,fun e=>by have:=cO _ (.inl e);omega,fun e=>by have:=cO _ (.inr (.inl e));omega,fun e=>by have:=cO _ (.inr (.inr e));omega,ht,tv,root⟩
 have cy:=av y2
 obtain⟨ct,hle,_⟩:=XY.E5
 have l2:=K.l2
 have lp: ∀{x x':Th} {j:Nat} {v:AV},(j+1<=12)->List.take j (x.c aW)++[v]++List.drop (j+1) (x.c aW)=x'.c aW->List.take (t*12+j) (aS aW (ai.set t x)).flatten++[v]++List.drop (t*12+j+1) (aS aW (ai.set t x)).flatten=(aS aW (ai.set t x')).flatten/\t*12+j+1<=(aS aW (ai.set t x)).flatten.length:=by
  intro x x' j v hj oI
  have:=wY (l:=ai.set t x) (t:=t) (by simpa using ht) (j:=j) (v:=[v]) (x':=x') hj (by simpa using oI)
  rw[List.set_set] at this
  refine⟨this,?_⟩
  rw[jE mJ,gE,List.length_set];omega
 have e0:ai.set t ai[t]=ai:=tz ht
 have s1:=lp (x:=ai[t]) (x':={ai[t] with bG:=0}) (j:=6) (v:= .int .i64 0) (by omega) (by simp[jw])
 rw[e0] at s1
 have s2:=lp (x:={ai[t] with bG:=0}) (x':={ai[t] with bG:=0,id:=0}) (j:=7) (v:= .int .u64 0) (by omega) (by simp[jw])
 have s3:=lp (x:={ai[t] with bG:=0,id:=0}) (x':={ai[t] with bG:=0,id:=0,to:=0}) (j:=8) (v:= .int .u64 0) (by omega) (by simp[jw])
 have s4:=lp (x:={ai[t] with bG:=0,id:=0,to:=0}) (x':={ai[t] with bG:=0,id:=0,to:=0,done:=0}) (j:=9) (v:= .int .i64 0) (by omega) (by simp[jw])
 have s5:=lp (x:={ai[t] with bG:=0,id:=0,to:=0,done:=0}) (x':={ai[t] with bG:=0,id:=0,to:=0,done:=0,n:=0}) (j:=10) (v:= .int .i64 0) (by omega) (by simp[jw])
 simp+decide only[st,xv,qa,ahI,ahH,cy,ct,s1,s2,s3,s4,s5,@set_set]
 generalize hρ:put _ _ _=ρ1
 have r0:ρ1 1= .int .i64 t:=by rw[<-hρ];rfl
 have r3:ρ1 3= .int .i64 done:=by rw[<-hρ];rfl
 have r6:ρ1 6= .ptr h.next 0:=by rw[<-hρ];rfl
 have r8:ρ1 8= .ptr (h.next+1) 0:=by rw[<-hρ];rfl
 have eV:ρ1 10= .ptr X.next 0:=by rw[<-hρ];rfl
 clear hρ
 obtain⟨W,hW⟩: ∃W,W=Y.set a.tb (some (.cells (aS aW (ai.set t (qx ai[t]))).flatten)):=⟨_,rfl⟩
 have lF:=hW
 unfold qx at lF
 rw[<-lF]
 have XW:KX W X.next a lb N M t (ai.set t (qx ai[t])) ah ⟨t,0,0,[]⟩:=by
  have uj:=tv.ak _ (List.getElem_mem ht)
  rw[hW];exact XY.mQ (x:=qx ai[t]) uj
 have xfW:XF h W a lb X.next:=by rw[hW];exact(XF.old hold).mQ
 have ntb: ∀b,h.next<=b->b≠a.tb:=fun b hb=>by omega
 have w0:cellsOf W h.next=_:=(show cellsOf W h.next=cellsOf Y h.next by rw[hW];unfold cellsOf;simp only[aa.set];rw[if_neg (by omega)]).trans y0
 have w1:cellsOf W (h.next+1)=_:=(show cellsOf W (h.next+1)=cellsOf Y (h.next+1) by rw[hW];unfold cellsOf;simp only[aa.set];rw[if_neg (by omega)]).trans y1
 have nW:W.next=h.next+3:=by rw[hW];exact yn
 clear hW lF
 simp only[fi] at w0
 have hx:(ai.set t (qx ai[t]))[t]'XW.ht=qx ai[t]:=by simp
 obtain⟨h1,hc,hD⟩:=ako ok XW (tl:=aK) (done:=done) k gJ hN hM f0 (by rw[hx];exact ho) rfl rfl
 rw[hx] at hc hD
 generalize hDD:jI t (qx ai[t]) ah c done=D at*
 obtain⟨pK,⟨fw,N1,M1,X1,v8,ee,L6,L7⟩,lz⟩:=hD
 rw[List.set_set] at X1
 simp+decide only[st,xv,qa,T5,r0,r3,r6,r8,eV,w0]
 refine aq hc ?_
 simp+decide only[st,xv,qa,T5,xr]
 have ltw:=XW.k.cO
 have vO: ∀b,h.next<=b-> ¬FK a b/\ ¬FA a lb b/\ ¬FS a b:=fun b hb=>⟨fun e=>by have:=cO _ (.inl e);omega,fun e=>by have:=cO _ (.inr (.inl e));omega,fun e=>by have:=cO _ (.inr (.inr e));omega⟩
 have z1:cellsOf h1 (h.next+1)=_:=(show cellsOf h1 (h.next+1)=cellsOf W (h.next+1) by
  unfold cellsOf
  rw[v8.2 _ (by omega) (vO _ (by omega)).1 (vO _ (by omega)).2.1 (vO _ (by omega)).2.2 (by omega)]).trans w1
 have nh1:=v8.1
 have l1x:=X1.lx
 obtain⟨rt,pO⟩:=X1.x
 have BQ:=av pO
 have aM: ¬X.next=h.next+1:=by omega
 have Ld:fw=lb\/h.next<=fw:=by
  rcases ee with e|e
  ·exact .inl e
  ·exact .inr (by omega)
 have hq: ∀(b:Option cI),V.ai=ai.set t D.th->V.ah=D.ah->Q (h1.set (h.next+1) b):=by
  intro b e1 e2
  refine(hQ _).2 ?_
  rw[e1,e2]
  have hz: ∀b',b'≠h.next+1->(h1.set (h.next+1) b).get b'=h1.get b':=fun b' bC=>by simp only[aa.set];rw[if_neg bC]
  have Wf:=X1.k.cO
  refine⟨fw,N1,M1,X1.k.bM (h':=h1.set (h.next+1) b) (Nat.le_refl _) (fun b' bC hf=>hz b' ?_) (Nat.le_refl _) (Nat.le_refl _),⟨by show h.next<=h1.next;omega,fun b' bC f1 f2 f3=>?_⟩,Ld,L6,L7,X1.tv,X1.root⟩
  ·intro e
   subst e
   rcases hf with f|f|f
   ·exact(vO _ (by omega)).1 f
   ·rcases ee with e|e
    ·rw[e] at f;exact(vO _ (by omega)).2.1 f
    ·rcases f with f|f|f
     ·exact(vO _ (by omega)).2.1 (.inl f)
     ·exact(vO _ (by omega)).2.1 (.inr (.inl f))
     ·omega
   ·exact(vO _ (by omega)).2.2 f
  ·rw[hz b' (by omega),v8.2 b' (by omega) f1 f2 f3 (by omega),xfW.2 b' bC f1 f2 f3 (by omega)]
 simp only[Rp.c] at z1
 unfold told at hV
 cases oN:D.is with
 |false=>
  simp+decide only[st,xv,qa,Ke,ahG,r8,z1,oN,xr,lP]
  rw[oN] at hV
  exact(nd _ _).2 ⟨by rw[hV];rfl,hq _ (by rw[hV]) (by rw[hV])⟩
 |true=>
  by_cases he:D.err=0
  ·have dJ:((D.err:Int)=0)=True:=eq_true (by omega)
   simp+decide only[st,xv,qa,Ke,T4,ahE,r8,eV,z1,BQ,oN,dJ,xr,lP]
   have e1:=lz oN he
   rw[oN,he] at hV
   refine(nd _ _).2 ⟨?_,hq _ (by rw[hV]) (by rw[hV])⟩
   rw[hV,e1]
   simp only[AV.strip,AV.bA,jV]
   rfl
  ·have dJ:((D.err:Int)=0)=False:=eq_false (by omega)
   simp+decide only[st,xv,qa,Ke,T4,ahF,r0,r8,z1,oN,dJ,xr,lP]
   rw[oN,if_neg (by decide),if_pos he] at hV
   exact(nd _ _).2 ⟨by rw[hV];rfl,hq _ (by rw[hV]) (by rw[hV])⟩
end
section
open Go
variable {P:Program} {h:aa} {a:KA} {lb N M:Nat} {ai:List Th} {ah:List Ob} {g:Nat->Option (List UInt8)} {xb:Nat} {rp:Rp}
def ko (t:Int) (ai:List Th) (ah:List Ob) (c:Cl):Cr:=if qS ai t=false then⟨qO,false,ai,ah⟩ else if si ai t then⟨qO,false,ai,ah⟩ else match ai[t.toNat]? with
 |some x=>nL t.toNat ai x ah c 0
 |none=>⟨qO,false,ai,ah⟩
def td:Cl:=⟨0,0,0,0,0,0,⟨0,[]⟩,oz,[],[]⟩
def jx (t:Int) (ai:List Th) (ah:List Ob):Cr:=if si ai t=false then⟨qO,false,ai,ah⟩ else match ai[t.toNat]? with
 |some x=>if x.bG=1 then nL t.toNat ai x ah {td with op:=9,id:=x.id} 0 else nL t.toNat ai x ah {td with op:=10,id:=x.id,to:=x.to,n:=x.n} x.done
 |none=>⟨qO,false,ai,ah⟩
structure mu (ai:List Th) (ah:List Ob):Prop where
 tv:TV ai
 root: ∃r,bK ah 1=some r
 tree:Tree ah
 own: ∀x∈ai,0<=x.own/\x.id<2^64/\x.to<2^64
theorem jU.same (K:KH h a lb N M ai ah (eC ah)) (I:mu ai ah) {h':aa} (o:Old h h'):jU h a lb N M ai ah h':=⟨lb,N,M,K.old o, .old o, .inl rfl,by omega,by omega,I.tv,I.root⟩
theorem jU.from {Y h':aa} (o:Old h Y) (e:jU Y a lb N M ai ah h'):jU h a lb N M ai ah h':=by
 obtain⟨aT,N',M',K,kf,hl,hN,hM,tv,rt⟩:=e
 refine⟨aT,N',M',K,(KF.old (lb:=lb) o).trans kf (.inl rfl),?_,hN,hM,tv,rt⟩
 rcases hl with e|e
 ·exact .inl e
 ·exact .inr (Nat.le_trans o.next e)
theorem jU.get {Y h1:aa} (e:jU Y a lb N M ai ah h1) (cO: ∀b,FK a b\/FA a lb b\/FS a b->b<h.next) {i:Nat} (hi:h.next<=i) (BD:i<Y.next):h1.get i=Y.get i:=by
 obtain⟨fw,N1,M1,K,kf,hl,hN,hM,tv,rt⟩:=e
 exact kf.2 i BD (fun e=>by have:=cO _ (.inl e);omega) (fun e=>by have:=cO _ (.inr (.inl e));omega) (fun e=>by have:=cO _ (.inr (.inr e));omega)
theorem jU.x9 {Y h1:aa} (o:Old h Y) (e:jU Y a lb N M ai ah h1) (cO: ∀b,FK a b\/FA a lb b\/FS a b->b<h.next) {i:Nat} (hi:h.next<=i) (BD:i<Y.next) (b:Option cI):jU h a lb N M ai ah (h1.set i b):=by
 obtain⟨fw,N1,M1,K,kf,hl,hN,hM,tv,rt⟩:=e
 have hz: ∀b',b'≠i->(h1.set i b).get b'=h1.get b':=fun b' bC=>by simp only[aa.set];rw[if_neg bC]
 have on:=o.next
 refine⟨fw,N1,M1,K.bM (h':=h1.set i b) (Nat.le_refl _) (fun b' bC hf=>hz b' ?_) (Nat.le_refl _) (Nat.le_refl _),⟨by have:=kf.1;show h.next<=h1.next;omega,fun b' bC f1 f2 f3=>?_⟩,?_,hN,hM,tv,rt⟩
 ·intro e
  subst e
  rcases hf with f|f|f
  ·have:=cO _ (.inl f);omega
  ·rcases hl with e|e
   ·rw[e] at f;have:=cO _ (.inr (.inl f));omega
   ·rcases f with f|f|f
    ·have:=cO _ (.inr (.inl (.inl f)));omega
    ·have:=cO _ (.inr (.inl (.inr (.inl f))));omega
    ·omega
  ·have:=cO _ (.inr (.inr f));omega
 ·rw[hz b' (by omega),kf.2 b' (by omega) f1 f2 f3,o.get b' bC]
 ·rcases hl with e|e
  ·exact .inl e
  ·exact .inr (by omega)
theorem aml (ok:ax P tb) (K:KH h a lb N M ai ah (eC ah)) (I:mu ai ah) {t:Int} {c:Cl} {tl:Nat->aH} (k:iD c) (gJ:c.op=3->dB c.ak=true/\jY c.bu=true) (hN:N+1<2^19) (hM:M<128) (f0:c.op=6->ah.length<=12):
 ∃h',an P 12 [.ptr a.kb 0, .int .i64 t, .agg (c.c tl)] h (ko t ai ah c).v h'/\jU h a lb N M (ko t ai ah c).ai (ko t ai ah c).ah h':=by
 obtain⟨V,hV⟩: ∃V,V=ko t ai ah c:=⟨_,rfl⟩
 rw[<-hV]
 obtain⟨Q,hQ⟩: ∃Q:aa->Prop,∀h',Q h'↔jU h a lb N M V.ai V.ah h':=⟨_,fun _=>Iff.rfl⟩
 obtain⟨Q2,nd⟩: ∃Q2:AV->aa->Prop,∀v h',Q2 v h'↔(v.strip=V.v/\Q h'):=⟨_,fun _ _=>Iff.rfl⟩
 suffices hu: ∃v h',an P 12 [.ptr a.kb 0, .int .i64 t, .agg (c.c aK)] h v h'/\Q2 v h' by
  obtain⟨v,h',c1,wo⟩:=hu
  obtain⟨hv,hq⟩:=(nd _ _).1 wo
  refine⟨h',an.ao ?_,(hQ h').1 hq⟩
  simp only[AV.bA,AV.strip,Cz]
  rw[<-hv]
  exact c1.strip
 unfold ko at hV
 refine ok.py (rf:=rF) rfl (Nat.le_of_ble_eq_true rfl) ?_
 have cO:=K.cO
 simp+decide only[st,xv,rF,aiw,fi]
 generalize hX:aa.at _ _ _=X
 have xo:Old h X:=by rw[<-hX];exact((Old.refl h).at (Nat.le_refl _)).at (by omega)
 have x0:cellsOf X h.next=some (c.c aK):=by rw[<-hX];exact av (by simp[aa.at];rfl)
 have x1:cellsOf X (h.next+1)=some (qO.c .full):=by rw[<-hX];exact av (by simp[aa.at];rfl)
 have xn:X.next=h.next+2:=by rw[<-hX];simp[aa.at]
 have qd:=K.old xo
 simp only[fi] at x0
 simp only[Rp.c] at x1
 have no:V=⟨qO,false,ai,ah⟩-> ∀b,Q (X.set (h.next+1) b):=fun e b=>(hQ _).2 (by
  rw[e]
  exact(jU.same qd I (Old.refl X)).x9 xo cO (by omega) (by omega) b)
 simp+decide only[st,xv,rF,AN]
 refine aq (Y7 ok qd) ?_
 cases oN:qS ai t with
 |false=>
  rw[if_pos oN] at hV
  simp+decide only[st,xv,rF,AN,UG,x1,xr,lP]
  exact(nd _ _).2 ⟨by rw[hV];rfl,no hV _⟩
 |true=>
  rw[if_neg (by simp[oN])] at hV
  simp+decide only[st,xv,rF,AN]
  refine aq (MD ok qd) ?_
  cases hb:si ai t with
  |true=>
   rw[if_pos hb] at hV
   simp+decide only[st,xv,rF,AN,UG,x1,xr,lP]
   exact(nd _ _).2 ⟨by rw[hV];rfl,no hV _⟩
  |false=>
   rw[if_neg (by simp[hb])] at hV
   obtain⟨n,rfl,hn⟩:=NI oN
   rw[Int.toNat_natCast,List.getElem?_eq_getElem hn] at hV
   simp only at hV
   have js:=I.own _ (List.getElem_mem hn)
   obtain⟨h1,hc,hE⟩:=Mx ok qd I.tv I.root hn (tl:=aK) (done:=0) k (fun e=>⟨I.tree,gJ e⟩) hN hM f0 js.1
   rw[<-hV] at hc hE
   have z1:cellsOf h1 (h.next+1)=_:=(show cellsOf h1 (h.next+1)=cellsOf X (h.next+1) by unfold cellsOf;rw[hE.get cO (by omega) (by omega)]).trans x1
   simp+decide only[st,xv,rF,AN,UF,x0,xr]
   refine aq hc ?_
   simp+decide only[st,xv,rF,UF,z1,Cr.v,Rp.c,xr,lP]
   exact(nd _ _).2 ⟨by simp only[AV.strip,AV.bA,jV];rfl,(hQ _).2 (hE.x9 xo cO (by omega) (by omega) _)⟩
end
section
open Go
variable {P:Program} {h:aa} {a:KA} {lb N M:Nat} {ai:List Th} {ah:List Ob} {g:Nat->Option (List UInt8)} {xb:Nat} {rp:Rp}
theorem ami (ok:ax P tb) (K:KH h a lb N M ai ah (eC ah)) (I:mu ai ah) {t:Int} (hN:N+1<2^19) (hM:M<128):
 ∃h',an P 16 [.ptr a.kb 0, .int .i64 t] h (jx t ai ah).v h'/\jU h a lb N M (jx t ai ah).ai (jx t ai ah).ah h':=by
 obtain⟨V,hV⟩: ∃V,V=jx t ai ah:=⟨_,rfl⟩
 rw[<-hV]
 obtain⟨Q,hQ⟩: ∃Q:aa->Prop,∀h',Q h'↔jU h a lb N M V.ai V.ah h':=⟨_,fun _=>Iff.rfl⟩
 obtain⟨Q2,nd⟩: ∃Q2:AV->aa->Prop,∀v h',Q2 v h'↔(v.strip=V.v/\Q h'):=⟨_,fun _ _=>Iff.rfl⟩
 suffices hu: ∃v h',an P 16 [.ptr a.kb 0, .int .i64 t] h v h'/\Q2 v h' by
  obtain⟨v,h',c1,wo⟩:=hu
  obtain⟨hv,hq⟩:=(nd _ _).1 wo
  refine⟨h',?_,(hQ h').1 hq⟩
  rw[<-hv]
  exact c1.strip
 unfold jx at hV
 refine ok.py (rf:=qb) rfl (Nat.le_of_ble_eq_true rfl) ?_
 have cO:=K.cO
 simp+decide only[st,xv,qb,aie]
 generalize hX:aa.at _ _ _=X
 have xo:Old h X:=by rw[<-hX];exact(Old.refl h).at (Nat.le_refl _)
 have x1:cellsOf X h.next=some (qO.c .full):=by rw[<-hX];exact av (by simp[aa.at];rfl)
 have xn:X.next=h.next+1:=by rw[<-hX];simp[aa.at]
 have qd:=K.old xo
 simp only[Rp.c] at x1
 have no:V=⟨qO,false,ai,ah⟩-> ∀b,Q (X.set h.next b):=fun e b=>(hQ _).2 (by
  rw[e]
  exact(jU.same qd I (Old.refl X)).x9 xo cO (by omega) (by omega) b)
 simp+decide only[st,xv,qb,Kl]
 refine aq (MD ok qd) ?_
 cases hb:si ai t with
 |false=>
  rw[if_pos hb] at hV
  simp+decide only[st,xv,qb,Kl,aid,x1,xr,lP]
  exact(nd _ _).2 ⟨by rw[hV];rfl,no hV _⟩
 |true=>
  rw[if_neg (by simp[hb])] at hV
  have oN:qS ai t=true:=by
   unfold si at hb
   simp only[Bool.and_eq_true] at hb
   exact hb.1
  obtain⟨n,rfl,hn⟩:=NI oN
  rw[Int.toNat_natCast,List.getElem?_eq_getElem hn] at hV
  simp only at hV
  have js:=I.own _ (List.getElem_mem hn)
  have ck:=av qd.top
  have ct:=av qd.bg
  have aC:(n:Int)<(ai.length:Int):=by omega
  have hle:(aS aW ai).flatten.length=ai.length*12:=by rw[jE mJ,gE]
  have jt:n*12+12<=(aS aW ai).flatten.length:=by omega
  have cw:=Hc (rows:=aS aW ai) (i:=n) (by rw[gE];exact hn) mJ
  rw[show(aS aW ai)[n]'(by rw[gE];exact hn)=ai[n].c aW by simp[aS]] at cw
  generalize hx:ai[n]=x at*
  simp only[Th.c] at cw
  simp+decide only[st,xv,qb,Kl,aic,ck,ct,aC,jt,cw,xr]
  generalize hY:aa.set _ _ _=Y
  have oY:Old X Y:=by rw[<-hY];exact((Old.refl X).at (Nat.le_refl _)).set (Nat.le_refl _)
  have cY:cellsOf Y X.next=some (x.c aW):=by rw[<-hY];exact av (by simp[aa.set];try rfl)
  have nY:Y.next=X.next+1:=by rw[<-hY];simp[aa.at,aa.set]
  have hold:=xo.trans oY
  have KY:=K.old hold
  have y1:cellsOf Y h.next=_:=(show cellsOf Y h.next=cellsOf X h.next by unfold cellsOf;rw[oY.get _ (by omega)]).trans x1
  simp only[Th.c] at cY
  by_cases hd:x.bG=1
  ·have kY:(x.bG=1)=True:=eq_true hd
   rw[if_pos hd] at hV
   simp+decide only[st,xv,qb,Uu,Ut,cY,kY,xr]
   obtain⟨h1,hc,hE⟩:=Mx ok KY I.tv I.root hn (c:={td with op:=9,id:=x.id}) (tl:=fun _=> .full) (done:=0) ⟨CC,Nat.zero_le _,js.2.1,(by decide:0<2^64),(by decide:0<2^20),(by decide:0<2^16),fun _ h=>by cases h⟩ (fun e=>by cases e) hN hM (fun e=>by cases e) (by rw[hx];exact js.1)
   rw[hx,<-hV] at hc hE
   have z1:cellsOf h1 h.next=_:=(show cellsOf h1 h.next=cellsOf Y h.next by unfold cellsOf;rw[hE.get cO (by omega) (by omega)]).trans y1
   refine aq hc ?_
   simp+decide only[st,xv,qb,Ut,z1,Cr.v,Rp.c,xr,lP]
   exact(nd _ _).2 ⟨by simp only[AV.strip,AV.bA,jV];rfl,(hQ _).2 (hE.x9 hold cO (by omega) (by omega) _)⟩
  ·have kY:(x.bG=1)=False:=eq_false hd
   rw[if_neg hd] at hV
   simp+decide only[st,xv,qb,Uu,Us,cY,kY,xr]
   obtain⟨h1,hc,hE⟩:=Mx ok KY I.tv I.root hn (c:={td with op:=10,id:=x.id,to:=x.to,n:=x.n}) (tl:=fun _=> .full) (done:=x.done) ⟨CC,Nat.zero_le _,js.2.1,js.2.2,(by decide:0<2^20),(by decide:0<2^16),fun _ h=>by cases h⟩ (fun e=>by cases e) hN hM (fun e=>by cases e) (by rw[hx];exact js.1)
   rw[hx,<-hV] at hc hE
   have z1:cellsOf h1 h.next=_:=(show cellsOf h1 h.next=cellsOf Y h.next by unfold cellsOf;rw[hE.get cO (by omega) (by omega)]).trans y1
   refine aq hc ?_
   simp+decide only[st,xv,qb,Us,z1,Cr.v,Rp.c,xr,lP]
   exact(nd _ _).2 ⟨by simp only[AV.strip,AV.bA,jV];rfl,(hQ _).2 (hE.x9 hold cO (by omega) (by omega) _)⟩
end
section
open Go
variable {ai:List Th} {ah:List Ob} {t:Nat}
theorem ZN {o:Ob} (hs:ah.Pairwise (·.id< ·.id)):o∈ec ah o:=by
 have:=tB (o:=o) (id:=o.id) hs
 rw[if_pos rfl] at this
 exact(lO this).1
theorem M6 {o b:Ob} (hs:ah.Pairwise (·.id< ·.id)) (hb:b∈ah) (aM:b.id≠o.id):b∈ec ah o:=by
 have:=tB (o:=o) (id:=b.id) hs
 rw[if_neg aM,mH hs hb] at this
 exact(lO this).1
theorem Cq {o o0:Ob} (hs:ah.Pairwise (·.id< ·.id)) (T:Tree ah) (h0:o0∈ah) (e1:o.id=o0.id) (e2:o.kind=o0.kind) (e3:o0.next<=o.next):Tree (ec ah o):=by
 have key: ∀x:Ob,x.id≠1->(∃b∈ah,b.id=fu x.id/\b.kind=1/\((x.id%64:Nat):Int)<b.next)-> ∃b∈ec ah o,b.id=fu x.id/\b.kind=1/\((x.id%64:Nat):Int)<b.next:=by
  rintro x _ ⟨b,hb,b1,b2,b3⟩
  by_cases e:b.id=o.id
  ·have wy:b=o0:=by
    have f1:=mH hs hb
    have f2:=mH hs h0
    rw[e,e1,f2] at f1
    exact(Option.some.inj f1).symm
   subst wy
   exact⟨o,ZN hs,by rw[e1,b1],by rw[e2,b2],by omega⟩
  ·exact⟨b,M6 hs hb e,b1,b2,b3⟩
 intro x hx h1
 rcases Cs hx with rfl|hx
 ·refine key _ h1 ?_
  rw[e1] at h1 ⊢
  exact T o0 h0 h1
 ·exact key _ h1 (T x hx h1)
theorem amY {o b:Ob} (hs:ah.Pairwise (·.id< ·.id)) (T:Tree ah) (hb:b∈ah) (hn:bK ah o.id=none) (b1:b.id=fu o.id) (b2:b.kind=1) (b3:((o.id%64:Nat):Int)<b.next):Tree (ec ah o):=by
 have aM: ∀x∈ah,x.id≠o.id:=fun x hx e=>by
  have:=mH hs hx
  rw[e,hn] at this
  cases this
 intro x hx h1
 rcases Cs hx with rfl|hx
 ·exact⟨b,M6 hs hb (aM b hb),b1,b2,b3⟩
 ·obtain⟨b',bC,q⟩:=T x hx h1
  exact⟨b',M6 hs bC (aM b' bC),q⟩
theorem ama {id:Nat} (hm:dM id=true) (h1:id≠1):ij id=ij (fu id)++[id]:=by
 unfold dM at hm
 cases hn:gx id with
 |none=>rw[hn] at hm;cases hm
 |some l=>
  have gQ:=hn
  unfold gx at hn
  rw[fR] at hn
  rw[if_neg h1] at hn
  split at hn
  ·rename_i hc
   obtain⟨m,hm,rfl⟩:=Option.map_eq_some_iff.1 hn
   have hp:fu id=id/64:=by unfold fu mf;rw[gQ];simp
   have WA:gx (id/64)=some m:=Hk hm (by have:=wQ hm;omega)
   unfold ij
   rw[hp,gQ,WA]
   simp only[List.length_cons]
   rw[List.range_succ,List.map_append]
   congr 1
   ·refine List.map_congr_left fun j hj=>?_
    have kW:=List.mem_range.1 hj
    rw[Nat.div_div_eq_div_mul,<-Nat.pow_succ',show m.length+1-j=m.length-j+1 by omega]
   ·simp
  ·cases hn
theorem anp {id:Nat} (hm:dM id=true) (h1:id≠1):dM (fu id)=true/\fu id<id:=by
 unfold dM at hm
 cases hn:gx id with
 |none=>rw[hn] at hm;cases hm
 |some l=>
  have gQ:=hn
  unfold gx at hn
  rw[fR] at hn
  rw[if_neg h1] at hn
  split at hn
  ·rename_i hc
   obtain⟨m,hm,rfl⟩:=Option.map_eq_some_iff.1 hn
   have hp:fu id=id/64:=by unfold fu mf;rw[gQ];simp
   have WA:gx (id/64)=some m:=Hk hm (by have:=wQ hm;omega)
   rw[hp]
   exact⟨by unfold dM;rw[WA];rfl,by omega⟩
  ·cases hn
theorem anm {id:Nat} (hm:dM id=true): ∀x∈ij id,x<=id:=by
 intro x hx
 by_cases h1:id=1
 ·subst h1
  have e:ij 1=[1]:=by decide
  rw[e] at hx
  have:=List.mem_singleton.1 hx;omega
 ·obtain⟨ps,_,_,h3⟩:=XS hm h1
  by_cases e:x=id
  ·omega
  ·have:=h3 x hx e;omega
theorem akc {id gd:Nat} (hm:dM id=true) (h1:id≠1) (hw:jW id gd=false):jW (fu id) gd=false:=by
 unfold jW at hw ⊢
 rw[ama hm h1] at hw
 rw[<-Bool.not_eq_true,List.contains_iff_mem] at hw ⊢
 exact fun hh=>hw (List.mem_append_left _ hh)
theorem ajG {gd:Nat} (hm:dM gd=true) (h1:gd≠1):jW (fu gd) gd=false:=by
 obtain⟨m1,m2⟩:=anp hm h1
 unfold jW
 rw[<-Bool.not_eq_true,List.contains_iff_mem]
 intro hh
 have:=anm m1 _ hh
 omega
theorem ani {gd:Nat} (hs:ah.Pairwise (·.id< ·.id)):(AW gd ah).Pairwise (·.id< ·.id):=hs.sublist List.filter_sublist
theorem jB.dM {o:Ob} (v:jB o):dM o.id=true:=by
 have:=v.may
 unfold eY at this
 simp only[Bool.and_eq_true] at this
 exact this.1.1
theorem amX {gd:Nat} (ks:KS ah) (T:Tree ah):Tree (AW gd ah):=by
 intro o ho h1
 obtain⟨hm,hw⟩:=List.mem_filter.1 ho
 obtain⟨b,hb,b1,b2⟩:=T o hm h1
 refine⟨b,List.mem_filter.2 ⟨hb,?_⟩,b1,b2⟩
 rw[b1]
 simpa using akc (ks.val o hm).dM h1 (by simpa using hw)
theorem al8 {o:Ob} {c:Int}:(qA o c).next=o.next:=by unfold qA;split<;>rfl
theorem aak {o:Ob} (ks:KS ah) (T:Tree ah) (ho:o∈ah) {d:List UInt8}:Tree (FZ ah o d):=Cq ks.di T ho rfl rfl (Int.le_refl _)
theorem ali {x:Th} {c:Cl} {done:Int} (ks:KS ah) (hr: ∃r,bK ah 1=some r) (T:Tree ah):Tree (jI t x ah c done).ah:=by
 unfold jI
 by_cases o0:(c.op=2\/c.op=3)/\names c.ak=false
 ·rw[if_pos o0]
  exact T
 rw[if_neg o0]
 unfold xd
 by_cases o1:c.op=1
 ·rw[if_pos o1]
  exact T
 rw[if_neg o1]
 by_cases o2:c.op=2
 ·rw[if_pos o2]
  exact T
 rw[if_neg o2]
 by_cases o3:c.op=3
 ·rw[if_pos o3]
  show Tree (nJ x.ak ah c).2.2
  unfold nJ
  split
  ·exact T
  have dI:=mI (l:=x.ak) (id:=c.id) (kind:=1) (q:=ey x.ak) hr
  generalize bS ah x.ak c.id 1 (ey x.ak)=R at*
  obtain⟨o,e⟩:=R
  simp only at dI ⊢
  split
  ·exact T
  rename_i he
  obtain⟨db,aY,_⟩:=dI (Classical.not_not.1 he)
  unfold HI
  split
  ·exact T
  split
  ·exact T
  split
  ·exact T
  split
  ·exact T
  rename_i dH
  have dH:=Classical.not_not.1 dH
  split
  ·exact T
  rename_i qZ
  have qZ:=Classical.not_not.1 qZ
  have gJ:=Zy ks T db dH
  obtain⟨n,e1,e2,e3,e4,e5,e6,e7,e8,e9⟩:=N3 dH
  have Wx: ∃u,(mR o (cost (jL c (iu o.id o.next).1))).1={o with used:=u}:=by
   unfold mR at qZ ⊢
   split
   ·rename_i h;rw[if_pos h] at qZ;cases qZ
   split
   ·rename_i h1 h;rw[if_neg h1,if_pos h] at qZ;cases qZ
   exact⟨_,rfl⟩
  obtain⟨u,hu⟩:=Wx
  rw[hu]
  have s1:=Nk (o:={o with used:=u,next:=o.next+1}) ks.di
  have T1:=Cq (o:={o with used:=u,next:=o.next+1}) ks.di T db rfl rfl (by show o.next<=o.next+1;omega)
  show Tree (ec (ec ah {o with used:=u,next:=o.next+1}) (jL c (iu o.id o.next).1))
  refine amY s1 T1 (b:={o with used:=u,next:=o.next+1}) (ZN ks.di) ?_ ?_ aY ?_
  ·rw[tB ks.di]
   show(if(iu o.id o.next).1=o.id then _ else bK ah (iu o.id o.next).1)=none
   rw[if_neg (by omega),gJ]
  ·show o.id=fu (iu o.id o.next).1
   rw[e5,e7]
  ·show(((iu o.id o.next).1%64:Nat):Int)<o.next+1
   rw[e5,e1];omega
 rw[if_neg o3]
 by_cases o4:c.op=4
 ·rw[if_pos o4]
  exact T
 rw[if_neg o4]
 by_cases o5:c.op=5
 ·rw[if_pos o5]
  show Tree (rW x.ak ah c).2
  unfold rW
  have dI:=mI (l:=x.ak) (id:=c.id) (kind:=2) (q:=fo x.ak) hr
  generalize bS ah x.ak c.id 2 (fo x.ak)=R at*
  obtain⟨o,e⟩:=R
  simp only at dI ⊢
  split
  ·exact T
  rename_i he
  obtain⟨db,aY,_⟩:=dI (Classical.not_not.1 he)
  split
  ·exact aak ks T db
  ·exact T
 rw[if_neg o5]
 by_cases o6:c.op=6
 ·rw[if_pos o6]
  show Tree (rY x.ak ah c).2
  unfold rY
  split
  ·exact T
  rename_i h1
  have LX:=Y8 (l:=x.ak) hr h1
  split
  ·exact T
  rename_i he
  obtain⟨_,b,hb,ef,m5⟩:=LX (Classical.not_not.1 he)
  rw[hb,Option.getD_some]
  split
  ·exact T
  have pW:=lO hb
  refine Cq (o0:=b) (ani ks.di) (amX ks T) (List.mem_filter.2 ⟨pW.1,?_⟩) NB.1 NB.2 (by rw[al8];exact Int.le_refl _)
  rw[pW.2,ajG m5 h1];rfl
 rw[if_neg o6]
 by_cases o7:c.op=7
 ·rw[if_pos o7]
  exact T
 rw[if_neg o7]
 by_cases o8:c.op=8
 ·rw[if_pos o8]
  show Tree (sh x.ak ah c).2
  unfold sh
  have dI:=mI (l:=x.ak) (id:=c.id) (kind:=4) (q:=ey x.ak) hr
  generalize bS ah x.ak c.id 4 (ey x.ak)=R at*
  obtain⟨o,e⟩:=R
  simp only at dI ⊢
  split
  ·exact T
  rename_i he
  obtain⟨db,aY,_⟩:=dI (Classical.not_not.1 he)
  split
  ·exact T
  ·exact Cq ks.di T db rfl rfl (Int.le_refl _)
 rw[if_neg o8]
 by_cases o9:c.op=9
 ·rw[if_pos o9]
  show Tree (ik x ah c).2.2.2.1
  unfold ik
  have dI:=mI (l:=x.ak) (id:=c.id) (kind:=4) (q:=ey x.ak) hr
  generalize bS ah x.ak c.id 4 (ey x.ak)=R at*
  obtain⟨o,e⟩:=R
  simp only at dI ⊢
  split
  ·exact T
  rename_i he
  obtain⟨db,aY,_⟩:=dI (Classical.not_not.1 he)
  split
  ·exact T
  ·exact Cq ks.di T db rfl rfl (Int.le_refl _)
 rw[if_neg o9]
 by_cases lq:c.op=10
 ·rw[if_pos lq]
  show Tree (gw x ah c done).2.2.2.1
  unfold gw
  have dI:=mI (l:=x.ak) (id:=c.to) (kind:=2) (q:=fo x.ak) hr
  generalize bS ah x.ak c.to 2 (fo x.ak)=R at*
  obtain⟨o,e⟩:=R
  simp only at dI ⊢
  split
  ·exact T
  split
  ·exact T
  rename_i he
  obtain⟨db,aY,_⟩:=dI (Classical.not_not.1 he)
  split
  ·exact T
  unfold Bq
  simp only
  split<;>exact aak ks T db
 rw[if_neg lq]
 by_cases FT:c.op=11
 ·rw[if_pos FT]
  exact T
 rw[if_neg FT]
 by_cases FR:c.op=12
 ·rw[if_pos FR]
  exact T
 rw[if_neg FR]
 by_cases FQ:c.op=13
 ·rw[if_pos FQ]
  exact T
 rw[if_neg FQ]
 exact T
theorem YE {x:Th} {cs:List Nat}:(gq x cs).2.own=x.own/\(gq x cs).2.id=x.id/\(gq x cs).2.to=x.to:=by unfold gq;split<;>exact⟨rfl,rfl,rfl⟩
theorem amj {x:Th} {c:Cl} {done:Int} (k:iD c) (ho:0<=x.own/\x.id<2^64/\x.to<2^64):0<=(jI t x ah c done).th.own/\(jI t x ah c done).th.id<2^64/\(jI t x ah c done).th.to<2^64:=by
 unfold jI
 by_cases o0:(c.op=2\/c.op=3)/\names c.ak=false
 ·rw[if_pos o0]
  exact ho
 rw[if_neg o0]
 unfold xd
 by_cases o1:c.op=1
 ·rw[if_pos o1]
  show 0<=(mn t x).2.2.own/\(mn t x).2.2.id<2^64/\(mn t x).2.2.to<2^64
  unfold mn
  split
  ·exact ho
  split
  ·exact ho
  ·obtain⟨e1,e2,e3⟩:=YE (x:=x) (cs:=[1000+16*t+x.own.toNat+1])
   refine⟨by show 0<=x.own+1;omega,?_,?_⟩
   ·show(gq x _).2.id<_;rw[e2];exact ho.2.1
   ·show(gq x _).2.to<_;rw[e3];exact ho.2.2
 rw[if_neg o1]
 by_cases o2:c.op=2
 ·rw[if_pos o2]
  show 0<=(nI x c.ak).2.own/\(nI x c.ak).2.id<2^64/\(nI x c.ak).2.to<2^64
  unfold nI
  split<;>exact ho
 rw[if_neg o2]
 by_cases o3:c.op=3
 ·rw[if_pos o3]
  exact ho
 rw[if_neg o3]
 by_cases o4:c.op=4
 ·rw[if_pos o4]
  exact ho
 rw[if_neg o4]
 by_cases o5:c.op=5
 ·rw[if_pos o5]
  exact ho
 rw[if_neg o5]
 by_cases o6:c.op=6
 ·rw[if_pos o6]
  exact ho
 rw[if_neg o6]
 by_cases o7:c.op=7
 ·rw[if_pos o7]
  show 0<=(pt x ah c).2.own/\(pt x ah c).2.id<2^64/\(pt x ah c).2.to<2^64
  unfold pt
  split
  ·exact ho
  ·obtain⟨e1,e2,e3⟩:=YE (x:=x) (cs:=(bS ah x.ak c.id 3 (fD x.ak)).1.bu)
   rw[e1,e2,e3];exact ho
 rw[if_neg o7]
 by_cases o8:c.op=8
 ·rw[if_pos o8]
  exact ho
 rw[if_neg o8]
 by_cases o9:c.op=9
 ·rw[if_pos o9]
  show 0<=(ik x ah c).2.2.1.own/\(ik x ah c).2.2.1.id<2^64/\(ik x ah c).2.2.1.to<2^64
  unfold ik
  split
  ·exact ho
  split
  ·exact⟨ho.1,k.id,ho.2.2⟩
  ·exact ho
 rw[if_neg o9]
 by_cases lq:c.op=10
 ·rw[if_pos lq]
  show 0<=(gw x ah c done).2.2.1.own/\(gw x ah c done).2.2.1.id<2^64/\(gw x ah c done).2.2.1.to<2^64
  unfold gw
  split
  ·exact ho
  split
  ·exact ho
  split
  ·exact ho
  unfold Bq
  simp only
  split
  ·exact⟨ho.1,k.id,k.to⟩
  ·exact ho
 rw[if_neg lq]
 by_cases FT:c.op=11
 ·rw[if_pos FT]
  exact ho
 rw[if_neg FT]
 by_cases FR:c.op=12
 ·rw[if_pos FR]
  exact ho
 rw[if_neg FR]
 by_cases FQ:c.op=13
 ·rw[if_pos FQ]
  exact ho
 rw[if_neg FQ]
 exact ho
end
section
open Go
variable {P:Program} {h:aa} {a:KA} {lb N M:Nat} {ai:List Th} {ah:List Ob}
structure KL (h:aa) (a:KA) (lb N M:Nat) (ai:List Th) (ah:List Ob):Prop where
 k:KH h a lb N M ai ah (eC ah)
 inv:mu ai ah
theorem KL.old (K:KL h a lb N M ai ah) {h':aa} (o:Old h h'):KL h' a lb N M ai ah:=⟨K.k.old o,K.inv⟩
def rG (h:aa) (a:KA) (lb N M:Nat) (ai:List Th) (ah:List Ob) (h':aa):Prop:= ∃aT N' M',KL h' a aT N' M' ai ah/\KF h h' a lb/\(aT=lb\/h.next<=aT)/\N'<=N+2/\M'<=M+1
theorem MQ {t:Nat} {x:Th} {c:Cl} {done:Int} (I:mu ai ah) (k:iD c) (hx:0<=x.own/\x.id<2^64/\x.to<2^64): ∀y∈(nL t ai x ah c done).ai,0<=y.own/\y.id<2^64/\y.to<2^64:=by
 intro y hy
 rcases List.mem_or_eq_of_mem_set hy with hy|rfl
 ·exact I.own y hy
 ·exact amj k ⟨hx.1,(by decide:0<2^64),(by decide:0<2^64)⟩
theorem X4 {t:Nat} {x:Th} {c:Cl} {done:Int} (I:mu ai ah) (ks:KS ah):Tree (nL t ai x ah c done).ah:=ali ks I.root I.tree
theorem aoB {t:Int} {c:Cl} (I:mu ai ah) (ks:KS ah) (k:iD c) (tv:TV (ko t ai ah c).ai) (rt: ∃r,bK (ko t ai ah c).ah 1=some r):mu (ko t ai ah c).ai (ko t ai ah c).ah:=by
 refine⟨tv,rt,?_,?_⟩<;>clear tv rt<;>unfold ko
 ·split
  ·exact I.tree
  split
  ·exact I.tree
  split
  ·exact X4 I ks
  ·exact I.tree
 ·split
  ·exact I.own
  split
  ·exact I.own
  split
  ·rename_i x hx
   exact MQ I k (I.own x (List.mem_of_getElem? hx))
  ·exact I.own
theorem aev {x:Th} (hx:0<=x.own/\x.id<2^64/\x.to<2^64):iD {td with op:=9,id:=x.id}/\iD {td with op:=10,id:=x.id,to:=x.to,n:=x.n}:=⟨⟨CC,Nat.zero_le _,hx.2.1,(by decide:0<2^64),(by decide:0<2^20),(by decide:0<2^16),fun _ h=>by cases h⟩,⟨CC,Nat.zero_le _,hx.2.1,hx.2.2,(by decide:0<2^20),(by decide:0<2^16),fun _ h=>by cases h⟩⟩
theorem aoy {t:Int} (I:mu ai ah) (ks:KS ah) (tv:TV (jx t ai ah).ai) (rt: ∃r,bK (jx t ai ah).ah 1=some r):mu (jx t ai ah).ai (jx t ai ah).ah:=by
 refine⟨tv,rt,?_,?_⟩<;>clear tv rt<;>unfold jx
 ·split
  ·exact I.tree
  split
  ·split<;>exact X4 I ks
  ·exact I.tree
 ·split
  ·exact I.own
  split
  ·rename_i x hx
   have ho:=I.own x (List.mem_of_getElem? hx)
   split
   ·exact MQ I (aev ho).1 ho
   ·exact MQ I (aev ho).2 ho
  ·exact I.own
theorem KL.do (ok:ax P tb) (K:KL h a lb N M ai ah) {t:Int} {c:Cl} {tl:Nat->aH} (k:iD c) (gJ:c.op=3->dB c.ak=true/\jY c.bu=true) (hN:N+1<2^19) (hM:M<128) (f0:c.op=6->ah.length<=12):
 ∃h',an P 12 [.ptr a.kb 0, .int .i64 t, .agg (c.c tl)] h (ko t ai ah c).v h'/\rG h a lb N M (ko t ai ah c).ai (ko t ai ah c).ah h':=by
 obtain⟨h',hc,aT,N',M',K',kf,hl,WQ,WR,tv,rt⟩:=aml ok K.k K.inv (t:=t) (tl:=tl) k gJ hN hM f0
 exact⟨h',hc,aT,N',M',⟨K',aoB K.inv K.k.ks k tv rt⟩,kf,hl,WQ,WR⟩
theorem KL.go (ok:ax P tb) (K:KL h a lb N M ai ah) {t:Int} (hN:N+1<2^19) (hM:M<128):
 ∃h',an P 16 [.ptr a.kb 0, .int .i64 t] h (jx t ai ah).v h'/\rG h a lb N M (jx t ai ah).ai (jx t ai ah).ah h':=by
 obtain⟨h',hc,aT,N',M',K',kf,hl,WQ,WR,tv,rt⟩:=ami ok K.k K.inv (t:=t) hN hM
 exact⟨h',hc,aT,N',M',⟨K',aoy K.inv K.k.ks tv rt⟩,kf,hl,WQ,WR⟩
end
section
open Go
variable {P:Program} {h:aa} {a:KA} {lb N M:Nat} {ai:List Th} {ah:List Ob}
def aa5:Lb:=⟨2,[]⟩
theorem rG.from {Y h':aa} (o:Old h Y) (e:rG Y a lb N M ai ah h'):rG h a lb N M ai ah h':=by
 obtain⟨aT,N',M',K,kf,hl,hN,hM⟩:=e
 refine⟨aT,N',M',K,(KF.old (lb:=lb) o).trans kf (.inl rfl),?_,hN,hM⟩
 rcases hl with e|e
 ·exact .inl e
 ·exact .inr (Nat.le_trans o.next e)
theorem rG.to {h1 h':aa} (e:rG h a lb N M ai ah h1) (o:Old h1 h'):rG h a lb N M ai ah h':=by
 obtain⟨aT,N',M',K,kf,hl,hN,hM⟩:=e
 exact⟨aT,N',M',K.old o,kf.trans (KF.old (lb:=lb) o) (.inl rfl),hl,hN,hM⟩
theorem amg:aa5.ok:=⟨by decide,fun p hp=>(by cases hp),by decide⟩
theorem i0.vsr {h:aa} {rows:List (List AV)} {t:aH} {sz:Nat} (hs: ∀r∈rows,r.length=sz):i0 h (.vs rows t) sz rows where
 len:=rfl
 get i hi:=by
  have hlen:(rows[i]).length=sz:=hs _ (List.getElem_mem hi)
  refine⟨.vp rows[i] 0,?_,?_⟩
  ·simp only[iL]
   rw[if_pos (by omega),Int.toNat_natCast,List.getElem?_eq_getElem hi]
   simp[hlen]
  ·simp only[kL,cut,if_true]
   rw[if_pos (by omega),List.drop_zero,List.take_of_length_le (by omega)]
theorem mu.one {n:Nat} {q:Int} (hn:n<=4):mu (List.replicate n (qN aa5)) [Am.root q]:=by
 refine⟨⟨by simpa using hn,fun x hx=>?_⟩,⟨_,rfl⟩,fun o ho h1=>?_,fun x hx=>?_⟩
 ·rw[(List.mem_replicate.1 hx).2];exact⟨amg,by decide⟩
 ·rw[List.mem_singleton.1 ho] at h1;exact absurd rfl h1
 ·rw[(List.mem_replicate.1 hx).2];exact⟨by decide,by decide,by decide⟩
end
end Go.Proofs.YtmffhohcjifllaaGreat.Am
