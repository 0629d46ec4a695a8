/- What the functions do. Conditions: none. -/
import Derived.Test.YtljapedlkdfafaaGreatQa
set_option maxRecDepth 100000
set_option maxHeartbeats 8000000
set_option linter.unusedSimpArgs false
set_option linter.unusedVariables false
set_option linter.unnecessarySimpa false
namespace Go.Proofs.YtljapedlkdfafaaGreat.Am
section
open Go
variable {P:Program} {h:aa} {ab mb lb cr:Nat} {S:List Sl} {es:List (Nat×Nat)}
def ij (S:List Sl):Nat×List Sl:=match wW S with
 |some i=>(i,S)
 |none=>(S.length,S++[⟨none,0⟩])
theorem auK (ok:ax P tb) (A:eu h ab mb lb cr S es) (hs:S.length<2^19): ∃h',an P 54 [.ptr ab 0] h (.int .i64 (ij S).1) h'/\ ∃aR,eu h' ab mb aR cr (ij S).2 es/\h.next<=h'.next/\(aR=lb\/h.next<=aR)/\ ∀b,b<h.next->b≠ab->b≠lb->h'.get b=h.get b:=by
 refine ok.dT (rf:=vY) rfl (Nat.le_of_ble_eq_true rfl) ?_
 obtain⟨lv,t1,q1,q2,lO⟩:=A.lO
 have hc:=av t1
 simp+decide only[st,xv,vY,aeT,DC,hc]
 refine au (aoX ok (lO h rfl) (q:=fun s=>!s.r.isSome) (by omega) (ok.cj _ rfl) (fun p _=>asZ ok)) ?_
 rw[aky]
 unfold ij
 cases hq:wW S with
 |some i=>
  have hi: ¬((i:Int)<0):=by omega
  simp+decide only[st,xv,vY,DC,I6,I5,jO]
  exact⟨lb,A, .inl rfl⟩
 |none=>
  obtain⟨lv',iS,t2⟩:=A.top
  rw[t1] at iS
  injection iS with iS;injection iS with iS;injection iS with _ iS;injection iS with iS _
  subst iS
  have l1:=A.l1
  have l2:=A.l2
  have n1:=A.n1
  have tm:=A.map
  rcases t2 with⟨rfl,rfl⟩|⟨e0,rfl,e2,e3,e4,e5⟩
  ·have ha:fF 48 4 h.next h (.vs [] .full) (some [[.int .u64 0, .vs [] .full, .bool false, .int .i64 0]])=some (.rs h.next 0 1 4,h.at h.next (.cells [.int .u64 0, .vs [] .full, .bool false, .int .i64 0])):=rfl
   have q2: ¬(ab=h.next):=by omega
   simp+decide only[st,xv,vY,DC,I6,RH,RG,I5,jO,hc,ha,yC,xr,q2]
   refine⟨h.next,⟨⟨.rs h.next 0 1 4,by simp[aa.set,aa.at], .inr ⟨by simp,rfl,?_,?_,by omega,by omega⟩⟩,?_,?_,?_,n1,by simp⟩,?_, .inr (Nat.le_refl _),fun b hb h1 h2=>?_⟩
   all_goals (try simp only[aa.set,aa.at])
   ·rw[if_neg (by omega),if_pos trivial];rfl
   ·omega
   ·rw[if_neg (by omega),if_neg (by omega),tm]
   ·omega
   ·omega
   ·omega
   ·rw[if_neg h1,if_neg (by omega)]
  ·have hlen:(S.map Sl.enc).flatten.length=S.length*4:=by rw[ji pP,List.length_map]
   have a9:=av e2
   have ha:fF 48 4 h.next h (.rs lb 0 S.length 4) (some [[.int .u64 0, .vs [] .full, .bool false, .int .i64 0]])=some (.rs h.next 0 (S.length+1) 4,(h.set lb none).at h.next (.cells ((S++[(⟨none,0⟩:Sl)]).map Sl.enc).flatten)):=by
    simp only[fF,a9,Option.bind_some]
    rw[if_neg (by simp),if_pos (by refine⟨trivial,trivial,?_,?_,?_⟩<;>(try simp only[List.length_singleton])<;>omega),List.take_of_length_le (by omega)]
    simp only[List.map_append,List.flatten_append];rfl
   have q2: ¬(ab=h.next):=by omega
   have q3: ¬(ab=lb):=fun e=>e4 e.symm
   simp+decide only[st,xv,vY,DC,I6,RH,RG,I5,jO,hc,ha,yC,xr,q2,q3]
   refine⟨h.next,⟨⟨.rs h.next 0 (S.length+1) 4,by simp[aa.set,aa.at], .inr ⟨by simp,by simp,?_,?_,by omega,by omega⟩⟩,?_,?_,?_,n1,by simp;omega⟩,?_, .inr (Nat.le_refl _),fun b hb h1 h2=>?_⟩
   all_goals (try simp only[aa.set,aa.at])
   ·rw[if_neg (by omega),if_pos trivial]
   ·omega
   ·rw[if_neg (by omega),if_neg (by omega),if_neg (fun e=>e5 e.symm),tm]
   ·omega
   ·omega
   ·omega
   ·rw[if_neg h1,if_neg (by omega),if_neg h2]
theorem eu.old (A:eu h ab mb lb cr S es) {h':aa} (hn:h.next<=h'.next) (hk: ∀b,b<h.next->h'.get b=h.get b):eu h' ab mb lb cr S es:=by
 refine A.bN hn (hk _ A.l1) (hk _ A.l2) fun hS=>?_
 obtain⟨lv,t1,t2⟩:=A.top
 rcases t2 with⟨e,_⟩|⟨e0,rfl,e2,e3,e4,e5⟩
 ·exact absurd e hS
 ·exact hk _ e3
theorem eu.clean (A:eu h ab mb lb cr S es) {n:Nat}:eu (h.clean n) ab mb lb cr S es:=A.old (by simp[aa.clean]) fun b hb=>by simp only[aa.clean];rw[if_pos hb]
theorem eu.xu (A:eu h ab mb lb cr S es) (hS:S≠[]):h.get ab=some (.cells [.int .u8 cr, .rs lb 0 S.length 4, .map (some mb)])/\h.get lb=some (.cells (S.map Sl.enc).flatten)/\lb<h.next/\lb≠ab/\lb≠mb:=by
 obtain⟨lv,t1,t2⟩:=A.top
 rcases t2 with⟨e,_⟩|⟨e0,rfl,e2,e3,e4,e5⟩
 ·exact absurd e hS
 ·exact⟨t1,e2,e3,e4,e5⟩
theorem eu.agW (A:eu h ab mb lb cr S es) (hS:S≠[]) {T:List Sl} (hT:T.length=S.length):eu (h.set lb (some (.cells (T.map Sl.enc).flatten))) ab mb lb cr T es:=by
 obtain⟨t1,e2,e3,e4,e5⟩:=A.xu hS
 have hT0:T≠[]:=fun e=>hS (List.length_eq_zero_iff.1 (by rw[<-hT,e];rfl))
 refine⟨⟨_,by simp only[aa.set];rw[if_neg (fun e=>e4 e.symm),t1], .inr ⟨hT0,by rw[hT],by simp[aa.set],e3,e4,e5⟩⟩,by simp only[aa.set];rw[if_neg (fun e=>e5 e.symm),A.map],A.l1,A.l2,A.n1,by rw[hT];exact A.small⟩
theorem eu.agX (A:eu h ab mb lb cr S es) {aV:List (Nat×Nat)}:eu (h.set mb (some (.map (kJ aV)))) ab mb lb cr S aV:=by
 obtain⟨lv,t1,t2⟩:=A.top
 refine⟨⟨lv,by simp only[aa.set];rw[if_neg A.n1,t1],?_⟩,by simp[aa.set],A.l1,A.l2,A.n1,A.small⟩
 rcases t2 with t2|⟨e0,e1,e2,e3,e4,e5⟩
 ·exact .inl t2
 ·exact .inr ⟨e0,e1,by simp only[aa.set];rw[if_neg e5,e2],e3,e4,e5⟩
def jg (h h':aa) (ab mb lb:Nat):Prop:=h.next<=h'.next/\ ∀b,b<h.next->b≠ab->b≠mb->b≠lb->h'.get b=h.get b
theorem auJ (ok:ax P tb) (A:eu h ab mb lb cr S es) {ρ:Env} {id i:Nat} {rec:List UInt8} {t:aH} {K:aP->Env->aa->Prop} (hr:rec.length<2^30) (hi:i<S.length) (r0:ρ 0= .ptr ab 0) (r1:ρ 1= .int .u64 id) (r2:ρ 2= .vs (BS rec) t) (r7:ρ 7= .int .i64 i)
 (hK: ∀ρ' h',ρ' 6= .int .i64 0->eu h' ab mb lb cr (S.set i ⟨some (id,rec),IntKind.wrap .i64 (S[i].bQ+1)⟩) es->jg h h' ab mb lb->K .ret ρ' h'):
 WP P (.aY Jb [[],[],[],[],[],[],[],[3],[],[],[],[7],[],[],[],[7],[],[],[],[]]) (jl (WP P (.seq (.af Hb) .ret) K) K) ρ h:=by
 have hS:S≠[]:=fun e=>by rw[e] at hi;simp at hi
 obtain⟨t1,e2,e3,e4,e5⟩:=A.xu hS
 have l1:=A.l1
 have c1:=av t1
 have c2:=av e2
 have aA:(i:Int)<(S.length:Int):=by omega
 have rows:(S.map Sl.enc)[i]? =some S[i].enc:=by rw[List.getElem?_map,List.getElem?_eq_getElem hi];rfl
 have g3:=uv (sz:=4) (j:=3) pP rows (by omega)
 rw[Sl.trn] at g3
 have hlen:(S.map Sl.enc).flatten.length=S.length*4:=by rw[ji pP,List.length_map]
 have hle:i*4+4<=S.length*4:=by omega
 have lK:=Gw (sz:=4) (S.map Sl.enc) pP i (Sl.enc ⟨some (id,rec),IntKind.wrap .i64 (S[i].bQ+1)⟩) (by simpa using hi) rfl
 rw[<-List.map_set] at lK
 refine qT 16 20 rfl (by omega) rfl ?_
 simp+decide only[st,xv,pG,Jb,r0,r1,r2,r7,c1,l1]
 refine hP (zd ok rfl (l:=rec) (t:=t) (by omega)) (cO (Nat.le_refl _)) ?_
 simp+decide only[st,xv,r0,r1,r2,r7,c1,c2,l1,e3,aA,g3]
 rw[show List.take (i*4) (List.map Sl.enc S).flatten++[AV.int IntKind.u64 ↑id,AV.vs (BS rec) aH.ao,AV.bool true,AV.int IntKind.i64 (IntKind.i64.wrap (S[i].bQ+1))]++List.drop (i*4+(1+1+1+1)) (List.map Sl.enc S).flatten=_ from lK.symm]
 simp+decide only[st,xv,pG,Hb,hlen,hle]
 refine⟨fun j hj hn=>?_,hK _ _ rfl (A.clean.agW hS (by simp)) ⟨by simp[aa.set,aa.clean],fun b hb h1 h2 h3=>?_⟩⟩
 ·simp only[aa.set,aa.clean]
  rw[if_neg (by omega)]
  exact if_neg (by omega)
 ·simp only[aa.set,aa.clean]
  rw[if_neg h3]
  exact if_pos hb
theorem jg.refl {h:aa} {ab mb lb:Nat}:jg h h ab mb lb:=⟨Nat.le_refl _,fun _ _ _ _ _=>rfl⟩
theorem jg.trans {h h1 h2:aa} {ab mb lb aR:Nat} (a:jg h h1 ab mb lb) (b:jg h1 h2 ab mb aR) (hl:aR=lb\/h.next<=aR):jg h h2 ab mb lb:=⟨Nat.le_trans a.1 b.1,fun x h1 h2 h3 h4=>by
 have:=a.1
 rw[b.2 x (by omega) h2 h3 (by rcases hl with rfl|hl<;>omega),a.2 x h1 h2 h3 h4]⟩
theorem jg.clean {h:aa} {ab mb lb n:Nat}:jg h (h.clean n) ab mb lb:=⟨by simp[aa.clean],fun b hb _ _ _=>by simp only[aa.clean];exact if_pos hb⟩
theorem BR:(ij S).1<(ij S).2.length/\(ij S).2.length<=S.length+1:=by
 unfold ij
 cases hq:wW S with
 |none=>simp
 |some i=>exact⟨(List.findIdx?_eq_some_iff_getElem.1 hq).1,by simp⟩
def Ab (n:Int):Int:=IntKind.wrap .i64 (n+1)
def lH (S:List Sl) (es:List (Nat×Nat)) (id:Nat) (rec:List UInt8):List Sl×List (Nat×Nat):=match cp es id with
 |some i=>(S.set i ⟨some (id,rec),Ab (S.getD i ⟨none,0⟩).bQ⟩,es)
 |none=>((ij S).2.set (ij S).1 ⟨some (id,rec),Ab ((ij S).2.getD (ij S).1 ⟨none,0⟩).bQ⟩,es++[(id,(ij S).1)])
theorem awS (ok:ax P tb) (A:eu h ab mb lb cr S es) {id:Nat} {x:UInt8} {rec:List UInt8} {t:aH} (hv:x.toNat=cr) (hr:rec.length<2^20) (hs:S.length<2^19) (hk: ∀i,cp es id=some i->i<S.length):
 ∃h',an P 35 [.ptr ab 0, .int .u64 id, .vs (BS (x::rec)) t] h (.int .i64 0) h'/\ ∃aR,eu h' ab mb aR cr (lH S es id (x::rec)).1 (lH S es id (x::rec)).2/\(aR=lb\/h.next<=aR)/\jg h h' ab mb lb:=by
 refine ok.dT (rf:=pG) rfl (Nat.le_of_ble_eq_true rfl) ?_
 obtain⟨lv,t1,_⟩:=A.top
 have l1:=A.l1
 have hc:=av t1
 have b0:(BS (x::rec))=[.int .u8 x.toNat]::BS rec:=rfl
 have hvv:((x.toNat:Int)=(cr:Int))=True:=by rw[hv];simp
 simp+decide only[st,xv,pG,afB]
 refine bU 17 rfl rfl ?_
 simp+decide only[st,xv,pG,afA,hc,l1,b0,hvv,xr]
 have A1:=A.clean (n:=17)
 have k1:= @jg.clean h ab mb lb 17
 have bj:cellsOf (h.clean 17) ab=_:=av (by rw[show(h.clean 17).get ab=h.get ab by simp only[aa.clean];exact if_pos l1];exact t1)
 have ej:=GL A1.map (id:=id) (b:=true)
 generalize hX:h.clean 17=X at*
 have hXn:h.next<=X.next:=by rw[<-hX];simp[aa.clean]
 have fin: ∀{aR:Nat} {S1:List Sl} {Vw:List (Nat×Nat)} {H:aa} {ρ:Env} {i:Nat},eu H ab mb aR cr S1 Vw->(aR=lb\/h.next<=aR)->jg h H ab mb lb->(hi:i<S1.length)->ρ 0= .ptr ab 0->ρ 1= .int .u64 id->ρ 2= .vs ([.int .u8 x.toNat]::BS rec) t->ρ 7= .int .i64 i->
  lH S es id (x::rec)=(S1.set i ⟨some (id,x::rec),IntKind.wrap .i64 (S1[i].bQ+1)⟩,Vw)->WP P (.aY Jb [[],[],[],[],[],[],[],[3],[],[],[],[7],[],[],[],[7],[],[],[],[]]) (jl (WP P (.seq (.af Hb) .ret) (uO [.tmp 6] (.int .i64 0) fun h'=> ∃aR,eu h' ab mb aR cr (lH S es id (x::rec)).1 (lH S es id (x::rec)).2/\(aR=lb\/h.next<=aR)/\jg h h' ab mb lb)) (uO [.tmp 6] (.int .i64 0) fun h'=> ∃aR,eu h' ab mb aR cr (lH S es id (x::rec)).1 (lH S es id (x::rec)).2/\(aR=lb\/h.next<=aR)/\jg h h' ab mb lb)) ρ H:=by
  intro aR S1 Vw H ρ i B1 lU hK hi r0 r1 r2 r7 hs
  refine auJ ok B1 (rec:=x::rec) (t:=t) (by simp;omega) hi r0 r1 r2 r7 fun ρ' h' r6 B2 k2=>?_
  rw[hs]
  exact⟨by simp[dD,y4,r6,eO],aR,B2,lU,hK.trans k2 lU⟩
 simp+decide only[st,xv,pG,Jc,bj,ej]
 cases hn:cp es id with
 |some i=>
  have hi:=hk i hn
  simp+decide only[st,xv,pG,Jc,R8]
  refine fin A1 (.inl rfl) k1 hi rfl rfl rfl rfl ?_
  unfold lH
  rw[hn]
  simp only[Ab,List.getD_eq_getElem?_getD,List.getElem?_eq_getElem hi,Option.getD_some]
 |none=>
  obtain⟨H1,a9,aR,A2,vJ,eV,sk⟩:=auK ok A1 hs
  simp+decide only[st,xv,pG,Jc,R8,R7]
  refine au a9 ?_
  obtain⟨lv2,t2,_⟩:=A2.top
  have c2:=av t2
  have mJ:mapOf H1 mb=some (kJ es):=by simp[mapOf,A2.map]
  have iT:=alx (id:=id) (i:=(ij S).1) hn
  simp+decide only[st,xv,pG,R7,afz,afy,c2,mJ,AV.strip,iT]
  refine fin (A2.agX (aV:=es++[(id,(ij S).1)])) (by rcases eV with h|h<;>omega) (k1.trans ⟨?_,fun b hb h1 h2 h3=>?_⟩ (.inl rfl)) BR.1 rfl rfl rfl rfl ?_
  ·exact vJ
  ·simp only[aa.set]
   rw[if_neg h2]
   exact sk b hb h1 h3
  ·unfold lH
   rw[hn]
   simp only[Ab,List.getD_eq_getElem?_getD,List.getElem?_eq_getElem BR.1,Option.getD_some]
end
section
open Go
variable {P:Program} {h:aa}
theorem aiC (ok:ax P tb) {a:Nat}:an P 154 [.int .u64 a] h (.bool false) h:=by
 refine ok.keeps (rf:=EB) rfl (Nat.le_of_ble_eq_true rfl) rfl ?_
 simp+decide only[st,xv,EB,aa5,aa4]
theorem ajj (ok:ax P tb) {a b:Nat}:an P 117 [.int .u64 a, .int .u64 b] h (.bool (decide (a<b))) h:=by
 refine ok.keeps (rf:=At) rfl (Nat.le_of_ble_eq_true rfl) rfl ?_
 simp+decide only[st,xv,At,Pb,Pa]
 refine au (aiC ok) ?_
 simp+decide only[st,xv,At,Pb,Pa]
 first|done|rfl|skip
theorem YR {α:Type} {l m:List α} {v w:α} {n:Nat} (h:l.length=n):List.take n (l++v::m)++[w]++List.drop (n+1) (l++v::m)=l++w::m:=by
 rw[ou h,<-List.drop_drop,sN h];simp
theorem X4 {l m:List Nat} {x:Nat}:List.map (fun(n:Nat)=>AV.int .u64 n) (l++x::m)=List.map (fun(n:Nat)=>AV.int .u64 n) l++ .int .u64 x::List.map (fun(n:Nat)=>AV.int .u64 n) m:=by simp
def eT (l:List Nat):List AV:=l.map fun(n:Nat)=> .int .u64 n
theorem Bv {l:List Nat}:(eT l).length=l.length:=by simp[eT]
theorem YK {l m:List Nat} {x:Nat}:(eT (l++x::m))[l.length]? =some (.int .u64 x):=by simp[eT]
structure yA (L0:List Nat) (A:List Nat) (x:Nat) (B C:List Nat):Prop where
 perm:(A++x::(B++C)).Perm L0
 cF:(A++B).Pairwise (· <= ·)
 lt: ∀b∈B,x<=b
theorem yA.step {L0 A B C:List Nat} {x y:Nat} (I:yA L0 (A++[y]) x B C) (vE:x<y):yA L0 A x (y::B) C where
 perm:=by
  refine List.Perm.trans ?_ I.perm
  simp only[List.append_assoc,List.singleton_append,List.cons_append]
  exact List.Perm.append_left _ (List.Perm.swap ..)
 cF:=by simpa using I.cF
 lt b hb:=by
  rcases List.mem_cons.1 hb with rfl|hb
  ·omega
  ·exact I.lt b hb
theorem yA.fin {L0 A B C:List Nat} {x:Nat} (I:yA L0 A x B C) (h: ∀y,A.getLast?=some y->y<=x):(A++x::B).Pairwise (· <= ·):=by
 rw[List.pairwise_append]
 have hs:=List.pairwise_append.1 I.cF
 refine⟨hs.1,List.pairwise_cons.2 ⟨fun b hb=>I.lt b hb,hs.2.1⟩,fun a ha b hb=>?_⟩
 have Vh:a<=x:=by
  rcases List.eq_nil_or_concat A with rfl|⟨A',y,rfl⟩
  ·cases ha
  ·simp only[List.concat_eq_append] at*
   have hy:=h y (by simp)
   rcases List.mem_append.1 ha with ha|ha
   ·have:=(List.pairwise_append.1 hs.1).2.2 a ha y (by simp)
    omega
   ·have:a=y:=by simpa using ha
    omega
 rcases List.mem_cons.1 hb with rfl|hb
 ·exact Vh
 ·have:=I.lt b hb;omega
theorem asI (ok:ax P tb) {b:Nat} {L:List Nat} (hb:b<h.next) (hc:cellsOf h b=some (eT L)) (hl:L.length<2^20):
 ∃h',an P 111 [.rs b 0 L.length 1, .int .i64 0, .int .i64 L.length] h (.ay []) h'/\ ∃M,M.Perm L/\M.Pairwise (· <= ·)/\fC b h h' (eT M):=by
 refine ok.dT (rf:=oU) rfl (Nat.le_of_ble_eq_true rfl) ?_
 simp+decide only[st,xv,oU,HG,xr]
 let I:Nat->Env->aa->Prop:=fun n ρ H=> ∃i M,L.length+1-i=n/\1<=i/\M.Perm L/\(M.take i).Pairwise (· <= ·)/\fC b h H (eT M)/\ρ 0= .rs b 0 L.length 1/\ρ 1= .int .i64 0/\ρ 2= .int .i64 L.length/\ρ 6= .int .i64 i
 have h1:(L.take 1).Pairwise (· <= ·):=by
  cases L with
  |nil=>simp
  |cons a l=>simp
 refine dJ I ?_ L.length ⟨1,L,by omega,by omega,List.Perm.refl _,h1,⟨hc,Nat.le_refl _,fun _ _ _=>rfl⟩,rfl,rfl,rfl,rfl⟩
 rintro n ρ H ⟨i,M,hn,Kl,hp,hs,ha,r0,r1,r2,r6⟩
 have hML:=hp.length_eq
 by_cases hi:i<L.length
 ·have aA:(i:Int)<(L.length:Int):=by omega
  simp+decide only[st,xv,oU,CJ,HF,r0,r1,r2,r6,aA]
  have hw:=dv (show i<2^61 by omega)
  let J:Nat->Env->aa->Prop:=fun j ρ H=> ∃A x B C,A.length=j/\j+B.length=i/\yA L A x B C/\fC b h H (eT (A++x::(B++C)))/\ρ 0= .rs b 0 L.length 1/\ρ 1= .int .i64 0/\ρ 2= .int .i64 L.length/\ρ 6= .int .i64 i/\ρ 7= .int .i64 j
  have hMi:M.take i++M[i]::([]++M.drop (i+1))=M:=by
   rw[List.nil_append,<-List.drop_eq_getElem_cons (by omega),List.take_append_drop]
  have Kx:J i (put (put (put (put (put ρ (some 10) (ρ 6)) (some 11) (ρ 2)) (some 12) (.bool true)) (some 15) (ρ 6)) (some 7) (ρ 6)) H:=⟨M.take i,M[i],[],M.drop (i+1),by simp;omega,by simp,⟨by rw[hMi];exact hp,by simpa using hs,by simp⟩,by rw[hMi];exact ha,r0,r1,r2,r6,r6⟩
  rw[r6,r2] at Kx
  refine dJ J ?_ i Kx
  rintro j ρ H ⟨A,x,B,C,hA,hAB,hI,ha,r0,r1,r2,r6,r7⟩
  have hc:=ha.cell
  have hlen:=hI.perm.length_eq
  simp only[List.length_append,List.length_cons] at hlen
  have hn9:b<H.next:=by have:=ha.next;omega
  have TE:=ha.clean (n:=15) hb
  have fin:(A++x::B).Pairwise (· <= ·)-> ∀{ρ':Env},ρ' 0= .rs b 0 L.length 1->ρ' 1= .int .i64 0->ρ' 2= .int .i64 L.length->ρ' 6= .int .i64 ((i+1:Nat):Int)-> ∃m,m<n/\I m ρ' (H.clean 15):=by
   intro hpw ρ' q0 q1 q2 q6
   refine⟨L.length+1-(i+1),by omega,i+1,A++x::(B++C),rfl,by omega,hI.perm,?_,TE,q0,q1,q2,q6⟩
   have:(A++x::(B++C)).take (i+1)=A++x::B:=by
    rw[show A++x::(B++C)=(A++x::B)++C by simp,ou (by simp;omega)]
   rw[this];exact hpw
  simp+decide only[st,xv]
  refine bU 15 rfl rfl ?_
  rcases List.eq_nil_or_concat A with rfl|⟨A',y,rfl⟩
  ·have:j=0:=by simpa using hA.symm
   subst this
   simp+decide only[st,xv,oU,Pe,CI,r0,r1,r2,r6,r7,hw]
   exact fin (hI.fin (by simp)) r0 r1 r2 rfl
  ·have vM:j=A'.length+1:=by simpa using hA.symm
   have hjp:(0:Int)<(j:Int):=by omega
   have dP:(j:Int)<(L.length:Int):=by omega
   have qp:IntKind.wrap .i64 ((j:Int)-1)=(A'.length:Int):=by rw[bH]<;>omega
   have Vi:(A'.length:Int)<(L.length:Int):=by omega
   have g1:(eT ((A'.concat y)++x::(B++C)))[j]? =some (.int .u64 x):=by rw[<-hA];exact YK
   have g2:(eT ((A'.concat y)++x::(B++C)))[A'.length]? =some (.int .u64 y):=by rw[List.concat_append];exact YK
   simp+decide only[st,xv,oU,Pe,r0,r1,r2,r6,r7,qp,hjp,dP,Vi,hc,hn9,g1,g2,Nat.mul_one]
   refine fj (ajj ok) (fun k h1 h2=>by simp only[aa.clean];exact if_neg (by omega)) ?_
   by_cases vE:x<y
   ·have avW:=TE.cell
    have g0:(A'.concat y)++x::(B++C)=(A'++[y])++x::(B++C):=by simp
    have g5:List.take j (eT ((A'.concat y)++x::(B++C)))++[.int .u64 y]++List.drop (j+1) (eT ((A'.concat y)++x::(B++C)))=eT (A'++y::(y::(B++C))):=by
     rw[g0];unfold eT;rw[X4,YR (by simp[vM])];simp
    have g6:List.take A'.length (eT (A'++y::(y::(B++C))))++[.int .u64 x]++List.drop (A'.length+1) (eT (A'++y::(y::(B++C))))=eT (A'++x::(y::(B++C))):=by unfold eT;rw[X4,YR (by simp)];simp
    have g7:j+1<=(eT ((A'.concat y)++x::(B++C))).length:=by rw[Bv];simp;omega
    have g8:A'.length+1<=(eT (A'++y::(y::(B++C)))).length:=by rw[Bv];simp
    have TC:b<H.next+15:=by omega
    simp+decide only[st,xv,oU,HG,CJ,HF,Pd,Pc,CI,vE]
    refine bU 18 rfl rfl ?_
    simp+decide only[st,xv,oU,HG,CJ,HF,Pd,Pc,CI,r0,r1,r2,r6,r7,qp,hjp,dP,Vi,avW,TC,g1,g2,g5,g6,g7,g8,Nat.mul_one]
    have fr:=fun i=>(jw (n:=18) (i:=i) (h:=(H.clean 15).clean 18) (x:=some (.cells (eT (A'++y::y::(B++C))))) TC).2 (cO (h:=H.clean 15) (by simp[aa.clean]))
    refine⟨fr _,(jw TC).2 (fr _),A'.length,by omega,A',x,y::B,C,rfl,by simp;omega,yA.step (by simpa using hI) vE,((TE.clean hb).trans fC.set).trans fC.set,r0,r1,r2,r6,rfl⟩
   ·simp+decide only[st,xv,oU,CI,vE,r6,hw]
    exact fin (hI.fin (by simp;omega)) r0 r1 r2 rfl
 ·have aA: ¬(i:Int)<(L.length:Int):=by omega
  simp+decide only[st,xv,oU,CJ,r6,r2,aA]
  refine⟨rfl,M,hp,?_,ha⟩
  rwa [List.take_of_length_le (by omega)] at hs
def awi (tb:fq) (fuel f:Nat) (k k':IntKind) (n:Nat):Bool:=(List.range n).all fun x=>match uC tb (runK tb fuel) f [.int k x] ⟨.leaf,0⟩ (fun v _=>some v) with
 |some (.int k2 _)=>k2==k'
 |_=>false
theorem amZ {T:fq} (ok:ax P T) {fuel f:Nat} {k k':IntKind} {n:Nat} (hc:awi T fuel f k k' n=true) {x:Nat} (hx:x<n) (h:aa): ∃y,an P f [.int k x] h (.int k' y) h:=by
 have h1:=List.all_eq_true.1 hc x (List.mem_range.2 hx)
 split at h1
 ·rename_i k2 y hv
  have:k2=k':=by simpa using h1
  subst this
  exact⟨y,WG ok hv rfl rfl h⟩
 ·cases h1
theorem ai3 (ok:ax P tb) {b:Nat} {L:List Nat} (hb:b<h.next) (hc:cellsOf h b=some (eT L)) (hl:L.length<=12):
 ∃h',an P 44 [.rs b 0 L.length 1] h (.ay []) h'/\ ∃M,M.Perm L/\M.Pairwise (· <= ·)/\fC b h h' (eT M):=by
 refine ok.dT (rf:=yt) rfl (Nat.le_of_ble_eq_true rfl) ?_
 have hw:IntKind.wrap .u64 (L.length:Int)=L.length:=fk (by omega)
 obtain⟨y,hy⟩:=amZ ok (fuel:=200) (f:=74) (k:= .u64) (k':= .i64) (n:=13) (by decide+kernel) (show L.length<13 by omega) h
 have hp: ∃h',an P 73 [.rs b 0 L.length 1, .int .i64 0, .int .i64 L.length, .int .i64 y] h (.ay []) h'/\ ∃M,M.Perm L/\M.Pairwise (· <= ·)/\fC b h h' (eT M):=by
  refine ok.dT (rf:=yr) rfl (Nat.le_of_ble_eq_true rfl) ?_
  have w1:IntKind.wrap .i64 ((L.length:Int)-0)=L.length:=by rw[bH]<;>omega
  have ez:(L.length:Int)<=12:=by omega
  obtain⟨h',c1,hM⟩:=asI ok hb hc (by omega)
  simp+decide only[st,xv,yr,adZ,adY]
  refine yJ ?_
  simp+decide only[st,xv,yr,adX,adW,QI,w1,ez]
  refine au c1 ?_
  simp+decide only[st,xv,yr,QI]
  exact⟨rfl,hM⟩
 obtain⟨h',c1,hM⟩:=hp
 simp+decide only[st,xv,yt,afe,I8,hw]
 refine au hy ?_
 simp+decide only[st,xv,yt,I8]
 refine au c1 ?_
 simp+decide only[st,xv,yt,I8]
 exact⟨rfl,hM⟩
end
section
open Go
variable {P:Program} {h:aa} {ab mb lb cr:Nat} {S:List Sl} {es:List (Nat×Nat)}
theorem awT (ok:ax P tb) {v:Nat}: ∃h',an P 33 [.int .u8 v] h (.ptr (h.next+1) 0) h'/\eu h' (h.next+1) h.next (h.next+2) v [] []/\h'.next=h.next+2/\Old h h':=by
 refine ok.dT (rf:=FI) rfl (Nat.le_of_ble_eq_true rfl) ?_
 simp+decide only[st,xv,FI,afH,afG]
 refine⟨rfl,⟨⟨_,by simp only[aa.at,if_true], .inl ⟨rfl,rfl⟩⟩,by simp[aa.at,kJ],by simp[aa.at],by simp[aa.at];omega,by omega,by simp⟩,by simp[aa.at],((Old.refl h).at (Nat.le_refl _)).at (by omega)⟩
def sX (S:List Sl) (es:List (Nat×Nat)) (id:Nat):List Sl×List (Nat×Nat):=match cp es id,nq es id with
 |some i,some j=>(S.set i ⟨none,(S.getD i ⟨none,0⟩).bQ⟩,es.eraseIdx j)
 |_,_=>(S,es)
theorem auL (ok:ax P tb) (A:eu h ab mb lb cr S es) {id:Nat} (hk: ∀i,cp es id=some i->i<S.length):
 ∃e h',an P 145 [.ptr ab 0, .int .u64 id] h (.int .i64 e) h'/\eu h' ab mb lb cr (sX S es id).1 (sX S es id).2/\jg h h' ab mb lb:=by
 have ej:=GL A.map (id:=id) (b:=true)
 cases hn:cp es id with
 |none=>
  refine⟨7,ok.dT (rf:=qg) rfl (Nat.le_of_ble_eq_true rfl) ?_⟩
  simp+decide only[st,xv,qg,OA,Cu]
  refine au (S9 ok A) ?_
  rw[hn]
  simp+decide only[st,xv,qg,Cu,Oz,Oy,V4]
  refine⟨rfl,?_, .refl⟩
  unfold sX
  rw[hn];exact A
 |some i=>
  refine⟨0,ok.dT (rf:=qg) rfl (Nat.le_of_ble_eq_true rfl) ?_⟩
  have hi:=hk i hn
  have hS:S≠[]:=fun e=>by rw[e] at hi;simp at hi
  obtain⟨t1,e2,e3,e4,e5⟩:=A.xu hS
  have l1:=A.l1
  have l2:=A.l2
  have c1:=av t1
  have c2:=av e2
  have aA:(i:Int)<(S.length:Int):=by omega
  have rows:(S.map Sl.enc)[i]? =some S[i].enc:=by rw[List.getElem?_map,List.getElem?_eq_getElem hi];rfl
  have g3:=uv (sz:=4) (j:=3) pP rows (by omega)
  rw[Sl.trn] at g3
  have hlen:(S.map Sl.enc).flatten.length=S.length*4:=by rw[ji pP,List.length_map]
  have hle:i*4+4<=S.length*4:=by omega
  have lK:=Gw (sz:=4) (S.map Sl.enc) pP i (Sl.enc ⟨none,S[i].bQ⟩) (by simpa using hi) rfl
  rw[<-List.map_set] at lK
  obtain⟨j,hj⟩: ∃j,nq es id=some j:=by
   rw[Gg] at hn
   cases hq:nq es id with
   |none=>rw[hq] at hn;cases hn
   |some j=>exact⟨j,rfl⟩
  have hmd:=aly hj
  have mJ:mapOf h mb=some (kJ es):=by simp[mapOf,A.map]
  simp+decide only[st,xv,qg,OA,Cu]
  refine au (S9 ok A) ?_
  rw[hn]
  simp+decide only[st,xv,qg,Cu,Oz]
  refine bU 16 rfl rfl ?_
  simp+decide only[st,xv,qg,abd,c1,c2,l1,e3,aA,g3]
  rw[show List.take (i*4) (List.map Sl.enc S).flatten++[AV.int IntKind.u64 0,AV.vs [] .full,AV.bool false,AV.int IntKind.i64 S[i].bQ]++List.drop (i*4+(1+1+1+1)) (List.map Sl.enc S).flatten=_ from lK.symm]
  have nb: ¬ab=lb:=fun e=>e4 e.symm
  have nm: ¬mb=lb:=fun e=>e5 e.symm
  simp+decide only[st,xv,qg,abc,Oy,hlen,hle,c1,l1,nb,nm,mJ,l2,hmd,V4]
  have US:sX S es id=(S.set i ⟨none,S[i].bQ⟩,es.eraseIdx j):=by
   unfold sX
   rw[hn,hj]
   simp only[List.getD_eq_getElem?_getD,List.getElem?_eq_getElem hi,Option.getD_some]
  refine⟨(jw e3).2 (cO (Nat.le_refl _)),rfl,?_,?_,fun b hb h1 h2 h3=>?_⟩
  ·rw[US];exact(A.clean.agW hS (by simp)).agX
  ·simp[aa.set,aa.clean]
  ·simp only[aa.set,aa.clean]
   rw[if_neg h2,if_neg h3]
   exact if_pos hb
def gh (S:List Sl):List Nat:=S.filterMap fun s=>s.r.map (·.1)
theorem ald {S:List Sl}:(gh S).length<=S.length:=List.length_filterMap_le _ _
def yB (h H:aa) (v:AV) (l:List Nat):Prop:=(l=[]/\v= .vs [] .full)\/ ∃b,l≠[]/\v= .rs b 0 l.length 1/\cellsOf H b=some (eT l)/\h.next<=b/\b<H.next
theorem yB.app {h H:aa} {v:AV} {l:List Nat} (g:yB h H v l) (ho:h.next<=H.next) (x:Nat) (hl:l.length<2^20): ∃v' H',fF 8 1 H.next H v (some [[.int .u64 x]])=some (v',H')/\yB h H' v' (l++[x])/\H.next<=H'.next/\ ∀b,b<h.next->H'.get b=H.get b:=by
 rcases g with⟨rfl,rfl⟩|⟨b,h0,rfl,hc,h1,h2⟩
 ·refine⟨_,_,by simp only[fF,List.length_singleton,List.cons_ne_nil,if_false];rfl, .inr ⟨H.next,by simp,rfl,av (by simp[aa.at,eT]),ho,by simp[aa.at]⟩,by simp[aa.at],fun b hb=>by simp only[aa.at];rw[if_neg (by omega)]⟩
 ·have hlen:=Bv (l:=l)
  refine⟨.rs H.next 0 (l.length+1) 1,(H.set b none).at H.next (.cells (eT (l++[x]))),?_, .inr ⟨H.next,by simp,by simp,av (by simp[aa.at]),ho,by simp[aa.at];omega⟩,by simp[aa.at,aa.set],fun c hb=>by simp only[aa.at,aa.set];rw[if_neg (by omega),if_neg (by omega)]⟩
  simp only[fF,hc,Option.bind_some,List.length_singleton,List.cons_ne_nil,if_false]
  rw[if_pos (by refine⟨trivial,trivial,?_,?_,?_⟩<;>omega),List.take_of_length_le (by omega)]
  simp[eT]
theorem yB.to {h H X:aa} {v:AV} {l:List Nat} (g:yB h H v l) (o:Old H X):yB h X v l:=by
 rcases g with g|⟨b,h0,h1,hc,h2,h3⟩
 ·exact .inl g
 ·refine .inr ⟨b,h0,h1,?_,h2,Nat.lt_of_lt_of_le h3 o.next⟩
  unfold cellsOf at hc ⊢
  rw[o.get b h3];exact hc
def xz (x:Nat):List Nat->List Nat
 |[]=>[x]
 |y::l=>if x<=y then x::y::l else y::xz x l
def lA:List Nat->List Nat
 |[]=>[]
 |x::l=>xz x (lA l)
theorem Lz {x:Nat}: ∀{l:List Nat},(xz x l).Perm (x::l)
 |[]=> .refl _
 |y::l=>by
  unfold xz
  split
  ·exact .refl _
  ·exact(Lz.cons y).trans (.swap ..)
theorem uf: ∀{l:List Nat},(lA l).Perm l
 |[]=> .refl _
 |x::l=>Lz.trans (uf.cons x)
theorem Yg {x:Nat}: ∀{l:List Nat},l.Pairwise (· <= ·)->(xz x l).Pairwise (· <= ·)
 |[],_=>by simp[xz]
 |y::l,h=>by
  have h':=List.pairwise_cons.1 h
  unfold xz
  split
  ·refine List.pairwise_cons.2 ⟨fun z hz=>?_,h⟩
   rcases List.mem_cons.1 hz with rfl|hz
   ·assumption
   ·have:=h'.1 z hz;omega
  ·refine List.pairwise_cons.2 ⟨fun z hz=>?_,Yg h'.2⟩
   rcases List.mem_cons.1 (Lz.mem_iff.1 hz) with rfl|hz
   ·omega
   ·exact h'.1 z hz
theorem Ly: ∀{l:List Nat},(lA l).Pairwise (· <= ·)
 |[]=>by simp[lA]
 |x::l=>Yg Ly
theorem LO: ∀{l m:List Nat},l.Pairwise (· <= ·)->m.Pairwise (· <= ·)->l.Perm m->l=m
 |[],m,_,_,hp=>(List.Perm.nil_eq hp)
 |x::l,[],_,_,hp=>absurd hp.length_eq (by simp)
 |x::l,y::m,hl,hm,hp=>by
  have h1:=List.pairwise_cons.1 hl
  have h2:=List.pairwise_cons.1 hm
  have vE:x=y:=by
   have hx:x∈y::m:=hp.mem_iff.1 (by simp)
   have hy:y∈x::l:=hp.mem_iff.2 (by simp)
   rcases List.mem_cons.1 hx with e|hx
   ·exact e
   rcases List.mem_cons.1 hy with e|hy
   ·exact e.symm
   have:=h1.1 y hy
   have:=h2.1 x hx
   omega
  subst vE
  rw[LO h1.2 h2.2 (List.perm_cons x |>.1 hp)]
theorem WO: ∀{l:List Nat},rowsOf (eT l) 0 1 l.length=(aJ .u64).R l
 |[]=>rfl
 |x::l=>by
  have ih:=WO (l:=l)
  have hc:eT (x::l)=[AV.int .u64 x]++eT l:=rfl
  rw[List.length_cons,rowsOf,hc,show 0+1=[AV.int .u64 (x:Nat)].length+0 by rfl,Bn (by rw[Bv];omega),ih];rfl
theorem ajZ {p:Nat->Bool} {M:List Nat}:(AV.vs ((aJ .u64).R M) .ao).bD p=true:=fh.lj _
theorem Xl {S:List Sl} {i:Nat} (hi:i<S.length):gh (S.take (i+1))=gh (S.take i)++(match S[i].r with|some r=>[r.1]|none=>[]):=by
 rw[<-List.take_append_getElem hi,gh,gh,List.filterMap_append]
 congr 1
 cases hr:S[i].r<;>simp[hr]
theorem ahC (ok:ax P tb) (A:eu h ab mb lb cr S es) (h0:gh S≠[]) (ez:(gh S).length<=12):
 an P 31 [.ptr ab 0] h (.vs ((aJ .u64).R (lA (gh S))) .ao) h:=by
 obtain⟨lv,t1,q1,q2,lO⟩:=A.lO
 have l1:=A.l1
 have hc:=av t1
 have x9:=A.small
 have hlen:gH lv=some S.length:=by rw[(lO h rfl).len,List.length_map]
 refine ok.MB (rf:=sF) rfl (Nat.le_of_ble_eq_true rfl) (fh.lj _) ?_
 simp+decide only[st,xv,sF,afQ,afP,afO,afN,hc,hlen]
 let I:Nat->Env->aa->Prop:=fun n ρ H=> ∃i,S.length=i+n/\Old h H/\yB h H (ρ 3) (gh (S.take i))/\ρ 11=lv/\ρ 12= .int .i64 S.length/\ρ 13= .int .i64 i
 refine dJ I ?_ S.length ⟨0,by omega,Old.refl h, .inl ⟨by simp[gh],rfl⟩,rfl,rfl,rfl⟩
 rintro n ρ H ⟨i,aE,ho,hg,fM,fR,dN⟩
 have qx:=ho.next
 have lU:S≠[]->H.get lb=h.get lb:=fun hS=>ho.get _ (A.xu hS).2.2.1
 by_cases hi:i<S.length
 ·have aA:(i:Int)<(S.length:Int):=by omega
  have hw:=dv (show i<2^61 by omega)
  obtain⟨p,g1,g2⟩:=(lO H (lU (fun e=>by rw[e] at hi;simp at hi))).get i (by rw[List.length_map];exact hi)
  rw[List.getElem_map] at g2
  have e4:S[i].enc.length=4:=Sl.len
  have st4:di [AV.int .u64 0, .vs [] .full, .bool false, .int .i64 0] 0 S[i].enc=S[i].enc:=aj7 e4.symm
  simp+decide only[st,xv,sF,Sh,afM,fM,fR,dN,aA,g1,g2,Sl.aco,e4]
  generalize hX:aa.set _ _ _=X
  have xo:Old H X:=by rw[<-hX];exact((Old.refl H).at (Nat.le_refl _)).set (Nat.le_refl _)
  have xc:cellsOf X H.next=some S[i].enc:=by rw[<-hX];exact av (by simp[aa.set])
  have xn:=xo.next
  have tk:=Sl.taken (s:=S[i])
  cases hr:S[i].r with
  |none=>
   rw[hr] at tk
   simp+decide only[st,xv,sF,Sg,Sf,xc,tk,dN,hw,Option.isSome_none]
   refine⟨n-1,by omega,i+1,by omega,ho.trans xo,?_,fM,fR,rfl⟩
   rw[Xl hi,hr,List.append_nil]
   exact hg.to xo
  |some r=>
   rw[hr] at tk
   have aL:S[i].enc[0]? =some (.int .u64 r.1):=by simp[Sl.enc,hr]
   have qv:=ald (S:=S.take i)
   obtain⟨v',H',ha,cC,jd,ei⟩:=(hg.to xo).app (Nat.le_trans qx xn) r.1 (by rw[List.length_take] at qv;omega)
   simp+decide only[st,xv,sF,Sg,afL,Sf,xc,tk,dN,hw,Option.isSome_some,aL,yC,ha,xr]
   refine⟨n-1,by omega,i+1,by omega,⟨by omega,fun b hb=>by rw[ei b hb,xo.get b (by omega),ho.get b hb]⟩,?_,fM,fR,rfl⟩
   rw[Xl hi,hr]
   exact cC
 ·have aA: ¬(i:Int)<(S.length:Int):=by omega
  rw[List.take_of_length_le (by omega)] at hg
  rcases hg with⟨e,_⟩|⟨b,_,r3,fp,eo,ch⟩
  ·exact absurd e h0
  obtain⟨H',c1,M,hM,hMs,ha⟩:=ai3 ok ch fp ez
  have hMM:M=lA (gh S):=LO hMs Ly (hM.trans uf.symm)
  simp+decide only[st,xv,sF,Sh,Nq,fR,dN,r3,aA]
  refine au c1 ?_
  simp+decide only[st,xv,sF,Nq,aao,r3,Gj]
  have ss:=ha.cell
  rw[hMM] at ss
  subst hMM
  have tQ:(lA (gh S)).length=(gh S).length:=uf.length_eq
  have pq:AV.dQ b (eT (lA (gh S))) (.rs b 0 (gh S).length 1)= .vs ((aJ .u64).R (lA (gh S))) .ao:=by
   unfold AV.dQ
   rw[if_pos rfl,if_pos (by rw[Bv];omega),<-tQ,WO]
  refine⟨_,b,eT (lA (gh S)),rfl,?_,eo,?_,?_,fun x hx=>?_⟩
  ·revert ss;unfold cellsOf;split
   ·rename_i e;intro hh;cases hh;exact e
   ·intro hh;cases hh
  ·rw[pq];exact ajZ
  ·rw[pq];exact fh.kE _
  ·rw[ha.old x (by omega) (by omega)];exact ho.get x hx
def CN (S:List Sl) (es:List (Nat×Nat)) (id:Nat):List UInt8:=match(cp es id).bind fun i=>(S[i]?).bind (·.r) with
 |some r=>r.2
 |none=>[]
def pY (S:List Sl) (es:List (Nat×Nat)) (l:List Nat):List UInt8:=l.flatMap fun id=>be id 8++cP (CN S es id)
structure ahF (S:List Sl) (es:List (Nat×Nat)) (B:Nat):Prop where
 rc: ∀id i,cp es id=some i-> ∃rec bQ,S[i]? =some ⟨some (id,rec),bQ⟩/\rec.length<B
 idx: ∀id i rec bQ,S[i]? =some ⟨some (id,rec),bQ⟩->cp es id=some i
 id: ∀id i,cp es id=some i->id<2^64
theorem aqW (ok:ax P tb) (A:eu h ab mb lb cr S es) (h0:gh S≠[]) (ez:(gh S).length<=12) (k:ahF S es 1000):
 an P 36 [.ptr ab 0] h (.vs (BS (pY S es (lA (gh S)))) .ao) h:=by
 have hS:S≠[]:=fun e=>h0 (by rw[e];rfl)
 obtain⟨t1,e2,e3,e4,e5⟩:=A.xu hS
 have l1:=A.l1
 have l2:=A.l2
 have tm:=A.map
 have hc:=av t1
 have a9:=av e2
 refine ok.eH (rf:=sE) rfl (Nat.le_of_ble_eq_true rfl) (gJ.lj) ?_
 simp+decide only[st,xv,sE,afx,afw,R6]
 refine au (ahC ok A h0 ez) ?_
 simp+decide only[st,xv,sE,R6,fh.aS]
 have Af: ∀id∈lA (gh S),∃i rec bQ,cp es id=some i/\i<S.length/\S[i]? =some ⟨some (id,rec),bQ⟩/\rec.length<1000/\id<2^64/\CN S es id=rec:=by
  intro id aL
  have:=uf.mem_iff.1 aL
  obtain⟨s,hs,hr⟩:=List.mem_filterMap.1 this
  obtain⟨i,hi⟩:=List.mem_iff_getElem?.1 hs
  obtain⟨⟨mD,rec⟩,UU,yb⟩:=Option.map_eq_some_iff.1 hr
  simp only at yb
  subst yb
  have si:S[i]? =some ⟨some (mD,rec),s.bQ⟩:=by rw[hi];cases s;simp_all
  have hn:=k.idx mD i rec s.bQ si
  obtain⟨axd,aw4,h3,h4⟩:=k.rc mD i hn
  rw[si] at h3;cases h3
  refine⟨i,rec,s.bQ,hn,?_,si,h4,k.id _ _ hn,?_⟩
  ·rcases Nat.lt_or_ge i S.length with h|h
   ·exact h
   ·rw[List.getElem?_eq_none h] at si;cases si
  ·unfold CN;rw[hn,Option.bind_some,si];rfl
 have tQ:(lA (gh S)).length<=12:=by rw[uf.length_eq];exact ez
 generalize lA (gh S)=M at*
 let I:Nat->Env->aa->Prop:=fun n ρ H=> ∃i,M.length=i+n/\Old h H/\ρ 0= .ptr ab 0/\(∃t,ρ 3= .vs (BS (pY S es (M.take i))) t)/\ρ 7= .vs ((aJ .u64).R M) .ao/\ρ 8= .int .i64 M.length/\ρ 9= .int .i64 i
 refine dJ I ?_ M.length ⟨0,by omega,Old.refl h,rfl,⟨_,rfl⟩,rfl,rfl,rfl⟩
 rintro n ρ H ⟨i,aE,ho,r0,⟨t3,r3⟩,r7,r8,r9⟩
 have qx:=ho.next
 by_cases hi:i<M.length
 ·have aA:(i:Int)<(M.length:Int):=by omega
  have hw:=dv (show i<2^61 by omega)
  obtain⟨j,rec,bQ,hn,hj,hs,gN,aL,lL⟩:=Af _ (List.getElem_mem hi)
  have g1:((aJ .u64).R M)[i]? =some [.int .u64 M[i]]:=(aJ .u64).gR hi
  have cH:cellsOf H ab=_:=(show cellsOf H ab=cellsOf h ab by unfold cellsOf;rw[ho.get _ l1]).trans hc
  have cH2:cellsOf H lb=_:=(show cellsOf H lb=cellsOf h lb by unfold cellsOf;rw[ho.get _ e3]).trans a9
  have Fe: ∀n,mZ (.int .i64 0) false (H.clean n) (.map (some mb)) (.int .u64 M[i])=some (.int .i64 j):=fun n=>by
   rw[GL (es:=es) (by simp only[aa.clean];rw[if_pos (by omega),ho.get _ l2,tm]),hn];rfl
  have rows:(S.map Sl.enc)[j]? =some [.int .u64 M[i], .vs (BS rec) .ao, .bool true, .int .i64 bQ]:=by rw[List.getElem?_map,hs];rfl
  have g2:=uv (sz:=4) (j:=1) pP rows (by omega)
  have js:(j:Int)<(S.length:Int):=by omega
  have la:ab<H.next:=by omega
  have aR:lb<H.next:=by omega
  have kB:(pY S es (M.take i)).length<=1010*i:=by
   have: ∀(l:List Nat),(∀id∈l,(CN S es id).length<=1000)->(pY S es l).length<=1010*l.length:=by
    intro l
    induction l with
    |nil=>intro _;simp[pY]
    |cons c l ih=>
     intro hm
     have h1:=ih (fun x hx=>hm x (List.mem_cons_of_mem _ hx))
     have h2:=hm c (List.mem_cons_self ..)
     simp only[pY,List.flatMap_cons,List.length_append,bO,cP,List.length_cons] at h1 ⊢;omega
   have h1:=this (M.take i) (fun id aL=>by
    obtain⟨i,rec,bQ,hn,hj,hs,gN,aL,lL⟩:=Af _ (List.mem_of_mem_take aL)
    rw[lL];omega)
   rw[List.length_take] at h1;omega
  simp+decide only[st,xv,sE,R5,afv,r7,r8,r9,aA,g1]
  refine ur ?_
  simp+decide only[st,xv,sE,afu,r0,r3]
  refine hP (mW ok (n:=8) aL (by omega) (by omega)) (cO (Nat.le_refl _)) ?_
  simp+decide only[st,xv,r0,cH,la,Fe,cH2,aR,js,g2]
  refine⟨show mb<H.next by omega,?_⟩
  refine hP (KW ok (b:=pY S es (M.take i)++be M[i] 8) (s:=rec) (by simp only[List.length_append,bO];omega) (by omega)) (cO (Nat.le_refl _)) ?_
  simp+decide only[st,xv,sE,aft,r9,hw]
  refine⟨n-1,by omega,i+1,by omega,ho.clean,r0,⟨.ao,?_⟩,r7,r8,rfl⟩
  show AV.vs (BS (pY S es (M.take i)++be M[i] 8++cP rec)) .ao=_
  rw[<-List.take_append_getElem hi]
  simp only[pY,List.flatMap_append,List.flatMap_cons,List.flatMap_nil,List.append_nil,List.append_assoc,lL]
 ·have aA: ¬(i:Int)<(M.length:Int):=by omega
  simp+decide only[st,xv,sE,R5,afs,r8,r9,r3,aA,bB]
  rw[List.take_of_length_le (by omega)]
  exact⟨gJ.kE,ho.get⟩
end
section
open Go
variable {P:Program} {h:aa} {ab mb lb cr:Nat} {S:List Sl} {es:List (Nat×Nat)}
structure kD (S:List Sl) (es:List (Nat×Nat)) (f:Nat->Option (List UInt8)):Prop where
 k:ahF S es 1000
 f: ∀id,f id=((cp es id).bind fun i=>(S[i]?).bind (·.r)).map (·.2)
 keys:(es.map (·.1)).Nodup
theorem getElem?_lt {α:Type} {l:List α} {i:Nat} {a:α} (h:l[i]? =some a):i<l.length:=by
 rcases Nat.lt_or_ge i l.length with hh|hh
 ·exact hh
 ·rw[List.getElem?_eq_none hh] at h;cases h
theorem kD.lt {f} (R:kD S es f) {id i:Nat} (hn:cp es id=some i):i<S.length:=by
 obtain⟨rec,bQ,h1,_⟩:=R.k.rc id i hn
 exact getElem?_lt h1
theorem kD.sm {f} (R:kD S es f) {id:Nat} {rec:List UInt8} (hf:f id=some rec): ∃i bQ,cp es id=some i/\S[i]? =some ⟨some (id,rec),bQ⟩/\rec.length<1000:=by
 rw[R.f] at hf
 cases hn:cp es id with
 |none=>rw[hn] at hf;cases hf
 |some i=>
  obtain⟨axe,bQ,h1,h2⟩:=R.k.rc id i hn
  rw[hn,Option.bind_some,h1] at hf
  simp at hf;subst hf
  exact⟨i,bQ,rfl,h1,h2⟩
theorem kD.of {f} (R:kD S es f) {id i:Nat} {rec:List UInt8} {bQ:Int} (h1:S[i]? =some ⟨some (id,rec),bQ⟩):f id=some rec/\cp es id=some i:=by
 have hn:=R.k.idx _ _ _ _ h1
 exact⟨by rw[R.f,hn,Option.bind_some,h1];rfl,hn⟩
theorem kD.mem {f} (R:kD S es f) {id:Nat}:id∈gh S↔(f id).isSome=true:=by
 constructor
 ·intro aL
  obtain⟨s,hs,hr⟩:=List.mem_filterMap.1 aL
  obtain⟨i,hi⟩:=List.mem_iff_getElem?.1 hs
  obtain⟨⟨mD,rec⟩,UU,yb⟩:=Option.map_eq_some_iff.1 hr
  simp only at yb;subst yb
  have si:S[i]? =some ⟨some (mD,rec),s.bQ⟩:=by rw[hi];cases s;simp_all
  rw[(R.of si).1];rfl
 ·intro hf
  obtain⟨rec,hf⟩:=Option.isSome_iff_exists.1 hf
  obtain⟨i,bQ,_,h1,_⟩:=R.sm hf
  exact List.mem_filterMap.2 ⟨_,List.mem_of_getElem? h1,rfl⟩
theorem ai4 {f} (R:kD S es f):(gh S).Nodup:=by
 unfold gh List.Nodup
 rw[List.pairwise_filterMap]
 refine List.pairwise_iff_getElem.2 fun i j hi hj nP a ha b hb=>?_
 obtain⟨⟨ia,ra⟩,h1,h2⟩:=Option.map_eq_some_iff.1 ha
 obtain⟨⟨ib,rb⟩,h3,h4⟩:=Option.map_eq_some_iff.1 hb
 simp only at h2 h4;subst h2;subst h4
 intro e;subst e
 have e1:S[i]? =some ⟨some (ia,ra),S[i].bQ⟩:=by rw[List.getElem?_eq_getElem hi,<-h1]
 have e2:S[j]? =some ⟨some (ia,rb),S[j].bQ⟩:=by rw[List.getElem?_eq_getElem hj,<-h3]
 have:=(R.of e1).2.symm.trans (R.of e2).2
 cases this;omega
theorem ZG {f} (R:kD S es f) {l:List Nat} (hl:l.Pairwise (· < ·)) (hm: ∀id,id∈l↔(f id).isSome=true):lA (gh S)=l:=by
 refine LO Ly (hl.imp (fun h=>Nat.le_of_lt h)) (uf.trans ?_)
 refine(List.perm_ext_iff_of_nodup (ai4 R) (hl.imp (fun h=>Nat.ne_of_lt h))).2 fun id=>?_
 rw[R.mem,hm]
def iD (f:Nat->Option (List UInt8)) (id:Nat) (r:Option (List UInt8)):Nat->Option (List UInt8):=fun x=>if x=id then r else f x
theorem Gh {id x i:Nat} (hn:cp es id=none):cp (es++[(id,i)]) x=if x=id then some i else cp es x:=by
 unfold cp at*
 rw[List.find?_append]
 by_cases h:x=id
 ·subst h
  rw[if_pos rfl]
  rw[Option.map_eq_none_iff] at hn
  rw[hn];simp
 ·rw[if_neg h]
  simp[h]
theorem WY {id:Nat} (hn:cp es id=none):id∉es.map (·.1):=by
 intro hm
 obtain⟨e,he,rfl⟩:=List.mem_map.1 hm
 unfold cp at hn
 rw[Option.map_eq_none_iff,List.find?_eq_none] at hn
 exact hn e he (by simp)
theorem Gf {id i:Nat} (hn:cp es id=some i):(id,i)∈es:=by
 unfold cp at hn
 obtain⟨e,he,rfl⟩:=Option.map_eq_some_iff.1 hn
 have h1:=List.find?_some he
 have h2:=List.mem_of_find?_eq_some he
 have:id=e.1:=by simpa using h1
 subst this;exact h2
theorem Yh {id i:Nat} (hk:(es.map (·.1)).Nodup) (hm:(id,i)∈es):cp es id=some i:=by
 cases hq:cp es id with
 |none=>exact absurd (List.mem_map.2 ⟨_,hm,rfl⟩) (WY hq)
 |some j=>
  have hj:=Gf hq
  obtain⟨a,ha,e1⟩:=List.getElem_of_mem hm
  obtain⟨b,hb,e2⟩:=List.getElem_of_mem hj
  have:=Bs hk (i:=a) (j:=b) (by simpa using ha) (by simpa using hb) (by simp[e1,e2])
  subst this
  rw[e1] at e2;cases e2;rfl
theorem GH {i:Nat} {r:Nat×List UInt8} {bQ:Int}:(ij S).2[i]? =some ⟨some r,bQ⟩↔S[i]? =some ⟨some r,bQ⟩:=by
 unfold ij
 cases wW S with
 |some k=>exact Iff.rfl
 |none=>
  simp only
  by_cases h:i<S.length
  ·rw[List.getElem?_append_left h]
  ·rw[List.getElem?_append_right (by omega),List.getElem?_eq_none (l:=S) (by omega)]
   cases hk:i-S.length with
   |zero=>simp
   |succ n=>simp
theorem ale: ∃bQ,(ij S).2[(ij S).1]? =some ⟨none,bQ⟩:=by
 unfold ij
 cases hq:wW S with
 |none=>exact⟨0,by simp⟩
 |some k=>
  obtain⟨hk,h1,_⟩:=List.findIdx?_eq_some_iff_getElem.1 hq
  refine⟨S[k].bQ,?_⟩
  rw[List.getElem?_eq_getElem hk]
  cases hs:S[k] with
  |mk r bQ=>rw[hs] at h1;cases r<;>simp_all
theorem kD.put {f} (R:kD S es f) {id:Nat} {rec:List UInt8} (aL:id<2^64) (hr:rec.length<1000):kD (lH S es id rec).1 (lH S es id rec).2 (iD f id (some rec)):=by
 unfold lH
 cases hn:cp es id with
 |some i=>
  have hi:=R.lt hn
  obtain⟨r0,t0,h0,_⟩:=R.k.rc id i hn
  have key: ∀{x j:Nat},cp es x=some j->(j=i↔x=id):=by
   intro x j hx
   constructor
   ·intro e;subst e
    obtain⟨r1,t1,h1,_⟩:=R.k.rc x j hx
    rw[h0] at h1;cases h1;rfl
   ·intro e;subst e
    rw[hn] at hx;cases hx;rfl
  simp only
  generalize(Ab (S.getD i ⟨none,0⟩).bQ)=T
  refine⟨⟨fun x j hx=>?_,fun x j r t hx=>?_,R.k.id⟩,fun x=>?_,R.keys⟩
  ·by_cases e:j=i
   ·obtain rfl:=(key hx).1 e
    subst e
    exact⟨rec,T,by simp[hi],hr⟩
   ·obtain⟨r1,t1,h1,h2⟩:=R.k.rc x j hx
    exact⟨r1,t1,by rw[List.getElem?_set_ne (Ne.symm e),h1],h2⟩
  ·by_cases e:i=j
   ·subst e
    rw[List.getElem?_set_self hi] at hx
    cases hx;exact hn
   ·rw[List.getElem?_set_ne e] at hx
    exact R.k.idx x j r t hx
  ·unfold iD
   by_cases e:x=id
   ·subst e
    rw[if_pos rfl,hn,Option.bind_some,List.getElem?_set_self hi];rfl
   ·rw[if_neg e,R.f]
    cases hx:cp es x with
    |none=>rfl
    |some j=>
     have: ¬i=j:=fun h=>e ((key hx).1 h.symm)
     rw[Option.bind_some,Option.bind_some,List.getElem?_set_ne this]
 |none=>
  obtain⟨tf,hf⟩:=ale (S:=S)
  have bT:=(BR (S:=S)).1
  generalize(Ab ((ij S).2.getD (ij S).1 ⟨none,0⟩).bQ)=T
  simp only
  have ne: ∀{x j:Nat},cp es x=some j-> ¬(ij S).1=j:=by
   intro x j hx e
   obtain⟨r1,t1,h1,_⟩:=R.k.rc x j hx
   rw[<-GH,<-e,hf] at h1
   cases h1
  refine⟨⟨fun x j hx=>?_,fun x j r t hx=>?_,fun x j hx=>?_⟩,fun x=>?_,?_⟩
  ·rw[Gh hn] at hx
   split at hx
   ·rename_i e;cases hx;subst e
    exact⟨rec,T,by simp[bT],hr⟩
   ·obtain⟨r1,t1,h1,h2⟩:=R.k.rc x j hx
    exact⟨r1,t1,by rw[List.getElem?_set_ne (ne hx),GH,h1],h2⟩
  ·rw[Gh hn]
   by_cases e:(ij S).1=j
   ·subst e
    rw[List.getElem?_set_self bT] at hx
    cases hx;rw[if_pos rfl]
   ·rw[List.getElem?_set_ne e,GH] at hx
    have:=R.k.idx x j r t hx
    rw[if_neg (fun h=>by rw[h,hn] at this;cases this)];exact this
  ·rw[Gh hn] at hx
   split at hx
   ·rename_i e;subst e;exact aL
   ·exact R.k.id x j hx
  ·unfold iD
   rw[Gh hn]
   by_cases e:x=id
   ·rw[if_pos e,if_pos e,Option.bind_some,List.getElem?_set_self bT];rfl
   ·rw[if_neg e,if_neg e,R.f]
    cases hx:cp es x with
    |none=>rfl
    |some j=>
     obtain⟨r1,t1,h1,_⟩:=R.k.rc x j hx
     rw[Option.bind_some,Option.bind_some,List.getElem?_set_ne (ne hx),h1,GH.2 h1]
  ·rw[List.map_append,List.nodup_append]
   refine⟨R.keys,by simp,fun a ha b hb=>?_⟩
   have:b=id:=by simpa using hb
   subst this
   intro e;subst e
   exact WY hn ha
theorem kD.drop {f} (R:kD S es f) {id:Nat}:kD (sX S es id).1 (sX S es id).2 (iD f id none):=by
 unfold sX
 cases hn:cp es id with
 |none=>
  refine⟨R.k,fun x=>?_,R.keys⟩
  unfold iD
  by_cases e:x=id
  ·rw[if_pos e,e,hn];rfl
  ·rw[if_neg e,R.f]
 |some i=>
  obtain⟨j,hj⟩: ∃j,nq es id=some j:=by
   rw[Gg] at hn
   cases hq:nq es id with
   |none=>rw[hq] at hn;cases hn
   |some j=>exact⟨j,rfl⟩
  have hi:=R.lt hn
  obtain⟨r0,t0,h0,_⟩:=R.k.rc id i hn
  rw[hj]
  simp only
  generalize(S.getD i ⟨none,0⟩).bQ=T
  obtain⟨dP,vM,qz⟩:=List.findIdx?_eq_some_iff_getElem.1 hj
  have Tu:id=es[j].1:=by simpa using vM
  have fe: ∀x,cp (es.eraseIdx j) x=if x=id then none else cp es x:=by
   intro x
   by_cases e:x=id
   ·rw[if_pos e]
    cases hq:cp (es.eraseIdx j) x with
    |none=>rfl
    |some k=>
     exfalso
     subst e
     obtain⟨a,ha,aM,ea⟩:=List.mem_eraseIdx_iff_getElem.1 (Gf hq)
     exact aM (Bs R.keys (i:=a) (j:=j) (by simpa using ha) (by simpa using dP) (by simp[ea,<-Tu]))
   ·rw[if_neg e]
    cases hq:cp es x with
    |none=>
     cases vI:cp (es.eraseIdx j) x with
     |none=>rfl
     |some k=>
      have:=Yh R.keys (List.mem_of_mem_eraseIdx (Gf vI))
      rw[hq] at this;cases this
    |some k=>
     refine Yh ((R.keys).sublist (List.Sublist.map _ (List.eraseIdx_sublist ..))) ?_
     obtain⟨a,ha,ea⟩:=List.getElem_of_mem (Gf hq)
     refine List.mem_eraseIdx_iff_getElem.2 ⟨a,ha,fun h=>?_,ea⟩
     subst h
     rw[ea] at Tu
     exact e Tu.symm
  have key: ∀{x k:Nat},cp es x=some k->x≠id-> ¬i=k:=by
   intro x k hx e he
   subst he
   obtain⟨r1,t1,h1,_⟩:=R.k.rc x i hx
   rw[h0] at h1;cases h1;exact e rfl
  refine⟨⟨fun x k hx=>?_,fun x k r t hx=>?_,fun x k hx=>?_⟩,fun x=>?_,(R.keys).sublist (List.Sublist.map _ (List.eraseIdx_sublist ..))⟩
  ·rw[fe] at hx
   split at hx
   ·cases hx
   ·rename_i e
    obtain⟨r1,t1,h1,h2⟩:=R.k.rc x k hx
    exact⟨r1,t1,by rw[List.getElem?_set_ne (key hx e),h1],h2⟩
  ·rw[fe]
   by_cases e:i=k
   ·subst e
    rw[List.getElem?_set_self hi] at hx;cases hx
   ·rw[List.getElem?_set_ne e] at hx
    have:=R.k.idx x k r t hx
    rw[if_neg ?_]
    ·exact this
    ·intro h;subst h;rw[hn] at this;cases this;exact e rfl
  ·rw[fe] at hx
   split at hx
   ·cases hx
   ·exact R.k.id x k hx
  ·unfold iD
   rw[fe]
   by_cases e:x=id
   ·rw[if_pos e,if_pos e];rfl
   ·rw[if_neg e,if_neg e,R.f]
    cases hx:cp es x with
    |none=>rfl
    |some k=>rw[Option.bind_some,Option.bind_some,List.getElem?_set_ne (key hx e)]
end
section
open Go
variable {P:Program} {h:aa}
def AA (h:aa) (ab mb lb cr N:Nat) (f:Nat->Option (List UInt8)):Prop:= ∃S es,eu h ab mb lb cr S es/\kD S es f/\S.length<=N/\lb<h.next
variable {ab mb lb cr N:Nat} {f:Nat->Option (List UInt8)}
theorem AA.lt (A:AA h ab mb lb cr N f):ab<h.next/\mb<h.next/\ab≠mb/\lb<h.next:=by
 obtain⟨S,es,A,_,_,hb⟩:=A
 exact⟨A.l1,A.l2,A.n1,hb⟩
theorem AA.bN (A:AA h ab mb lb cr N f) {h':aa} (hn:h.next<=h'.next) (h1:h'.get ab=h.get ab) (h2:h'.get mb=h.get mb) (h3:lb<h.next->h'.get lb=h.get lb) {M:Nat} (hM:N<=M):AA h' ab mb lb cr M f:=by
 obtain⟨S,es,A,R,hl,hb⟩:=A
 exact⟨S,es,A.bN hn h1 h2 (fun hS=>h3 (A.xu hS).2.2.1),R,by omega,by omega⟩
theorem AA.old (A:AA h ab mb lb cr N f) {h':aa} (o:Old h h'):AA h' ab mb lb cr N f:=A.bN o.next (o.get _ A.lt.1) (o.get _ A.lt.2.1) (fun hl=>o.get _ hl) (Nat.le_refl _)
theorem AA.fn (A:AA h ab mb lb cr N f) {g:Nat->Option (List UInt8)} (hg: ∀x,f x=g x):AA h ab mb lb cr N g:=by
 have:f=g:=funext hg
 rw[<-this];exact A
theorem AA.new (ok:ax P tb) {v:Nat}: ∃h',an P 33 [.int .u8 v] h (.ptr (h.next+1) 0) h'/\AA h' (h.next+1) h.next (h.next+1) v 0 (fun _=>none)/\h'.next=h.next+2/\Old h h':=by
 obtain⟨h',c,A,e,o⟩:=awT ok (h:=h) (v:=v)
 obtain⟨lv,t1,t2⟩:=A.top
 have A':eu h' (h.next+1) h.next (h.next+1) v [] []:=⟨⟨lv,t1,by rcases t2 with t2|t2;exact .inl t2;exact absurd rfl t2.1⟩,A.map,A.l1,A.l2,A.n1,A.small⟩
 refine⟨h',c,⟨[],[],A',⟨⟨fun id i hi=>?_,fun id i r t hi=>?_,fun id i hi=>?_⟩,fun id=>rfl,by simp⟩,by simp,A.l1⟩,e,o⟩
 ·cases hi
 ·simp at hi
 ·cases hi
theorem AA.get (ok:ax P tb) (A:AA h ab mb lb cr N f) {id:Nat}:an P 45 [.ptr ab 0, .int .u64 id] h (match f id with|some r=> .ay [.vs (BS r) .ao, .int .i64 0]|none=> .ay [.vs [] .ao, .int .i64 7]) h:=by
 obtain⟨S,es,A,R,hl,hb⟩:=A
 have:=awU ok A (id:=id) (fun i hi=>by obtain⟨rec,bQ,h1,h2⟩:=R.k.rc id i hi;exact⟨rec,bQ,h1,by omega⟩)
 rw[R.f]
 cases hq:(cp es id).bind fun i=>(S[i]?).bind (·.r) with
 |none=>rw[hq] at this;exact this
 |some r=>rw[hq] at this;exact this
theorem AA.put (ok:ax P tb) (A:AA h ab mb lb cr N f) {id:Nat} {x:UInt8} {rec:List UInt8} {t:aH} (aL:id<2^64) (hv:x.toNat=cr) (hr:rec.length<999) (hN:N<2^19):
 ∃h',an P 35 [.ptr ab 0, .int .u64 id, .vs (BS (x::rec)) t] h (.int .i64 0) h'/\ ∃aR,AA h' ab mb aR cr (N+1) (iD f id (some (x::rec)))/\(aR=lb\/h.next<=aR)/\jg h h' ab mb lb:=by
 obtain⟨S,es,A,R,hl,hb⟩:=A
 obtain⟨h',c,aR,A',h1,h2⟩:=awS ok A (id:=id) (x:=x) (rec:=rec) (t:=t) hv (by omega) (by omega) (fun i hi=>R.lt hi)
 have aM:(lH S es id (x::rec)).1≠[]:=by
  intro e
  have e:=congrArg List.length e
  unfold lH at e
  have:=(BR (S:=S)).1
  split at e
  ·rename_i i hi;have:=R.lt hi;simp at e;subst e;simp at this
  ·simp at e;rw[e] at this;simp at this
 refine⟨h',c,aR,⟨_,_,A',R.put aL (by simp;omega),?_,(A'.xu aM).2.2.1⟩,h1,h2⟩
 unfold lH
 have:=(BR (S:=S)).2
 split<;>simp<;>omega
theorem AA.drop (ok:ax P tb) (A:AA h ab mb lb cr N f) {id:Nat}: ∃e h',an P 145 [.ptr ab 0, .int .u64 id] h (.int .i64 e) h'/\AA h' ab mb lb cr N (iD f id none)/\jg h h' ab mb lb:=by
 obtain⟨S,es,A,R,hl,hb⟩:=A
 obtain⟨e,h',c,A',h1⟩:=auL ok A (id:=id) (fun i hi=>R.lt hi)
 refine⟨e,h',c,⟨_,_,A',R.drop,?_,Nat.lt_of_lt_of_le hb h1.1⟩,h1⟩
 unfold sX
 split<;>simp<;>omega
theorem AA.ids (ok:ax P tb) (A:AA h ab mb lb cr N f) {l:List Nat} (hl:l.Pairwise (· < ·)) (hm: ∀id,id∈l↔(f id).isSome=true) (h0:l≠[]) (ez:l.length<=12):an P 31 [.ptr ab 0] h (.vs ((aJ .u64).R l) .ao) h:=by
 obtain⟨S,es,A,R,hN,_⟩:=A
 have he:=ZG R hl hm
 have:=ahC ok A (fun e=>h0 (by rw[<-he,e];rfl)) (by rw[<-uf.length_eq,he];exact ez)
 rwa [he] at this
theorem AA.bytes (ok:ax P tb) (A:AA h ab mb lb cr N f) {l:List Nat} (hl:l.Pairwise (· < ·)) (hm: ∀id,id∈l↔(f id).isSome=true) (h0:l≠[]) (ez:l.length<=12):an P 36 [.ptr ab 0] h (.vs (BS (l.flatMap fun id=>be id 8++cP ((f id).getD []))) .ao) h:=by
 obtain⟨S,es,A,R,hN,_⟩:=A
 have he:=ZG R hl hm
 have:=aqW ok A (fun e=>h0 (by rw[<-he,e];rfl)) (by rw[<-uf.length_eq,he];exact ez) R.k
 rw[he] at this
 have e2:pY S es l=l.flatMap fun id=>be id 8++cP ((f id).getD []):=by
  unfold pY
  congr 1
  funext id
  congr 2
  rw[R.f]
  unfold CN
  cases(cp es id).bind fun i=>(S[i]?).bind (·.r)<;>rfl
 rwa [e2] at this
def bI (l:List UInt8):List Int:=l.map fun b=>(b.toNat:Int)
theorem Zq {l:List UInt8}:kO (bI l)=BS l:=by simp[kO,bI,BS]
theorem wT {l:List UInt8}:(bI l).length=l.length:=by simp[bI]
def SG (h:aa) (bs bm bl bp M:Nat) (g:Nat->Option (List UInt8)):Prop:= ∃A,gQ h bs bm bl bp 512 A/\(∀id:Nat,gL A id=(g id).map bI)/\jn A<=4*M
variable {bs bm bl bp M:Nat} {g:Nat->Option (List UInt8)}
theorem SG.lt (S:SG h bs bm bl bp M g):bs<h.next/\bm<h.next/\bl<h.next/\bp<h.next:=by
 obtain⟨A,S,_⟩:=S
 exact S.lt
theorem gQ.same {A:Mem} {n:Nat} (S:gQ h bs bm bl bp n A) {h':aa} (hn:h.next<=h'.next) (h1:h'.get bs=h.get bs) (h2:h'.get bm=h.get bm) (h3:h'.get bl=h.get bl) (h4:h'.get bp=h.get bp):gQ h' bs bm bl bp n A:=by
 obtain⟨fs,ts,S,R⟩:=S
 exact⟨fs,ts,⟨by rw[h1,S.top],⟨by rw[h2,S.mem.top],by rw[h3,S.mem.row],S.mem.ne,S.mem.len,S.mem.small⟩,by rw[h4,S.map],S.n1,S.n2,S.n3,S.n4,S.n5,Nat.lt_of_lt_of_le S.l1 hn,Nat.lt_of_lt_of_le S.l2 hn,Nat.lt_of_lt_of_le S.l3 hn,Nat.lt_of_lt_of_le S.l4 hn,S.tn⟩,R⟩
theorem SG.bN (S:SG h bs bm bl bp M g) {h':aa} (hn:h.next<=h'.next) (h1:h'.get bs=h.get bs) (h2:h'.get bm=h.get bm) (h3:h'.get bl=h.get bl) (h4:h'.get bp=h.get bp) {M':Nat} (hM:M<=M'):SG h' bs bm bl bp M' g:=by
 obtain⟨A,S,hg,hu⟩:=S
 exact⟨A,S.same hn h1 h2 h3 h4,hg,by omega⟩
theorem SG.old (S:SG h bs bm bl bp M g) {h':aa} (o:Old h h'):SG h' bs bm bl bp M g:=S.bN o.next (o.get _ S.lt.1) (o.get _ S.lt.2.1) (o.get _ S.lt.2.2.1) (o.get _ S.lt.2.2.2) (Nat.le_refl _)
theorem SG.fn (S:SG h bs bm bl bp M g) {g':Nat->Option (List UInt8)} (hg: ∀x,g x=g' x):SG h bs bm bl bp M g':=by
 have:g=g':=funext hg
 rw[<-this];exact S
theorem SG.new (ok:ax P tb): ∃bs bm bl bp h',an P 39 [.int .i64 512] h (.ptr bs 0) h'/\SG h' bs bm bl bp 0 (fun _=>none)/\h.next<=bs/\h.next<=bm/\h.next<=bl/\h.next<=bp/\Old h h':=by
 obtain⟨bs,bm,bl,bp,h',c,S,h1,h2,h3,h4,h5,h6⟩:=auR ok h 512
 exact⟨bs,bm,bl,bp,h',c,⟨[],S,fun _=>rfl,by simp[jn]⟩,h1,h2,h3,h4,h5,h6⟩
def yy (h h':aa) (bl bp:Nat):Prop:=h.next<=h'.next/\ ∀b,b<h.next->b≠bl->b≠bp->h'.get b=h.get b
theorem amb {A:Mem} {id x:Int} {d:List Int} (hn:gL A id=none):gL (A++[(id,d)]) x=if x=id then some d else gL A x:=by
 unfold gL at*
 rw[List.find?_append]
 by_cases h:x=id
 ·subst h
  rw[if_pos rfl]
  rw[Option.map_eq_none_iff] at hn
  rw[hn];simp
 ·rw[if_neg h];simp[h]
theorem SG.map (ok:ax P tb) (S:SG h bs bm bl bp M g) {id n:Nat} (hn:n<=64) (hM:M<128): ∃e h',an P 42 [.ptr bs 0, .int .u64 id, .int .i64 n] h (.int .i64 e) h'/\SG h' bs bm bl bp (M+1) (if(g id).isSome then g else iD g id (some (List.replicate n 0)))/\yy h h' bl bp:=by
 obtain⟨A,S,hg,hu⟩:=S
 obtain⟨h',c,S',h1,h2⟩:=auS ok S id n
 refine⟨_,h',c,⟨_,S',?_,?_⟩,h1,h2⟩
 ·intro x
  unfold wU
  rw[if_neg (by omega),hg]
  cases hq:g id with
  |some d=>simp only[Option.map_some,Option.isSome_some,if_true];exact hg x
  |none=>
   simp only[Option.map_none,Option.isSome_none,Bool.false_eq_true,if_false]
   rw[if_neg (by unfold jy;omega),amb (by rw[hg,hq];rfl),iD]
   by_cases e:x=id
   ·rw[if_pos (by omega),if_pos e];simp[bI]
   ·rw[if_neg (by omega),if_neg e,hg]
 ·unfold wU
  rw[if_neg (by omega)]
  split
  ·show jn A<=_;omega
  ·split
   ·show jn A<=_;omega
   ·show jn (A++_)<=_
    unfold jn at*
    simp only[List.map_append,List.map_cons,List.map_nil,List.sum_append,List.sum_cons,List.sum_nil,jy,List.length_replicate,Int.toNat_natCast] at*
    omega
theorem gQ.keys {A:Mem} {n:Nat} (S:gQ h bs bm bl bp n A):(A.map (·.1)).Nodup:=by
 obtain⟨fs,ts,S,R⟩:=S
 rw[R.gD,List.map_map]
 exact R.keys
theorem YH {id x:Int}: ∀{A:Mem},(A.map (·.1)).Nodup->gL (rT A id) x=if x=id then none else gL A x
 |[],_=>by simp[gL,rT]
 |e::A,hn=>by
  have jd:=List.nodup_cons.1 hn
  have ih:=YH (id:=id) (x:=x) (A:=A) jd.2
  unfold gL rT at*
  rw[List.eraseP_cons]
  by_cases h:(id==e.1)=true
  ·rw[h,cond_true]
   have he:id=e.1:=by simpa using h
   by_cases hx:x=id
   ·rw[if_pos hx,Option.map_eq_none_iff,List.find?_eq_none]
    intro y hy
    have:e.1≠y.1:=fun h=>jd.1 (List.mem_map.2 ⟨y,hy,h.symm⟩)
    simp;omega
   ·rw[if_neg hx,List.find?_cons]
    have:(x==e.1)=false:=by simp;omega
    rw[this]
  ·have hf:(id==e.1)=false:=by simpa using h
   rw[hf,cond_false,List.find?_cons,List.find?_cons]
   have he: ¬id=e.1:=by simpa using h
   by_cases hx:x=e.1
   ·have:(x==e.1)=true:=by simpa using hx
    rw[this,if_neg (by omega)]
   ·have:(x==e.1)=false:=by simpa using hx
    rw[this];exact ih
theorem XQ {id:Int}: ∀{A:Mem},jn (rT A id)<=jn A
 |[]=>by simp[rT]
 |e::A=>by
  have ih:=XQ (id:=id) (A:=A)
  unfold jn rT at*
  rw[List.eraseP_cons]
  cases id==e.1
  ·simp only[cond_false,List.map_cons,List.sum_cons];omega
  ·simp
theorem Zs {id x:Int} {off:Nat} {v:List Int}: ∀{A:Mem},gL (u3 A id off v) x=if x=id then(gL A id).map (fun d=>d.take off++v++d.drop (off+v.length)) else gL A x
 |[]=>by simp[gL,u3]
 |e::A=>by
  have ih:=Zs (id:=id) (x:=x) (off:=off) (v:=v) (A:=A)
  unfold gL u3 at*
  rw[List.map_cons,List.find?_cons,List.find?_cons]
  by_cases h:(id==e.1)=true
  ·have he:id=e.1:=by simpa using h
   rw[if_pos h]
   by_cases hx:x=id
   ·have:(x==e.1)=true:=by simp;omega
    simp only[this]
    rw[if_pos hx,h];rfl
   ·have:(x==e.1)=false:=by simp;omega
    simp only[this]
    rw[ih,if_neg hx,if_neg hx,List.find?_cons,this]
  ·have he: ¬id=e.1:=by simpa using h
   rw[if_neg h]
   have hf:(id==e.1)=false:=by simpa using h
   by_cases hx:x=e.1
   ·have:(x==e.1)=true:=by simpa using hx
    rw[if_neg (by omega)]
    simp only[this,List.find?_cons]
   ·have:(x==e.1)=false:=by simpa using hx
    simp only[this,hf,List.find?_cons]
    exact ih
theorem YE {id:Int} {off:Nat} {v:List Int}: ∀{A:Mem},(∀d,(id,d)∈A->off+v.length<=d.length)->jn (u3 A id off v)=jn A
 |[],_=>rfl
 |e::A,hd=>by
  have ih:=YE (id:=id) (off:=off) (v:=v) (A:=A) (fun d h=>hd d (List.mem_cons_of_mem _ h))
  unfold jn u3 at*
  simp only[List.map_cons,List.sum_cons,ih]
  congr 1
  by_cases h:(id==e.1)=true
  ·have he:id=e.1:=by simpa using h
   have:=hd e.2 (by rw[he];simp)
   rw[if_pos h]
   congr 1
   simp;omega
  ·rw[if_neg h]
theorem ama {id:Int} {d:List Int} {A:Mem} (hk:(A.map (·.1)).Nodup) (hm:(id,d)∈A):gL A id=some d:=by
 unfold gL
 cases hq:A.find? (fun e=>id==e.1) with
 |none=>rw[List.find?_eq_none] at hq;exact absurd (hq _ hm) (by simp)
 |some e=>
  have h1:=List.find?_some hq
  have h2:=List.mem_of_find?_eq_some hq
  obtain⟨i,hi,e1⟩:=List.getElem_of_mem hm
  obtain⟨j,hj,e2⟩:=List.getElem_of_mem h2
  have:=Bs hk (i:=i) (j:=j) (by simpa using hi) (by simpa using hj) (by simp[e1,e2];simpa using h1)
  subst this
  rw[e1] at e2;rw[<-e2];rfl
theorem SG.PB (ok:ax P tb) (S:SG h bs bm bl bp M g) {id:Nat}: ∃e h',an P 146 [.ptr bs 0, .int .u64 id] h (.int .i64 e) h'/\SG h' bs bm bl bp M (iD g id none)/\yy h h' bl bp:=by
 obtain⟨A,S,hg,hu⟩:=S
 obtain⟨h',c,S',h1,h2⟩:=anq ok S id
 have hk:=S.keys
 refine⟨_,h',c,⟨_,S',?_,?_⟩,h1,h2⟩
 ·intro x
  unfold wh
  rw[hg,iD]
  cases hq:g id with
  |none=>
   by_cases e:x=id
   ·rw[if_pos e,e];show gL A id=_;rw[hg,hq]
   ·rw[if_neg e];exact hg x
  |some d=>
   show gL (rT A id) x=_
   rw[YH hk]
   by_cases e:x=id
   ·rw[if_pos (by omega),if_pos e];rfl
   ·rw[if_neg (by omega),if_neg e,hg]
 ·unfold wh
  have:=XQ (id:=id) (A:=A)
  split
  ·show jn A<=_;omega
  ·show jn (rT A id)<=_;omega
theorem SG.len (ok:ax P tb) (S:SG h bs bm bl bp M g) {id:Nat} {d:List UInt8} (hd:g id=some d):an P 47 [.ptr bs 0, .int .u64 id] h (.ay [.int .i64 d.length, .int .i64 0]) h:=by
 obtain⟨A,S,hg,hu⟩:=S
 have:=auT ok S id
 rw[hg,hd] at this
 simpa [wT] using this
theorem SG.read (ok:ax P tb) (S:SG h bs bm bl bp M g) {id off n:Nat} {d:List UInt8} (hd:g id=some d) (aE:off+n<=d.length):an P 48 [.ptr bs 0, .int .u64 id, .int .i64 off, .int .i64 n] h (.ay [.vs (BS ((d.drop off).take n)) .ao, .int .i64 0]) h:=by
 obtain⟨A,S,hg,hu⟩:=S
 have:=aqY ok S (id:=id) (off:=off) (n:=n) (d:=bI d) (by unfold rE;rw[hg,hd];simp only[Option.map_some,wT];rw[if_neg (by omega)])
 have e:((bI d).drop off).take n=bI ((d.drop off).take n):=by simp[bI,List.map_take,List.map_drop]
 rw[e,Zq] at this
 exact this
theorem SG.amq (ok:ax P tb) (S:SG h bs bm bl bp M g) {id:Nat} {off n:Int} {d:List UInt8} (hd:g id=some d) (aE:off<0\/n<0\/(d.length:Int)<off\/(d.length:Int)-off<n):an P 48 [.ptr bs 0, .int .u64 id, .int .i64 off, .int .i64 n] h (.ay [.vs [] .full, .int .i64 11]) h:=by
 obtain⟨A,S,hg,hu⟩:=S
 exact aiW ok S (id:=id) (off:=off) (n:=n) (e:=11) (by unfold rE;rw[hg,hd];simp only[Option.map_some,wT];rw[if_pos aE]) (by omega)
def tz (d:List UInt8) (off:Nat) (v:List UInt8):List UInt8:=d.take off++v++d.drop (off+v.length)
theorem SG.write (ok:ax P tb) (S:SG h bs bm bl bp M g) {id off:Nat} {d v:List UInt8} {t:aH} (hd:g id=some d) (aE:off+v.length<=d.length): ∃h',an P 43 [.ptr bs 0, .int .u64 id, .int .i64 off, .vs (BS v) t] h (.int .i64 0) h'/\SG h' bs bm bl bp M (iD g id (some (tz d off v)))/\yy h h' bl bp:=by
 obtain⟨A,S,hg,hu⟩:=S
 obtain⟨h',c,S',h1,h2⟩:=anp ok S (id:=id) (off:=off) (vs:=bI v) (d:=bI d) (tl:=t) (by unfold rE;rw[hg,hd];simp only[Option.map_some,wT];rw[if_neg (by omega)])
 rw[Zq] at c
 refine⟨h',c,⟨_,S',?_,?_⟩,h1,fun b hb k1 _=>h2 b hb k1⟩
 ·intro x
  rw[Zs,iD,hg]
  by_cases e:x=id
  ·rw[if_pos (by omega),if_pos e,hd]
   simp[tz,bI,List.map_take,List.map_drop]
  ·rw[if_neg (by omega),if_neg e,hg]
 ·rw[YE]
  ·exact hu
  ·intro d' nR
   have:=ama S.keys nR
   rw[hg,hd] at this
   cases this
   rw[wT,wT];exact aE
theorem SG.akX (ok:ax P tb) (S:SG h bs bm bl bp M g) {id:Nat} {off:Int} {d v:List UInt8} {t:aH} (hd:g id=some d) (aE:off<0\/(d.length:Int)<off\/(d.length:Int)-off<v.length):an P 43 [.ptr bs 0, .int .u64 id, .int .i64 off, .vs (BS v) t] h (.int .i64 11) h:=by
 obtain⟨A,S,hg,hu⟩:=S
 refine aia ok S (id:=id) (off:=off) (e:=11) ?_ (by omega)
 unfold rE
 rw[hg,hd]
 simp only[Option.map_some,wT,bM]
 rw[if_pos (by rcases aE with h|h|h<;>omega)]
end
section
open Go
variable {P:Program} {h:aa}
structure Th where
 ak:Lb
 st:St
 own:Int
 dw:Int
 id:Nat
 to:Nat
 done:Int
 n:Int
 new:Bool
 deriving DecidableEq
def Th.c (x:Th) (t:Nat->aH):List AV:=[.int .u8 x.ak.d, .vs (aw.R x.ak.ps) (t 0), .vs ((aJ .u16).R x.st.s) (t 1), .vs ((aJ .u16).R x.st.i) (t 2), .vs ((aJ .u16).R x.st.o) (t 3), .int .i64 x.own, .int .i64 x.dw, .int .u64 x.id, .int .u64 x.to, .int .i64 x.done, .int .i64 x.n, .bool x.new]
def aU:Nat->aH:=fun i=>if i=0 then .ao else .full
def aZ (τ:Nat->aH) (l:List Th):List (List AV):=l.map fun x=>x.c τ
theorem ma {τ:Nat->aH} {l:List Th}: ∀r∈aZ τ l,r.length=12:=fun r hr=>by
 obtain⟨x,_,rfl⟩:=List.mem_map.1 hr;rfl
theorem jh {τ:Nat->aH} {l:List Th}:(aZ τ l).length=l.length:=by simp[aZ]
theorem YM {τ:Nat->aH} {l:List Th} {i:Nat} (hi:i<l.length):(aZ τ l)[i]? =some (l[i].c τ):=by simp[aZ,List.getElem?_eq_getElem hi]
def bh (l:List Ob) (id:Nat):Option Ob:=l.find? fun o=>o.id==id
structure jf (o:Ob):Prop where
 ok:JS o
 may:fv o=true
 norm:i5 o=o
structure KS (ah:List Ob):Prop where
 cF:ah.Pairwise (·.id< ·.id)
 val: ∀o∈ah,jf o
theorem lf {l:List Ob} {id:Nat} {o:Ob} (h:bh l id=some o):o∈l/\o.id=id:=⟨List.mem_of_find?_eq_some h,by simpa using List.find?_some h⟩
theorem lg {l:List Ob} (hs:l.Pairwise (·.id< ·.id)) {o:Ob} (ho:o∈l):bh l o.id=some o:=by
 induction l with
 |nil=>cases ho
 |cons x l ih=>
  have iH:=List.pairwise_cons.1 hs
  unfold bh at ih ⊢
  rw[List.find?_cons]
  rcases List.mem_cons.1 ho with rfl|ho
  ·simp
  ·have:=iH.1 o ho
   have hf:(x.id==o.id)=false:=by simp;omega
   rw[hf];exact ih iH.2 ho
def z9 (f:Nat->Option (List UInt8)) (ah:List Ob):Prop:= ∀id,match bh ah id with
 |none=>f id=none
 |some o=> ∃d,d.length=o.data.length/\f id=some (gG {o with data:=d})
def eB (ah:List Ob) (id:Nat):Option (List UInt8):=(bh ah id).bind fun o=>if o.kind=2 then some o.data else none
structure KA where
 kb:Nat
 tb:Nat
 ab:Nat
 mb:Nat
 bs:Nat
 bm:Nat
 bl:Nat
 bp:Nat
def FK (a:KA) (b:Nat):Prop:=b=a.kb\/b=a.tb
def FA (a:KA) (lb b:Nat):Prop:=b=a.ab\/b=a.mb\/b=lb
def FS (a:KA) (b:Nat):Prop:=b=a.bs\/b=a.bm\/b=a.bl\/b=a.bp
structure KH (h:aa) (a:KA) (lb N M:Nat) (ai:List Th) (ah:List Ob) (g:Nat->Option (List UInt8)):Prop where
 top:h.get a.kb=some (.cells [.rs a.tb 0 ai.length 12, .ptr a.ab 0, .ptr a.bs 0])
 cu:h.get a.tb=some (.cells (aZ aU ai).flatten)
 ar: ∃f,AA h a.ab a.mb lb 1 N f/\z9 f ah
 sp:SG h a.bs a.bm a.bl a.bp M g
 l1:a.kb<h.next
 l2:a.tb<h.next
 AY:a.kb≠a.tb
 kZ: ∀b,FA a lb b-> ¬FS a b
 kY: ∀b,FK a b-> ¬FA a lb b
 nU: ∀b,FK a b-> ¬FS a b
 ks:KS ah
def KF (h h':aa) (a:KA) (lb:Nat):Prop:=h.next<=h'.next/\ ∀b,b<h.next-> ¬FK a b-> ¬FA a lb b-> ¬FS a b->h'.get b=h.get b
variable {a:KA} {lb N M:Nat} {ai:List Th} {ah:List Ob} {g:Nat->Option (List UInt8)}
theorem KH.bN (K:KH h a lb N M ai ah g) {h':aa} (hn:h.next<=h'.next) (hk: ∀b,b<h.next->FK a b\/FA a lb b\/FS a b->h'.get b=h.get b) {N' M':Nat} (hN:N<=N') (hM:M<=M'):KH h' a lb N' M' ai ah g:=by
 obtain⟨f,A,R⟩:=K.ar
 have S:=K.sp
 refine⟨by rw[hk _ K.l1 (.inl (.inl rfl)),K.top],by rw[hk _ K.l2 (.inl (.inr rfl)),K.cu],⟨f,A.bN hn (hk _ A.lt.1 (.inr (.inl (.inl rfl)))) (hk _ A.lt.2.1 (.inr (.inl (.inr (.inl rfl))))) (fun hl=>hk _ hl (.inr (.inl (.inr (.inr rfl))))) hN,R⟩,
  S.bN hn (hk _ S.lt.1 (.inr (.inr (.inl rfl)))) (hk _ S.lt.2.1 (.inr (.inr (.inr (.inl rfl))))) (hk _ S.lt.2.2.1 (.inr (.inr (.inr (.inr (.inl rfl)))))) (hk _ S.lt.2.2.2 (.inr (.inr (.inr (.inr (.inr rfl)))))) hM,Nat.lt_of_lt_of_le K.l1 hn,Nat.lt_of_lt_of_le K.l2 hn,K.AY,K.kZ,K.kY,K.nU,K.ks⟩
theorem KH.old (K:KH h a lb N M ai ah g) {h':aa} (o:Old h h'):KH h' a lb N M ai ah g:=K.bN o.next (fun b hb _=>o.get b hb) (Nat.le_refl _) (Nat.le_refl _)
theorem KF.refl:KF h h a lb:=⟨Nat.le_refl _,fun _ _ _ _ _=>rfl⟩
theorem KF.old {h':aa} (o:Old h h'):KF h h' a lb:=⟨o.next,fun b hb _ _ _=>o.get b hb⟩
theorem KF.trans {h1 h2:aa} {aR:Nat} (x:KF h h1 a lb) (y:KF h1 h2 a aR) (hl:aR=lb\/h.next<=aR):KF h h2 a lb:=⟨Nat.le_trans x.1 y.1,fun b hb h1 h2 h3=>by
 have:=x.1
 rw[y.2 b (by omega) h1 ?_ h3,x.2 b hb h1 h2 h3]
 rintro(e|e|e)
 ·exact h2 (.inl e)
 ·exact h2 (.inr (.inl e))
 ·rcases hl with hl|hl
  ·exact h2 (.inr (.inr (e.trans hl)))
  ·omega⟩
theorem GN (ok:ax P tb) {x m:Int}:an P 26 [.int .i64 x, .int .i64 m] h (.bool (decide (0<=x)&&decide (x<=m))) h:=by
 refine ok.keeps (rf:=Be) rfl (Nat.le_of_ble_eq_true rfl) rfl ?_
 by_cases h0:0<=x
 ·simp+decide only[st,xv,Be,Sr,Sq,h0]
 ·simp+decide only[st,xv,Be,Sr,Sq,h0]
  simp
theorem Gd (ok:ax P tb) {l:Lb} {t:aH} (hl:l.ps.length<2^30):an P 29 [.agg (l.c t)] h (.agg (l.c .ao)) h:=by
 refine ok.eH (rf:=Bd) rfl (Nat.le_of_ble_eq_true rfl) (by simp only[Lb.c,AV.bD,AV.cf,aw.iB];rfl) ?_
 simp+decide only[st,xv,Bd,afT,Lb.c]
 generalize hX:aa.at _ _ _=X
 have xo:Old h X:=by rw[<-hX];exact((Old.refl h).at (Nat.le_refl _)).at (by omega)
 have x0:cellsOf X h.next=some [.int .u8 l.d, .vs (aw.R l.ps) t]:=by rw[<-hX];exact av (by simp[aa.at])
 have x1:cellsOf X (h.next+1)=some [.int .u8 0, .vs [] .full]:=by rw[<-hX];exact av (by simp[aa.at])
 have xn:X.next=h.next+2:=by rw[<-hX];simp[aa.at]
 have n0:h.next<X.next:=by omega
 have n1:h.next+1<X.next:=by omega
 refine qT 5 7 rfl (by omega) rfl ?_
 simp+decide only[st,xv,Bd,afS,x0,x1,n0,n1]
 refine hP (MI aw ok rfl (l:=l.ps) (t:=t) (by omega) (by omega)) (cO (Nat.le_refl _)) ?_
 simp+decide only[st,xv,x0,x1,n0,n1,bB]
 refine⟨(jw n1).2 (cO (Nat.le_refl _)),?_⟩
 refine⟨by simp only[AV.strip,AV.bG,aw.ft],fun b hb=>?_⟩
 rw[if_neg (by omega),if_pos (by omega)]
 exact xo.get b hb
theorem LQ {o:Ob} (hm:fv o=true):(gG o).length<990:=by
 have hl:=Gv (LS hm).1
 have hp:=By (l:=o.ak)
 have ht:(jV o).length<300:=by
  unfold jV
  split
  ·simp[bO]
  split
  ·rename_i h2;have:=sM hm h2;simp[cP,bO];omega
  split
  ·rename_i h3;have:=Gy (Ge hm h3);rw[Br];omega
  ·rename_i h1 h2 h3
   have h4:o.kind=4:=by rcases uh hm with h|h|h|h<;>first|exact absurd h ‹_› |exact h
   have gN:=wb (yM hm h4)
   have bT: ∀(m:List (List UInt8)),(∀x∈m,x.length<=16)->(m.flatMap cP).length<=18*m.length:=by
    intro m
    induction m with
    |nil=>intro _;simp
    |cons c m ih=>
     intro hm
     have h1:=ih (fun x hx=>hm x (List.mem_cons_of_mem _ hx))
     have h2:=hm c (List.mem_cons_self ..)
     simp only[List.flatMap_cons,List.length_append,cP,bO,List.length_cons] at h1 ⊢;omega
   have:=bT o.ring gN.2
   unfold iZ
   rw[List.length_append,bO];omega
 unfold gG
 simp only[List.length_append,List.length_cons,List.length_nil,bO,hp];omega
theorem jf.data {o:Ob} (v:jf o) {d:List UInt8} (hd:d.length=o.data.length):jf {o with data:=d}:=by
 have hm:fv {o with data:=d}=fv o:=by
  unfold fv p9 m7
  simp only[hd]
 refine⟨⟨v.ok.ak,v.ok.id,v.ok.bX,v.ok.ring,v.ok.cat⟩,by rw[hm];exact v.may,?_⟩
 have hn:=v.norm
 cases o with
 |mk J0 kind ak bd used next data bX ring st=>
  unfold i5 at hn ⊢
  simp only at hn hd ⊢
  by_cases h2:kind=2
  ·have h1: ¬kind=1:=by omega
   rw[if_neg h1,if_pos h2] at hn ⊢
   simp only[Ob.mk.injEq,bf] at hn ⊢
   obtain⟨e1,e2,e3,e4,e5,e6,e7,e8,e9,Fy⟩:=hn
   exact⟨trivial,trivial,trivial,e4,e5,e6,trivial,e8,e9,Fy⟩
  ·have:data=[]:=by
    split at hn
    ·simp only[Ob.mk.injEq] at hn;exact hn.2.2.2.2.2.2.1.symm
    ·split at hn<;>(simp only[Ob.mk.injEq,bf] at hn;exact hn.2.2.2.2.2.2.1.symm)
   subst this
   have:d=[]:=List.length_eq_zero_iff.1 hd
   subst this
   exact hn
theorem jf.anH {o:Ob} (v:jf o) (h2:o.kind≠2):o.data=[]:=by
 have hn:=v.norm
 cases o with
 |mk J0 kind ak bd used next data bX ring st=>
  unfold i5 at hn
  simp only at hn h2 ⊢
  split at hn
  ·simp only[Ob.mk.injEq] at hn;exact hn.2.2.2.2.2.2.1.symm
  ·split at hn<;>(simp only[Ob.mk.injEq,bf] at hn;exact hn.2.2.2.2.2.2.1.symm)
theorem JE (ok:ax P tb) (K:KH h a lb N M ai ah (eB ah)) {id:Nat}:an P 32 [.ptr a.kb 0, .int .u64 id] h (match bh ah id with|some o=> .ay [.agg (o.c aK), .bool true]|none=> .ay [.agg (bf.c aK), .bool false]) h:=by
 refine ok.eH (rf:=pH) rfl (Nat.le_of_ble_eq_true rfl) (by split<;>(simp only[AV.bD,AV.cf,ux];rfl)) ?_
 have c0:=av K.top
 have l1:=K.l1
 have hnk: ¬a.kb=h.next:=by omega
 simp+decide only[st,xv,pH,afK,Jf,c0,hnk]
 generalize hX:aa.at _ _ _=X
 have xo:Old h X:=by rw[<-hX];exact(Old.refl h).at (Nat.le_refl _)
 have Uk:cellsOf X h.next=some (bf.c (gj .full .full .full .full)):=by rw[<-hX];exact av (by simp[aa.at];rfl)
 have xn:X.next=h.next+1:=by rw[<-hX];simp[aa.at]
 have KX:=K.old xo
 obtain⟨f,A,R⟩:=KX.ar
 refine au (A.get ok) ?_
 have hR:=R id
 cases ho:bh ah id with
 |none=>
  rw[ho] at hR
  simp only at hR
  rw[hR]
  simp only[bf,Ob.c,gj,qk] at Uk
  simp+decide only[st,xv,pH,Jf,Se,afJ,Uk,xr,bB]
  refine⟨?_,fun b hb=>?_⟩
  ·rfl
  ·rw[if_neg (by omega)];exact xo.get b hb
 |some o=>
  rw[ho] at hR
  simp only at hR
  obtain⟨d,hd,hf⟩:=hR
  rw[hf]
  have v:=(KX.ks.val o (lf ho).1)
  have vd:=v.data hd
  simp+decide only[st,xv,pH,Jf,Se,Sd]
  refine au (aim ok vd.ok vd.may vd.norm) ?_
  simp+decide only[st,xv,pH,Sd,afI,Ob.c,xr]
  generalize hY:aa.set _ _ _=Y
  have yo:Old X Y:=by rw[<-hY];exact((Old.refl X).at (Nat.le_refl _)).set (Nat.le_refl _)
  have y0:cellsOf Y h.next=some (bf.c (gj .full .full .full .full)):=by rw[<-Uk];unfold cellsOf;rw[yo.get _ (by omega)]
  have y1:cellsOf Y (h.next+1)=some (Ob.c {o with data:=d} aK):=by rw[<-hY,<-xn];exact av (by simp[aa.set,Ob.c])
  have yn:Y.next=h.next+2:=by rw[<-hY];simp[aa.at,aa.set];omega
  simp only[bf,Ob.c,gj,qk] at y0
  simp only[Ob.c] at y1
  have KY:=KX.old yo
  have c0Y:=av KY.top
  have nb: ¬(h.next=h.next+1):=by omega
  have fin: ∀{ρ:Env} {Z:aa} {t':Nat->aH},ρ 4= .ptr h.next 0->ρ 8= .ptr (h.next+1) 0->cellsOf Z h.next=some (bf.c (gj .full .full .full .full))->cellsOf Z (h.next+1)=some (o.c t')->(∀b,b<h.next->Z.get b=h.get b)->
   exec P R9 ρ Z (jl (WP P .ret (uJ [.cell 4 true 13, .tmp 5] (.ay [.agg (o.c aK), .bool true]) h)) (uJ [.cell 4 true 13, .tmp 5] (.ay [.agg (o.c aK), .bool true]) h) .normal):=by
   intro ρ Z t' r4 r8 z0 z1 zo
   simp only[bf,Ob.c,gj,qk] at z0
   simp only[Ob.c] at z1
   simp+decide only[st,xv,pH,R9,r4,r8,z0,z1,xr,bB]
   refine⟨?_,fun b hb=>?_⟩
   ·show(AV.ay [.agg (o.c t'), .bool true]).strip=_
    simp only[AV.strip,AV.bG,yO]
   ·rw[if_neg (by omega)];exact zo b hb
  by_cases h2:o.kind=2
  ·have oS:eB ah id=some o.data:=by unfold eB;rw[ho];simp[h2]
   have hk:(o.kind=2)=True:=eq_true h2
   rw[xn]
   simp+decide only[st,xv,pH,Sb,hk,c0Y]
   refine au (KY.sp.len ok oS) ?_
   simp+decide only[st,xv,pH,Sb,Sa,c0Y]
   have jI:=KY.sp.read ok (off:=0) (n:=o.data.length) oS (by omega)
   rw[List.drop_zero,List.take_of_length_le (Nat.le_refl _)] at jI
   refine au jI ?_
   simp+decide only[st,xv,pH,Sa,y1,xr]
   refine fin (t':=aK) rfl rfl ?_ ?_ fun b hb=>?_
   ·rw[show cellsOf (Y.set _ _) h.next=cellsOf Y h.next by simp only[cellsOf,aa.set];rw[if_neg nb],y0];rfl
   ·exact av (by simp[aa.set];rfl)
   ·simp only[aa.set]
    rw[if_neg (by omega),yo.get b (by omega),xo.get b hb]
  ·have pt:d=o.data:=by
    have:=v.anH h2
    rw[this] at hd ⊢
    exact List.length_eq_zero_iff.1 hd
   subst pt
   have hk:(o.kind=2)=False:=eq_false h2
   rw[xn]
   simp+decide only[st,xv,hk]
   exact fin (t':=aK) rfl rfl (by rw[y0];rfl) (by rw[y1];rfl) (fun b hb=>by rw[yo.get b (by omega),xo.get b hb])
def dj:List Ob->Ob->List Ob
 |[],o=>[o]
 |x::l,o=>if o.id<x.id then o::x::l else if x.id=o.id then o::l else x::dj l o
theorem Bz {o x:Ob}: ∀{l:List Ob},x∈dj l o->x=o\/x∈l
 |[],h=>by simpa [dj] using h
 |y::l,h=>by
  unfold dj at h
  split at h
  ·simpa using h
  split at h
  ·rcases List.mem_cons.1 h with h|h
   ·exact .inl h
   ·exact .inr (List.mem_cons_of_mem _ h)
  ·rcases List.mem_cons.1 h with h|h
   ·exact .inr (by simp[h])
   ·rcases Bz h with h|h
    ·exact .inl h
    ·exact .inr (List.mem_cons_of_mem _ h)
theorem Gr {o:Ob}: ∀{l:List Ob},l.Pairwise (·.id< ·.id)->(dj l o).Pairwise (·.id< ·.id)
 |[],_=>by simp[dj]
 |y::l,h=>by
  have h':=List.pairwise_cons.1 h
  unfold dj
  split
  ·rename_i aD
   refine List.pairwise_cons.2 ⟨fun z hz=>?_,h⟩
   rcases List.mem_cons.1 hz with rfl|hz
   ·exact aD
   ·have:=h'.1 z hz;omega
  split
  ·rename_i he
   exact List.pairwise_cons.2 ⟨fun z hz=>by have:=h'.1 z hz;omega,h'.2⟩
  ·refine List.pairwise_cons.2 ⟨fun z hz=>?_,Gr h'.2⟩
   rcases Bz hz with rfl|hz
   ·omega
   ·exact h'.1 z hz
theorem oh {o:Ob} {id:Nat}: ∀{l:List Ob},l.Pairwise (·.id< ·.id)->bh (dj l o) id=if id=o.id then some o else bh l id
 |[],_=>by
  unfold dj bh
  rw[List.find?_cons]
  by_cases h:id=o.id
  ·rw[if_pos h];simp[h]
  ·rw[if_neg h]
   have:(o.id==id)=false:=by simp;omega
   rw[this]
 |y::l,hs=>by
  have h':=List.pairwise_cons.1 hs
  have ih:=oh (o:=o) (id:=id) h'.2
  unfold dj
  unfold bh at ih ⊢
  split
  ·rw[List.find?_cons]
   by_cases h:id=o.id
   ·rw[if_pos h];simp[h]
   ·rw[if_neg h]
    have:(o.id==id)=false:=by simp;omega
    rw[this]
  split
  ·rename_i he
   rw[List.find?_cons]
   by_cases h:id=o.id
   ·rw[if_pos h];simp[h]
   ·rw[if_neg h]
    have:(o.id==id)=false:=by simp;omega
    rw[this,List.find?_cons]
    have:(y.id==id)=false:=by simp;omega
    rw[this]
  ·rename_i he
   rw[List.find?_cons,List.find?_cons]
   by_cases h:y.id=id
   ·have:(y.id==id)=true:=by simpa using h
    rw[this,if_neg (by omega)]
   ·have:(y.id==id)=false:=by simpa using h
    rw[this];exact ih
theorem KS.put {o:Ob} (k:KS ah) (v:jf o):KS (dj ah o):=by
 refine⟨Gr k.cF,fun x hx=>?_⟩
 rcases Bz hx with rfl|hx
 ·exact v
 ·exact k.val x hx
end
section
open Go
variable {P:Program} {h:aa} {a:KA} {lb N M:Nat} {ai:List Th} {ah:List Ob} {g:Nat->Option (List UInt8)}
theorem YD {o:Ob} (k:KS ah) {id:Nat}:eB (dj ah o) id=if id=o.id then(if o.kind=2 then some o.data else none) else eB ah id:=by
 unfold eB
 rw[oh k.cF]
 by_cases e:id=o.id
 ·rw[if_pos e,if_pos e];rfl
 ·rw[if_neg e,if_neg e]
theorem z9.put {f:Nat->Option (List UInt8)} {o:Ob} (k:KS ah) (R:z9 f ah) {d:List UInt8} (hd:d.length=o.data.length):z9 (iD f o.id (some (gG {o with data:=d}))) (dj ah o):=by
 intro id
 rw[oh k.cF]
 unfold iD
 by_cases e:id=o.id
 ·rw[if_pos e,if_pos e]
  exact⟨d,hd,rfl⟩
 ·rw[if_neg e,if_neg e]
  exact R id
theorem yy.kf {h h':aa} {a:KA} {lb:Nat} (s:yy h h' a.bl a.bp):KF h h' a lb:=⟨s.1,fun b hb _ _ h3=>s.2 b hb (fun e=>h3 (.inr (.inr (.inl e)))) (fun e=>h3 (.inr (.inr (.inr e))))⟩
theorem jg.kf {h h':aa} {a:KA} {lb:Nat} (s:jg h h' a.ab a.mb lb):KF h h' a lb:=⟨s.1,fun b hb _ h2 _=>s.2 b hb (fun e=>h2 (.inl e)) (fun e=>h2 (.inr (.inl e))) (fun e=>h2 (.inr (.inr e)))⟩
theorem KH.agS (K:KH h a lb N M ai ah g) {h':aa} {aR N':Nat} {f':Nat->Option (List UInt8)} {Ad:List Ob} (s:jg h h' a.ab a.mb lb) (hl:aR=lb\/h.next<=aR) (A:AA h' a.ab a.mb aR 1 N' f') (R:z9 f' Ad) (ks:KS Ad):KH h' a aR N' M ai Ad g:=by
 have e: ∀b,FS a b\/FK a b->b<h.next->h'.get b=h.get b:=by
  intro b hb aD
  refine s.2 b aD ?_ ?_ ?_<;>intro e<;>rcases hb with hb|hb
  ·exact K.kZ b (.inl e) hb
  ·exact K.kY b hb (.inl e)
  ·exact K.kZ b (.inr (.inl e)) hb
  ·exact K.kY b hb (.inr (.inl e))
  ·exact K.kZ b (.inr (.inr e)) hb
  ·exact K.kY b hb (.inr (.inr e))
 have S:=K.sp
 refine⟨by rw[e _ (.inr (.inl rfl)) K.l1,K.top],by rw[e _ (.inr (.inr rfl)) K.l2,K.cu],⟨f',A,R⟩,S.bN s.1 (e _ (.inl (.inl rfl)) S.lt.1) (e _ (.inl (.inr (.inl rfl))) S.lt.2.1) (e _ (.inl (.inr (.inr (.inl rfl)))) S.lt.2.2.1) (e _ (.inl (.inr (.inr (.inr rfl)))) S.lt.2.2.2) (Nat.le_refl _),
  Nat.lt_of_lt_of_le K.l1 s.1,Nat.lt_of_lt_of_le K.l2 s.1,K.AY,fun b hb hs=>?_,fun b hb ha=>?_,K.nU,ks⟩
 ·rcases hb with hb|hb|hb
  ·exact K.kZ b (.inl hb) hs
  ·exact K.kZ b (.inr (.inl hb)) hs
  ·rcases hl with hl|hl
   ·exact K.kZ b (.inr (.inr (hb.trans hl))) hs
   ·have:=S.lt
    rcases hs with hs|hs|hs|hs<;>omega
 ·rcases ha with ha|ha|ha
  ·exact K.kY b hb (.inl ha)
  ·exact K.kY b hb (.inr (.inl ha))
  ·rcases hl with hl|hl
   ·exact K.kY b hb (.inr (.inr (ha.trans hl)))
   ·have:=K.l1
    have:=K.l2
    rcases hb with hb|hb<;>omega
theorem KH.H7 (K:KH h a lb N M ai ah g) {h':aa} {M':Nat} {g':Nat->Option (List UInt8)} (s:yy h h' a.bl a.bp) (S:SG h' a.bs a.bm a.bl a.bp M' g'):KH h' a lb N M' ai ah g':=by
 have e: ∀b,FA a lb b\/FK a b->b<h.next->h'.get b=h.get b:=by
  intro b hb aD
  refine s.2 b aD ?_ ?_<;>intro e<;>rcases hb with hb|hb
  ·exact K.kZ b hb (.inr (.inr (.inl e)))
  ·exact K.nU b hb (.inr (.inr (.inl e)))
  ·exact K.kZ b hb (.inr (.inr (.inr e)))
  ·exact K.nU b hb (.inr (.inr (.inr e)))
 obtain⟨f,A,R⟩:=K.ar
 exact⟨by rw[e _ (.inr (.inl rfl)) K.l1,K.top],by rw[e _ (.inr (.inr rfl)) K.l2,K.cu],⟨f,A.bN s.1 (e _ (.inl (.inl rfl)) A.lt.1) (e _ (.inl (.inr (.inl rfl))) A.lt.2.1) (fun hl=>e _ (.inl (.inr (.inr rfl))) hl) (Nat.le_refl _),R⟩,S,
  Nat.lt_of_lt_of_le K.l1 s.1,Nat.lt_of_lt_of_le K.l2 s.1,K.AY,K.kZ,K.kY,K.nU,K.ks⟩
theorem KH.fn (K:KH h a lb N M ai ah g) {g':Nat->Option (List UInt8)} (hg: ∀x,g x=g' x):KH h a lb N M ai ah g':=by
 have:g=g':=funext hg
 rw[<-this];exact K
theorem ag0 (ok:ax P tb) (K:KH h a lb N M ai ah (eB ah)) {o:Ob} {t:Nat->aH} (v:jf o) (hs: ∀o',bh ah o.id=some o'->o'.kind≠2/\o.kind≠2) (hN:N<2^19) (hM:M<128):
 ∃h',an P 30 [.ptr a.kb 0, .agg (o.c t)] h (.ay []) h'/\ ∃aR,KH h' a aR (N+1) (if o.kind=2 then M+1 else M) ai (dj ah o) (eB (dj ah o))/\(aR=lb\/h.next<=aR)/\KF h h' a lb:=by
 suffices hu: ∃h',an P 30 [.ptr a.kb 0, .agg (o.c aK)] h (.ay []) h'/\ ∃aR,KH h' a aR (N+1) (if o.kind=2 then M+1 else M) ai (dj ah o) (eB (dj ah o))/\(aR=lb\/h.next<=aR)/\KF h h' a lb by
  obtain⟨h',c,hq⟩:=hu
  exact⟨h',an.ao (by simp only[AV.bG,Mw];exact c),hq⟩
 refine ok.dT (rf:=mR) rfl (Nat.le_of_ble_eq_true rfl) ?_
 have l1:=K.l1
 simp+decide only[st,xv,mR,afR,Ob.c]
 generalize hX:aa.at _ _ _=X
 have xo:Old h X:=by rw[<-hX];exact(Old.refl h).at (Nat.le_refl _)
 have x0:cellsOf X h.next=some (o.c aK):=by rw[<-hX];exact av (by simp[aa.at,Ob.c])
 have xn:X.next=h.next+1:=by rw[<-hX];simp[aa.at]
 have KX:=K.old xo
 have UE:=K.sp.lt
 obtain⟨f,A0,_⟩:=K.ar
 have ltA:=A0.lt
 have nK: ∀b,FK a b->b<h.next:=fun b hb=>by
  have:=K.l2
  rcases hb with hb|hb<;>omega
 have nA: ∀b,FA a lb b->b<h.next:=fun b hb=>by rcases hb with hb|hb|hb<;>omega
 have nS: ∀b,FS a b->b<h.next:=fun b hb=>by rcases hb with hb|hb|hb|hb<;>omega
 simp only[Ob.c] at x0
 simp+decide only[st,xv,mR,Sm,x0]
 refine au (WX ok (o:=o) (t:=aK) v.ok) ?_
 have hp:wX o= .ay [.vs (BS (gG o)) .ao, .int .i64 0]:=by unfold wX;rw[v.may,if_pos rfl]
 rw[hp]
 simp+decide only[st,xv,mR,Sm]
 refine bU 8 rfl rfl ?_
 have c0:=av KX.top
 have lX:a.kb<X.next:=by omega
 have Fp:h.next<X.next:=by omega
 simp+decide only[st,xv,mR,Jg,c0,x0,lX,Fp]
 have KC:=KX.old ((Old.refl X).clean (n:=8))
 obtain⟨f,A,R⟩:=KC.ar
 obtain⟨rec,lL⟩: ∃rec,gG o=1::rec:=⟨_,rfl⟩
 have ir:=LQ v.may
 obtain⟨h1,c1,gA,A1,ej,k1⟩:=A.put ok (id:=o.id) (x:=1) (rec:=rec) (t:= .ao) v.ok.id rfl (by rw[lL] at ir;simp at ir;omega) hN
 rw[<-lL] at c1 A1
 refine fj c1 (fun j hj hn=>by omega) ?_
 have kf0:KF h (X.clean 8) a lb:=KF.old (xo.trans ((Old.refl X).clean))
 have kn:=kf0.1
 have ik:KF h h1 a lb:=kf0.trans k1.kf (.inl rfl)
 have K1:KH h1 a gA (N+1) M ai (dj ah o) (eB ah):=KC.agS k1 ej A1 (R.put KC.ks rfl) (KC.ks.put v)
 have x1:cellsOf h1 h.next=some (o.c aK):=by
  rw[show cellsOf h1 h.next=cellsOf X h.next from ?_,x0];rfl
  unfold cellsOf
  rw[k1.2 _ (by simp[aa.clean];omega) (by omega) (by omega) (by omega)]
  simp only[aa.clean]
  rw[if_pos Fp]
 simp only[Ob.c] at x1
 have k11:=k1.1
 have xc8:(X.clean 8).next=X.next+8:=rfl
 have JI:gA=lb\/h.next<=gA:=by
  rcases ej with e|e
  ·exact .inl e
  ·exact .inr (by omega)
 by_cases h2:o.kind=2
 ·have hk:(o.kind=2)=True:=eq_true h2
  simp+decide only[st,xv,mR,Jg,Sk,x1,hk]
  refine bU 10 rfl rfl ?_
  have c1:=av K1.top
  have ln:=K1.l1
  have pk:h.next<h1.next:=by omega
  simp+decide only[st,xv,mR,Sj,x1,c1,ln,pk,bM]
  have K2:=K1.old ((Old.refl h1).clean (n:=10))
  have yh:=sM v.may h2
  have Il:eB ah o.id=none:=by
   unfold eB
   cases ho:bh ah o.id with
   |none=>rfl
   |some o'=>exact absurd h2 (hs o' ho).2
  obtain⟨e2,fT,c2,S2,k2⟩:=K2.sp.map ok (id:=o.id) yh hM
  rw[Il,Option.isSome_none,if_neg (by simp)] at S2
  refine fj c2 (fun j hj hn=>by omega) ?_
  have K3:=K2.H7 k2 S2
  have kQ:KF h1 fT a gA:=(KF.old ((Old.refl h1).clean (n:=10))).trans k2.kf (.inl rfl)
  have avh:=ik.trans kQ JI
  have x2:cellsOf fT h.next=some (o.c aK):=by
   rw[show cellsOf fT h.next=cellsOf h1 h.next from ?_,x1];rfl
   unfold cellsOf
   rw[kQ.2 _ pk (fun hb=>by have:=nK _ hb;omega) (fun hb=>by rcases hb with hb|hb|hb<;>omega) (fun hb=>by have:=nS _ hb;omega)]
  simp only[Ob.c] at x2
  have vJ:h.next<fT.next:=by have:=kQ.1;omega
  have c3:=av K3.top
  have l3:=K3.l1
  simp+decide only[st,xv,mR,Sj]
  refine bU 9 rfl rfl ?_
  simp+decide only[st,xv,mR,Si,x2,c3,l3,vJ]
  have K4:=K3.old ((Old.refl fT).clean (n:=9))
  obtain⟨h3,c4,S4,k4⟩:=K4.sp.write ok (id:=o.id) (off:=0) (v:=o.data) (t:= .ao) (by unfold iD;rw[if_pos rfl]) (by simp)
  refine fj c4 (fun j hj hn=>by omega) ?_
  simp+decide only[st,xv,mR,Si]
  have K5:=K4.H7 k4 S4
  have vD:KF fT h3 a gA:=(KF.old ((Old.refl fT).clean (n:=9))).trans k4.kf (.inl rfl)
  refine⟨rfl,gA,K5.fn fun x=>?_,JI,avh.trans vD JI⟩
  rw[YD KC.ks,if_pos h2]
  unfold iD
  by_cases e:x=o.id
  ·rw[if_pos e,if_pos e]
   simp[tz]
  ·rw[if_neg e,if_neg e,if_neg e]
 ·have hk:(o.kind=2)=False:=eq_false h2
  simp+decide only[st,xv,mR,Jg,Sk,x1,hk]
  refine⟨rfl,gA,K1.fn fun x=>?_,JI,ik⟩
  rw[YD KC.ks,if_neg h2]
  by_cases e:x=o.id
  ·rw[if_pos e,e]
   unfold eB
   cases ho:bh ah o.id with
   |none=>rfl
   |some o'=>simp[(hs o' ho).1]
  ·rw[if_neg e]
end
section
open Go
variable {P:Program} {h:aa} {a:KA} {lb N M:Nat} {ai:List Th} {ah:List Ob} {g:Nat->Option (List UInt8)}
def qa (l:List Ob) (id:Nat):List Ob:=l.filter fun o=>!(o.id==id)
theorem FZ {id x:Nat}: ∀{l:List Ob},bh (qa l id) x=if x=id then none else bh l x
 |[]=>by simp[bh,qa]
 |o::l=>by
  have ih:=FZ (id:=id) (x:=x) (l:=l)
  unfold bh qa at*
  rw[List.filter_cons]
  by_cases h:o.id=id
  ·have:(!(o.id==id))=false:=by simpa using h
   rw[this,if_neg (by simp),ih]
   by_cases hx:x=id
   ·rw[if_pos hx,if_pos hx]
   ·rw[if_neg hx,if_neg hx,List.find?_cons]
    have:(o.id==x)=false:=by simp;omega
    rw[this]
  ·have:(!(o.id==id))=true:=by simpa using h
   rw[this,if_pos rfl,List.find?_cons,List.find?_cons]
   by_cases hx:o.id=x
   ·have:(o.id==x)=true:=by simpa using hx
    rw[this,if_neg (by omega)]
   ·have:(o.id==x)=false:=by simpa using hx
    rw[this];exact ih
theorem KS.del (k:KS ah) {id:Nat}:KS (qa ah id):=⟨k.cF.sublist (List.filter_sublist ..),fun o ho=>k.val o (List.mem_filter.1 ho).1⟩
theorem alY {id x:Nat}:eB (qa ah id) x=if x=id then none else eB ah x:=by
 unfold eB
 rw[FZ]
 by_cases e:x=id
 ·rw[if_pos e,if_pos e];rfl
 ·rw[if_neg e,if_neg e]
theorem arb (ok:ax P tb) (K:KH h a lb N M ai ah (eB ah)) {id:Nat}:
 ∃h',an P 104 [.ptr a.kb 0, .int .u64 id] h (.ay []) h'/\KH h' a lb N M ai (qa ah id) (eB (qa ah id))/\KF h h' a lb:=by
 refine ok.dT (rf:=xQ) rfl (Nat.le_of_ble_eq_true rfl) ?_
 have c0:=av K.top
 obtain⟨f,A,R⟩:=K.ar
 obtain⟨e1,cV,c1,A1,k1⟩:=A.drop ok (id:=id)
 simp+decide only[st,xv,xQ,Px,c0]
 refine au c1 ?_
 have K1:KH cV a lb N M ai (qa ah id) (eB ah):=K.agS k1 (.inl rfl) A1 (fun x=>by
  rw[FZ]
  unfold iD
  by_cases e:x=id
  ·rw[if_pos e,if_pos e]
  ·rw[if_neg e,if_neg e];exact R x) K.ks.del
 obtain⟨e2,fT,c2,S2,k2⟩:=K1.sp.PB ok (id:=id)
 have FN:=av K1.top
 simp+decide only[st,xv,xQ,Px,Pw,FN]
 refine au c2 ?_
 simp+decide only[st,xv,xQ,Pw]
 refine⟨rfl,(K1.H7 k2 S2).fn fun x=>?_,k1.kf.trans k2.kf (.inl rfl)⟩
 rw[alY];rfl
theorem KH.row (K:KH h a lb N M ai ah g) {t:Nat} (ht:t<ai.length) {j:Nat} (hj:j<12):(aZ aU ai).flatten[t*12+j]? =(ai[t].c aU)[j]?:=uv ma (YM ht) hj
def qn (ai:List Th) (t:Int):Bool:=decide (0<=t)&&decide (t<ai.length)
theorem Xt (ok:ax P tb) (K:KH h a lb N M ai ah g) {t:Int}:an P 23 [.ptr a.kb 0, .int .i64 t] h (.bool (qn ai t)) h:=by
 refine ok.keeps (rf:=Bf) rfl (Nat.le_of_ble_eq_true rfl) rfl ?_
 have c0:=av K.top
 unfold qn
 by_cases h0:0<=t
 ·simp+decide only[st,xv,Bf,Sx,Sw,c0,h0]
 ·simp+decide only[st,xv,Bf,Sx,Sw,c0,h0]
  simp
def oM (ai:List Th) (t:Int):Bool:=qn ai t&&!decide (((ai[t.toNat]?).map (·.dw)).getD 0=0)
theorem Mf {t:Int} (ht:qn ai t=true): ∃n:Nat,t=n/\n<ai.length:=by
 unfold qn at ht
 simp only[Bool.and_eq_true,decide_eq_true_eq] at ht
 obtain⟨n,rfl⟩:=Int.eq_ofNat_of_zero_le ht.1
 exact⟨n,rfl,by omega⟩
theorem FV (ok:ax P tb) (K:KH h a lb N M ai ah g) {t:Int}:an P 16 [.ptr a.kb 0, .int .i64 t] h (.bool (oM ai t)) h:=by
 refine ok.keeps (rf:=yw) rfl (Nat.le_of_ble_eq_true rfl) rfl ?_
 have c0:=av K.top
 have c1:=av K.cu
 unfold oM
 simp+decide only[st,xv,yw,agD,Jm]
 refine au (Xt ok K) ?_
 cases hk:qn ai t with
 |false=>
  simp+decide only[st,xv,yw,Jm]
  first|done|rfl|simp
 |true=>
  obtain⟨n,rfl,hn⟩:=Mf hk
  have jd:(n:Int)<(ai.length:Int):=by omega
  have r6:=K.row hn (j:=6) (by omega)
  have e6:(ai[n].c aU)[6]? =some (.int .i64 ai[n].dw):=rfl
  rw[e6] at r6
  simp+decide only[st,xv,yw,Jm,c0,c1,jd,r6]
  simp[List.getElem?_eq_getElem hn]
end
section
open Go
variable {P:Program} {h:aa} {a:KA} {lb N M:Nat} {ai:List Th} {ah:List Ob} {g:Nat->Option (List UInt8)}
def jE (sz:Nat) (h H:aa) (v:AV) (rows:List (List AV)):Prop:=(rows=[]/\v= .vs [] .full)\/ ∃b,rows≠[]/\v= .rs b 0 rows.length sz/\cellsOf H b=some rows.flatten/\h.next<=b/\b<H.next
theorem jE.to {sz:Nat} {h H X:aa} {v:AV} {l:List (List AV)} (g:jE sz h H v l) (o:Old H X):jE sz h X v l:=by
 rcases g with g|⟨b,h0,h1,hc,h2,h3⟩
 ·exact .inl g
 ·refine .inr ⟨b,h0,h1,?_,h2,Nat.lt_of_lt_of_le h3 o.next⟩
  unfold cellsOf at hc ⊢
  rw[o.get b h3];exact hc
theorem jE.app {sz bytes id:Nat} {h H:aa} {v:AV} {l:List (List AV)} (g:jE sz h H v l) (ho:h.next<=id) (aL:H.next<=id) {x:List AV} (hl:l.length<2^20) (hb:bytes<2^10) (hs: ∀r∈l,r.length=sz): ∃v' H',fF bytes sz id H v (some [x])=some (v',H')/\jE sz h H' v' (l++[x])/\H.next<=H'.next/\v'.one=true/\v'.cells=[v']/\ ∀b,b<h.next->H'.get b=H.get b:=by
 have hmul:(l.length+1)*bytes<2^40:=Nat.lt_of_lt_of_le (Nat.mul_lt_mul_of_lt_of_lt (show l.length+1<2^21 by omega) hb) (by decide)
 rcases g with⟨rfl,rfl⟩|⟨b,h0,rfl,hc,h1,h2⟩
 ·have eo:(1:Nat)*bytes<2^40:=by omega
  refine⟨.rs id 0 1 sz,H.at id (.cells [x].flatten),?_, .inr ⟨id,by simp,rfl,av (by simp[aa.at]),ho,by simp[aa.at];omega⟩,by simp[aa.at];omega,rfl,rfl,fun b hb=>by simp only[aa.at];rw[if_neg (by omega)]⟩
  simp only[fF,List.length_singleton,List.cons_ne_nil,if_false]
  rw[if_pos ⟨eo,by decide⟩]
 ·have hlen:l.flatten.length=l.length*sz:=ji hs
  refine⟨.rs id 0 (l.length+1) sz,(H.set b none).at id (.cells (l++[x]).flatten),?_, .inr ⟨id,by simp,by simp,av (by simp[aa.at]),ho,by simp[aa.at];omega⟩,by simp[aa.at,aa.set];omega,rfl,rfl,fun c hb=>by simp only[aa.at,aa.set];rw[if_neg (by omega),if_neg (by omega)]⟩
  simp only[fF,hc,Option.bind_some,List.length_singleton,List.cons_ne_nil,if_false]
  rw[if_pos (by refine⟨trivial,trivial,?_,?_,?_⟩<;>omega),List.take_of_length_le (by omega)]
  simp
theorem iG {x:Th}:x.c aU=[.int .u8 x.ak.d, .vs (aw.R x.ak.ps) .ao, .vs ((aJ .u16).R x.st.s) .full, .vs ((aJ .u16).R x.st.i) .full, .vs ((aJ .u16).R x.st.o) .full, .int .i64 x.own, .int .i64 x.dw, .int .u64 x.id, .int .u64 x.to, .int .i64 x.done, .int .i64 x.n, .bool x.new]:=rfl
theorem amX (ok:ax P tb) {v:AV} {l:List Th} (hv: ∀h',Old h h'->iv h' v 12 (aZ aU l)) (hl:l.length<2^20) (lU: ∀x∈l,x.ak.ps.length<2^20):
 ∃w h',an P 22 [v] h w h'/\jE 12 h h' w (aZ aU l)/\Old h h':=by
 refine ok.sT (rf:=sG) rfl (Nat.le_of_ble_eq_true rfl) ?_
 have hlen:gH v=some l.length:=by rw[(hv h (Old.refl h)).len,jh]
 simp+decide only[st,xv,sG,agi,agh,agf,hlen]
 let I:Nat->Env->aa->Prop:=fun n ρ H=> ∃i,l.length=i+n/\Old h H/\jE 12 h H (ρ 3) (aZ aU (l.take i))/\ρ 6=v/\ρ 7= .int .i64 l.length/\ρ 8= .int .i64 i
 refine dJ I ?_ l.length ⟨0,by omega,Old.refl h, .inl ⟨rfl,rfl⟩,rfl,rfl,rfl⟩
 rintro n ρ H ⟨i,aE,ho,hg,r6,r7,r8⟩
 have qx:=ho.next
 by_cases hi:i<l.length
 ·have aA:(i:Int)<(l.length:Int):=by omega
  have hw:=dv (show i<2^61 by omega)
  obtain⟨p,g1,g2⟩:=(hv H ho).get i (by rw[jh];exact hi)
  have g3:(aZ aU l)[i]'(by rw[jh];exact hi)=l[i].c aU:=by simp[aZ]
  rw[g3] at g2
  simp+decide only[st,xv,sG,SA,age,r6,r7,r8,aA,g1,g2,iG]
  generalize hX:aa.set _ _ _=X
  have xo:Old H X:=by rw[<-hX];exact((Old.refl H).at (Nat.le_refl _)).set (Nat.le_refl _)
  have x0:cellsOf X H.next=some (l[i].c aU):=by rw[<-hX];exact av (by simp[aa.set];rfl)
  have xn:X.next=H.next+1:=by rw[<-hX];simp[aa.at,aa.set]
  simp only[iG] at x0
  simp+decide only[st,xv,sG,Sz,x0]
  refine au (Gd ok (l:=l[i].ak) (t:= .ao) (by have:=lU _ (List.getElem_mem hi);omega)) ?_
  have iy:X.set H.next (some (.cells (l[i].c aU)))=X:=by
   refine aa.gv ?_
   rw[<-hX];simp[aa.set];rfl
  simp only[iG] at iy
  simp+decide only[st,xv,sG,Sz,Sy,x0,Lb.c,iy,yC,xr]
  have sh:=List.length_take_le i l
  obtain⟨v',H',ha,cC,jd,h1,h2,ei⟩:=(hg.to xo).app (bytes:=160) (id:=X.next) (by omega) (Nat.le_refl _) (x:=l[i].c aU) (by rw[jh];omega) (by omega) ma
  simp only[iG] at ha
  simp+decide only[st,xv,sG,Sy,agd,ha,r8,hw]
  refine⟨n-1,by omega,i+1,by omega,⟨by omega,fun b hb=>by rw[ei b hb,xo.get b (by omega),ho.get b hb]⟩,?_,r6,r7,rfl⟩
  rw[<-List.take_append_getElem hi]
  unfold aZ at cC ⊢
  rw[List.map_append]
  exact cC
 ·have aA: ¬(i:Int)<(l.length:Int):=by omega
  rw[List.take_of_length_le (by omega)] at hg
  simp+decide only[st,xv,sG,SA,agc,r7,r8,aA]
  exact⟨_,rfl,hg,ho⟩
theorem KH.lO (K:KH h a lb N M ai ah g) {h':aa} (o:Old h h'):iv h' (.rs a.tb 0 ai.length 12) 12 (aZ aU ai):=by
 have:=iv.rs (h:=h') (b:=a.tb) (sz:=12) (rows:=aZ aU ai) (cs:=(aZ aU ai).flatten) (av (by rw[o.get _ K.l2,K.cu])) (by rw[<-ji ma,List.take_length]) ma
 rwa [jh] at this
theorem alB (ok:ax P tb) (K:KH h a lb N M ai ah g) (hl:ai.length<2^20) (lU: ∀x∈ai,x.ak.ps.length<2^20):
 ∃w h',an P 11 [.ptr a.kb 0] h w h'/\jE 12 h h' w (aZ aU ai)/\Old h h':=by
 refine ok.sT (rf:=Bg) rfl (Nat.le_of_ble_eq_true rfl) ?_
 have c0:=av K.top
 obtain⟨w,h',c,hg,ho⟩:=amX ok (v:= .rs a.tb 0 ai.length 12) (l:=ai) (h:=h) (fun h' o=>K.lO o) hl lU
 simp+decide only[st,xv,Bg,S7,S6,S5,S0,c0]
 refine au c ?_
 simp+decide only[st,xv,Bg,S7,S6,S5,S0]
 exact⟨w,rfl,hg,ho⟩
theorem jE.dQ {sz:Nat} {h H:aa} {v:AV} {l:List (List AV)} {f:Nat} {args:List AV} (g:jE sz h H v l) (c:an P f args h v H) (o:Old h H) (hs: ∀r∈l,r.length=sz) (gI: ∀p,AV.ic p l=true) (acN: ∀p,AV.ic p (AV.f0 l)=true):an P f args h (.vs (AV.f0 l) .ao) h:=by
 rcases g with⟨rfl,rfl⟩|⟨b,h0,rfl,hc,h1,h2⟩
 ·exact(c.strip).restore o.get rfl
 ·have hg:H.get b=some (.cells l.flatten):=by
   revert hc;unfold cellsOf;split
   ·rename_i e;intro hh;cases hh;exact e
   ·intro hh;cases hh
  have hlen:l.flatten.length=l.length*sz:=ji hs
  have hr:rowsOf l.flatten 0 sz l.length=l:=by
   clear hc hg h0 c acN
   induction l with
   |nil=>rfl
   |cons r l ih=>
    have UW:=hs r (List.mem_cons_self ..)
    have ih:=ih (fun x hx=>hs x (List.mem_cons_of_mem _ hx)) (fun p=>by have:=gI p;simp only[AV.ic,Bool.and_eq_true] at this;exact this.2) (ji fun x hx=>hs x (List.mem_cons_of_mem _ hx))
    rw[List.flatten_cons,List.length_cons,rowsOf,List.drop_zero,ou UW]
    have:(0:Nat)+sz=r.length+0:=by omega
    rw[this,Bn (by rw[ji fun x hx=>hs x (List.mem_cons_of_mem _ hx)];omega),ih]
  have hf:AV.dQ b l.flatten (.rs b 0 l.length sz)= .vs l .ao:=by
   unfold AV.dQ
   rw[if_pos rfl,if_pos (by omega),hr]
  have c2:=c.freeze hg h1 (by rw[hf];simp only[AV.bD,gI];rfl)
  rw[hf] at c2
  have c3:=c2.strip
  refine an.restore (h':=H.set b none) c3 (fun x hx=>?_) ?_
  ·simp only[aa.set]
   rw[if_neg (by omega)]
   exact o.get x hx
  ·simp only[AV.strip,AV.bD,acN];rfl
theorem Lw {τ:Nat->aH}: ∀{l:List Th},AV.f0 (aZ τ l)=aZ aK l
 |[]=>rfl
 |x::l=>by
  have ih:=Lw (τ:=τ) (l:=l)
  unfold aZ at*
  simp only[List.map_cons,AV.f0,ih]
  congr 1
  simp only[Th.c,AV.bG,AV.strip,aw.ft,(aJ .u16).ft,aK]
theorem YN {p:Nat->Bool}: ∀{l:List Th},AV.ic p (aZ aK l)=true
 |[]=>rfl
 |x::l=>by
  have ih:=YN (p:=p) (l:=l)
  have h1:AV.cf p (x.c aK)=true:=by simp only[Th.c,AV.cf,AV.bD,aw.iB,(aJ .u16).iB,aK];rfl
  unfold aZ at*
  simp only[List.map_cons,AV.ic,ih,h1];rfl
theorem X7 {p:Nat->Bool}: ∀{l:List Th},AV.ic p (aZ aU l)=true
 |[]=>rfl
 |x::l=>by
  have ih:=X7 (p:=p) (l:=l)
  have h1:AV.cf p (x.c aU)=true:=by simp only[iG,AV.cf,AV.bD,aw.iB,(aJ .u16).iB];rfl
  unfold aZ at*
  simp only[List.map_cons,AV.ic,ih,h1];rfl
theorem akl (ok:ax P tb) (K:KH h a lb N M ai ah g) (hl:ai.length<2^20) (lU: ∀x∈ai,x.ak.ps.length<2^20):an P 11 [.ptr a.kb 0] h (.vs (aZ aK ai) .ao) h:=by
 obtain⟨w,h',c,hg,ho⟩:=alB ok K hl lU
 have:=hg.dQ c ho ma (fun p=>X7) (fun p=>by rw[Lw];exact YN)
 rwa [Lw] at this
def mC (l:List Ob):List (List AV):=l.map fun o=>o.c aK
theorem F1 {l:List Ob}:(mC l).length=l.length:=by simp[mC]
theorem alp {l:List Ob}:dC 13 (mC l)=true:=by cases l<;>rfl
theorem ams {l:List Ob} {i:Nat} (hi:i<l.length):(mC l)[i]? =some (l[i].c aK):=by simp[mC,List.getElem?_eq_getElem hi]
theorem Xo: ∀{l:List Ob},AV.f0 (mC l)=mC l
 |[]=>rfl
 |x::l=>by
  have ih:=Xo (l:=l)
  unfold mC at*
  simp only[List.map_cons,AV.f0,ih,yO]
theorem YX {p:Nat->Bool}: ∀{l:List Ob},AV.ic p (mC l)=true
 |[]=>rfl
 |x::l=>by
  have ih:=YX (p:=p) (l:=l)
  unfold mC at*
  simp only[List.map_cons,AV.ic,ih,ux];rfl
theorem df {o:Ob}:o.c aK=[.int .u64 o.id, .int .i64 o.kind, .int .u8 o.ak.d, .vs (aw.R o.ak.ps) .ao, .vs ((aJ .u16).R o.st.s) .ao, .vs ((aJ .u16).R o.st.i) .ao, .vs ((aJ .u16).R o.st.o) .ao, .int .i64 o.bd, .int .i64 o.used, .int .i64 o.next, .vs (BS o.data) .ao, .vs ((aJ .u16).R o.bX) .ao, .vs (bg.R o.ring) .ao]:=rfl
theorem KS.ids (k:KS ah) (h0:ah≠[]) {f:Nat->Option (List UInt8)} (R:z9 f ah):(ah.map (·.id)).Pairwise (· < ·)/\(∀id,id∈ah.map (·.id)↔(f id).isSome=true)/\ah.map (·.id)≠[]:=by
 refine⟨List.pairwise_map.2 k.cF,fun id=>?_,?_⟩
 ·have:=R id
  constructor
  ·intro hm
   obtain⟨o,ho,rfl⟩:=List.mem_map.1 hm
   rw[lg k.cF ho] at this
   obtain⟨d,_,hf⟩:=this
   rw[hf];rfl
  ·intro hf
   cases ho:bh ah id with
   |none=>rw[ho] at this;simp only at this;rw[this] at hf;cases hf
   |some o=>
    obtain⟨h1,rfl⟩:=lf ho
    exact List.mem_map.2 ⟨o,h1,rfl⟩
 ·exact fun e=>h0 (List.map_eq_nil_iff.1 e)
theorem Yp (ok:ax P tb) (K:KH h a lb N M ai ah (eB ah)) (h0:ah≠[]) (ez:ah.length<=12):an P 20 [.ptr a.kb 0] h (.vs (mC ah) .ao) h:=by
 refine ok.eH (rf:=sH) rfl (Nat.le_of_ble_eq_true rfl) (by simp only[AV.bD,YX];rfl) ?_
 have c0:=av K.top
 obtain⟨f,A,R⟩:=K.ar
 obtain⟨i1,i2,i3⟩:=K.ks.ids h0 R
 simp+decide only[st,xv,sH,ags,agr,agq,SK,c0]
 refine au (A.ids ok i1 i2 i3 (by simpa using ez)) ?_
 simp+decide only[st,xv,sH,SK,fh.aS,List.length_map]
 let I:Nat->Env->aa->Prop:=fun n ρ H=> ∃i,ah.length=i+n/\Old h H/\App h H (ρ 3) (mC (ah.take i))/\ρ 0= .ptr a.kb 0/\ρ 14= .vs ((aJ .u64).R (ah.map (·.id))) .ao/\ρ 15= .int .i64 ah.length/\ρ 16= .int .i64 i
 refine dJ I ?_ ah.length ⟨0,by omega,Old.refl h,App.nil h h,rfl,rfl,rfl,rfl⟩
 rintro n ρ H ⟨i,aE,ho,hg,r0,fK,eL,jF⟩
 have qx:=ho.next
 by_cases hi:i<ah.length
 ·have aA:(i:Int)<(ah.length:Int):=by omega
  have hw:=dv (show i<2^61 by omega)
  have g1:((aJ .u64).R (ah.map (·.id)))[i]? =some [.int .u64 ah[i].id]:=by
   rw[(aJ .u64).gR (by simpa using hi)];simp[aJ]
  have KX:=K.old ho
  have aT:=JE ok KX (id:=ah[i].id)
  rw[lg K.ks.cF (List.getElem_mem hi)] at aT
  simp+decide only[st,xv,sH,SJ,agp,SI,r0,fK,eL,jF,aA,g1]
  refine au aT ?_
  simp+decide only[st,xv,sH,SI,df,xr]
  generalize hX:aa.set _ _ _=X
  have xo:Old H X:=by rw[<-hX];exact((Old.refl H).at (Nat.le_refl _)).set (Nat.le_refl _)
  have x0:cellsOf X H.next=some (ah[i].c aK):=by rw[<-hX];exact av (by simp[aa.set];rfl)
  simp only[df] at x0
  have sh:=List.length_take_le i ah
  obtain⟨v',H',a1,a2,a3,a4,a5,a6⟩:=(hg.old xo).app (ho.trans xo) (bytes:=216) (sz:=13) (id:=X.next) (ho.trans xo).next [ah[i].c aK] alp (by rw[F1];simp only[List.length_singleton];omega) (by rw[F1];simp only[List.length_singleton];omega)
  simp only[df] at a1
  simp+decide only[st,xv,sH,ago,agn,x0,a1,jF,hw,xr]
  refine⟨n-1,by omega,i+1,by omega,a3,?_,r0,fK,eL,rfl⟩
  rw[<-List.take_append_getElem hi]
  unfold mC at a2 ⊢
  rw[List.map_append]
  exact a2
 ·have aA: ¬(i:Int)<(ah.length:Int):=by omega
  rw[List.take_of_length_le (by omega)] at hg
  obtain⟨tt,hv,_⟩:=hg
  simp+decide only[st,xv,sH,SJ,aat,eL,jF,hv,aA,bB]
  exact⟨by simp only[AV.strip,Xo],ho.get⟩
end
section
open Go
variable {P:Program} {h:aa} {a:KA} {lb N M:Nat} {ai:List Th} {ah:List Ob} {g:Nat->Option (List UInt8)}
def yj (l:List Ob) (id:Nat):Option (List UInt8):=(bh l id).map gG
def GZ (ah:List Ob) (ai:List Th):List UInt8:=(ah.flatMap fun o=>be o.id 8++cP (gG o))++ai.flatMap fun x=>b9 x.ak
theorem akw {ah:List Ob} (hs:ah.Pairwise (·.id< ·.id)):((ah.map (·.id)).flatMap fun id=>be id 8++cP ((yj ah id).getD []))=ah.flatMap fun o=>be o.id 8++cP (gG o):=by
 rw[List.flatMap_map]
 have: ∀(l:List Ob),(∀o∈l,o∈ah)->l.flatMap (fun o=>be o.id 8++cP ((yj ah o.id).getD []))=l.flatMap fun o=>be o.id 8++cP (gG o):=by
  intro l
  induction l with
  |nil=>intro _;rfl
  |cons o l ih=>
   intro hm
   rw[List.flatMap_cons,List.flatMap_cons,ih (fun x hx=>hm x (List.mem_cons_of_mem _ hx))]
   congr 2
   unfold yj
   rw[lg hs (hm o (List.mem_cons_self ..))];rfl
 exact this ah (fun _ h=>h)
structure TV (l:List Th):Prop where
 len:l.length<=4
 ak: ∀x∈l,x.ak.ok/\x.ak.ps.length<=16
theorem Ye {o:Ob}: ∀{l:List Ob},(∀x∈l,x.id<o.id)->dj l o=l++[o]
 |[],_=>rfl
 |x::l,h=>by
  have h1:=h x (List.mem_cons_self ..)
  unfold dj
  rw[if_neg (by omega),if_neg (by omega),Ye (fun y hy=>h y (List.mem_cons_of_mem _ hy))];rfl
theorem ah2 (ok:ax P tb) (K:KH h a lb N M ai ah (eB ah)) (h0:ah≠[]) (ez:ah.length<=12) (ht:TV ai):an P 21 [.ptr a.kb 0] h (.vs (BS (GZ ah ai)) .ao) h:=by
 refine ok.eH (rf:=kC) rfl (Nat.le_of_ble_eq_true rfl) gJ.lj ?_
 have c0:=av K.top
 obtain⟨h1,c1,A1,n1,o1⟩:=AA.new ok (h:=h) (v:=1)
 simp+decide only[st,xv,kC,agm,agl,SH]
 refine au c1 ?_
 simp+decide only[st,xv,kC,SH,SF]
 have K1:=K.old o1
 refine au (Yp ok K1 h0 ez) ?_
 simp+decide only[st,xv,kC,SF,F1]
 let I:Nat->Env->aa->Prop:=fun n ρ H=> ∃i aR,ah.length=i+n/\Old h H/\AA H (h.next+1) h.next aR 1 i (yj (ah.take i))/\h.next<=aR/\ρ 0= .ptr a.kb 0/\ρ 3= .ptr (h.next+1) 0/\ρ 15= .vs (mC ah) .ao/\ρ 16= .int .i64 ah.length/\ρ 17= .int .i64 i
 refine dJ I ?_ ah.length ⟨0,h.next+1,by omega,o1,A1,by omega,rfl,rfl,rfl,rfl,rfl⟩
 rintro n ρ H ⟨i,aR,aE,ho,A,lU,r0,r3,eL,jF,pf⟩
 have qx:=ho.next
 by_cases hi:i<ah.length
 ·have aA:(i:Int)<(ah.length:Int):=by omega
  have hw:=dv (show i<2^61 by omega)
  have g1:=ams hi
  have v:=K.ks.val _ (List.getElem_mem hi)
  simp only[df] at g1
  simp+decide only[st,xv,kC,SE,agk,eL,jF,pf,aA,g1]
  generalize hX:aa.set _ _ _=X
  have xo:Old H X:=by rw[<-hX];exact((Old.refl H).at (Nat.le_refl _)).set (Nat.le_refl _)
  have x0:cellsOf X H.next=some (ah[i].c aK):=by rw[<-hX];exact av (by simp[aa.set];rfl)
  simp only[df] at x0
  simp+decide only[st,xv,kC,SD,x0]
  refine au (WX ok (o:=ah[i]) (t:=aK) v.ok) ?_
  have hp:wX ah[i]= .ay [.vs (BS (gG ah[i])) .ao, .int .i64 0]:=by unfold wX;rw[v.may,if_pos rfl]
  rw[hp]
  simp+decide only[st,xv,kC,SD,SC,r3,x0]
  obtain⟨rec,lL⟩: ∃rec,gG ah[i]=1::rec:=⟨_,rfl⟩
  have ir:=LQ v.may
  obtain⟨H2,c2,vC,A2,eV,k2⟩:=(A.old xo).put ok (id:=ah[i].id) (x:=1) (rec:=rec) (t:= .ao) v.ok.id rfl (by rw[lL] at ir;simp at ir;omega) (by omega)
  rw[<-lL] at c2 A2
  refine au c2 ?_
  simp+decide only[st,xv,kC,SC,agj,pf,hw]
  have xn:=xo.next
  have hA:=A.lt
  refine⟨n-1,by omega,i+1,vC,by omega,⟨by have:=k2.1;omega,fun b hb=>?_⟩,A2.fn fun x=>?_,by rcases eV with h|h<;>omega,r0,r3,eL,jF,rfl⟩
  ·rw[k2.2 b (by omega) (by omega) (by omega) (by omega),xo.get b (by omega),ho.get b hb]
  ·have qu:=List.Pairwise.sublist (List.take_sublist (i+1) ah) K.ks.cF
   have avw:=List.Pairwise.sublist (List.take_sublist i ah) K.ks.cF
   have e:ah.take (i+1)=dj (ah.take i) ah[i]:=by
    rw[<-List.take_append_getElem hi] at qu ⊢
    rw[Ye]
    intro y hy
    exact(List.pairwise_append.1 qu).2.2 y hy _ (by simp)
   unfold iD yj
   rw[e,oh avw]
   by_cases h:x=ah[i].id
   ·rw[if_pos h,if_pos h];rfl
   ·rw[if_neg h,if_neg h]
 ·have aA: ¬(i:Int)<(ah.length:Int):=by omega
  have Kk:i=ah.length:=by omega
  rw[List.take_of_length_le (by omega)] at A
  have K2:=K.old ho
  obtain⟨i1,i2,i3⟩:=K.ks.ids h0 (f:=yj ah) (fun id=>by unfold yj;cases ho:bh ah id with|none=>rfl|some o=>exact⟨o.data,rfl,rfl⟩)
  simp+decide only[st,xv,kC,SE,Nt,jF,pf,r3,aA]
  refine au (A.bytes ok i1 i2 i3 (by simpa using ez)) ?_
  rw[akw K.ks.cF]
  have c2:=av K2.top
  simp+decide only[st,xv,kC,Nt,aas,r0,c2]
  have kB:(ah.flatMap fun o=>be o.id 8++cP (gG o)).length<=1000*ah.length:=by
   have: ∀(l:List Ob),(∀o∈l,(gG o).length<990)->(l.flatMap fun o=>be o.id 8++cP (gG o)).length<=1000*l.length:=by
    intro l
    induction l with
    |nil=>intro _;simp
    |cons c l ih=>
     intro hm
     have h1:=ih (fun x hx=>hm x (List.mem_cons_of_mem _ hx))
     have h2:=hm c (List.mem_cons_self ..)
     simp only[List.flatMap_cons,List.length_append,bO,cP,List.length_cons] at h1 ⊢;omega
   exact this ah (fun o ho=>LQ (K.ks.val o ho).may)
  generalize hB:(ah.flatMap fun o=>be o.id 8++cP (gG o))=B at*
  let J:Nat->Env->aa->Prop:=fun n ρ H=> ∃i,ai.length=i+n/\Old h H/\ρ 8= .vs (BS (B++(ai.take i).flatMap fun x=>b9 x.ak)) .ao/\ρ 37= .rs a.tb 0 ai.length 12/\ρ 38= .int .i64 ai.length/\ρ 39= .int .i64 i
  refine dJ J ?_ ai.length ⟨0,by omega,ho,by simp only[List.take_zero,List.flatMap_nil,List.append_nil];rfl,rfl,rfl,rfl⟩
  rintro m ρ H2 ⟨j,U9,sk,q8,q37,Uy,Ux⟩
  by_cases hj:j<ai.length
  ·have axh:=ht.len
   have js:(j:Int)<(ai.length:Int):=by omega
   have hwj:=dv (show j<2^61 by omega)
   obtain⟨p,g1,g2⟩:=(K.lO sk).get j (by rw[jh];exact hj)
   have g3:(aZ aU ai)[j]'(by rw[jh];exact hj)=ai[j].c aU:=by simp[aZ]
   rw[g3] at g2
   simp+decide only[st,xv,kC,Ns,aar,q37,Uy,Ux,js,g1,g2,iG]
   generalize hX:aa.set _ _ _=X
   have xo:Old H2 X:=by rw[<-hX];exact((Old.refl H2).at (Nat.le_refl _)).set (Nat.le_refl _)
   have x0:cellsOf X H2.next=some (ai[j].c aU):=by rw[<-hX];exact av (by simp[aa.set];rfl)
   simp only[iG] at x0
   have htj:=ht.ak _ (List.getElem_mem hj)
   have bT:((ai.take j).flatMap fun x=>b9 x.ak).length<=50*4:=by
    have: ∀(l:List Th),(∀x∈l,x.ak.ps.length<=16)->(l.flatMap fun x=>b9 x.ak).length<=50*l.length:=by
     intro l
     induction l with
     |nil=>intro _;simp
     |cons c l ih=>
      intro hm
      have h1:=ih (fun x hx=>hm x (List.mem_cons_of_mem _ hx))
      have h2:=hm c (List.mem_cons_self ..)
      simp only[List.flatMap_cons,List.length_append,By,List.length_cons] at h1 ⊢;omega
    have h1:=this (ai.take j) (fun x hx=>(ht.ak x (List.mem_of_mem_take hx)).2)
    have h2:=List.length_take_le' j ai
    have:=ht.len
    omega
   simp+decide only[st,xv,kC,Nr,q8,x0]
   refine au (F5 ok (l:=ai[j].ak) (t':= .ao) htj.1 (by simp only[List.length_append];omega)) ?_
   simp+decide only[st,xv,kC,Nr,aaq,Ux,hwj]
   refine⟨m-1,by omega,j+1,by omega,sk.trans xo,?_,q37,Uy,rfl⟩
   rw[<-List.take_append_getElem hj]
   simp only[List.flatMap_append,List.flatMap_cons,List.flatMap_nil,List.append_nil,List.append_assoc]
   rfl
  ·have js: ¬(j:Int)<(ai.length:Int):=by omega
   simp+decide only[st,xv,kC,Ns,aap,Uy,Ux,q8,js,bB]
   rw[List.take_of_length_le (by omega)]
   refine⟨?_,sk.get⟩
   unfold GZ
   rw[hB]
   exact gJ.kE
end
section
open Go
variable {P:Program} {h:aa} {a:KA} {lb N M:Nat} {ai:List Th} {ah:List Ob} {g:Nat->Option (List UInt8)} {tv:AV} {t:Nat}
structure KE (h:aa) (a:KA) (lb:Nat) (tv:AV):Prop where
 top:h.get a.kb=some (.cells [tv, .ptr a.ab 0, .ptr a.bs 0])
 ar:AA h a.ab a.mb lb 1 0 (fun _=>none)
 sp:SG h a.bs a.bm a.bl a.bp 0 (fun _=>none)
 l1:a.kb<h.next
 kZ: ∀b,FA a lb b-> ¬FS a b
 kY: ∀b,b=a.kb-> ¬FA a lb b
 nU: ∀b,b=a.kb-> ¬FS a b
def rV (n:Nat) (a:KA) (lb:Nat):Prop:=n<=a.kb/\(∀b,FA a lb b->n<=b)/\ ∀b,FS a b->n<=b
theorem aiH (ok:ax P tb) {tv:AV} (ho:tv.one=true) (hc:tv.cells=[tv]) (t0:Nat): ∃a lb h',an P 27 [tv] h (.ptr a.kb 0) h'/\a.tb=t0/\KE h' a lb tv/\rV h.next a lb/\Old h h':=by
 obtain⟨h1,c1,A1,n1,o1⟩:=AA.new ok (h:=h) (v:=1)
 obtain⟨bs,bm,bl,bp,h2,c2,S2,b1,b2,b3,b4,o2⟩:=SG.new ok (h:=h1)
 have lS:=S2.lt
 have n2:=o2.next
 refine⟨⟨h2.next,t0,h.next+1,h.next,bs,bm,bl,bp⟩,h.next+1,?_⟩
 have hx: ∃h',an P 27 [tv] h (.ptr h2.next 0) h'/\h'=h2.at h2.next (.cells [tv, .ptr (h.next+1) 0, .ptr bs 0]):=by
  refine ok.dT (rf:=yu) rfl (Nat.le_of_ble_eq_true rfl) ?_
  simp+decide only[st,xv,yu,afX,Ji]
  refine au c1 ?_
  simp+decide only[st,xv,yu,Ji]
  refine au c2 ?_
  simp+decide only[st,xv,yu,Ji,hc,ho,xr]
  exact⟨rfl,rfl⟩
 obtain⟨h',c,rfl⟩:=hx
 have o3:Old h2 (h2.at h2.next (.cells [tv, .ptr (h.next+1) 0, .ptr bs 0])):=(Old.refl h2).at (Nat.le_refl _)
 refine⟨_,c,rfl,⟨by simp[aa.at],(A1.old o2).old o3,S2.old o3,by simp[aa.at],?_,?_,?_⟩,⟨by show h.next<=h2.next;omega,?_,?_⟩,(o1.trans o2).trans o3⟩
 ·rintro b (e|e|e) (f|f|f|f)<;>(try simp only at e)<;>(try simp only at f)<;>omega
 ·rintro b e (f|f|f)<;>(try simp only at e)<;>(try simp only at f)<;>omega
 ·rintro b e (f|f|f|f)<;>(try simp only at e)<;>(try simp only at f)<;>omega
 ·rintro b (f|f|f)<;>(try simp only at f)<;>omega
 ·rintro b (f|f|f|f)<;>(try simp only at f)<;>omega
theorem KE.bN (K:KE h a lb tv) {h':aa} (o: ∀b,b<h.next->b=a.kb\/FA a lb b\/FS a b->h'.get b=h.get b) (hn:h.next<=h'.next):KE h' a lb tv:=by
 have A:=K.ar.lt
 have S:=K.sp.lt
 exact⟨by rw[o _ K.l1 (.inl rfl),K.top],K.ar.bN hn (o _ A.1 (.inr (.inl (.inl rfl)))) (o _ A.2.1 (.inr (.inl (.inr (.inl rfl))))) (fun h=>o _ h (.inr (.inl (.inr (.inr rfl))))) (Nat.le_refl _),
  K.sp.bN hn (o _ S.1 (.inr (.inr (.inl rfl)))) (o _ S.2.1 (.inr (.inr (.inr (.inl rfl))))) (o _ S.2.2.1 (.inr (.inr (.inr (.inr (.inl rfl)))))) (o _ S.2.2.2 (.inr (.inr (.inr (.inr (.inr rfl)))))) (Nat.le_refl _),Nat.lt_of_lt_of_le K.l1 hn,K.kZ,K.kY,K.nU⟩
theorem KE.kh (K:KE h a lb (.rs t 0 ai.length 12)) (ht:h.get t=some (.cells (aZ aU ai).flatten)) (l2:t<h.next) (hn:a.kb≠t/\ ¬FA a lb t/\ ¬FS a t):KH h {a with tb:=t} lb 0 0 ai [] (eB []):=
 ⟨K.top,ht,⟨_,K.ar,fun id=>rfl⟩,K.sp,K.l1,l2,hn.1,K.kZ,by
   rintro b (e|e)
   ·exact K.kY b e
   ·simp only at e;subst e;exact hn.2.1,by
   rintro b (e|e)
   ·exact K.nU b e
   ·simp only at e;subst e;exact hn.2.2,⟨List.Pairwise.nil,fun o ho=>by cases ho⟩⟩
structure Cf where
 bd:Int
 ll:Int
 cu:List Lb
def as2:fh Lb:=⟨fun l=>l.c .ao,2,fun _=>rfl,fun l=>by simp only[Lb.c,AV.bG,AV.strip,aw.ft],fun p l=>by simp only[Lb.c,AV.cf,AV.bD,aw.iB];rfl⟩
def Cf.c (c:Cf) (t:aH):List AV:=[.int .i64 c.bd, .int .i64 c.ll, .vs (as2.R c.cu) t]
def jC (c:Cf):Bool:=decide (0<=c.bd)&&decide (c.bd<=400)&&decide (0<=c.ll)&&decide (c.ll<=100000)&&decide (1<=c.cu.length)&&decide (c.cu.length<=4)&&c.cu.all d8
def a8 (l:Lb):Th:=⟨l,qk,0,0,0,0,0,0,false⟩
def root (q:Int):Ob:={bf with id:=1,kind:=1,ak:=⟨2,[]⟩,bd:=q,next:=1}
theorem anB {q:Int} (h0:0<=q) (h1:q<=400):jf (root q):=by
 refine⟨⟨⟨show 2<256 by decide,fun p hp=>(by cases hp),show 0<2^20 by decide⟩,show 1<2^64 by decide,show 0<2^20 by decide,show 0<2^20 by decide,fun c hc=>(by cases hc)⟩,?_,rfl⟩
 have e1:dM (root q).id=true:=show dM 1=true by decide
 have e2:p9 (root q)=true:=show(d8 ⟨2,[]⟩&&(dU []).length==0)=true by decide
 unfold fv
 rw[e1,e2]
 unfold m7 root
 simp[h0,h1,bf]
theorem KE.mu (K:KE h a lb tv) {xU:AV}:KE (h.set a.kb (some (.cells [xU, .ptr a.ab 0, .ptr a.bs 0]))) a lb xU:=by
 have e: ∀b,FA a lb b\/FS a b->(h.set a.kb (some (.cells [xU, .ptr a.ab 0, .ptr a.bs 0]))).get b=h.get b:=by
  intro b hb
  simp only[aa.set]
  rw[if_neg]
  intro he;subst he
  rcases hb with hb|hb
  ·exact K.kY _ rfl hb
  ·exact K.nU _ rfl hb
 have hn:h.next<=(h.set a.kb (some (.cells [xU, .ptr a.ab 0, .ptr a.bs 0]))).next:=Nat.le_refl _
 exact⟨by simp[aa.set],K.ar.bN hn (e _ (.inl (.inl rfl))) (e _ (.inl (.inr (.inl rfl)))) (fun _=>e _ (.inl (.inr (.inr rfl)))) (Nat.le_refl _),
  K.sp.bN hn (e _ (.inr (.inl rfl))) (e _ (.inr (.inr (.inl rfl)))) (e _ (.inr (.inr (.inr (.inl rfl))))) (e _ (.inr (.inr (.inr (.inr rfl))))) (Nat.le_refl _),K.l1,K.kZ,K.kY,K.nU⟩
theorem jE.auV {sz k:Nat} {h H:aa} {v:AV} {l:List (List AV)} {x:Option cI} (g:jE sz h H v l) (hk:k<h.next):jE sz h (H.set k x) v l:=by
 rcases g with g|⟨b,h0,h1,hc,h2,h3⟩
 ·exact .inl g
 ·refine .inr ⟨b,h0,h1,?_,h2,h3⟩
  unfold cellsOf at hc ⊢
  simp only[aa.set]
  rw[if_neg (by omega)];exact hc
theorem jE.vy {sz bytes id n:Nat} {h H:aa} {v:AV} {l:List (List AV)} (g:jE sz h H v l) (ho:h.next<=H.next) (aL:H.next<=id) (aE:id<H.next+n) {x:List AV} (hl:l.length<2^20) (hb:bytes<2^10) (hs: ∀r∈l,r.length=sz): ∃v' H',fF bytes sz id (H.clean n) v (some [x])=some (v',H')/\jE sz h H' v' (l++[x])/\H'.next=H.next+n/\v'.one=true/\v'.cells=[v']/\(∀b,b<h.next->H'.get b=H.get b)/\ ∀b,b≠id->H.next<=b->H'.get b=none:=by
 have hmul:(l.length+1)*bytes<2^40:=Nat.lt_of_lt_of_le (Nat.mul_lt_mul_of_lt_of_lt (show l.length+1<2^21 by omega) hb) (by decide)
 rcases g with⟨rfl,rfl⟩|⟨b,h0,rfl,hc,h1,h2⟩
 ·have eo:(1:Nat)*bytes<2^40:=by omega
  refine⟨.rs id 0 1 sz,(H.clean n).at id (.cells [x].flatten),?_, .inr ⟨id,by simp,rfl,av (by simp[aa.at]),by omega,by simp[aa.at,aa.clean];omega⟩,by simp[aa.at,aa.clean];omega,rfl,rfl,fun b hb=>by simp only[aa.at,aa.clean];rw[if_neg (by omega),if_pos (by omega)],fun b hb hn=>by simp only[aa.at,aa.clean];rw[if_neg hb,if_neg (by omega)]⟩
  simp only[fF,List.length_singleton,List.cons_ne_nil,if_false]
  rw[if_pos ⟨eo,by decide⟩]
 ·have hlen:l.flatten.length=l.length*sz:=ji hs
  have du:cellsOf (H.clean n) b=some l.flatten:=by
   rw[<-hc];unfold cellsOf;simp only[aa.clean];rw[if_pos h2]
  refine⟨.rs id 0 (l.length+1) sz,((H.clean n).set b none).at id (.cells (l++[x]).flatten),?_, .inr ⟨id,by simp,by simp,av (by simp[aa.at]),by omega,by simp[aa.at,aa.clean,aa.set];omega⟩,by simp[aa.at,aa.set,aa.clean];omega,rfl,rfl,fun c hb=>by simp only[aa.at,aa.set,aa.clean];rw[if_neg (by omega),if_neg (by omega),if_pos (by omega)],fun c hb hn=>by simp only[aa.at,aa.set,aa.clean];rw[if_neg hb,if_neg (by omega),if_neg (by omega)]⟩
  simp only[fF,du,Option.bind_some,List.length_singleton,List.cons_ne_nil,if_false]
  rw[if_pos (by refine⟨trivial,trivial,?_,?_,?_⟩<;>omega),List.take_of_length_le (by omega)]
  simp
theorem Wq (ok:ax P tb) {c:Cf} {w:AV} {τ:aH} (hv: ∀h',Old h h'->iv h' w 2 (c.cu.map fun l=>l.c τ)) (w1:w.one=true) (w2:w.cells=[w]) (hl: ∀l∈c.cu,l.ok) (hn:c.cu.length<2^20):
 (jC c=false/\ ∃h',an P 19 [.agg [.int .i64 c.bd, .int .i64 c.ll,w]] h (.ay [.nil, .int .i64 1]) h'/\Old h h')\/
 (jC c=true/\ ∃a lb h',an P 19 [.agg [.int .i64 c.bd, .int .i64 c.ll,w]] h (.ay [.ptr a.kb 0, .int .i64 0]) h'/\KH h' a lb 1 0 (c.cu.map a8) [root c.bd] (eB [root c.bd])/\Old h h'/\rV h.next a lb/\h.next<=a.tb):=by
 have key: ∃v h',an P 19 [.agg [.int .i64 c.bd, .int .i64 c.ll,w]] h v h'/\Old h h'/\((jC c=false/\v= .ay [.nil, .int .i64 1])\/(jC c=true/\ ∃a lb,v= .ay [.ptr a.kb 0, .int .i64 0]/\KH h' a lb 1 0 (c.cu.map a8) [root c.bd] (eB [root c.bd])/\rV h.next a lb/\h.next<=a.tb)):=by
  refine ok.sT (rf:=iM) rfl (Nat.le_of_ble_eq_true rfl) ?_
  have hlen: ∀h',Old h h'->gH w=some c.cu.length:=fun h' o=>by rw[(hv h' o).len,List.length_map]
  have hlen:=hlen h (Old.refl h)
  simp+decide only[st,xv,iM,agw,w1,w2]
  generalize hX:aa.at _ _ _=X
  have xo:Old h X:=by rw[<-hX];exact(Old.refl h).at (Nat.le_refl _)
  have x0:cellsOf X h.next=some [.int .i64 c.bd, .int .i64 c.ll,w]:=by rw[<-hX];exact av (by simp[aa.at])
  have xn:X.next=h.next+1:=by rw[<-hX];simp[aa.at]
  simp+decide only[st,xv,iM,u1,x0]
  refine au (GN ok) ?_
  by_cases a1:0<=c.bd/\c.bd<=400
  case neg=>
   have e1:(decide (0<=c.bd)&&decide (c.bd<=400))=false:=by
    rw[<-Bool.not_eq_true];simpa using a1
   have hb:jC c=false:=by unfold jC;rw[e1];simp
   rw[e1]
   simp+decide only[st,xv,iM,u1,D7]
   exact⟨_,rfl,xo, .inl ⟨hb,rfl⟩⟩
  have e1:(decide (0<=c.bd)&&decide (c.bd<=400))=true:=by simpa using a1
  rw[e1]
  simp+decide only[st,xv,iM,u1,x0]
  refine au (GN ok) ?_
  by_cases a2:0<=c.ll/\c.ll<=100000
  case neg=>
   have e2:(decide (0<=c.ll)&&decide (c.ll<=100000))=false:=by
    rw[<-Bool.not_eq_true];simpa using a2
   have hb:jC c=false:=by unfold jC;rw[e1,Bool.true_and,e2];simp
   rw[e2]
   simp+decide only[st,xv,iM,u1,D7]
   exact⟨_,rfl,xo, .inl ⟨hb,rfl⟩⟩
  have e2:(decide (0<=c.ll)&&decide (c.ll<=100000))=true:=by simpa using a2
  rw[e2]
  by_cases a3:c.cu.length<1
  ·have hb:jC c=false:=by unfold jC;rw[show decide (1<=c.cu.length)=false from decide_eq_false (by omega)];simp
   have KU:(c.cu.length:Int)<1:=by omega
   simp+decide only[st,xv,iM,u1,D7,x0,hlen,KU]
   exact⟨_,rfl,xo, .inl ⟨hb,rfl⟩⟩
  have KU: ¬(c.cu.length:Int)<1:=by omega
  by_cases a4:4<c.cu.length
  ·have hb:jC c=false:=by unfold jC;rw[show decide (c.cu.length<=4)=false from decide_eq_false (by omega)];simp
   have VE:(4:Int)<(c.cu.length:Int):=by omega
   simp+decide only[st,xv,iM,u1,D7,x0,hlen,KU,VE]
   exact⟨_,rfl,xo, .inl ⟨hb,rfl⟩⟩
  have VE: ¬(4:Int)<(c.cu.length:Int):=by omega
  simp+decide only[st,xv,iM,u1,SN,x0,hlen,KU,VE]
  obtain⟨a,lb,X1,c1,lZ,K1,rZ,o1⟩:=aiH ok (h:=X) (tv:= .vs [] .full) rfl rfl 0
  refine au c1 ?_
  have x1:cellsOf X1 h.next=some [.int .i64 c.bd, .int .i64 c.ll,w]:=by rw[<-x0];unfold cellsOf;rw[o1.get _ (by omega)]
  have on1:=o1.next
  simp+decide only[st,xv,iM,SN,agv,x1,hlen]
  let I:Nat->Env->aa->Prop:=fun n ρ H=> ∃i tv,c.cu.length=i+n/\KE H a lb tv/\jE 12 X1 H tv (aZ aU ((c.cu.take i).map a8))/\X1.next<=H.next/\(∀b,b<X1.next->b≠a.kb->H.get b=X1.get b)/\(∀l∈c.cu.take i,d8 l=true)/\ρ 1= .ptr h.next 0/\ρ 4= .ptr a.kb 0/\ρ 31=w/\ρ 32= .int .i64 c.cu.length/\ρ 33= .int .i64 i
  refine dJ I ?_ c.cu.length ⟨0,_,by omega,K1, .inl ⟨rfl,rfl⟩,Nat.le_refl _,fun _ _ _=>rfl,fun l hl=>by simp at hl,rfl,rfl,rfl,rfl,rfl⟩
  rintro n ρ H ⟨i,tv,aE,K,hg,qx,ho,hm,r1,r4,r31,Uv,Uu⟩
  have TF:Old h H:=⟨by have:=xo.next;omega,fun b hb=>by
   have:=rZ.1
   rw[ho b (by omega) (by omega),o1.get b (by omega),xo.get b hb]⟩
  by_cases hi:i<c.cu.length
  ·have aA:(i:Int)<(c.cu.length:Int):=by omega
   have hw:=dv (show i<2^61 by omega)
   obtain⟨p,g1,g2⟩:=(hv H TF).get i (by rw[List.length_map];exact hi)
   have g3:(c.cu.map fun l=>l.c τ)[i]'(by rw[List.length_map];exact hi)=[.int .u8 c.cu[i].d, .vs (aw.R c.cu[i].ps) τ]:=by simp[Lb.c]
   rw[g3] at g2
   simp+decide only[st,xv,iM,SM,agu,r31,Uv,Uu,aA,g1,g2]
   generalize hY:aa.set _ _ _=Y
   have yo:Old H Y:=by rw[<-hY];exact((Old.refl H).at (Nat.le_refl _)).set (Nat.le_refl _)
   have y0:cellsOf Y H.next=some [.int .u8 c.cu[i].d, .vs (aw.R c.cu[i].ps) τ]:=by rw[<-hY];exact av (by simp[aa.set])
   have yn:Y.next=H.next+1:=by rw[<-hY];simp[aa.at,aa.set]
   have iU:=hl _ (List.getElem_mem hi)
   simp+decide only[st,xv,iM,Jk,y0]
   refine au (LM (l:=c.cu[i]) (t:=τ) ok iU) ?_
   cases U4:d8 c.cu[i] with
   |false=>
    have hb:jC c=false:=by
     unfold jC
     rw[show c.cu.all d8=false from ?_]
     ·simp
     ·rw[List.all_eq_false];exact⟨_,List.getElem_mem hi,by simp[U4]⟩
    simp+decide only[st,xv,iM,Jk,agt]
    exact⟨_,rfl,TF.trans yo, .inl ⟨hb,rfl⟩⟩
   |true=>
    have KY:=K.bN (h':=Y) (fun b hb _=>yo.get b hb) yo.next
    have cY:=av KY.top
    have lk:=KY.l1
    have ly:H.next<Y.next:=by omega
    have nM:=Gv U4
    simp+decide only[st,xv,iM,Jk]
    refine qT 7 13 rfl (by omega) rfl ?_
    simp+decide only[st,xv,iM,SL,r4,y0,cY,lk,ly]
    refine hP (Gd ok (l:=c.cu[i]) (t:=τ) (by omega)) (cO (Nat.le_refl _)) ?_
    have sh:=List.length_take_le i c.cu
    obtain⟨xU,H',ha,cC,jd,h1,h2,ei,fb⟩:=(hg.to yo).vy (bytes:=160) (id:=Y.next+(7+1+1)) (n:=13) (by omega) (by omega) (by omega) (x:=(a8 c.cu[i]).c aU) (by rw[jh];simp;omega) (by omega) ma
    have tW:fF 160 12 (Y.next+(7+1+1)) (Y.clean 13) tv (some [[.int .u8 c.cu[i].d, .vs (aw.R c.cu[i].ps) .ao, .vs [] .full, .vs [] .full, .vs [] .full, .int .i64 0, .int .i64 0, .int .u64 0, .int .u64 0, .int .i64 0, .int .i64 0, .bool false]])=some (xU,H'):=ha
    have UG:=K1.l1
    have gk: ∀b,b<Y.next->b<X1.next->H'.get b=Y.get b:=by
     intro b hb eo
     rw[ei b eo]
    have cH:cellsOf H' a.kb=some [tv, .ptr a.ab 0, .ptr a.bs 0]:=by
     rw[<-cY];unfold cellsOf;rw[gk _ lk UG]
    simp+decide only[st,xv,iM,SL,Lb.c,y0,cY,lk,ly,yC,tW,xr,h1,h2,cH]
    have KA:=KY.ar.lt
    have KSl:=KY.sp.lt
    have hA1:=K1.ar.lt
    have hS1:=K1.sp.lt
    have KH':KE H' a lb tv:=KY.bN (fun b hb hf=>gk b hb (by
     rcases hf with hf|hf|hf
     ·omega
     ·rcases hf with hf|hf|hf<;>omega
     ·rcases hf with hf|hf|hf|hf<;>omega)) (by omega)
    refine⟨fun j hj hn=>fb _ (by omega) (by omega),(jw lk).2 (fun j hj hn=>fb _ (by omega) (by omega)),?_⟩
    simp+decide only[st,xv,iM,aav,Uu,hw]
    refine⟨n-1,by omega,i+1,xU,by omega,KH'.mu,?_,by simp only[aa.set];omega,fun b hb hk=>?_,?_,r1,r4,r31,Uv,rfl⟩
    ·rw[<-List.take_append_getElem hi,List.map_append]
     unfold aZ at cC ⊢
     rw[List.map_append]
     exact cC.auV UG
    ·simp only[aa.set]
     rw[if_neg hk,gk b (by omega) hb,yo.get b (by omega),ho b hb hk]
    ·intro l br
     rw[<-List.take_append_getElem hi] at br
     rcases List.mem_append.1 br with br|br
     ·exact hm l br
     ·have:l=c.cu[i]:=by simpa using br
      rw[this];exact U4
  ·have aA: ¬(i:Int)<(c.cu.length:Int):=by omega
   have Kk:i=c.cu.length:=by omega
   rw[List.take_of_length_le (by omega)] at hg hm
   have Ve:jC c=true:=by
    unfold jC
    have:c.cu.all d8=true:=List.all_eq_true.2 hm
    simp[this,a1,a2];omega
   rcases hg with⟨e,_⟩|⟨b,_,rfl,du,eo,ch⟩
   ·have:=congrArg List.length e
    rw[jh] at this
    simp only[List.length_map,List.length_nil] at this
    omega
   rw[jh,List.length_map] at K
   have hgb:H.get b=some (.cells (aZ aU (c.cu.map a8)).flatten):=by
    revert du;unfold cellsOf;split
    ·rename_i e;intro hh;cases hh;exact e
    ·intro hh;cases hh
   have hA1:=K1.ar.lt
   have hS1:=K1.sp.lt
   have UG:=K1.l1
   have KK:=(KE.kh (ai:=c.cu.map a8) (t:=b) (by rw[List.length_map];exact K) hgb ch ⟨by omega,by rintro(e|e|e)<;>omega,by rintro(e|e|e|e)<;>omega⟩)
   have xH:cellsOf H h.next=some [.int .i64 c.bd, .int .i64 c.ll,w]:=by
    rw[<-x1];unfold cellsOf;rw[ho _ (by omega) (by have:=rZ.1;omega)]
   obtain⟨h',c2,aR,K2,eV,kQ⟩:=ag0 ok KK (o:=root c.bd) (t:=fun _=> .full) (anB a1.1 a1.2) (fun o' ei=>by cases ei) (by decide) (by decide)
   simp+decide only[st,xv,iM,SM,Nu,Uv,Uu,r1,r4,aA,xH]
   refine au c2 ?_
   simp+decide only[st,xv,iM,Nu,aau,r4]
   refine⟨_,rfl,⟨by have:=kQ.1;have:=xo.next;omega,fun x hx=>?_⟩, .inr ⟨Ve,{a with tb:=b},aR,rfl,K2,⟨?_,?_,?_⟩,?_⟩⟩
   ·rw[kQ.2 x (by have:=xo.next;omega) ?_ ?_ ?_]
    ·exact TF.get x hx
    ·rintro(e|e)
     ·have:=rZ.1;simp only at e;omega
     ·simp only at e;omega
    ·intro e;have:=rZ.2.1 x e;omega
    ·intro e;have:=rZ.2.2 x e;omega
   ·have:=rZ.1;show h.next<=a.kb;omega
   ·rintro x (e|e|e)
    ·have:=rZ.2.1 x (.inl e);omega
    ·have:=rZ.2.1 x (.inr (.inl e));omega
    ·rcases eV with h|h
     ·have:=rZ.2.1 x (.inr (.inr (e.trans h)));omega
     ·omega
   ·intro x e;have:=rZ.2.2 x e;omega
   ·show h.next<=b;omega
 obtain⟨v,h',hc,o,hq⟩:=key
 rcases hq with⟨e,rfl⟩|⟨e,a,lb,rfl,hq⟩
 ·exact .inl ⟨e,h',hc,o⟩
 ·exact .inr ⟨e,a,lb,h',hc,hq.1,o,hq.2⟩
end
section
open Go
variable {P:Program} {h:aa} {a:KA} {lb N M:Nat} {ai:List Th} {ah:List Ob} {g:Nat->Option (List UInt8)}
theorem KF.eJ {h0 h h':aa} {a:KA} {lb:Nat} (k:KF h h' a lb) (o:Old h0 h) (kn:rV h0.next a lb) (ht:h0.next<=a.tb):Old h0 h':=by
 have:=o.next
 refine⟨Nat.le_trans o.next k.1,fun x hx=>?_⟩
 rw[k.2 x (by omega) ?_ ?_ ?_,o.get x hx]
 ·rintro(e|e)
  ·have:=kn.1;omega
  ·omega
 ·intro e;have:=kn.2.1 x e;omega
 ·intro e;have:=kn.2.2 x e;omega
theorem rV.to {n m:Nat} {a:KA} {lb aR:Nat} (k:rV n a lb) (hl:aR=lb\/m<=aR) (hm:n<=m):rV n a aR:=by
 refine⟨k.1,fun b hb=>?_,k.2.2⟩
 rcases hb with hb|hb|hb
 ·exact k.2.1 b (.inl hb)
 ·exact k.2.1 b (.inr (.inl hb))
 ·rcases hl with h|h
  ·exact k.2.1 b (.inr (.inr (hb.trans h)))
  ·omega
end
section
open Go
variable {P:Program} {h:aa} {a:KA} {lb N M:Nat} {ai:List Th} {ah:List Ob} {g:Nat->Option (List UInt8)}
structure Rp where
 Ms:Int
 err:Int
 ret:Nat
 data:List UInt8
 deriving DecidableEq
structure KX (h:aa) (xb:Nat) (a:KA) (lb N M t:Nat) (ai:List Th) (ah:List Ob) (rp:Rp):Prop where
 k:KH h a lb N M ai ah (eB ah)
 x: ∃tl,h.get xb=some (.cells [.ptr a.kb 0, .ptr a.tb (t*12), .int .i64 t, .int .i64 rp.Ms, .int .i64 rp.err, .int .u64 rp.ret, .vs (BS rp.data) tl])
 lx:xb<h.next
 dK: ¬FK a xb
 dA: ¬FA a lb xb
 dS: ¬FS a xb
 ht:t<ai.length
 tv:TV ai
 root: ∃r,bh ah 1=some r
variable {xb t:Nat} {rp:Rp}
theorem KX.old (X:KX h xb a lb N M t ai ah rp) {h':aa} (o:Old h h'):KX h' xb a lb N M t ai ah rp:=by
 obtain⟨tl,hx⟩:=X.x
 exact⟨X.k.old o,⟨tl,by rw[o.get _ X.lx,hx]⟩,Nat.lt_of_lt_of_le X.lx o.next,X.dK,X.dA,X.dS,X.ht,X.tv,X.root⟩
theorem KX.ak (X:KX h xb a lb N M t ai ah rp):(ai[t]'X.ht).ak.ok:=(X.tv.ak _ (List.getElem_mem X.ht)).1
theorem KX.th (X:KX h xb a lb N M t ai ah rp):cellsOf h a.tb=some (aZ aU ai).flatten/\t*12+12<=(aZ aU ai).flatten.length/\((aZ aU ai).flatten.drop (t*12)).take 2=[.int .u8 (ai[t]'X.ht).ak.d, .vs (aw.R (ai[t]'X.ht).ak.ps) .ao]:=by
 have hl:(aZ aU ai).flatten.length=ai.length*12:=by rw[ji ma,jh]
 have ht:=X.ht
 refine⟨av X.k.cu,by omega,?_⟩
 have hc:=Gk (rows:=aZ aU ai) (i:=t) (by rw[jh];exact ht) ma
 have e:((aZ aU ai).flatten.drop (t*12)).take 2=(((aZ aU ai).flatten.drop (t*12)).take 12).take 2:=by rw[List.take_take];rfl
 rw[e,hc]
 simp[aZ,iG]
theorem CS (ok:ax P tb) (X:KX h xb a lb N M t ai ah rp) {o:Ob} {tl:Nat->aH} (hl:o.ak.ok):an P 99 [.ptr xb 0, .agg (o.c tl)] h (.bool (eS (ai[t]'X.ht).ak o.ak)) h:=by
 refine ok.keeps (rf:=A5) rfl (Nat.le_of_ble_eq_true rfl) rfl ?_
 obtain⟨rt,hx⟩:=X.x
 have cx:=av hx
 obtain⟨ct,hle,gB⟩:=X.th
 have l2:=X.k.l2
 have lx:=X.lx
 have i9:t*12+2<=(aZ aU ai).flatten.length:=by omega
 simp+decide only[st,xv,A5,acY,Ob.c]
 generalize hY:aa.at _ _ _=Y
 have yo:Old h Y:=by rw[<-hY];exact(Old.refl h).at (Nat.le_refl _)
 have y0:cellsOf Y h.next=some (o.c tl):=by rw[<-hY];exact av (by simp[aa.at,Ob.c])
 have yn:h.next<Y.next:=by rw[<-hY];simp[aa.at]
 have nV:cellsOf Y xb=_:=(show cellsOf Y xb=cellsOf h xb by unfold cellsOf;rw[yo.get _ lx]).trans cx
 have vU:cellsOf Y a.tb=_:=(show cellsOf Y a.tb=cellsOf h a.tb by unfold cellsOf;rw[yo.get _ l2]).trans ct
 simp only[Ob.c] at y0
 have n1:xb<Y.next:=by omega
 have n2:a.tb<Y.next:=by omega
 refine bU 11 rfl rfl ?_
 simp+decide only[st,xv,A5,acX,nV,vU,y0,n1,n2,yn,i9,gB]
 refine fj (ajR (a:=(ai[t]'X.ht).ak) (b:=o.ak) (ta:= .ao) (eU:=tl 0) ok X.ak hl) (cO (Nat.le_refl _)) ?_
 simp+decide only[st,xv]
 intro b hb
 rw[if_pos (by omega)]
 exact yo.get b hb
theorem MA (ok:ax P tb) (X:KX h xb a lb N M t ai ah rp) {o:Ob} {tl:Nat->aH} (hl:o.ak.ok):an P 100 [.ptr xb 0, .agg (o.c tl)] h (.bool (eX (ai[t]'X.ht).ak o.ak)) h:=by
 refine ok.keeps (rf:=Aw) rfl (Nat.le_of_ble_eq_true rfl) rfl ?_
 obtain⟨rt,hx⟩:=X.x
 have cx:=av hx
 obtain⟨ct,hle,gB⟩:=X.th
 have l2:=X.k.l2
 have lx:=X.lx
 have i9:t*12+2<=(aZ aU ai).flatten.length:=by omega
 simp+decide only[st,xv,Aw,acn,Ob.c]
 generalize hY:aa.at _ _ _=Y
 have yo:Old h Y:=by rw[<-hY];exact(Old.refl h).at (Nat.le_refl _)
 have y0:cellsOf Y h.next=some (o.c tl):=by rw[<-hY];exact av (by simp[aa.at,Ob.c])
 have yn:h.next<Y.next:=by rw[<-hY];simp[aa.at]
 have nV:cellsOf Y xb=_:=(show cellsOf Y xb=cellsOf h xb by unfold cellsOf;rw[yo.get _ lx]).trans cx
 have vU:cellsOf Y a.tb=_:=(show cellsOf Y a.tb=cellsOf h a.tb by unfold cellsOf;rw[yo.get _ l2]).trans ct
 simp only[Ob.c] at y0
 have n1:xb<Y.next:=by omega
 have n2:a.tb<Y.next:=by omega
 refine bU 11 rfl rfl ?_
 simp+decide only[st,xv,Aw,acm,nV,vU,y0,n1,n2,yn,i9,gB]
 refine fj (aiT (a:=(ai[t]'X.ht).ak) (b:=o.ak) (ta:= .ao) (eU:=tl 0) ok X.ak hl) (cO (Nat.le_refl _)) ?_
 simp+decide only[st,xv]
 intro b hb
 rw[if_pos (by omega)]
 exact yo.get b hb
def ef (l o:Lb):Bool:=eS l o&&eX l o
theorem Ih (ok:ax P tb) (X:KX h xb a lb N M t ai ah rp) {o:Ob} {tl:Nat->aH} (hl:o.ak.ok):an P 92 [.ptr xb 0, .agg (o.c tl)] h (.bool (ef (ai[t]'X.ht).ak o.ak)) h:=by
 refine ok.keeps (rf:=tZ) rfl (Nat.le_of_ble_eq_true rfl) rfl ?_
 simp+decide only[st,xv,tZ,ade,Ob.c]
 generalize hY:aa.at _ _ _=Y
 have yo:Old h Y:=by rw[<-hY];exact(Old.refl h).at (Nat.le_refl _)
 have y0:cellsOf Y h.next=some (o.c tl):=by rw[<-hY];exact av (by simp[aa.at,Ob.c])
 simp only[Ob.c] at y0
 have XY:=X.old yo
 unfold ef
 simp+decide only[st,xv,tZ,C8,y0]
 refine au (CS ok XY (o:=o) (tl:=tl) hl) ?_
 cases hs:eS (ai[t]'X.ht).ak o.ak with
 |false=>
  simp+decide only[st,xv,tZ,C8]
  first|exact⟨rfl,yo.get⟩|(refine⟨by simp,yo.get⟩)
 |true=>
  simp+decide only[st,xv,tZ,C8,y0]
  refine au (MA ok XY (o:=o) (tl:=tl) hl) ?_
  simp+decide only[st,xv,tZ,C8]
  first|exact yo.get|(refine⟨?_,yo.get⟩;cases eX (ai[t]'X.ht).ak o.ak<;>rfl)
def eI (ah:List Ob) (l:Lb):Ob->List Nat->Ob×Nat
 |o,[]=>(o,0)
 |o,p::ps=>if o.kind≠1 then(bf,7) else if eS l o.ak=false then(bf,6) else match bh ah p with
  |none=>(bf,7)
  |some o'=>eI ah l o' ps
def dq (ah:List Ob) (l:Lb) (id:Nat):Ob×Nat:=match fD id with
 |[]=>(bf,7)
 |r::ps=>eI ah l ((bh ah r).getD bf) ps
theorem F3 {id:Nat} (h:dM id=false):fD id=[]:=by
 unfold dM at h
 unfold fD
 cases hn:gx id with
 |none=>rfl
 |some l=>rw[hn] at h;cases h
theorem F2 {id:Nat} (h:dM id=true): ∃ps,fD id=1::ps:=by
 unfold dM at h
 unfold fD
 cases hn:gx id with
 |none=>rw[hn] at h;cases h
 |some l=>
  have:=(GI hn).1
  refine⟨(List.range l.length).map fun j=>id/64^(l.length-(j+1)),?_⟩
  simp only[List.range_succ_eq_map,List.map_cons,List.map_map,Nat.sub_zero,this]
  rfl
theorem Yo {ah:List Ob} {l:Lb}: ∀{ps:List Nat} {o:Ob},(∃x∈ah,x=o)->(eI ah l o ps).1=bf\/(eI ah l o ps).1∈ah
 |[],o,h=>by obtain⟨x,hx,rfl⟩:=h;exact .inr hx
 |p::ps,o,h=>by
  unfold eI
  split
  ·exact .inl rfl
  split
  ·exact .inl rfl
  cases ho:bh ah p with
  |none=>exact .inl rfl
  |some o'=>exact Yo ⟨o',(lf ho).1,rfl⟩
def qj:Nat->aH:=fun _=> .full
theorem xY:bf.c qj=[.int .u64 0, .int .i64 0, .int .u8 0, .vs [] .full, .vs [] .full, .vs [] .full, .vs [] .full, .int .i64 0, .int .i64 0, .int .i64 0, .vs [] .full, .vs [] .full, .vs [] .full]:=rfl
theorem Lf (ok:ax P tb) (X:KX h xb a lb N M t ai ah rp) {id:Nat} (aL:id<2^64):an P 101 [.ptr xb 0, .int .u64 id] h (.ay [.agg ((dq ah (ai[t]'X.ht).ak id).1.c aK), .int .i64 (dq ah (ai[t]'X.ht).ak id).2]) h:=by
 refine ok.eH (rf:=iR) rfl (Nat.le_of_ble_eq_true rfl) (by simp only[AV.bD,AV.cf,ux];rfl) ?_
 simp+decide only[st,xv,iR,ack]
 generalize hY:aa.at _ _ _=Y
 have yo:Old h Y:=by rw[<-hY];exact(Old.refl h).at (Nat.le_refl _)
 have y0:cellsOf Y h.next=some (bf.c qj):=by rw[<-hY];exact av (by simp[aa.at];rfl)
 have yn:Y.next=h.next+1:=by rw[<-hY];simp[aa.at]
 have lx:=X.lx
 simp only[xY] at y0
 obtain⟨R,hR⟩: ∃R,R=dq ah (ai[t]'X.ht).ak id:=⟨_,rfl⟩
 rw[<-hR]
 let J:Nat->Env->aa->Prop:=fun n ρ H=> ∃o ps q ob t6,n=ps.length/\Old h H/\o∈ah/\eI ah (ai[t]'X.ht).ak o ps=R/\ρ 0= .ptr xb 0/\ρ 4= .ptr h.next 0/\ρ 6= .vs ((aJ .u64).R (q::ps)) t6/\ρ 7= .ptr ob 0/\h.next<ob/\ob<H.next/\cellsOf H h.next=some (bf.c qj)/\cellsOf H ob=some (o.c aK)
 refine l8 0 rfl rfl J (fun l' ρ h hk=>hk) ?_ ?_
 ·unfold dq at hR
  cases hm:dM id with
  |false=>
   rw[F3 hm] at hR
   simp+decide only[st,xv,iR,CK,j8,List.foldr]
   refine au (F4 ok aL) ?_
   rw[hm]
   simp+decide only[st,xv,iR,CK,acj,y0,xr,bB]
   refine⟨by rw[hR];rfl,fun b hb=>?_⟩
   rw[if_neg (by omega)];exact yo.get b hb
  |true=>
   obtain⟨ps,hp⟩:=F2 hm
   rw[hp] at hR
   simp+decide only[st,xv,iR,CK,j8,List.foldr]
   refine au (F4 ok aL) ?_
   rw[hm]
   simp+decide only[st,xv,iR,CK,Pz]
   refine au (Wk ok aL) ?_
   rw[hp]
   have XY:=X.old yo
   obtain⟨rt,hx⟩:=XY.x
   have cx:=av hx
   have J4:=XY.lx
   have g0:((aJ .u64).R (1::ps))[0]? =some [.int .u64 1]:=rfl
   obtain⟨r,hr⟩:=X.root
   have aT:=JE ok (XY.old ((Old.refl Y).clean (n:=14))).k (id:=1)
   change R=eI ah (ai[t]'X.ht).ak ((bh ah 1).getD bf) ps at hR
   rw[hr] at aT hR
   rw[Option.getD_some] at hR
   simp+decide only[st,xv,iR,Pz]
   refine bU 14 rfl rfl ?_
   simp+decide only[st,xv,iR,aci,cx,J4,g0,xr]
   refine fj aT (cO (Nat.le_refl _)) ?_
   simp+decide only[st,xv,df,xr]
   have vH:=(lf hr).1
   refine⟨fun j hj hn=>?_,ps.length,r,ps,1,Y.next+11,_,rfl,?_,vH,hR.symm,rfl,rfl,rfl,rfl,by omega,?_,?_,?_⟩
   ·simp only[aa.set,aa.at,aa.clean]
    rw[if_neg (by omega),if_neg (by omega)]
    exact if_neg (by omega)
   ·exact yo.trans (((Old.refl Y).clean.at (by omega)).set (by omega))
   ·simp[aa.set,aa.at,aa.clean]
   ·rw[show∀(Z:aa) (cs:List AV),cellsOf (Z.set (Y.next+(1+1+1+1+1+1+1+1+1+1+1)) (some (.cells cs))) h.next=cellsOf Z h.next from fun Z cs=>by unfold cellsOf;simp only[aa.set];rw[if_neg (by omega)]]
    rw[xY,<-y0]
    unfold cellsOf
    simp only[aa.at,aa.clean]
    rw[if_neg (by omega),if_pos (by omega)]
   ·exact av (by simp[aa.set];rfl)
 ·rintro n ρ H ⟨o,ps,q,ob,t6,hn,ho,cU,hw,r0,r4,r6,r7,avH,JG,z0,z1⟩
  have XH:=X.old ho
  have qx:=ho.next
  simp only[xY] at z0
  simp only[df] at z1
  have hv:=XH.k.ks.val o cU
  have EU: ¬ob=h.next:=by omega
  have agZ: ¬h.next=ob:=by omega
  cases ps with
  |nil=>
   have e1:(aJ .u64).R [q]=[[.int .u64 q]]:=rfl
   simp+decide only[st,xv,iR,HP,HO,ach,r4,r6,r7,e1,z0,z1,xr,EU,bB]
   unfold eI at hw
   rw[<-hw]
   refine⟨?_,fun b hb=>?_⟩
   ·show(AV.ay [.agg (o.c aK), .int .i64 0]).strip=_
    simp only[AV.strip,AV.bG,yO];rfl
   ·rw[if_neg (by omega)];exact ho.get b hb
  |cons p ps=>
   have e1:(aJ .u64).R (q::p::ps)=[.int .u64 q]::[.int .u64 p]::(aJ .u64).R ps:=rfl
   have k1:List.take (((aJ .u64).R ps).length+1+1-1) ([AV.int .u64 p]::(aJ .u64).R ps)=[AV.int .u64 p]::(aJ .u64).R ps:=List.take_of_length_le (by simp)
   unfold eI at hw
   by_cases h1:o.kind=1
   case neg=>
    simp+decide only[st,xv,iR,HP,HO,Py,acg,r4,r6,r7,e1,k1,z0,z1,xr,EU,h1,bB]
    rw[if_pos h1] at hw
    rw[<-hw]
    refine⟨rfl,fun b hb=>?_⟩
    rw[if_neg (by omega)];exact ho.get b hb
   rw[if_neg (fun h=>h h1)] at hw
   have hk:(o.kind=1)=True:=eq_true h1
   simp+decide only[st,xv,iR,HP,HO,Py,BN,r0,r4,r6,r7,e1,k1,z0,z1,xr,EU,hk]
   refine au (CS ok XH (o:=o) (tl:=aK) hv.ok.ak) ?_
   cases hs:eS (ai[t]'X.ht).ak o.ak with
   |false=>
    rw[hs,if_pos rfl] at hw
    simp+decide only[st,xv,iR,BN,Zp,r4,z0,xr,bB]
    rw[<-hw]
    refine⟨rfl,fun b hb=>?_⟩
    rw[if_neg (by omega)];exact ho.get b hb
   |true=>
    rw[hs,if_neg (by simp)] at hw
    obtain⟨rt,hx⟩:=XH.x
    have cx:=av hx
    have J4:=XH.lx
    have aT:=JE ok (XH.old ((Old.refl H).clean (n:=13))).k (id:=p)
    have zc:cellsOf (H.clean 13) ob=_:=(show cellsOf (H.clean 13) ob=cellsOf H ob by unfold cellsOf;simp only[aa.clean];rw[if_pos JG]).trans z1
    have fr: ∀(cs:List AV) (i:Nat),dL 13 H.next i ((H.clean 13).set ob (some (.cells cs))):=fun cs i=>(jw JG).2 (cO (Nat.le_refl _))
    cases hf:bh ah p with
    |none=>
     rw[hf] at aT hw
     simp+decide only[st,xv,iR,BN,Mq]
     refine bU 13 rfl rfl ?_
     simp+decide only[st,xv,iR,Mp,r0,r7,cx,J4,xr]
     refine fj aT (cO (Nat.le_refl _)) ?_
     have U3:h.next<H.next:=by omega
     simp+decide only[st,xv,iR,Mo,Zo,r0,r4,r7,z1,z0,JG,U3,df,EU,agZ,xr,bB]
     refine⟨fr _ _,?_,fun b hb=>?_⟩
     ·rw[<-hw];rfl
     ·rw[if_neg (by omega),if_neg (by omega),if_pos (by omega)];exact ho.get b hb
    |some o'=>
     rw[hf] at aT hw
     simp+decide only[st,xv,iR,BN,Mq]
     refine bU 13 rfl rfl ?_
     simp+decide only[st,xv,iR,Mp,r0,r7,cx,J4,xr]
     refine fj aT (cO (Nat.le_refl _)) ?_
     simp+decide only[st,xv,iR,Mo,r0,r4,r7,z1,JG,df,EU,agZ,xr]
     refine⟨fr _ _,ps.length,by simp only[List.length_cons] at hn;omega,o',ps,p,ob,_,rfl,(ho.trans ((Old.refl H).clean)).set (by omega),(lf hf).1,hw,r0,r4,rfl,r7,avH,by simp only[aa.set,aa.clean];omega,?_,av (by simp[aa.set];rfl)⟩
     rw[xY,<-z0]
     unfold cellsOf
     simp only[aa.set,aa.clean]
     rw[if_neg (by omega),if_pos (by omega)]
end
section
open Go
variable {P:Program} {h:aa} {a:KA} {lb N M:Nat} {ai:List Th} {ah:List Ob} {g:Nat->Option (List UInt8)} {xb t:Nat} {rp:Rp}
def bJ (ah:List Ob) (l:Lb) (id:Nat) (kind:Int) (q:Lb->Bool):Ob×Nat:=if(dq ah l id).2≠0 then(bf,(dq ah l id).2) else if(dq ah l id).1.kind≠kind then(bf,8) else if q (dq ah l id).1.ak=false then(bf,6) else((dq ah l id).1,0)
theorem alE {l:Lb} {id:Nat} (hr: ∃r,bh ah 1=some r):(dq ah l id).1=bf\/(dq ah l id).1∈ah:=by
 unfold dq
 cases hm:dM id with
 |false=>rw[F3 hm];exact .inl rfl
 |true=>
  obtain⟨ps,hp⟩:=F2 hm
  obtain⟨r,hr⟩:=hr
  rw[hp]
  show(eI ah l ((bh ah 1).getD bf) ps).1=bf\/(eI ah l ((bh ah 1).getD bf) ps).1∈ah
  rw[hr]
  exact Yo ⟨r,(lf hr).1,rfl⟩
theorem sP:bf.ak.ok:=⟨by decide,fun p hp=>(by cases hp),by decide⟩
theorem KX.anK (X:KX h xb a lb N M t ai ah rp) {l:Lb} {id:Nat}:(dq ah l id).1.ak.ok:=by
 rcases alE (l:=l) (id:=id) X.root with e|e
 ·rw[e];exact sP
 ·exact(X.k.ks.val _ e).ok.ak
theorem anC {o:Ob} {n:Nat} {tl:Nat->aH}:(AV.ay [.agg (o.c tl), .int .i64 n]).strip= .ay [.agg (o.c aK), .int .i64 n]:=by simp only[AV.strip,AV.bG,yO]
theorem ue (ok:ax P tb) (X:KX h xb a lb N M t ai ah rp) {id:Nat} (aL:id<2^64) {kind:Int} {f:Nat} {q:Lb->Bool} (hf:cj P f=true) (hq: ∀(o:Ob) (h':aa),o.ak.ok->Old h h'->an P f [.ptr xb 0, .agg (o.c aK)] h' (.bool (q o.ak)) h'):
 an P 91 [.ptr xb 0, .int .u64 id, .int .i64 kind, .fn f [.ptr xb 0] []] h (.ay [.agg ((bJ ah (ai[t]'X.ht).ak id kind q).1.c aK), .int .i64 (bJ ah (ai[t]'X.ht).ak id kind q).2]) h:=by
 refine ok.eH (rf:=qH) rfl (Nat.le_of_ble_eq_true rfl) (by simp only[AV.bD,AV.cf,ux];rfl) ?_
 simp+decide only[st,xv,qH,adj,P1]
 generalize hY:aa.at _ _ _=Y
 have yo:Old h Y:=by rw[<-hY];exact(Old.refl h).at (Nat.le_refl _)
 have y0:cellsOf Y h.next=some (bf.c qj):=by rw[<-hY];exact av (by simp[aa.at];rfl)
 have yn:Y.next=h.next+1:=by rw[<-hY];simp[aa.at]
 have XY:=X.old yo
 refine au (Lf ok XY aL) ?_
 have gC:=X.anK (l:=(ai[t]'X.ht).ak) (id:=id)
 obtain⟨V,hV⟩: ∃V,V=bJ ah (ai[t]'X.ht).ak id kind q:=⟨_,rfl⟩
 rw[<-hV]
 unfold bJ at hV
 generalize dq ah (ai[t]'X.ht).ak id=R at*
 obtain⟨o,e⟩:=R
 simp only at gC hV ⊢
 simp+decide only[st,xv,qH,P1,df,xr]
 generalize hZ:aa.set _ _ _=Z
 have zo:Old Y Z:=by rw[<-hZ];exact((Old.refl Y).at (Nat.le_refl _)).set (Nat.le_refl _)
 have z1:cellsOf Z Y.next=some (o.c aK):=by rw[<-hZ];exact av (by simp[aa.set];rfl)
 have z0:cellsOf Z h.next=some (bf.c qj):=by rw[<-y0];unfold cellsOf;rw[zo.get _ (by omega)]
 have XZ:=XY.old zo
 have hold:=yo.trans zo
 simp only[xY] at z0
 simp only[df] at z1
 by_cases he:e=0
 ·subst he
  rw[if_neg (fun h=>h rfl)] at hV
  by_cases hk:o.kind=kind
  ·have po:(o.kind=kind)=True:=eq_true hk
   rw[if_neg (fun h=>h hk)] at hV
   simp+decide only[st,xv,qH,IE,P0,ID,z1,po]
   refine pO hf (hq o Z gC hold) ?_
   cases hqq:q o.ak with
   |false=>
    rw[hqq,if_pos rfl] at hV
    rw[hV]
    simp+decide only[st,xv,qH,ID,adg,z0,xr,bB]
    exact⟨rfl,fun b hb=>by rw[if_neg (by omega)];exact hold.get b hb⟩
   |true=>
    rw[hqq,if_neg (by simp)] at hV
    rw[hV]
    simp+decide only[st,xv,qH,ID,adf,z0,z1,xr,bB]
    exact⟨anC (o:=o) (n:=0) (tl:=aK),fun b hb=>by rw[if_neg (by omega)];exact hold.get b hb⟩
  ·have po:(o.kind=kind)=False:=eq_false hk
   rw[if_pos hk] at hV
   rw[hV]
   simp+decide only[st,xv,qH,IE,P0,adh,z0,z1,po,xr,bB]
   exact⟨rfl,fun b hb=>by rw[if_neg (by omega)];exact hold.get b hb⟩
 ·have dI:((e:Int)=0)=False:=eq_false (by omega)
  rw[if_pos he] at hV
  rw[hV]
  simp+decide only[st,xv,qH,IE,adi,z0,dI,xr,bB]
  exact⟨rfl,fun b hb=>by rw[if_neg (by omega)];exact hold.get b hb⟩
theorem KX.mu (X:KX h xb a lb N M t ai ah rp) {x:Th} (hx:x.ak.ok/\x.ak.ps.length<=16):KX (h.set a.tb (some (.cells (aZ aU (ai.set t x)).flatten))) xb a lb N M t (ai.set t x) ah rp:=by
 obtain⟨tl,tI⟩:=X.x
 have UE:=X.k.sp.lt
 obtain⟨f,A,R⟩:=X.k.ar
 have ltA:=A.lt
 have e: ∀b,b≠a.tb->(h.set a.tb (some (.cells (aZ aU (ai.set t x)).flatten))).get b=h.get b:=fun b hb=>by simp only[aa.set];rw[if_neg hb]
 have nA: ∀b,FA a lb b->b≠a.tb:=fun b hb e=>X.k.kY b (.inr e) hb
 have nS: ∀b,FS a b->b≠a.tb:=fun b hb e=>X.k.nU b (.inr e) hb
 have hn:h.next<=(h.set a.tb (some (.cells (aZ aU (ai.set t x)).flatten))).next:=Nat.le_refl _
 refine⟨⟨by rw[e _ X.k.AY,List.length_set,X.k.top],by simp[aa.set],⟨f,A.bN hn (e _ (nA _ (.inl rfl))) (e _ (nA _ (.inr (.inl rfl)))) (fun _=>e _ (nA _ (.inr (.inr rfl)))) (Nat.le_refl _),R⟩,
  X.k.sp.bN hn (e _ (nS _ (.inl rfl))) (e _ (nS _ (.inr (.inl rfl)))) (e _ (nS _ (.inr (.inr (.inl rfl))))) (e _ (nS _ (.inr (.inr (.inr rfl))))) (Nat.le_refl _),X.k.l1,X.k.l2,X.k.AY,X.k.kZ,X.k.kY,X.k.nU,X.k.ks⟩,
  ⟨tl,by rw[e _ (fun e=>X.dK (.inr e)),tI]⟩,X.lx,X.dK,X.dA,X.dS,by rw[List.length_set];exact X.ht,⟨by rw[List.length_set];exact X.tv.len,fun y hy=>?_⟩,X.root⟩
 rcases List.mem_or_eq_of_mem_set hy with hy|rfl
 ·exact X.tv.ak y hy
 ·exact hx
def rh (l:Lb) (cs:List Nat):Lb:=cs.foldl (fun l c=>xA l c 0) l
theorem ZC {d:Nat}: ∀{l acc:List (Nat×Nat)},(l.foldl (nF d) acc).length<=acc.length+l.length
 |[],acc=>by simp
 |p::l,acc=>by
  have h1:=ZC (d:=d) (l:=l) (acc:=nF d acc p)
  have h2:=YZ (d:=d) (l:=acc) (p:=p)
  rw[List.foldl_cons,List.length_cons];omega
theorem ZB {d:Nat} {q:Nat×Nat}: ∀{l acc:List (Nat×Nat)},q∈l.foldl (nF d) acc->q∈acc\/q∈l
 |[],acc,h=> .inl h
 |p::l,acc,h=>by
  rcases ZB (l:=l) (acc:=nF d acc p) h with h|h
  ·rcases YY h with h|h
   ·exact .inr (by simp[h])
   ·exact .inl h
  ·exact .inr (List.mem_cons_of_mem _ h)
theorem amy {l:Lb} {c kj:Nat} (hl:l.ok) (hs:l.ps.length<2^19) (hc:c<65536) (hv:kj<256):(xA l c kj).ok/\(xA l c kj).ps.length<=l.ps.length+1:=by
 have h1:(xA l c kj).ps.length<=l.ps.length+1:=by
  have:=ZC (d:=l.d) (l:=l.ps++[(c,kj)]) (acc:=[])
  simpa [xA,jG] using this
 refine⟨⟨hl.d,fun p hp=>?_,by omega⟩,h1⟩
 rcases ZB hp with h|h
 ·cases h
 ·rcases List.mem_append.1 h with h|h
  ·exact hl.ps p h
  ·have:p=(c,kj):=by simpa using h
   subst this;exact⟨hc,hv⟩
theorem Xr {cs:List Nat}: ∀{l:Lb},l.ok->l.ps.length+cs.length<2^19->(∀c∈cs,c<65536)->(rh l cs).ok/\(rh l cs).ps.length<=l.ps.length+cs.length:=by
 induction cs with
 |nil=>intro l hl _ _;exact⟨hl,by simp[rh]⟩
 |cons c cs ih=>
  intro l hl hs hc
  simp only[List.length_cons] at hs
  have h1:=amy (l:=l) (c:=c) (kj:=0) hl (by omega) (hc c (List.mem_cons_self ..)) (by omega)
  have h2:=ih h1.1 (by omega) (fun x hx=>hc x (List.mem_cons_of_mem _ hx))
  refine⟨h2.1,?_⟩
  have:=h2.2
  simp only[List.length_cons]
  show(rh (xA l c 0) cs).ps.length<=_
  omega
def XF (h h':aa) (a:KA) (lb xb:Nat):Prop:=h.next<=h'.next/\ ∀b,b<h.next-> ¬FK a b-> ¬FA a lb b-> ¬FS a b->b≠xb->h'.get b=h.get b
theorem XF.refl:XF h h a lb xb:=⟨Nat.le_refl _,fun _ _ _ _ _ _=>rfl⟩
theorem KF.xf {h':aa} (k:KF h h' a lb):XF h h' a lb xb:=⟨k.1,fun b hb h1 h2 h3 _=>k.2 b hb h1 h2 h3⟩
theorem XF.old {h':aa} (o:Old h h'):XF h h' a lb xb:=⟨o.next,fun b hb _ _ _ _=>o.get b hb⟩
theorem XF.trans {h1 h2:aa} {aR:Nat} (x:XF h h1 a lb xb) (y:XF h1 h2 a aR xb) (hl:aR=lb\/h.next<=aR):XF h h2 a lb xb:=⟨Nat.le_trans x.1 y.1,fun b hb h1 h2 h3 h4=>by
 have:=x.1
 rw[y.2 b (by omega) h1 ?_ h3 h4,x.2 b hb h1 h2 h3 h4]
 rintro(e|e|e)
 ·exact h2 (.inl e)
 ·exact h2 (.inr (.inl e))
 ·rcases hl with hl|hl
  ·exact h2 (.inr (.inr (e.trans hl)))
  ·omega⟩
theorem wx {l:List Th} {t j:Nat} (ht:t<l.length) {v:List AV} {x':Th} (hj:j+v.length<=12) (hx:List.take j (l[t].c aU)++v++List.drop (j+v.length) (l[t].c aU)=x'.c aU):List.take (t*12+j) (aZ aU l).flatten++v++List.drop (t*12+j+v.length) (aZ aU l).flatten=(aZ aU (l.set t x')).flatten:=by
 have:=BF (rows:=aZ aU l) (i:=t) (j:=j) (v:=v) ma (YM ht) hj
 rw[hx] at this
 unfold aZ at*
 rw[List.map_set]
 exact this
def gT (x:Th) (cs:List Nat):Nat×Th:=if 16<(rh x.ak cs).ps.length then(9,x) else(0,{x with ak:=rh x.ak cs})
theorem sJ {α:Type} {l:List α} {i:Nat} (h:i<l.length):l.set i l[i]=l:=by
 apply List.ext_getElem (by simp)
 intro j h1 h2
 rw[List.getElem_set]
 split
 ·rename_i e;subst e;rfl
 ·rfl
theorem V0 (ok:ax P tb) (X:KX h xb a lb N M t ai ah rp) {cs:List Nat} {tl:aH} (hc: ∀c∈cs,c<65536) (dp:cs.length<2^16):
 ∃h',an P 89 [.ptr xb 0, .vs ((aJ .u16).R cs) tl] h (.int .i64 (gT (ai[t]'X.ht) cs).1) h'/\KX h' xb a lb N M t (ai.set t (gT (ai[t]'X.ht) cs).2) ah rp/\XF h h' a lb xb:=by
 refine ok.dT (rf:=pB) rfl (Nat.le_of_ble_eq_true rfl) ?_
 obtain⟨rt,hx⟩:=X.x
 have cx:=av hx
 obtain⟨ct,hle,gB⟩:=X.th
 have lx:=X.lx
 have i9:t*12+2<=(aZ aU ai).flatten.length:=by omega
 have ag8:=X.ak
 have Ka:=(X.tv.ak _ (List.getElem_mem X.ht)).2
 simp+decide only[st,xv,pB,adq,adp,cx,ct,i9,gB,xr]
 generalize hY:aa.set _ _ _=Y
 have yo:Old h Y:=by rw[<-hY];exact((Old.refl h).at (Nat.le_refl _)).set (Nat.le_refl _)
 have y0:cellsOf Y h.next=some ((ai[t]'X.ht).ak.c .ao):=by rw[<-hY];exact av (by simp[aa.set];rfl)
 have yn:Y.next=h.next+1:=by rw[<-hY];simp[aa.at,aa.set]
 simp+decide only[st,xv,pB,ado,fh.aS]
 let I:Nat->Env->aa->Prop:=fun n ρ H=> ∃i,cs.length=i+n/\Old h H/\h.next<H.next/\cellsOf H h.next=some ((rh (ai[t]'X.ht).ak (cs.take i)).c .ao)/\ρ 0= .ptr xb 0/\ρ 5= .ptr h.next 0/\ρ 15= .vs ((aJ .u16).R cs) tl/\ρ 16= .int .i64 cs.length/\ρ 17= .int .i64 i
 refine dJ I ?_ cs.length ⟨0,by omega,yo,by omega,y0,rfl,rfl,rfl,rfl,rfl⟩
 rintro n ρ H ⟨i,aE,ho,hhn,bt,r0,r5,eL,jF,pf⟩
 by_cases hi:i<cs.length
 ·have aA:(i:Int)<(cs.length:Int):=by omega
  have hw:=dv (show i<2^61 by omega)
  have g1:((aJ .u16).R cs)[i]? =some [.int .u16 cs[i]]:=(aJ .u16).gR hi
  have ba:=Xr (cs:=cs.take i) ag8 (by have:=List.length_take_le i cs;omega) (fun c h=>hc c (List.mem_of_mem_take h))
  simp only[Lb.c] at bt
  simp+decide only[st,xv,pB,IH,adn,P8,r5,eL,jF,pf,aA,g1,bt]
  refine au (akT (l:=rh (ai[t]'X.ht).ak (cs.take i)) (t:= .ao) (c:=cs[i]) (kj:=0) ok ba.1 (hc _ (List.getElem_mem hi)) (by omega)) ?_
  simp+decide only[st,xv,pB,P8,adm,r5,pf,hw,bt,Lb.c,xr]
  refine⟨n-1,by omega,i+1,by omega,ho.set (Nat.le_refl _),by simp only[aa.set];omega,av ?_,r0,r5,eL,jF,rfl⟩
  rw[<-List.take_append_getElem hi]
  unfold rh
  rw[List.foldl_append]
  simp[aa.set];rfl
 ·have aA: ¬(i:Int)<(cs.length:Int):=by omega
  rw[List.take_of_length_le (by omega)] at bt
  have ba:=Xr (cs:=cs) ag8 (by omega) hc
  have XH:=X.old ho
  obtain⟨JT,nI⟩:=XH.x
  have nV:=av nI
  unfold gT
  generalize hL:rh (ai[t]'X.ht).ak cs=L at*
  simp only[Lb.c] at bt
  by_cases h16:16<L.ps.length
  ·have TH:(16:Int)<(L.ps.length:Int):=by omega
   rw[if_pos h16]
   simp+decide only[st,xv,pB,IH,P7,adl,r5,jF,pf,aA,bt,aw.aS,TH]
   refine⟨rfl,?_,XF.old ho⟩
   show KX H xb a lb N M t (ai.set t (ai[t]'X.ht)) ah rp
   rw[sJ];exact XH
  ·have TH: ¬(16:Int)<(L.ps.length:Int):=by omega
   rw[if_neg h16]
   have vU:cellsOf H a.tb=some (aZ aU ai).flatten:=av XH.k.cu
   have UD:=XH.lx
   have lt2:=XH.k.l2
   simp+decide only[st,xv,pB,IH,P7,r5,jF,pf,aA,bt,aw.aS,TH]
   refine bU 8 rfl rfl ?_
   simp+decide only[st,xv,pB,adk,r0,r5,nV,vU,bt,hhn,UD,lt2,xr]
   have lK:=wx (l:=ai) X.ht (j:=0) (v:=[.int .u8 L.d, .vs (aw.R L.ps) .ao]) (x':={ai[t]'X.ht with ak:=L}) (by simp) rfl
   have hlen:t*12+2<=(aZ aU ai).flatten.length:=by omega
   rw[show List.take (t*12) (aZ aU ai).flatten++[AV.int IntKind.u8 ↑L.d,AV.vs (aw.R L.ps) aH.ao]++List.drop (t*12+(1+1)) (aZ aU ai).flatten=_ from lK]
   simp+decide only[st,xv,pB,ZV,hlen]
   have XC:=XH.old ((Old.refl H).clean (n:=8))
   refine⟨(jw lt2).2 (cO (Nat.le_refl _)),rfl,XC.mu (x:={ai[t]'X.ht with ak:=L}) ⟨ba.1,by show L.ps.length<=16;omega⟩,?_⟩
   refine⟨by simp only[aa.set,aa.clean];have:=ho.next;omega,fun b hb h1 h2 h3 h4=>?_⟩
   simp only[aa.set,aa.clean]
   have qx:=ho.next
   rw[if_neg (fun e=>h1 (.inr e)),if_pos (by omega)]
   exact ho.get b hb
end
section
open Go
variable {P:Program} {h:aa} {a:KA} {lb N M:Nat} {ai:List Th} {ah:List Ob} {g:Nat->Option (List UInt8)} {xb t:Nat} {rp:Rp}
structure Cl where
 op:Int
 kind:Int
 id:Nat
 to:Nat
 off:Int
 n:Int
 ak:Lb
 st:St
 data:List UInt8
 bX:List Nat
def Cl.c (c:Cl) (t:Nat->aH):List AV:=[.int .i64 c.op, .int .i64 c.kind, .int .u64 c.id, .int .u64 c.to, .int .i64 c.off, .int .i64 c.n, .int .u8 c.ak.d, .vs (aw.R c.ak.ps) (t 0), .vs ((aJ .u16).R c.st.s) (t 1), .vs ((aJ .u16).R c.st.i) (t 2), .vs ((aJ .u16).R c.st.o) (t 3), .vs (BS c.data) (t 4), .vs ((aJ .u16).R c.bX) (t 5)]
structure fJ (c:Cl):Prop where
 ak:c.ak.ok
 Ie:c.ak.ps.length<=16
 id:c.id<2^64
 to:c.to<2^64
 data:c.data.length<2^20
 bX:c.bX.length<2^16
 cat: ∀x∈c.bX,x<65536
theorem yR {c:Cl} {t:Nat->aH}:AV.bG (c.c t)=c.c aK:=by
 simp only[Cl.c,AV.bG,AV.strip,aw.ft,jQ,(aJ .u16).ft,aK]
theorem ZU {c:Cl} {t:Nat->aH}:(AV.agg (c.c t)).strip= .agg (c.c aK):=by simp only[AV.strip,yR]
theorem fc {c:Cl}:c.c aK=[.int .i64 c.op, .int .i64 c.kind, .int .u64 c.id, .int .u64 c.to, .int .i64 c.off, .int .i64 c.n, .int .u8 c.ak.d, .vs (aw.R c.ak.ps) .ao, .vs ((aJ .u16).R c.st.s) .ao, .vs ((aJ .u16).R c.st.i) .ao, .vs ((aJ .u16).R c.st.o) .ao, .vs (BS c.data) .ao, .vs ((aJ .u16).R c.bX) .ao]:=rfl
theorem aoW (ok:ax P tb) {g:Nat} {d9:List AV} {q:Nat->Bool} {l:List Nat} {t:aH} {h:aa} (hl:l.length<2^30) (hg:cj P g=true) (hq: ∀p∈l,an P g (.int .u16 p::d9) h (.bool (q p)) h):
 an P 175 [.vs ((aJ .u16).R l) t, .fn g [] d9] h (.int .i64 (ke q l)) h:=by
 refine ok.calls (rf:=xK) rfl (Nat.le_of_ble_eq_true rfl) ?_
 simp+decide only[st,xv,xK,Hf,He,fh.aS]
 let I:Nat->Env->aa->Prop:=fun n ρ h'=>h'=h/\ ∃i:Nat,l.length=i+n/\(∀j,j<i-> ∀hj:j<l.length,q l[j]=false)/\ρ 0= .vs ((aJ .u16).R l) t/\ρ 1= .fn g [] d9/\ρ 7= .int .i64 l.length/\ρ 8= .int .i64 i
 refine dJ I ?_ l.length ⟨rfl,0,by omega,by omega,rfl,rfl,rfl,rfl⟩
 rintro n ρ h' ⟨rfl,i,aE,hf,r0,r1,r7,r8⟩
 by_cases hi:i<l.length
 ·have aA:(i:Int)<(l.length:Int):=by omega
  have dH:(0:Int)<=i:=by omega
  have hw:=dv (show i<2^61 by omega)
  have cw:((aJ .u16).R l)[i]? =some [.int .u16 l[i]]:=(aJ .u16).gR hi
  simp+decide only[st,xv,xK,Hf,He,NH,NG,NF,ND,NC,NB,r0,r1,r7,r8,aA,dH,cw]
  refine pO hg (hq l[i] (List.getElem_mem hi)) ?_
  by_cases lT:q l[i]=true
  ·simp+decide only[st,xv,lT,r8,GR hi hf lT]
  ·have qw:q l[i]=false:=by simpa using lT
   simp+decide only[st,xv,qw,r8,hw]
   refine⟨n-1,by omega,rfl,i+1,by omega,fun j hj dP=>?_,r0,r1,r7,rfl⟩
   by_cases eE:j=i
   ·subst eE;exact qw
   ·exact hf j (by omega) dP
 ·have aA: ¬(i:Int)<(l.length:Int):=by omega
  have dF:=GQ (q:=q) (l:=l) (fun j _ hj=>hf j (by omega) hj)
  simp+decide only[st,xv,xK,Hf,He,NH,NG,NF,ND,NC,NB,r7,r8,aA,dF]
  rfl
def CQ (l:Lb) (cs:List Nat):Bool:=cs.all fun c=>nH l c==0
theorem aix (ok:ax P tb) (X:KX h xb a lb N M t ai ah rp) {cs:List Nat} {tl:aH} (dp:cs.length<2^16):an P 138 [.ptr xb 0, .vs ((aJ .u16).R cs) tl] h (.bool (CQ (ai[t]'X.ht).ak cs)) h:=by
 refine ok.keeps (rf:=Ar) rfl (Nat.le_of_ble_eq_true rfl) rfl ?_
 simp+decide only[st,xv,Ar,abp,OG]
 generalize hY:aa.at _ _ _=Y
 have yo:Old h Y:=by rw[<-hY];exact(Old.refl h).at (Nat.le_refl _)
 have y0:cellsOf Y h.next=some [.ptr xb 0]:=by rw[<-hY];exact av (by simp[aa.at])
 have hc:an P 162 [.vs ((aJ .u16).R cs) tl, .fn 163 [] [.ptr h.next 0]] Y (.bool (cs.any fun c=>!(nH (ai[t]'X.ht).ak c==0))) Y:=by
  refine ok.calls (rf:=Ez) rfl (Nat.le_of_ble_eq_true rfl) ?_
  simp+decide only[st,xv,Ez,aaT,aaS]
  refine au (aoW ok (by omega) (ok.cj _ rfl) (q:=fun c=>!(nH (ai[t]'X.ht).ak c==0)) (fun p hp=>?_)) ?_
  ·refine ok.calls (rf:=An) rfl (Nat.le_of_ble_eq_true rfl) ?_
   have XY:=X.old yo
   obtain⟨rt,hx⟩:=XY.x
   have cx:=av hx
   obtain⟨ct,hle,gB⟩:=XY.th
   have i9:t*12+2<=(aZ aU ai).flatten.length:=by omega
   simp+decide only[st,xv,An,NT,NS,y0,cx,ct,i9,gB]
   refine au (YJ (l:=(ai[t]'X.ht).ak) (t:= .ao) ok (by have:=(X.tv.ak _ (List.getElem_mem X.ht)).2;omega)) ?_
   simp+decide only[st,xv,An,NT,NS]
   by_cases hz:nH (ai[t]'X.ht).ak p=0<;>simp[hz]
  ·simp+decide only[st,xv,L2]
 refine au hc ?_
 simp+decide only[st,xv,Ar,OG]
 have e:CQ (ai[t]'X.ht).ak cs=!(cs.any fun c=>!(nH (ai[t]'X.ht).ak c==0)):=by
  unfold CQ
  rw[List.any_eq_not_all_not]
  simp
 rw[e]
 first|exact yo.get|exact⟨rfl,yo.get⟩
theorem qS {c:Cl} {tl:Nat->aH} {f:Nat} {x:Nat} {h h':aa} {r:AV} (hc:an P f [.ptr x 0, .agg (c.c aK)] h r h'):an P f [.ptr x 0, .agg (c.c tl)] h r h':=
 an.ao (by simp only[AV.bG,ZU];exact hc)
def lB (l:Lb) (c:Cl):Nat:=if c.kind=1/\ ¬(0<=c.n/\c.n<=400) then 1 else if c.kind=2/\64<c.data.length then 12 else if c.kind=3/\CQ l c.bX=false then 5 else 0
theorem aiz (ok:ax P tb) (X:KX h xb a lb N M t ai ah rp) {c:Cl} {tl:Nat->aH} (k:fJ c):an P 94 [.ptr xb 0, .agg (c.c tl)] h (.int .i64 (lB (ai[t]'X.ht).ak c)) h:=by
 refine qS ?_
 refine ok.keeps (rf:=mO) rfl (Nat.le_of_ble_eq_true rfl) rfl ?_
 have so:=k.bX
 simp+decide only[st,xv,mO,adb,fc]
 generalize hY:aa.at _ _ _=Y
 have yo:Old h Y:=by rw[<-hY];exact(Old.refl h).at (Nat.le_refl _)
 have y0:cellsOf Y h.next=some (c.c aK):=by rw[<-hY];exact av (by simp[aa.at];rfl)
 simp only[fc] at y0
 have XY:=X.old yo
 obtain⟨V,hV⟩: ∃V,V=lB (ai[t]'X.ht).ak c:=⟨_,rfl⟩
 rw[<-hV]
 unfold lB at hV
 by_cases h1:c.kind=1
 ·have h2: ¬c.kind=2:=by omega
  have h3: ¬c.kind=3:=by omega
  have e1:(c.kind=1)=True:=eq_true h1
  have e2:(c.kind=2)=False:=eq_false h2
  have e3:(c.kind=3)=False:=eq_false h3
  simp+decide only[st,xv,mO,uQ,y0,e1]
  refine au (GN ok) ?_
  by_cases hn:0<=c.n/\c.n<=400
  ·have e:(decide (0<=c.n)&&decide (c.n<=400))=true:=by simpa using hn
   rw[if_neg (fun hh=>hh.2 hn),if_neg (fun hh=>h2 hh.1),if_neg (fun hh=>h3 hh.1)] at hV
   subst hV
   rw[e]
   simp+decide only[st,xv,mO,uQ,zU,xe,C7,y0,e2,e3]
   first|exact yo.get|exact⟨rfl,yo.get⟩
  ·have e:(decide (0<=c.n)&&decide (c.n<=400))=false:=by rw[<-Bool.not_eq_true];simpa using hn
   rw[if_pos ⟨h1,hn⟩] at hV
   subst hV
   rw[e]
   simp+decide only[st,xv,mO,uQ,ada]
   first|exact yo.get|exact⟨rfl,yo.get⟩
 rw[if_neg (fun hh=>h1 hh.1)] at hV
 have e1:(c.kind=1)=False:=eq_false h1
 by_cases h2:c.kind=2
 ·have h3: ¬c.kind=3:=by omega
  have e2:(c.kind=2)=True:=eq_true h2
  have e3:(c.kind=3)=False:=eq_false h3
  by_cases hn:64<c.data.length
  ·have jd:(64:Int)<(c.data.length:Int):=by omega
   rw[if_pos ⟨h2,hn⟩] at hV
   subst hV
   simp+decide only[st,xv,mO,uQ,zU,ac9,y0,e1,e2,bM,jd]
   first|exact yo.get|exact⟨rfl,yo.get⟩
  ·have jd: ¬(64:Int)<(c.data.length:Int):=by omega
   rw[if_neg (fun hh=>hn hh.2),if_neg (fun hh=>h3 hh.1)] at hV
   subst hV
   simp+decide only[st,xv,mO,uQ,zU,xe,C7,y0,e1,e2,e3,bM,jd]
   first|exact yo.get|exact⟨rfl,yo.get⟩
 rw[if_neg (fun hh=>h2 hh.1)] at hV
 have e2:(c.kind=2)=False:=eq_false h2
 by_cases h3:c.kind=3
 ·have e3:(c.kind=3)=True:=eq_true h3
  simp+decide only[st,xv,mO,uQ,zU,xe,y0,e1,e2,e3]
  refine au (aix ok XY so) ?_
  cases ho:CQ (ai[t]'X.ht).ak c.bX with
  |false=>
   rw[if_pos ⟨h3,ho⟩] at hV
   subst hV
   simp+decide only[st,xv,mO,xe,ac8]
   first|exact yo.get|exact⟨rfl,yo.get⟩
  |true=>
   rw[if_neg (by simp[ho])] at hV
   subst hV
   simp+decide only[st,xv,mO,xe,C7]
   first|exact yo.get|exact⟨rfl,yo.get⟩
 ·have e3:(c.kind=3)=False:=eq_false h3
  rw[if_neg (fun hh=>h3 hh.1)] at hV
  subst hV
  simp+decide only[st,xv,mO,uQ,zU,xe,C7,y0,e1,e2,e3]
  first|exact yo.get|exact⟨rfl,yo.get⟩
end
section
open Go
variable {P:Program} {h:aa} {a:KA} {lb N M:Nat} {ai:List Th} {ah:List Ob} {g:Nat->Option (List UInt8)} {xb t:Nat} {rp:Rp}
theorem anr {n:Nat} (h:n<65536):IntKind.wrap .u16 (n:Int)=n:=by
 simp only[IntKind.wrap,IntKind.signed,IntKind.bits]
 simp;omega
theorem KX.rI (X:KX h xb a lb N M t ai ah rp) {bY:Rp} {tl:aH}:KX (h.set xb (some (.cells [.ptr a.kb 0, .ptr a.tb (t*12), .int .i64 t, .int .i64 bY.Ms, .int .i64 bY.err, .int .u64 bY.ret, .vs (BS bY.data) tl]))) xb a lb N M t ai ah bY:=by
 refine⟨X.k.bN (h':=h.set xb _) (Nat.le_refl _) (fun b hb hf=>?_) (Nat.le_refl _) (Nat.le_refl _),⟨tl,by simp[aa.set]⟩,X.lx,X.dK,X.dA,X.dS,X.ht,X.tv,X.root⟩
 simp only[aa.set]
 rw[if_neg]
 intro e;subst e
 rcases hf with hf|hf|hf
 ·exact X.dK hf
 ·exact X.dA hf
 ·exact X.dS hf
theorem XF.rH {h h':aa} {b:Option cI} (x:XF h h' a lb xb):XF h (h'.set xb b) a lb xb:=⟨x.1,fun c hc h1 h2 h3 h4=>by simp only[aa.set];rw[if_neg h4];exact x.2 c hc h1 h2 h3 h4⟩
theorem XF.mu {h h':aa} {b:Option cI} (x:XF h h' a lb xb):XF h (h'.set a.tb b) a lb xb:=⟨x.1,fun c hc h1 h2 h3 h4=>by simp only[aa.set];rw[if_neg (fun e=>h1 (.inr e))];exact x.2 c hc h1 h2 h3 h4⟩
theorem KX.Ea (X:KX h xb a lb N M t ai ah rp):cellsOf h a.tb=some (aZ aU ai).flatten/\t*12+12<=(aZ aU ai).flatten.length/\ ∀j,j<12->(aZ aU ai).flatten[t*12+j]? =((ai[t]'X.ht).c aU)[j]?:=⟨X.th.1,X.th.2.1,fun j hj=>X.k.row X.ht hj⟩
def fx (h:aa) (xb:Nat) (a:KA) (lb N M t:Nat) (ai:List Th) (ah:List Ob) (rp:Rp) (h':aa):Prop:= ∃aR N' M',KX h' xb a aR N' M' t ai ah rp/\XF h h' a lb xb/\(aR=lb\/h.next<=aR)/\N'<=N+2/\M'<=M+1
theorem KX.fin (X:KX h xb a lb N M t ai ah rp) {h':aa} (o:Old h h'):fx h xb a lb N M t ai ah rp h':=⟨lb,N,M,X.old o, .old o, .inl rfl,by omega,by omega⟩
def nu (t:Nat) (x:Th):Nat×Nat×Th:=if 15<=x.own then(9,0,x) else if(gT x [1000+16*t+x.own.toNat+1]).1≠0 then((gT x [1000+16*t+x.own.toNat+1]).1,0,x) else(0,1000+16*t+x.own.toNat+1,{(gT x [1000+16*t+x.own.toNat+1]).2 with own:=x.own+1})
theorem ajq (ok:ax P tb) (X:KX h xb a lb N M t ai ah rp) (ho:0<=(ai[t]'X.ht).own):
 ∃h',an P 57 [.ptr xb 0] h (.int .i64 (nu t (ai[t]'X.ht)).1) h'/\fx h xb a lb N M t (ai.set t (nu t (ai[t]'X.ht)).2.2) ah (if(nu t (ai[t]'X.ht)).1=0 then{rp with ret:=(nu t (ai[t]'X.ht)).2.1} else rp) h':=by
 refine ok.dT (rf:=pF) rfl (Nat.le_of_ble_eq_true rfl) ?_
 obtain⟨rt,hx⟩:=X.x
 have cx:=av hx
 obtain⟨ct,hle,cE⟩:=X.Ea
 have lx:=X.lx
 have l2:=X.k.l2
 have ht4:=X.tv.len
 have Va:=X.ht
 have r5:=cE 5 (by omega)
 have e5:((ai[t]'X.ht).c aU)[5]? =some (.int .i64 (ai[t]'X.ht).own):=rfl
 rw[e5] at r5
 obtain⟨V,hV⟩: ∃V,V=nu t (ai[t]'X.ht):=⟨_,rfl⟩
 rw[<-hV]
 unfold nu at hV
 simp+decide only[st,xv,pF,aeS,aeR,cx,ct,r5]
 by_cases KD:15<=(ai[t]'X.ht).own
 ·rw[if_pos KD] at hV
  subst hV
  simp+decide only[st,xv,pF,RD,KD,jO]
  refine⟨rfl,?_⟩
  rw[sJ]
  exact X.fin (Old.refl h)
 rw[if_neg KD] at hV
 have w1:IntKind.wrap .i64 ((16:Int)*(t:Int))=16*t:=bH (by omega) (by omega)
 have w2:IntKind.wrap .i64 ((1000:Int)+16*(t:Int))=1000+16*t:=bH (by omega) (by omega)
 have w3:IntKind.wrap .i64 ((1000:Int)+16*(t:Int)+(ai[t]'X.ht).own)=1000+16*t+(ai[t]'X.ht).own:=bH (by omega) (by omega)
 have w4:IntKind.wrap .i64 ((1000:Int)+16*(t:Int)+(ai[t]'X.ht).own+1)=1000+16*t+(ai[t]'X.ht).own+1:=bH (by omega) (by omega)
 have w5:IntKind.wrap .u16 ((1000:Int)+16*(t:Int)+(ai[t]'X.ht).own+1)=((1000+16*t+(ai[t]'X.ht).own.toNat+1:Nat):Int):=by
  have e:(1000:Int)+16*(t:Int)+(ai[t]'X.ht).own+1=((1000+16*t+(ai[t]'X.ht).own.toNat+1:Nat):Int):=by omega
  rw[e];exact anr (by omega)
 simp+decide only[st,xv,pF,RD,KD]
 refine bU 17 rfl rfl ?_
 simp+decide only[st,xv,pF,aeQ,cx,ct,r5,lx,l2,w1,w2,w3,w4,w5]
 generalize iW:1000+16*t+(ai[t]'X.ht).own.toNat+1=cc at*
 have XC:=X.old ((Old.refl h).clean (n:=17))
 have eN: ∀c∈[cc],c<65536:=fun c hc=>by
  have:=List.mem_singleton.1 hc
  omega
 obtain⟨h1,c1,X1,f1⟩:=V0 ok XC (cs:=[cc]) (tl:= .full) eN (by simp)
 simp+decide only[st,xv,pF,I4,xr]
 refine au c1 ?_
 have Ki:gT (ai[t]'X.ht) [cc]=(9,ai[t]'X.ht)\/((gT (ai[t]'X.ht) [cc]).1=0/\(gT (ai[t]'X.ht) [cc]).2.own=(ai[t]'X.ht).own):=by
  unfold gT
  split
  ·exact .inl rfl
  ·exact .inr ⟨rfl,rfl⟩
 have vA:XF h h1 a lb xb:=(XF.old ((Old.refl h).clean (n:=17))).trans f1 (.inl rfl)
 rcases Ki with Ki|⟨vL,kS⟩
 ·rw[Ki] at hV X1
  rw[Ki]
  rw[if_pos (by simp)] at hV
  subst hV
  simp+decide only[st,xv,pF,I4,RC,aeP,jO]
  exact⟨lb,N,M,X1,vA, .inl rfl,by omega,by omega⟩
 ·rw[vL]
  rw[vL,if_neg (by simp)] at hV
  subst hV
  obtain⟨JT,nI⟩:=X1.x
  have nV:=av nI
  obtain⟨vU,i9,asN⟩:=X1.Ea
  have q5:=asN 5 (by omega)
  have Vz:(((ai.set t (gT (ai[t]'X.ht) [cc]).2)[t]'X1.ht).c aU)[5]? =some (.int .i64 (ai[t]'X.ht).own):=by
   rw[<-kS];simp[iG]
  rw[Vz] at q5
  have w6:IntKind.wrap .i64 ((ai[t]'X.ht).own+1)=(ai[t]'X.ht).own+1:=bH (by omega) (by omega)
  simp+decide only[st,xv,pF,I4,RC,aeO,nV,vU,q5,w6,xr]
  have lK:=wx (l:=ai.set t (gT (ai[t]'X.ht) [cc]).2) X1.ht (j:=5) (v:=[.int .i64 ((ai[t]'X.ht).own+1)]) (x':={(gT (ai[t]'X.ht) [cc]).2 with own:=(ai[t]'X.ht).own+1}) (by simp) (by simp[iG])
  rw[show List.take (t*12+5) (aZ aU (ai.set t (gT (ai[t]'X.ht) [cc]).2)).flatten++[AV.int .i64 ((ai[t]'X.ht).own+1)]++List.drop (t*12+5+1) (aZ aU (ai.set t (gT (ai[t]'X.ht) [cc]).2)).flatten=_ from lK]
  have ag7:t*12+5+1<=(aZ aU (ai.set t (gT (ai[t]'X.ht) [cc]).2)).flatten.length:=by omega
  have X2:=X1.mu (x:={(gT (ai[t]'X.ht) [cc]).2 with own:=(ai[t]'X.ht).own+1}) (by
   have:=X1.tv.ak _ (List.getElem_mem X1.ht)
   simpa using this)
  rw[List.set_set] at X2 ⊢
  have wc:IntKind.wrap .u64 (cc:Int)=cc:=fk (by omega)
  have ET: ¬xb=a.tb:=fun e=>X.dK (.inr e)
  simp+decide only[st,xv,pF,aeN,aeM,ag7,nV,wc,ET,xr,jO]
  exact⟨lb,N,M,X2.rI (bY:={rp with ret:=cc}),(vA.mu).rH, .inl rfl,by omega,by omega⟩
end
section
open Go
variable {P:Program} {h:aa} {a:KA} {lb N M:Nat} {ai:List Th} {ah:List Ob} {g:Nat->Option (List UInt8)} {xb t:Nat} {rp:Rp}
theorem Xs {l:Lb}: ∀{ps:List Nat} {o:Ob},o∈ah->(eI ah l o ps).2=0->(eI ah l o ps).1∈ah
 |[],o,h,_=>h
 |p::ps,o,h,h0=>by
  unfold eI at h0 ⊢
  split at h0
  ·cases h0
  split at h0
  ·cases h0
  rename_i h1 h2
  rw[if_neg h1,if_neg h2]
  cases ho:bh ah p with
  |none=>rw[ho] at h0;cases h0
  |some o'=>rw[ho] at h0;exact Xs (lf ho).1 h0
theorem LF {l:Lb} {id:Nat} (hr: ∃r,bh ah 1=some r) (h0:(dq ah l id).2=0):(dq ah l id).1∈ah:=by
 unfold dq at h0 ⊢
 cases hm:dM id with
 |false=>rw[F3 hm] at h0;cases h0
 |true=>
  obtain⟨ps,hp⟩:=F2 hm
  obtain⟨r,hr⟩:=hr
  rw[hp] at h0 ⊢
  change(eI ah l ((bh ah 1).getD bf) ps).2=0 at h0
  change(eI ah l ((bh ah 1).getD bf) ps).1∈ah
  rw[hr] at h0 ⊢
  exact Xs (lf hr).1 h0
theorem mX {l:Lb} {id:Nat} {kind:Int} {q:Lb->Bool} (hr: ∃r,bh ah 1=some r) (h0:(bJ ah l id kind q).2=0):(bJ ah l id kind q).1∈ah/\(bJ ah l id kind q).1.kind=kind/\bJ ah l id kind q=((dq ah l id).1,0):=by
 unfold bJ at h0 ⊢
 split at h0
 ·rename_i h1;exact absurd h0 h1
 split at h0
 ·cases h0
 split at h0
 ·cases h0
 rename_i h1 h2 h3
 rw[if_neg h1,if_neg h2,if_neg h3]
 exact⟨LF hr (Classical.not_not.1 h1),Classical.not_not.1 h2,rfl⟩
theorem Mh {Z h':aa} {n i:Nat} (hk: ∀b,Z.next<=b->b<Z.next+n->h'.get b=(Z.clean n).get b):dL n Z.next i h':=fun j hj hn=>by
 rw[hk _ (by omega) (by omega)]
 simp only[aa.clean]
 exact if_neg (by omega)
theorem KF.free {Z h':aa} {a:KA} {lb n i:Nat} (k:KF (Z.clean n) h' a lb) (hl: ∀b,FK a b\/FA a lb b\/FS a b->b<Z.next):dL n Z.next i h':=Mh fun b h1 h2=>k.2 b h2 (fun e=>by have:=hl b (.inl e);omega) (fun e=>by have:=hl b (.inr (.inl e));omega) (fun e=>by have:=hl b (.inr (.inr e));omega)
theorem KH.bw (K:KH h a lb N M ai ah g): ∀b,FK a b\/FA a lb b\/FS a b->b<h.next:=by
 have l1:=K.l1
 have l2:=K.l2
 obtain⟨f,A,_⟩:=K.ar
 have hA:=A.lt
 have hS:=K.sp.lt
 rintro b (e|e|e)
 ·rcases e with e|e<;>omega
 ·rcases e with e|e|e<;>omega
 ·rcases e with e|e|e|e<;>omega
def pU (x:Th) (l:Lb):Nat×Th:=if wB x.ak l≠0 then(wB x.ak l,x) else(0,{x with ak:=l})
theorem ahY (ok:ax P tb) (X:KX h xb a lb N M t ai ah rp) {c:Cl} {tl:Nat->aH} (k:fJ c):
 ∃h',an P 58 [.ptr xb 0, .agg (c.c tl)] h (.int .i64 (pU (ai[t]'X.ht) c.ak).1) h'/\fx h xb a lb N M t (ai.set t (pU (ai[t]'X.ht) c.ak).2) ah rp h':=by
 suffices hu: ∃h',an P 58 [.ptr xb 0, .agg (c.c aK)] h (.int .i64 (pU (ai[t]'X.ht) c.ak).1) h'/\fx h xb a lb N M t (ai.set t (pU (ai[t]'X.ht) c.ak).2) ah rp h' by
  obtain⟨h',c1,hq⟩:=hu
  exact⟨h',qS c1,hq⟩
 refine ok.dT (rf:=sD) rfl (Nat.le_of_ble_eq_true rfl) ?_
 simp+decide only[st,xv,sD,aeL,fc]
 generalize hY:aa.at _ _ _=Y
 have oY:Old h Y:=by rw[<-hY];exact(Old.refl h).at (Nat.le_refl _)
 have cY:cellsOf Y h.next=some (c.c aK):=by rw[<-hY];exact av (by simp[aa.at];try rfl)
 have nY:Y.next=h.next+1:=by rw[<-hY];simp[aa.at]
 simp only[fc] at cY
 have XY:=X.old oY
 obtain⟨rt,hx⟩:=XY.x
 have cx:=av hx
 obtain⟨ct,hle,gB⟩:=XY.th
 have lx:=XY.lx
 have l2:=XY.k.l2
 have hny:h.next<Y.next:=by omega
 have i9:t*12+2<=(aZ aU ai).flatten.length:=by omega
 refine bU 11 rfl rfl ?_
 simp+decide only[st,xv,sD,aeK,cx,ct,cY,lx,l2,hny,i9,gB]
 refine fj (aiU (a:=(ai[t]'X.ht).ak) (b:=c.ak) (ta:= .ao) (eU:= .ao) ok X.ak k.ak) (cO (Nat.le_refl _)) ?_
 unfold pU
 by_cases hr:wB (ai[t]'X.ht).ak c.ak=0
 ·have hr': ¬(wB (ai[t]'X.ht).ak c.ak≠0):=fun h=>h hr
  rw[hr]
  have XC:=XY.old ((Old.refl Y).clean (n:=11))
  obtain⟨JT,nI⟩:=XC.x
  have nV:=av nI
  obtain⟨vU,ag7,axi⟩:=XC.th
  simp+decide only[st,xv,sD,RB]
  refine qT 7 10 rfl (by omega) rfl ?_
  have lC:(Y.clean 11).next=Y.next+11:=rfl
  have n1:xb<Y.next+11:=by omega
  have n2:a.tb<Y.next+11:=by omega
  have n3:h.next<Y.next+11:=by omega
  simp+decide only[st,xv,sD,aeI,cx,ct,cY,lx,l2,hny,n1,n2,n3]
  refine hP (Gd ok (l:=c.ak) (t:= .ao) (by have:=k.Ie;omega)) (cO (Nat.le_refl _)) ?_
  have lK:=wx (l:=ai) X.ht (j:=0) (v:=[.int .u8 c.ak.d, .vs (aw.R c.ak.ps) .ao]) (x':={ai[t]'X.ht with ak:=c.ak}) (by simp) rfl
  simp+decide only[st,xv,Lb.c,n2,l2,ct,i9]
  rw[show List.take (t*12) (aZ aU ai).flatten++[AV.int IntKind.u8 ↑c.ak.d,AV.vs (aw.R c.ak.ps) aH.ao]++List.drop (t*12+(1+1)) (aZ aU ai).flatten=_ from lK]
  simp+decide only[st,xv,sD,aeH,jO]
  refine⟨(jw n2).2 (cO (by show(Y.clean 11).next<=_;omega)),lb,N,M,(XC.old ((Old.refl _).clean (n:=10))).mu (x:={ai[t]'X.ht with ak:=c.ak}) ⟨k.ak,k.Ie⟩,?_, .inl rfl,by omega,by omega⟩
  exact(XF.old ((oY.trans ((Old.refl Y).clean)).trans ((Old.refl _).clean))).mu
 ·have hr':((wB (ai[t]'X.ht).ak c.ak:Int)=0)=False:=eq_false (by omega)
  rw[if_pos hr]
  simp+decide only[st,xv,sD,RB,aeJ,hr',jO]
  rw[sJ]
  exact X.fin (oY.trans ((Old.refl Y).clean))
def p4 (l:Lb) (ah:List Ob) (c:Cl):Nat×List UInt8:=if(bJ ah l c.id 2 (eS l)).2≠0 then((bJ ah l c.id 2 (eS l)).2,[]) else if 0<=c.off/\0<=c.n/\c.off+c.n<=(bJ ah l c.id 2 (eS l)).1.data.length then(0,((bJ ah l c.id 2 (eS l)).1.data.drop c.off.toNat).take c.n.toNat) else(11,[])
theorem L3 {o:Ob} (k:KS ah) (ho:o∈ah) (h2:o.kind=2):eB ah o.id=some o.data:=by
 unfold eB
 rw[lg k.cF ho]
 simp[h2]
theorem aiw (ok:ax P tb) (X:KX h xb a lb N M t ai ah rp) {c:Cl} {tl:Nat->aH} (k:fJ c):
 ∃h' bY,an P 60 [.ptr xb 0, .agg (c.c tl)] h (.int .i64 (p4 (ai[t]'X.ht).ak ah c).1) h'/\fx h xb a lb N M t ai ah bY h'/\((p4 (ai[t]'X.ht).ak ah c).1=0->bY={rp with data:=(p4 (ai[t]'X.ht).ak ah c).2}):=by
 obtain⟨V,hV⟩: ∃V,V=p4 (ai[t]'X.ht).ak ah c:=⟨_,rfl⟩
 suffices hu: ∃h',an P 60 [.ptr xb 0, .agg (c.c aK)] h (.int .i64 V.1) h'/\ ∃bY,fx h xb a lb N M t ai ah bY h'/\(V.1=0->bY={rp with data:=V.2}) by
  obtain⟨h',c1,bY,hq⟩:=hu
  rw[<-hV]
  exact⟨h',bY,qS c1,hq⟩
 unfold p4 at hV
 refine ok.dT (rf:=pE) rfl (Nat.le_of_ble_eq_true rfl) ?_
 simp+decide only[st,xv,pE,aeB,fc]
 generalize hY:aa.at _ _ _=Y
 have oY:Old h Y:=by rw[<-hY];exact(Old.refl h).at (Nat.le_refl _)
 have cY:cellsOf Y h.next=some (c.c aK):=by rw[<-hY];exact av (by simp[aa.at];try rfl)
 have nY:Y.next=h.next+1:=by rw[<-hY];simp[aa.at]
 simp only[fc] at cY
 have XY:=X.old oY
 simp+decide only[st,xv,pE,Ro,cY]
 refine au (ue ok XY k.id (ok.cj _ rfl) (q:=eS (ai[t]'X.ht).ak) (fun o h' hl o'=>CS ok (XY.old o') (tl:=aK) hl)) ?_
 have dG:=mX (l:=(ai[t]'X.ht).ak) (id:=c.id) (kind:=2) (q:=eS (ai[t]'X.ht).ak) X.root
 generalize bJ ah (ai[t]'X.ht).ak c.id 2 (eS (ai[t]'X.ht).ak)=R at*
 obtain⟨o,e⟩:=R
 simp only at hV dG
 simp+decide only[st,xv,pE,Ro,df,xr]
 generalize hZ:aa.set _ _ _=Z
 have oZ:Old Y Z:=by rw[<-hZ];exact((Old.refl Y).at (Nat.le_refl _)).set (Nat.le_refl _)
 have cZ:cellsOf Z Y.next=some (o.c aK):=by rw[<-hZ];exact av (by simp[aa.set];try rfl)
 have nZ:Z.next=Y.next+1:=by rw[<-hZ];simp[aa.at,aa.set]
 have l7:cellsOf Z h.next=_:=(show cellsOf Z h.next=cellsOf Y h.next by unfold cellsOf;rw[oZ.get _ (by omega)]).trans cY
 simp only[df] at cZ
 by_cases he:e=0
 ·subst he
  rw[if_neg (fun h=>h rfl)] at hV
  obtain⟨cU,ba,_⟩:=dG rfl
  have XZ:=XY.old oZ
  have oS:=L3 XZ.k.ks cU ba
  obtain⟨rt,hx⟩:=XZ.x
  have cx:=av hx
  have ck:=av XZ.k.top
  have lx:=XZ.lx
  have lk:=XZ.k.l1
  have l0:h.next<Z.next:=by omega
  have l1:h.next+1<Z.next:=by omega
  simp+decide only[st,xv,pE,Rm]
  refine bU 23 rfl rfl ?_
  have XC:=XZ.old ((Old.refl Z).clean (n:=23))
  rw[nY] at cZ
  simp+decide only[st,xv,pE,aez,cx,ck,cZ,l7,lx,lk,l0,l1,nY]
  have lC:(Z.clean 23).next=Z.next+23:=rfl
  have n1:xb<Z.next+23:=by omega
  have hold:Old h (Z.clean 23):=(oY.trans oZ).trans ((Old.refl Z).clean)
  have fr: ∀(cs:List AV) (i:Nat),dL 23 Z.next i ((Z.clean 23).set xb (some (.cells cs))):=fun cs i=>(jw lx).2 (cO (Nat.le_refl _))
  by_cases aE:0<=c.off/\0<=c.n/\c.off+c.n<=o.data.length
  ·rw[if_pos aE] at hV
   subst hV
   obtain⟨off,vh⟩:=Int.eq_ofNat_of_zero_le aE.1
   obtain⟨n,hn⟩:=Int.eq_ofNat_of_zero_le aE.2.1
   have jI:=XC.k.sp.read ok (id:=o.id) (off:=off) (n:=n) oS (by omega)
   rw[<-vh,<-hn] at jI
   refine fj jI (cO (Nat.le_refl _)) ?_
   simp+decide only[st,xv,pE,Rl,cx,lx,xr]
   refine⟨fr _ _,rfl,{rp with data:=(o.data.drop off).take n},⟨lb,N,M,XC.rI (bY:={rp with data:=(o.data.drop off).take n}),(XF.old hold).rH, .inl rfl,by omega,by omega⟩,?_⟩
   rw[vh,hn];rfl
  ·rw[if_neg aE] at hV
   subst hV
   have jI:=XC.k.sp.amq ok (id:=o.id) (off:=c.off) (n:=c.n) oS (by omega)
   refine fj jI (cO (Nat.le_refl _)) ?_
   simp+decide only[st,xv,pE,Rl,cx,lx,xr]
   exact⟨fr _ _,rfl,{rp with data:=[]},lb,N,M,XC.rI (bY:={rp with data:=[]}),(XF.old hold).rH, .inl rfl,by omega,by omega⟩
 ·rw[if_pos he] at hV
  subst hV
  have dI:((e:Int)=0)=False:=eq_false (by omega)
  simp+decide only[st,xv,pE,Rm,aeA,dI,jO]
  exact⟨rp,X.fin (oY.trans oZ),fun h=>absurd h he⟩
def AD (ah:List Ob) (o:Ob) (d:List UInt8):List Ob:=dj ah {o with data:=d}
theorem KX.wr (X:KX h xb a lb N M t ai ah rp) {o:Ob} (ho:o∈ah) (h2:o.kind=2) {d:List UInt8} (hd:d.length=o.data.length) {h':aa} (s:yy h h' a.bl a.bp) (S:SG h' a.bs a.bm a.bl a.bp M (iD (eB ah) o.id (some d))):KX h' xb a lb N M t ai (AD ah o d) rp:=by
 have v:=X.k.ks.val o ho
 have vd:=v.data hd
 have K1:=X.k.H7 s S
 have AO: ∀id,bh (AD ah o d) id=if id=o.id then some {o with data:=d} else bh ah id:=fun id=>oh X.k.ks.cF
 obtain⟨f,A,R⟩:=K1.ar
 obtain⟨tl,hx⟩:=X.x
 refine⟨⟨K1.top,K1.cu,⟨f,A,fun id=>?_⟩,K1.sp.fn fun id=>?_,K1.l1,K1.l2,K1.AY,K1.kZ,K1.kY,K1.nU,K1.ks.put vd⟩,⟨tl,by rw[s.2 _ X.lx (fun e=>X.dS (.inr (.inr (.inl e)))) (fun e=>X.dS (.inr (.inr (.inr e)))),hx]⟩,Nat.lt_of_lt_of_le X.lx s.1,X.dK,X.dA,X.dS,X.ht,X.tv,?_⟩
 ·rw[AO]
  by_cases e:id=o.id
  ·rw[if_pos e]
   have:=R o.id
   rw[lg X.k.ks.cF ho] at this
   obtain⟨d',h1,h2⟩:=this
   exact⟨d',by rw[h1];exact hd.symm,by rw[e,h2]⟩
  ·rw[if_neg e];exact R id
 ·unfold iD eB
  rw[AO]
  by_cases e:id=o.id
  ·rw[if_pos e,if_pos e];simp[h2]
  ·rw[if_neg e,if_neg e]
 ·obtain⟨r,hr⟩:=X.root
  rw[AO]
  by_cases e:1=o.id
  ·rw[if_pos e];exact⟨_,rfl⟩
  ·rw[if_neg e];exact⟨r,hr⟩
def uy (l:Lb) (ah:List Ob) (c:Cl):Nat×List Ob:=if(bJ ah l c.id 2 (eX l)).2≠0 then((bJ ah l c.id 2 (eX l)).2,ah) else if 0<=c.off/\c.off+c.data.length<=(bJ ah l c.id 2 (eX l)).1.data.length then(0,AD ah (bJ ah l c.id 2 (eX l)).1 (tz (bJ ah l c.id 2 (eX l)).1.data c.off.toNat c.data)) else(11,ah)
theorem ahX (ok:ax P tb) (X:KX h xb a lb N M t ai ah rp) {c:Cl} {tl:Nat->aH} (k:fJ c):
 ∃h',an P 61 [.ptr xb 0, .agg (c.c tl)] h (.int .i64 (uy (ai[t]'X.ht).ak ah c).1) h'/\fx h xb a lb N M t ai (uy (ai[t]'X.ht).ak ah c).2 rp h':=by
 obtain⟨V,hV⟩: ∃V,V=uy (ai[t]'X.ht).ak ah c:=⟨_,rfl⟩
 rw[<-hV]
 suffices hu: ∃h',an P 61 [.ptr xb 0, .agg (c.c aK)] h (.int .i64 V.1) h'/\fx h xb a lb N M t ai V.2 rp h' by
  obtain⟨h',c1,hq⟩:=hu
  exact⟨h',qS c1,hq⟩
 unfold uy at hV
 refine ok.dT (rf:=pD) rfl (Nat.le_of_ble_eq_true rfl) ?_
 simp+decide only[st,xv,pD,aey,fc]
 generalize hY:aa.at _ _ _=Y
 have oY:Old h Y:=by rw[<-hY];exact(Old.refl h).at (Nat.le_refl _)
 have cY:cellsOf Y h.next=some (c.c aK):=by rw[<-hY];exact av (by simp[aa.at];try rfl)
 have nY:Y.next=h.next+1:=by rw[<-hY];simp[aa.at]
 simp only[fc] at cY
 have XY:=X.old oY
 simp+decide only[st,xv,pD,Rk,cY]
 refine au (ue ok XY k.id (ok.cj _ rfl) (q:=eX (ai[t]'X.ht).ak) (fun o h' hl o'=>MA ok (XY.old o') (tl:=aK) hl)) ?_
 have dG:=mX (l:=(ai[t]'X.ht).ak) (id:=c.id) (kind:=2) (q:=eX (ai[t]'X.ht).ak) X.root
 generalize bJ ah (ai[t]'X.ht).ak c.id 2 (eX (ai[t]'X.ht).ak)=R at*
 obtain⟨o,e⟩:=R
 simp only at hV dG
 simp+decide only[st,xv,pD,Rk,df,xr]
 generalize hZ:aa.set _ _ _=Z
 have oZ:Old Y Z:=by rw[<-hZ];exact((Old.refl Y).at (Nat.le_refl _)).set (Nat.le_refl _)
 have cZ:cellsOf Z Y.next=some (o.c aK):=by rw[<-hZ];exact av (by simp[aa.set];try rfl)
 have nZ:Z.next=Y.next+1:=by rw[<-hZ];simp[aa.at,aa.set]
 have l7:cellsOf Z h.next=_:=(show cellsOf Z h.next=cellsOf Y h.next by unfold cellsOf;rw[oZ.get _ (by omega)]).trans cY
 simp only[df] at cZ
 by_cases he:e=0
 ·subst he
  rw[if_neg (fun h=>h rfl)] at hV
  obtain⟨cU,ba,_⟩:=dG rfl
  have XZ:=XY.old oZ
  have oS:=L3 XZ.k.ks cU ba
  obtain⟨rt,hx⟩:=XZ.x
  have cx:=av hx
  have ck:=av XZ.k.top
  have lx:=XZ.lx
  have lk:=XZ.k.l1
  have l0:h.next<Z.next:=by omega
  have l1:h.next+1<Z.next:=by omega
  simp+decide only[st,xv,pD,Rj]
  refine bU 15 rfl rfl ?_
  have XC:=XZ.old ((Old.refl Z).clean (n:=15))
  rw[nY] at cZ
  simp+decide only[st,xv,pD,IZ,cx,ck,cZ,l7,lx,lk,l0,l1,nY]
  have lC:(Z.clean 15).next=Z.next+15:=rfl
  have hold:Old h (Z.clean 15):=(oY.trans oZ).trans ((Old.refl Z).clean)
  by_cases aE:0<=c.off/\c.off+c.data.length<=o.data.length
  ·rw[if_pos aE] at hV
   subst hV
   obtain⟨off,vh⟩:=Int.eq_ofNat_of_zero_le aE.1
   obtain⟨h1,bj,S1,k1⟩:=XC.k.sp.write ok (id:=o.id) (off:=off) (v:=c.data) (t:= .ao) oS (by omega)
   rw[<-vh] at bj
   have UE:=XZ.k.sp.lt
   refine fj bj (Mh fun b eo ch=>k1.2 b (by omega) (by omega) (by omega)) ?_
   simp+decide only[st,xv,pD,IZ]
   refine⟨rfl,lb,N,M,XC.wr cU ba (by simp[tz];omega) k1 ?_,(XF.old hold).trans k1.kf.xf (.inl rfl), .inl rfl,by omega,by omega⟩
   rw[vh];exact S1
  ·rw[if_neg aE] at hV
   subst hV
   have jI:=XC.k.sp.akX ok (id:=o.id) (off:=c.off) (v:=c.data) (t:= .ao) oS (by omega)
   refine fj jI (cO (Nat.le_refl _)) ?_
   simp+decide only[st,xv,pD,IZ]
   exact⟨rfl,X.fin hold⟩
 ·rw[if_pos he] at hV
  subst hV
  have dI:((e:Int)=0)=False:=eq_false (by omega)
  simp+decide only[st,xv,pD,Rj,aex,dI]
  exact⟨rfl,X.fin (oY.trans oZ)⟩
def rn (x:Th) (ah:List Ob) (c:Cl):Nat×Th:=if(bJ ah x.ak c.id 3 (eS x.ak)).2≠0 then((bJ ah x.ak c.id 3 (eS x.ak)).2,x) else gT x (bJ ah x.ak c.id 3 (eS x.ak)).1.bX
theorem ah0 (ok:ax P tb) (X:KX h xb a lb N M t ai ah rp) {c:Cl} {tl:Nat->aH} (k:fJ c):
 ∃h',an P 63 [.ptr xb 0, .agg (c.c tl)] h (.int .i64 (rn (ai[t]'X.ht) ah c).1) h'/\fx h xb a lb N M t (ai.set t (rn (ai[t]'X.ht) ah c).2) ah rp h':=by
 obtain⟨V,hV⟩: ∃V,V=rn (ai[t]'X.ht) ah c:=⟨_,rfl⟩
 rw[<-hV]
 suffices hu: ∃h',an P 63 [.ptr xb 0, .agg (c.c aK)] h (.int .i64 V.1) h'/\fx h xb a lb N M t (ai.set t V.2) ah rp h' by
  obtain⟨h',c1,hq⟩:=hu
  exact⟨h',qS c1,hq⟩
 unfold rn at hV
 refine ok.dT (rf:=sC) rfl (Nat.le_of_ble_eq_true rfl) ?_
 simp+decide only[st,xv,sC,aer,fc]
 generalize hY:aa.at _ _ _=Y
 have oY:Old h Y:=by rw[<-hY];exact(Old.refl h).at (Nat.le_refl _)
 have cY:cellsOf Y h.next=some (c.c aK):=by rw[<-hY];exact av (by simp[aa.at];try rfl)
 have nY:Y.next=h.next+1:=by rw[<-hY];simp[aa.at]
 simp only[fc] at cY
 have XY:=X.old oY
 simp+decide only[st,xv,sC,Re,cY]
 refine au (ue ok XY k.id (ok.cj _ rfl) (q:=eS (ai[t]'X.ht).ak) (fun o h' hl o'=>CS ok (XY.old o') (tl:=aK) hl)) ?_
 have dG:=mX (l:=(ai[t]'X.ht).ak) (id:=c.id) (kind:=3) (q:=eS (ai[t]'X.ht).ak) X.root
 generalize bJ ah (ai[t]'X.ht).ak c.id 3 (eS (ai[t]'X.ht).ak)=R at*
 obtain⟨o,e⟩:=R
 simp only at hV dG
 simp+decide only[st,xv,sC,Re,df,xr]
 generalize hZ:aa.set _ _ _=Z
 have oZ:Old Y Z:=by rw[<-hZ];exact((Old.refl Y).at (Nat.le_refl _)).set (Nat.le_refl _)
 have cZ:cellsOf Z Y.next=some (o.c aK):=by rw[<-hZ];exact av (by simp[aa.set];try rfl)
 have nZ:Z.next=Y.next+1:=by rw[<-hZ];simp[aa.at,aa.set]
 simp only[df] at cZ
 by_cases he:e=0
 ·subst he
  rw[if_neg (fun h=>h rfl)] at hV
  obtain⟨cU,ba,_⟩:=dG rfl
  have XZ:=XY.old oZ
  have v:=XZ.k.ks.val o cU
  have dp:=Gy (Ge v.may ba)
  obtain⟨h1,bj,X1,f1⟩:=V0 ok XZ (cs:=o.bX) (tl:= .ao) v.ok.cat (by omega)
  simp+decide only[st,xv,sC,Rc,Rb,cZ]
  rw[<-hV] at bj X1
  refine au bj ?_
  simp+decide only[st,xv,sC,Rb]
  exact⟨rfl,lb,N,M,X1,(XF.old (oY.trans oZ)).trans f1 (.inl rfl), .inl rfl,by omega,by omega⟩
 ·rw[if_pos he] at hV
  subst hV
  have dI:((e:Int)=0)=False:=eq_false (by omega)
  simp+decide only[st,xv,sC,Rc,aeq,dI]
  refine⟨rfl,?_⟩
  show fx h xb a lb N M t (ai.set t (ai[t]'X.ht)) ah rp _
  rw[sJ]
  exact X.fin (oY.trans oZ)
end
section
open Go
def CT (base:Nat) (W:Nat->Prop):Option Nat->Prop
 |none=>True
 |some b=>b<base/\ ¬W b
def wC (base:Nat) (W:Nat->Prop) (h h':aa):Prop:= ∀b,b<base-> ¬W b->h'.get b=h.get b
def oF (P:Program) (W:Nat->Prop) (un:List (List Nat)) (n base:Nat):List RO->Nat->Env->aa->(Env->aa->Prop)->Prop
 |[],_,ρ,h,K=>K ρ h
 |o::os,i,ρ,h,K=> ∃r h',bz P o (base+i) ρ h r h'/\(o.op.cA=true-> ∀j,i<j->j<n->h'.get (base+j)=none)/\wC base W h h'/\
   (∀q,o.op= .p q->iz un i=true->CT base W (q.key ρ))/\oF P W un n base os (i+1) (put ρ o.dst (gf r)) h' K
theorem XE {P:Program} {al:List RO} {un:List (List Nat)} {base:Nat} {W:Nat->Prop} {K:Env->aa->Prop}: ∀(os:List RO) (i:Nat) (ρ:Env) (h:aa) (done:List (Env×aa×Option AV)),
 done.length=i->al.drop i=os->
 (∀k d,done[k]? =some d->wC base W d.2.1 h/\ ∀ok q v,al[k]? =some ok->ok.op= .p q->iz un k=true->d.2.2=some v->aX q d.1 d.2.1=some v/\CT base W (q.key d.1))->
 oF P W un al.length base os i ρ h K->mn P al un base os i ρ h done K
 |[],i,ρ,h,done,_,_,_,he=>he
 |o::os,i,ρ,h,done,hl,hd,hinv,⟨r,h',hs,hf,hk,iQ,he⟩=>by
  have mF:al[i]? =some o:=by
   have:(al.drop i)[0]? =some o:=by rw[hd];rfl
   rw[List.getElem?_drop] at this
   simpa using this
  have bT: ∀k,k∈un.getD i []->iz un i=true/\iz un k=true:=fun k hk=>by
   constructor
   ·unfold iz
    cases hq:un.getD i [] with
    |nil=>rw[hq] at hk;cases hk
    |cons a b=>rfl
   ·unfold iz
    have:un.any (fun l=>l.contains k)=true:=by
     rw[List.any_eq_true]
     rw[List.getD_eq_getElem?_getD] at hk
     cases hq:un[i]? with
     |none=>rw[hq] at hk;cases hk
     |some l=>rw[hq] at hk;exact⟨l,List.mem_of_getElem? hq,by simpa using hk⟩
    rw[this,Bool.or_true]
  have rJ: ∀q v,o.op= .p q->r=some v->aX q ρ h=some v/\h'=h:=fun q v hq hr=>by
   unfold bz at hs
   split at hs
   ·obtain⟨v',h1,h2⟩:=hs
    rw[hr] at h1;cases h1
    rw[hq] at h2
    exact h2
   ·rw[hr] at hs;cases hs.1
   ·exact hs.elim
  refine⟨r,h',hs,fun k Ff ok d ba dt=>?_,hf,?_⟩
  ·obtain⟨f1,f2⟩:=bT k Ff
   obtain⟨hold,lL⟩:=hinv k d dt
   unfold l6
   split
   ·split
    ·rename_i v q hv hq
     obtain⟨h1,h2⟩:=lL ok q v ba hq f2 hv
     rw[<-h1]
     refine(uj q d.1 d.2.1 h' (fun b hb=>?_)).symm
     rw[hb] at h2
     rw[hk b h2.1 h2.2,hold b h2.1 h2.2]
    ·trivial
   ·split
    ·rename_i v q hq
     obtain⟨h1,rfl⟩:=rJ q v hq rfl
     have h2:=iQ q hq f1
     rw[<-h1]
     refine uj q ρ d.2.1 h' (fun b hb=>?_)
     rw[hb] at h2
     exact(hold b h2.1 h2.2).symm
    ·trivial
  ·refine XE os (i+1) _ h' _ (by simp[hl]) ?_ ?_ he
   ·rw[<-List.drop_drop,hd];rfl
   ·intro k d dt
    rw[List.getElem?_append] at dt
    split at dt
    ·obtain⟨g1,g2⟩:=hinv k d dt
     exact⟨fun b hb hw=>by rw[hk b hb hw,g1 b hb hw],g2⟩
    ·rename_i aD
     have nN:k=i:=by
      have:=(List.getElem?_eq_some_iff.1 dt).1
      simp at this;omega
     subst nN
     simp[hl] at dt
     subst dt
     refine⟨hk,fun ok q v ba hq bT hv=>?_⟩
     rw[mF] at ba;cases ba
     exact⟨(rJ q v hq hv).1,iQ q hq bT⟩
theorem YI {P:Program} {al:List RO} {un:List (List Nat)} {K:aP->Env->aa->Prop} {ρ:Env} {h:aa} (W:Nat->Prop) (n:Nat) (hn:al.length=n) (he:oF P W un n h.next al 0 ρ (h.clean n) (K .normal)):WP P (.aY al un) K ρ h:=by
 subst hn
 obtain⟨ρ1,h1,he,hk⟩:=Bo (XE (W:=W) al 0 ρ _ [] rfl rfl (fun k d hd=>by simp at hd) he)
 exact⟨_,_,_, .Eb he,hk⟩
section
variable {P:Program} {W:Nat->Prop} {un:List (List Nat)} {n base i:Nat} {ρ:Env} {h:aa} {K:Env->aa->Prop} {d:Option Nat} {os:List RO}
def VA (P:Program) (W:Nat->Prop) (un:List (List Nat)) (n base:Nat) (os:List RO) (i:Nat) (d:Option Nat) (ρ:Env) (h:aa) (K:Env->aa->Prop) (o:Option AV):Prop:= ∃v,o=some v/\oF P W un n base os (i+1) (put ρ d v) h K
def d4E (P:Program) (W:Nat->Prop) (un:List (List Nat)) (n base:Nat) (os:List RO) (i:Nat) (d:Option Nat) (ρ:Env) (h:aa) (K:Env->aa->Prop) (o:Option (AV×aa)):Prop:= ∃v h',o=some (v,h')/\dL n base i h'/\wC base W h h'/\oF P W un n base os (i+1) (put ρ d v) h' K
def d4C (P:Program) (W:Nat->Prop) (un:List (List Nat)) (n base:Nat) (os:List RO) (i:Nat) (d:Option Nat) (ρ:Env) (h:aa) (K:Env->aa->Prop) (f:Nat) (as:List AV):Prop:= ∃v h',an P f as h v h'/\dL n base i h'/\wC base W h h'/\oF P W un n base os (i+1) (put ρ d v) h' K
theorem api:oF P W un n base [] i ρ h K↔K ρ h:=Iff.rfl
theorem awd {q:bc}:oF P W un n base (⟨d,none, .p q⟩::os) i ρ h K↔(iz un i=true->CT base W (q.key ρ))/\VA P W un n base os i d ρ h K (aX q ρ h):=by
 constructor
 ·rintro⟨r,h',hs,_,_,hk,he⟩
  simp only[bz,b8,gE] at hs
  obtain⟨v,rfl,hv,rfl⟩:=hs
  exact⟨hk q rfl,v,hv,he⟩
 ·rintro⟨hk,v,hv,he⟩
  exact⟨some v,h,⟨v,rfl,hv,rfl⟩,fun hh=>by simp[b7.cA] at hh,fun _ _ _=>rfl,(fun q' hq=>by cases hq;exact hk),he⟩
theorem awe {q:gu}:oF P W un n base (⟨d,none, .e q⟩::os) i ρ h K↔d4E P W un n base os i d ρ h K (bR q ρ (base+i) h):=by
 constructor
 ·rintro⟨r,h',hs,hf,hk,_,he⟩
  simp only[bz,b8,gE] at hs
  obtain⟨v,rfl,hv⟩:=hs
  exact⟨v,h',hv,hf rfl,hk,he⟩
 ·rintro⟨v,h',hv,hf,hk,he⟩
  exact⟨some v,h',⟨v,rfl,hv⟩,fun _=>hf,hk,(fun q' hq=>by cases hq),he⟩
theorem awf {f:Nat} {as:List aq}:oF P W un n base (⟨d,none, .call f as⟩::os) i ρ h K↔d4C P W un n base os i d ρ h K f (as.map (aq.ev ρ)):=by
 constructor
 ·rintro⟨r,h',hs,hf,hk,_,he⟩
  simp only[bz,b8,gE] at hs
  obtain⟨v,rfl,hv⟩:=hs
  exact⟨v,h',hv,hf rfl,hk,he⟩
 ·rintro⟨v,h',hv,hf,hk,he⟩
  exact⟨some v,h',⟨v,rfl,hv⟩,fun _=>hf,hk,fun q' hq=>(by cases hq),he⟩
theorem alZ {v:AV}:VA P W un n base os i d ρ h K (some v)↔oF P W un n base os (i+1) (put ρ d v) h K:=by simp[VA]
theorem al0 {v:AV} {h':aa}:d4E P W un n base os i d ρ h K (some (v,h'))↔dL n base i h'/\wC base W h h'/\oF P W un n base os (i+1) (put ρ d v) h' K:=by
 constructor
 ·rintro⟨v',h2,e,a,b,c⟩;cases e;exact⟨a,b,c⟩
 ·rintro⟨a,b,c⟩;exact⟨v,h',rfl,a,b,c⟩
theorem ajo:CT base W none↔True:=Iff.rfl
theorem ajn {b:Nat}:CT base W (some b)↔b<base/\ ¬W b:=Iff.rfl
end
theorem W3 {base:Nat} {W:Nat->Prop} {h:aa} {b:Nat} {x:Option cI} (hw:W b):wC base W h (h.set b x):=fun c _ hc=>by
 simp only[aa.set]
 rw[if_neg]
 intro e;subst e;exact hc hw
theorem Bk {base:Nat} {W:Nat->Prop} {h:aa} {b:Nat} {x y:Option cI} (hw:W b):wC base W (h.set b x) (h.set b y):=fun c _ hc=>by
 have: ¬c=b:=fun e=>hc (e▸hw)
 simp only[aa.set]
 rw[if_neg this,if_neg this]
set_option linter.defProp false in
def sw:=And.intro @api<|And.intro @awd<|And.intro @awe<|And.intro @awf<|And.intro @alZ<|And.intro @al0<|And.intro @ajo @ajn
end
section
open Go
variable {P:Program} {h:aa} {a:KA} {lb N M:Nat} {ai:List Th} {ah:List Ob} {g:Nat->Option (List UInt8)} {xb t:Nat} {rp:Rp}
theorem CR (ok:ax P tb) (X:KX h xb a lb N M t ai ah rp) {o:Ob} {tl:Nat->aH} (v:jf o) (hs: ∀o',bh ah o.id=some o'->o'.kind≠2/\o.kind≠2) (hN:N<2^19) (hM:M<128):
 ∃h',an P 30 [.ptr a.kb 0, .agg (o.c tl)] h (.ay []) h'/\ ∃aR,KX h' xb a aR (N+1) (if o.kind=2 then M+1 else M) t ai (dj ah o) rp/\(aR=lb\/h.next<=aR)/\KF h h' a lb:=by
 obtain⟨h',c,aR,K,hl,kf⟩:=ag0 ok X.k (t:=tl) v hs hN hM
 obtain⟨rt,hx⟩:=X.x
 refine⟨h',c,aR,⟨K,⟨rt,by rw[kf.2 _ X.lx X.dK X.dA X.dS,hx]⟩,Nat.lt_of_lt_of_le X.lx kf.1,X.dK,?_,X.dS,X.ht,X.tv,?_⟩,hl,kf⟩
 ·rintro(e|e|e)
  ·exact X.dA (.inl e)
  ·exact X.dA (.inr (.inl e))
  ·rcases hl with h|h
   ·exact X.dA (.inr (.inr (e.trans h)))
   ·have:=X.lx;omega
 ·obtain⟨r,hr⟩:=X.root
  rw[oh X.k.ks.cF]
  by_cases e:1=o.id
  ·rw[if_pos e];exact⟨_,rfl⟩
  ·rw[if_neg e];exact⟨r,hr⟩
theorem ZA {o:Ob} (v:jf o) (h4:o.kind=4) {r:List (List UInt8)} (hr:jz r=true):jf {o with ring:=r}:=by
 have hm:=v.may
 have hn:=v.norm
 have gN:=wb hr
 refine⟨⟨v.ok.ak,v.ok.id,v.ok.bX,by show r.length<_;omega,v.ok.cat⟩,?_,?_⟩
 ·have h1: ¬o.kind=1:=by omega
  have h2: ¬o.kind=2:=by omega
  have h3: ¬o.kind=3:=by omega
  unfold fv m7 at hm ⊢
  simp only[h1,h2,h3,h4,if_true,if_false] at hm ⊢
  unfold p9 at hm ⊢
  simp only[Bool.and_eq_true] at hm ⊢
  exact⟨hm.1,hr⟩
 ·cases o with
  |mk J0 kind ak bd used next data bX ring st=>
   unfold i5 at hn ⊢
   simp only at hn h4 ⊢
   have h1: ¬kind=1:=by omega
   have h2: ¬kind=2:=by omega
   have h3: ¬kind=3:=by omega
   rw[if_neg h1,if_neg h2,if_neg h3] at hn ⊢
   simp only[Ob.mk.injEq,bf] at hn ⊢
   obtain⟨e1,e2,e3,e4,e5,e6,e7,e8,e9,Fy⟩:=hn
   exact⟨trivial,trivial,trivial,e4,e5,e6,e7,e8,trivial,Fy⟩
theorem alg {l:List (List UInt8)} {b:List UInt8} (hr:jz l=true) (h0:(rz l b).2=0):rz l b=(l++[b],0)/\jz (l++[b])=true:=by
 unfold rz at h0 ⊢
 split at h0
 ·cases h0
 split at h0
 ·cases h0
 rename_i h1 h2
 rw[if_neg h1,if_neg h2]
 refine⟨rfl,?_⟩
 unfold jz at hr ⊢
 simp only[Bool.and_eq_true,decide_eq_true_eq,List.any_append,List.length_append,List.length_singleton,Bool.not_or,List.any_cons,List.any_nil,Bool.or_false] at hr ⊢
 refine⟨by omega,hr.2,by simp;omega⟩
def uI (l:Lb) (ah:List Ob) (c:Cl):Nat×List Ob:=if(bJ ah l c.id 4 (ef l)).2≠0 then((bJ ah l c.id 4 (ef l)).2,ah) else if(rz (bJ ah l c.id 4 (ef l)).1.ring c.data).2≠0 then((rz (bJ ah l c.id 4 (ef l)).1.ring c.data).2,ah) else(0,dj ah {(bJ ah l c.id 4 (ef l)).1 with ring:=(rz (bJ ah l c.id 4 (ef l)).1.ring c.data).1})
theorem aiu (ok:ax P tb) (X:KX h xb a lb N M t ai ah rp) {c:Cl} {tl:Nat->aH} (k:fJ c) (hN:N<2^19) (hM:M<128):
 ∃h',an P 64 [.ptr xb 0, .agg (c.c tl)] h (.int .i64 (uI (ai[t]'X.ht).ak ah c).1) h'/\fx h xb a lb N M t ai (uI (ai[t]'X.ht).ak ah c).2 rp h':=by
 obtain⟨V,hV⟩: ∃V,V=uI (ai[t]'X.ht).ak ah c:=⟨_,rfl⟩
 rw[<-hV]
 suffices hu: ∃h',an P 64 [.ptr xb 0, .agg (c.c aK)] h (.int .i64 V.1) h'/\fx h xb a lb N M t ai V.2 rp h' by
  obtain⟨h',c1,hq⟩:=hu
  exact⟨h',qS c1,hq⟩
 unfold uI at hV
 refine ok.dT (rf:=mQ) rfl (Nat.le_of_ble_eq_true rfl) ?_
 simp+decide only[st,xv,mQ,aep,fc]
 generalize hY:aa.at _ _ _=Y
 have oY:Old h Y:=by rw[<-hY];exact(Old.refl h).at (Nat.le_refl _)
 have cY:cellsOf Y h.next=some (c.c aK):=by rw[<-hY];exact av (by simp[aa.at];try rfl)
 have nY:Y.next=h.next+1:=by rw[<-hY];simp[aa.at]
 simp only[fc] at cY
 have XY:=X.old oY
 simp+decide only[st,xv,mQ,Ra,cY]
 refine au (ue ok XY k.id (ok.cj _ rfl) (q:=ef (ai[t]'X.ht).ak) (fun o h' hl o'=>Ih ok (XY.old o') (tl:=aK) hl)) ?_
 have dG:=mX (l:=(ai[t]'X.ht).ak) (id:=c.id) (kind:=4) (q:=ef (ai[t]'X.ht).ak) X.root
 generalize bJ ah (ai[t]'X.ht).ak c.id 4 (ef (ai[t]'X.ht).ak)=R at*
 obtain⟨o,e⟩:=R
 simp only at hV dG
 simp+decide only[st,xv,mQ,Ra,df,xr]
 generalize hZ:aa.set _ _ _=Z
 have oZ:Old Y Z:=by rw[<-hZ];exact((Old.refl Y).at (Nat.le_refl _)).set (Nat.le_refl _)
 have cZ:cellsOf Z Y.next=some (o.c aK):=by rw[<-hZ];exact av (by simp[aa.set];try rfl)
 have nZ:Z.next=Y.next+1:=by rw[<-hZ];simp[aa.at,aa.set]
 have l7:cellsOf Z h.next=_:=(show cellsOf Z h.next=cellsOf Y h.next by unfold cellsOf;rw[oZ.get _ (by omega)]).trans cY
 simp only[df] at cZ
 rw[nY] at cZ
 have hold:=oY.trans oZ
 have n01: ¬h.next=h.next+1:=by omega
 by_cases he:e=0
 ·subst he
  rw[if_neg (fun h=>h rfl)] at hV
  obtain⟨cU,ba,_⟩:=dG rfl
  have XZ:=XY.old oZ
  have v:=XZ.k.ks.val o cU
  have vH:=yM v.may ba
  have gN:=wb vH
  have hd:=k.data
  simp+decide only[st,xv,mQ,Q9,Q8,cZ,l7,nY]
  refine au (ajT ok (l:=o.ring) (b:=c.data) (t:= .ao) (t':= .ao) (by omega) (fun b hb=>by have:=gN.2 b hb;omega) (by omega)) ?_
  have hpo:=alg (b:=c.data) vH
  generalize hQ:rz o.ring c.data=Q at*
  obtain⟨r,e2⟩:=Q
  simp only at hV hpo
  simp+decide only[st,xv,mQ,Q8,cZ,nY,xr]
  obtain⟨W,hW⟩: ∃W,W=Z.set (h.next+1) (some (.cells (Ob.c {o with ring:=r} aK))):=⟨_,rfl⟩
  have kV:=hW
  simp only[df] at kV
  rw[<-kV]
  have oW:Old h W:=by rw[hW];exact hold.set (by omega)
  have cW:cellsOf W (h.next+1)=some (Ob.c {o with ring:=r} aK):=by rw[hW];exact av (by simp[aa.set])
  have XW:=X.old oW
  simp only[df] at cW
  by_cases tT:e2=0
  ·subst tT
   rw[if_neg (fun h=>h rfl)] at hV
   obtain⟨tO,E9⟩:=hpo rfl
   cases tO
   subst hV
   obtain⟨rt,hx⟩:=XW.x
   have cx:=av hx
   have lx:=XW.lx
   have lW:h.next+1<W.next:=by rw[hW];simp only[aa.set];omega
   simp+decide only[st,xv,mQ,Q7]
   refine bU 6 rfl rfl ?_
   simp+decide only[st,xv,mQ,aem,cx,cW,lx,lW,nY]
   have XC:=XW.old ((Old.refl W).clean (n:=6))
   obtain⟨h1,bj,gA,X1,ej,ik⟩:=CR ok XC (o:={o with ring:=o.ring++[c.data]}) (tl:=aK) (ZA v ba E9) (fun o' ei=>by
    have qu:=lg XC.k.ks.cF cU
    have:o'=o:=by rw[qu] at ei;exact(Option.some.inj ei).symm
    subst this
    exact⟨by omega,by show o'.kind≠2;omega⟩) hN hM
   refine fj bj (ik.free XW.k.bw) ?_
   simp+decide only[st,xv,mQ,ael]
   have lC:(W.clean 6).next=W.next+6:=rfl
   have onW:=oW.next
   refine⟨rfl,gA,N+1,_,X1,(XF.old (oW.trans ((Old.refl W).clean))).trans ik.xf (.inl rfl),?_,by omega,by split<;>omega⟩
   rcases ej with h|h
   ·exact .inl h
   ·exact .inr (by omega)
  ·rw[if_pos tT] at hV
   subst hV
   have dI:((e2:Int)=0)=False:=eq_false (by omega)
   simp+decide only[st,xv,mQ,Q7,aen,dI]
   exact⟨rfl,X.fin oW⟩
 ·rw[if_pos he] at hV
  subst hV
  have dI:((e:Int)=0)=False:=eq_false (by omega)
  simp+decide only[st,xv,mQ,Q9,aeo,dI]
  exact⟨rfl,X.fin hold⟩
def i6 (x:Th) (ah:List Ob) (c:Cl):Bool×Nat×Th×List Ob×List UInt8:=if(bJ ah x.ak c.id 4 (ef x.ak)).2≠0 then(true,(bJ ah x.ak c.id 4 (ef x.ak)).2,x,ah,[]) else match(bJ ah x.ak c.id 4 (ef x.ak)).1.ring with
 |[]=>(false,0,{x with dw:=1,id:=c.id},ah,[])
 |b::m=>(true,0,x,dj ah {(bJ ah x.ak c.id 4 (ef x.ak)).1 with ring:=m},b)
theorem aj9 {b:List UInt8} {m:List (List UInt8)} (h:jz (b::m)=true):jz m=true:=by
 unfold jz at h ⊢
 simp only[Bool.and_eq_true,decide_eq_true_eq,List.length_cons,List.any_cons,Bool.not_or] at h ⊢
 exact⟨by omega,h.2.2⟩
theorem aiv (ok:ax P tb) (X:KX h xb a lb N M t ai ah rp) {c:Cl} {tl:Nat->aH} (k:fJ c) (hN:N<2^19) (hM:M<128):
 ∃h' bY,an P 65 [.ptr xb 0, .agg (c.c tl)] h (.ay [.bool (i6 (ai[t]'X.ht) ah c).1, .int .i64 (i6 (ai[t]'X.ht) ah c).2.1]) h'/\fx h xb a lb N M t (ai.set t (i6 (ai[t]'X.ht) ah c).2.2.1) (i6 (ai[t]'X.ht) ah c).2.2.2.1 bY h'/\((i6 (ai[t]'X.ht) ah c).1=true->(i6 (ai[t]'X.ht) ah c).2.1=0->bY={rp with data:=(i6 (ai[t]'X.ht) ah c).2.2.2.2}):=by
 obtain⟨V,hV⟩: ∃V,V=i6 (ai[t]'X.ht) ah c:=⟨_,rfl⟩
 rw[<-hV]
 obtain⟨Q,hQ⟩: ∃Q:aa->Prop,∀h',Q h'↔ ∃bY,fx h xb a lb N M t (ai.set t V.2.2.1) V.2.2.2.1 bY h'/\(V.1=true->V.2.1=0->bY={rp with data:=V.2.2.2.2}):=⟨_,fun _=>Iff.rfl⟩
 suffices hu: ∃h',an P 65 [.ptr xb 0, .agg (c.c aK)] h (.ay [.bool V.1, .int .i64 V.2.1]) h'/\Q h' by
  obtain⟨h',c1,hq⟩:=hu
  obtain⟨bY,hq⟩:=(hQ h').1 hq
  exact⟨h',bY,qS c1,hq⟩
 unfold i6 at hV
 refine ok.dT (rf:=mP) rfl (Nat.le_of_ble_eq_true rfl) ?_
 simp+decide only[st,xv,mP,aek,fc]
 generalize hY:aa.at _ _ _=Y
 have oY:Old h Y:=by rw[<-hY];exact(Old.refl h).at (Nat.le_refl _)
 have cY:cellsOf Y h.next=some (c.c aK):=by rw[<-hY];exact av (by simp[aa.at];try rfl)
 have nY:Y.next=h.next+1:=by rw[<-hY];simp[aa.at]
 simp only[fc] at cY
 have XY:=X.old oY
 simp+decide only[st,xv,mP,Q6,cY]
 refine au (ue ok XY k.id (ok.cj _ rfl) (q:=ef (ai[t]'X.ht).ak) (fun o h' hl o'=>Ih ok (XY.old o') (tl:=aK) hl)) ?_
 have dG:=mX (l:=(ai[t]'X.ht).ak) (id:=c.id) (kind:=4) (q:=ef (ai[t]'X.ht).ak) X.root
 generalize bJ ah (ai[t]'X.ht).ak c.id 4 (ef (ai[t]'X.ht).ak)=R at*
 obtain⟨o,e⟩:=R
 simp only at hV dG
 simp+decide only[st,xv,mP,Q6,df,xr]
 generalize hZ:aa.set _ _ _=Z
 have oZ:Old Y Z:=by rw[<-hZ];exact((Old.refl Y).at (Nat.le_refl _)).set (Nat.le_refl _)
 have cZ:cellsOf Z Y.next=some (o.c aK):=by rw[<-hZ];exact av (by simp[aa.set];try rfl)
 have nZ:Z.next=Y.next+1:=by rw[<-hZ];simp[aa.at,aa.set]
 have l7:cellsOf Z h.next=_:=(show cellsOf Z h.next=cellsOf Y h.next by unfold cellsOf;rw[oZ.get _ (by omega)]).trans cY
 simp only[df] at cZ
 rw[nY] at cZ
 have hold:=oY.trans oZ
 have n01: ¬h.next=h.next+1:=by omega
 by_cases he:e=0
 ·subst he
  rw[if_neg (fun h=>h rfl)] at hV
  obtain⟨cU,ba,_⟩:=dG rfl
  have XZ:=XY.old oZ
  have v:=XZ.k.ks.val o cU
  have vH:=yM v.may ba
  have gN:=wb vH
  simp+decide only[st,xv,mP,Q5,IX,cZ,l7,nY]
  refine au (akU ok (l:=o.ring) (t:= .ao) (by omega) (fun b hb=>by have:=gN.2 b hb;omega)) ?_
  cases PI:o.ring with
  |nil=>
   rw[PI] at hV
   subst hV
   obtain⟨rt,hx⟩:=XZ.x
   have cx:=av hx
   obtain⟨ct,hle,cE⟩:=XZ.Ea
   have lx:=XZ.lx
   have l2:=XZ.k.l2
   have UB: ¬h.next=a.tb:=by have:=X.k.l2;omega
   have UA: ¬xb=a.tb:=fun e=>X.dK (.inr e)
   have l0:h.next<Z.next:=by omega
   have UT:List.take (t*12+6) (aZ aU ai).flatten++[AV.int .i64 1]++List.drop (t*12+6+1) (aZ aU ai).flatten=(aZ aU (ai.set t {ai[t]'X.ht with dw:=1})).flatten:=wx (l:=ai) X.ht (j:=6) (v:=[.int .i64 1]) (x':={ai[t]'X.ht with dw:=1}) (by simp) (by simp[iG])
   have E7:List.take (t*12+7) (aZ aU (ai.set t {ai[t]'X.ht with dw:=1})).flatten++[AV.int .u64 c.id]++List.drop (t*12+7+1) (aZ aU (ai.set t {ai[t]'X.ht with dw:=1})).flatten=(aZ aU (ai.set t {ai[t]'X.ht with dw:=1,id:=c.id})).flatten:=by
    have:=wx (l:=ai.set t {ai[t]'X.ht with dw:=1}) (t:=t) (by simpa using X.ht) (j:=7) (v:=[.int .u64 c.id]) (x':={ai[t]'X.ht with dw:=1,id:=c.id}) (by simp) (by simp[iG])
    rw[List.set_set] at this
    exact this
   have ej:t*12+6+1<=(aZ aU ai).flatten.length:=by omega
   have eV:t*12+7+1<=(aZ aU (ai.set t {ai[t]'X.ht with dw:=1})).flatten.length:=by
    rw[ji ma,jh,List.length_set];have:=X.ht;omega
   simp+decide only[st,xv,mP,IX,Q4]
   refine YI (fun b=>b=a.tb) 16 rfl ?_
   simp+decide only[st,xv,mP,aei,aeh,sw,cx,ct,l7,lx,l2,l0,UB,UA,ej,nY,UT,E7,eV,xr]
   have fz:=fun i=>cO (h:=Z) (n:=16) (m:=16) (base:=Z.next) (i:=i) (Nat.le_refl _)
   have Ka:=XZ.tv.ak _ (List.getElem_mem XZ.ht)
   refine⟨(jw l2).2 (fz _),W3 rfl,?_⟩
   refine⟨(jw l2).2 (fz _),Bk rfl,rfl,(hQ _).2 ⟨rp,⟨lb,N,M,(XZ.old ((Old.refl Z).clean (n:=16))).mu (x:={ai[t]'X.ht with dw:=1,id:=c.id}) Ka,(XF.old (hold.trans ((Old.refl Z).clean))).mu, .inl rfl,by omega,by omega⟩,fun h=>by cases h⟩⟩
  |cons b m=>
   rw[PI] at hV
   subst hV
   rw[PI] at vH
   have avy:=aj9 vH
   simp+decide only[st,xv,mP,IX,Q4,aeg,cZ,nY,xr]
   obtain⟨W,hW⟩: ∃W,W=Z.set (h.next+1) (some (.cells (Ob.c {o with ring:=m} aK))):=⟨_,rfl⟩
   have kV:=hW
   simp only[df] at kV
   rw[<-kV]
   have oW:Old h W:=by rw[hW];exact hold.set (by omega)
   have cW:cellsOf W (h.next+1)=some (Ob.c {o with ring:=m} aK):=by rw[hW];exact av (by simp[aa.set])
   have XW:=X.old oW
   simp only[df] at cW
   obtain⟨rt,hx⟩:=XW.x
   have cx:=av hx
   have lx:=XW.lx
   have lW:h.next+1<W.next:=by rw[hW];simp only[aa.set];omega
   refine bU 6 rfl rfl ?_
   simp+decide only[st,xv,mP,Q3,cx,cW,lx,lW,nY]
   have XC:=XW.old ((Old.refl W).clean (n:=6))
   obtain⟨h1,bj,gA,X1,ej,ik⟩:=CR ok XC (o:={o with ring:=m}) (tl:=aK) (ZA v ba avy) (fun o' ei=>by
    have qu:=lg XC.k.ks.cF cU
    have:o'=o:=by rw[qu] at ei;exact(Option.some.inj ei).symm
    subst this
    exact⟨by omega,by show o'.kind≠2;omega⟩) hN hM
   refine fj bj (ik.free XW.k.bw) ?_
   obtain⟨rt1,pj⟩:=X1.x
   have A3:=av pj
   simp+decide only[st,xv,mP,Q3,aad,aac,A3,xr]
   have lC:(W.clean 6).next=W.next+6:=rfl
   have onW:=oW.next
   have e0:ai.set t (ai[t]'X.ht)=ai:=sJ X.ht
   refine⟨rfl,(hQ _).2 ⟨{rp with data:=b},⟨gA,N+1,_,by rw[e0];exact X1.rI (bY:={rp with data:=b}),((XF.old (oW.trans ((Old.refl W).clean))).trans ik.xf (.inl rfl)).rH,?_,by omega,by split<;>omega⟩,fun _ _=>rfl⟩⟩
   rcases ej with h|h
   ·exact .inl h
   ·exact .inr (by omega)
 ·rw[if_pos he] at hV
  subst hV
  have dI:((e:Int)=0)=False:=eq_false (by omega)
  simp+decide only[st,xv,mP,Q5,aej,dI]
  refine⟨rfl,(hQ _).2 ⟨rp,?_,fun _ h=>absurd h he⟩⟩
  show fx h xb a lb N M t (ai.set t (ai[t]'X.ht)) ah rp _
  rw[sJ]
  exact X.fin hold
end
section
open Go
variable {P:Program} {h:aa} {a:KA} {lb N M:Nat} {ai:List Th} {ah:List Ob} {g:Nat->Option (List UInt8)} {xb t:Nat} {rp:Rp}
def mf (l:Lb) (ah:List Ob) (c:Cl):Nat×Nat×List UInt8:=if(dq ah l c.id).2≠0 then((dq ah l c.id).2,0,[]) else(0,if(dq ah l c.id).1.kind=2 then(dq ah l c.id).1.data.length else if(dq ah l c.id).1.kind=1 then(dq ah l c.id).1.bd.toNat else 0,UInt8.ofNat (dq ah l c.id).1.kind.toNat::b9 (dq ah l c.id).1.ak)
theorem ait (ok:ax P tb) (X:KX h xb a lb N M t ai ah rp) {c:Cl} {tl:Nat->aH} (k:fJ c) (UW:rp.ret=0):
 ∃h' bY,an P 67 [.ptr xb 0, .agg (c.c tl)] h (.int .i64 (mf (ai[t]'X.ht).ak ah c).1) h'/\fx h xb a lb N M t ai ah bY h'/\((mf (ai[t]'X.ht).ak ah c).1=0->bY={rp with ret:=(mf (ai[t]'X.ht).ak ah c).2.1,data:=(mf (ai[t]'X.ht).ak ah c).2.2}):=by
 obtain⟨V,hV⟩: ∃V,V=mf (ai[t]'X.ht).ak ah c:=⟨_,rfl⟩
 rw[<-hV]
 obtain⟨Q,hQ⟩: ∃Q:aa->Prop,∀h',Q h'↔ ∃bY,fx h xb a lb N M t ai ah bY h'/\(V.1=0->bY={rp with ret:=V.2.1,data:=V.2.2}):=⟨_,fun _=>Iff.rfl⟩
 suffices hu: ∃h',an P 67 [.ptr xb 0, .agg (c.c aK)] h (.int .i64 V.1) h'/\Q h' by
  obtain⟨h',c1,hq⟩:=hu
  obtain⟨bY,hq⟩:=(hQ h').1 hq
  exact⟨h',bY,qS c1,hq⟩
 unfold mf at hV
 refine ok.dT (rf:=oe) rfl (Nat.le_of_ble_eq_true rfl) ?_
 simp+decide only[st,xv,oe,aea,fc]
 generalize hY:aa.at _ _ _=Y
 have oY:Old h Y:=by rw[<-hY];exact(Old.refl h).at (Nat.le_refl _)
 have cY:cellsOf Y h.next=some (c.c aK):=by rw[<-hY];exact av (by simp[aa.at];try rfl)
 have nY:Y.next=h.next+1:=by rw[<-hY];simp[aa.at]
 simp only[fc] at cY
 have XY:=X.old oY
 simp+decide only[st,xv,oe,QX,cY]
 refine au (Lf ok XY k.id) ?_
 have dG:=LF (l:=(ai[t]'X.ht).ak) (id:=c.id) X.root
 generalize dq ah (ai[t]'X.ht).ak c.id=R at*
 obtain⟨o,e⟩:=R
 simp only at hV dG
 simp+decide only[st,xv,oe,QX,df,xr]
 generalize hZ:aa.set _ _ _=Z
 have oZ:Old Y Z:=by rw[<-hZ];exact((Old.refl Y).at (Nat.le_refl _)).set (Nat.le_refl _)
 have cZ:cellsOf Z Y.next=some (o.c aK):=by rw[<-hZ];exact av (by simp[aa.set];try rfl)
 have nZ:Z.next=Y.next+1:=by rw[<-hZ];simp[aa.at,aa.set]
 have l7:cellsOf Z h.next=_:=(show cellsOf Z h.next=cellsOf Y h.next by unfold cellsOf;rw[oZ.get _ (by omega)]).trans cY
 simp only[df] at cZ
 rw[nY] at cZ
 have hold:=oY.trans oZ
 by_cases he:e=0
 ·subst he
  rw[if_neg (fun h=>h rfl)] at hV
  have cU:=dG rfl
  have XZ:=XY.old oZ
  have v:=XZ.k.ks.val o cU
  obtain⟨rt,hx⟩:=XZ.x
  have cx:=av hx
  have lx:=XZ.lx
  have gZ: ¬h.next+1=xb:=by have:=X.lx;omega
  obtain⟨kk,hk,vL,AK⟩: ∃kk:UInt8,o.kind=kk.toNat/\1<=kk.toNat/\kk.toNat<=4:=by
   rcases uh v.may with h|h|h|h<;>rw[h]
   ·exact⟨1,rfl,by decide⟩
   ·exact⟨2,rfl,by decide⟩
   ·exact⟨3,rfl,by decide⟩
   ·exact⟨4,rfl,by decide⟩
  have pn:UInt8.ofNat o.kind.toNat=kk:=by rw[hk];simp
  have w1:IntKind.wrap .u8 o.kind=kk.toNat:=by rw[hk,wrap_u8];unfold vB;simp;omega
  simp+decide only[st,xv,oe,QW,QV,cZ,nY,w1]
  refine au (F5 ok (b:=[kk]) (t:= .full) (l:=o.ak) (t':= .ao) v.ok.ak (by simp)) ?_
  simp+decide only[st,xv,oe,QV,ad8,cZ,cx,nY,gZ,xr]
  have PK:=XF.old (a:=a) (lb:=lb) (xb:=xb) hold
  by_cases h2:o.kind=2
  ·have e2:(o.kind=2)=True:=eq_true h2
   have vN:=sM v.may h2
   have w2:IntKind.wrap .u64 (o.data.length:Int)=o.data.length:=fk (by omega)
   rw[if_pos h2,pn] at hV
   simp+decide only[st,xv,oe,IV,ad7,G6,e2,cZ,cx,nY,gZ,bM,w2,xr]
   subst hV
   refine⟨rfl,(hQ _).2 ⟨{rp with ret:=o.data.length,data:=kk::b9 o.ak},⟨lb,N,M,XZ.rI (bY:={rp with ret:=o.data.length,data:=kk::b9 o.ak}),PK.rH, .inl rfl,by omega,by omega⟩,fun _=>rfl⟩⟩
  have e2:(o.kind=2)=False:=eq_false h2
  rw[if_neg h2] at hV
  by_cases h1:o.kind=1
  ·have e1:(o.kind=1)=True:=eq_true h1
   obtain⟨b1,b2,b3,b4,b5⟩:=uk v.may h1
   obtain⟨q,hq⟩:=Int.eq_ofNat_of_zero_le (show 0<=o.bd by omega)
   have w2:IntKind.wrap .u64 o.bd=q:=by rw[hq];exact fk (by omega)
   rw[if_pos h1,pn,hq,Int.toNat_natCast] at hV
   simp+decide only[st,xv,oe,IV,QU,ad6,G6,e1,e2,cZ,cx,nY,gZ,w2,xr]
   subst hV
   refine⟨rfl,(hQ _).2 ⟨{rp with ret:=q,data:=kk::b9 o.ak},⟨lb,N,M,XZ.rI (bY:={rp with ret:=q,data:=kk::b9 o.ak}),PK.rH, .inl rfl,by omega,by omega⟩,fun _=>rfl⟩⟩
  ·have e1:(o.kind=1)=False:=eq_false h1
   rw[if_neg h1,pn] at hV
   simp+decide only[st,xv,oe,IV,QU,G6,e1,e2,cZ,cx,nY,gZ,xr]
   subst hV
   refine⟨rfl,(hQ _).2 ⟨{rp with data:=kk::b9 o.ak},⟨lb,N,M,XZ.rI (bY:={rp with data:=kk::b9 o.ak}),PK.rH, .inl rfl,by omega,by omega⟩,fun _=>by rw[<-UW]⟩⟩
 ·rw[if_pos he] at hV
  subst hV
  have dI:((e:Int)=0)=False:=eq_false (by omega)
  simp+decide only[st,xv,oe,QW,ad9,dI]
  exact⟨rfl,(hQ _).2 ⟨rp,X.fin hold,fun h=>absurd h he⟩⟩
def EV (x:Th) (ah:List Ob) (c:Cl) (done:Int) (fr to:Ob):Bool×Nat×Th×List Ob×Nat:=
 let d:=(max 0 (min done c.n)).toNat
 let e:=min (d+4) c.n.toNat
 let Ad:=AD ah to (tz to.data d ((fr.data.take e).drop d))
 if e<c.n.toNat then(false,0,{x with dw:=2,id:=c.id,to:=c.to,done:=e,n:=c.n},Ad,0) else(true,0,x,Ad,c.n.toNat)
def fE (x:Th) (ah:List Ob) (c:Cl) (done:Int):Bool×Nat×Th×List Ob×Nat:=
 if(bJ ah x.ak c.id 2 (eS x.ak)).2≠0 then(true,(bJ ah x.ak c.id 2 (eS x.ak)).2,x,ah,0)
 else if(bJ ah x.ak c.to 2 (eX x.ak)).2≠0 then(true,(bJ ah x.ak c.to 2 (eX x.ak)).2,x,ah,0)
 else if¬(0<=c.n/\c.n<=min ((bJ ah x.ak c.id 2 (eS x.ak)).1.data.length:Int) (bJ ah x.ak c.to 2 (eX x.ak)).1.data.length) then(true,11,x,ah,0)
 else EV x ah c done (bJ ah x.ak c.id 2 (eS x.ak)).1 (bJ ah x.ak c.to 2 (eX x.ak)).1
theorem aiy (ok:ax P tb) (X:KX h xb a lb N M t ai ah rp) {c:Cl} {tl:Nat->aH} {done:Int} (k:fJ c):
 ∃h' bY,an P 66 [.ptr xb 0, .agg (c.c tl), .int .i64 done] h (.ay [.bool (fE (ai[t]'X.ht) ah c done).1, .int .i64 (fE (ai[t]'X.ht) ah c done).2.1]) h'/\fx h xb a lb N M t (ai.set t (fE (ai[t]'X.ht) ah c done).2.2.1) (fE (ai[t]'X.ht) ah c done).2.2.2.1 bY h'/\((fE (ai[t]'X.ht) ah c done).1=true->(fE (ai[t]'X.ht) ah c done).2.1=0->bY={rp with ret:=(fE (ai[t]'X.ht) ah c done).2.2.2.2}):=by
 obtain⟨V,hV⟩: ∃V,V=fE (ai[t]'X.ht) ah c done:=⟨_,rfl⟩
 rw[<-hV]
 obtain⟨Q,hQ⟩: ∃Q:aa->Prop,∀h',Q h'↔ ∃bY,fx h xb a lb N M t (ai.set t V.2.2.1) V.2.2.2.1 bY h'/\(V.1=true->V.2.1=0->bY={rp with ret:=V.2.2.2.2}):=⟨_,fun _=>Iff.rfl⟩
 suffices hu: ∃h',an P 66 [.ptr xb 0, .agg (c.c aK), .int .i64 done] h (.ay [.bool V.1, .int .i64 V.2.1]) h'/\Q h' by
  obtain⟨h',c1,hq⟩:=hu
  obtain⟨bY,hq⟩:=(hQ h').1 hq
  exact⟨h',bY,an.ao (by simp only[AV.bG,ZU];exact c1),hq⟩
 unfold fE at hV
 refine ok.dT (rf:=jM) rfl (Nat.le_of_ble_eq_true rfl) ?_
 have e0:ai.set t (ai[t]'X.ht)=ai:=sJ X.ht
 have k8: ∀{e:Nat} {H:aa},Old h H->e≠0->V=(true,e,(ai[t]'X.ht),ah,0)->Q H:=by
  intro e H o he hv
  refine(hQ _).2 ⟨rp,?_,fun _ h=>by rw[hv] at h;exact absurd h he⟩
  rw[hv]
  show fx h xb a lb N M t (ai.set t (ai[t]'X.ht)) ah rp H
  rw[e0]
  exact X.fin o
 simp+decide only[st,xv,jM,aef,fc]
 generalize hY:aa.at _ _ _=Y
 have oY:Old h Y:=by rw[<-hY];exact(Old.refl h).at (Nat.le_refl _)
 have cY:cellsOf Y h.next=some (c.c aK):=by rw[<-hY];exact av (by simp[aa.at];try rfl)
 have nY:Y.next=h.next+1:=by rw[<-hY];simp[aa.at]
 simp only[fc] at cY
 have XY:=X.old oY
 simp+decide only[st,xv,jM,Q1,cY]
 refine au (ue ok XY k.id (ok.cj _ rfl) (q:=eS (ai[t]'X.ht).ak) (fun o h' hl o'=>CS ok (XY.old o') (tl:=aK) hl)) ?_
 have dG:=mX (l:=(ai[t]'X.ht).ak) (id:=c.id) (kind:=2) (q:=eS (ai[t]'X.ht).ak) X.root
 generalize bJ ah (ai[t]'X.ht).ak c.id 2 (eS (ai[t]'X.ht).ak)=R at*
 obtain⟨o,e⟩:=R
 simp only at hV dG
 simp+decide only[st,xv,jM,Q1,df,xr]
 generalize hZ:aa.set _ _ _=Z
 have oZ:Old Y Z:=by rw[<-hZ];exact((Old.refl Y).at (Nat.le_refl _)).set (Nat.le_refl _)
 have cZ:cellsOf Z Y.next=some (o.c aK):=by rw[<-hZ];exact av (by simp[aa.set];try rfl)
 have nZ:Z.next=Y.next+1:=by rw[<-hZ];simp[aa.at,aa.set]
 have l7:cellsOf Z h.next=_:=(show cellsOf Z h.next=cellsOf Y h.next by unfold cellsOf;rw[oZ.get _ (by omega)]).trans cY
 simp only[df] at cZ
 have hold:=oY.trans oZ
 by_cases he:e=0
 case neg=>
  rw[if_pos he] at hV
  have dI:((e:Int)=0)=False:=eq_false (by omega)
  rw[show V.1=true by rw[hV],show V.2.1=e by rw[hV]]
  simp+decide only[st,xv,jM,Q0,aee,dI]
  exact⟨rfl,k8 hold he hV⟩
 subst he
 rw[if_neg (fun h=>h rfl)] at hV
 obtain⟨cU,ba,_⟩:=dG rfl
 have XZ:=XY.old oZ
 simp+decide only[st,xv,jM,Q0,QZ,l7]
 refine au (ue ok XZ k.to (ok.cj _ rfl) (q:=eX (ai[t]'X.ht).ak) (fun o h' hl o'=>MA ok (XZ.old o') (tl:=aK) hl)) ?_
 have JK:=mX (l:=(ai[t]'X.ht).ak) (id:=c.to) (kind:=2) (q:=eX (ai[t]'X.ht).ak) X.root
 generalize bJ ah (ai[t]'X.ht).ak c.to 2 (eX (ai[t]'X.ht).ak)=R2 at*
 obtain⟨o2,e2⟩:=R2
 simp only at hV JK
 simp+decide only[st,xv,jM,QZ,df,xr]
 generalize hW:aa.set _ _ _=W
 have oW:Old Z W:=by rw[<-hW];exact((Old.refl Z).at (Nat.le_refl _)).set (Nat.le_refl _)
 have cW:cellsOf W Z.next=some (o2.c aK):=by rw[<-hW];exact av (by simp[aa.set];try rfl)
 have nW:W.next=Z.next+1:=by rw[<-hW];simp[aa.at,aa.set]
 have A4:cellsOf W h.next=_:=(show cellsOf W h.next=cellsOf Z h.next by unfold cellsOf;rw[oW.get _ (by omega)]).trans l7
 have KT:cellsOf W Y.next=_:=(show cellsOf W Y.next=cellsOf Z Y.next by unfold cellsOf;rw[oW.get _ (by omega)]).trans cZ
 simp only[df] at cW
 have zF:=hold.trans oW
 by_cases tT:e2=0
 case neg=>
  rw[if_pos tT] at hV
  have dI:((e2:Int)=0)=False:=eq_false (by omega)
  rw[show V.1=true by rw[hV],show V.2.1=e2 by rw[hV]]
  simp+decide only[st,xv,jM,QY,aed,dI]
  exact⟨rfl,k8 zF tT hV⟩
 subst tT
 rw[if_neg (fun h=>h rfl)] at hV
 obtain⟨To,Tp,_⟩:=JK rfl
 have XW:=XZ.old oW
 have v:=XW.k.ks.val o cU
 have v2:=XW.k.ks.val o2 To
 have hd1:=sM v.may ba
 have vO:=sM v2.may Tp
 simp+decide only[st,xv,jM,QY,IW,A4,KT,cW,bM]
 refine au (GN ok) ?_
 by_cases aE:0<=c.n/\c.n<=min (o.data.length:Int) o2.data.length
 case neg=>
  rw[if_pos aE] at hV
  have e:(decide (0<=c.n)&&decide (c.n<=min (o.data.length:Int) o2.data.length))=false:=by rw[<-Bool.not_eq_true];simp only[Bool.and_eq_true,decide_eq_true_eq];exact aE
  rw[show V.1=true by rw[hV],show V.2.1=11 by rw[hV],e]
  simp+decide only[st,xv,jM,IW,aec]
  exact⟨rfl,k8 zF (by decide) hV⟩
 rw[if_neg (fun h=>h aE)] at hV
 have e:(decide (0<=c.n)&&decide (c.n<=min (o.data.length:Int) o2.data.length))=true:=by simp only[Bool.and_eq_true,decide_eq_true_eq];exact aE
 rw[e]
 obtain⟨n,hn⟩:=Int.eq_ofNat_of_zero_le aE.1
 unfold EV at hV
 dsimp only at hV
 rw[hn,Int.toNat_natCast] at hV
 generalize hD:(max 0 (min done (n:Int))).toNat=d at*
 have g9:max 0 (min done (n:Int))=(d:Int):=by omega
 have Fm:d<=n:=by omega
 have U1:n<=o.data.length/\n<=o2.data.length:=by omega
 have w1:IntKind.wrap .i64 ((d:Int)+4)=(d:Int)+4:=bH (by omega) (by omega)
 have avT:min ((d:Int)+4) (n:Int)=((min (d+4) n:Nat):Int):=by omega
 generalize hE:min (d+4) n=en at*
 have lY:d<=en:=by omega
 have hen:en<=n:=by omega
 simp+decide only[st,xv,jM,IW,aeb,aab,A4,hn,g9,w1,avT]
 obtain⟨rt,hx⟩:=XW.x
 have cx:=av hx
 have ck:=av XW.k.top
 have lx:=XW.lx
 have lk:=XW.k.l1
 have l0:h.next<W.next:=by omega
 have l1:Y.next<W.next:=by omega
 have l2:Z.next<W.next:=by omega
 have k1:d<=en/\en<=o.data.length:=by omega
 have k2:dC 1 (BS o.data)=true:=jT
 have k3:List.take (en-d) (List.drop d (BS o.data))=BS ((o.data.take en).drop d):=by
  rw[wt,Zu,List.drop_take]
 refine bU 16 rfl rfl ?_
 simp+decide only[st,xv,jM,aaa,cx,ck,cW,A4,KT,lx,lk,l0,l1,l2,bM,k1,k2,k3]
 have XC:=XW.old ((Old.refl W).clean (n:=16))
 have lC:(W.clean 16).next=W.next+16:=rfl
 have oS:=L3 XC.k.ks To Tp
 have hlw:((o.data.take en).drop d).length=en-d:=by simp;omega
 obtain⟨h1,bj,S1,EW⟩:=XC.k.sp.write ok (id:=o2.id) (off:=d) (v:=(o.data.take en).drop d) (t:= .ao) oS (by omega)
 have UE:=XW.k.sp.lt
 refine fj bj (Mh fun b eo ch=>EW.2 b (by omega) (by omega) (by omega)) ?_
 have X1:=XC.wr To Tp (by simp[tz];omega) EW S1
 have ik:XF h h1 a lb xb:=(XF.old (zF.trans ((Old.refl W).clean))).trans EW.kf.xf (.inl rfl)
 have mS:cellsOf h1 h.next=_:=(show cellsOf h1 h.next=cellsOf W h.next by
  have ns:=X.k.bw
  unfold cellsOf
  rw[EW.2 _ (by omega) (fun e=>by have:=ns _ (.inr (.inr (.inr (.inr (.inl e)))));omega) (fun e=>by have:=ns _ (.inr (.inr (.inr (.inr (.inr e)))));omega)]
  simp only[aa.clean]
  rw[if_pos l0]).trans A4
 have l1n:h.next<h1.next:=by have:=EW.1;omega
 simp+decide only[st,xv]
 generalize hρ:put _ _ _=ρ1
 have r0:ρ1 0= .ptr xb 0:=by rw[<-hρ];rfl
 have r4:ρ1 4= .ptr h.next 0:=by rw[<-hρ];rfl
 have fM:ρ1 11= .int .i64 en:=by rw[<-hρ];rfl
 clear hρ
 obtain⟨rt1,pj⟩:=X1.x
 have A3:=av pj
 by_cases aD:en<n
 ·have mv:(en:Int)<(n:Int):=by omega
  rw[if_pos aD] at hV
  rw[show V.1=false by rw[hV],show V.2.1=0 by rw[hV]]
  obtain⟨ct,hle,_⟩:=X1.Ea
  have lx1:=X1.lx
  have UF:=X1.k.l2
  have UB: ¬h.next=a.tb:=by have:=X.k.l2;omega
  have UA: ¬xb=a.tb:=fun e=>X.dK (.inr e)
  have Va:=X.ht
  have kP: ∀{x x':Th} {j:Nat} {v:AV},(j+1<=12)->List.take j (x.c aU)++[v]++List.drop (j+1) (x.c aU)=x'.c aU->List.take (t*12+j) (aZ aU (ai.set t x)).flatten++[v]++List.drop (t*12+j+1) (aZ aU (ai.set t x)).flatten=(aZ aU (ai.set t x')).flatten/\t*12+j+1<=(aZ aU (ai.set t x)).flatten.length:=by
   intro x x' j v hj nJ
   have:=wx (l:=ai.set t x) (t:=t) (by simpa using Va) (j:=j) (v:=[v]) (x':=x') hj (by simpa using nJ)
   rw[List.set_set] at this
   refine⟨this,?_⟩
   rw[ji ma,jh,List.length_set];omega
  have s1:=kP (x:=ai[t]'X.ht) (x':={ai[t]'X.ht with dw:=2}) (j:=6) (v:= .int .i64 2) (by omega) (by simp[iG])
  rw[e0] at s1
  have s2:=kP (x:={ai[t]'X.ht with dw:=2}) (x':={ai[t]'X.ht with dw:=2,id:=c.id}) (j:=7) (v:= .int .u64 c.id) (by omega) (by simp[iG])
  have s3:=kP (x:={ai[t]'X.ht with dw:=2,id:=c.id}) (x':={ai[t]'X.ht with dw:=2,id:=c.id,to:=c.to}) (j:=8) (v:= .int .u64 c.to) (by omega) (by simp[iG])
  have s4:=kP (x:={ai[t]'X.ht with dw:=2,id:=c.id,to:=c.to}) (x':={ai[t]'X.ht with dw:=2,id:=c.id,to:=c.to,done:=en}) (j:=9) (v:= .int .i64 en) (by omega) (by simp[iG])
  have s5:=kP (x:={ai[t]'X.ht with dw:=2,id:=c.id,to:=c.to,done:=en}) (x':={ai[t]'X.ht with dw:=2,id:=c.id,to:=c.to,done:=en,n:=n}) (j:=10) (v:= .int .i64 n) (by omega) (by simp[iG])
  simp+decide only[st,xv,jM,MU,r4,fM,mS,hn,mv]
  refine YI (fun b=>b=a.tb) 42 rfl ?_
  have fz:=fun i=>cO (h:=h1) (n:=42) (m:=42) (base:=h1.next) (i:=i) (Nat.le_refl _)
  simp+decide only[st,xv,jM,Z9,Z8,sw,r0,r4,fM,A3,ct,mS,lx1,UF,l1n,UB,UA,hn,s1,s2,s3,s4,s5,xr]
  have fs:=fun(x:Option cI) i=>(jw (x:=x) UF).2 (fz i)
  have Ka:=X1.tv.ak _ (List.getElem_mem X1.ht)
  refine⟨fs _ _,W3 rfl,fs _ _,Bk rfl,fs _ _,Bk rfl,fs _ _,Bk rfl,fs _ _,Bk rfl,rfl,(hQ _).2 ⟨rp,?_,fun h=>by rw[hV] at h;cases h⟩⟩
  rw[hV]
  exact⟨lb,N,M,(X1.old ((Old.refl h1).clean (n:=42))).mu (x:={ai[t]'X.ht with dw:=2,id:=c.id,to:=c.to,done:=en,n:=n}) Ka,(ik.trans (XF.old ((Old.refl h1).clean (n:=42))) (.inl rfl)).mu, .inl rfl,by omega,by omega⟩
 ·have mv: ¬(en:Int)<(n:Int):=by omega
  rw[if_neg aD] at hV
  rw[show V.1=true by rw[hV],show V.2.1=0 by rw[hV]]
  have wn:IntKind.wrap .u64 (n:Int)=n:=fk (by omega)
  simp+decide only[st,xv,jM,MU,Z7,Z6,r0,r4,fM,A3,mS,hn,mv,wn,xr]
  refine⟨rfl,(hQ _).2 ⟨{rp with ret:=n},?_,fun _ _=>by rw[hV]⟩⟩
  rw[hV]
  show fx h xb a lb N M t (ai.set t (ai[t]'X.ht)) _ _ _
  rw[e0]
  exact⟨lb,N,M,X1.rI (bY:={rp with ret:=n}),ik.rH, .inl rfl,by omega,by omega⟩
end
section
open Go
variable {P:Program} {h:aa} {a:KA} {lb N M:Nat} {ai:List Th} {ah:List Ob} {g:Nat->Option (List UInt8)} {xb t:Nat} {rp:Rp}
theorem Wi {id:Nat} (hm:dM id=true) (h1:id≠1): ∃ps,fD id=ps++[fH id,id]/\(ps=[]->fH id=1)/\ ∀x∈fD id,x≠id->x<id:=by
 unfold dM at hm
 unfold fH lI fD
 cases hn:gx id with
 |none=>rw[hn] at hm;cases hm
 |some l=>
  obtain⟨e1,_⟩:=GI hn
  have hl:l≠[]:=by
   intro e;subst e
   simp at e1;exact h1 e1
  obtain⟨n,hlen⟩: ∃n,l.length=n+1:=⟨l.length-1,by have:=List.length_pos_iff.2 hl;omega⟩
  simp only[Option.getD_some,hlen]
  rw[if_neg (by omega)]
  refine⟨(List.range n).map fun j=>id/64^(n+1-j),?_,?_,?_⟩
  ·rw[List.range_succ,List.range_succ,List.map_append,List.map_append]
   simp
  ·intro e
   have e2:=congrArg List.length e
   simp at e2
   subst e2
   rw[hlen] at e1;simpa using e1
  ·intro x hx aM
   obtain⟨j,hj,rfl⟩:=List.mem_map.1 hx
   have js:=List.mem_range.1 hj
   have iC:0<id:=by
    rcases Nat.eq_zero_or_pos id with h|h
    ·subst h;simp at e1
    ·exact h
   by_cases dP:j=n+1
   ·subst dP;simp at aM
   ·refine Nat.div_lt_self iC ?_
    have:1<=n+1-j:=by omega
    calc 1<64^1:=by decide
     _<=64^(n+1-j):=Nat.pow_le_pow_right (by decide) this
theorem F6 {l:Lb} {p:Nat}: ∀{ps:List Nat} {o:Ob},(eI ah l o (ps++[p])).2=0-> ∃o',eI ah l o ps=(o',0)/\o'.kind=1/\eS l o'.ak=true/\bh ah p=some (eI ah l o (ps++[p])).1
 |[],o,h=>by
  simp only[List.nil_append] at h ⊢
  unfold eI at h ⊢
  split at h
  ·cases h
  split at h
  ·cases h
  rename_i h1 h2
  rw[if_neg h1,if_neg h2]
  cases ho:bh ah p with
  |none=>rw[ho] at h;cases h
  |some o'=>exact⟨o,rfl,Classical.not_not.1 h1,by simpa using h2,rfl⟩
 |q::ps,o,h=>by
  rw[List.cons_append] at h ⊢
  rw[eI] at h ⊢
  rw[eI]
  split at h
  ·cases h
  split at h
  ·cases h
  rename_i h1 h2
  rw[if_neg h1,if_neg h2,if_neg h1,if_neg h2]
  cases ho:bh ah q with
  |none=>rw[ho] at h;cases h
  |some o'=>rw[ho] at h;exact F6 h
theorem Xv {l:Lb} {id:Nat} (hr: ∃r,bh ah 1=some r) (h1:id≠1) (h0:(dq ah l id).2=0):bh ah id=some (dq ah l id).1/\ ∃b,bh ah (fH id)=some b/\b.kind=1/\dM id=true:=by
 cases hm:dM id with
 |false=>unfold dq at h0;rw[F3 hm] at h0;cases h0
 |true=>
  obtain⟨ps,hp,tO,_⟩:=Wi hm h1
  obtain⟨qs,hq⟩:=F2 hm
  obtain⟨r,hr⟩:=hr
  unfold dq at h0 ⊢
  rw[hq] at h0 ⊢
  change(eI ah l ((bh ah 1).getD bf) qs).2=0 at h0
  change bh ah id=some (eI ah l ((bh ah 1).getD bf) qs).1/\_
  rw[hr,Option.getD_some] at h0 ⊢
  cases ps with
  |nil=>
   rw[hq] at hp
   have hn:=tO rfl
   rw[hn] at hp ⊢
   have UX:qs=[id]:=by simpa using hp
   subst UX
   obtain⟨o',e1,e2,_,e3⟩:=F6 (ps:=[]) (p:=id) h0
   unfold eI at e1
   cases e1
   exact⟨e3,r,hr,e2,rfl⟩
  |cons p ps=>
   rw[hq] at hp
   have UX:qs=ps++[fH id,id]:=by simpa using(List.cons.inj hp).2
   subst UX
   have e:ps++[fH id,id]=(ps++[fH id])++[id]:=by simp
   rw[e] at h0 ⊢
   obtain⟨o',e1,e2,_,e3⟩:=F6 h0
   have Vu:(eI ah l r (ps++[fH id])).2=0:=by rw[e1]
   obtain⟨o'',_,_,_,e4⟩:=F6 Vu
   rw[e1] at e4
   exact⟨e3,o',e4,e2,rfl⟩
theorem anL (ok:ax P tb) (X:KX h xb a lb N M t ai ah rp) {id:Nat} (h1:id≠1):
 ∃h',an P 104 [.ptr a.kb 0, .int .u64 id] h (.ay []) h'/\KX h' xb a lb N M t ai (qa ah id) rp/\KF h h' a lb:=by
 obtain⟨h',c,K,kf⟩:=arb ok X.k (id:=id)
 obtain⟨rt,hx⟩:=X.x
 refine⟨h',c,⟨K,⟨rt,by rw[kf.2 _ X.lx X.dK X.dA X.dS,hx]⟩,Nat.lt_of_lt_of_le X.lx kf.1,X.dK,X.dA,X.dS,X.ht,X.tv,?_⟩,kf⟩
 obtain⟨r,hr⟩:=X.root
 exact⟨r,by rw[FZ,if_neg (fun e=>h1 e.symm),hr]⟩
def va (ff:Nat) (ah:List Ob) (id:Nat):List Ob:=if jR id ff then qa ah id else ah
def Ec (ff:Nat) (ah:List Ob):List Ob:=ah.filter fun o=>!jR o.id ff
theorem XV {ff:Nat}: ∀{l:List Nat} {ah:List Ob},l.foldl (va ff) ah=ah.filter fun o=>!(l.any fun id=>o.id==id&&jR id ff)
 |[],ah=>(List.filter_eq_self.2 (fun _ _=>rfl)).symm
 |id::l,ah=>by
  rw[List.foldl_cons,XV]
  unfold va
  by_cases hw:jR id ff=true
  ·rw[if_pos hw]
   unfold qa
   rw[List.filter_filter]
   congr 1
   funext o
   simp[hw,Bool.and_comm]
  ·have hw':jR id ff=false:=by simpa using hw
   rw[if_neg hw]
   congr 1
   funext o
   simp[hw']
theorem ak3 {ff:Nat}:(ah.map (·.id)).foldl (va ff) ah=Ec ff ah:=by
 rw[XV]
 unfold Ec
 refine List.filter_congr fun o ho=>?_
 congr 1
 rw[Bool.eq_iff_iff]
 simp only[List.any_eq_true,List.mem_map,Bool.and_eq_true,beq_iff_eq]
 constructor
 ·rintro⟨x,_,e,hw⟩;rw[e];exact hw
 ·intro hw;exact⟨o.id,⟨o,ho,rfl⟩,rfl,hw⟩
theorem anf {o:Ob} (v:jf o) (h1:o.kind=1) {c:Int}:jf (p8 o c):=by
 obtain⟨b1,b2,b3,b4,b5⟩:=uk v.may h1
 unfold p8
 split
 ·refine⟨⟨v.ok.ak,v.ok.id,v.ok.bX,v.ok.ring,v.ok.cat⟩,?_,?_⟩
  ·have hm:=v.may
   unfold fv m7 at hm ⊢
   rw[if_pos h1] at hm
   rw[if_pos (show({o with used:=max (o.used-c) 0}:Ob).kind=1 from h1)]
   unfold p9 at hm ⊢
   simp only[Bool.and_eq_true,decide_eq_true_eq] at hm ⊢
   refine⟨hm.1,⟨⟨⟨by omega,by omega⟩,by omega⟩,by omega⟩,by omega⟩
  ·have hn:=v.norm
   cases o with
   |mk J0 kind ak bd used next data bX ring st=>
    simp only at h1
    subst h1
    unfold i5 at hn ⊢
    simp only[if_true,Ob.mk.injEq] at hn ⊢
    exact⟨trivial,trivial,trivial,trivial,trivial,trivial,hn.2.2.2.2.2.2.1,hn.2.2.2.2.2.2.2.1,hn.2.2.2.2.2.2.2.2.1,hn.2.2.2.2.2.2.2.2.2⟩
 ·exact v
theorem L9 {o:Ob} {c:Int}:(p8 o c).id=o.id/\(p8 o c).kind=o.kind:=by unfold p8;split<;>exact⟨rfl,rfl⟩
theorem XX {o:Ob} (m:fv o=true) (hn:i5 o=o):(-(2^61)<=o.bd/\o.bd<=400)/\o.data.length<=64/\0<=o.bd:=by
 have hq:0<=o.bd/\o.bd<=400:=by
  by_cases h1:o.kind=1
  ·have:=uk m h1;omega
  ·rw[<-hn];unfold i5
   rw[if_neg h1]
   split
   ·exact⟨Int.le_refl 0,(by decide:(0:Int)<=400)⟩
   split<;>exact⟨Int.le_refl 0,(by decide:(0:Int)<=400)⟩
 have hd:o.data.length<=64:=by
  by_cases h2:o.kind=2
  ·exact sM m h2
  ·rw[<-hn];unfold i5
   split
   ·exact Nat.zero_le _
   split<;>exact Nat.zero_le _
 exact⟨⟨by omega,hq.2⟩,hd,hq.1⟩
def uz (l:Lb) (ah:List Ob) (c:Cl):Nat×List Ob:=if c.id=1 then(1,ah) else if(dq ah l c.id).2≠0 then((dq ah l c.id).2,ah) else if ef l ((bh ah (fH c.id)).getD bf).ak=false then(6,ah) else(0,dj (Ec c.id ah) (p8 ((bh ah (fH c.id)).getD bf) (cost (dq ah l c.id).1)))
theorem ajX {ff:Nat} (h1:ff≠1) {l:List Nat} {ah:List Ob} (hr: ∃r,bh ah 1=some r): ∀id∈l,jR id ff=true->id≠1:=by
 intro id _ hw e
 subst e
 unfold jR at hw
 have e:fD 1=[1]:=by decide
 rw[e] at hw
 have:=List.contains_iff_mem.1 hw
 exact h1 (List.mem_singleton.1 this)
theorem ah1 (ok:ax P tb) (X:KX h xb a lb N M t ai ah rp) {c:Cl} {tl:Nat->aH} (k:fJ c) (hN:N<2^19) (hM:M<128) (ez:ah.length<=12):
 ∃h',an P 62 [.ptr xb 0, .agg (c.c tl)] h (.int .i64 (uz (ai[t]'X.ht).ak ah c).1) h'/\fx h xb a lb N M t ai (uz (ai[t]'X.ht).ak ah c).2 rp h':=by
 obtain⟨V,hV⟩: ∃V,V=uz (ai[t]'X.ht).ak ah c:=⟨_,rfl⟩
 rw[<-hV]
 obtain⟨Q,hQ⟩: ∃Q:aa->Prop,∀h',Q h'↔fx h xb a lb N M t ai V.2 rp h':=⟨_,fun _=>Iff.rfl⟩
 suffices hu: ∃h',an P 62 [.ptr xb 0, .agg (c.c aK)] h (.int .i64 V.1) h'/\Q h' by
  obtain⟨h',c1,hq⟩:=hu
  exact⟨h',qS c1,(hQ h').1 hq⟩
 unfold uz at hV
 refine ok.dT (rf:=iL) rfl (Nat.le_of_ble_eq_true rfl) ?_
 have k8: ∀{e:Nat} {H:aa},Old h H->V=(e,ah)->Q H:=by
  intro e H o hv
  refine(hQ _).2 ?_
  rw[hv]
  exact X.fin o
 simp+decide only[st,xv,iL,aew,fc]
 generalize hY:aa.at _ _ _=Y
 have oY:Old h Y:=by rw[<-hY];exact(Old.refl h).at (Nat.le_refl _)
 have cY:cellsOf Y h.next=some (c.c aK):=by rw[<-hY];exact av (by simp[aa.at];try rfl)
 have nY:Y.next=h.next+1:=by rw[<-hY];simp[aa.at]
 simp only[fc] at cY
 have XY:=X.old oY
 by_cases h1:c.id=1
 ·have e1:((c.id:Int)=1)=True:=eq_true (by omega)
  rw[if_pos h1] at hV
  rw[show V.1=1 by rw[hV]]
  simp+decide only[st,xv,iL,Ri,aev,cY,e1]
  exact⟨rfl,k8 oY hV⟩
 have e1:((c.id:Int)=1)=False:=eq_false (by omega)
 rw[if_neg h1] at hV
 simp+decide only[st,xv,iL,Ri,Rh,cY,e1]
 refine au (Lf ok XY k.id) ?_
 have dG:=LF (l:=(ai[t]'X.ht).ak) (id:=c.id) X.root
 have Kr:=Xv (l:=(ai[t]'X.ht).ak) X.root h1
 generalize dq ah (ai[t]'X.ht).ak c.id=R at*
 obtain⟨o,e⟩:=R
 simp only at hV dG Kr
 simp+decide only[st,xv,iL,Rh,df,xr]
 generalize hZ:aa.set _ _ _=Z
 have oZ:Old Y Z:=by rw[<-hZ];exact((Old.refl Y).at (Nat.le_refl _)).set (Nat.le_refl _)
 have cZ:cellsOf Z Y.next=some (o.c aK):=by rw[<-hZ];exact av (by simp[aa.set];try rfl)
 have nZ:Z.next=Y.next+1:=by rw[<-hZ];simp[aa.at,aa.set]
 have l7:cellsOf Z h.next=_:=(show cellsOf Z h.next=cellsOf Y h.next by unfold cellsOf;rw[oZ.get _ (by omega)]).trans cY
 simp only[df] at cZ
 have hold:=oY.trans oZ
 by_cases he:e=0
 case neg=>
  rw[if_pos he] at hV
  have dI:((e:Int)=0)=False:=eq_false (by omega)
  rw[show V.1=e by rw[hV]]
  simp+decide only[st,xv,iL,Rg,aeu,dI]
  exact⟨rfl,k8 hold hV⟩
 subst he
 rw[if_neg (fun h=>h rfl)] at hV
 have cU:=dG rfl
 obtain⟨_,b,hb,eo,mH⟩:=Kr rfl
 rw[hb,Option.getD_some] at hV
 have XZ:=XY.old oZ
 have v:=XZ.k.ks.val o cU
 have px:=lf hb
 have vb:=XZ.k.ks.val b px.1
 obtain⟨rt,hx⟩:=XZ.x
 have cx:=av hx
 have lx:=XZ.lx
 have lk:=XZ.k.l1
 have l0:h.next<Z.next:=by omega
 simp+decide only[st,xv,iL,Rg]
 refine qT 7 14 rfl (by omega) rfl ?_
 simp+decide only[st,xv,iL,aet,cx,l7,lx,l0]
 refine hP (ahL ok k.id) (cO (Nat.le_refl _)) ?_
 have aT:=fun H (o:Old Z H)=>JE ok (XZ.old o).k (id:=fH c.id)
 rw[hb] at aT
 simp+decide only[st,xv,cx,lx]
 refine fj (aT _ ((Old.refl Z).clean)) (cO (Nat.le_refl _)) ?_
 simp+decide only[st,xv,df,xr]
 refine⟨fun j hj hn=>?_,?_⟩
 ·simp only[aa.set,aa.at,aa.clean]
  rw[if_neg (by omega),if_neg (by omega)]
  exact if_neg (by omega)
 generalize hW:aa.set _ _ _=W
 have oW:Old Z W:=by rw[<-hW];exact((Old.refl Z).clean.at (by omega)).set (by omega)
 have cW:cellsOf W (Z.next+11)=some (b.c aK):=by rw[<-hW];exact av (by simp[aa.set];rfl)
 have nW:W.next=Z.next+14:=by rw[<-hW];simp[aa.set,aa.at,aa.clean]
 have A4:cellsOf W h.next=_:=(show cellsOf W h.next=cellsOf Z h.next by unfold cellsOf;rw[oW.get _ (by omega)]).trans l7
 have KT:cellsOf W Y.next=_:=(show cellsOf W Y.next=cellsOf Z Y.next by unfold cellsOf;rw[oW.get _ (by omega)]).trans cZ
 have XW:=XZ.old oW
 have zF:=hold.trans oW
 simp only[df] at cW
 generalize hρ:put _ _ _=ρ1
 have r0:ρ1 0= .ptr xb 0:=by rw[<-hρ];rfl
 have r3:ρ1 3= .ptr h.next 0:=by rw[<-hρ];rfl
 have r5:ρ1 5= .ptr Y.next 0:=by rw[<-hρ];rfl
 have r7:ρ1 7= .ptr (Z.next+11) 0:=by rw[<-hρ];rfl
 clear hρ
 simp+decide only[st,xv,iL,IY,r0,r7,cW]
 refine au (Ih ok XW (o:=b) (tl:=aK) vb.ok.ak) ?_
 cases hbo:ef (ai[t]'X.ht).ak b.ak with
 |false=>
  rw[if_pos hbo] at hV
  rw[show V.1=6 by rw[hV]]
  simp+decide only[st,xv,iL,IY,aes]
  exact⟨rfl,k8 zF hV⟩
 |true=>
  rw[if_neg (by simp[hbo])] at hV
  obtain⟨JT,nI⟩:=XW.x
  have nV:=av nI
  have ck2:=av XW.k.top
  obtain⟨f,A,Rr⟩:=XW.k.ar
  have aM:ah≠[]:=fun e=>by rw[e] at cU;cases cU
  obtain⟨i1,i2,i3⟩:=XW.k.ks.ids aM Rr
  simp+decide only[st,xv,iL,IY,Rf,r0,nV,ck2]
  refine au (A.ids ok i1 i2 i3 (by simpa using ez)) ?_
  simp+decide only[st,xv,iL,Rf,fh.aS,List.length_map]
  have avN: ∀x∈ah.map (·.id),x<2^64:=fun x hx=>by
   obtain⟨o',ei,rfl⟩:=List.mem_map.1 hx
   exact(XW.k.ks.val o' ei).ok.id
  have Tx:=ak3 (ff:=c.id) (ah:=ah)
  have hlen:(ah.map (·.id)).length=ah.length:=by simp
  generalize ah.map (·.id)=l at*
  let I:Nat->Env->aa->Prop:=fun n ρ H=> ∃i,l.length=i+n/\KX H xb a lb N M t ai ((l.take i).foldl (va c.id) ah) rp/\XF h H a lb xb/\cellsOf H h.next=cellsOf Y h.next/\cellsOf H Y.next=cellsOf Z Y.next/\cellsOf H (Z.next+11)=cellsOf W (Z.next+11)/\W.next<=H.next/\ρ 0= .ptr xb 0/\ρ 3= .ptr h.next 0/\ρ 5= .ptr Y.next 0/\ρ 7= .ptr (Z.next+11) 0/\ρ 46= .vs ((aJ .u64).R l) .ao/\ρ 47= .int .i64 l.length/\ρ 48= .int .i64 i
  have ej:l.length<2^20:=by omega
  have bw:=X.k.bw
  refine dJ I ?_ l.length ⟨0,by omega,XW,XF.old zF,by rw[A4,cY],by rw[KT,cZ],rfl,Nat.le_refl _,r0,r3,r5,r7,rfl,by rw[hlen];rfl,rfl⟩
  rintro n ρ H ⟨i,aE,KI,xf,d0,d1,d2,hWn,r0,r3,r5,r7,Us,JW,JV⟩
  rw[cY] at d0
  rw[cZ] at d1
  rw[cW] at d2
  by_cases hi:i<l.length
  ·have aA:(i:Int)<(l.length:Int):=by omega
   have hw:=dv (show i<2^61 by omega)
   have g1:((aJ .u64).R l)[i]? =some [.int .u64 l[i]]:=(aJ .u64).gR hi
   have nL:l.take (i+1)=l.take i++[l[i]]:=(List.take_append_getElem hi).symm
   simp+decide only[st,xv,iL,MX,aag,G7,r3,Us,JW,JV,aA,g1,d0]
   refine au (ahK ok (avN _ (List.getElem_mem hi))) ?_
   cases lR:jR l[i] c.id with
   |false=>
    simp+decide only[st,xv,iL,G7,MV,JV,hw]
    refine⟨n-1,by omega,i+1,by omega,?_,xf,by rw[d0,cY],by rw[d1,cZ],by rw[d2,cW],hWn,r0,r3,r5,r7,Us,JW,rfl⟩
    rw[nL,List.foldl_append]
    show KX H xb a lb N M t ai (va c.id _ l[i]) rp
    unfold va
    rw[if_neg (by simp[lR])]
    exact KI
   |true=>
    have pk:=ajX h1 (l:=l) X.root _ (List.getElem_mem hi) lR
    obtain⟨rt3,EZ⟩:=KI.x
    have AZ:=av EZ
    obtain⟨H1,bj,K1,ik⟩:=anL ok KI pk
    simp+decide only[st,xv,iL,G7,MW,r0,AZ]
    refine au bj ?_
    simp+decide only[st,xv,iL,MW,MV,JV,hw]
    have same: ∀b,h.next<=b->b<W.next->H1.get b=H.get b:=fun b eo ch=>ik.2 b (by omega) (fun e=>by have:=bw b (.inl e);omega) (fun e=>by have:=bw b (.inr (.inl e));omega) (fun e=>by have:=bw b (.inr (.inr e));omega)
    have sc: ∀b,h.next<=b->b<W.next->cellsOf H1 b=cellsOf H b:=fun b eo ch=>by unfold cellsOf;rw[same b eo ch]
    refine⟨n-1,by omega,i+1,by omega,?_,xf.trans ik.xf (.inl rfl),by rw[sc _ (by omega) (by omega),d0,cY],by rw[sc _ (by omega) (by omega),d1,cZ],by rw[sc _ (by omega) (by omega),d2,cW],by have:=ik.1;omega,r0,r3,r5,r7,Us,JW,rfl⟩
    rw[nL,List.foldl_append]
    show KX H1 xb a lb N M t ai (va c.id _ l[i]) rp
    unfold va
    rw[if_pos lR]
    exact K1
  ·have aA: ¬(i:Int)<(l.length:Int):=by omega
   rw[List.take_of_length_le (by omega),Tx] at KI
   obtain⟨rt3,EZ⟩:=KI.x
   have AZ:=av EZ
   have J3:=KI.lx
   have l3a:h.next<H.next:=by omega
   have l3b:Y.next<H.next:=by omega
   have l3c:Z.next+11<H.next:=by omega
   simp+decide only[st,xv,iL,MX,JW,JV,aA]
   refine qT 8 9 rfl (by omega) rfl ?_
   simp+decide only[st,xv,iL,aaf,r0,r5,r7,AZ,d1,d2,J3,l3a,l3b,l3c]
   have vq:=uh v.may
   have Io:cost o<2^60/\ -(2^61)<=o.bd/\o.bd<2^61/\o.data.length<2^30:=by
    have hv:=XX v.may v.norm
    refine⟨?_,by omega,by omega,by omega⟩
    unfold cost
    split<;>omega
   refine hP (Xg ok (o:=o) (t:=aK) ⟨Io.2.1,Io.2.2.1⟩ Io.2.2.2) (cO (Nat.le_refl _)) ?_
   simp+decide only[st,xv,r0,r5,r7,AZ,d1,d2,J3,l3a,l3b,l3c]
   have kU:=uk vb.may eo
   refine hP (akS ok (o:=b) (t:=aK) (c:=cost o) (by omega) Io.1) (cO (Nat.le_refl _)) ?_
   have KC:=KI.old ((Old.refl H).clean (n:=9))
   have jJ:=L9 (o:=b) (c:=cost o)
   obtain⟨cV,bj,gA,X1,ej,ik⟩:=CR ok KC (o:=p8 b (cost o)) (tl:=aK) (anf vb eo) (fun o' ei=>by
    have hm:=lf ei
    have hmo:=(List.mem_filter.1 hm.1).1
    have qu:=lg XW.k.ks.cF hmo
    have e1:o'.id=b.id:=by rw[hm.2,jJ.1]
    rw[e1,px.2,hb] at qu
    have:=(Option.some.inj qu).symm
    subst this
    exact⟨by omega,by rw[jJ.2];omega⟩) hN hM
   simp+decide only[st,xv]
   refine fj bj (ik.free KI.k.bw) ?_
   simp+decide only[st,xv,iL,aae]
   rw[show V.1=0 by rw[hV]]
   refine⟨rfl,(hQ _).2 ?_⟩
   rw[hV]
   have lC:(H.clean 9).next=H.next+9:=rfl
   refine⟨gA,N+1,_,X1,(xf.trans (XF.old ((Old.refl H).clean)) (.inl rfl)).trans ik.xf (.inl rfl),?_,by omega,by split<;>omega⟩
   rcases ej with h|h
   ·exact .inl h
   ·exact .inr (by omega)
end
section
open Go
variable {P:Program} {h:aa} {a:KA} {lb N M:Nat} {ai:List Th} {ah:List Ob} {g:Nat->Option (List UInt8)} {xb t:Nat} {rp:Rp}
def db (c:Cl) (id:Nat):Ob:={bf with id:=id,kind:=c.kind,ak:=c.ak,bd:=if c.kind=1 then c.n else 0,next:=if c.kind=1 then 1 else 0,data:=if c.kind=2 then c.data else [],bX:=if c.kind=3 then c.bX else []}
theorem ajm (ok:ax P tb) {c:Cl} {id:Nat} {tl:Nat->aH} (k:fJ c):an P 96 [.agg (c.c tl), .int .u64 id] h (.agg ((db c id).c aK)) h:=by
 suffices hu:an P 96 [.agg (c.c aK), .int .u64 id] h (.agg ((db c id).c aK)) h from an.ao (by simp only[AV.bG,AV.strip,yR];exact hu)
 refine ok.eH (rf:=mN) rfl (Nat.le_of_ble_eq_true rfl) (by simp only[AV.bD,ux]) ?_
 have hl:=k.Ie
 have hd:=k.data
 have hc:=k.bX
 simp+decide only[st,xv,mN,ac2,fc]
 generalize hX:aa.at _ _ _=X
 have xo:Old h X:=by rw[<-hX];exact((Old.refl h).at (Nat.le_refl _)).at (by omega)
 have x0:cellsOf X h.next=some (c.c aK):=by rw[<-hX];exact av (by simp[aa.at];rfl)
 have x1:cellsOf X (h.next+1)=some (bf.c qj):=by rw[<-hX];exact av (by simp[aa.at];rfl)
 have xn:X.next=h.next+2:=by rw[<-hX];simp[aa.at]
 simp only[fc] at x0
 simp only[xY] at x1
 have n0:h.next<X.next:=by omega
 have n1:h.next+1<X.next:=by omega
 refine qT 6 9 rfl (by omega) rfl ?_
 simp+decide only[st,xv,mN,ac1,x0,x1,n0,n1]
 refine hP (Gd ok (l:=c.ak) (t:= .ao) (by omega)) (cO (Nat.le_refl _)) ?_
 simp+decide only[st,xv,x0,x1,n0,n1,Lb.c]
 refine⟨fun j hj hn=>?_,?_⟩
 ·simp only[aa.set,aa.at,aa.clean]
  rw[if_neg (by omega),if_neg (by omega)]
  exact if_neg (by omega)
 generalize hW:aa.set _ _ _=W
 have oW:Old X W:=by rw[<-hW];exact((Old.refl X).clean.at (by omega)).set (by omega)
 have cW:cellsOf W (X.next+7)=some (Ob.c {bf with id:=id,kind:=c.kind,ak:=c.ak} (gj .ao .full .full .full)):=by rw[<-hW];exact av (by simp[aa.set];rfl)
 have nW:W.next=X.next+9:=by rw[<-hW];simp[aa.set,aa.at,aa.clean]
 have c0:cellsOf W h.next=_:=(show cellsOf W h.next=cellsOf X h.next by unfold cellsOf;rw[oW.get _ (by omega)]).trans x0
 have c1:cellsOf W (h.next+1)=_:=(show cellsOf W (h.next+1)=cellsOf X (h.next+1) by unfold cellsOf;rw[oW.get _ (by omega)]).trans x1
 have hold:=xo.trans oW
 rw[xn] at cW nW
 generalize hρ:put _ _ _=ρ1
 have r1:ρ1 1= .int .u64 id:=by rw[<-hρ];rfl
 have r2:ρ1 2= .ptr h.next 0:=by rw[<-hρ];rfl
 have r4:ρ1 4= .ptr (h.next+1) 0:=by rw[<-hρ];rfl
 have r5:ρ1 5= .ptr (h.next+9) 0:=by rw[<-hρ];simp[put,xn];try rfl
 have q0:h.next<W.next:=by omega
 obtain⟨V,hV⟩: ∃V,V=db c id:=⟨_,rfl⟩
 rw[<-hV]
 unfold db at hV
 have FN:cellsOf W (h.next+1)=some (bf.c qj):=c1
 clear c1
 have fin: ∀(ρ':Env) (H:aa) (t':Nat->aH),ρ' 4= .ptr (h.next+1) 0->ρ' 5= .ptr (h.next+9) 0->cellsOf H (h.next+9)=some (V.c t')->cellsOf H (h.next+1)=some (bf.c qj)->Old h H->exec P PW ρ' H (jl (WP P aW.ret (uJ [fI.cell 4 true 13] (AV.agg (V.c aK)) h)) (uJ [fI.cell 4 true 13] (AV.agg (V.c aK)) h) aP.normal):=by
  intro ρ' H t' r4 r5 cc cd o
  simp only[Ob.c] at cc cd
  simp+decide only[st,xv,mN,PW,r4,r5,cc,cd,bB]
  refine⟨?_,(o.set (by omega)).get⟩
  exact Mw (o:=V) (t:=t')
 simp only[Ob.c] at cW
 have hs: ∀(b:Option cI),cellsOf (W.set (h.next+9) b) (h.next+1)=some (bf.c qj):=fun b=>by unfold cellsOf;simp only[aa.set];rw[if_neg (by omega)];exact FN
 simp+decide only[st,xv,mN,ac0,c0,r1,r2]
 by_cases h1:c.kind=1
 ·have e1:(c.kind=1)=True:=eq_true h1
  simp+decide only[st,xv,mN,C6,acZ,c0,r1,r2,r4,r5,cW,e1]
  refine fin _ _ (gj .ao .full .full .full) r4 r5 (av ?_) ?_ ((hold.set (by omega)).set (by omega))
  ·simp only[aa.set]
   rw[if_pos trivial,hV]
   simp only[Ob.c,h1,if_true]
   rfl
  ·unfold cellsOf;simp only[aa.set];rw[if_neg (by omega),if_neg (by omega)];exact FN
 have e1:(c.kind=1)=False:=eq_false h1
 by_cases h2:c.kind=2
 ·have e2:(c.kind=2)=True:=eq_true h2
  simp+decide only[st,xv,mN,C6,IB,PZ,c0,r1,r2,r4,r5,cW,e1,e2]
  refine au (MI gJ ok rfl (l:=c.data) (by omega) (by omega)) ?_
  simp+decide only[st,xv,mN,PZ,c0,r1,r2,r4,r5,cW]
  refine fin _ _ (gj .ao .ao .full .full) r4 r5 (av ?_) (hs _) (hold.set (by omega))
  simp only[aa.set]
  rw[if_pos trivial,hV]
  simp only[Ob.c,h2,if_true]
  rfl
 have e2:(c.kind=2)=False:=eq_false h2
 by_cases h3:c.kind=3
 ·have e3:(c.kind=3)=True:=eq_true h3
  simp+decide only[st,xv,mN,C6,IB,PY,PX,c0,r1,r2,r4,r5,cW,e1,e2,e3]
  refine au (MI (aJ .u16) ok rfl (l:=c.bX) (by omega) (by omega)) ?_
  simp+decide only[st,xv,mN,PX,c0,r1,r2,r4,r5,cW]
  refine fin _ _ (gj .ao .full .ao .full) r4 r5 (av ?_) (hs _) (hold.set (by omega))
  simp only[aa.set]
  rw[if_pos trivial,hV]
  simp only[Ob.c,h3,if_true]
  rfl
 have e3:(c.kind=3)=False:=eq_false h3
 simp+decide only[st,xv,mN,C6,IB,PY,c0,r1,r2,r4,r5,cW,e1,e2,e3]
 refine fin _ _ (gj .ao .full .full .full) r4 r5 ?_ FN hold
 rw[cW,hV]
 simp only[Ob.c,h1,h2,h3,if_false]
 rfl
end
section
open Go
variable {P:Program} {h:aa} {a:KA} {lb N M:Nat} {ai:List Th} {ah:List Ob} {g:Nat->Option (List UInt8)} {xb t:Nat} {rp:Rp}
theorem Gs: ∀{k id j:Nat} {l:List Nat},gi k id=some l->l.length<=j->gi j id=some l
 |0,id,j,l,h,hj=>by
  simp only[gi] at h
  split at h
  ·rename_i e;subst e;cases h;exact LV
  ·cases h
 |k+1,id,j,l,h,hj=>by
  simp only[gi] at h
  split at h
  ·rename_i e;subst e;cases h;exact LV
  ·split at h
   ·rename_i h1 h2
    obtain⟨m,hm,rfl⟩:=Option.map_eq_some_iff.1 h
    obtain⟨j',rfl⟩: ∃j',j=j'+1:=⟨j-1,by simp at hj;omega⟩
    simp only[List.length_cons] at hj
    simp only[gi]
    rw[if_neg h1,if_pos h2,Gs hm (by omega)]
    rfl
   ·cases h
theorem Mx {b:Nat} {n:Int} (h0:(eC b n).2=0): ∃k:Nat,n=k/\1<=k/\k<=63/\dM b=true/\(eC b n).1=b*64+k/\dM (b*64+k)=true/\fH (b*64+k)=b/\(b*64+k)<2^40/\1<=b:=by
 unfold eC at h0 ⊢
 split at h0
 ·cases h0
 rename_i h1
 split at h0
 ·cases h0
 rename_i h2
 rw[if_neg h1,if_neg h2]
 have hm:dM b=true:=by
  cases h:dM b with
  |true=>rfl
  |false=>exact absurd (.inl h) h1
 obtain⟨k,hk⟩:=Int.eq_ofNat_of_zero_le (show 0<=n by omega)
 subst hk
 unfold dM at hm
 cases hn:gx b with
 |none=>rw[hn] at hm;cases hm
 |some l=>
  unfold lI at h2
  rw[hn] at h2
  simp only[Option.getD_some] at h2
  have hl:=we hn
  have Kh:l.length<=5:=by omega
  have h5:=Gs hn Kh
  have aD:=Ma hn
  have hp:2^(1+6*l.length)<=2^31:=Nat.pow_le_pow_right (by decide) (by omega)
  have eo:1<=b:=by
   rcases Nat.eq_zero_or_pos b with e|e
   ·subst e
    unfold gx at hn
    simp[gi] at hn
   ·exact e
  have hn6:gx (b*64+k)=some (k::l):=by
   unfold gx
   show gi (5+1) _=_
   rw[gi]
   rw[if_neg (by omega),if_pos (by omega),show(b*64+k)/64=b by omega,show(b*64+k)%64=k by omega,h5]
   rfl
  refine⟨k,rfl,by omega,by omega,by unfold dM;rw[hn];rfl,by simp,by unfold dM;rw[hn6];rfl,?_,by omega,eo⟩
  unfold fH lI
  rw[hn6,if_neg (by simp)]
  omega
theorem anh {o:Ob} (v:jf o) (h1:o.kind=1) {c:Int} (hc:0<=c) (hq:c<=o.bd-o.used) (hn:o.next<=63):jf {o with used:=o.used+c,next:=o.next+1}:=by
 obtain⟨b1,b2,b3,b4,b5⟩:=uk v.may h1
 refine⟨⟨v.ok.ak,v.ok.id,v.ok.bX,v.ok.ring,v.ok.cat⟩,?_,?_⟩
 ·have hm:=v.may
  unfold fv m7 at hm ⊢
  rw[if_pos h1] at hm
  rw[if_pos (show({o with used:=o.used+c,next:=o.next+1}:Ob).kind=1 from h1)]
  unfold p9 at hm ⊢
  simp only[Bool.and_eq_true,decide_eq_true_eq] at hm ⊢
  refine⟨hm.1,⟨⟨⟨by omega,by omega⟩,by omega⟩,by omega⟩,by omega⟩
 ·have hn:=v.norm
  cases o with
  |mk J0 kind ak bd used next data bX ring st=>
   simp only at h1
   subst h1
   unfold i5 at hn ⊢
   simp only[if_true,Ob.mk.injEq] at hn ⊢
   exact⟨trivial,trivial,trivial,trivial,trivial,trivial,hn.2.2.2.2.2.2.1,hn.2.2.2.2.2.2.2.1,hn.2.2.2.2.2.2.2.2.1,hn.2.2.2.2.2.2.2.2.2⟩
theorem anM {c:Cl} (k:fJ c) {id:Nat} {l:Lb} (aL:id<2^64) (hn:dM id=true) (hl:d8 c.ak=true) (hm:m8 l c.ak=0) (hf:lB l c=0) (hc:jY c.bX=true) (hk:1<=c.kind/\c.kind<=4):jf (db c id):=by
 have hs:(dU c.ak.ps).length=0:=by
  unfold m8 at hm
  split at hm
  ·cases hm
  split at hm
  ·cases hm
  omega
 have so:=k.bX
 have eN:((if c.kind=3 then c.bX else []):List Nat).length<=c.bX.length:=by split<;>simp
 refine⟨⟨k.ak,aL,by simp only[db];omega,by simp[db,bf],?_⟩,?_,?_⟩
 ·simp only[db]
  intro x hx
  split at hx
  ·exact k.cat x hx
  ·cases hx
 ·unfold fv m7 p9 db
  simp only[hn,hl,hs,Bool.true_and,beq_self_eq_true,Bool.and_true]
  unfold lB at hf
  by_cases h1:c.kind=1
  ·rw[if_pos h1]
   have:0<=c.n/\c.n<=400:=by
    by_cases hh:0<=c.n/\c.n<=400
    ·exact hh
    ·rw[if_pos ⟨h1,hh⟩] at hf;cases hf
   simp only[h1,if_true,bf]
   simp[this.1,this.2]
  rw[if_neg h1]
  rw[if_neg (fun hh=>h1 hh.1)] at hf
  by_cases h2:c.kind=2
  ·rw[if_pos h2]
   simp only[h2,if_true,decide_eq_true_eq]
   split at hf
   ·cases hf
   ·rename_i hh
    have: ¬64<c.data.length:=fun e=>hh ⟨h2,e⟩
    omega
  rw[if_neg h2]
  by_cases h3:c.kind=3
  ·rw[if_pos h3];simp only[h3,if_true];exact hc
  rw[if_neg h3,if_pos (by omega)]
  rfl
 ·unfold i5 db
  by_cases h1:c.kind=1
  ·simp only[h1,if_true]
   simp[bf]
  by_cases h2:c.kind=2
  ·simp[h2,bf]
  by_cases h3:c.kind=3
  ·simp[h3,bf]
  ·simp[h1,h2,h3,bf]
def Tree (ah:List Ob):Prop:= ∀o∈ah,o.id≠1-> ∃b∈ah,b.id=fH o.id/\b.kind=1/\((o.id%64:Nat):Int)<b.next
theorem X5 {b:Ob} (k:KS ah) (T:Tree ah) (hb:b∈ah) (h0:(eC b.id b.next).2=0):bh ah (eC b.id b.next).1=none:=by
 obtain⟨n,e1,e2,e3,e4,e5,e6,e7,e8,e9⟩:=Mx h0
 rw[e5]
 cases ho:bh ah (b.id*64+n) with
 |none=>rfl
 |some o=>
  obtain⟨hm,hi⟩:=lf ho
  obtain⟨b',bE,h1,h2,h3⟩:=T o hm (by omega)
  rw[hi,e7] at h1
  rw[hi] at h3
  have:=lg k.cF hb
  have h4:=lg k.cF bE
  rw[h1,this] at h4
  cases h4
  omega
end
section
open Go
variable {P:Program} {h:aa} {a:KA} {lb N M:Nat} {ai:List Th} {ah:List Ob} {g:Nat->Option (List UInt8)} {xb t:Nat} {rp:Rp}
def GO (l:Lb) (ah:List Ob) (c:Cl) (box:Ob):Nat×Nat×List Ob:=
 if m8 l c.ak≠0 then(m8 l c.ak,0,ah) else if lB l c≠0 then(lB l c,0,ah) else if 63<box.next then(9,0,ah) else if(eC box.id box.next).2≠0 then((eC box.id box.next).2,0,ah) else if(jo box (cost (db c (eC box.id box.next).1))).2≠0 then((jo box (cost (db c (eC box.id box.next).1))).2,0,ah) else(0,(eC box.id box.next).1,dj (dj ah {(jo box (cost (db c (eC box.id box.next).1))).1 with next:=box.next+1}) (db c (eC box.id box.next).1))
def eg (l:Lb) (ah:List Ob) (c:Cl):Nat×Nat×List Ob:=
 if c.kind<1\/4<c.kind then(8,0,ah) else if(bJ ah l c.id 1 (ef l)).2≠0 then((bJ ah l c.id 1 (ef l)).2,0,ah) else GO l ah c (bJ ah l c.id 1 (ef l)).1
theorem ahZ (ok:ax P tb) (X:KX h xb a lb N M t ai ah rp) {c:Cl} {tl:Nat->aH} (k:fJ c) (T:Tree ah) (hl:d8 c.ak=true) (Kp:jY c.bX=true) (hN:N+1<2^19) (hM:M<128):
 ∃h' bY,an P 59 [.ptr xb 0, .agg (c.c tl)] h (.int .i64 (eg (ai[t]'X.ht).ak ah c).1) h'/\fx h xb a lb N M t ai (eg (ai[t]'X.ht).ak ah c).2.2 bY h'/\((eg (ai[t]'X.ht).ak ah c).1=0->bY={rp with ret:=(eg (ai[t]'X.ht).ak ah c).2.1}):=by
 obtain⟨V,hV⟩: ∃V,V=eg (ai[t]'X.ht).ak ah c:=⟨_,rfl⟩
 rw[<-hV]
 obtain⟨Q,hQ⟩: ∃Q:aa->Prop,∀h',Q h'↔ ∃bY,fx h xb a lb N M t ai V.2.2 bY h'/\(V.1=0->bY={rp with ret:=V.2.1}):=⟨_,fun _=>Iff.rfl⟩
 suffices hu: ∃h',an P 59 [.ptr xb 0, .agg (c.c aK)] h (.int .i64 V.1) h'/\Q h' by
  obtain⟨h',c1,hq⟩:=hu
  obtain⟨bY,hq⟩:=(hQ h').1 hq
  exact⟨h',bY,qS c1,hq⟩
 unfold eg at hV
 refine ok.dT (rf:=fA) rfl (Nat.le_of_ble_eq_true rfl) ?_
 have k8: ∀{e:Nat} {H:aa},e≠0->Old h H->V=(e,0,ah)->Q H:=by
  intro e H he o hv
  refine(hQ _).2 ⟨rp,?_⟩
  rw[hv]
  exact⟨X.fin o,fun h=>absurd h he⟩
 simp+decide only[st,xv,fA,aeG,fc]
 generalize hY:aa.at _ _ _=Y
 have oY:Old h Y:=by rw[<-hY];exact(Old.refl h).at (Nat.le_refl _)
 have cY:cellsOf Y h.next=some (c.c aK):=by rw[<-hY];exact av (by simp[aa.at];try rfl)
 have nY:Y.next=h.next+1:=by rw[<-hY];simp[aa.at]
 simp only[fc] at cY
 refine Lv (HV ?_)
 generalize hK:qo _ _=K1
 have kr: ∀(ρ:Env) (H:aa),ρ 4= .int .i64 V.1->Q H->K1 .ret ρ H:=by
  intro ρ H r4 hq
  rw[<-hK]
  exact⟨by show Option.map eO (dD ρ H [fI.tmp 4])=_;simp[dD,y4,eO,r4],hq⟩
 have kg: ∀(ρ:Env) (H:aa),ρ 4= .int .i64 V.1->Q H->K1 (.goto 0) ρ H:=by
  intro ρ H r4 hq
  rw[<-hK]
  refine alG rfl ?_
  refine HV ?_
  simp+decide only[st,xv,fA,MY,r4,xr,xi]
  exact⟨rfl,hq⟩
 clear hK
 simp+decide only[st,xv,fA,aeF,aeE]
 generalize hZ:aa.at _ _ _=Z
 have oZ:Old Y Z:=by rw[<-hZ];exact((Old.refl Y).at (Nat.le_refl _)).at (by omega)
 have nZ:Z.next=h.next+3:=by rw[<-hZ];simp[aa.at,nY]
 have z1:cellsOf Z Y.next=some (bf.c qj):=by rw[<-hZ];exact av (by simp[aa.at,nY];rfl)
 have z2:cellsOf Z (Y.next+1)=some (bf.c qj):=by rw[<-hZ];exact av (by simp[aa.at,nY];rfl)
 have z0:cellsOf Z h.next=_:=(show cellsOf Z h.next=cellsOf Y h.next by unfold cellsOf;rw[oZ.get _ (by omega)]).trans cY
 have hold:=oY.trans oZ
 have XZ:=X.old hold
 simp only[xY] at z1 z2
 have s1:c.kind<1\/1<=c.kind:=by omega
 by_cases k1:c.kind<1
 ·have e1:(c.kind<1)=True:=eq_true k1
  rw[if_pos (.inl k1)] at hV
  simp+decide only[st,xv,fA,I3,RA,z0,e1,xr,xi]
  exact kr _ _ (by rw[hV];rfl) (k8 (by decide) hold hV)
 have e1:(c.kind<1)=False:=eq_false k1
 by_cases k4:4<c.kind
 ·have e4:(4<c.kind)=True:=eq_true k4
  rw[if_pos (.inr k4)] at hV
  simp+decide only[st,xv,fA,I3,RA,z0,e1,e4,xr,xi]
  exact kr _ _ (by rw[hV];rfl) (k8 (by decide) hold hV)
 have e4:(4<c.kind)=False:=eq_false k4
 rw[if_neg (by omega)] at hV
 simp+decide only[st,xv,fA,I3,Rz,z0,e1,e4,xr,xi]
 refine au (ue ok XZ k.id (ok.cj _ rfl) (q:=ef (ai[t]'X.ht).ak) (fun o h' hl o'=>Ih ok (XZ.old o') (tl:=aK) hl)) ?_
 have dG:=mX (l:=(ai[t]'X.ht).ak) (id:=c.id) (kind:=1) (q:=ef (ai[t]'X.ht).ak) X.root
 generalize bJ ah (ai[t]'X.ht).ak c.id 1 (ef (ai[t]'X.ht).ak)=R at*
 obtain⟨o,e⟩:=R
 simp only at hV dG
 simp+decide only[st,xv,fA,Rz,df,xr,z1]
 obtain⟨W,hW⟩: ∃W,W=Z.set Y.next (some (.cells (o.c aK))):=⟨_,rfl⟩
 have kV:=hW
 simp only[df] at kV
 rw[<-kV]
 have oW:Old h W:=by rw[hW];exact hold.set (by omega)
 have w1:cellsOf W Y.next=some (o.c aK):=by rw[hW];exact av (by simp[aa.set])
 have w0:cellsOf W h.next=_:=(show cellsOf W h.next=cellsOf Z h.next by rw[hW];unfold cellsOf;simp only[aa.set];rw[if_neg (by omega)]).trans z0
 have w2:cellsOf W (Y.next+1)=_:=(show cellsOf W (Y.next+1)=cellsOf Z (Y.next+1) by rw[hW];unfold cellsOf;simp only[aa.set];rw[if_neg (by omega)]).trans z2
 have nW:W.next=h.next+3:=by rw[hW,<-nZ];rfl
 have XW:=X.old oW
 simp only[df] at w1
 generalize hρ:put _ _ _=ρ1
 have r0:ρ1 0= .ptr xb 0:=by rw[<-hρ];rfl
 have r3:ρ1 3= .ptr h.next 0:=by rw[<-hρ];rfl
 have r4:ρ1 4= .int .i64 e:=by rw[<-hρ];rfl
 have r5:ρ1 5= .ptr Y.next 0:=by rw[<-hρ];rfl
 have r6:ρ1 6= .ptr (Y.next+1) 0:=by rw[<-hρ];rfl
 have r7:ρ1 7= .int .u64 0:=by rw[<-hρ];rfl
 clear hρ
 by_cases he:e=0
 case neg=>
  rw[if_pos he] at hV
  have dI:((e:Int)=0)=False:=eq_false (by omega)
  simp+decide only[st,xv,fA,Rw,r4,dI,xr,xi]
  exact kg _ _ (by rw[hV];exact r4) (k8 he oW hV)
 subst he
 rw[if_neg (fun h=>h rfl)] at hV
 obtain⟨cU,ba,_⟩:=dG rfl
 have v:=XW.k.ks.val o cU
 simp+decide only[st,xv,fA,Rw,r4,xr,xi]
 have xx:=XW.x
 obtain⟨rt,hx⟩:=xx
 have cx:=av hx
 obtain⟨ct,hle,gB⟩:=XW.th
 have lx:=XW.lx
 have l2:=XW.k.l2
 have i9:t*12+2<=(aZ aU ai).flatten.length:=by omega
 have q0:h.next<W.next:=by omega
 have q1:Y.next<W.next:=by omega
 have q2:Y.next+1<W.next:=by omega
 refine bU 11 rfl rfl ?_
 simp+decide only[st,xv,fA,Rv,r0,r3,r5,r6,cx,ct,w0,lx,l2,q0,i9,gB]
 refine fj (aiV (a:=(ai[t]'X.ht).ak) (b:=c.ak) (ta:= .ao) (eU:= .ao) ok X.ak k.ak) (cO (Nat.le_refl _)) ?_
 unfold GO at hV
 obtain⟨B,hB⟩: ∃B,B=W.clean 11:=⟨_,rfl⟩
 have oB:Old W B:=by rw[hB];exact(Old.refl W).clean
 have nB:B.next=h.next+14:=by rw[hB];show W.next+11=_;omega
 rw[<-hB]
 clear hB
 have b1:cellsOf B Y.next=_:=(show cellsOf B Y.next=cellsOf W Y.next by unfold cellsOf;rw[oB.get _ (by omega)]).trans w1
 have b0:cellsOf B h.next=_:=(show cellsOf B h.next=cellsOf W h.next by unfold cellsOf;rw[oB.get _ (by omega)]).trans w0
 have b2:cellsOf B (Y.next+1)=_:=(show cellsOf B (Y.next+1)=cellsOf W (Y.next+1) by unfold cellsOf;rw[oB.get _ (by omega)]).trans w2
 have AB:=oW.trans oB
 have XB:=X.old AB
 simp+decide only[st,xv,fA,Rv,r0]
 by_cases hm:m8 (ai[t]'X.ht).ak c.ak=0
 case neg=>
  rw[if_pos hm] at hV
  have Fc:((m8 (ai[t]'X.ht).ak c.ak:Int)=0)=False:=eq_false (by omega)
  simp+decide only[st,xv,fA,Ru,r0,Fc]
  exact kg _ _ (by rw[hV];rfl) (k8 hm AB hV)
 rw[if_neg (fun h=>h hm)] at hV
 rw[hm]
 simp+decide only[st,xv,fA,Ru,DB,r0,r3,b0]
 refine au (aiz ok XB (tl:=aK) k) ?_
 by_cases hf:lB (ai[t]'X.ht).ak c=0
 case neg=>
  rw[if_pos hf] at hV
  have qB:((lB (ai[t]'X.ht).ak c:Int)=0)=False:=eq_false (by omega)
  simp+decide only[st,xv,fA,DB,G9,r0,qB]
  exact kg _ _ (by rw[hV];rfl) (k8 hf AB hV)
 rw[if_neg (fun h=>h hf)] at hV
 rw[hf]
 obtain⟨bx1,bx2,bx3,bx4,bx5⟩:=uk v.may ba
 by_cases KB:63<o.next
 ·rw[if_pos KB] at hV
  have TG:(63<o.next)=True:=eq_true KB
  simp+decide only[st,xv,fA,DB,G9,M9,aal,r0,r5,b1,TG]
  exact kr _ _ (by rw[hV];rfl) (k8 (by decide) AB hV)
 rw[if_neg KB] at hV
 have TG:(63<o.next)=False:=eq_false KB
 simp+decide only[st,xv,fA,DB,G9,M9,G8,r0,r5,b1,TG]
 refine au (akg ok (box:=o.id) (n:=o.next) v.ok.id) ?_
 have dF:=Mx (b:=o.id) (n:=o.next)
 have gl:=X5 XB.k.ks T cU
 generalize eC o.id o.next=F at*
 obtain⟨id,fe⟩:=F
 simp only at hV dF gl
 by_cases Vb:fe=0
 case neg=>
  rw[if_pos Vb] at hV
  have qB:((fe:Int)=0)=False:=eq_false (by omega)
  simp+decide only[st,xv,fA,G8,M8,r0,qB,xr]
  exact kg _ _ (by rw[hV];rfl) (k8 Vb AB hV)
 subst Vb
 rw[if_neg (fun h=>h rfl)] at hV
 obtain⟨n,e1',e2',e3',e4',Vz,e6',e7',e8',e9'⟩:=dF rfl
 have gl:=gl rfl
 simp+decide only[st,xv,fA,G8,M8,M7,r0,r3,b0,xr]
 have asT:id<2^64:=by omega
 refine au (ajm ok (id:=id) (tl:=aK) k) ?_
 have vo:=anM k asT (by rw[Vz];exact e6') hl hm hf Kp (by omega)
 generalize JK:db c id=p at*
 simp+decide only[st,xv,fA,M7,r6,b2,df]
 obtain⟨C,hC⟩: ∃C,C=B.set (Y.next+1) (some (.cells (p.c aK))):=⟨_,rfl⟩
 have Vq:=hC
 simp only[df] at Vq
 rw[<-Vq]
 have oC:Old h C:=by rw[hC];exact AB.set (by omega)
 have d1:cellsOf C Y.next=_:=(show cellsOf C Y.next=cellsOf B Y.next by rw[hC];unfold cellsOf;simp only[aa.set];rw[if_neg (by omega)]).trans b1
 have d2:cellsOf C (Y.next+1)=some (p.c aK):=by rw[hC];exact av (by simp[aa.set])
 have nC:C.next=h.next+14:=by rw[hC];exact nB
 simp only[df] at d2
 clear hC Vq
 generalize hρ:put _ _ _=ρ2
 have s0:ρ2 0= .ptr xb 0:=by rw[<-hρ];exact r0
 have s5:ρ2 5= .ptr Y.next 0:=by rw[<-hρ];exact r5
 have s6:ρ2 6= .ptr (Y.next+1) 0:=by rw[<-hρ];exact r6
 have s7:ρ2 7= .int .u64 id:=by rw[<-hρ];rfl
 clear hρ
 have q1:Y.next<C.next:=by omega
 have q2:Y.next+1<C.next:=by omega
 have hv:=XX vo.may vo.norm
 have hcp:0<=cost p/\cost p<2^60:=by
  unfold cost
  split
  ·omega
  split
  ·omega
  split
  ·omega
  split<;>omega
 refine qT 4 9 rfl (by omega) rfl ?_
 simp+decide only[st,xv,fA,aak,s5,s6,d1,d2,q1,q2]
 refine hP (Xg ok (o:=p) (t:=aK) ⟨by omega,by omega⟩ (by omega)) (cO (Nat.le_refl _)) ?_
 simp+decide only[st,xv]
 refine hP (akW ok (o:=o) (t:=aK) (c:=cost p) ⟨by omega,by omega⟩ ⟨by omega,by omega⟩ hcp.2) (cO (Nat.le_refl _)) ?_
 have qy:jo o (cost p)=(bf,10)\/jo o (cost p)=({o with used:=o.used+cost p},0)/\cost p<=o.bd-o.used:=by
  unfold jo
  rw[if_neg (by omega)]
  split
  ·exact .inl rfl
  ·exact .inr ⟨rfl,by omega⟩
 generalize jo o (cost p)=A at*
 obtain⟨oo,ae⟩:=A
 simp only at hV
 simp+decide only[st,xv,df,s5,d1,q1,xr]
 refine⟨(jw q1).2 (cO (Nat.le_refl _)),?_⟩
 by_cases Vj:ae=0
 case neg=>
  rw[if_pos Vj] at hV
  have qB:((ae:Int)=0)=False:=eq_false (by omega)
  simp+decide only[st,xv,fA,M0,s5,qB]
  exact kg _ _ (by rw[hV];rfl) (k8 Vj ((oC.trans (Old.refl C).clean).set (by omega)) hV)
 subst Vj
 rw[if_neg (fun h=>h rfl)] at hV
 have qy:=qy.resolve_left (fun e=>by cases e)
 obtain⟨U0,hle⟩:=qy
 obtain⟨E,hE⟩: ∃E,E=(C.clean 9).set Y.next (some (.cells (oo.c aK))):=⟨_,rfl⟩
 have Vp:=hE
 simp only[df] at Vp
 rw[<-Vp]
 have oE:Old h E:=by rw[hE];exact(oC.trans (Old.refl C).clean).set (by omega)
 have g1:cellsOf E Y.next=some (oo.c aK):=by rw[hE];exact av (by simp[aa.set])
 have g2:cellsOf E (Y.next+1)=_:=(show cellsOf E (Y.next+1)=cellsOf C (Y.next+1) by rw[hE];unfold cellsOf;simp only[aa.set,aa.clean];rw[if_neg (by omega),if_pos (by omega)]).trans d2
 have nE:E.next=h.next+23:=by rw[hE];show C.next+9=_;omega
 clear hE Vp
 have Kd:oo={o with used:=o.used+cost p}:=(Prod.mk.inj U0).1
 have Ul:IntKind.wrap .i64 (oo.next+1)=oo.next+1:=bH (by rw[Kd];show _<=o.next+1;omega) (by rw[Kd];show o.next+1<_;omega)
 simp only[df] at g1
 simp+decide only[st,xv,fA,M0,aaj,s5,g1,Ul]
 generalize hρ:put _ _ _=ρ3
 have u0:ρ3 0= .ptr xb 0:=by rw[<-hρ];exact s0
 have u4:ρ3 4= .int .i64 0:=by rw[<-hρ];rfl
 have u5:ρ3 5= .ptr Y.next 0:=by rw[<-hρ];exact s5
 have u6:ρ3 6= .ptr (Y.next+1) 0:=by rw[<-hρ];exact s6
 have u7:ρ3 7= .int .u64 id:=by rw[<-hρ];exact s7
 clear hρ
 obtain⟨B2,Kz⟩: ∃B2,B2={o with used:=o.used+cost p,next:=o.next+1}:=⟨_,rfl⟩
 have eB2:B2={oo with next:=o.next+1}:=by rw[Kz,Kd]
 obtain⟨G,hG⟩: ∃G,G=E.set Y.next (some (.cells (B2.c aK))):=⟨_,rfl⟩
 have Ky:=hG
 rw[eB2] at Ky
 simp only[df] at Ky
 rw[show oo.next=o.next by rw[Kd],<-Ky]
 have oG:Old h G:=by rw[hG];exact oE.set (by omega)
 have i1:cellsOf G Y.next=some (B2.c aK):=by rw[hG];exact av (by simp[aa.set])
 have i2:cellsOf G (Y.next+1)=_:=(show cellsOf G (Y.next+1)=cellsOf E (Y.next+1) by rw[hG];unfold cellsOf;simp only[aa.set];rw[if_neg (by omega)]).trans g2
 have nG:G.next=h.next+23:=by rw[hG];exact nE
 clear hG Ky
 simp only[df] at i1
 rw[<-eB2] at hV
 have XG:=X.old oG
 obtain⟨JT,nI⟩:=XG.x
 have nV:=av nI
 have UD:=XG.lx
 have q3:Y.next<G.next:=by omega
 have ck2:=av XG.k.top
 have lk2:=XG.k.l1
 refine bU 6 rfl rfl ?_
 simp+decide only[st,xv,fA,aai,u0,u5,nV,i1,UD,q3]
 have vb:jf B2:=by rw[Kz];exact anh v ba hcp.1 hle (by omega)
 have XC:=XG.old ((Old.refl G).clean (n:=6))
 obtain⟨H1,bj,gA,X1,ej,ik⟩:=CR ok XC (o:=B2) (tl:=aK) vb (fun o' ei=>by
  have ch:B2.id=o.id/\B2.kind=1:=by rw[Kz];exact⟨rfl,ba⟩
  have hmo:=lf ei
  have qu:=lg XW.k.ks.cF cU
  rw[ch.1,qu] at ei
  have:=Option.some.inj ei
  subst this
  exact⟨by omega,by omega⟩) (by omega) hM
 refine fj bj (ik.free XG.k.bw) ?_
 simp+decide only[st,xv,fA,MZ]
 have bw:=X.k.bw
 have lC:(G.clean 6).next=G.next+6:=rfl
 have ch:B2.id=o.id/\B2.kind=1:=by rw[Kz];exact⟨rfl,ba⟩
 have j2:cellsOf H1 (Y.next+1)=_:=(show cellsOf H1 (Y.next+1)=cellsOf G (Y.next+1) by
  unfold cellsOf
  rw[ik.2 _ (by omega) (fun e=>by have:=bw _ (.inl e);omega) (fun e=>by have:=bw _ (.inr (.inl e));omega) (fun e=>by have:=bw _ (.inr (.inr e));omega)]
  simp only[aa.clean]
  rw[if_pos (by omega)]).trans i2
 have nH1:=ik.1
 obtain⟨rt3,EZ⟩:=X1.x
 have AZ:=av EZ
 have J3:=X1.lx
 have q4:Y.next+1<H1.next:=by omega
 refine bU 6 rfl rfl ?_
 simp+decide only[st,xv,fA,MZ,u0,u6,AZ,j2,J3,q4]
 rw[if_neg (by rw[ch.2];decide)] at X1
 have X2:=X1.old ((Old.refl H1).clean (n:=6))
 have avA:p.id=id:=by rw[<-JK];rfl
 obtain⟨H2,a9,vC,X3,eV,kQ⟩:=CR ok X2 (o:=p) (tl:=aK) vo (fun o' ei=>by
  rw[oh XG.k.ks.cF,avA,if_neg (by omega),gl] at ei
  cases ei) (by omega) hM
 refine fj a9 (kQ.free X1.k.bw) ?_
 obtain⟨rt4,hx4⟩:=X3.x
 have cx4:=av hx4
 simp+decide only[st,xv,fA,aah,MY,u0,u4,u7,cx4,xr]
 refine kr _ _ (by rw[hV];rfl) ((hQ _).2 ?_)
 rw[hV]
 have lC2:(H1.clean 6).next=H1.next+6:=rfl
 have vA:XF h H1 a lb xb:=(XF.old (oG.trans (Old.refl G).clean)).trans ik.xf (.inl rfl)
 have JJ:gA=lb\/h.next<=gA:=by
  rcases ej with e|e
  ·exact .inl e
  ·exact .inr (by omega)
 have xf2:XF h H2 a lb xb:=(vA.trans (XF.old (lb:=lb) (Old.refl H1).clean) (.inl rfl)).trans kQ.xf JJ
 refine⟨{rp with ret:=id},⟨vC,N+1+1,_,X3.rI (bY:={rp with ret:=id}),xf2.rH,?_,by omega,by split<;>omega⟩,fun _=>rfl⟩
 rcases eV with e|e
 ·rw[e];exact JJ
 ·exact .inr (by omega)
end
section
open Go
variable {P:Program} {h:aa} {a:KA} {lb N M:Nat} {ai:List Th} {ah:List Ob} {g:Nat->Option (List UInt8)} {xb t:Nat} {rp:Rp}
structure Dr where
 is:Bool
 err:Nat
 th:Th
 ah:List Ob
 ret:Nat
 data:List UInt8
def sS (t:Nat) (x:Th) (ah:List Ob) (c:Cl) (done:Int):Dr:=
 if c.op=1 then⟨true,(nu t x).1,(nu t x).2.2,ah,(nu t x).2.1,[]⟩
 else if c.op=2 then⟨true,(pU x c.ak).1,(pU x c.ak).2,ah,0,[]⟩
 else if c.op=3 then⟨true,(eg x.ak ah c).1,x,(eg x.ak ah c).2.2,(eg x.ak ah c).2.1,[]⟩
 else if c.op=4 then⟨true,(p4 x.ak ah c).1,x,ah,0,(p4 x.ak ah c).2⟩
 else if c.op=5 then⟨true,(uy x.ak ah c).1,x,(uy x.ak ah c).2,0,[]⟩
 else if c.op=6 then⟨true,(uz x.ak ah c).1,x,(uz x.ak ah c).2,0,[]⟩
 else if c.op=7 then⟨true,(rn x ah c).1,(rn x ah c).2,ah,0,[]⟩
 else if c.op=8 then⟨true,(uI x.ak ah c).1,x,(uI x.ak ah c).2,0,[]⟩
 else if c.op=9 then⟨(i6 x ah c).1,(i6 x ah c).2.1,(i6 x ah c).2.2.1,(i6 x ah c).2.2.2.1,0,(i6 x ah c).2.2.2.2⟩
 else if c.op=10 then⟨(fE x ah c done).1,(fE x ah c done).2.1,(fE x ah c done).2.2.1,(fE x ah c done).2.2.2.1,(fE x ah c done).2.2.2.2,[]⟩
 else if c.op=11 then⟨true,(mf x.ak ah c).1,x,ah,(mf x.ak ah c).2.1,(mf x.ak ah c).2.2⟩
 else if c.op=12 then⟨true,0,x,ah,t,b9 x.ak⟩
 else if c.op=13 then⟨true,0,x,ah,0,[]⟩
 else⟨true,2,x,ah,0,[]⟩
def kK (t:Nat) (x:Th) (ah:List Ob) (c:Cl) (done:Int):Dr:=if(c.op=2\/c.op=3)/\names c.ak=false then⟨true,4,x,ah,0,[]⟩ else sS t x ah c done
theorem fx.from {Y h':aa} (o:Old h Y) (e:fx Y xb a lb N M t ai ah rp h'):fx h xb a lb N M t ai ah rp h':=by
 obtain⟨aR,N',M',X,xf,hl,hN,hM⟩:=e
 refine⟨aR,N',M',X,(XF.old (lb:=lb) o).trans xf (.inl rfl),?_,hN,hM⟩
 rcases hl with e|e
 ·exact .inl e
 ·exact .inr (Nat.le_trans o.next e)
def ahD (h:aa) (xb:Nat) (a:KA) (lb N M t:Nat) (ai:List Th) (rp:Rp) (D:Dr) (h':aa):Prop:= ∃bY,fx h xb a lb N M t (ai.set t D.th) D.ah bY h'/\(D.is=true->D.err=0->bY={rp with ret:=D.ret,data:=D.data})
theorem aiA (ok:ax P tb) (X:KX h xb a lb N M t ai ah rp) {c:Cl} {tl:Nat->aH} {done:Int} (k:fJ c) (gl:c.op=3->Tree ah/\d8 c.ak=true/\jY c.bX=true) (hN:N+1<2^19) (hM:M<128) (ez:c.op=6->ah.length<=12) (ho:0<=(ai[t]'X.ht).own) (hr:rp.ret=0) (hd:rp.data=[]):
 ∃h',an P 38 [.ptr xb 0, .agg (c.c tl), .int .i64 done] h (.ay [.bool (kK t (ai[t]'X.ht) ah c done).is, .int .i64 (kK t (ai[t]'X.ht) ah c done).err]) h'/\ahD h xb a lb N M t ai rp (kK t (ai[t]'X.ht) ah c done) h':=by
 obtain⟨V,hV⟩: ∃V,V=kK t (ai[t]'X.ht) ah c done:=⟨_,rfl⟩
 rw[<-hV]
 obtain⟨Q,hQ⟩: ∃Q:aa->Prop,∀h',Q h'↔ahD h xb a lb N M t ai rp V h':=⟨_,fun _=>Iff.rfl⟩
 suffices hu: ∃h',an P 38 [.ptr xb 0, .agg (c.c aK), .int .i64 done] h (.ay [.bool V.is, .int .i64 V.err]) h'/\Q h' by
  obtain⟨h',c1,hq⟩:=hu
  refine⟨h',an.ao ?_,(hQ h').1 hq⟩
  simp only[AV.bG,AV.strip,yR]
  exact c1
 refine ok.dT (rf:=ee) rfl (Nat.le_of_ble_eq_true rfl) ?_
 have jc:ai.set t (ai[t]'X.ht)=ai:=sJ X.ht
 have er: ∀n d,({rp with ret:=n,data:=d}:Rp)={rp with ret:=n,data:=d}:=fun _ _=>rfl
 have Vx: ∀n,({rp with ret:=n}:Rp)={rp with ret:=n,data:=[]}:=fun n=>by rw[<-hd]
 have err: ∀d,({rp with data:=d}:Rp)={rp with ret:=0,data:=d}:=fun d=>by rw[<-hr]
 have Ah:rp={rp with ret:=0,data:=[]}:=by rw[<-hr,<-hd]
 have axk:=k.Ie
 simp+decide only[st,xv,ee,afk,afj,fc]
 generalize hY:aa.at _ _ _=Y
 have oY:Old h Y:=by rw[<-hY];exact(Old.refl h).at (Nat.le_refl _)
 have cY:cellsOf Y h.next=some (c.c aK):=by rw[<-hY];exact av (by simp[aa.at];try rfl)
 have nY:Y.next=h.next+1:=by rw[<-hY];simp[aa.at]
 simp only[fc] at cY
 have XY:=X.old oY
 generalize gB:ai[t]'X.ht=x at*
 unfold kK at hV
 by_cases qd:(c.op=2\/c.op=3)/\names c.ak=false
 ·rw[if_pos qd] at hV
  have hq:Q Y:=(hQ _).2 ⟨rp,by rw[hV,jc];exact X.fin oY,fun _ e=>by rw[hV] at e;cases e⟩
  rcases qd.1 with e|e
  ·have e2:(c.op=2)=True:=eq_true e
   simp+decide only[st,xv,ee,iP,cY,e2]
   refine au (yE ok (l:=c.ak) (t:= .ao) (by omega)) ?_
   rw[qd.2]
   simp+decide only[st,xv,ee,iP,R3]
   exact⟨by rw[hV];rfl,hq⟩
  ·have e2:(c.op=2)=False:=eq_false (by omega)
   have e3:(c.op=3)=True:=eq_true e
   simp+decide only[st,xv,ee,iP,cY,e2,e3]
   refine au (yE ok (l:=c.ak) (t:= .ao) (by omega)) ?_
   rw[qd.2]
   simp+decide only[st,xv,ee,iP,R3]
   exact⟨by rw[hV];rfl,hq⟩
 rw[if_neg qd] at hV
 unfold sS at hV
 by_cases h1:c.op=1
 ·rw[if_pos h1] at hV
  have e1:(c.op=1)=True:=eq_true h1
  have z2:(c.op=2)=False:=eq_false (by omega)
  have z3:(c.op=3)=False:=eq_false (by omega)
  simp+decide only[st,xv,ee,iP,lG,lF,R1,cY,z2,z3,e1]
  obtain⟨h1,hc,he⟩:=ajq ok XY (by rw[gB];exact ho)
  rw[gB] at hc he
  refine au hc ?_
  simp+decide only[st,xv,ee,R1,lq]
  refine⟨by rw[hV];rfl,(hQ _).2 ⟨_,by rw[hV];exact he.from oY,fun _ e=>?_⟩⟩
  rw[hV] at e ⊢;simp only at e ⊢;rw[if_pos e];exact Vx _
 rw[if_neg h1] at hV
 have n1:(c.op=1)=False:=eq_false h1
 by_cases h2:c.op=2
 ·rw[if_pos h2] at hV
  have e2:(c.op=2)=True:=eq_true h2
  have z3:(c.op=3)=False:=eq_false (by omega)
  simp+decide only[st,xv,ee,iP,cY,e2,z3]
  refine au (yE ok (l:=c.ak) (t:= .ao) (by omega)) ?_
  have mH:names c.ak=true:=by
   cases hh:names c.ak with
   |true=>rfl
   |false=>exact absurd ⟨by omega,hh⟩ qd
  rw[mH]
  simp+decide only[st,xv,ee,iP,lG,lF,mq,R0,cY,e2,n1]
  obtain⟨h1,hc,he⟩:=ahY ok XY (tl:=aK) k
  rw[gB] at hc he
  refine au hc ?_
  simp+decide only[st,xv,ee,R0,lq]
  exact⟨by rw[hV];rfl,(hQ _).2 ⟨_,by rw[hV];exact he.from oY,fun _ e=>by rw[hV];exact Ah⟩⟩
 rw[if_neg h2] at hV
 have n2:(c.op=2)=False:=eq_false h2
 by_cases h3:c.op=3
 ·rw[if_pos h3] at hV
  have e3:(c.op=3)=True:=eq_true h3
  simp+decide only[st,xv,ee,iP,cY,n2,e3]
  refine au (yE ok (l:=c.ak) (t:= .ao) (by omega)) ?_
  have mH:names c.ak=true:=by
   cases hh:names c.ak with
   |true=>rfl
   |false=>exact absurd ⟨by omega,hh⟩ qd
  rw[mH]
  simp+decide only[st,xv,ee,iP,lG,lF,mq,nn,Nk,cY,e3,n1,n2]
  obtain⟨T,hl,Kp⟩:=gl h3
  obtain⟨h1,pd,hc,he,kR⟩:=ahZ ok XY (tl:=aK) k T hl Kp hN hM
  rw[gB] at hc he kR
  refine au hc ?_
  simp+decide only[st,xv,ee,Nk,lq]
  refine⟨by rw[hV];rfl,(hQ _).2 ⟨pd,by rw[hV,jc];exact he.from oY,fun _ e=>?_⟩⟩
  rw[hV] at e ⊢;rw[kR e];exact Vx _
 rw[if_neg h3] at hV
 have n3:(c.op=3)=False:=eq_false h3
 by_cases h4:c.op=4
 ·rw[if_pos h4] at hV
  have e4:(c.op=4)=True:=eq_true h4
  simp+decide only[st,xv,ee,iP,lG,lF,mq,nn,oK,Nj,cY,n2,n3,e4,n1,n2,n3]
  obtain⟨h1,pd,hc,he,kR⟩:=aiw ok XY (tl:=aK) k
  rw[gB] at hc kR
  refine au hc ?_
  simp+decide only[st,xv,ee,Nj,lq]
  refine⟨by rw[hV];rfl,(hQ _).2 ⟨pd,by rw[hV,jc];exact he.from oY,fun _ e=>?_⟩⟩
  rw[hV] at e ⊢;rw[kR e];exact err _
 rw[if_neg h4] at hV
 have n4:(c.op=4)=False:=eq_false h4
 by_cases h5:c.op=5
 ·rw[if_pos h5] at hV
  have e5:(c.op=5)=True:=eq_true h5
  simp+decide only[st,xv,ee,iP,lG,lF,mq,nn,oK,pX,Ni,cY,n2,n3,e5,n1,n2,n3,n4]
  obtain⟨h1,hc,he⟩:=ahX ok XY (tl:=aK) k
  rw[gB] at hc he
  refine au hc ?_
  simp+decide only[st,xv,ee,Ni,lq]
  exact⟨by rw[hV];rfl,(hQ _).2 ⟨_,by rw[hV,jc];exact he.from oY,fun _ e=>by rw[hV];exact Ah⟩⟩
 rw[if_neg h5] at hV
 have n5:(c.op=5)=False:=eq_false h5
 by_cases h6:c.op=6
 ·rw[if_pos h6] at hV
  have e6:(c.op=6)=True:=eq_true h6
  simp+decide only[st,xv,ee,iP,lG,lF,mq,nn,oK,pX,rq,Nh,cY,n2,n3,e6,n1,n2,n3,n4,n5]
  obtain⟨h1,hc,he⟩:=ah1 ok XY (tl:=aK) k (by omega) hM (ez h6)
  rw[gB] at hc he
  refine au hc ?_
  simp+decide only[st,xv,ee,Nh,lq]
  exact⟨by rw[hV];rfl,(hQ _).2 ⟨_,by rw[hV,jc];exact he.from oY,fun _ e=>by rw[hV];exact Ah⟩⟩
 rw[if_neg h6] at hV
 have n6:(c.op=6)=False:=eq_false h6
 by_cases h7:c.op=7
 ·rw[if_pos h7] at hV
  have e7:(c.op=7)=True:=eq_true h7
  simp+decide only[st,xv,ee,iP,lG,lF,mq,nn,oK,pX,rq,sU,Ng,cY,n2,n3,e7,n1,n2,n3,n4,n5,n6]
  obtain⟨h1,hc,he⟩:=ah0 ok XY (tl:=aK) k
  rw[gB] at hc he
  refine au hc ?_
  simp+decide only[st,xv,ee,Ng,lq]
  exact⟨by rw[hV];rfl,(hQ _).2 ⟨_,by rw[hV];exact he.from oY,fun _ e=>by rw[hV];exact Ah⟩⟩
 rw[if_neg h7] at hV
 have n7:(c.op=7)=False:=eq_false h7
 by_cases h8:c.op=8
 ·rw[if_pos h8] at hV
  have e8:(c.op=8)=True:=eq_true h8
  simp+decide only[st,xv,ee,iP,lG,lF,mq,nn,oK,pX,rq,sU,uD,Nf,cY,n2,n3,e8,n1,n2,n3,n4,n5,n6,n7]
  obtain⟨h1,hc,he⟩:=aiu ok XY (tl:=aK) k (by omega) hM
  rw[gB] at hc he
  refine au hc ?_
  simp+decide only[st,xv,ee,Nf,lq]
  exact⟨by rw[hV];rfl,(hQ _).2 ⟨_,by rw[hV,jc];exact he.from oY,fun _ e=>by rw[hV];exact Ah⟩⟩
 rw[if_neg h8] at hV
 have n8:(c.op=8)=False:=eq_false h8
 by_cases h9:c.op=9
 ·rw[if_pos h9] at hV
  have e9:(c.op=9)=True:=eq_true h9
  simp+decide only[st,xv,ee,iP,lG,lF,mq,nn,oK,pX,rq,sU,uD,wJ,Nd,cY,n2,n3,e9,n1,n2,n3,n4,n5,n6,n7,n8]
  obtain⟨h1,pd,hc,he,kR⟩:=aiv ok XY (tl:=aK) k (by omega) hM
  rw[gB] at hc he kR
  refine au hc ?_
  simp+decide only[st,xv,ee,Nd,lq,xr]
  refine⟨by rw[hV];rfl,(hQ _).2 ⟨pd,by rw[hV];exact he.from oY,fun e0 e=>?_⟩⟩
  rw[hV] at e0 e ⊢;rw[kR e0 e];exact err _
 rw[if_neg h9] at hV
 have n9:(c.op=9)=False:=eq_false h9
 by_cases AT:c.op=10
 ·rw[if_pos AT] at hV
  have Fy:(c.op=10)=True:=eq_true AT
  simp+decide only[st,xv,ee,iP,lG,lF,mq,nn,oK,pX,rq,sU,uD,wJ,zf,Nc,cY,n2,n3,Fy,n1,n2,n3,n4,n5,n6,n7,n8,n9]
  obtain⟨h1,pd,hc,he,kR⟩:=aiy ok XY (tl:=aK) (done:=done) k
  rw[gB] at hc he kR
  refine au hc ?_
  simp+decide only[st,xv,ee,Nc,lq,xr]
  refine⟨by rw[hV];rfl,(hQ _).2 ⟨pd,by rw[hV];exact he.from oY,fun e0 e=>?_⟩⟩
  rw[hV] at e0 e ⊢;rw[kR e0 e];exact Vx _
 rw[if_neg AT] at hV
 have J2:(c.op=10)=False:=eq_false AT
 by_cases KJ:c.op=11
 ·rw[if_pos KJ] at hV
  have e11:(c.op=11)=True:=eq_true KJ
  simp+decide only[st,xv,ee,iP,lG,lF,mq,nn,oK,pX,rq,sU,uD,wJ,zf,Ci,Nb,cY,n2,n3,e11,n1,n2,n3,n4,n5,n6,n7,n8,n9,J2]
  obtain⟨h1,pd,hc,he,kR⟩:=ait ok XY (tl:=aK) k hr
  rw[gB] at hc kR
  refine au hc ?_
  simp+decide only[st,xv,ee,Nb,lq]
  refine⟨by rw[hV];rfl,(hQ _).2 ⟨pd,by rw[hV,jc];exact he.from oY,fun _ e=>?_⟩⟩
  rw[hV] at e ⊢;rw[kR e]
 rw[if_neg KJ] at hV
 have UC:(c.op=11)=False:=eq_false KJ
 by_cases ez:c.op=12
 ·rw[if_pos ez] at hV
  have e12:(c.op=12)=True:=eq_true ez
  simp+decide only[st,xv,ee,iP,lG,lF,mq,nn,oK,pX,rq,sU,uD,wJ,zf,Ci,Ha,cY,n2,n3,e12,n1,n2,n3,n4,n5,n6,n7,n8,n9,J2,UC]
  obtain⟨rt,hx⟩:=XY.x
  have cx:=av hx
  obtain⟨ct,hle,cE⟩:=XY.th
  rw[gB] at cE
  have lx:=XY.lx
  have l2:=XY.k.l2
  have i9:t*12+2<=(aZ aU ai).flatten.length:=by omega
  have gC:=X.ak
  rw[gB] at gC
  have ht4:=X.tv.len
  have Va:=X.ht
  have Ul:IntKind.wrap .u64 (t:Int)=t:=fk (by omega)
  refine qT 14 23 rfl (by omega) rfl ?_
  simp+decide only[st,xv,ee,aan,cx,ct,lx,l2,i9,cE]
  refine hP (F5 ok (b:=[]) (t:= .full) (l:=x.ak) (t':= .ao) gC (by simp)) (cO (Nat.le_refl _)) ?_
  simp+decide only[st,xv,cx,lx,Ul,xr]
  refine⟨(jw lx).2 (cO (Nat.le_refl _)),(jw lx).2 (cO (Nat.le_refl _)),?_⟩
  have XC:=(XY.old ((Old.refl Y).clean (n:=23))).rI (bY:={rp with ret:=t,data:=b9 x.ak}) (tl:= .ao)
  simp+decide only[st,xv,ee,lq]
  exact⟨by rw[hV];rfl,(hQ _).2 ⟨{rp with ret:=t,data:=b9 x.ak},by rw[hV,jc];exact⟨lb,N,M,XC,(XF.old (oY.trans (Old.refl Y).clean)).rH, .inl rfl,by omega,by omega⟩,fun _ _=>by rw[hV]⟩⟩
 rw[if_neg ez] at hV
 have n12:(c.op=12)=False:=eq_false ez
 by_cases KG:c.op=13
 ·rw[if_pos KG] at hV
  have e13:(c.op=13)=True:=eq_true KG
  simp+decide only[st,xv,ee,iP,lG,lF,mq,nn,oK,pX,rq,sU,uD,wJ,zf,Ci,Ha,Na,lq,cY,n2,n3,e13,n1,n2,n3,n4,n5,n6,n7,n8,n9,J2,UC,n12]
  exact⟨by rw[hV];rfl,(hQ _).2 ⟨rp,by rw[hV,jc];exact X.fin oY,fun _ _=>by rw[hV];exact Ah⟩⟩
 rw[if_neg KG] at hV
 have n13:(c.op=13)=False:=eq_false KG
 simp+decide only[st,xv,ee,iP,lG,lF,mq,nn,oK,pX,rq,sU,uD,wJ,zf,Ci,Ha,Na,aam,lq,cY,n1,n2,n3,n4,n5,n6,n7,n8,n9,J2,UC,n12,n13]
 exact⟨by rw[hV];rfl,(hQ _).2 ⟨rp,by rw[hV,jc];exact X.fin oY,fun _ e=>by rw[hV] at e;cases e⟩⟩
end
section
open Go
variable {P:Program} {h:aa} {a:KA} {lb N M:Nat} {ai:List Th} {ah:List Ob} {g:Nat->Option (List UInt8)} {xb t:Nat} {rp:Rp}
def rB (x:Th):Th:={x with dw:=0,id:=0,to:=0,done:=0,n:=0}
def Rp.c (r:Rp) (t:aH):List AV:=[.int .i64 r.Ms, .int .i64 r.err, .int .u64 r.ret, .vs (BS r.data) t]
def nD:Rp:=⟨0,0,0,[]⟩
structure Cr where
 r:Rp
 is:Bool
 ai:List Th
 ah:List Ob
 deriving DecidableEq
def told (t:Nat) (D:Dr) (ai:List Th):Cr:=⟨if D.is=false then nD else if D.err≠0 then⟨t,D.err,0,[]⟩ else⟨t,0,D.ret,D.data⟩,D.is,ai.set t D.th,D.ah⟩
def mc (t:Nat) (ai:List Th) (x:Th) (ah:List Ob) (c:Cl) (done:Int):Cr:=told t (kK t (rB x) ah c done) ai
def jv (h:aa) (a:KA) (lb N M:Nat) (ai:List Th) (ah:List Ob) (h':aa):Prop:= ∃aR N' M',KH h' a aR N' M' ai ah (eB ah)/\KF h h' a lb/\(aR=lb\/h.next<=aR)/\N'<=N+2/\M'<=M+1/\TV ai/\ ∃r,bh ah 1=some r
def Cr.v (r:Cr):AV:= .ay [.agg (r.r.c .ao), .bool r.is]
theorem K8 (ok:ax P tb) (K:KH h a lb N M ai ah (eB ah)) (tv:TV ai) (root: ∃r,bh ah 1=some r) (ht:t<ai.length) {c:Cl} {tl:Nat->aH} {done:Int} (k:fJ c) (gl:c.op=3->Tree ah/\d8 c.ak=true/\jY c.bX=true) (hN:N+1<2^19) (hM:M<128) (ez:c.op=6->ah.length<=12) (ho:0<=ai[t].own):
 ∃h',an P 24 [.ptr a.kb 0, .int .i64 t, .agg (c.c tl), .int .i64 done] h (mc t ai ai[t] ah c done).v h'/\jv h a lb N M (mc t ai ai[t] ah c done).ai (mc t ai ai[t] ah c done).ah h':=by
 obtain⟨V,hV⟩: ∃V,V=mc t ai ai[t] ah c done:=⟨_,rfl⟩
 rw[<-hV]
 obtain⟨Q,hQ⟩: ∃Q:aa->Prop,∀h',Q h'↔jv h a lb N M V.ai V.ah h':=⟨_,fun _=>Iff.rfl⟩
 obtain⟨Q2,mK⟩: ∃Q2:AV->aa->Prop,∀v h',Q2 v h'↔(v.strip=V.v/\Q h'):=⟨_,fun _ _=>Iff.rfl⟩
 suffices hu: ∃v h',an P 24 [.ptr a.kb 0, .int .i64 t, .agg (c.c aK), .int .i64 done] h v h'/\Q2 v h' by
  obtain⟨v,h',c1,vI⟩:=hu
  obtain⟨hv,hq⟩:=(mK _ _).1 vI
  refine⟨h',an.ao ?_,(hQ h').1 hq⟩
  simp only[AV.bG,AV.strip,yR]
  rw[<-hv]
  exact c1.strip
 unfold mc at hV
 refine ok.sT (rf:=pI) rfl (Nat.le_of_ble_eq_true rfl) ?_
 have bw:=K.bw
 simp+decide only[st,xv,pI,agb,fc]
 generalize hX:aa.at _ _ _=X
 have xo:Old h X:=by rw[<-hX];exact((Old.refl h).at (Nat.le_refl _)).at (by omega)
 have x0:cellsOf X h.next=some (c.c aK):=by rw[<-hX];exact av (by simp[aa.at];rfl)
 have x1:cellsOf X (h.next+1)=some (nD.c .full):=by rw[<-hX];exact av (by simp[aa.at];rfl)
 have xn:X.next=h.next+2:=by rw[<-hX];simp[aa.at]
 have pM:=K.old xo
 have ck:=av pM.top
 have aD:(t:Int)<(ai.length:Int):=by omega
 simp+decide only[st,xv,pI,aga,ck,aD]
 generalize hY:aa.at _ _ _=Y
 have oY:Old X Y:=by rw[<-hY];exact(Old.refl X).at (Nat.le_refl _)
 have y2:Y.get X.next=some (.cells [.ptr a.kb 0, .ptr a.tb (t*12), .int .i64 t, .int .i64 t, .int .i64 0, .int .u64 0, .vs [] .full]):=by rw[<-hY];simp[aa.at]
 have yn:Y.next=h.next+3:=by rw[<-hY];simp[aa.at,xn]
 have y0:cellsOf Y h.next=_:=(show cellsOf Y h.next=cellsOf X h.next by unfold cellsOf;rw[oY.get _ (by omega)]).trans x0
 have y1:cellsOf Y (h.next+1)=_:=(show cellsOf Y (h.next+1)=cellsOf X (h.next+1) by unfold cellsOf;rw[oY.get _ (by omega)]).trans x1
 have hold:=xo.trans oY
 have XY:KX Y X.next a lb N M t ai ah ⟨t,0,0,[]⟩:=⟨pM.old oY,⟨.full,y2⟩,by omega,fun e=>by have:=bw _ (.inl e);omega,fun e=>by have:=bw _ (.inr (.inl e));omega,fun e=>by have:=bw _ (.inr (.inr e));omega,ht,tv,root⟩
 have cy:=av y2
 obtain⟨ct,hle,_⟩:=XY.Ea
 have l2:=K.l2
 have kP: ∀{x x':Th} {j:Nat} {v:AV},(j+1<=12)->List.take j (x.c aU)++[v]++List.drop (j+1) (x.c aU)=x'.c aU->List.take (t*12+j) (aZ aU (ai.set t x)).flatten++[v]++List.drop (t*12+j+1) (aZ aU (ai.set t x)).flatten=(aZ aU (ai.set t x')).flatten/\t*12+j+1<=(aZ aU (ai.set t x)).flatten.length:=by
  intro x x' j v hj nJ
  have:=wx (l:=ai.set t x) (t:=t) (by simpa using ht) (j:=j) (v:=[v]) (x':=x') hj (by simpa using nJ)
  rw[List.set_set] at this
  refine⟨this,?_⟩
  rw[ji ma,jh,List.length_set];omega
 have e0:ai.set t ai[t]=ai:=sJ ht
 have s1:=kP (x:=ai[t]) (x':={ai[t] with dw:=0}) (j:=6) (v:= .int .i64 0) (by omega) (by simp[iG])
 rw[e0] at s1
 have s2:=kP (x:={ai[t] with dw:=0}) (x':={ai[t] with dw:=0,id:=0}) (j:=7) (v:= .int .u64 0) (by omega) (by simp[iG])
 have s3:=kP (x:={ai[t] with dw:=0,id:=0}) (x':={ai[t] with dw:=0,id:=0,to:=0}) (j:=8) (v:= .int .u64 0) (by omega) (by simp[iG])
 have s4:=kP (x:={ai[t] with dw:=0,id:=0,to:=0}) (x':={ai[t] with dw:=0,id:=0,to:=0,done:=0}) (j:=9) (v:= .int .i64 0) (by omega) (by simp[iG])
 have s5:=kP (x:={ai[t] with dw:=0,id:=0,to:=0,done:=0}) (x':={ai[t] with dw:=0,id:=0,to:=0,done:=0,n:=0}) (j:=10) (v:= .int .i64 0) (by omega) (by simp[iG])
 simp+decide only[st,xv,pI,af9,af8,cy,ct,s1,s2,s3,s4,s5,@set_set]
 generalize hρ:put _ _ _=ρ1
 have r0:ρ1 1= .int .i64 t:=by rw[<-hρ];rfl
 have r3:ρ1 3= .int .i64 done:=by rw[<-hρ];rfl
 have r6:ρ1 6= .ptr h.next 0:=by rw[<-hρ];rfl
 have r8:ρ1 8= .ptr (h.next+1) 0:=by rw[<-hρ];rfl
 have gq:ρ1 10= .ptr X.next 0:=by rw[<-hρ];rfl
 clear hρ
 obtain⟨W,hW⟩: ∃W,W=Y.set a.tb (some (.cells (aZ aU (ai.set t (rB ai[t]))).flatten)):=⟨_,rfl⟩
 have kV:=hW
 unfold rB at kV
 rw[<-kV]
 have XW:KX W X.next a lb N M t (ai.set t (rB ai[t])) ah ⟨t,0,0,[]⟩:=by
  have sh:=tv.ak _ (List.getElem_mem ht)
  rw[hW];exact XY.mu (x:=rB ai[t]) sh
 have xfW:XF h W a lb X.next:=by rw[hW];exact(XF.old hold).mu
 have ntb: ∀b,h.next<=b->b≠a.tb:=fun b hb=>by omega
 have w0:cellsOf W h.next=_:=(show cellsOf W h.next=cellsOf Y h.next by rw[hW];unfold cellsOf;simp only[aa.set];rw[if_neg (by omega)]).trans y0
 have w1:cellsOf W (h.next+1)=_:=(show cellsOf W (h.next+1)=cellsOf Y (h.next+1) by rw[hW];unfold cellsOf;simp only[aa.set];rw[if_neg (by omega)]).trans y1
 have nW:W.next=h.next+3:=by rw[hW];exact yn
 clear hW kV
 simp only[fc] at w0
 have hx:(ai.set t (rB ai[t]))[t]'XW.ht=rB ai[t]:=by simp
 obtain⟨h1,hc,hD⟩:=aiA ok XW (tl:=aK) (done:=done) k gl hN hM ez (by rw[hx];exact ho) rfl rfl
 rw[hx] at hc hD
 generalize hDD:kK t (rB ai[t]) ah c done=D at*
 obtain⟨pd,⟨gA,N1,M1,X1,vA,ej,hN1,hM1⟩,kR⟩:=hD
 rw[List.set_set] at X1
 simp+decide only[st,xv,pI,Sv,r0,r3,r6,r8,gq,w0]
 refine au hc ?_
 simp+decide only[st,xv,pI,Sv,xr]
 have ltw:=XW.k.bw
 have vg: ∀b,h.next<=b-> ¬FK a b/\ ¬FA a lb b/\ ¬FS a b:=fun b hb=>⟨fun e=>by have:=bw _ (.inl e);omega,fun e=>by have:=bw _ (.inr (.inl e));omega,fun e=>by have:=bw _ (.inr (.inr e));omega⟩
 have z1:cellsOf h1 (h.next+1)=_:=(show cellsOf h1 (h.next+1)=cellsOf W (h.next+1) by
  unfold cellsOf
  rw[vA.2 _ (by omega) (vg _ (by omega)).1 (vg _ (by omega)).2.1 (vg _ (by omega)).2.2 (by omega)]).trans w1
 have nh1:=vA.1
 have l1x:=X1.lx
 obtain⟨rt,pj⟩:=X1.x
 have A3:=av pj
 have aM: ¬X.next=h.next+1:=by omega
 have JJ:gA=lb\/h.next<=gA:=by
  rcases ej with e|e
  ·exact .inl e
  ·exact .inr (by omega)
 have hq: ∀(b:Option cI),V.ai=ai.set t D.th->V.ah=D.ah->Q (h1.set (h.next+1) b):=by
  intro b e1 e2
  refine(hQ _).2 ?_
  rw[e1,e2]
  have hz: ∀b',b'≠h.next+1->(h1.set (h.next+1) b).get b'=h1.get b':=fun b' bE=>by simp only[aa.set];rw[if_neg bE]
  have UF:=X1.k.bw
  refine⟨gA,N1,M1,X1.k.bN (h':=h1.set (h.next+1) b) (Nat.le_refl _) (fun b' bE hf=>hz b' ?_) (Nat.le_refl _) (Nat.le_refl _),⟨by show h.next<=h1.next;omega,fun b' bE f1 f2 f3=>?_⟩,JJ,hN1,hM1,X1.tv,X1.root⟩
  ·intro e
   subst e
   rcases hf with f|f|f
   ·exact(vg _ (by omega)).1 f
   ·rcases ej with e|e
    ·rw[e] at f;exact(vg _ (by omega)).2.1 f
    ·rcases f with f|f|f
     ·exact(vg _ (by omega)).2.1 (.inl f)
     ·exact(vg _ (by omega)).2.1 (.inr (.inl f))
     ·omega
   ·exact(vg _ (by omega)).2.2 f
  ·rw[hz b' (by omega),vA.2 b' (by omega) f1 f2 f3 (by omega),xfW.2 b' bE f1 f2 f3 (by omega)]
 simp only[Rp.c] at z1
 unfold told at hV
 cases nO:D.is with
 |false=>
  simp+decide only[st,xv,pI,Jj,af7,r8,z1,nO,xr,ot]
  rw[nO] at hV
  exact(mK _ _).2 ⟨by rw[hV];rfl,hq _ (by rw[hV]) (by rw[hV])⟩
 |true=>
  by_cases he:D.err=0
  ·have dI:((D.err:Int)=0)=True:=eq_true (by omega)
   simp+decide only[st,xv,pI,Jj,Su,af5,r8,gq,z1,A3,nO,dI,xr,ot]
   have e1:=kR nO he
   rw[nO,he] at hV
   refine(mK _ _).2 ⟨?_,hq _ (by rw[hV]) (by rw[hV])⟩
   rw[hV,e1]
   simp only[AV.strip,AV.bG,jQ]
   rfl
  ·have dI:((D.err:Int)=0)=False:=eq_false (by omega)
   simp+decide only[st,xv,pI,Jj,Su,af6,r0,r8,z1,nO,dI,xr,ot]
   rw[nO,if_neg (by decide),if_pos he] at hV
   exact(mK _ _).2 ⟨by rw[hV];rfl,hq _ (by rw[hV]) (by rw[hV])⟩
end
section
open Go
variable {P:Program} {h:aa} {a:KA} {lb N M:Nat} {ai:List Th} {ah:List Ob} {g:Nat->Option (List UInt8)} {xb:Nat} {rp:Rp}
def eD (t:Int) (ai:List Th) (ah:List Ob) (c:Cl):Cr:=if qn ai t=false then⟨nD,false,ai,ah⟩ else if oM ai t then⟨nD,false,ai,ah⟩ else match ai[t.toNat]? with
 |some x=>mc t.toNat ai x ah c 0
 |none=>⟨nD,false,ai,ah⟩
def od:Cl:=⟨0,0,0,0,0,0,⟨0,[]⟩,qk,[],[]⟩
def lQ (t:Int) (ai:List Th) (ah:List Ob):Cr:=if oM ai t=false then⟨nD,false,ai,ah⟩ else match ai[t.toNat]? with
 |some x=>if x.dw=1 then mc t.toNat ai x ah {od with op:=9,id:=x.id} 0 else mc t.toNat ai x ah {od with op:=10,id:=x.id,to:=x.to,n:=x.n} x.done
 |none=>⟨nD,false,ai,ah⟩
structure nz (ai:List Th) (ah:List Ob):Prop where
 tv:TV ai
 root: ∃r,bh ah 1=some r
 tree:Tree ah
 own: ∀x∈ai,0<=x.own/\x.id<2^64/\x.to<2^64
theorem jv.same (K:KH h a lb N M ai ah (eB ah)) (I:nz ai ah) {h':aa} (o:Old h h'):jv h a lb N M ai ah h':=⟨lb,N,M,K.old o, .old o, .inl rfl,by omega,by omega,I.tv,I.root⟩
theorem jv.from {Y h':aa} (o:Old h Y) (e:jv Y a lb N M ai ah h'):jv h a lb N M ai ah h':=by
 obtain⟨aR,N',M',K,kf,hl,hN,hM,tv,rt⟩:=e
 refine⟨aR,N',M',K,(KF.old (lb:=lb) o).trans kf (.inl rfl),?_,hN,hM,tv,rt⟩
 rcases hl with e|e
 ·exact .inl e
 ·exact .inr (Nat.le_trans o.next e)
theorem jv.get {Y h1:aa} (e:jv Y a lb N M ai ah h1) (bw: ∀b,FK a b\/FA a lb b\/FS a b->b<h.next) {i:Nat} (hi:h.next<=i) (AL:i<Y.next):h1.get i=Y.get i:=by
 obtain⟨gA,N1,M1,K,kf,hl,hN,hM,tv,rt⟩:=e
 exact kf.2 i AL (fun e=>by have:=bw _ (.inl e);omega) (fun e=>by have:=bw _ (.inr (.inl e));omega) (fun e=>by have:=bw _ (.inr (.inr e));omega)
theorem jv.xw {Y h1:aa} (o:Old h Y) (e:jv Y a lb N M ai ah h1) (bw: ∀b,FK a b\/FA a lb b\/FS a b->b<h.next) {i:Nat} (hi:h.next<=i) (AL:i<Y.next) (b:Option cI):jv h a lb N M ai ah (h1.set i b):=by
 obtain⟨gA,N1,M1,K,kf,hl,hN,hM,tv,rt⟩:=e
 have hz: ∀b',b'≠i->(h1.set i b).get b'=h1.get b':=fun b' bE=>by simp only[aa.set];rw[if_neg bE]
 have on:=o.next
 refine⟨gA,N1,M1,K.bN (h':=h1.set i b) (Nat.le_refl _) (fun b' bE hf=>hz b' ?_) (Nat.le_refl _) (Nat.le_refl _),⟨by have:=kf.1;show h.next<=h1.next;omega,fun b' bE f1 f2 f3=>?_⟩,?_,hN,hM,tv,rt⟩
 ·intro e
  subst e
  rcases hf with f|f|f
  ·have:=bw _ (.inl f);omega
  ·rcases hl with e|e
   ·rw[e] at f;have:=bw _ (.inr (.inl f));omega
   ·rcases f with f|f|f
    ·have:=bw _ (.inr (.inl (.inl f)));omega
    ·have:=bw _ (.inr (.inl (.inr (.inl f))));omega
    ·omega
  ·have:=bw _ (.inr (.inr f));omega
 ·rw[hz b' (by omega),kf.2 b' (by omega) f1 f2 f3,o.get b' bE]
 ·rcases hl with e|e
  ·exact .inl e
  ·exact .inr (by omega)
theorem akq (ok:ax P tb) (K:KH h a lb N M ai ah (eB ah)) (I:nz ai ah) {t:Int} {c:Cl} {tl:Nat->aH} (k:fJ c) (gl:c.op=3->d8 c.ak=true/\jY c.bX=true) (hN:N+1<2^19) (hM:M<128) (ez:c.op=6->ah.length<=12):
 ∃h',an P 14 [.ptr a.kb 0, .int .i64 t, .agg (c.c tl)] h (eD t ai ah c).v h'/\jv h a lb N M (eD t ai ah c).ai (eD t ai ah c).ah h':=by
 obtain⟨V,hV⟩: ∃V,V=eD t ai ah c:=⟨_,rfl⟩
 rw[<-hV]
 obtain⟨Q,hQ⟩: ∃Q:aa->Prop,∀h',Q h'↔jv h a lb N M V.ai V.ah h':=⟨_,fun _=>Iff.rfl⟩
 obtain⟨Q2,mK⟩: ∃Q2:AV->aa->Prop,∀v h',Q2 v h'↔(v.strip=V.v/\Q h'):=⟨_,fun _ _=>Iff.rfl⟩
 suffices hu: ∃v h',an P 14 [.ptr a.kb 0, .int .i64 t, .agg (c.c aK)] h v h'/\Q2 v h' by
  obtain⟨v,h',c1,vI⟩:=hu
  obtain⟨hv,hq⟩:=(mK _ _).1 vI
  refine⟨h',an.ao ?_,(hQ h').1 hq⟩
  simp only[AV.bG,AV.strip,yR]
  rw[<-hv]
  exact c1.strip
 unfold eD at hV
 refine ok.sT (rf:=qN) rfl (Nat.le_of_ble_eq_true rfl) ?_
 have bw:=K.bw
 simp+decide only[st,xv,qN,agJ,fc]
 generalize hX:aa.at _ _ _=X
 have xo:Old h X:=by rw[<-hX];exact((Old.refl h).at (Nat.le_refl _)).at (by omega)
 have x0:cellsOf X h.next=some (c.c aK):=by rw[<-hX];exact av (by simp[aa.at];rfl)
 have x1:cellsOf X (h.next+1)=some (nD.c .full):=by rw[<-hX];exact av (by simp[aa.at];rfl)
 have xn:X.next=h.next+2:=by rw[<-hX];simp[aa.at]
 have pM:=K.old xo
 simp only[fc] at x0
 simp only[Rp.c] at x1
 have no:V=⟨nD,false,ai,ah⟩-> ∀b,Q (X.set (h.next+1) b):=fun e b=>(hQ _).2 (by
  rw[e]
  exact(jv.same pM I (Old.refl X)).xw xo bw (by omega) (by omega) b)
 simp+decide only[st,xv,qN,z8]
 refine au (Xt ok pM) ?_
 cases nO:qn ai t with
 |false=>
  rw[if_pos nO] at hV
  simp+decide only[st,xv,qN,z8,SZ,x1,xr,ot]
  exact(mK _ _).2 ⟨by rw[hV];rfl,no hV _⟩
 |true=>
  rw[if_neg (by simp[nO])] at hV
  simp+decide only[st,xv,qN,z8]
  refine au (FV ok pM) ?_
  cases hb:oM ai t with
  |true=>
   rw[if_pos hb] at hV
   simp+decide only[st,xv,qN,z8,SZ,x1,xr,ot]
   exact(mK _ _).2 ⟨by rw[hV];rfl,no hV _⟩
  |false=>
   rw[if_neg (by simp[hb])] at hV
   obtain⟨n,rfl,hn⟩:=Mf nO
   rw[Int.toNat_natCast,List.getElem?_eq_getElem hn] at hV
   simp only at hV
   have i7:=I.own _ (List.getElem_mem hn)
   obtain⟨h1,hc,hE⟩:=K8 ok pM I.tv I.root hn (tl:=aK) (done:=0) k (fun e=>⟨I.tree,gl e⟩) hN hM ez i7.1
   rw[<-hV] at hc hE
   have z1:cellsOf h1 (h.next+1)=_:=(show cellsOf h1 (h.next+1)=cellsOf X (h.next+1) by unfold cellsOf;rw[hE.get bw (by omega) (by omega)]).trans x1
   simp+decide only[st,xv,qN,z8,SY,x0,xr]
   refine au hc ?_
   simp+decide only[st,xv,qN,SY,z1,Cr.v,Rp.c,xr,ot]
   exact(mK _ _).2 ⟨by simp only[AV.strip,AV.bG,jQ];rfl,(hQ _).2 (hE.xw xo bw (by omega) (by omega) _)⟩
end
section
open Go
variable {P:Program} {h:aa} {a:KA} {lb N M:Nat} {ai:List Th} {ah:List Ob} {g:Nat->Option (List UInt8)} {xb:Nat} {rp:Rp}
theorem akn (ok:ax P tb) (K:KH h a lb N M ai ah (eB ah)) (I:nz ai ah) {t:Int} (hN:N+1<2^19) (hM:M<128):
 ∃h',an P 17 [.ptr a.kb 0, .int .i64 t] h (lQ t ai ah).v h'/\jv h a lb N M (lQ t ai ah).ai (lQ t ai ah).ah h':=by
 obtain⟨V,hV⟩: ∃V,V=lQ t ai ah:=⟨_,rfl⟩
 rw[<-hV]
 obtain⟨Q,hQ⟩: ∃Q:aa->Prop,∀h',Q h'↔jv h a lb N M V.ai V.ah h':=⟨_,fun _=>Iff.rfl⟩
 obtain⟨Q2,mK⟩: ∃Q2:AV->aa->Prop,∀v h',Q2 v h'↔(v.strip=V.v/\Q h'):=⟨_,fun _ _=>Iff.rfl⟩
 suffices hu: ∃v h',an P 17 [.ptr a.kb 0, .int .i64 t] h v h'/\Q2 v h' by
  obtain⟨v,h',c1,vI⟩:=hu
  obtain⟨hv,hq⟩:=(mK _ _).1 vI
  refine⟨h',?_,(hQ h').1 hq⟩
  rw[<-hv]
  exact c1.strip
 unfold lQ at hV
 refine ok.sT (rf:=pJ) rfl (Nat.le_of_ble_eq_true rfl) ?_
 have bw:=K.bw
 simp+decide only[st,xv,pJ,agC]
 generalize hX:aa.at _ _ _=X
 have xo:Old h X:=by rw[<-hX];exact(Old.refl h).at (Nat.le_refl _)
 have x1:cellsOf X h.next=some (nD.c .full):=by rw[<-hX];exact av (by simp[aa.at];rfl)
 have xn:X.next=h.next+1:=by rw[<-hX];simp[aa.at]
 have pM:=K.old xo
 simp only[Rp.c] at x1
 have no:V=⟨nD,false,ai,ah⟩-> ∀b,Q (X.set h.next b):=fun e b=>(hQ _).2 (by
  rw[e]
  exact(jv.same pM I (Old.refl X)).xw xo bw (by omega) (by omega) b)
 simp+decide only[st,xv,pJ,Jl]
 refine au (FV ok pM) ?_
 cases hb:oM ai t with
 |false=>
  rw[if_pos hb] at hV
  simp+decide only[st,xv,pJ,Jl,agB,x1,xr,ot]
  exact(mK _ _).2 ⟨by rw[hV];rfl,no hV _⟩
 |true=>
  rw[if_neg (by simp[hb])] at hV
  have nO:qn ai t=true:=by
   unfold oM at hb
   simp only[Bool.and_eq_true] at hb
   exact hb.1
  obtain⟨n,rfl,hn⟩:=Mf nO
  rw[Int.toNat_natCast,List.getElem?_eq_getElem hn] at hV
  simp only at hV
  have i7:=I.own _ (List.getElem_mem hn)
  have ck:=av pM.top
  have ct:=av pM.cu
  have aD:(n:Int)<(ai.length:Int):=by omega
  have hle:(aZ aU ai).flatten.length=ai.length*12:=by rw[ji ma,jh]
  have i9:n*12+12<=(aZ aU ai).flatten.length:=by omega
  have cE:=Gk (rows:=aZ aU ai) (i:=n) (by rw[jh];exact hn) ma
  rw[show(aZ aU ai)[n]'(by rw[jh];exact hn)=ai[n].c aU by simp[aZ]] at cE
  generalize hx:ai[n]=x at*
  simp only[Th.c] at cE
  simp+decide only[st,xv,pJ,Jl,agA,ck,ct,aD,i9,cE,xr]
  generalize hY:aa.set _ _ _=Y
  have oY:Old X Y:=by rw[<-hY];exact((Old.refl X).at (Nat.le_refl _)).set (Nat.le_refl _)
  have cY:cellsOf Y X.next=some (x.c aU):=by rw[<-hY];exact av (by simp[aa.set];try rfl)
  have nY:Y.next=X.next+1:=by rw[<-hY];simp[aa.at,aa.set]
  have hold:=xo.trans oY
  have KY:=K.old hold
  have y1:cellsOf Y h.next=_:=(show cellsOf Y h.next=cellsOf X h.next by unfold cellsOf;rw[oY.get _ (by omega)]).trans x1
  simp only[Th.c] at cY
  by_cases hd:x.dw=1
  ·have nR:(x.dw=1)=True:=eq_true hd
   rw[if_pos hd] at hV
   simp+decide only[st,xv,pJ,SU,SS,cY,nR,xr]
   obtain⟨h1,hc,hE⟩:=K8 ok KY I.tv I.root hn (c:={od with op:=9,id:=x.id}) (tl:=fun _=> .full) (done:=0) ⟨sP,Nat.zero_le _,i7.2.1,(by decide:0<2^64),(by decide:0<2^20),(by decide:0<2^16),fun _ h=>by cases h⟩ (fun e=>by cases e) hN hM (fun e=>by cases e) (by rw[hx];exact i7.1)
   rw[hx,<-hV] at hc hE
   have z1:cellsOf h1 h.next=_:=(show cellsOf h1 h.next=cellsOf Y h.next by unfold cellsOf;rw[hE.get bw (by omega) (by omega)]).trans y1
   refine au hc ?_
   simp+decide only[st,xv,pJ,SS,z1,Cr.v,Rp.c,xr,ot]
   exact(mK _ _).2 ⟨by simp only[AV.strip,AV.bG,jQ];rfl,(hQ _).2 (hE.xw hold bw (by omega) (by omega) _)⟩
  ·have nR:(x.dw=1)=False:=eq_false hd
   rw[if_neg hd] at hV
   simp+decide only[st,xv,pJ,SU,SR,cY,nR,xr]
   obtain⟨h1,hc,hE⟩:=K8 ok KY I.tv I.root hn (c:={od with op:=10,id:=x.id,to:=x.to,n:=x.n}) (tl:=fun _=> .full) (done:=x.done) ⟨sP,Nat.zero_le _,i7.2.1,i7.2.2,(by decide:0<2^20),(by decide:0<2^16),fun _ h=>by cases h⟩ (fun e=>by cases e) hN hM (fun e=>by cases e) (by rw[hx];exact i7.1)
   rw[hx,<-hV] at hc hE
   have z1:cellsOf h1 h.next=_:=(show cellsOf h1 h.next=cellsOf Y h.next by unfold cellsOf;rw[hE.get bw (by omega) (by omega)]).trans y1
   refine au hc ?_
   simp+decide only[st,xv,pJ,SR,z1,Cr.v,Rp.c,xr,ot]
   exact(mK _ _).2 ⟨by simp only[AV.strip,AV.bG,jQ];rfl,(hQ _).2 (hE.xw hold bw (by omega) (by omega) _)⟩
end
end Go.Proofs.YtljapedlkdfafaaGreat.Am
