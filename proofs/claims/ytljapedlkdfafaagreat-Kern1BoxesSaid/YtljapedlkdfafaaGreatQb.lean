/- What the functions do. Conditions: none. -/
import Derived.Test.YtljapedlkdfafaaGreatQa
set_option maxRecDepth 100000
set_option maxHeartbeats 8000000
set_option linter.unusedSimpArgs false
set_option linter.unusedVariables false
set_option linter.unnecessarySimpa false
namespace Go.Proofs.YtljapedlkdfafaaGreat.Am
section
open Go
variable {P:Program} {h:aa} {ab mb lb ch:Nat} {S:List Sl} {es:List (Nat×Nat)}
def hP (S:List Sl):Nat×List Sl:=match wE S with
 |some i=>(i,S)
 |none=>(S.length,S++[⟨none,0⟩])
theorem att (ok:ax P tb) (A:ez h ab mb lb ch S es) (hs:S.length<2^19): ∃h',an P 54 [.ptr ab 0] h (.int .i64 (hP S).1) h'/\ ∃aT,ez h' ab mb aT ch (hP S).2 es/\h.next<=h'.next/\(aT=lb\/h.next<=aT)/\ ∀b,b<h.next->b≠ab->b≠lb->h'.get b=h.get b:=by
 refine ok.dI (rf:=vK) rfl (Nat.le_of_ble_eq_true rfl) ?_
 obtain⟨lv,t1,q1,q2,lO⟩:=A.lO
 have hc:=av t1
 simp+decide only[st,xv,vK,aeJ,Dy,hc]
 refine au (aoN ok (lO h rfl) (q:=fun s=>!s.r.isSome) (by omega) (ok.cf _ rfl) (fun p _=>asG ok)) ?_
 rw[ako]
 unfold hP
 cases hq:wE S with
 |some i=>
  have hi: ¬((i:Int)<0):=by omega
  simp+decide only[st,xv,vK,Dy,I5,I4,jP]
  exact⟨lb,A, .inl rfl⟩
 |none=>
  obtain⟨lv',iQ,t2⟩:=A.top
  rw[t1] at iQ
  injection iQ with iQ;injection iQ with iQ;injection iQ with _ iQ;injection iQ with iQ _
  subst iQ
  have l1:=A.l1
  have l2:=A.l2
  have n1:=A.n1
  have tm:=A.map
  rcases t2 with⟨rfl,rfl⟩|⟨e0,rfl,e2,e3,e4,e5⟩
  ·have ha:fJ 48 4 h.next h (.vs [] .full) (some [[.int .u64 0, .vs [] .full, .bool false, .int .i64 0]])=some (.rs h.next 0 1 4,h.at h.next (.cells [.int .u64 0, .vs [] .full, .bool false, .int .i64 0])):=rfl
   have q2: ¬(ab=h.next):=by omega
   simp+decide only[st,xv,vK,Dy,I5,RD,RC,I4,jP,hc,ha,yy,xr,q2]
   refine⟨h.next,⟨⟨.rs h.next 0 1 4,by simp[aa.set,aa.at], .inr ⟨by simp,rfl,?_,?_,by omega,by omega⟩⟩,?_,?_,?_,n1,by simp⟩,?_, .inr (Nat.le_refl _),fun b hb h1 h2=>?_⟩
   all_goals (try simp only[aa.set,aa.at])
   ·rw[if_neg (by omega),if_pos trivial];rfl
   ·omega
   ·rw[if_neg (by omega),if_neg (by omega),tm]
   ·omega
   ·omega
   ·omega
   ·rw[if_neg h1,if_neg (by omega)]
  ·have hlen:(S.map Sl.enc).flatten.length=S.length*4:=by rw[jg pJ,List.length_map]
   have aU:=av e2
   have ha:fJ 48 4 h.next h (.rs lb 0 S.length 4) (some [[.int .u64 0, .vs [] .full, .bool false, .int .i64 0]])=some (.rs h.next 0 (S.length+1) 4,(h.set lb none).at h.next (.cells ((S++[(⟨none,0⟩:Sl)]).map Sl.enc).flatten)):=by
    simp only[fJ,aU,Option.bind_some]
    rw[if_neg (by simp),if_pos (by refine⟨trivial,trivial,?_,?_,?_⟩<;>(try simp only[List.length_singleton])<;>omega),List.take_of_length_le (by omega)]
    simp only[List.map_append,List.flatten_append];rfl
   have q2: ¬(ab=h.next):=by omega
   have q3: ¬(ab=lb):=fun e=>e4 e.symm
   simp+decide only[st,xv,vK,Dy,I5,RD,RC,I4,jP,hc,ha,yy,xr,q2,q3]
   refine⟨h.next,⟨⟨.rs h.next 0 (S.length+1) 4,by simp[aa.set,aa.at], .inr ⟨by simp,by simp,?_,?_,by omega,by omega⟩⟩,?_,?_,?_,n1,by simp;omega⟩,?_, .inr (Nat.le_refl _),fun b hb h1 h2=>?_⟩
   all_goals (try simp only[aa.set,aa.at])
   ·rw[if_neg (by omega),if_pos trivial]
   ·omega
   ·rw[if_neg (by omega),if_neg (by omega),if_neg (fun e=>e5 e.symm),tm]
   ·omega
   ·omega
   ·omega
   ·rw[if_neg h1,if_neg (by omega),if_neg h2]
theorem ez.old (A:ez h ab mb lb ch S es) {h':aa} (hn:h.next<=h'.next) (hk: ∀b,b<h.next->h'.get b=h.get b):ez h' ab mb lb ch S es:=by
 refine A.bN hn (hk _ A.l1) (hk _ A.l2) fun hS=>?_
 obtain⟨lv,t1,t2⟩:=A.top
 rcases t2 with⟨e,_⟩|⟨e0,rfl,e2,e3,e4,e5⟩
 ·exact absurd e hS
 ·exact hk _ e3
theorem ez.clean (A:ez h ab mb lb ch S es) {n:Nat}:ez (h.clean n) ab mb lb ch S es:=A.old (by simp[aa.clean]) fun b hb=>by simp only[aa.clean];rw[if_pos hb]
theorem ez.wZ (A:ez h ab mb lb ch S es) (hS:S≠[]):h.get ab=some (.cells [.int .u8 ch, .rs lb 0 S.length 4, .map (some mb)])/\h.get lb=some (.cells (S.map Sl.enc).flatten)/\lb<h.next/\lb≠ab/\lb≠mb:=by
 obtain⟨lv,t1,t2⟩:=A.top
 rcases t2 with⟨e,_⟩|⟨e0,rfl,e2,e3,e4,e5⟩
 ·exact absurd e hS
 ·exact⟨t1,e2,e3,e4,e5⟩
theorem ez.agJ (A:ez h ab mb lb ch S es) (hS:S≠[]) {T:List Sl} (hT:T.length=S.length):ez (h.set lb (some (.cells (T.map Sl.enc).flatten))) ab mb lb ch T es:=by
 obtain⟨t1,e2,e3,e4,e5⟩:=A.wZ hS
 have hT0:T≠[]:=fun e=>hS (List.length_eq_zero_iff.1 (by rw[<-hT,e];rfl))
 refine⟨⟨_,by simp only[aa.set];rw[if_neg (fun e=>e4 e.symm),t1], .inr ⟨hT0,by rw[hT],by simp[aa.set],e3,e4,e5⟩⟩,by simp only[aa.set];rw[if_neg (fun e=>e5 e.symm),A.map],A.l1,A.l2,A.n1,by rw[hT];exact A.small⟩
theorem ez.agK (A:ez h ab mb lb ch S es) {aV:List (Nat×Nat)}:ez (h.set mb (some (.map (kJ aV)))) ab mb lb ch S aV:=by
 obtain⟨lv,t1,t2⟩:=A.top
 refine⟨⟨lv,by simp only[aa.set];rw[if_neg A.n1,t1],?_⟩,by simp[aa.set],A.l1,A.l2,A.n1,A.small⟩
 rcases t2 with t2|⟨e0,e1,e2,e3,e4,e5⟩
 ·exact .inl t2
 ·exact .inr ⟨e0,e1,by simp only[aa.set];rw[if_neg e5,e2],e3,e4,e5⟩
def jf (h h':aa) (ab mb lb:Nat):Prop:=h.next<=h'.next/\ ∀b,b<h.next->b≠ab->b≠mb->b≠lb->h'.get b=h.get b
theorem ats (ok:ax P tb) (A:ez h ab mb lb ch S es) {ρ:Env} {id i:Nat} {rec:List UInt8} {t:aG} {K:aQ->Env->aa->Prop} (hr:rec.length<2^30) (hi:i<S.length) (r0:ρ 0= .ptr ab 0) (r1:ρ 1= .int .u64 id) (r2:ρ 2= .vs (BS rec) t) (r7:ρ 7= .int .i64 i)
 (hK: ∀ρ' h',ρ' 6= .int .i64 0->ez h' ab mb lb ch (S.set i ⟨some (id,rec),IntKind.wrap .i64 (S[i].bL+1)⟩) es->jf h h' ab mb lb->K .ret ρ' h'):
 WP P (.ba Je [[],[],[],[],[],[],[],[3],[],[],[],[7],[],[],[],[7],[],[],[],[]]) (jj (WP P (.seq (.af He) .ret) K) K) ρ h:=by
 have hS:S≠[]:=fun e=>by rw[e] at hi;simp at hi
 obtain⟨t1,e2,e3,e4,e5⟩:=A.wZ hS
 have l1:=A.l1
 have c1:=av t1
 have c2:=av e2
 have aA:(i:Int)<(S.length:Int):=by omega
 have rows:(S.map Sl.enc)[i]? =some S[i].enc:=by rw[List.getElem?_map,List.getElem?_eq_getElem hi];rfl
 have g3:=uj (sz:=4) (j:=3) pJ rows (by omega)
 rw[Sl.trn] at g3
 have hlen:(S.map Sl.enc).flatten.length=S.length*4:=by rw[jg pJ,List.length_map]
 have hle:i*4+4<=S.length*4:=by omega
 have lJ:=Gy (sz:=4) (S.map Sl.enc) pJ i (Sl.enc ⟨some (id,rec),IntKind.wrap .i64 (S[i].bL+1)⟩) (by simpa using hi) rfl
 rw[<-List.map_set] at lJ
 refine qO 16 20 rfl (by omega) rfl ?_
 simp+decide only[st,xv,pA,Je,r0,r1,r2,r7,c1,l1]
 refine gX (y3 ok rfl (l:=rec) (t:=t) (by omega)) (cN (Nat.le_refl _)) ?_
 simp+decide only[st,xv,r0,r1,r2,r7,c1,c2,l1,e3,aA,g3]
 rw[show List.take (i*4) (List.map Sl.enc S).flatten++[AV.int IntKind.u64 ↑id,AV.vs (BS rec) aG.ao,AV.bool true,AV.int IntKind.i64 (IntKind.i64.wrap (S[i].bL+1))]++List.drop (i*4+(1+1+1+1)) (List.map Sl.enc S).flatten=_ from lJ.symm]
 simp+decide only[st,xv,pA,He,hlen,hle]
 refine⟨fun j hj hn=>?_,hK _ _ rfl (A.clean.agJ hS (by simp)) ⟨by simp[aa.set,aa.clean],fun b hb h1 h2 h3=>?_⟩⟩
 ·simp only[aa.set,aa.clean]
  rw[if_neg (by omega)]
  exact if_neg (by omega)
 ·simp only[aa.set,aa.clean]
  rw[if_neg h3]
  exact if_pos hb
theorem jf.refl {h:aa} {ab mb lb:Nat}:jf h h ab mb lb:=⟨Nat.le_refl _,fun _ _ _ _ _=>rfl⟩
theorem jf.trans {h h1 h2:aa} {ab mb lb aT:Nat} (a:jf h h1 ab mb lb) (b:jf h1 h2 ab mb aT) (hl:aT=lb\/h.next<=aT):jf h h2 ab mb lb:=⟨Nat.le_trans a.1 b.1,fun x h1 h2 h3 h4=>by
 have:=a.1
 rw[b.2 x (by omega) h2 h3 (by rcases hl with rfl|hl<;>omega),a.2 x h1 h2 h3 h4]⟩
theorem jf.clean {h:aa} {ab mb lb n:Nat}:jf h (h.clean n) ab mb lb:=⟨by simp[aa.clean],fun b hb _ _ _=>by simp only[aa.clean];exact if_pos hb⟩
theorem BP:(hP S).1<(hP S).2.length/\(hP S).2.length<=S.length+1:=by
 unfold hP
 cases hq:wE S with
 |none=>simp
 |some i=>exact⟨(List.findIdx?_eq_some_iff_getElem.1 hq).1,by simp⟩
def z6 (n:Int):Int:=IntKind.wrap .i64 (n+1)
def lG (S:List Sl) (es:List (Nat×Nat)) (id:Nat) (rec:List UInt8):List Sl×List (Nat×Nat):=match cg es id with
 |some i=>(S.set i ⟨some (id,rec),z6 (S.getD i ⟨none,0⟩).bL⟩,es)
 |none=>((hP S).2.set (hP S).1 ⟨some (id,rec),z6 ((hP S).2.getD (hP S).1 ⟨none,0⟩).bL⟩,es++[(id,(hP S).1)])
theorem au9 (ok:ax P tb) (A:ez h ab mb lb ch S es) {id:Nat} {x:UInt8} {rec:List UInt8} {t:aG} (hv:x.toNat=ch) (hr:rec.length<2^20) (hs:S.length<2^19) (hk: ∀i,cg es id=some i->i<S.length):
 ∃h',an P 35 [.ptr ab 0, .int .u64 id, .vs (BS (x::rec)) t] h (.int .i64 0) h'/\ ∃aT,ez h' ab mb aT ch (lG S es id (x::rec)).1 (lG S es id (x::rec)).2/\(aT=lb\/h.next<=aT)/\jf h h' ab mb lb:=by
 refine ok.dI (rf:=pA) rfl (Nat.le_of_ble_eq_true rfl) ?_
 obtain⟨lv,t1,_⟩:=A.top
 have l1:=A.l1
 have hc:=av t1
 have b0:(BS (x::rec))=[.int .u8 x.toNat]::BS rec:=rfl
 have hvv:((x.toNat:Int)=(ch:Int))=True:=by rw[hv];simp
 simp+decide only[st,xv,pA,afG]
 refine bU 17 rfl rfl ?_
 simp+decide only[st,xv,pA,afF,hc,l1,b0,hvv,xr]
 have A1:=A.clean (n:=17)
 have k1:= @jf.clean h ab mb lb 17
 have bq:cellsOf (h.clean 17) ab=_:=av (by rw[show(h.clean 17).get ab=h.get ab by simp only[aa.clean];exact if_pos l1];exact t1)
 have eo:=GN A1.map (id:=id) (b:=true)
 generalize hX:h.clean 17=X at*
 have hXn:h.next<=X.next:=by rw[<-hX];simp[aa.clean]
 have fin: ∀{aT:Nat} {S1:List Sl} {Vu:List (Nat×Nat)} {H:aa} {ρ:Env} {i:Nat},ez H ab mb aT ch S1 Vu->(aT=lb\/h.next<=aT)->jf h H ab mb lb->(hi:i<S1.length)->ρ 0= .ptr ab 0->ρ 1= .int .u64 id->ρ 2= .vs ([.int .u8 x.toNat]::BS rec) t->ρ 7= .int .i64 i->
  lG S es id (x::rec)=(S1.set i ⟨some (id,x::rec),IntKind.wrap .i64 (S1[i].bL+1)⟩,Vu)->WP P (.ba Je [[],[],[],[],[],[],[],[3],[],[],[],[7],[],[],[],[7],[],[],[],[]]) (jj (WP P (.seq (.af He) .ret) (CZ [.tmp 6] (.int .i64 0) fun h'=> ∃aT,ez h' ab mb aT ch (lG S es id (x::rec)).1 (lG S es id (x::rec)).2/\(aT=lb\/h.next<=aT)/\jf h h' ab mb lb)) (CZ [.tmp 6] (.int .i64 0) fun h'=> ∃aT,ez h' ab mb aT ch (lG S es id (x::rec)).1 (lG S es id (x::rec)).2/\(aT=lb\/h.next<=aT)/\jf h h' ab mb lb)) ρ H:=by
  intro aT S1 Vu H ρ i B1 lV hK hi r0 r1 r2 r7 hs
  refine ats ok B1 (rec:=x::rec) (t:=t) (by simp;omega) hi r0 r1 r2 r7 fun ρ' h' r6 B2 k2=>?_
  rw[hs]
  exact⟨by simp[dQ,yU,r6,fl],aT,B2,lV,hK.trans k2 lV⟩
 simp+decide only[st,xv,pA,Jf,bq,eo]
 cases hn:cg es id with
 |some i=>
  have hi:=hk i hn
  simp+decide only[st,xv,pA,Jf,R9]
  refine fin A1 (.inl rfl) k1 hi rfl rfl rfl rfl ?_
  unfold lG
  rw[hn]
  simp only[z6,List.getD_eq_getElem?_getD,List.getElem?_eq_getElem hi,Option.getD_some]
 |none=>
  obtain⟨H1,aU,aT,A2,Kh,eD,rV⟩:=att ok A1 hs
  simp+decide only[st,xv,pA,Jf,R9,R8]
  refine au aU ?_
  obtain⟨lv2,t2,_⟩:=A2.top
  have c2:=av t2
  have mI:mapOf H1 mb=some (kJ es):=by simp[mapOf,A2.map]
  have iS:=aln (id:=id) (i:=(hP S).1) hn
  simp+decide only[st,xv,pA,R8,afE,afD,c2,mI,AV.strip,iS]
  refine fin (A2.agK (aV:=es++[(id,(hP S).1)])) (by rcases eD with h|h<;>omega) (k1.trans ⟨?_,fun b hb h1 h2 h3=>?_⟩ (.inl rfl)) BP.1 rfl rfl rfl rfl ?_
  ·exact Kh
  ·simp only[aa.set]
   rw[if_neg h2]
   exact rV b hb h1 h3
  ·unfold lG
   rw[hn]
   simp only[z6,List.getD_eq_getElem?_getD,List.getElem?_eq_getElem BP.1,Option.getD_some]
end
section
open Go
variable {P:Program} {h:aa}
theorem aiw (ok:ax P tb) {a:Nat}:an P 154 [.int .u64 a] h (.bool false) h:=by
 refine ok.keeps (rf:=EA) rfl (Nat.le_of_ble_eq_true rfl) rfl ?_
 simp+decide only[st,xv,EA,aaY,aaX]
theorem ajb (ok:ax P tb) {a b:Nat}:an P 117 [.int .u64 a, .int .u64 b] h (.bool (decide (a<b))) h:=by
 refine ok.keeps (rf:=Ap) rfl (Nat.le_of_ble_eq_true rfl) rfl ?_
 simp+decide only[st,xv,Ap,O6,O5]
 refine au (aiw ok) ?_
 simp+decide only[st,xv,Ap,O6,O5]
 first|done|rfl|skip
theorem YQ {α:Type} {l m:List α} {v w:α} {n:Nat} (h:l.length=n):List.take n (l++v::m)++[w]++List.drop (n+1) (l++v::m)=l++w::m:=by
 rw[pH h,<-List.drop_drop,sF h];simp
theorem XT {l m:List Nat} {x:Nat}:List.map (fun(n:Nat)=>AV.int .u64 n) (l++x::m)=List.map (fun(n:Nat)=>AV.int .u64 n) l++ .int .u64 x::List.map (fun(n:Nat)=>AV.int .u64 n) m:=by simp
def eS (l:List Nat):List AV:=l.map fun(n:Nat)=> .int .u64 n
theorem Bv {l:List Nat}:(eS l).length=l.length:=by simp[eS]
theorem YK {l m:List Nat} {x:Nat}:(eS (l++x::m))[l.length]? =some (.int .u64 x):=by simp[eS]
structure yw (L0:List Nat) (A:List Nat) (x:Nat) (B C:List Nat):Prop where
 perm:(A++x::(B++C)).Perm L0
 bY:(A++B).Pairwise (· <= ·)
 lt: ∀b∈B,x<=b
theorem yw.step {L0 A B C:List Nat} {x y:Nat} (I:yw L0 (A++[y]) x B C) (vm:x<y):yw L0 A x (y::B) C where
 perm:=by
  refine List.Perm.trans ?_ I.perm
  simp only[List.append_assoc,List.singleton_append,List.cons_append]
  exact List.Perm.append_left _ (List.Perm.swap ..)
 bY:=by simpa using I.bY
 lt b hb:=by
  rcases List.mem_cons.1 hb with rfl|hb
  ·omega
  ·exact I.lt b hb
theorem yw.fin {L0 A B C:List Nat} {x:Nat} (I:yw L0 A x B C) (h: ∀y,A.getLast?=some y->y<=x):(A++x::B).Pairwise (· <= ·):=by
 rw[List.pairwise_append]
 have hs:=List.pairwise_append.1 I.bY
 refine⟨hs.1,List.pairwise_cons.2 ⟨fun b hb=>I.lt b hb,hs.2.1⟩,fun a ha b hb=>?_⟩
 have Va:a<=x:=by
  rcases List.eq_nil_or_concat A with rfl|⟨A',y,rfl⟩
  ·cases ha
  ·simp only[List.concat_eq_append] at*
   have hy:=h y (by simp)
   rcases List.mem_append.1 ha with ha|ha
   ·have:=(List.pairwise_append.1 hs.1).2.2 a ha y (by simp)
    omega
   ·have:a=y:=by simpa using ha
    omega
 rcases List.mem_cons.1 hb with rfl|hb
 ·exact Va
 ·have:=I.lt b hb;omega
theorem asn (ok:ax P tb) {b:Nat} {L:List Nat} (hb:b<h.next) (hc:cellsOf h b=some (eS L)) (hl:L.length<2^20):
 ∃h',an P 111 [.rs b 0 L.length 1, .int .i64 0, .int .i64 L.length] h (.ay []) h'/\ ∃M,M.Perm L/\M.Pairwise (· <= ·)/\fH b h h' (eS M):=by
 refine ok.dI (rf:=oP) rfl (Nat.le_of_ble_eq_true rfl) ?_
 simp+decide only[st,xv,oP,HK,xr]
 let I:Nat->Env->aa->Prop:=fun n ρ H=> ∃i M,L.length+1-i=n/\1<=i/\M.Perm L/\(M.take i).Pairwise (· <= ·)/\fH b h H (eS M)/\ρ 0= .rs b 0 L.length 1/\ρ 1= .int .i64 0/\ρ 2= .int .i64 L.length/\ρ 6= .int .i64 i
 have h1:(L.take 1).Pairwise (· <= ·):=by
  cases L with
  |nil=>simp
  |cons a l=>simp
 refine dO I ?_ L.length ⟨1,L,by omega,by omega,List.Perm.refl _,h1,⟨hc,Nat.le_refl _,fun _ _ _=>rfl⟩,rfl,rfl,rfl,rfl⟩
 rintro n ρ H ⟨i,M,hn,Ko,hp,hs,ha,r0,r1,r2,r6⟩
 have hML:=hp.length_eq
 by_cases hi:i<L.length
 ·have aA:(i:Int)<(L.length:Int):=by omega
  simp+decide only[st,xv,oP,CG,HI,r0,r1,r2,r6,aA]
  have hw:=dF (show i<2^61 by omega)
  let J:Nat->Env->aa->Prop:=fun j ρ H=> ∃A x B C,A.length=j/\j+B.length=i/\yw L A x B C/\fH b h H (eS (A++x::(B++C)))/\ρ 0= .rs b 0 L.length 1/\ρ 1= .int .i64 0/\ρ 2= .int .i64 L.length/\ρ 6= .int .i64 i/\ρ 7= .int .i64 j
  have hMi:M.take i++M[i]::([]++M.drop (i+1))=M:=by
   rw[List.nil_append,<-List.drop_eq_getElem_cons (by omega),List.take_append_drop]
  have Kw:J i (put (put (put (put (put ρ (some 10) (ρ 6)) (some 11) (ρ 2)) (some 12) (.bool true)) (some 15) (ρ 6)) (some 7) (ρ 6)) H:=⟨M.take i,M[i],[],M.drop (i+1),by simp;omega,by simp,⟨by rw[hMi];exact hp,by simpa using hs,by simp⟩,by rw[hMi];exact ha,r0,r1,r2,r6,r6⟩
  rw[r6,r2] at Kw
  refine dO J ?_ i Kw
  rintro j ρ H ⟨A,x,B,C,hA,hAB,hI,ha,r0,r1,r2,r6,r7⟩
  have hc:=ha.cell
  have hlen:=hI.perm.length_eq
  simp only[List.length_append,List.length_cons] at hlen
  have hn9:b<H.next:=by have:=ha.next;omega
  have Ty:=ha.clean (n:=15) hb
  have fin:(A++x::B).Pairwise (· <= ·)-> ∀{ρ':Env},ρ' 0= .rs b 0 L.length 1->ρ' 1= .int .i64 0->ρ' 2= .int .i64 L.length->ρ' 6= .int .i64 ((i+1:Nat):Int)-> ∃m,m<n/\I m ρ' (H.clean 15):=by
   intro hpw ρ' q0 q1 q2 q6
   refine⟨L.length+1-(i+1),by omega,i+1,A++x::(B++C),rfl,by omega,hI.perm,?_,Ty,q0,q1,q2,q6⟩
   have:(A++x::(B++C)).take (i+1)=A++x::B:=by
    rw[show A++x::(B++C)=(A++x::B)++C by simp,pH (by simp;omega)]
   rw[this];exact hpw
  simp+decide only[st,xv]
  refine bU 15 rfl rfl ?_
  rcases List.eq_nil_or_concat A with rfl|⟨A',y,rfl⟩
  ·have:j=0:=by simpa using hA.symm
   subst this
   simp+decide only[st,xv,oP,O9,CF,r0,r1,r2,r6,r7,hw]
   exact fin (hI.fin (by simp)) r0 r1 r2 rfl
  ·have se:j=A'.length+1:=by simpa using hA.symm
   have hjp:(0:Int)<(j:Int):=by omega
   have dU:(j:Int)<(L.length:Int):=by omega
   have qn:IntKind.wrap .i64 ((j:Int)-1)=(A'.length:Int):=by rw[bu]<;>omega
   have Vb:(A'.length:Int)<(L.length:Int):=by omega
   have g1:(eS ((A'.concat y)++x::(B++C)))[j]? =some (.int .u64 x):=by rw[<-hA];exact YK
   have g2:(eS ((A'.concat y)++x::(B++C)))[A'.length]? =some (.int .u64 y):=by rw[List.concat_append];exact YK
   simp+decide only[st,xv,oP,O9,r0,r1,r2,r6,r7,qn,hjp,dU,Vb,hc,hn9,g1,g2,Nat.mul_one]
   refine eX (ajb ok) (fun k h1 h2=>by simp only[aa.clean];exact if_neg (by omega)) ?_
   by_cases vm:x<y
   ·have auF:=Ty.cell
    have g0:(A'.concat y)++x::(B++C)=(A'++[y])++x::(B++C):=by simp
    have g5:List.take j (eS ((A'.concat y)++x::(B++C)))++[.int .u64 y]++List.drop (j+1) (eS ((A'.concat y)++x::(B++C)))=eS (A'++y::(y::(B++C))):=by
     rw[g0];unfold eS;rw[XT,YQ (by simp[se])];simp
    have g6:List.take A'.length (eS (A'++y::(y::(B++C))))++[.int .u64 x]++List.drop (A'.length+1) (eS (A'++y::(y::(B++C))))=eS (A'++x::(y::(B++C))):=by unfold eS;rw[XT,YQ (by simp)];simp
    have g7:j+1<=(eS ((A'.concat y)++x::(B++C))).length:=by rw[Bv];simp;omega
    have g8:A'.length+1<=(eS (A'++y::(y::(B++C)))).length:=by rw[Bv];simp
    have Tw:b<H.next+15:=by omega
    simp+decide only[st,xv,oP,HK,CG,HI,O8,O7,CF,vm]
    refine bU 18 rfl rfl ?_
    simp+decide only[st,xv,oP,HK,CG,HI,O8,O7,CF,r0,r1,r2,r6,r7,qn,hjp,dU,Vb,auF,Tw,g1,g2,g5,g6,g7,g8,Nat.mul_one]
    have fr:=fun i=>(jv (n:=18) (i:=i) (h:=(H.clean 15).clean 18) (x:=some (.cells (eS (A'++y::y::(B++C))))) Tw).2 (cN (h:=H.clean 15) (by simp[aa.clean]))
    refine⟨fr _,(jv Tw).2 (fr _),A'.length,by omega,A',x,y::B,C,rfl,by simp;omega,yw.step (by simpa using hI) vm,((Ty.clean hb).trans fH.set).trans fH.set,r0,r1,r2,r6,rfl⟩
   ·simp+decide only[st,xv,oP,CF,vm,r6,hw]
    exact fin (hI.fin (by simp;omega)) r0 r1 r2 rfl
 ·have aA: ¬(i:Int)<(L.length:Int):=by omega
  simp+decide only[st,xv,oP,CG,r6,r2,aA]
  refine⟨rfl,M,hp,?_,ha⟩
  rwa [List.take_of_length_le (by omega)] at hs
def au1 (tb:fG) (fuel f:Nat) (k k':IntKind) (n:Nat):Bool:=(List.range n).all fun x=>match uw tb (runK tb fuel) f [.int k x] ⟨.leaf,0⟩ (fun v _=>some v) with
 |some (.int k2 _)=>k2==k'
 |_=>false
theorem amL {T:fG} (ok:ax P T) {fuel f:Nat} {k k':IntKind} {n:Nat} (hc:au1 T fuel f k k' n=true) {x:Nat} (hx:x<n) (h:aa): ∃y,an P f [.int k x] h (.int k' y) h:=by
 have h1:=List.all_eq_true.1 hc x (List.mem_range.2 hx)
 split at h1
 ·rename_i k2 y hv
  have:k2=k':=by simpa using h1
  subst this
  exact⟨y,WB ok hv rfl rfl h⟩
 ·cases h1
theorem aiW (ok:ax P tb) {b:Nat} {L:List Nat} (hb:b<h.next) (hc:cellsOf h b=some (eS L)) (hl:L.length<=12):
 ∃h',an P 44 [.rs b 0 L.length 1] h (.ay []) h'/\ ∃M,M.Perm L/\M.Pairwise (· <= ·)/\fH b h h' (eS M):=by
 refine ok.dI (rf:=ym) rfl (Nat.le_of_ble_eq_true rfl) ?_
 have hw:IntKind.wrap .u64 (L.length:Int)=L.length:=eQ (by omega)
 obtain⟨y,hy⟩:=amL ok (fuel:=200) (f:=74) (k:= .u64) (k':= .i64) (n:=13) (by decide+kernel) (show L.length<13 by omega) h
 have hp: ∃h',an P 73 [.rs b 0 L.length 1, .int .i64 0, .int .i64 L.length, .int .i64 y] h (.ay []) h'/\ ∃M,M.Perm L/\M.Pairwise (· <= ·)/\fH b h h' (eS M):=by
  refine ok.dI (rf:=yl) rfl (Nat.le_of_ble_eq_true rfl) ?_
  have w1:IntKind.wrap .i64 ((L.length:Int)-0)=L.length:=by rw[bu]<;>omega
  have eE:(L.length:Int)<=12:=by omega
  obtain⟨h',c1,hM⟩:=asn ok hb hc (by omega)
  simp+decide only[st,xv,yl,adL,adK]
  refine Bp ?_
  simp+decide only[st,xv,yl,adJ,adI,Qw,w1,eE]
  refine au c1 ?_
  simp+decide only[st,xv,yl,Qw]
  exact⟨rfl,hM⟩
 obtain⟨h',c1,hM⟩:=hp
 simp+decide only[st,xv,ym,afh,Jb,hw]
 refine au hy ?_
 simp+decide only[st,xv,ym,Jb]
 refine au c1 ?_
 simp+decide only[st,xv,ym,Jb]
 exact⟨rfl,hM⟩
end
section
open Go
variable {P:Program} {h:aa} {ab mb lb ch:Nat} {S:List Sl} {es:List (Nat×Nat)}
theorem ava (ok:ax P tb) {v:Nat}: ∃h',an P 33 [.int .u8 v] h (.ptr (h.next+1) 0) h'/\ez h' (h.next+1) h.next (h.next+2) v [] []/\h'.next=h.next+2/\Old h h':=by
 refine ok.dI (rf:=FJ) rfl (Nat.le_of_ble_eq_true rfl) ?_
 simp+decide only[st,xv,FJ,afM,afL]
 refine⟨rfl,⟨⟨_,by simp only[aa.at,if_true], .inl ⟨rfl,rfl⟩⟩,by simp[aa.at,kJ],by simp[aa.at],by simp[aa.at];omega,by omega,by simp⟩,by simp[aa.at],((Old.refl h).at (Nat.le_refl _)).at (by omega)⟩
def sN (S:List Sl) (es:List (Nat×Nat)) (id:Nat):List Sl×List (Nat×Nat):=match cg es id,nk es id with
 |some i,some j=>(S.set i ⟨none,(S.getD i ⟨none,0⟩).bL⟩,es.eraseIdx j)
 |_,_=>(S,es)
theorem atu (ok:ax P tb) (A:ez h ab mb lb ch S es) {id:Nat} (hk: ∀i,cg es id=some i->i<S.length):
 ∃e h',an P 145 [.ptr ab 0, .int .u64 id] h (.int .i64 e) h'/\ez h' ab mb lb ch (sN S es id).1 (sN S es id).2/\jf h h' ab mb lb:=by
 have eo:=GN A.map (id:=id) (b:=true)
 cases hn:cg es id with
 |none=>
  refine⟨7,ok.dI (rf:=qf) rfl (Nat.le_of_ble_eq_true rfl) ?_⟩
  simp+decide only[st,xv,qf,Ov,Cs]
  refine au (SY ok A) ?_
  rw[hn]
  simp+decide only[st,xv,qf,Cs,Ou,Ot,V2]
  refine⟨rfl,?_, .refl⟩
  unfold sN
  rw[hn];exact A
 |some i=>
  refine⟨0,ok.dI (rf:=qf) rfl (Nat.le_of_ble_eq_true rfl) ?_⟩
  have hi:=hk i hn
  have hS:S≠[]:=fun e=>by rw[e] at hi;simp at hi
  obtain⟨t1,e2,e3,e4,e5⟩:=A.wZ hS
  have l1:=A.l1
  have l2:=A.l2
  have c1:=av t1
  have c2:=av e2
  have aA:(i:Int)<(S.length:Int):=by omega
  have rows:(S.map Sl.enc)[i]? =some S[i].enc:=by rw[List.getElem?_map,List.getElem?_eq_getElem hi];rfl
  have g3:=uj (sz:=4) (j:=3) pJ rows (by omega)
  rw[Sl.trn] at g3
  have hlen:(S.map Sl.enc).flatten.length=S.length*4:=by rw[jg pJ,List.length_map]
  have hle:i*4+4<=S.length*4:=by omega
  have lJ:=Gy (sz:=4) (S.map Sl.enc) pJ i (Sl.enc ⟨none,S[i].bL⟩) (by simpa using hi) rfl
  rw[<-List.map_set] at lJ
  obtain⟨j,hj⟩: ∃j,nk es id=some j:=by
   rw[Gg] at hn
   cases hq:nk es id with
   |none=>rw[hq] at hn;cases hn
   |some j=>exact⟨j,rfl⟩
  have hmd:=alo hj
  have mI:mapOf h mb=some (kJ es):=by simp[mapOf,A.map]
  simp+decide only[st,xv,qf,Ov,Cs]
  refine au (SY ok A) ?_
  rw[hn]
  simp+decide only[st,xv,qf,Cs,Ou]
  refine bU 16 rfl rfl ?_
  simp+decide only[st,xv,qf,aa6,c1,c2,l1,e3,aA,g3]
  rw[show List.take (i*4) (List.map Sl.enc S).flatten++[AV.int IntKind.u64 0,AV.vs [] .full,AV.bool false,AV.int IntKind.i64 S[i].bL]++List.drop (i*4+(1+1+1+1)) (List.map Sl.enc S).flatten=_ from lJ.symm]
  have nb: ¬ab=lb:=fun e=>e4 e.symm
  have nm: ¬mb=lb:=fun e=>e5 e.symm
  simp+decide only[st,xv,qf,aa5,Ot,hlen,hle,c1,l1,nb,nm,mI,l2,hmd,V2]
  have UL:sN S es id=(S.set i ⟨none,S[i].bL⟩,es.eraseIdx j):=by
   unfold sN
   rw[hn,hj]
   simp only[List.getD_eq_getElem?_getD,List.getElem?_eq_getElem hi,Option.getD_some]
  refine⟨(jv e3).2 (cN (Nat.le_refl _)),rfl,?_,?_,fun b hb h1 h2 h3=>?_⟩
  ·rw[UL];exact(A.clean.agJ hS (by simp)).agK
  ·simp[aa.set,aa.clean]
  ·simp only[aa.set,aa.clean]
   rw[if_neg h2,if_neg h3]
   exact if_pos hb
def gd (S:List Sl):List Nat:=S.filterMap fun s=>s.r.map (·.1)
theorem ak5 {S:List Sl}:(gd S).length<=S.length:=List.length_filterMap_le _ _
def yx (h H:aa) (v:AV) (l:List Nat):Prop:=(l=[]/\v= .vs [] .full)\/ ∃b,l≠[]/\v= .rs b 0 l.length 1/\cellsOf H b=some (eS l)/\h.next<=b/\b<H.next
theorem yx.app {h H:aa} {v:AV} {l:List Nat} (g:yx h H v l) (ho:h.next<=H.next) (x:Nat) (hl:l.length<2^20): ∃v' H',fJ 8 1 H.next H v (some [[.int .u64 x]])=some (v',H')/\yx h H' v' (l++[x])/\H.next<=H'.next/\ ∀b,b<h.next->H'.get b=H.get b:=by
 rcases g with⟨rfl,rfl⟩|⟨b,h0,rfl,hc,h1,h2⟩
 ·refine⟨_,_,by simp only[fJ,List.length_singleton,List.cons_ne_nil,if_false];rfl, .inr ⟨H.next,by simp,rfl,av (by simp[aa.at,eS]),ho,by simp[aa.at]⟩,by simp[aa.at],fun b hb=>by simp only[aa.at];rw[if_neg (by omega)]⟩
 ·have hlen:=Bv (l:=l)
  refine⟨.rs H.next 0 (l.length+1) 1,(H.set b none).at H.next (.cells (eS (l++[x]))),?_, .inr ⟨H.next,by simp,by simp,av (by simp[aa.at]),ho,by simp[aa.at];omega⟩,by simp[aa.at,aa.set],fun c hb=>by simp only[aa.at,aa.set];rw[if_neg (by omega),if_neg (by omega)]⟩
  simp only[fJ,hc,Option.bind_some,List.length_singleton,List.cons_ne_nil,if_false]
  rw[if_pos (by refine⟨trivial,trivial,?_,?_,?_⟩<;>omega),List.take_of_length_le (by omega)]
  simp[eS]
theorem yx.to {h H X:aa} {v:AV} {l:List Nat} (g:yx h H v l) (o:Old H X):yx h X v l:=by
 rcases g with g|⟨b,h0,h1,hc,h2,h3⟩
 ·exact .inl g
 ·refine .inr ⟨b,h0,h1,?_,h2,Nat.lt_of_lt_of_le h3 o.next⟩
  unfold cellsOf at hc ⊢
  rw[o.get b h3];exact hc
def w8 (x:Nat):List Nat->List Nat
 |[]=>[x]
 |y::l=>if x<=y then x::y::l else y::w8 x l
def lA:List Nat->List Nat
 |[]=>[]
 |x::l=>w8 x (lA l)
theorem LA {x:Nat}: ∀{l:List Nat},(w8 x l).Perm (x::l)
 |[]=> .refl _
 |y::l=>by
  unfold w8
  split
  ·exact .refl _
  ·exact(LA.cons y).trans (.swap ..)
theorem t9: ∀{l:List Nat},(lA l).Perm l
 |[]=> .refl _
 |x::l=>LA.trans (t9.cons x)
theorem Yd {x:Nat}: ∀{l:List Nat},l.Pairwise (· <= ·)->(w8 x l).Pairwise (· <= ·)
 |[],_=>by simp[w8]
 |y::l,h=>by
  have h':=List.pairwise_cons.1 h
  unfold w8
  split
  ·refine List.pairwise_cons.2 ⟨fun z hz=>?_,h⟩
   rcases List.mem_cons.1 hz with rfl|hz
   ·assumption
   ·have:=h'.1 z hz;omega
  ·refine List.pairwise_cons.2 ⟨fun z hz=>?_,Yd h'.2⟩
   rcases List.mem_cons.1 (LA.mem_iff.1 hz) with rfl|hz
   ·omega
   ·exact h'.1 z hz
theorem Lz: ∀{l:List Nat},(lA l).Pairwise (· <= ·)
 |[]=>by simp[lA]
 |x::l=>Yd Lz
theorem LL: ∀{l m:List Nat},l.Pairwise (· <= ·)->m.Pairwise (· <= ·)->l.Perm m->l=m
 |[],m,_,_,hp=>(List.Perm.nil_eq hp)
 |x::l,[],_,_,hp=>absurd hp.length_eq (by simp)
 |x::l,y::m,hl,hm,hp=>by
  have h1:=List.pairwise_cons.1 hl
  have h2:=List.pairwise_cons.1 hm
  have vm:x=y:=by
   have hx:x∈y::m:=hp.mem_iff.1 (by simp)
   have hy:y∈x::l:=hp.mem_iff.2 (by simp)
   rcases List.mem_cons.1 hx with e|hx
   ·exact e
   rcases List.mem_cons.1 hy with e|hy
   ·exact e.symm
   have:=h1.1 y hy
   have:=h2.1 x hx
   omega
  subst vm
  rw[LL h1.2 h2.2 (List.perm_cons x |>.1 hp)]
theorem WJ: ∀{l:List Nat},rowsOf (eS l) 0 1 l.length=(aH .u64).R l
 |[]=>rfl
 |x::l=>by
  have ih:=WJ (l:=l)
  have hc:eS (x::l)=[AV.int .u64 x]++eS l:=rfl
  rw[List.length_cons,rowsOf,hc,show 0+1=[AV.int .u64 (x:Nat)].length+0 by rfl,Bm (by rw[Bv];omega),ih];rfl
theorem ajR {p:Nat->Bool} {M:List Nat}:(AV.vs ((aH .u64).R M) .ao).bD p=true:=ey.mc _
theorem Xe {S:List Sl} {i:Nat} (hi:i<S.length):gd (S.take (i+1))=gd (S.take i)++(match S[i].r with|some r=>[r.1]|none=>[]):=by
 rw[<-List.take_append_getElem hi,gd,gd,List.filterMap_append]
 congr 1
 cases hr:S[i].r<;>simp[hr]
theorem ahw (ok:ax P tb) (A:ez h ab mb lb ch S es) (h0:gd S≠[]) (eE:(gd S).length<=12):
 an P 31 [.ptr ab 0] h (.vs ((aH .u64).R (lA (gd S))) .ao) h:=by
 obtain⟨lv,t1,q1,q2,lO⟩:=A.lO
 have l1:=A.l1
 have hc:=av t1
 have xS:=A.small
 have hlen:gC lv=some S.length:=by rw[(lO h rfl).len,List.length_map]
 refine ok.My (rf:=sv) rfl (Nat.le_of_ble_eq_true rfl) (ey.mc _) ?_
 simp+decide only[st,xv,sv,afV,afU,afT,afS,hc,hlen]
 let I:Nat->Env->aa->Prop:=fun n ρ H=> ∃i,S.length=i+n/\Old h H/\yx h H (ρ 3) (gd (S.take i))/\ρ 11=lv/\ρ 12= .int .i64 S.length/\ρ 13= .int .i64 i
 refine dO I ?_ S.length ⟨0,by omega,Old.refl h, .inl ⟨by simp[gd],rfl⟩,rfl,rfl,rfl⟩
 rintro n ρ H ⟨i,aB,ho,hg,fc,gS,eG⟩
 have qu:=ho.next
 have lV:S≠[]->H.get lb=h.get lb:=fun hS=>ho.get _ (A.wZ hS).2.2.1
 by_cases hi:i<S.length
 ·have aA:(i:Int)<(S.length:Int):=by omega
  have hw:=dF (show i<2^61 by omega)
  obtain⟨p,g1,g2⟩:=(lO H (lV (fun e=>by rw[e] at hi;simp at hi))).get i (by rw[List.length_map];exact hi)
  rw[List.getElem_map] at g2
  have e4:S[i].enc.length=4:=Sl.len
  have st4:df [AV.int .u64 0, .vs [] .full, .bool false, .int .i64 0] 0 S[i].enc=S[i].enc:=ajZ e4.symm
  simp+decide only[st,xv,sv,Si,afR,fc,gS,eG,aA,g1,g2,Sl.acg,e4]
  generalize hX:aa.set _ _ _=X
  have xo:Old H X:=by rw[<-hX];exact((Old.refl H).at (Nat.le_refl _)).set (Nat.le_refl _)
  have xc:cellsOf X H.next=some S[i].enc:=by rw[<-hX];exact av (by simp[aa.set])
  have xn:=xo.next
  have tk:=Sl.taken (s:=S[i])
  cases hr:S[i].r with
  |none=>
   rw[hr] at tk
   simp+decide only[st,xv,sv,Sh,Sg,xc,tk,eG,hw,Option.isSome_none]
   refine⟨n-1,by omega,i+1,by omega,ho.trans xo,?_,fc,gS,rfl⟩
   rw[Xe hi,hr,List.append_nil]
   exact hg.to xo
  |some r=>
   rw[hr] at tk
   have aJ:S[i].enc[0]? =some (.int .u64 r.1):=by simp[Sl.enc,hr]
   have qq:=ak5 (S:=S.take i)
   obtain⟨v',H',ha,cD,jb,ej⟩:=(hg.to xo).app (Nat.le_trans qu xn) r.1 (by rw[List.length_take] at qq;omega)
   simp+decide only[st,xv,sv,Sh,afQ,Sg,xc,tk,eG,hw,Option.isSome_some,aJ,yy,ha,xr]
   refine⟨n-1,by omega,i+1,by omega,⟨by omega,fun b hb=>by rw[ej b hb,xo.get b (by omega),ho.get b hb]⟩,?_,fc,gS,rfl⟩
   rw[Xe hi,hr]
   exact cD
 ·have aA: ¬(i:Int)<(S.length:Int):=by omega
  rw[List.take_of_length_le (by omega)] at hg
  rcases hg with⟨e,_⟩|⟨b,_,r3,dE,ew,b9⟩
  ·exact absurd e h0
  obtain⟨H',c1,M,hM,hMs,ha⟩:=aiW ok b9 dE eE
  have hMM:M=lA (gd S):=LL hMs Lz (hM.trans t9.symm)
  simp+decide only[st,xv,sv,Si,Nm,gS,eG,r3,aA]
  refine au c1 ?_
  simp+decide only[st,xv,sv,Nm,aah,r3,Gl]
  have sg:=ha.cell
  rw[hMM] at sg
  subst hMM
  have tF:(lA (gd S)).length=(gd S).length:=t9.length_eq
  have pj:AV.fv b (eS (lA (gd S))) (.rs b 0 (gd S).length 1)= .vs ((aH .u64).R (lA (gd S))) .ao:=by
   unfold AV.fv
   rw[if_pos rfl,if_pos (by rw[Bv];omega),<-tF,WJ]
  refine⟨_,b,eS (lA (gd S)),rfl,?_,ew,?_,?_,fun x hx=>?_⟩
  ·revert sg;unfold cellsOf;split
   ·rename_i e;intro hh;cases hh;exact e
   ·intro hh;cases hh
  ·rw[pj];exact ajR
  ·rw[pj];exact ey.lh _
  ·rw[ha.old x (by omega) (by omega)];exact ho.get x hx
def CK (S:List Sl) (es:List (Nat×Nat)) (id:Nat):List UInt8:=match(cg es id).bind fun i=>(S[i]?).bind (·.r) with
 |some r=>r.2
 |none=>[]
def pU (S:List Sl) (es:List (Nat×Nat)) (l:List Nat):List UInt8:=l.flatMap fun id=>be id 8++cO (CK S es id)
structure ahz (S:List Sl) (es:List (Nat×Nat)) (B:Nat):Prop where
 rc: ∀id i,cg es id=some i-> ∃rec bL,S[i]? =some ⟨some (id,rec),bL⟩/\rec.length<B
 idx: ∀id i rec bL,S[i]? =some ⟨some (id,rec),bL⟩->cg es id=some i
 id: ∀id i,cg es id=some i->id<2^64
theorem aqH (ok:ax P tb) (A:ez h ab mb lb ch S es) (h0:gd S≠[]) (eE:(gd S).length<=12) (k:ahz S es 1000):
 an P 36 [.ptr ab 0] h (.vs (BS (pU S es (lA (gd S)))) .ao) h:=by
 have hS:S≠[]:=fun e=>h0 (by rw[e];rfl)
 obtain⟨t1,e2,e3,e4,e5⟩:=A.wZ hS
 have l1:=A.l1
 have l2:=A.l2
 have tm:=A.map
 have hc:=av t1
 have aU:=av e2
 refine ok.eW (rf:=su) rfl (Nat.le_of_ble_eq_true rfl) (iB.mc) ?_
 simp+decide only[st,xv,su,afC,afB,R7]
 refine au (ahw ok A h0 eE) ?_
 simp+decide only[st,xv,su,R7,ey.aR]
 have Aa: ∀id∈lA (gd S),∃i rec bL,cg es id=some i/\i<S.length/\S[i]? =some ⟨some (id,rec),bL⟩/\rec.length<1000/\id<2^64/\CK S es id=rec:=by
  intro id aJ
  have:=t9.mem_iff.1 aJ
  obtain⟨s,hs,hr⟩:=List.mem_filterMap.1 this
  obtain⟨i,hi⟩:=List.mem_iff_getElem?.1 hs
  obtain⟨⟨mC,rec⟩,UN,xT⟩:=Option.map_eq_some_iff.1 hr
  simp only at xT
  subst xT
  have rT:S[i]? =some ⟨some (mC,rec),s.bL⟩:=by rw[hi];cases s;simp_all
  have hn:=k.idx mC i rec s.bL rT
  obtain⟨avw,avn,h3,h4⟩:=k.rc mC i hn
  rw[rT] at h3;cases h3
  refine⟨i,rec,s.bL,hn,?_,rT,h4,k.id _ _ hn,?_⟩
  ·rcases Nat.lt_or_ge i S.length with h|h
   ·exact h
   ·rw[List.getElem?_eq_none h] at rT;cases rT
  ·unfold CK;rw[hn,Option.bind_some,rT];rfl
 have tF:(lA (gd S)).length<=12:=by rw[t9.length_eq];exact eE
 generalize lA (gd S)=M at*
 let I:Nat->Env->aa->Prop:=fun n ρ H=> ∃i,M.length=i+n/\Old h H/\ρ 0= .ptr ab 0/\(∃t,ρ 3= .vs (BS (pU S es (M.take i))) t)/\ρ 7= .vs ((aH .u64).R M) .ao/\ρ 8= .int .i64 M.length/\ρ 9= .int .i64 i
 refine dO I ?_ M.length ⟨0,by omega,Old.refl h,rfl,⟨_,rfl⟩,rfl,rfl,rfl⟩
 rintro n ρ H ⟨i,aB,ho,r0,⟨t3,r3⟩,r7,r8,r9⟩
 have qu:=ho.next
 by_cases hi:i<M.length
 ·have aA:(i:Int)<(M.length:Int):=by omega
  have hw:=dF (show i<2^61 by omega)
  obtain⟨j,rec,bL,hn,hj,hs,gG,aJ,lK⟩:=Aa _ (List.getElem_mem hi)
  have g1:((aH .u64).R M)[i]? =some [.int .u64 M[i]]:=(aH .u64).gL hi
  have cH:cellsOf H ab=_:=(show cellsOf H ab=cellsOf h ab by unfold cellsOf;rw[ho.get _ l1]).trans hc
  have cH2:cellsOf H lb=_:=(show cellsOf H lb=cellsOf h lb by unfold cellsOf;rw[ho.get _ e3]).trans aU
  have Fg: ∀n,mY (.int .i64 0) false (H.clean n) (.map (some mb)) (.int .u64 M[i])=some (.int .i64 j):=fun n=>by
   rw[GN (es:=es) (by simp only[aa.clean];rw[if_pos (by omega),ho.get _ l2,tm]),hn];rfl
  have rows:(S.map Sl.enc)[j]? =some [.int .u64 M[i], .vs (BS rec) .ao, .bool true, .int .i64 bL]:=by rw[List.getElem?_map,hs];rfl
  have g2:=uj (sz:=4) (j:=1) pJ rows (by omega)
  have jr:(j:Int)<(S.length:Int):=by omega
  have la:ab<H.next:=by omega
  have aT:lb<H.next:=by omega
  have kC:(pU S es (M.take i)).length<=1010*i:=by
   have: ∀(l:List Nat),(∀id∈l,(CK S es id).length<=1000)->(pU S es l).length<=1010*l.length:=by
    intro l
    induction l with
    |nil=>intro _;simp[pU]
    |cons c l ih=>
     intro hm
     have h1:=ih (fun x hx=>hm x (List.mem_cons_of_mem _ hx))
     have h2:=hm c (List.mem_cons_self ..)
     simp only[pU,List.flatMap_cons,List.length_append,bR,cO,List.length_cons] at h1 ⊢;omega
   have h1:=this (M.take i) (fun id aJ=>by
    obtain⟨i,rec,bL,hn,hj,hs,gG,aJ,lK⟩:=Aa _ (List.mem_of_mem_take aJ)
    rw[lK];omega)
   rw[List.length_take] at h1;omega
  simp+decide only[st,xv,su,R6,afA,r7,r8,r9,aA,g1]
  refine yO ?_
  simp+decide only[st,xv,su,afz,r0,r3]
  refine gX (mV ok (n:=8) aJ (by omega) (by omega)) (cN (Nat.le_refl _)) ?_
  simp+decide only[st,xv,r0,cH,la,Fg,cH2,aT,jr,g2]
  refine⟨show mb<H.next by omega,?_⟩
  refine gX (KU ok (b:=pU S es (M.take i)++be M[i] 8) (s:=rec) (by simp only[List.length_append,bR];omega) (by omega)) (cN (Nat.le_refl _)) ?_
  simp+decide only[st,xv,su,afy,r9,hw]
  refine⟨n-1,by omega,i+1,by omega,ho.clean,r0,⟨.ao,?_⟩,r7,r8,rfl⟩
  show AV.vs (BS (pU S es (M.take i)++be M[i] 8++cO rec)) .ao=_
  rw[<-List.take_append_getElem hi]
  simp only[pU,List.flatMap_append,List.flatMap_cons,List.flatMap_nil,List.append_nil,List.append_assoc,lK]
 ·have aA: ¬(i:Int)<(M.length:Int):=by omega
  simp+decide only[st,xv,su,R6,afx,r8,r9,r3,aA,bG]
  rw[List.take_of_length_le (by omega)]
  exact⟨iB.lh,ho.get⟩
end
section
open Go
variable {P:Program} {h:aa} {ab mb lb ch:Nat} {S:List Sl} {es:List (Nat×Nat)}
structure kE (S:List Sl) (es:List (Nat×Nat)) (f:Nat->Option (List UInt8)):Prop where
 k:ahz S es 1000
 f: ∀id,f id=((cg es id).bind fun i=>(S[i]?).bind (·.r)).map (·.2)
 keys:(es.map (·.1)).Nodup
theorem getElem?_lt {α:Type} {l:List α} {i:Nat} {a:α} (h:l[i]? =some a):i<l.length:=by
 rcases Nat.lt_or_ge i l.length with hh|hh
 ·exact hh
 ·rw[List.getElem?_eq_none hh] at h;cases h
theorem kE.lt {f} (R:kE S es f) {id i:Nat} (hn:cg es id=some i):i<S.length:=by
 obtain⟨rec,bL,h1,_⟩:=R.k.rc id i hn
 exact getElem?_lt h1
theorem kE.sm {f} (R:kE S es f) {id:Nat} {rec:List UInt8} (hf:f id=some rec): ∃i bL,cg es id=some i/\S[i]? =some ⟨some (id,rec),bL⟩/\rec.length<1000:=by
 rw[R.f] at hf
 cases hn:cg es id with
 |none=>rw[hn] at hf;cases hf
 |some i=>
  obtain⟨avx,bL,h1,h2⟩:=R.k.rc id i hn
  rw[hn,Option.bind_some,h1] at hf
  simp at hf;subst hf
  exact⟨i,bL,rfl,h1,h2⟩
theorem kE.of {f} (R:kE S es f) {id i:Nat} {rec:List UInt8} {bL:Int} (h1:S[i]? =some ⟨some (id,rec),bL⟩):f id=some rec/\cg es id=some i:=by
 have hn:=R.k.idx _ _ _ _ h1
 exact⟨by rw[R.f,hn,Option.bind_some,h1];rfl,hn⟩
theorem kE.mem {f} (R:kE S es f) {id:Nat}:id∈gd S↔(f id).isSome=true:=by
 constructor
 ·intro aJ
  obtain⟨s,hs,hr⟩:=List.mem_filterMap.1 aJ
  obtain⟨i,hi⟩:=List.mem_iff_getElem?.1 hs
  obtain⟨⟨mC,rec⟩,UN,xT⟩:=Option.map_eq_some_iff.1 hr
  simp only at xT;subst xT
  have rT:S[i]? =some ⟨some (mC,rec),s.bL⟩:=by rw[hi];cases s;simp_all
  rw[(R.of rT).1];rfl
 ·intro hf
  obtain⟨rec,hf⟩:=Option.isSome_iff_exists.1 hf
  obtain⟨i,bL,_,h1,_⟩:=R.sm hf
  exact List.mem_filterMap.2 ⟨_,List.mem_of_getElem? h1,rfl⟩
theorem aiX {f} (R:kE S es f):(gd S).Nodup:=by
 unfold gd List.Nodup
 rw[List.pairwise_filterMap]
 refine List.pairwise_iff_getElem.2 fun i j hi hj nL a ha b hb=>?_
 obtain⟨⟨ia,ra⟩,h1,h2⟩:=Option.map_eq_some_iff.1 ha
 obtain⟨⟨ib,rb⟩,h3,h4⟩:=Option.map_eq_some_iff.1 hb
 simp only at h2 h4;subst h2;subst h4
 intro e;subst e
 have e1:S[i]? =some ⟨some (ia,ra),S[i].bL⟩:=by rw[List.getElem?_eq_getElem hi,<-h1]
 have e2:S[j]? =some ⟨some (ia,rb),S[j].bL⟩:=by rw[List.getElem?_eq_getElem hj,<-h3]
 have:=(R.of e1).2.symm.trans (R.of e2).2
 cases this;omega
theorem ZC {f} (R:kE S es f) {l:List Nat} (hl:l.Pairwise (· < ·)) (hm: ∀id,id∈l↔(f id).isSome=true):lA (gd S)=l:=by
 refine LL Lz (hl.imp (fun h=>Nat.le_of_lt h)) (t9.trans ?_)
 refine(List.perm_ext_iff_of_nodup (aiX R) (hl.imp (fun h=>Nat.ne_of_lt h))).2 fun id=>?_
 rw[R.mem,hm]
def iz (f:Nat->Option (List UInt8)) (id:Nat) (r:Option (List UInt8)):Nat->Option (List UInt8):=fun x=>if x=id then r else f x
theorem Gh {id x i:Nat} (hn:cg es id=none):cg (es++[(id,i)]) x=if x=id then some i else cg es x:=by
 unfold cg at*
 rw[List.find?_append]
 by_cases h:x=id
 ·subst h
  rw[if_pos rfl]
  rw[Option.map_eq_none_iff] at hn
  rw[hn];simp
 ·rw[if_neg h]
  simp[h]
theorem WT {id:Nat} (hn:cg es id=none):id∉es.map (·.1):=by
 intro hm
 obtain⟨e,he,rfl⟩:=List.mem_map.1 hm
 unfold cg at hn
 rw[Option.map_eq_none_iff,List.find?_eq_none] at hn
 exact hn e he (by simp)
theorem Gf {id i:Nat} (hn:cg es id=some i):(id,i)∈es:=by
 unfold cg at hn
 obtain⟨e,he,rfl⟩:=Option.map_eq_some_iff.1 hn
 have h1:=List.find?_some he
 have h2:=List.mem_of_find?_eq_some he
 have:id=e.1:=by simpa using h1
 subst this;exact h2
theorem Ye {id i:Nat} (hk:(es.map (·.1)).Nodup) (hm:(id,i)∈es):cg es id=some i:=by
 cases hq:cg es id with
 |none=>exact absurd (List.mem_map.2 ⟨_,hm,rfl⟩) (WT hq)
 |some j=>
  have hj:=Gf hq
  obtain⟨a,ha,e1⟩:=List.getElem_of_mem hm
  obtain⟨b,hb,e2⟩:=List.getElem_of_mem hj
  have:=Bs hk (i:=a) (j:=b) (by simpa using ha) (by simpa using hb) (by simp[e1,e2])
  subst this
  rw[e1] at e2;cases e2;rfl
theorem GJ {i:Nat} {r:Nat×List UInt8} {bL:Int}:(hP S).2[i]? =some ⟨some r,bL⟩↔S[i]? =some ⟨some r,bL⟩:=by
 unfold hP
 cases wE S with
 |some k=>exact Iff.rfl
 |none=>
  simp only
  by_cases h:i<S.length
  ·rw[List.getElem?_append_left h]
  ·rw[List.getElem?_append_right (by omega),List.getElem?_eq_none (l:=S) (by omega)]
   cases hk:i-S.length with
   |zero=>simp
   |succ n=>simp
theorem ak6: ∃bL,(hP S).2[(hP S).1]? =some ⟨none,bL⟩:=by
 unfold hP
 cases hq:wE S with
 |none=>exact⟨0,by simp⟩
 |some k=>
  obtain⟨hk,h1,_⟩:=List.findIdx?_eq_some_iff_getElem.1 hq
  refine⟨S[k].bL,?_⟩
  rw[List.getElem?_eq_getElem hk]
  cases hs:S[k] with
  |mk r bL=>rw[hs] at h1;cases r<;>simp_all
theorem kE.put {f} (R:kE S es f) {id:Nat} {rec:List UInt8} (aJ:id<2^64) (hr:rec.length<1000):kE (lG S es id rec).1 (lG S es id rec).2 (iz f id (some rec)):=by
 unfold lG
 cases hn:cg es id with
 |some i=>
  have hi:=R.lt hn
  obtain⟨r0,t0,h0,_⟩:=R.k.rc id i hn
  have key: ∀{x j:Nat},cg es x=some j->(j=i↔x=id):=by
   intro x j hx
   constructor
   ·intro e;subst e
    obtain⟨r1,t1,h1,_⟩:=R.k.rc x j hx
    rw[h0] at h1;cases h1;rfl
   ·intro e;subst e
    rw[hn] at hx;cases hx;rfl
  simp only
  generalize(z6 (S.getD i ⟨none,0⟩).bL)=T
  refine⟨⟨fun x j hx=>?_,fun x j r t hx=>?_,R.k.id⟩,fun x=>?_,R.keys⟩
  ·by_cases e:j=i
   ·obtain rfl:=(key hx).1 e
    subst e
    exact⟨rec,T,by simp[hi],hr⟩
   ·obtain⟨r1,t1,h1,h2⟩:=R.k.rc x j hx
    exact⟨r1,t1,by rw[List.getElem?_set_ne (Ne.symm e),h1],h2⟩
  ·by_cases e:i=j
   ·subst e
    rw[List.getElem?_set_self hi] at hx
    cases hx;exact hn
   ·rw[List.getElem?_set_ne e] at hx
    exact R.k.idx x j r t hx
  ·unfold iz
   by_cases e:x=id
   ·subst e
    rw[if_pos rfl,hn,Option.bind_some,List.getElem?_set_self hi];rfl
   ·rw[if_neg e,R.f]
    cases hx:cg es x with
    |none=>rfl
    |some j=>
     have: ¬i=j:=fun h=>e ((key hx).1 h.symm)
     rw[Option.bind_some,Option.bind_some,List.getElem?_set_ne this]
 |none=>
  obtain⟨tf,hf⟩:=ak6 (S:=S)
  have bP:=(BP (S:=S)).1
  generalize(z6 ((hP S).2.getD (hP S).1 ⟨none,0⟩).bL)=T
  simp only
  have ne: ∀{x j:Nat},cg es x=some j-> ¬(hP S).1=j:=by
   intro x j hx e
   obtain⟨r1,t1,h1,_⟩:=R.k.rc x j hx
   rw[<-GJ,<-e,hf] at h1
   cases h1
  refine⟨⟨fun x j hx=>?_,fun x j r t hx=>?_,fun x j hx=>?_⟩,fun x=>?_,?_⟩
  ·rw[Gh hn] at hx
   split at hx
   ·rename_i e;cases hx;subst e
    exact⟨rec,T,by simp[bP],hr⟩
   ·obtain⟨r1,t1,h1,h2⟩:=R.k.rc x j hx
    exact⟨r1,t1,by rw[List.getElem?_set_ne (ne hx),GJ,h1],h2⟩
  ·rw[Gh hn]
   by_cases e:(hP S).1=j
   ·subst e
    rw[List.getElem?_set_self bP] at hx
    cases hx;rw[if_pos rfl]
   ·rw[List.getElem?_set_ne e,GJ] at hx
    have:=R.k.idx x j r t hx
    rw[if_neg (fun h=>by rw[h,hn] at this;cases this)];exact this
  ·rw[Gh hn] at hx
   split at hx
   ·rename_i e;subst e;exact aJ
   ·exact R.k.id x j hx
  ·unfold iz
   rw[Gh hn]
   by_cases e:x=id
   ·rw[if_pos e,if_pos e,Option.bind_some,List.getElem?_set_self bP];rfl
   ·rw[if_neg e,if_neg e,R.f]
    cases hx:cg es x with
    |none=>rfl
    |some j=>
     obtain⟨r1,t1,h1,_⟩:=R.k.rc x j hx
     rw[Option.bind_some,Option.bind_some,List.getElem?_set_ne (ne hx),h1,GJ.2 h1]
  ·rw[List.map_append,List.nodup_append]
   refine⟨R.keys,by simp,fun a ha b hb=>?_⟩
   have:b=id:=by simpa using hb
   subst this
   intro e;subst e
   exact WT hn ha
theorem kE.drop {f} (R:kE S es f) {id:Nat}:kE (sN S es id).1 (sN S es id).2 (iz f id none):=by
 unfold sN
 cases hn:cg es id with
 |none=>
  refine⟨R.k,fun x=>?_,R.keys⟩
  unfold iz
  by_cases e:x=id
  ·rw[if_pos e,e,hn];rfl
  ·rw[if_neg e,R.f]
 |some i=>
  obtain⟨j,hj⟩: ∃j,nk es id=some j:=by
   rw[Gg] at hn
   cases hq:nk es id with
   |none=>rw[hq] at hn;cases hn
   |some j=>exact⟨j,rfl⟩
  have hi:=R.lt hn
  obtain⟨r0,t0,h0,_⟩:=R.k.rc id i hn
  rw[hj]
  simp only
  generalize(S.getD i ⟨none,0⟩).bL=T
  obtain⟨dU,se,qw⟩:=List.findIdx?_eq_some_iff_getElem.1 hj
  have Tn:id=es[j].1:=by simpa using se
  have fe: ∀x,cg (es.eraseIdx j) x=if x=id then none else cg es x:=by
   intro x
   by_cases e:x=id
   ·rw[if_pos e]
    cases hq:cg (es.eraseIdx j) x with
    |none=>rfl
    |some k=>
     exfalso
     subst e
     obtain⟨a,ha,aM,ea⟩:=List.mem_eraseIdx_iff_getElem.1 (Gf hq)
     exact aM (Bs R.keys (i:=a) (j:=j) (by simpa using ha) (by simpa using dU) (by simp[ea,<-Tn]))
   ·rw[if_neg e]
    cases hq:cg es x with
    |none=>
     cases vv:cg (es.eraseIdx j) x with
     |none=>rfl
     |some k=>
      have:=Ye R.keys (List.mem_of_mem_eraseIdx (Gf vv))
      rw[hq] at this;cases this
    |some k=>
     refine Ye ((R.keys).sublist (List.Sublist.map _ (List.eraseIdx_sublist ..))) ?_
     obtain⟨a,ha,ea⟩:=List.getElem_of_mem (Gf hq)
     refine List.mem_eraseIdx_iff_getElem.2 ⟨a,ha,fun h=>?_,ea⟩
     subst h
     rw[ea] at Tn
     exact e Tn.symm
  have key: ∀{x k:Nat},cg es x=some k->x≠id-> ¬i=k:=by
   intro x k hx e he
   subst he
   obtain⟨r1,t1,h1,_⟩:=R.k.rc x i hx
   rw[h0] at h1;cases h1;exact e rfl
  refine⟨⟨fun x k hx=>?_,fun x k r t hx=>?_,fun x k hx=>?_⟩,fun x=>?_,(R.keys).sublist (List.Sublist.map _ (List.eraseIdx_sublist ..))⟩
  ·rw[fe] at hx
   split at hx
   ·cases hx
   ·rename_i e
    obtain⟨r1,t1,h1,h2⟩:=R.k.rc x k hx
    exact⟨r1,t1,by rw[List.getElem?_set_ne (key hx e),h1],h2⟩
  ·rw[fe]
   by_cases e:i=k
   ·subst e
    rw[List.getElem?_set_self hi] at hx;cases hx
   ·rw[List.getElem?_set_ne e] at hx
    have:=R.k.idx x k r t hx
    rw[if_neg ?_]
    ·exact this
    ·intro h;subst h;rw[hn] at this;cases this;exact e rfl
  ·rw[fe] at hx
   split at hx
   ·cases hx
   ·exact R.k.id x k hx
  ·unfold iz
   rw[fe]
   by_cases e:x=id
   ·rw[if_pos e,if_pos e];rfl
   ·rw[if_neg e,if_neg e,R.f]
    cases hx:cg es x with
    |none=>rfl
    |some k=>rw[Option.bind_some,Option.bind_some,List.getElem?_set_ne (key hx e)]
end
section
open Go
variable {P:Program} {h:aa}
def AA (h:aa) (ab mb lb ch N:Nat) (f:Nat->Option (List UInt8)):Prop:= ∃S es,ez h ab mb lb ch S es/\kE S es f/\S.length<=N/\lb<h.next
variable {ab mb lb ch N:Nat} {f:Nat->Option (List UInt8)}
theorem AA.lt (A:AA h ab mb lb ch N f):ab<h.next/\mb<h.next/\ab≠mb/\lb<h.next:=by
 obtain⟨S,es,A,_,_,hb⟩:=A
 exact⟨A.l1,A.l2,A.n1,hb⟩
theorem AA.bN (A:AA h ab mb lb ch N f) {h':aa} (hn:h.next<=h'.next) (h1:h'.get ab=h.get ab) (h2:h'.get mb=h.get mb) (h3:lb<h.next->h'.get lb=h.get lb) {M:Nat} (hM:N<=M):AA h' ab mb lb ch M f:=by
 obtain⟨S,es,A,R,hl,hb⟩:=A
 exact⟨S,es,A.bN hn h1 h2 (fun hS=>h3 (A.wZ hS).2.2.1),R,by omega,by omega⟩
theorem AA.old (A:AA h ab mb lb ch N f) {h':aa} (o:Old h h'):AA h' ab mb lb ch N f:=A.bN o.next (o.get _ A.lt.1) (o.get _ A.lt.2.1) (fun hl=>o.get _ hl) (Nat.le_refl _)
theorem AA.fn (A:AA h ab mb lb ch N f) {g:Nat->Option (List UInt8)} (hg: ∀x,f x=g x):AA h ab mb lb ch N g:=by
 have:f=g:=funext hg
 rw[<-this];exact A
theorem AA.new (ok:ax P tb) {v:Nat}: ∃h',an P 33 [.int .u8 v] h (.ptr (h.next+1) 0) h'/\AA h' (h.next+1) h.next (h.next+1) v 0 (fun _=>none)/\h'.next=h.next+2/\Old h h':=by
 obtain⟨h',c,A,e,o⟩:=ava ok (h:=h) (v:=v)
 obtain⟨lv,t1,t2⟩:=A.top
 have A':ez h' (h.next+1) h.next (h.next+1) v [] []:=⟨⟨lv,t1,by rcases t2 with t2|t2;exact .inl t2;exact absurd rfl t2.1⟩,A.map,A.l1,A.l2,A.n1,A.small⟩
 refine⟨h',c,⟨[],[],A',⟨⟨fun id i hi=>?_,fun id i r t hi=>?_,fun id i hi=>?_⟩,fun id=>rfl,by simp⟩,by simp,A.l1⟩,e,o⟩
 ·cases hi
 ·simp at hi
 ·cases hi
theorem AA.get (ok:ax P tb) (A:AA h ab mb lb ch N f) {id:Nat}:an P 45 [.ptr ab 0, .int .u64 id] h (match f id with|some r=> .ay [.vs (BS r) .ao, .int .i64 0]|none=> .ay [.vs [] .ao, .int .i64 7]) h:=by
 obtain⟨S,es,A,R,hl,hb⟩:=A
 have:=avb ok A (id:=id) (fun i hi=>by obtain⟨rec,bL,h1,h2⟩:=R.k.rc id i hi;exact⟨rec,bL,h1,by omega⟩)
 rw[R.f]
 cases hq:(cg es id).bind fun i=>(S[i]?).bind (·.r) with
 |none=>rw[hq] at this;exact this
 |some r=>rw[hq] at this;exact this
theorem AA.put (ok:ax P tb) (A:AA h ab mb lb ch N f) {id:Nat} {x:UInt8} {rec:List UInt8} {t:aG} (aJ:id<2^64) (hv:x.toNat=ch) (hr:rec.length<999) (hN:N<2^19):
 ∃h',an P 35 [.ptr ab 0, .int .u64 id, .vs (BS (x::rec)) t] h (.int .i64 0) h'/\ ∃aT,AA h' ab mb aT ch (N+1) (iz f id (some (x::rec)))/\(aT=lb\/h.next<=aT)/\jf h h' ab mb lb:=by
 obtain⟨S,es,A,R,hl,hb⟩:=A
 obtain⟨h',c,aT,A',h1,h2⟩:=au9 ok A (id:=id) (x:=x) (rec:=rec) (t:=t) hv (by omega) (by omega) (fun i hi=>R.lt hi)
 have aM:(lG S es id (x::rec)).1≠[]:=by
  intro e
  have e:=congrArg List.length e
  unfold lG at e
  have:=(BP (S:=S)).1
  split at e
  ·rename_i i hi;have:=R.lt hi;simp at e;subst e;simp at this
  ·simp at e;rw[e] at this;simp at this
 refine⟨h',c,aT,⟨_,_,A',R.put aJ (by simp;omega),?_,(A'.wZ aM).2.2.1⟩,h1,h2⟩
 unfold lG
 have:=(BP (S:=S)).2
 split<;>simp<;>omega
theorem AA.drop (ok:ax P tb) (A:AA h ab mb lb ch N f) {id:Nat}: ∃e h',an P 145 [.ptr ab 0, .int .u64 id] h (.int .i64 e) h'/\AA h' ab mb lb ch N (iz f id none)/\jf h h' ab mb lb:=by
 obtain⟨S,es,A,R,hl,hb⟩:=A
 obtain⟨e,h',c,A',h1⟩:=atu ok A (id:=id) (fun i hi=>R.lt hi)
 refine⟨e,h',c,⟨_,_,A',R.drop,?_,Nat.lt_of_lt_of_le hb h1.1⟩,h1⟩
 unfold sN
 split<;>simp<;>omega
theorem AA.ids (ok:ax P tb) (A:AA h ab mb lb ch N f) {l:List Nat} (hl:l.Pairwise (· < ·)) (hm: ∀id,id∈l↔(f id).isSome=true) (h0:l≠[]) (eE:l.length<=12):an P 31 [.ptr ab 0] h (.vs ((aH .u64).R l) .ao) h:=by
 obtain⟨S,es,A,R,hN,_⟩:=A
 have he:=ZC R hl hm
 have:=ahw ok A (fun e=>h0 (by rw[<-he,e];rfl)) (by rw[<-t9.length_eq,he];exact eE)
 rwa [he] at this
theorem AA.bytes (ok:ax P tb) (A:AA h ab mb lb ch N f) {l:List Nat} (hl:l.Pairwise (· < ·)) (hm: ∀id,id∈l↔(f id).isSome=true) (h0:l≠[]) (eE:l.length<=12):an P 36 [.ptr ab 0] h (.vs (BS (l.flatMap fun id=>be id 8++cO ((f id).getD []))) .ao) h:=by
 obtain⟨S,es,A,R,hN,_⟩:=A
 have he:=ZC R hl hm
 have:=aqH ok A (fun e=>h0 (by rw[<-he,e];rfl)) (by rw[<-t9.length_eq,he];exact eE) R.k
 rw[he] at this
 have e2:pU S es l=l.flatMap fun id=>be id 8++cO ((f id).getD []):=by
  unfold pU
  congr 1
  funext id
  congr 2
  rw[R.f]
  unfold CK
  cases(cg es id).bind fun i=>(S[i]?).bind (·.r)<;>rfl
 rwa [e2] at this
def bI (l:List UInt8):List Int:=l.map fun b=>(b.toNat:Int)
theorem Zm {l:List UInt8}:kQ (bI l)=BS l:=by simp[kQ,bI,BS]
theorem wB {l:List UInt8}:(bI l).length=l.length:=by simp[bI]
def SG (h:aa) (bs bm bl bp M:Nat) (g:Nat->Option (List UInt8)):Prop:= ∃A,gJ h bs bm bl bp 512 A/\(∀id:Nat,gE A id=(g id).map bI)/\jl A<=4*M
variable {bs bm bl bp M:Nat} {g:Nat->Option (List UInt8)}
theorem SG.lt (S:SG h bs bm bl bp M g):bs<h.next/\bm<h.next/\bl<h.next/\bp<h.next:=by
 obtain⟨A,S,_⟩:=S
 exact S.lt
theorem gJ.same {A:Mem} {n:Nat} (S:gJ h bs bm bl bp n A) {h':aa} (hn:h.next<=h'.next) (h1:h'.get bs=h.get bs) (h2:h'.get bm=h.get bm) (h3:h'.get bl=h.get bl) (h4:h'.get bp=h.get bp):gJ h' bs bm bl bp n A:=by
 obtain⟨fs,ts,S,R⟩:=S
 exact⟨fs,ts,⟨by rw[h1,S.top],⟨by rw[h2,S.mem.top],by rw[h3,S.mem.row],S.mem.ne,S.mem.len,S.mem.small⟩,by rw[h4,S.map],S.n1,S.n2,S.n3,S.n4,S.n5,Nat.lt_of_lt_of_le S.l1 hn,Nat.lt_of_lt_of_le S.l2 hn,Nat.lt_of_lt_of_le S.l3 hn,Nat.lt_of_lt_of_le S.l4 hn,S.tn⟩,R⟩
theorem SG.bN (S:SG h bs bm bl bp M g) {h':aa} (hn:h.next<=h'.next) (h1:h'.get bs=h.get bs) (h2:h'.get bm=h.get bm) (h3:h'.get bl=h.get bl) (h4:h'.get bp=h.get bp) {M':Nat} (hM:M<=M'):SG h' bs bm bl bp M' g:=by
 obtain⟨A,S,hg,hu⟩:=S
 exact⟨A,S.same hn h1 h2 h3 h4,hg,by omega⟩
theorem SG.old (S:SG h bs bm bl bp M g) {h':aa} (o:Old h h'):SG h' bs bm bl bp M g:=S.bN o.next (o.get _ S.lt.1) (o.get _ S.lt.2.1) (o.get _ S.lt.2.2.1) (o.get _ S.lt.2.2.2) (Nat.le_refl _)
theorem SG.fn (S:SG h bs bm bl bp M g) {g':Nat->Option (List UInt8)} (hg: ∀x,g x=g' x):SG h bs bm bl bp M g':=by
 have:g=g':=funext hg
 rw[<-this];exact S
theorem SG.new (ok:ax P tb): ∃bs bm bl bp h',an P 39 [.int .i64 512] h (.ptr bs 0) h'/\SG h' bs bm bl bp 0 (fun _=>none)/\h.next<=bs/\h.next<=bm/\h.next<=bl/\h.next<=bp/\Old h h':=by
 obtain⟨bs,bm,bl,bp,h',c,S,h1,h2,h3,h4,h5,h6⟩:=atA ok h 512
 exact⟨bs,bm,bl,bp,h',c,⟨[],S,fun _=>rfl,by simp[jl]⟩,h1,h2,h3,h4,h5,h6⟩
def yt (h h':aa) (bl bp:Nat):Prop:=h.next<=h'.next/\ ∀b,b<h.next->b≠bl->b≠bp->h'.get b=h.get b
theorem al3 {A:Mem} {id x:Int} {d:List Int} (hn:gE A id=none):gE (A++[(id,d)]) x=if x=id then some d else gE A x:=by
 unfold gE at*
 rw[List.find?_append]
 by_cases h:x=id
 ·subst h
  rw[if_pos rfl]
  rw[Option.map_eq_none_iff] at hn
  rw[hn];simp
 ·rw[if_neg h];simp[h]
theorem SG.map (ok:ax P tb) (S:SG h bs bm bl bp M g) {id n:Nat} (hn:n<=64) (hM:M<128): ∃e h',an P 42 [.ptr bs 0, .int .u64 id, .int .i64 n] h (.int .i64 e) h'/\SG h' bs bm bl bp (M+1) (if(g id).isSome then g else iz g id (some (List.replicate n 0)))/\yt h h' bl bp:=by
 obtain⟨A,S,hg,hu⟩:=S
 obtain⟨h',c,S',h1,h2⟩:=atB ok S id n
 refine⟨_,h',c,⟨_,S',?_,?_⟩,h1,h2⟩
 ·intro x
  unfold wC
  rw[if_neg (by omega),hg]
  cases hq:g id with
  |some d=>simp only[Option.map_some,Option.isSome_some,if_true];exact hg x
  |none=>
   simp only[Option.map_none,Option.isSome_none,Bool.false_eq_true,if_false]
   rw[if_neg (by unfold jy;omega),al3 (by rw[hg,hq];rfl),iz]
   by_cases e:x=id
   ·rw[if_pos (by omega),if_pos e];simp[bI]
   ·rw[if_neg (by omega),if_neg e,hg]
 ·unfold wC
  rw[if_neg (by omega)]
  split
  ·show jl A<=_;omega
  ·split
   ·show jl A<=_;omega
   ·show jl (A++_)<=_
    unfold jl at*
    simp only[List.map_append,List.map_cons,List.map_nil,List.sum_append,List.sum_cons,List.sum_nil,jy,List.length_replicate,Int.toNat_natCast] at*
    omega
theorem gJ.keys {A:Mem} {n:Nat} (S:gJ h bs bm bl bp n A):(A.map (·.1)).Nodup:=by
 obtain⟨fs,ts,S,R⟩:=S
 rw[R.sk,List.map_map]
 exact R.keys
theorem YG {id x:Int}: ∀{A:Mem},(A.map (·.1)).Nodup->gE (rL A id) x=if x=id then none else gE A x
 |[],_=>by simp[gE,rL]
 |e::A,hn=>by
  have jb:=List.nodup_cons.1 hn
  have ih:=YG (id:=id) (x:=x) (A:=A) jb.2
  unfold gE rL at*
  rw[List.eraseP_cons]
  by_cases h:(id==e.1)=true
  ·rw[h,cond_true]
   have he:id=e.1:=by simpa using h
   by_cases hx:x=id
   ·rw[if_pos hx,Option.map_eq_none_iff,List.find?_eq_none]
    intro y hy
    have:e.1≠y.1:=fun h=>jb.1 (List.mem_map.2 ⟨y,hy,h.symm⟩)
    simp;omega
   ·rw[if_neg hx,List.find?_cons]
    have:(x==e.1)=false:=by simp;omega
    rw[this]
  ·have hf:(id==e.1)=false:=by simpa using h
   rw[hf,cond_false,List.find?_cons,List.find?_cons]
   have he: ¬id=e.1:=by simpa using h
   by_cases hx:x=e.1
   ·have:(x==e.1)=true:=by simpa using hx
    rw[this,if_neg (by omega)]
   ·have:(x==e.1)=false:=by simpa using hx
    rw[this];exact ih
theorem XL {id:Int}: ∀{A:Mem},jl (rL A id)<=jl A
 |[]=>by simp[rL]
 |e::A=>by
  have ih:=XL (id:=id) (A:=A)
  unfold jl rL at*
  rw[List.eraseP_cons]
  cases id==e.1
  ·simp only[cond_false,List.map_cons,List.sum_cons];omega
  ·simp
theorem Zq {id x:Int} {off:Nat} {v:List Int}: ∀{A:Mem},gE (uT A id off v) x=if x=id then(gE A id).map (fun d=>d.take off++v++d.drop (off+v.length)) else gE A x
 |[]=>by simp[gE,uT]
 |e::A=>by
  have ih:=Zq (id:=id) (x:=x) (off:=off) (v:=v) (A:=A)
  unfold gE uT at*
  rw[List.map_cons,List.find?_cons,List.find?_cons]
  by_cases h:(id==e.1)=true
  ·have he:id=e.1:=by simpa using h
   rw[if_pos h]
   by_cases hx:x=id
   ·have:(x==e.1)=true:=by simp;omega
    simp only[this]
    rw[if_pos hx,h];rfl
   ·have:(x==e.1)=false:=by simp;omega
    simp only[this]
    rw[ih,if_neg hx,if_neg hx,List.find?_cons,this]
  ·have he: ¬id=e.1:=by simpa using h
   rw[if_neg h]
   have hf:(id==e.1)=false:=by simpa using h
   by_cases hx:x=e.1
   ·have:(x==e.1)=true:=by simpa using hx
    rw[if_neg (by omega)]
    simp only[this,List.find?_cons]
   ·have:(x==e.1)=false:=by simpa using hx
    simp only[this,hf,List.find?_cons]
    exact ih
theorem YD {id:Int} {off:Nat} {v:List Int}: ∀{A:Mem},(∀d,(id,d)∈A->off+v.length<=d.length)->jl (uT A id off v)=jl A
 |[],_=>rfl
 |e::A,hd=>by
  have ih:=YD (id:=id) (off:=off) (v:=v) (A:=A) (fun d h=>hd d (List.mem_cons_of_mem _ h))
  unfold jl uT at*
  simp only[List.map_cons,List.sum_cons,ih]
  congr 1
  by_cases h:(id==e.1)=true
  ·have he:id=e.1:=by simpa using h
   have:=hd e.2 (by rw[he];simp)
   rw[if_pos h]
   congr 1
   simp;omega
  ·rw[if_neg h]
theorem al2 {id:Int} {d:List Int} {A:Mem} (hk:(A.map (·.1)).Nodup) (hm:(id,d)∈A):gE A id=some d:=by
 unfold gE
 cases hq:A.find? (fun e=>id==e.1) with
 |none=>rw[List.find?_eq_none] at hq;exact absurd (hq _ hm) (by simp)
 |some e=>
  have h1:=List.find?_some hq
  have h2:=List.mem_of_find?_eq_some hq
  obtain⟨i,hi,e1⟩:=List.getElem_of_mem hm
  obtain⟨j,hj,e2⟩:=List.getElem_of_mem h2
  have:=Bs hk (i:=i) (j:=j) (by simpa using hi) (by simpa using hj) (by simp[e1,e2];simpa using h1)
  subst this
  rw[e1] at e2;rw[<-e2];rfl
theorem SG.Px (ok:ax P tb) (S:SG h bs bm bl bp M g) {id:Nat}: ∃e h',an P 146 [.ptr bs 0, .int .u64 id] h (.int .i64 e) h'/\SG h' bs bm bl bp M (iz g id none)/\yt h h' bl bp:=by
 obtain⟨A,S,hg,hu⟩:=S
 obtain⟨h',c,S',h1,h2⟩:=ane ok S id
 have hk:=S.keys
 refine⟨_,h',c,⟨_,S',?_,?_⟩,h1,h2⟩
 ·intro x
  unfold vT
  rw[hg,iz]
  cases hq:g id with
  |none=>
   by_cases e:x=id
   ·rw[if_pos e,e];show gE A id=_;rw[hg,hq]
   ·rw[if_neg e];exact hg x
  |some d=>
   show gE (rL A id) x=_
   rw[YG hk]
   by_cases e:x=id
   ·rw[if_pos (by omega),if_pos e];rfl
   ·rw[if_neg (by omega),if_neg e,hg]
 ·unfold vT
  have:=XL (id:=id) (A:=A)
  split
  ·show jl A<=_;omega
  ·show jl (rL A id)<=_;omega
theorem SG.len (ok:ax P tb) (S:SG h bs bm bl bp M g) {id:Nat} {d:List UInt8} (hd:g id=some d):an P 47 [.ptr bs 0, .int .u64 id] h (.ay [.int .i64 d.length, .int .i64 0]) h:=by
 obtain⟨A,S,hg,hu⟩:=S
 have:=atC ok S id
 rw[hg,hd] at this
 simpa [wB] using this
theorem SG.read (ok:ax P tb) (S:SG h bs bm bl bp M g) {id off n:Nat} {d:List UInt8} (hd:g id=some d) (aB:off+n<=d.length):an P 48 [.ptr bs 0, .int .u64 id, .int .i64 off, .int .i64 n] h (.ay [.vs (BS ((d.drop off).take n)) .ao, .int .i64 0]) h:=by
 obtain⟨A,S,hg,hu⟩:=S
 have:=aqJ ok S (id:=id) (off:=off) (n:=n) (d:=bI d) (by unfold rr;rw[hg,hd];simp only[Option.map_some,wB];rw[if_neg (by omega)])
 have e:((bI d).drop off).take n=bI ((d.drop off).take n):=by simp[bI,List.map_take,List.map_drop]
 rw[e,Zm] at this
 exact this
theorem SG.amg (ok:ax P tb) (S:SG h bs bm bl bp M g) {id:Nat} {off n:Int} {d:List UInt8} (hd:g id=some d) (aB:off<0\/n<0\/(d.length:Int)<off\/(d.length:Int)-off<n):an P 48 [.ptr bs 0, .int .u64 id, .int .i64 off, .int .i64 n] h (.ay [.vs [] .full, .int .i64 11]) h:=by
 obtain⟨A,S,hg,hu⟩:=S
 exact aiP ok S (id:=id) (off:=off) (n:=n) (e:=11) (by unfold rr;rw[hg,hd];simp only[Option.map_some,wB];rw[if_pos aB]) (by omega)
def xF (d:List UInt8) (off:Nat) (v:List UInt8):List UInt8:=d.take off++v++d.drop (off+v.length)
theorem SG.write (ok:ax P tb) (S:SG h bs bm bl bp M g) {id off:Nat} {d v:List UInt8} {t:aG} (hd:g id=some d) (aB:off+v.length<=d.length): ∃h',an P 43 [.ptr bs 0, .int .u64 id, .int .i64 off, .vs (BS v) t] h (.int .i64 0) h'/\SG h' bs bm bl bp M (iz g id (some (xF d off v)))/\yt h h' bl bp:=by
 obtain⟨A,S,hg,hu⟩:=S
 obtain⟨h',c,S',h1,h2⟩:=anc ok S (id:=id) (off:=off) (vs:=bI v) (d:=bI d) (tl:=t) (by unfold rr;rw[hg,hd];simp only[Option.map_some,wB];rw[if_neg (by omega)])
 rw[Zm] at c
 refine⟨h',c,⟨_,S',?_,?_⟩,h1,fun b hb k1 _=>h2 b hb k1⟩
 ·intro x
  rw[Zq,iz,hg]
  by_cases e:x=id
  ·rw[if_pos (by omega),if_pos e,hd]
   simp[xF,bI,List.map_take,List.map_drop]
  ·rw[if_neg (by omega),if_neg e,hg]
 ·rw[YD]
  ·exact hu
  ·intro d' nN
   have:=al2 S.keys nN
   rw[hg,hd] at this
   cases this
   rw[wB,wB];exact aB
theorem SG.akP (ok:ax P tb) (S:SG h bs bm bl bp M g) {id:Nat} {off:Int} {d v:List UInt8} {t:aG} (hd:g id=some d) (aB:off<0\/(d.length:Int)<off\/(d.length:Int)-off<v.length):an P 43 [.ptr bs 0, .int .u64 id, .int .i64 off, .vs (BS v) t] h (.int .i64 11) h:=by
 obtain⟨A,S,hg,hu⟩:=S
 refine ah5 ok S (id:=id) (off:=off) (e:=11) ?_ (by omega)
 unfold rr
 rw[hg,hd]
 simp only[Option.map_some,wB,cr]
 rw[if_pos (by rcases aB with h|h|h<;>omega)]
end
section
open Go
variable {P:Program} {h:aa}
structure Th where
 ak:Lb
 st:St
 own:Int
 dj:Int
 id:Nat
 to:Nat
 done:Int
 n:Int
 new:Bool
 deriving DecidableEq
def Th.c (x:Th) (t:Nat->aG):List AV:=[.int .u8 x.ak.d, .vs (aw.R x.ak.ps) (t 0), .vs ((aH .u16).R x.st.s) (t 1), .vs ((aH .u16).R x.st.i) (t 2), .vs ((aH .u16).R x.st.o) (t 3), .int .i64 x.own, .int .i64 x.dj, .int .u64 x.id, .int .u64 x.to, .int .i64 x.done, .int .i64 x.n, .bool x.new]
def aS:Nat->aG:=fun i=>if i=0 then .ao else .full
def aX (τ:Nat->aG) (l:List Th):List (List AV):=l.map fun x=>x.c τ
theorem ma {τ:Nat->aG} {l:List Th}: ∀r∈aX τ l,r.length=12:=fun r hr=>by
 obtain⟨x,_,rfl⟩:=List.mem_map.1 hr;rfl
theorem iX {τ:Nat->aG} {l:List Th}:(aX τ l).length=l.length:=by simp[aX]
theorem YM {τ:Nat->aG} {l:List Th} {i:Nat} (hi:i<l.length):(aX τ l)[i]? =some (l[i].c τ):=by simp[aX,List.getElem?_eq_getElem hi]
def bg (l:List Ob) (id:Nat):Option Ob:=l.find? fun o=>o.id==id
structure jd (o:Ob):Prop where
 ok:JW o
 may:fC o=true
 norm:iZ o=o
structure KS (ah:List Ob):Prop where
 bY:ah.Pairwise (·.id< ·.id)
 val: ∀o∈ah,jd o
theorem lg {l:List Ob} {id:Nat} {o:Ob} (h:bg l id=some o):o∈l/\o.id=id:=⟨List.mem_of_find?_eq_some h,by simpa using List.find?_some h⟩
theorem lj {l:List Ob} (hs:l.Pairwise (·.id< ·.id)) {o:Ob} (ho:o∈l):bg l o.id=some o:=by
 induction l with
 |nil=>cases ho
 |cons x l ih=>
  have iF:=List.pairwise_cons.1 hs
  unfold bg at ih ⊢
  rw[List.find?_cons]
  rcases List.mem_cons.1 ho with rfl|ho
  ·simp
  ·have:=iF.1 o ho
   have hf:(x.id==o.id)=false:=by simp;omega
   rw[hf];exact ih iF.2 ho
def zZ (f:Nat->Option (List UInt8)) (ah:List Ob):Prop:= ∀id,match bg ah id with
 |none=>f id=none
 |some o=> ∃d,d.length=o.data.length/\f id=some (gB {o with data:=d})
def eF (ah:List Ob) (id:Nat):Option (List UInt8):=(bg ah id).bind fun o=>if o.kind=2 then some o.data else none
structure KA where
 kb:Nat
 tb:Nat
 ab:Nat
 mb:Nat
 bs:Nat
 bm:Nat
 bl:Nat
 bp:Nat
def FK (a:KA) (b:Nat):Prop:=b=a.kb\/b=a.tb
def FA (a:KA) (lb b:Nat):Prop:=b=a.ab\/b=a.mb\/b=lb
def FS (a:KA) (b:Nat):Prop:=b=a.bs\/b=a.bm\/b=a.bl\/b=a.bp
structure KH (h:aa) (a:KA) (lb N M:Nat) (ai:List Th) (ah:List Ob) (g:Nat->Option (List UInt8)):Prop where
 top:h.get a.kb=some (.cells [.rs a.tb 0 ai.length 12, .ptr a.ab 0, .ptr a.bs 0])
 cj:h.get a.tb=some (.cells (aX aS ai).flatten)
 ar: ∃f,AA h a.ab a.mb lb 1 N f/\zZ f ah
 sp:SG h a.bs a.bm a.bl a.bp M g
 l1:a.kb<h.next
 l2:a.tb<h.next
 AW:a.kb≠a.tb
 k7: ∀b,FA a lb b-> ¬FS a b
 kZ: ∀b,FK a b-> ¬FA a lb b
 nQ: ∀b,FK a b-> ¬FS a b
 ks:KS ah
def KF (h h':aa) (a:KA) (lb:Nat):Prop:=h.next<=h'.next/\ ∀b,b<h.next-> ¬FK a b-> ¬FA a lb b-> ¬FS a b->h'.get b=h.get b
variable {a:KA} {lb N M:Nat} {ai:List Th} {ah:List Ob} {g:Nat->Option (List UInt8)}
theorem KH.bN (K:KH h a lb N M ai ah g) {h':aa} (hn:h.next<=h'.next) (hk: ∀b,b<h.next->FK a b\/FA a lb b\/FS a b->h'.get b=h.get b) {N' M':Nat} (hN:N<=N') (hM:M<=M'):KH h' a lb N' M' ai ah g:=by
 obtain⟨f,A,R⟩:=K.ar
 have S:=K.sp
 refine⟨by rw[hk _ K.l1 (.inl (.inl rfl)),K.top],by rw[hk _ K.l2 (.inl (.inr rfl)),K.cj],⟨f,A.bN hn (hk _ A.lt.1 (.inr (.inl (.inl rfl)))) (hk _ A.lt.2.1 (.inr (.inl (.inr (.inl rfl))))) (fun hl=>hk _ hl (.inr (.inl (.inr (.inr rfl))))) hN,R⟩,
  S.bN hn (hk _ S.lt.1 (.inr (.inr (.inl rfl)))) (hk _ S.lt.2.1 (.inr (.inr (.inr (.inl rfl))))) (hk _ S.lt.2.2.1 (.inr (.inr (.inr (.inr (.inl rfl)))))) (hk _ S.lt.2.2.2 (.inr (.inr (.inr (.inr (.inr rfl)))))) hM,Nat.lt_of_lt_of_le K.l1 hn,Nat.lt_of_lt_of_le K.l2 hn,K.AW,K.k7,K.kZ,K.nQ,K.ks⟩
theorem KH.old (K:KH h a lb N M ai ah g) {h':aa} (o:Old h h'):KH h' a lb N M ai ah g:=K.bN o.next (fun b hb _=>o.get b hb) (Nat.le_refl _) (Nat.le_refl _)
theorem KF.refl:KF h h a lb:=⟨Nat.le_refl _,fun _ _ _ _ _=>rfl⟩
theorem KF.old {h':aa} (o:Old h h'):KF h h' a lb:=⟨o.next,fun b hb _ _ _=>o.get b hb⟩
theorem KF.trans {h1 h2:aa} {aT:Nat} (x:KF h h1 a lb) (y:KF h1 h2 a aT) (hl:aT=lb\/h.next<=aT):KF h h2 a lb:=⟨Nat.le_trans x.1 y.1,fun b hb h1 h2 h3=>by
 have:=x.1
 rw[y.2 b (by omega) h1 ?_ h3,x.2 b hb h1 h2 h3]
 rintro(e|e|e)
 ·exact h2 (.inl e)
 ·exact h2 (.inr (.inl e))
 ·rcases hl with hl|hl
  ·exact h2 (.inr (.inr (e.trans hl)))
  ·omega⟩
theorem GP (ok:ax P tb) {x m:Int}:an P 26 [.int .i64 x, .int .i64 m] h (.bool (decide (0<=x)&&decide (x<=m))) h:=by
 refine ok.keeps (rf:=Bc) rfl (Nat.le_of_ble_eq_true rfl) rfl ?_
 by_cases h0:0<=x
 ·simp+decide only[st,xv,Bc,Ss,Sr,h0]
 ·simp+decide only[st,xv,Bc,Ss,Sr,h0]
  simp
theorem Gd (ok:ax P tb) {l:Lb} {t:aG} (hl:l.ps.length<2^30):an P 29 [.agg (l.c t)] h (.agg (l.c .ao)) h:=by
 refine ok.eW (rf:=Bb) rfl (Nat.le_of_ble_eq_true rfl) (by simp only[Lb.c,AV.bD,AV.b8,aw.iw];rfl) ?_
 simp+decide only[st,xv,Bb,afY,Lb.c]
 generalize hX:aa.at _ _ _=X
 have xo:Old h X:=by rw[<-hX];exact((Old.refl h).at (Nat.le_refl _)).at (by omega)
 have x0:cellsOf X h.next=some [.int .u8 l.d, .vs (aw.R l.ps) t]:=by rw[<-hX];exact av (by simp[aa.at])
 have x1:cellsOf X (h.next+1)=some [.int .u8 0, .vs [] .full]:=by rw[<-hX];exact av (by simp[aa.at])
 have xn:X.next=h.next+2:=by rw[<-hX];simp[aa.at]
 have n0:h.next<X.next:=by omega
 have n1:h.next+1<X.next:=by omega
 refine qO 5 7 rfl (by omega) rfl ?_
 simp+decide only[st,xv,Bb,afX,x0,x1,n0,n1]
 refine gX (ME aw ok rfl (l:=l.ps) (t:=t) (by omega) (by omega)) (cN (Nat.le_refl _)) ?_
 simp+decide only[st,xv,x0,x1,n0,n1,bG]
 refine⟨(jv n1).2 (cN (Nat.le_refl _)),?_⟩
 refine⟨by simp only[AV.strip,AV.bH,aw.fx],fun b hb=>?_⟩
 rw[if_neg (by omega),if_pos (by omega)]
 exact xo.get b hb
theorem LN {o:Ob} (hm:fC o=true):(gB o).length<990:=by
 have hl:=Gx (LO hm).1
 have hp:=By (l:=o.ak)
 have ht:(jV o).length<300:=by
  unfold jV
  split
  ·simp[bR]
  split
  ·rename_i h2;have:=sE hm h2;simp[cO,bR];omega
  split
  ·rename_i h3;have:=GA (Ge hm h3);rw[Br];omega
  ·rename_i h1 h2 h3
   have h4:o.kind=4:=by rcases ub hm with h|h|h|h<;>first|exact absurd h ‹_› |exact h
   have gG:=vP (yH hm h4)
   have bP: ∀(m:List (List UInt8)),(∀x∈m,x.length<=16)->(m.flatMap cO).length<=18*m.length:=by
    intro m
    induction m with
    |nil=>intro _;simp
    |cons c m ih=>
     intro hm
     have h1:=ih (fun x hx=>hm x (List.mem_cons_of_mem _ hx))
     have h2:=hm c (List.mem_cons_self ..)
     simp only[List.flatMap_cons,List.length_append,cO,bR,List.length_cons] at h1 ⊢;omega
   have:=bP o.ring gG.2
   unfold iY
   rw[List.length_append,bR];omega
 unfold gB
 simp only[List.length_append,List.length_cons,List.length_nil,bR,hp];omega
theorem jd.data {o:Ob} (v:jd o) {d:List UInt8} (hd:d.length=o.data.length):jd {o with data:=d}:=by
 have hm:fC {o with data:=d}=fC o:=by
  unfold fC p7 m5
  simp only[hd]
 refine⟨⟨v.ok.ak,v.ok.id,v.ok.bV,v.ok.ring,v.ok.cat⟩,by rw[hm];exact v.may,?_⟩
 have hn:=v.norm
 cases o with
 |mk J5 kind ak bh used next data bV ring st=>
  unfold iZ at hn ⊢
  simp only at hn hd ⊢
  by_cases h2:kind=2
  ·have h1: ¬kind=1:=by omega
   rw[if_neg h1,if_pos h2] at hn ⊢
   simp only[Ob.mk.injEq,bf] at hn ⊢
   obtain⟨e1,e2,e3,e4,e5,e6,e7,e8,e9,Fz⟩:=hn
   exact⟨trivial,trivial,trivial,e4,e5,e6,trivial,e8,e9,Fz⟩
  ·have:data=[]:=by
    split at hn
    ·simp only[Ob.mk.injEq] at hn;exact hn.2.2.2.2.2.2.1.symm
    ·split at hn<;>(simp only[Ob.mk.injEq,bf] at hn;exact hn.2.2.2.2.2.2.1.symm)
   subst this
   have:d=[]:=List.length_eq_zero_iff.1 hd
   subst this
   exact hn
theorem jd.ant {o:Ob} (v:jd o) (h2:o.kind≠2):o.data=[]:=by
 have hn:=v.norm
 cases o with
 |mk J5 kind ak bh used next data bV ring st=>
  unfold iZ at hn
  simp only at hn h2 ⊢
  split at hn
  ·simp only[Ob.mk.injEq] at hn;exact hn.2.2.2.2.2.2.1.symm
  ·split at hn<;>(simp only[Ob.mk.injEq,bf] at hn;exact hn.2.2.2.2.2.2.1.symm)
theorem JH (ok:ax P tb) (K:KH h a lb N M ai ah (eF ah)) {id:Nat}:an P 32 [.ptr a.kb 0, .int .u64 id] h (match bg ah id with|some o=> .ay [.agg (o.c aK), .bool true]|none=> .ay [.agg (bf.c aK), .bool false]) h:=by
 refine ok.eW (rf:=pB) rfl (Nat.le_of_ble_eq_true rfl) (by split<;>(simp only[AV.bD,AV.b8,um];rfl)) ?_
 have c0:=av K.top
 have l1:=K.l1
 have hnk: ¬a.kb=h.next:=by omega
 simp+decide only[st,xv,pB,afP,Ji,c0,hnk]
 generalize hX:aa.at _ _ _=X
 have xo:Old h X:=by rw[<-hX];exact(Old.refl h).at (Nat.le_refl _)
 have Ub:cellsOf X h.next=some (bf.c (gg .full .full .full .full)):=by rw[<-hX];exact av (by simp[aa.at];rfl)
 have xn:X.next=h.next+1:=by rw[<-hX];simp[aa.at]
 have KX:=K.old xo
 obtain⟨f,A,R⟩:=KX.ar
 refine au (A.get ok) ?_
 have hR:=R id
 cases ho:bg ah id with
 |none=>
  rw[ho] at hR
  simp only at hR
  rw[hR]
  simp only[bf,Ob.c,gg,qj] at Ub
  simp+decide only[st,xv,pB,Ji,Sf,afO,Ub,xr,bG]
  refine⟨?_,fun b hb=>?_⟩
  ·rfl
  ·rw[if_neg (by omega)];exact xo.get b hb
 |some o=>
  rw[ho] at hR
  simp only at hR
  obtain⟨d,hd,hf⟩:=hR
  rw[hf]
  have v:=(KX.ks.val o (lg ho).1)
  have vd:=v.data hd
  simp+decide only[st,xv,pB,Ji,Sf,Se]
  refine au (aii ok vd.ok vd.may vd.norm) ?_
  simp+decide only[st,xv,pB,Se,afN,Ob.c,xr]
  generalize hY:aa.set _ _ _=Y
  have yo:Old X Y:=by rw[<-hY];exact((Old.refl X).at (Nat.le_refl _)).set (Nat.le_refl _)
  have y0:cellsOf Y h.next=some (bf.c (gg .full .full .full .full)):=by rw[<-Ub];unfold cellsOf;rw[yo.get _ (by omega)]
  have y1:cellsOf Y (h.next+1)=some (Ob.c {o with data:=d} aK):=by rw[<-hY,<-xn];exact av (by simp[aa.set,Ob.c])
  have yn:Y.next=h.next+2:=by rw[<-hY];simp[aa.at,aa.set];omega
  simp only[bf,Ob.c,gg,qj] at y0
  simp only[Ob.c] at y1
  have KY:=KX.old yo
  have c0Y:=av KY.top
  have nb: ¬(h.next=h.next+1):=by omega
  have fin: ∀{ρ:Env} {Z:aa} {t':Nat->aG},ρ 4= .ptr h.next 0->ρ 8= .ptr (h.next+1) 0->cellsOf Z h.next=some (bf.c (gg .full .full .full .full))->cellsOf Z (h.next+1)=some (o.c t')->(∀b,b<h.next->Z.get b=h.get b)->
   exec P Sa ρ Z (jj (WP P .ret (uB [.cell 4 true 13, .tmp 5] (.ay [.agg (o.c aK), .bool true]) h)) (uB [.cell 4 true 13, .tmp 5] (.ay [.agg (o.c aK), .bool true]) h) .normal):=by
   intro ρ Z t' r4 r8 z0 z1 zo
   simp only[bf,Ob.c,gg,qj] at z0
   simp only[Ob.c] at z1
   simp+decide only[st,xv,pB,Sa,r4,r8,z0,z1,xr,bG]
   refine⟨?_,fun b hb=>?_⟩
   ·show(AV.ay [.agg (o.c t'), .bool true]).strip=_
    simp only[AV.strip,AV.bH,yK]
   ·rw[if_neg (by omega)];exact zo b hb
  by_cases h2:o.kind=2
  ·have oN:eF ah id=some o.data:=by unfold eF;rw[ho];simp[h2]
   have hk:(o.kind=2)=True:=eq_true h2
   rw[xn]
   simp+decide only[st,xv,pB,Sd,hk,c0Y]
   refine au (KY.sp.len ok oN) ?_
   simp+decide only[st,xv,pB,Sd,Sb,c0Y]
   have jJ:=KY.sp.read ok (off:=0) (n:=o.data.length) oN (by omega)
   rw[List.drop_zero,List.take_of_length_le (Nat.le_refl _)] at jJ
   refine au jJ ?_
   simp+decide only[st,xv,pB,Sb,y1,xr]
   refine fin (t':=aK) rfl rfl ?_ ?_ fun b hb=>?_
   ·rw[show cellsOf (Y.set _ _) h.next=cellsOf Y h.next by simp only[cellsOf,aa.set];rw[if_neg nb],y0];rfl
   ·exact av (by simp[aa.set];rfl)
   ·simp only[aa.set]
    rw[if_neg (by omega),yo.get b (by omega),xo.get b hb]
  ·have pk:d=o.data:=by
    have:=v.ant h2
    rw[this] at hd ⊢
    exact List.length_eq_zero_iff.1 hd
   subst pk
   have hk:(o.kind=2)=False:=eq_false h2
   rw[xn]
   simp+decide only[st,xv,hk]
   exact fin (t':=aK) rfl rfl (by rw[y0];rfl) (by rw[y1];rfl) (fun b hb=>by rw[yo.get b (by omega),xo.get b hb])
def dp:List Ob->Ob->List Ob
 |[],o=>[o]
 |x::l,o=>if o.id<x.id then o::x::l else if x.id=o.id then o::l else x::dp l o
theorem Bz {o x:Ob}: ∀{l:List Ob},x∈dp l o->x=o\/x∈l
 |[],h=>by simpa [dp] using h
 |y::l,h=>by
  unfold dp at h
  split at h
  ·simpa using h
  split at h
  ·rcases List.mem_cons.1 h with h|h
   ·exact .inl h
   ·exact .inr (List.mem_cons_of_mem _ h)
  ·rcases List.mem_cons.1 h with h|h
   ·exact .inr (by simp[h])
   ·rcases Bz h with h|h
    ·exact .inl h
    ·exact .inr (List.mem_cons_of_mem _ h)
theorem Gt {o:Ob}: ∀{l:List Ob},l.Pairwise (·.id< ·.id)->(dp l o).Pairwise (·.id< ·.id)
 |[],_=>by simp[dp]
 |y::l,h=>by
  have h':=List.pairwise_cons.1 h
  unfold dp
  split
  ·rename_i aC
   refine List.pairwise_cons.2 ⟨fun z hz=>?_,h⟩
   rcases List.mem_cons.1 hz with rfl|hz
   ·exact aC
   ·have:=h'.1 z hz;omega
  split
  ·rename_i he
   exact List.pairwise_cons.2 ⟨fun z hz=>by have:=h'.1 z hz;omega,h'.2⟩
  ·refine List.pairwise_cons.2 ⟨fun z hz=>?_,Gt h'.2⟩
   rcases Bz hz with rfl|hz
   ·omega
   ·exact h'.1 z hz
theorem nV {o:Ob} {id:Nat}: ∀{l:List Ob},l.Pairwise (·.id< ·.id)->bg (dp l o) id=if id=o.id then some o else bg l id
 |[],_=>by
  unfold dp bg
  rw[List.find?_cons]
  by_cases h:id=o.id
  ·rw[if_pos h];simp[h]
  ·rw[if_neg h]
   have:(o.id==id)=false:=by simp;omega
   rw[this]
 |y::l,hs=>by
  have h':=List.pairwise_cons.1 hs
  have ih:=nV (o:=o) (id:=id) h'.2
  unfold dp
  unfold bg at ih ⊢
  split
  ·rw[List.find?_cons]
   by_cases h:id=o.id
   ·rw[if_pos h];simp[h]
   ·rw[if_neg h]
    have:(o.id==id)=false:=by simp;omega
    rw[this]
  split
  ·rename_i he
   rw[List.find?_cons]
   by_cases h:id=o.id
   ·rw[if_pos h];simp[h]
   ·rw[if_neg h]
    have:(o.id==id)=false:=by simp;omega
    rw[this,List.find?_cons]
    have:(y.id==id)=false:=by simp;omega
    rw[this]
  ·rename_i he
   rw[List.find?_cons,List.find?_cons]
   by_cases h:y.id=id
   ·have:(y.id==id)=true:=by simpa using h
    rw[this,if_neg (by omega)]
   ·have:(y.id==id)=false:=by simpa using h
    rw[this];exact ih
theorem KS.put {o:Ob} (k:KS ah) (v:jd o):KS (dp ah o):=by
 refine⟨Gt k.bY,fun x hx=>?_⟩
 rcases Bz hx with rfl|hx
 ·exact v
 ·exact k.val x hx
end
section
open Go
variable {P:Program} {h:aa} {a:KA} {lb N M:Nat} {ai:List Th} {ah:List Ob} {g:Nat->Option (List UInt8)}
theorem YB {o:Ob} (k:KS ah) {id:Nat}:eF (dp ah o) id=if id=o.id then(if o.kind=2 then some o.data else none) else eF ah id:=by
 unfold eF
 rw[nV k.bY]
 by_cases e:id=o.id
 ·rw[if_pos e,if_pos e];rfl
 ·rw[if_neg e,if_neg e]
theorem zZ.put {f:Nat->Option (List UInt8)} {o:Ob} (k:KS ah) (R:zZ f ah) {d:List UInt8} (hd:d.length=o.data.length):zZ (iz f o.id (some (gB {o with data:=d}))) (dp ah o):=by
 intro id
 rw[nV k.bY]
 unfold iz
 by_cases e:id=o.id
 ·rw[if_pos e,if_pos e]
  exact⟨d,hd,rfl⟩
 ·rw[if_neg e,if_neg e]
  exact R id
theorem yt.kf {h h':aa} {a:KA} {lb:Nat} (s:yt h h' a.bl a.bp):KF h h' a lb:=⟨s.1,fun b hb _ _ h3=>s.2 b hb (fun e=>h3 (.inr (.inr (.inl e)))) (fun e=>h3 (.inr (.inr (.inr e))))⟩
theorem jf.kf {h h':aa} {a:KA} {lb:Nat} (s:jf h h' a.ab a.mb lb):KF h h' a lb:=⟨s.1,fun b hb _ h2 _=>s.2 b hb (fun e=>h2 (.inl e)) (fun e=>h2 (.inr (.inl e))) (fun e=>h2 (.inr (.inr e)))⟩
theorem KH.agG (K:KH h a lb N M ai ah g) {h':aa} {aT N':Nat} {f':Nat->Option (List UInt8)} {z8:List Ob} (s:jf h h' a.ab a.mb lb) (hl:aT=lb\/h.next<=aT) (A:AA h' a.ab a.mb aT 1 N' f') (R:zZ f' z8) (ks:KS z8):KH h' a aT N' M ai z8 g:=by
 have e: ∀b,FS a b\/FK a b->b<h.next->h'.get b=h.get b:=by
  intro b hb aC
  refine s.2 b aC ?_ ?_ ?_<;>intro e<;>rcases hb with hb|hb
  ·exact K.k7 b (.inl e) hb
  ·exact K.kZ b hb (.inl e)
  ·exact K.k7 b (.inr (.inl e)) hb
  ·exact K.kZ b hb (.inr (.inl e))
  ·exact K.k7 b (.inr (.inr e)) hb
  ·exact K.kZ b hb (.inr (.inr e))
 have S:=K.sp
 refine⟨by rw[e _ (.inr (.inl rfl)) K.l1,K.top],by rw[e _ (.inr (.inr rfl)) K.l2,K.cj],⟨f',A,R⟩,S.bN s.1 (e _ (.inl (.inl rfl)) S.lt.1) (e _ (.inl (.inr (.inl rfl))) S.lt.2.1) (e _ (.inl (.inr (.inr (.inl rfl)))) S.lt.2.2.1) (e _ (.inl (.inr (.inr (.inr rfl)))) S.lt.2.2.2) (Nat.le_refl _),
  Nat.lt_of_lt_of_le K.l1 s.1,Nat.lt_of_lt_of_le K.l2 s.1,K.AW,fun b hb hs=>?_,fun b hb ha=>?_,K.nQ,ks⟩
 ·rcases hb with hb|hb|hb
  ·exact K.k7 b (.inl hb) hs
  ·exact K.k7 b (.inr (.inl hb)) hs
  ·rcases hl with hl|hl
   ·exact K.k7 b (.inr (.inr (hb.trans hl))) hs
   ·have:=S.lt
    rcases hs with hs|hs|hs|hs<;>omega
 ·rcases ha with ha|ha|ha
  ·exact K.kZ b hb (.inl ha)
  ·exact K.kZ b hb (.inr (.inl ha))
  ·rcases hl with hl|hl
   ·exact K.kZ b hb (.inr (.inr (ha.trans hl)))
   ·have:=K.l1
    have:=K.l2
    rcases hb with hb|hb<;>omega
theorem KH.H8 (K:KH h a lb N M ai ah g) {h':aa} {M':Nat} {g':Nat->Option (List UInt8)} (s:yt h h' a.bl a.bp) (S:SG h' a.bs a.bm a.bl a.bp M' g'):KH h' a lb N M' ai ah g':=by
 have e: ∀b,FA a lb b\/FK a b->b<h.next->h'.get b=h.get b:=by
  intro b hb aC
  refine s.2 b aC ?_ ?_<;>intro e<;>rcases hb with hb|hb
  ·exact K.k7 b hb (.inr (.inr (.inl e)))
  ·exact K.nQ b hb (.inr (.inr (.inl e)))
  ·exact K.k7 b hb (.inr (.inr (.inr e)))
  ·exact K.nQ b hb (.inr (.inr (.inr e)))
 obtain⟨f,A,R⟩:=K.ar
 exact⟨by rw[e _ (.inr (.inl rfl)) K.l1,K.top],by rw[e _ (.inr (.inr rfl)) K.l2,K.cj],⟨f,A.bN s.1 (e _ (.inl (.inl rfl)) A.lt.1) (e _ (.inl (.inr (.inl rfl))) A.lt.2.1) (fun hl=>e _ (.inl (.inr (.inr rfl))) hl) (Nat.le_refl _),R⟩,S,
  Nat.lt_of_lt_of_le K.l1 s.1,Nat.lt_of_lt_of_le K.l2 s.1,K.AW,K.k7,K.kZ,K.nQ,K.ks⟩
theorem KH.fn (K:KH h a lb N M ai ah g) {g':Nat->Option (List UInt8)} (hg: ∀x,g x=g' x):KH h a lb N M ai ah g':=by
 have:g=g':=funext hg
 rw[<-this];exact K
theorem agN (ok:ax P tb) (K:KH h a lb N M ai ah (eF ah)) {o:Ob} {t:Nat->aG} (v:jd o) (hs: ∀o',bg ah o.id=some o'->o'.kind≠2/\o.kind≠2) (hN:N<2^19) (hM:M<128):
 ∃h',an P 30 [.ptr a.kb 0, .agg (o.c t)] h (.ay []) h'/\ ∃aT,KH h' a aT (N+1) (if o.kind=2 then M+1 else M) ai (dp ah o) (eF (dp ah o))/\(aT=lb\/h.next<=aT)/\KF h h' a lb:=by
 suffices hu: ∃h',an P 30 [.ptr a.kb 0, .agg (o.c aK)] h (.ay []) h'/\ ∃aT,KH h' a aT (N+1) (if o.kind=2 then M+1 else M) ai (dp ah o) (eF (dp ah o))/\(aT=lb\/h.next<=aT)/\KF h h' a lb by
  obtain⟨h',c,hq⟩:=hu
  exact⟨h',an.ao (by simp only[AV.bH,Mt];exact c),hq⟩
 refine ok.dI (rf:=mQ) rfl (Nat.le_of_ble_eq_true rfl) ?_
 have l1:=K.l1
 simp+decide only[st,xv,mQ,afW,Ob.c]
 generalize hX:aa.at _ _ _=X
 have xo:Old h X:=by rw[<-hX];exact(Old.refl h).at (Nat.le_refl _)
 have x0:cellsOf X h.next=some (o.c aK):=by rw[<-hX];exact av (by simp[aa.at,Ob.c])
 have xn:X.next=h.next+1:=by rw[<-hX];simp[aa.at]
 have KX:=K.old xo
 have Uw:=K.sp.lt
 obtain⟨f,A0,_⟩:=K.ar
 have ltA:=A0.lt
 have nK: ∀b,FK a b->b<h.next:=fun b hb=>by
  have:=K.l2
  rcases hb with hb|hb<;>omega
 have nA: ∀b,FA a lb b->b<h.next:=fun b hb=>by rcases hb with hb|hb|hb<;>omega
 have nS: ∀b,FS a b->b<h.next:=fun b hb=>by rcases hb with hb|hb|hb|hb<;>omega
 simp only[Ob.c] at x0
 simp+decide only[st,xv,mQ,Sn,x0]
 refine au (WS ok (o:=o) (t:=aK) v.ok) ?_
 have hp:wF o= .ay [.vs (BS (gB o)) .ao, .int .i64 0]:=by unfold wF;rw[v.may,if_pos rfl]
 rw[hp]
 simp+decide only[st,xv,mQ,Sn]
 refine bU 8 rfl rfl ?_
 have c0:=av KX.top
 have lX:a.kb<X.next:=by omega
 have Fq:h.next<X.next:=by omega
 simp+decide only[st,xv,mQ,Jj,c0,x0,lX,Fq]
 have KC:=KX.old ((Old.refl X).clean (n:=8))
 obtain⟨f,A,R⟩:=KC.ar
 obtain⟨rec,lK⟩: ∃rec,gB o=1::rec:=⟨_,rfl⟩
 have ja:=LN v.may
 obtain⟨h1,c1,dB,A1,eo,k1⟩:=A.put ok (id:=o.id) (x:=1) (rec:=rec) (t:= .ao) v.ok.id rfl (by rw[lK] at ja;simp at ja;omega) hN
 rw[<-lK] at c1 A1
 refine eX c1 (fun j hj hn=>by omega) ?_
 have kf0:KF h (X.clean 8) a lb:=KF.old (xo.trans ((Old.refl X).clean))
 have kn:=kf0.1
 have hU:KF h h1 a lb:=kf0.trans k1.kf (.inl rfl)
 have K1:KH h1 a dB (N+1) M ai (dp ah o) (eF ah):=KC.agG k1 eo A1 (R.put KC.ks rfl) (KC.ks.put v)
 have x1:cellsOf h1 h.next=some (o.c aK):=by
  rw[show cellsOf h1 h.next=cellsOf X h.next from ?_,x0];rfl
  unfold cellsOf
  rw[k1.2 _ (by simp[aa.clean];omega) (by omega) (by omega) (by omega)]
  simp only[aa.clean]
  rw[if_pos Fq]
 simp only[Ob.c] at x1
 have k11:=k1.1
 have xc8:(X.clean 8).next=X.next+8:=rfl
 have JL:dB=lb\/h.next<=dB:=by
  rcases eo with e|e
  ·exact .inl e
  ·exact .inr (by omega)
 by_cases h2:o.kind=2
 ·have hk:(o.kind=2)=True:=eq_true h2
  simp+decide only[st,xv,mQ,Jj,Sm,x1,hk]
  refine bU 10 rfl rfl ?_
  have c1:=av K1.top
  have ln:=K1.l1
  have pf:h.next<h1.next:=by omega
  simp+decide only[st,xv,mQ,Sk,x1,c1,ln,pf,cr]
  have K2:=K1.old ((Old.refl h1).clean (n:=10))
  have x8:=sE v.may h2
  have Im:eF ah o.id=none:=by
   unfold eF
   cases ho:bg ah o.id with
   |none=>rfl
   |some o'=>exact absurd h2 (hs o' ho).2
  obtain⟨e2,fT,c2,S2,k2⟩:=K2.sp.map ok (id:=o.id) x8 hM
  rw[Im,Option.isSome_none,if_neg (by simp)] at S2
  refine eX c2 (fun j hj hn=>by omega) ?_
  have K3:=K2.H8 k2 S2
  have jH:KF h1 fT a dB:=(KF.old ((Old.refl h1).clean (n:=10))).trans k2.kf (.inl rfl)
  have atZ:=hU.trans jH JL
  have x2:cellsOf fT h.next=some (o.c aK):=by
   rw[show cellsOf fT h.next=cellsOf h1 h.next from ?_,x1];rfl
   unfold cellsOf
   rw[jH.2 _ pf (fun hb=>by have:=nK _ hb;omega) (fun hb=>by rcases hb with hb|hb|hb<;>omega) (fun hb=>by have:=nS _ hb;omega)]
  simp only[Ob.c] at x2
  have Kh:h.next<fT.next:=by have:=jH.1;omega
  have c3:=av K3.top
  have l3:=K3.l1
  simp+decide only[st,xv,mQ,Sk]
  refine bU 9 rfl rfl ?_
  simp+decide only[st,xv,mQ,Sj,x2,c3,l3,Kh]
  have K4:=K3.old ((Old.refl fT).clean (n:=9))
  obtain⟨h3,c4,S4,k4⟩:=K4.sp.write ok (id:=o.id) (off:=0) (v:=o.data) (t:= .ao) (by unfold iz;rw[if_pos rfl]) (by simp)
  refine eX c4 (fun j hj hn=>by omega) ?_
  simp+decide only[st,xv,mQ,Sj]
  have K5:=K4.H8 k4 S4
  have tq:KF fT h3 a dB:=(KF.old ((Old.refl fT).clean (n:=9))).trans k4.kf (.inl rfl)
  refine⟨rfl,dB,K5.fn fun x=>?_,JL,atZ.trans tq JL⟩
  rw[YB KC.ks,if_pos h2]
  unfold iz
  by_cases e:x=o.id
  ·rw[if_pos e,if_pos e]
   simp[xF]
  ·rw[if_neg e,if_neg e,if_neg e]
 ·have hk:(o.kind=2)=False:=eq_false h2
  simp+decide only[st,xv,mQ,Jj,Sm,x1,hk]
  refine⟨rfl,dB,K1.fn fun x=>?_,JL,hU⟩
  rw[YB KC.ks,if_neg h2]
  by_cases e:x=o.id
  ·rw[if_pos e,e]
   unfold eF
   cases ho:bg ah o.id with
   |none=>rfl
   |some o'=>simp[(hs o' ho).1]
  ·rw[if_neg e]
end
section
open Go
variable {P:Program} {h:aa} {a:KA} {lb N M:Nat} {ai:List Th} {ah:List Ob} {g:Nat->Option (List UInt8)}
def p8 (l:List Ob) (id:Nat):List Ob:=l.filter fun o=>!(o.id==id)
theorem FZ {id x:Nat}: ∀{l:List Ob},bg (p8 l id) x=if x=id then none else bg l x
 |[]=>by simp[bg,p8]
 |o::l=>by
  have ih:=FZ (id:=id) (x:=x) (l:=l)
  unfold bg p8 at*
  rw[List.filter_cons]
  by_cases h:o.id=id
  ·have:(!(o.id==id))=false:=by simpa using h
   rw[this,if_neg (by simp),ih]
   by_cases hx:x=id
   ·rw[if_pos hx,if_pos hx]
   ·rw[if_neg hx,if_neg hx,List.find?_cons]
    have:(o.id==x)=false:=by simp;omega
    rw[this]
  ·have:(!(o.id==id))=true:=by simpa using h
   rw[this,if_pos rfl,List.find?_cons,List.find?_cons]
   by_cases hx:o.id=x
   ·have:(o.id==x)=true:=by simpa using hx
    rw[this,if_neg (by omega)]
   ·have:(o.id==x)=false:=by simpa using hx
    rw[this];exact ih
theorem KS.del (k:KS ah) {id:Nat}:KS (p8 ah id):=⟨k.bY.sublist (List.filter_sublist ..),fun o ho=>k.val o (List.mem_filter.1 ho).1⟩
theorem alR {id x:Nat}:eF (p8 ah id) x=if x=id then none else eF ah x:=by
 unfold eF
 rw[FZ]
 by_cases e:x=id
 ·rw[if_pos e,if_pos e];rfl
 ·rw[if_neg e,if_neg e]
theorem aqU (ok:ax P tb) (K:KH h a lb N M ai ah (eF ah)) {id:Nat}:
 ∃h',an P 104 [.ptr a.kb 0, .int .u64 id] h (.ay []) h'/\KH h' a lb N M ai (p8 ah id) (eF (p8 ah id))/\KF h h' a lb:=by
 refine ok.dI (rf:=xC) rfl (Nat.le_of_ble_eq_true rfl) ?_
 have c0:=av K.top
 obtain⟨f,A,R⟩:=K.ar
 obtain⟨e1,c7,c1,A1,k1⟩:=A.drop ok (id:=id)
 simp+decide only[st,xv,xC,Ps,c0]
 refine au c1 ?_
 have K1:KH c7 a lb N M ai (p8 ah id) (eF ah):=K.agG k1 (.inl rfl) A1 (fun x=>by
  rw[FZ]
  unfold iz
  by_cases e:x=id
  ·rw[if_pos e,if_pos e]
  ·rw[if_neg e,if_neg e];exact R x) K.ks.del
 obtain⟨e2,fT,c2,S2,k2⟩:=K1.sp.Px ok (id:=id)
 have FN:=av K1.top
 simp+decide only[st,xv,xC,Ps,Pr,FN]
 refine au c2 ?_
 simp+decide only[st,xv,xC,Pr]
 refine⟨rfl,(K1.H8 k2 S2).fn fun x=>?_,k1.kf.trans k2.kf (.inl rfl)⟩
 rw[alR];rfl
theorem KH.row (K:KH h a lb N M ai ah g) {t:Nat} (ht:t<ai.length) {j:Nat} (hj:j<12):(aX aS ai).flatten[t*12+j]? =(ai[t].c aS)[j]?:=uj ma (YM ht) hj
def lR (ai:List Th) (t:Int):Bool:=decide (0<=t)&&decide (t<ai.length)
theorem Xo (ok:ax P tb) (K:KH h a lb N M ai ah g) {t:Int}:an P 23 [.ptr a.kb 0, .int .i64 t] h (.bool (lR ai t)) h:=by
 refine ok.keeps (rf:=Bd) rfl (Nat.le_of_ble_eq_true rfl) rfl ?_
 have c0:=av K.top
 unfold lR
 by_cases h0:0<=t
 ·simp+decide only[st,xv,Bd,Sx,Sw,c0,h0]
 ·simp+decide only[st,xv,Bd,Sx,Sw,c0,h0]
  simp
def kL (ai:List Th) (t:Int):Bool:=lR ai t&&!decide (((ai[t.toNat]?).map (·.dj)).getD 0=0)
theorem Md {t:Int} (ht:lR ai t=true): ∃n:Nat,t=n/\n<ai.length:=by
 unfold lR at ht
 simp only[Bool.and_eq_true,decide_eq_true_eq] at ht
 obtain⟨n,rfl⟩:=Int.eq_ofNat_of_zero_le ht.1
 exact⟨n,rfl,by omega⟩
theorem Bj (ok:ax P tb) (K:KH h a lb N M ai ah g) {t:Int}:an P 16 [.ptr a.kb 0, .int .i64 t] h (.bool (kL ai t)) h:=by
 refine ok.keeps (rf:=yq) rfl (Nat.le_of_ble_eq_true rfl) rfl ?_
 have c0:=av K.top
 have c1:=av K.cj
 unfold kL
 simp+decide only[st,xv,yq,agy,Jp]
 refine au (Xo ok K) ?_
 cases hk:lR ai t with
 |false=>
  simp+decide only[st,xv,yq,Jp]
  first|done|rfl|simp
 |true=>
  obtain⟨n,rfl,hn⟩:=Md hk
  have jb:(n:Int)<(ai.length:Int):=by omega
  have r6:=K.row hn (j:=6) (by omega)
  have e6:(ai[n].c aS)[6]? =some (.int .i64 ai[n].dj):=rfl
  rw[e6] at r6
  simp+decide only[st,xv,yq,Jp,c0,c1,jb,r6]
  simp[List.getElem?_eq_getElem hn]
end
section
open Go
variable {P:Program} {h:aa} {a:KA} {lb N M:Nat} {ai:List Th} {ah:List Ob} {g:Nat->Option (List UInt8)}
def jF (sz:Nat) (h H:aa) (v:AV) (rows:List (List AV)):Prop:=(rows=[]/\v= .vs [] .full)\/ ∃b,rows≠[]/\v= .rs b 0 rows.length sz/\cellsOf H b=some rows.flatten/\h.next<=b/\b<H.next
theorem jF.to {sz:Nat} {h H X:aa} {v:AV} {l:List (List AV)} (g:jF sz h H v l) (o:Old H X):jF sz h X v l:=by
 rcases g with g|⟨b,h0,h1,hc,h2,h3⟩
 ·exact .inl g
 ·refine .inr ⟨b,h0,h1,?_,h2,Nat.lt_of_lt_of_le h3 o.next⟩
  unfold cellsOf at hc ⊢
  rw[o.get b h3];exact hc
theorem jF.app {sz bytes id:Nat} {h H:aa} {v:AV} {l:List (List AV)} (g:jF sz h H v l) (ho:h.next<=id) (aJ:H.next<=id) {x:List AV} (hl:l.length<2^20) (hb:bytes<2^10) (hs: ∀r∈l,r.length=sz): ∃v' H',fJ bytes sz id H v (some [x])=some (v',H')/\jF sz h H' v' (l++[x])/\H.next<=H'.next/\v'.one=true/\v'.cells=[v']/\ ∀b,b<h.next->H'.get b=H.get b:=by
 have hmul:(l.length+1)*bytes<2^40:=Nat.lt_of_lt_of_le (Nat.mul_lt_mul_of_lt_of_lt (show l.length+1<2^21 by omega) hb) (by decide)
 rcases g with⟨rfl,rfl⟩|⟨b,h0,rfl,hc,h1,h2⟩
 ·have ew:(1:Nat)*bytes<2^40:=by omega
  refine⟨.rs id 0 1 sz,H.at id (.cells [x].flatten),?_, .inr ⟨id,by simp,rfl,av (by simp[aa.at]),ho,by simp[aa.at];omega⟩,by simp[aa.at];omega,rfl,rfl,fun b hb=>by simp only[aa.at];rw[if_neg (by omega)]⟩
  simp only[fJ,List.length_singleton,List.cons_ne_nil,if_false]
  rw[if_pos ⟨ew,by decide⟩]
 ·have hlen:l.flatten.length=l.length*sz:=jg hs
  refine⟨.rs id 0 (l.length+1) sz,(H.set b none).at id (.cells (l++[x]).flatten),?_, .inr ⟨id,by simp,by simp,av (by simp[aa.at]),ho,by simp[aa.at];omega⟩,by simp[aa.at,aa.set];omega,rfl,rfl,fun c hb=>by simp only[aa.at,aa.set];rw[if_neg (by omega),if_neg (by omega)]⟩
  simp only[fJ,hc,Option.bind_some,List.length_singleton,List.cons_ne_nil,if_false]
  rw[if_pos (by refine⟨trivial,trivial,?_,?_,?_⟩<;>omega),List.take_of_length_le (by omega)]
  simp
theorem iE {x:Th}:x.c aS=[.int .u8 x.ak.d, .vs (aw.R x.ak.ps) .ao, .vs ((aH .u16).R x.st.s) .full, .vs ((aH .u16).R x.st.i) .full, .vs ((aH .u16).R x.st.o) .full, .int .i64 x.own, .int .i64 x.dj, .int .u64 x.id, .int .u64 x.to, .int .i64 x.done, .int .i64 x.n, .bool x.new]:=rfl
theorem amJ (ok:ax P tb) {v:AV} {l:List Th} (hv: ∀h',Old h h'->ik h' v 12 (aX aS l)) (hl:l.length<2^20) (lV: ∀x∈l,x.ak.ps.length<2^20):
 ∃w h',an P 22 [v] h w h'/\jF 12 h h' w (aX aS l)/\Old h h':=by
 refine ok.uv (rf:=sx) rfl (Nat.le_of_ble_eq_true rfl) ?_
 have hlen:gC v=some l.length:=by rw[(hv h (Old.refl h)).len,iX]
 simp+decide only[st,xv,sx,agf,age,agd,hlen]
 let I:Nat->Env->aa->Prop:=fun n ρ H=> ∃i,l.length=i+n/\Old h H/\jF 12 h H (ρ 3) (aX aS (l.take i))/\ρ 6=v/\ρ 7= .int .i64 l.length/\ρ 8= .int .i64 i
 refine dO I ?_ l.length ⟨0,by omega,Old.refl h, .inl ⟨rfl,rfl⟩,rfl,rfl,rfl⟩
 rintro n ρ H ⟨i,aB,ho,hg,r6,r7,r8⟩
 have qu:=ho.next
 by_cases hi:i<l.length
 ·have aA:(i:Int)<(l.length:Int):=by omega
  have hw:=dF (show i<2^61 by omega)
  obtain⟨p,g1,g2⟩:=(hv H ho).get i (by rw[iX];exact hi)
  have g3:(aX aS l)[i]'(by rw[iX];exact hi)=l[i].c aS:=by simp[aX]
  rw[g3] at g2
  simp+decide only[st,xv,sx,SA,agc,r6,r7,r8,aA,g1,g2,iE]
  generalize hX:aa.set _ _ _=X
  have xo:Old H X:=by rw[<-hX];exact((Old.refl H).at (Nat.le_refl _)).set (Nat.le_refl _)
  have x0:cellsOf X H.next=some (l[i].c aS):=by rw[<-hX];exact av (by simp[aa.set];rfl)
  have xn:X.next=H.next+1:=by rw[<-hX];simp[aa.at,aa.set]
  simp only[iE] at x0
  simp+decide only[st,xv,sx,Sz,x0]
  refine au (Gd ok (l:=l[i].ak) (t:= .ao) (by have:=lV _ (List.getElem_mem hi);omega)) ?_
  have ir:X.set H.next (some (.cells (l[i].c aS)))=X:=by
   refine aa.gq ?_
   rw[<-hX];simp[aa.set];rfl
  simp only[iE] at ir
  simp+decide only[st,xv,sx,Sz,Sy,x0,Lb.c,ir,yy,xr]
  have tB:=List.length_take_le i l
  obtain⟨v',H',ha,cD,jb,h1,h2,ej⟩:=(hg.to xo).app (bytes:=160) (id:=X.next) (by omega) (Nat.le_refl _) (x:=l[i].c aS) (by rw[iX];omega) (by omega) ma
  simp only[iE] at ha
  simp+decide only[st,xv,sx,Sy,agb,ha,r8,hw]
  refine⟨n-1,by omega,i+1,by omega,⟨by omega,fun b hb=>by rw[ej b hb,xo.get b (by omega),ho.get b hb]⟩,?_,r6,r7,rfl⟩
  rw[<-List.take_append_getElem hi]
  unfold aX at cD ⊢
  rw[List.map_append]
  exact cD
 ·have aA: ¬(i:Int)<(l.length:Int):=by omega
  rw[List.take_of_length_le (by omega)] at hg
  simp+decide only[st,xv,sx,SA,aga,r7,r8,aA]
  exact⟨_,rfl,hg,ho⟩
theorem KH.lO (K:KH h a lb N M ai ah g) {h':aa} (o:Old h h'):ik h' (.rs a.tb 0 ai.length 12) 12 (aX aS ai):=by
 have:=ik.rs (h:=h') (b:=a.tb) (sz:=12) (rows:=aX aS ai) (cs:=(aX aS ai).flatten) (av (by rw[o.get _ K.l2,K.cj])) (by rw[<-jg ma,List.take_length]) ma
 rwa [iX] at this
theorem alu (ok:ax P tb) (K:KH h a lb N M ai ah g) (hl:ai.length<2^20) (lV: ∀x∈ai,x.ak.ps.length<2^20):
 ∃w h',an P 11 [.ptr a.kb 0] h w h'/\jF 12 h h' w (aX aS ai)/\Old h h':=by
 refine ok.uv (rf:=Be) rfl (Nat.le_of_ble_eq_true rfl) ?_
 have c0:=av K.top
 obtain⟨w,h',c,hg,ho⟩:=amJ ok (v:= .rs a.tb 0 ai.length 12) (l:=ai) (h:=h) (fun h' o=>K.lO o) hl lV
 simp+decide only[st,xv,Be,SW,SV,SU,SS,c0]
 refine au c ?_
 simp+decide only[st,xv,Be,SW,SV,SU,SS]
 exact⟨w,rfl,hg,ho⟩
theorem jF.fv {sz:Nat} {h H:aa} {v:AV} {l:List (List AV)} {f:Nat} {args:List AV} (g:jF sz h H v l) (c:an P f args h v H) (o:Old h H) (hs: ∀r∈l,r.length=sz) (gD: ∀p,AV.gZ p l=true) (acG: ∀p,AV.gZ p (AV.fZ l)=true):an P f args h (.vs (AV.fZ l) .ao) h:=by
 rcases g with⟨rfl,rfl⟩|⟨b,h0,rfl,hc,h1,h2⟩
 ·exact(c.strip).restore o.get rfl
 ·have hg:H.get b=some (.cells l.flatten):=by
   revert hc;unfold cellsOf;split
   ·rename_i e;intro hh;cases hh;exact e
   ·intro hh;cases hh
  have hlen:l.flatten.length=l.length*sz:=jg hs
  have hr:rowsOf l.flatten 0 sz l.length=l:=by
   clear hc hg h0 c acG
   induction l with
   |nil=>rfl
   |cons r l ih=>
    have UO:=hs r (List.mem_cons_self ..)
    have ih:=ih (fun x hx=>hs x (List.mem_cons_of_mem _ hx)) (fun p=>by have:=gD p;simp only[AV.gZ,Bool.and_eq_true] at this;exact this.2) (jg fun x hx=>hs x (List.mem_cons_of_mem _ hx))
    rw[List.flatten_cons,List.length_cons,rowsOf,List.drop_zero,pH UO]
    have:(0:Nat)+sz=r.length+0:=by omega
    rw[this,Bm (by rw[jg fun x hx=>hs x (List.mem_cons_of_mem _ hx)];omega),ih]
  have hf:AV.fv b l.flatten (.rs b 0 l.length sz)= .vs l .ao:=by
   unfold AV.fv
   rw[if_pos rfl,if_pos (by omega),hr]
  have c2:=c.freeze hg h1 (by rw[hf];simp only[AV.bD,gD];rfl)
  rw[hf] at c2
  have c3:=c2.strip
  refine an.restore (h':=H.set b none) c3 (fun x hx=>?_) ?_
  ·simp only[aa.set]
   rw[if_neg (by omega)]
   exact o.get x hx
  ·simp only[AV.strip,AV.bD,acG];rfl
theorem Ly {τ:Nat->aG}: ∀{l:List Th},AV.fZ (aX τ l)=aX aK l
 |[]=>rfl
 |x::l=>by
  have ih:=Ly (τ:=τ) (l:=l)
  unfold aX at*
  simp only[List.map_cons,AV.fZ,ih]
  congr 1
  simp only[Th.c,AV.bH,AV.strip,aw.fx,(aH .u16).fx,aK]
theorem YN {p:Nat->Bool}: ∀{l:List Th},AV.gZ p (aX aK l)=true
 |[]=>rfl
 |x::l=>by
  have ih:=YN (p:=p) (l:=l)
  have h1:AV.b8 p (x.c aK)=true:=by simp only[Th.c,AV.b8,AV.bD,aw.iw,(aH .u16).iw,aK];rfl
  unfold aX at*
  simp only[List.map_cons,AV.gZ,ih,h1];rfl
theorem XX {p:Nat->Bool}: ∀{l:List Th},AV.gZ p (aX aS l)=true
 |[]=>rfl
 |x::l=>by
  have ih:=XX (p:=p) (l:=l)
  have h1:AV.b8 p (x.c aS)=true:=by simp only[iE,AV.b8,AV.bD,aw.iw,(aH .u16).iw];rfl
  unfold aX at*
  simp only[List.map_cons,AV.gZ,ih,h1];rfl
theorem Xm (ok:ax P tb) (K:KH h a lb N M ai ah g) (hl:ai.length<2^20) (lV: ∀x∈ai,x.ak.ps.length<2^20):an P 11 [.ptr a.kb 0] h (.vs (aX aK ai) .ao) h:=by
 obtain⟨w,h',c,hg,ho⟩:=alu ok K hl lV
 have:=hg.fv c ho ma (fun p=>XX) (fun p=>by rw[Ly];exact YN)
 rwa [Ly] at this
def mA (l:List Ob):List (List AV):=l.map fun o=>o.c aK
theorem F1 {l:List Ob}:(mA l).length=l.length:=by simp[mA]
theorem alg {l:List Ob}:dH 13 (mA l)=true:=by cases l<;>rfl
theorem ami {l:List Ob} {i:Nat} (hi:i<l.length):(mA l)[i]? =some (l[i].c aK):=by simp[mA,List.getElem?_eq_getElem hi]
theorem Xi: ∀{l:List Ob},AV.fZ (mA l)=mA l
 |[]=>rfl
 |x::l=>by
  have ih:=Xi (l:=l)
  unfold mA at*
  simp only[List.map_cons,AV.fZ,ih,yK]
theorem YU {p:Nat->Bool}: ∀{l:List Ob},AV.gZ p (mA l)=true
 |[]=>rfl
 |x::l=>by
  have ih:=YU (p:=p) (l:=l)
  unfold mA at*
  simp only[List.map_cons,AV.gZ,ih,um];rfl
theorem db {o:Ob}:o.c aK=[.int .u64 o.id, .int .i64 o.kind, .int .u8 o.ak.d, .vs (aw.R o.ak.ps) .ao, .vs ((aH .u16).R o.st.s) .ao, .vs ((aH .u16).R o.st.i) .ao, .vs ((aH .u16).R o.st.o) .ao, .int .i64 o.bh, .int .i64 o.used, .int .i64 o.next, .vs (BS o.data) .ao, .vs ((aH .u16).R o.bV) .ao, .vs (aW.R o.ring) .ao]:=rfl
theorem KS.ids (k:KS ah) (h0:ah≠[]) {f:Nat->Option (List UInt8)} (R:zZ f ah):(ah.map (·.id)).Pairwise (· < ·)/\(∀id,id∈ah.map (·.id)↔(f id).isSome=true)/\ah.map (·.id)≠[]:=by
 refine⟨List.pairwise_map.2 k.bY,fun id=>?_,?_⟩
 ·have:=R id
  constructor
  ·intro hm
   obtain⟨o,ho,rfl⟩:=List.mem_map.1 hm
   rw[lj k.bY ho] at this
   obtain⟨d,_,hf⟩:=this
   rw[hf];rfl
  ·intro hf
   cases ho:bg ah id with
   |none=>rw[ho] at this;simp only at this;rw[this] at hf;cases hf
   |some o=>
    obtain⟨h1,rfl⟩:=lg ho
    exact List.mem_map.2 ⟨o,h1,rfl⟩
 ·exact fun e=>h0 (List.map_eq_nil_iff.1 e)
theorem Yo (ok:ax P tb) (K:KH h a lb N M ai ah (eF ah)) (h0:ah≠[]) (eE:ah.length<=12):an P 20 [.ptr a.kb 0] h (.vs (mA ah) .ao) h:=by
 refine ok.eW (rf:=sy) rfl (Nat.le_of_ble_eq_true rfl) (by simp only[AV.bD,YU];rfl) ?_
 have c0:=av K.top
 obtain⟨f,A,R⟩:=K.ar
 obtain⟨i1,i2,i3⟩:=K.ks.ids h0 R
 simp+decide only[st,xv,sy,agq,agp,ago,SJ,c0]
 refine au (A.ids ok i1 i2 i3 (by simpa using eE)) ?_
 simp+decide only[st,xv,sy,SJ,ey.aR,List.length_map]
 let I:Nat->Env->aa->Prop:=fun n ρ H=> ∃i,ah.length=i+n/\Old h H/\App h H (ρ 3) (mA (ah.take i))/\ρ 0= .ptr a.kb 0/\ρ 14= .vs ((aH .u64).R (ah.map (·.id))) .ao/\ρ 15= .int .i64 ah.length/\ρ 16= .int .i64 i
 refine dO I ?_ ah.length ⟨0,by omega,Old.refl h,App.nil h h,rfl,rfl,rfl,rfl⟩
 rintro n ρ H ⟨i,aB,ho,hg,r0,iR,fb,kl⟩
 have qu:=ho.next
 by_cases hi:i<ah.length
 ·have aA:(i:Int)<(ah.length:Int):=by omega
  have hw:=dF (show i<2^61 by omega)
  have g1:((aH .u64).R (ah.map (·.id)))[i]? =some [.int .u64 ah[i].id]:=by
   rw[(aH .u64).gL (by simpa using hi)];simp[aH]
  have KX:=K.old ho
  have a9:=JH ok KX (id:=ah[i].id)
  rw[lj K.ks.bY (List.getElem_mem hi)] at a9
  simp+decide only[st,xv,sy,SI,agn,SH,r0,iR,fb,kl,aA,g1]
  refine au a9 ?_
  simp+decide only[st,xv,sy,SH,db,xr]
  generalize hX:aa.set _ _ _=X
  have xo:Old H X:=by rw[<-hX];exact((Old.refl H).at (Nat.le_refl _)).set (Nat.le_refl _)
  have x0:cellsOf X H.next=some (ah[i].c aK):=by rw[<-hX];exact av (by simp[aa.set];rfl)
  simp only[db] at x0
  have tB:=List.length_take_le i ah
  obtain⟨v',H',a1,a2,a3,a4,a5,a6⟩:=(hg.old xo).app (ho.trans xo) (bytes:=216) (sz:=13) (id:=X.next) (ho.trans xo).next [ah[i].c aK] alg (by rw[F1];simp only[List.length_singleton];omega) (by rw[F1];simp only[List.length_singleton];omega)
  simp only[db] at a1
  simp+decide only[st,xv,sy,agm,agl,x0,a1,kl,hw,xr]
  refine⟨n-1,by omega,i+1,by omega,a3,?_,r0,iR,fb,rfl⟩
  rw[<-List.take_append_getElem hi]
  unfold mA at a2 ⊢
  rw[List.map_append]
  exact a2
 ·have aA: ¬(i:Int)<(ah.length:Int):=by omega
  rw[List.take_of_length_le (by omega)] at hg
  obtain⟨tt,hv,_⟩:=hg
  simp+decide only[st,xv,sy,SI,aam,fb,kl,hv,aA,bG]
  exact⟨by simp only[AV.strip,Xi],ho.get⟩
end
section
open Go
variable {P:Program} {h:aa} {a:KA} {lb N M:Nat} {ai:List Th} {ah:List Ob} {g:Nat->Option (List UInt8)}
def ye (l:List Ob) (id:Nat):Option (List UInt8):=(bg l id).map gB
def G1 (ah:List Ob) (ai:List Th):List UInt8:=(ah.flatMap fun o=>be o.id 8++cO (gB o))++ai.flatMap fun x=>cT x.ak
theorem akm {ah:List Ob} (hs:ah.Pairwise (·.id< ·.id)):((ah.map (·.id)).flatMap fun id=>be id 8++cO ((ye ah id).getD []))=ah.flatMap fun o=>be o.id 8++cO (gB o):=by
 rw[List.flatMap_map]
 have: ∀(l:List Ob),(∀o∈l,o∈ah)->l.flatMap (fun o=>be o.id 8++cO ((ye ah o.id).getD []))=l.flatMap fun o=>be o.id 8++cO (gB o):=by
  intro l
  induction l with
  |nil=>intro _;rfl
  |cons o l ih=>
   intro hm
   rw[List.flatMap_cons,List.flatMap_cons,ih (fun x hx=>hm x (List.mem_cons_of_mem _ hx))]
   congr 2
   unfold ye
   rw[lj hs (hm o (List.mem_cons_self ..))];rfl
 exact this ah (fun _ h=>h)
structure TV (l:List Th):Prop where
 len:l.length<=4
 ak: ∀x∈l,x.ak.ok/\x.ak.ps.length<=16
theorem Ya {o:Ob}: ∀{l:List Ob},(∀x∈l,x.id<o.id)->dp l o=l++[o]
 |[],_=>rfl
 |x::l,h=>by
  have h1:=h x (List.mem_cons_self ..)
  unfold dp
  rw[if_neg (by omega),if_neg (by omega),Ya (fun y hy=>h y (List.mem_cons_of_mem _ hy))];rfl
theorem ahX (ok:ax P tb) (K:KH h a lb N M ai ah (eF ah)) (h0:ah≠[]) (eE:ah.length<=12) (ht:TV ai):an P 21 [.ptr a.kb 0] h (.vs (BS (G1 ah ai)) .ao) h:=by
 refine ok.eW (rf:=kD) rfl (Nat.le_of_ble_eq_true rfl) iB.mc ?_
 have c0:=av K.top
 obtain⟨h1,c1,A1,n1,o1⟩:=AA.new ok (h:=h) (v:=1)
 simp+decide only[st,xv,kD,agk,agj,SF]
 refine au c1 ?_
 simp+decide only[st,xv,kD,SF,SE]
 have K1:=K.old o1
 refine au (Yo ok K1 h0 eE) ?_
 simp+decide only[st,xv,kD,SE,F1]
 let I:Nat->Env->aa->Prop:=fun n ρ H=> ∃i aT,ah.length=i+n/\Old h H/\AA H (h.next+1) h.next aT 1 i (ye (ah.take i))/\h.next<=aT/\ρ 0= .ptr a.kb 0/\ρ 3= .ptr (h.next+1) 0/\ρ 15= .vs (mA ah) .ao/\ρ 16= .int .i64 ah.length/\ρ 17= .int .i64 i
 refine dO I ?_ ah.length ⟨0,h.next+1,by omega,o1,A1,by omega,rfl,rfl,rfl,rfl,rfl⟩
 rintro n ρ H ⟨i,aT,aB,ho,A,lV,r0,r3,fb,kl,oU⟩
 have qu:=ho.next
 by_cases hi:i<ah.length
 ·have aA:(i:Int)<(ah.length:Int):=by omega
  have hw:=dF (show i<2^61 by omega)
  have g1:=ami hi
  have v:=K.ks.val _ (List.getElem_mem hi)
  simp only[db] at g1
  simp+decide only[st,xv,kD,SD,agi,fb,kl,oU,aA,g1]
  generalize hX:aa.set _ _ _=X
  have xo:Old H X:=by rw[<-hX];exact((Old.refl H).at (Nat.le_refl _)).set (Nat.le_refl _)
  have x0:cellsOf X H.next=some (ah[i].c aK):=by rw[<-hX];exact av (by simp[aa.set];rfl)
  simp only[db] at x0
  simp+decide only[st,xv,kD,SC,x0]
  refine au (WS ok (o:=ah[i]) (t:=aK) v.ok) ?_
  have hp:wF ah[i]= .ay [.vs (BS (gB ah[i])) .ao, .int .i64 0]:=by unfold wF;rw[v.may,if_pos rfl]
  rw[hp]
  simp+decide only[st,xv,kD,SC,SB,r3,x0]
  obtain⟨rec,lK⟩: ∃rec,gB ah[i]=1::rec:=⟨_,rfl⟩
  have ja:=LN v.may
  obtain⟨H2,c2,lQ,A2,eD,k2⟩:=(A.old xo).put ok (id:=ah[i].id) (x:=1) (rec:=rec) (t:= .ao) v.ok.id rfl (by rw[lK] at ja;simp at ja;omega) (by omega)
  rw[<-lK] at c2 A2
  refine au c2 ?_
  simp+decide only[st,xv,kD,SB,agh,oU,hw]
  have xn:=xo.next
  have hA:=A.lt
  refine⟨n-1,by omega,i+1,lQ,by omega,⟨by have:=k2.1;omega,fun b hb=>?_⟩,A2.fn fun x=>?_,by rcases eD with h|h<;>omega,r0,r3,fb,kl,rfl⟩
  ·rw[k2.2 b (by omega) (by omega) (by omega) (by omega),xo.get b (by omega),ho.get b hb]
  ·have qp:=List.Pairwise.sublist (List.take_sublist (i+1) ah) K.ks.bY
   have aud:=List.Pairwise.sublist (List.take_sublist i ah) K.ks.bY
   have e:ah.take (i+1)=dp (ah.take i) ah[i]:=by
    rw[<-List.take_append_getElem hi] at qp ⊢
    rw[Ya]
    intro y hy
    exact(List.pairwise_append.1 qp).2.2 y hy _ (by simp)
   unfold iz ye
   rw[e,nV aud]
   by_cases h:x=ah[i].id
   ·rw[if_pos h,if_pos h];rfl
   ·rw[if_neg h,if_neg h]
 ·have aA: ¬(i:Int)<(ah.length:Int):=by omega
  have Kn:i=ah.length:=by omega
  rw[List.take_of_length_le (by omega)] at A
  have K2:=K.old ho
  obtain⟨i1,i2,i3⟩:=K.ks.ids h0 (f:=ye ah) (fun id=>by unfold ye;cases ho:bg ah id with|none=>rfl|some o=>exact⟨o.data,rfl,rfl⟩)
  simp+decide only[st,xv,kD,SD,Np,kl,oU,r3,aA]
  refine au (A.bytes ok i1 i2 i3 (by simpa using eE)) ?_
  rw[akm K.ks.bY]
  have c2:=av K2.top
  simp+decide only[st,xv,kD,Np,aal,r0,c2]
  have kC:(ah.flatMap fun o=>be o.id 8++cO (gB o)).length<=1000*ah.length:=by
   have: ∀(l:List Ob),(∀o∈l,(gB o).length<990)->(l.flatMap fun o=>be o.id 8++cO (gB o)).length<=1000*l.length:=by
    intro l
    induction l with
    |nil=>intro _;simp
    |cons c l ih=>
     intro hm
     have h1:=ih (fun x hx=>hm x (List.mem_cons_of_mem _ hx))
     have h2:=hm c (List.mem_cons_self ..)
     simp only[List.flatMap_cons,List.length_append,bR,cO,List.length_cons] at h1 ⊢;omega
   exact this ah (fun o ho=>LN (K.ks.val o ho).may)
  generalize hB:(ah.flatMap fun o=>be o.id 8++cO (gB o))=B at*
  let J:Nat->Env->aa->Prop:=fun n ρ H=> ∃i,ai.length=i+n/\Old h H/\ρ 8= .vs (BS (B++(ai.take i).flatMap fun x=>cT x.ak)) .ao/\ρ 37= .rs a.tb 0 ai.length 12/\ρ 38= .int .i64 ai.length/\ρ 39= .int .i64 i
  refine dO J ?_ ai.length ⟨0,by omega,ho,by simp only[List.take_zero,List.flatMap_nil,List.append_nil];rfl,rfl,rfl,rfl⟩
  rintro m ρ H2 ⟨j,hjm,rV,q8,q37,Up,Uo⟩
  by_cases hj:j<ai.length
  ·have avA:=ht.len
   have jr:(j:Int)<(ai.length:Int):=by omega
   have hwj:=dF (show j<2^61 by omega)
   obtain⟨p,g1,g2⟩:=(K.lO rV).get j (by rw[iX];exact hj)
   have g3:(aX aS ai)[j]'(by rw[iX];exact hj)=ai[j].c aS:=by simp[aX]
   rw[g3] at g2
   simp+decide only[st,xv,kD,No,aak,q37,Up,Uo,jr,g1,g2,iE]
   generalize hX:aa.set _ _ _=X
   have xo:Old H2 X:=by rw[<-hX];exact((Old.refl H2).at (Nat.le_refl _)).set (Nat.le_refl _)
   have x0:cellsOf X H2.next=some (ai[j].c aS):=by rw[<-hX];exact av (by simp[aa.set];rfl)
   simp only[iE] at x0
   have htj:=ht.ak _ (List.getElem_mem hj)
   have bP:((ai.take j).flatMap fun x=>cT x.ak).length<=50*4:=by
    have: ∀(l:List Th),(∀x∈l,x.ak.ps.length<=16)->(l.flatMap fun x=>cT x.ak).length<=50*l.length:=by
     intro l
     induction l with
     |nil=>intro _;simp
     |cons c l ih=>
      intro hm
      have h1:=ih (fun x hx=>hm x (List.mem_cons_of_mem _ hx))
      have h2:=hm c (List.mem_cons_self ..)
      simp only[List.flatMap_cons,List.length_append,By,List.length_cons] at h1 ⊢;omega
    have h1:=this (ai.take j) (fun x hx=>(ht.ak x (List.mem_of_mem_take hx)).2)
    have h2:=List.length_take_le' j ai
    have:=ht.len
    omega
   simp+decide only[st,xv,kD,Nn,q8,x0]
   refine au (F5 ok (l:=ai[j].ak) (t':= .ao) htj.1 (by simp only[List.length_append];omega)) ?_
   simp+decide only[st,xv,kD,Nn,aaj,Uo,hwj]
   refine⟨m-1,by omega,j+1,by omega,rV.trans xo,?_,q37,Up,rfl⟩
   rw[<-List.take_append_getElem hj]
   simp only[List.flatMap_append,List.flatMap_cons,List.flatMap_nil,List.append_nil,List.append_assoc]
   rfl
  ·have jr: ¬(j:Int)<(ai.length:Int):=by omega
   simp+decide only[st,xv,kD,No,aai,Up,Uo,q8,jr,bG]
   rw[List.take_of_length_le (by omega)]
   refine⟨?_,rV.get⟩
   unfold G1
   rw[hB]
   exact iB.lh
end
section
open Go
variable {P:Program} {h:aa} {a:KA} {lb N M:Nat} {ai:List Th} {ah:List Ob} {g:Nat->Option (List UInt8)} {tv:AV} {t:Nat}
structure KE (h:aa) (a:KA) (lb:Nat) (tv:AV):Prop where
 top:h.get a.kb=some (.cells [tv, .ptr a.ab 0, .ptr a.bs 0])
 ar:AA h a.ab a.mb lb 1 0 (fun _=>none)
 sp:SG h a.bs a.bm a.bl a.bp 0 (fun _=>none)
 l1:a.kb<h.next
 k7: ∀b,FA a lb b-> ¬FS a b
 kZ: ∀b,b=a.kb-> ¬FA a lb b
 nQ: ∀b,b=a.kb-> ¬FS a b
def rM (n:Nat) (a:KA) (lb:Nat):Prop:=n<=a.kb/\(∀b,FA a lb b->n<=b)/\ ∀b,FS a b->n<=b
theorem aiA (ok:ax P tb) {tv:AV} (ho:tv.one=true) (hc:tv.cells=[tv]) (t0:Nat): ∃a lb h',an P 27 [tv] h (.ptr a.kb 0) h'/\a.tb=t0/\KE h' a lb tv/\rM h.next a lb/\Old h h':=by
 obtain⟨h1,c1,A1,n1,o1⟩:=AA.new ok (h:=h) (v:=1)
 obtain⟨bs,bm,bl,bp,h2,c2,S2,b1,b2,b3,b4,o2⟩:=SG.new ok (h:=h1)
 have lS:=S2.lt
 have n2:=o2.next
 refine⟨⟨h2.next,t0,h.next+1,h.next,bs,bm,bl,bp⟩,h.next+1,?_⟩
 have hx: ∃h',an P 27 [tv] h (.ptr h2.next 0) h'/\h'=h2.at h2.next (.cells [tv, .ptr (h.next+1) 0, .ptr bs 0]):=by
  refine ok.dI (rf:=yp) rfl (Nat.le_of_ble_eq_true rfl) ?_
  simp+decide only[st,xv,yp,af2,Jl]
  refine au c1 ?_
  simp+decide only[st,xv,yp,Jl]
  refine au c2 ?_
  simp+decide only[st,xv,yp,Jl,hc,ho,xr]
  exact⟨rfl,rfl⟩
 obtain⟨h',c,rfl⟩:=hx
 have o3:Old h2 (h2.at h2.next (.cells [tv, .ptr (h.next+1) 0, .ptr bs 0])):=(Old.refl h2).at (Nat.le_refl _)
 refine⟨_,c,rfl,⟨by simp[aa.at],(A1.old o2).old o3,S2.old o3,by simp[aa.at],?_,?_,?_⟩,⟨by show h.next<=h2.next;omega,?_,?_⟩,(o1.trans o2).trans o3⟩
 ·rintro b (e|e|e) (f|f|f|f)<;>(try simp only at e)<;>(try simp only at f)<;>omega
 ·rintro b e (f|f|f)<;>(try simp only at e)<;>(try simp only at f)<;>omega
 ·rintro b e (f|f|f|f)<;>(try simp only at e)<;>(try simp only at f)<;>omega
 ·rintro b (f|f|f)<;>(try simp only at f)<;>omega
 ·rintro b (f|f|f|f)<;>(try simp only at f)<;>omega
theorem KE.bN (K:KE h a lb tv) {h':aa} (o: ∀b,b<h.next->b=a.kb\/FA a lb b\/FS a b->h'.get b=h.get b) (hn:h.next<=h'.next):KE h' a lb tv:=by
 have A:=K.ar.lt
 have S:=K.sp.lt
 exact⟨by rw[o _ K.l1 (.inl rfl),K.top],K.ar.bN hn (o _ A.1 (.inr (.inl (.inl rfl)))) (o _ A.2.1 (.inr (.inl (.inr (.inl rfl))))) (fun h=>o _ h (.inr (.inl (.inr (.inr rfl))))) (Nat.le_refl _),
  K.sp.bN hn (o _ S.1 (.inr (.inr (.inl rfl)))) (o _ S.2.1 (.inr (.inr (.inr (.inl rfl))))) (o _ S.2.2.1 (.inr (.inr (.inr (.inr (.inl rfl)))))) (o _ S.2.2.2 (.inr (.inr (.inr (.inr (.inr rfl)))))) (Nat.le_refl _),Nat.lt_of_lt_of_le K.l1 hn,K.k7,K.kZ,K.nQ⟩
theorem KE.kh (K:KE h a lb (.rs t 0 ai.length 12)) (ht:h.get t=some (.cells (aX aS ai).flatten)) (l2:t<h.next) (hn:a.kb≠t/\ ¬FA a lb t/\ ¬FS a t):KH h {a with tb:=t} lb 0 0 ai [] (eF []):=
 ⟨K.top,ht,⟨_,K.ar,fun id=>rfl⟩,K.sp,K.l1,l2,hn.1,K.k7,by
   rintro b (e|e)
   ·exact K.kZ b e
   ·simp only at e;subst e;exact hn.2.1,by
   rintro b (e|e)
   ·exact K.nQ b e
   ·simp only at e;subst e;exact hn.2.2,⟨List.Pairwise.nil,fun o ho=>by cases ho⟩⟩
structure Cf where
 bh:Int
 lq:Int
 cj:List Lb
def asJ:ey Lb:=⟨fun l=>l.c .ao,2,fun _=>rfl,fun l=>by simp only[Lb.c,AV.bH,AV.strip,aw.fx],fun p l=>by simp only[Lb.c,AV.b8,AV.bD,aw.iw];rfl⟩
def Cf.c (c:Cf) (t:aG):List AV:=[.int .i64 c.bh, .int .i64 c.lq, .vs (asJ.R c.cj) t]
def jD (c:Cf):Bool:=decide (0<=c.bh)&&decide (c.bh<=400)&&decide (0<=c.lq)&&decide (c.lq<=100000)&&decide (1<=c.cj.length)&&decide (c.cj.length<=4)&&c.cj.all ei
def dm (l:Lb):Th:=⟨l,qj,0,0,0,0,0,0,false⟩
def root (q:Int):Ob:={bf with id:=1,kind:=1,ak:=⟨2,[]⟩,bh:=q,next:=1}
theorem anm {q:Int} (h0:0<=q) (h1:q<=400):jd (root q):=by
 refine⟨⟨⟨show 2<256 by decide,fun p hp=>(by cases hp),show 0<2^20 by decide⟩,show 1<2^64 by decide,show 0<2^20 by decide,show 0<2^20 by decide,fun c hc=>(by cases hc)⟩,?_,rfl⟩
 have e1:dw (root q).id=true:=show dw 1=true by decide
 have e2:p7 (root q)=true:=show(ei ⟨2,[]⟩&&(dW []).length==0)=true by decide
 unfold fC
 rw[e1,e2]
 unfold m5 root
 simp[h0,h1,bf]
theorem KE.mq (K:KE h a lb tv) {xI:AV}:KE (h.set a.kb (some (.cells [xI, .ptr a.ab 0, .ptr a.bs 0]))) a lb xI:=by
 have e: ∀b,FA a lb b\/FS a b->(h.set a.kb (some (.cells [xI, .ptr a.ab 0, .ptr a.bs 0]))).get b=h.get b:=by
  intro b hb
  simp only[aa.set]
  rw[if_neg]
  intro he;subst he
  rcases hb with hb|hb
  ·exact K.kZ _ rfl hb
  ·exact K.nQ _ rfl hb
 have hn:h.next<=(h.set a.kb (some (.cells [xI, .ptr a.ab 0, .ptr a.bs 0]))).next:=Nat.le_refl _
 exact⟨by simp[aa.set],K.ar.bN hn (e _ (.inl (.inl rfl))) (e _ (.inl (.inr (.inl rfl)))) (fun _=>e _ (.inl (.inr (.inr rfl)))) (Nat.le_refl _),
  K.sp.bN hn (e _ (.inr (.inl rfl))) (e _ (.inr (.inr (.inl rfl)))) (e _ (.inr (.inr (.inr (.inl rfl))))) (e _ (.inr (.inr (.inr (.inr rfl))))) (Nat.le_refl _),K.l1,K.k7,K.kZ,K.nQ⟩
theorem jF.atD {sz k:Nat} {h H:aa} {v:AV} {l:List (List AV)} {x:Option cF} (g:jF sz h H v l) (hk:k<h.next):jF sz h (H.set k x) v l:=by
 rcases g with g|⟨b,h0,h1,hc,h2,h3⟩
 ·exact .inl g
 ·refine .inr ⟨b,h0,h1,?_,h2,h3⟩
  unfold cellsOf at hc ⊢
  simp only[aa.set]
  rw[if_neg (by omega)];exact hc
theorem jF.EI {sz bytes id n:Nat} {h H:aa} {v:AV} {l:List (List AV)} (g:jF sz h H v l) (ho:h.next<=H.next) (aJ:H.next<=id) (aB:id<H.next+n) {x:List AV} (hl:l.length<2^20) (hb:bytes<2^10) (hs: ∀r∈l,r.length=sz): ∃v' H',fJ bytes sz id (H.clean n) v (some [x])=some (v',H')/\jF sz h H' v' (l++[x])/\H'.next=H.next+n/\v'.one=true/\v'.cells=[v']/\(∀b,b<h.next->H'.get b=H.get b)/\ ∀b,b≠id->H.next<=b->H'.get b=none:=by
 have hmul:(l.length+1)*bytes<2^40:=Nat.lt_of_lt_of_le (Nat.mul_lt_mul_of_lt_of_lt (show l.length+1<2^21 by omega) hb) (by decide)
 rcases g with⟨rfl,rfl⟩|⟨b,h0,rfl,hc,h1,h2⟩
 ·have ew:(1:Nat)*bytes<2^40:=by omega
  refine⟨.rs id 0 1 sz,(H.clean n).at id (.cells [x].flatten),?_, .inr ⟨id,by simp,rfl,av (by simp[aa.at]),by omega,by simp[aa.at,aa.clean];omega⟩,by simp[aa.at,aa.clean];omega,rfl,rfl,fun b hb=>by simp only[aa.at,aa.clean];rw[if_neg (by omega),if_pos (by omega)],fun b hb hn=>by simp only[aa.at,aa.clean];rw[if_neg hb,if_neg (by omega)]⟩
  simp only[fJ,List.length_singleton,List.cons_ne_nil,if_false]
  rw[if_pos ⟨ew,by decide⟩]
 ·have hlen:l.flatten.length=l.length*sz:=jg hs
  have dt:cellsOf (H.clean n) b=some l.flatten:=by
   rw[<-hc];unfold cellsOf;simp only[aa.clean];rw[if_pos h2]
  refine⟨.rs id 0 (l.length+1) sz,((H.clean n).set b none).at id (.cells (l++[x]).flatten),?_, .inr ⟨id,by simp,by simp,av (by simp[aa.at]),by omega,by simp[aa.at,aa.clean,aa.set];omega⟩,by simp[aa.at,aa.set,aa.clean];omega,rfl,rfl,fun c hb=>by simp only[aa.at,aa.set,aa.clean];rw[if_neg (by omega),if_neg (by omega),if_pos (by omega)],fun c hb hn=>by simp only[aa.at,aa.set,aa.clean];rw[if_neg hb,if_neg (by omega),if_neg (by omega)]⟩
  simp only[fJ,dt,Option.bind_some,List.length_singleton,List.cons_ne_nil,if_false]
  rw[if_pos (by refine⟨trivial,trivial,?_,?_,?_⟩<;>omega),List.take_of_length_le (by omega)]
  simp
theorem Wl (ok:ax P tb) {c:Cf} {w:AV} {τ:aG} (hv: ∀h',Old h h'->ik h' w 2 (c.cj.map fun l=>l.c τ)) (w1:w.one=true) (w2:w.cells=[w]) (hl: ∀l∈c.cj,l.ok) (hn:c.cj.length<2^20):
 (jD c=false/\ ∃h',an P 19 [.agg [.int .i64 c.bh, .int .i64 c.lq,w]] h (.ay [.nil, .int .i64 1]) h'/\Old h h')\/
 (jD c=true/\ ∃a lb h',an P 19 [.agg [.int .i64 c.bh, .int .i64 c.lq,w]] h (.ay [.ptr a.kb 0, .int .i64 0]) h'/\KH h' a lb 1 0 (c.cj.map dm) [root c.bh] (eF [root c.bh])/\Old h h'/\rM h.next a lb/\h.next<=a.tb):=by
 have key: ∃v h',an P 19 [.agg [.int .i64 c.bh, .int .i64 c.lq,w]] h v h'/\Old h h'/\((jD c=false/\v= .ay [.nil, .int .i64 1])\/(jD c=true/\ ∃a lb,v= .ay [.ptr a.kb 0, .int .i64 0]/\KH h' a lb 1 0 (c.cj.map dm) [root c.bh] (eF [root c.bh])/\rM h.next a lb/\h.next<=a.tb)):=by
  refine ok.uv (rf:=iK) rfl (Nat.le_of_ble_eq_true rfl) ?_
  have hlen: ∀h',Old h h'->gC w=some c.cj.length:=fun h' o=>by rw[(hv h' o).len,List.length_map]
  have hlen:=hlen h (Old.refl h)
  simp+decide only[st,xv,iK,agu,w1,w2]
  generalize hX:aa.at _ _ _=X
  have xo:Old h X:=by rw[<-hX];exact(Old.refl h).at (Nat.le_refl _)
  have x0:cellsOf X h.next=some [.int .i64 c.bh, .int .i64 c.lq,w]:=by rw[<-hX];exact av (by simp[aa.at])
  have xn:X.next=h.next+1:=by rw[<-hX];simp[aa.at]
  simp+decide only[st,xv,iK,uR,x0]
  refine au (GP ok) ?_
  by_cases a1:0<=c.bh/\c.bh<=400
  case neg=>
   have e1:(decide (0<=c.bh)&&decide (c.bh<=400))=false:=by
    rw[<-Bool.not_eq_true];simpa using a1
   have hb:jD c=false:=by unfold jD;rw[e1];simp
   rw[e1]
   simp+decide only[st,xv,iK,uR,D7]
   exact⟨_,rfl,xo, .inl ⟨hb,rfl⟩⟩
  have e1:(decide (0<=c.bh)&&decide (c.bh<=400))=true:=by simpa using a1
  rw[e1]
  simp+decide only[st,xv,iK,uR,x0]
  refine au (GP ok) ?_
  by_cases a2:0<=c.lq/\c.lq<=100000
  case neg=>
   have e2:(decide (0<=c.lq)&&decide (c.lq<=100000))=false:=by
    rw[<-Bool.not_eq_true];simpa using a2
   have hb:jD c=false:=by unfold jD;rw[e1,Bool.true_and,e2];simp
   rw[e2]
   simp+decide only[st,xv,iK,uR,D7]
   exact⟨_,rfl,xo, .inl ⟨hb,rfl⟩⟩
  have e2:(decide (0<=c.lq)&&decide (c.lq<=100000))=true:=by simpa using a2
  rw[e2]
  by_cases a3:c.cj.length<1
  ·have hb:jD c=false:=by unfold jD;rw[show decide (1<=c.cj.length)=false from decide_eq_false (by omega)];simp
   have KR:(c.cj.length:Int)<1:=by omega
   simp+decide only[st,xv,iK,uR,D7,x0,hlen,KR]
   exact⟨_,rfl,xo, .inl ⟨hb,rfl⟩⟩
  have KR: ¬(c.cj.length:Int)<1:=by omega
  by_cases a4:4<c.cj.length
  ·have hb:jD c=false:=by unfold jD;rw[show decide (c.cj.length<=4)=false from decide_eq_false (by omega)];simp
   have VD:(4:Int)<(c.cj.length:Int):=by omega
   simp+decide only[st,xv,iK,uR,D7,x0,hlen,KR,VD]
   exact⟨_,rfl,xo, .inl ⟨hb,rfl⟩⟩
  have VD: ¬(4:Int)<(c.cj.length:Int):=by omega
  simp+decide only[st,xv,iK,uR,SM,x0,hlen,KR,VD]
  obtain⟨a,lb,X1,c1,lZ,K1,rP,o1⟩:=aiA ok (h:=X) (tv:= .vs [] .full) rfl rfl 0
  refine au c1 ?_
  have x1:cellsOf X1 h.next=some [.int .i64 c.bh, .int .i64 c.lq,w]:=by rw[<-x0];unfold cellsOf;rw[o1.get _ (by omega)]
  have on1:=o1.next
  simp+decide only[st,xv,iK,SM,agt,x1,hlen]
  let I:Nat->Env->aa->Prop:=fun n ρ H=> ∃i tv,c.cj.length=i+n/\KE H a lb tv/\jF 12 X1 H tv (aX aS ((c.cj.take i).map dm))/\X1.next<=H.next/\(∀b,b<X1.next->b≠a.kb->H.get b=X1.get b)/\(∀l∈c.cj.take i,ei l=true)/\ρ 1= .ptr h.next 0/\ρ 4= .ptr a.kb 0/\ρ 31=w/\ρ 32= .int .i64 c.cj.length/\ρ 33= .int .i64 i
  refine dO I ?_ c.cj.length ⟨0,_,by omega,K1, .inl ⟨rfl,rfl⟩,Nat.le_refl _,fun _ _ _=>rfl,fun l hl=>by simp at hl,rfl,rfl,rfl,rfl,rfl⟩
  rintro n ρ H ⟨i,tv,aB,K,hg,qu,ho,hm,r1,r4,r31,Um,Ul⟩
  have Tz:Old h H:=⟨by have:=xo.next;omega,fun b hb=>by
   have:=rP.1
   rw[ho b (by omega) (by omega),o1.get b (by omega),xo.get b hb]⟩
  by_cases hi:i<c.cj.length
  ·have aA:(i:Int)<(c.cj.length:Int):=by omega
   have hw:=dF (show i<2^61 by omega)
   obtain⟨p,g1,g2⟩:=(hv H Tz).get i (by rw[List.length_map];exact hi)
   have g3:(c.cj.map fun l=>l.c τ)[i]'(by rw[List.length_map];exact hi)=[.int .u8 c.cj[i].d, .vs (aw.R c.cj[i].ps) τ]:=by simp[Lb.c]
   rw[g3] at g2
   simp+decide only[st,xv,iK,SL,ags,r31,Um,Ul,aA,g1,g2]
   generalize hY:aa.set _ _ _=Y
   have yo:Old H Y:=by rw[<-hY];exact((Old.refl H).at (Nat.le_refl _)).set (Nat.le_refl _)
   have y0:cellsOf Y H.next=some [.int .u8 c.cj[i].d, .vs (aw.R c.cj[i].ps) τ]:=by rw[<-hY];exact av (by simp[aa.set])
   have yn:Y.next=H.next+1:=by rw[<-hY];simp[aa.at,aa.set]
   have iT:=hl _ (List.getElem_mem hi)
   simp+decide only[st,xv,iK,Jn,y0]
   refine au (LK (l:=c.cj[i]) (t:=τ) ok iT) ?_
   cases UX:ei c.cj[i] with
   |false=>
    have hb:jD c=false:=by
     unfold jD
     rw[show c.cj.all ei=false from ?_]
     ·simp
     ·rw[List.all_eq_false];exact⟨_,List.getElem_mem hi,by simp[UX]⟩
    simp+decide only[st,xv,iK,Jn,agr]
    exact⟨_,rfl,Tz.trans yo, .inl ⟨hb,rfl⟩⟩
   |true=>
    have KY:=K.bN (h':=Y) (fun b hb _=>yo.get b hb) yo.next
    have cY:=av KY.top
    have lk:=KY.l1
    have ly:H.next<Y.next:=by omega
    have nF:=Gx UX
    simp+decide only[st,xv,iK,Jn]
    refine qO 7 13 rfl (by omega) rfl ?_
    simp+decide only[st,xv,iK,SK,r4,y0,cY,lk,ly]
    refine gX (Gd ok (l:=c.cj[i]) (t:=τ) (by omega)) (cN (Nat.le_refl _)) ?_
    have tB:=List.length_take_le i c.cj
    obtain⟨xI,H',ha,cD,jb,h1,h2,ej,fh⟩:=(hg.to yo).EI (bytes:=160) (id:=Y.next+(7+1+1)) (n:=13) (by omega) (by omega) (by omega) (x:=(dm c.cj[i]).c aS) (by rw[iX];simp;omega) (by omega) ma
    have tM:fJ 160 12 (Y.next+(7+1+1)) (Y.clean 13) tv (some [[.int .u8 c.cj[i].d, .vs (aw.R c.cj[i].ps) .ao, .vs [] .full, .vs [] .full, .vs [] .full, .int .i64 0, .int .i64 0, .int .u64 0, .int .u64 0, .int .i64 0, .int .i64 0, .bool false]])=some (xI,H'):=ha
    have UA:=K1.l1
    have gk: ∀b,b<Y.next->b<X1.next->H'.get b=Y.get b:=by
     intro b hb ew
     rw[ej b ew]
    have cH:cellsOf H' a.kb=some [tv, .ptr a.ab 0, .ptr a.bs 0]:=by
     rw[<-cY];unfold cellsOf;rw[gk _ lk UA]
    simp+decide only[st,xv,iK,SK,Lb.c,y0,cY,lk,ly,yy,tM,xr,h1,h2,cH]
    have KA:=KY.ar.lt
    have KSl:=KY.sp.lt
    have hA1:=K1.ar.lt
    have hS1:=K1.sp.lt
    have KH':KE H' a lb tv:=KY.bN (fun b hb hf=>gk b hb (by
     rcases hf with hf|hf|hf
     ·omega
     ·rcases hf with hf|hf|hf<;>omega
     ·rcases hf with hf|hf|hf|hf<;>omega)) (by omega)
    refine⟨fun j hj hn=>fh _ (by omega) (by omega),(jv lk).2 (fun j hj hn=>fh _ (by omega) (by omega)),?_⟩
    simp+decide only[st,xv,iK,aao,Ul,hw]
    refine⟨n-1,by omega,i+1,xI,by omega,KH'.mq,?_,by simp only[aa.set];omega,fun b hb hk=>?_,?_,r1,r4,r31,Um,rfl⟩
    ·rw[<-List.take_append_getElem hi,List.map_append]
     unfold aX at cD ⊢
     rw[List.map_append]
     exact cD.atD UA
    ·simp only[aa.set]
     rw[if_neg hk,gk b (by omega) hb,yo.get b (by omega),ho b hb hk]
    ·intro l bn
     rw[<-List.take_append_getElem hi] at bn
     rcases List.mem_append.1 bn with bn|bn
     ·exact hm l bn
     ·have:l=c.cj[i]:=by simpa using bn
      rw[this];exact UX
  ·have aA: ¬(i:Int)<(c.cj.length:Int):=by omega
   have Kn:i=c.cj.length:=by omega
   rw[List.take_of_length_le (by omega)] at hg hm
   have U7:jD c=true:=by
    unfold jD
    have:c.cj.all ei=true:=List.all_eq_true.2 hm
    simp[this,a1,a2];omega
   rcases hg with⟨e,_⟩|⟨b,_,rfl,dt,ew,b9⟩
   ·have:=congrArg List.length e
    rw[iX] at this
    simp only[List.length_map,List.length_nil] at this
    omega
   rw[iX,List.length_map] at K
   have hgb:H.get b=some (.cells (aX aS (c.cj.map dm)).flatten):=by
    revert dt;unfold cellsOf;split
    ·rename_i e;intro hh;cases hh;exact e
    ·intro hh;cases hh
   have hA1:=K1.ar.lt
   have hS1:=K1.sp.lt
   have UA:=K1.l1
   have KK:=(KE.kh (ai:=c.cj.map dm) (t:=b) (by rw[List.length_map];exact K) hgb b9 ⟨by omega,by rintro(e|e|e)<;>omega,by rintro(e|e|e|e)<;>omega⟩)
   have xH:cellsOf H h.next=some [.int .i64 c.bh, .int .i64 c.lq,w]:=by
    rw[<-x1];unfold cellsOf;rw[ho _ (by omega) (by have:=rP.1;omega)]
   obtain⟨h',c2,aT,K2,eD,jH⟩:=agN ok KK (o:=root c.bh) (t:=fun _=> .full) (anm a1.1 a1.2) (fun o' ej=>by cases ej) (by decide) (by decide)
   simp+decide only[st,xv,iK,SL,Nq,Um,Ul,r1,r4,aA,xH]
   refine au c2 ?_
   simp+decide only[st,xv,iK,Nq,aan,r4]
   refine⟨_,rfl,⟨by have:=jH.1;have:=xo.next;omega,fun x hx=>?_⟩, .inr ⟨U7,{a with tb:=b},aT,rfl,K2,⟨?_,?_,?_⟩,?_⟩⟩
   ·rw[jH.2 x (by have:=xo.next;omega) ?_ ?_ ?_]
    ·exact Tz.get x hx
    ·rintro(e|e)
     ·have:=rP.1;simp only at e;omega
     ·simp only at e;omega
    ·intro e;have:=rP.2.1 x e;omega
    ·intro e;have:=rP.2.2 x e;omega
   ·have:=rP.1;show h.next<=a.kb;omega
   ·rintro x (e|e|e)
    ·have:=rP.2.1 x (.inl e);omega
    ·have:=rP.2.1 x (.inr (.inl e));omega
    ·rcases eD with h|h
     ·have:=rP.2.1 x (.inr (.inr (e.trans h)));omega
     ·omega
   ·intro x e;have:=rP.2.2 x e;omega
   ·show h.next<=b;omega
 obtain⟨v,h',hc,o,hq⟩:=key
 rcases hq with⟨e,rfl⟩|⟨e,a,lb,rfl,hq⟩
 ·exact .inl ⟨e,h',hc,o⟩
 ·exact .inr ⟨e,a,lb,h',hc,hq.1,o,hq.2⟩
end
section
open Go
variable {P:Program} {h:aa} {a:KA} {lb N M:Nat} {ai:List Th} {ah:List Ob} {g:Nat->Option (List UInt8)}
theorem KF.eZ {h0 h h':aa} {a:KA} {lb:Nat} (k:KF h h' a lb) (o:Old h0 h) (kn:rM h0.next a lb) (ht:h0.next<=a.tb):Old h0 h':=by
 have:=o.next
 refine⟨Nat.le_trans o.next k.1,fun x hx=>?_⟩
 rw[k.2 x (by omega) ?_ ?_ ?_,o.get x hx]
 ·rintro(e|e)
  ·have:=kn.1;omega
  ·omega
 ·intro e;have:=kn.2.1 x e;omega
 ·intro e;have:=kn.2.2 x e;omega
theorem rM.to {n m:Nat} {a:KA} {lb aT:Nat} (k:rM n a lb) (hl:aT=lb\/m<=aT) (hm:n<=m):rM n a aT:=by
 refine⟨k.1,fun b hb=>?_,k.2.2⟩
 rcases hb with hb|hb|hb
 ·exact k.2.1 b (.inl hb)
 ·exact k.2.1 b (.inr (.inl hb))
 ·rcases hl with h|h
  ·exact k.2.1 b (.inr (.inr (hb.trans h)))
  ·omega
end
section
open Go
variable {P:Program} {h:aa} {a:KA} {lb N M:Nat} {ai:List Th} {ah:List Ob} {g:Nat->Option (List UInt8)}
structure Rp where
 Mq:Int
 err:Int
 ret:Nat
 data:List UInt8
 deriving DecidableEq
structure KX (h:aa) (xb:Nat) (a:KA) (lb N M t:Nat) (ai:List Th) (ah:List Ob) (rp:Rp):Prop where
 k:KH h a lb N M ai ah (eF ah)
 x: ∃tl,h.get xb=some (.cells [.ptr a.kb 0, .ptr a.tb (t*12), .int .i64 t, .int .i64 rp.Mq, .int .i64 rp.err, .int .u64 rp.ret, .vs (BS rp.data) tl])
 lx:xb<h.next
 dK: ¬FK a xb
 dA: ¬FA a lb xb
 dS: ¬FS a xb
 ht:t<ai.length
 tv:TV ai
 root: ∃r,bg ah 1=some r
variable {xb t:Nat} {rp:Rp}
theorem KX.old (X:KX h xb a lb N M t ai ah rp) {h':aa} (o:Old h h'):KX h' xb a lb N M t ai ah rp:=by
 obtain⟨tl,hx⟩:=X.x
 exact⟨X.k.old o,⟨tl,by rw[o.get _ X.lx,hx]⟩,Nat.lt_of_lt_of_le X.lx o.next,X.dK,X.dA,X.dS,X.ht,X.tv,X.root⟩
theorem KX.ak (X:KX h xb a lb N M t ai ah rp):(ai[t]'X.ht).ak.ok:=(X.tv.ak _ (List.getElem_mem X.ht)).1
theorem KX.th (X:KX h xb a lb N M t ai ah rp):cellsOf h a.tb=some (aX aS ai).flatten/\t*12+12<=(aX aS ai).flatten.length/\((aX aS ai).flatten.drop (t*12)).take 2=[.int .u8 (ai[t]'X.ht).ak.d, .vs (aw.R (ai[t]'X.ht).ak.ps) .ao]:=by
 have hl:(aX aS ai).flatten.length=ai.length*12:=by rw[jg ma,iX]
 have ht:=X.ht
 refine⟨av X.k.cj,by omega,?_⟩
 have hc:=Gm (rows:=aX aS ai) (i:=t) (by rw[iX];exact ht) ma
 have e:((aX aS ai).flatten.drop (t*12)).take 2=(((aX aS ai).flatten.drop (t*12)).take 12).take 2:=by rw[List.take_take];rfl
 rw[e,hc]
 simp[aX,iE]
theorem CO (ok:ax P tb) (X:KX h xb a lb N M t ai ah rp) {o:Ob} {tl:Nat->aG} (hl:o.ak.ok):an P 99 [.ptr xb 0, .agg (o.c tl)] h (.bool (fq (ai[t]'X.ht).ak o.ak)) h:=by
 refine ok.keeps (rf:=A3) rfl (Nat.le_of_ble_eq_true rfl) rfl ?_
 obtain⟨rt,hx⟩:=X.x
 have cx:=av hx
 obtain⟨ct,hle,gx⟩:=X.th
 have l2:=X.k.l2
 have lx:=X.lx
 have i5:t*12+2<=(aX aS ai).flatten.length:=by omega
 simp+decide only[st,xv,A3,acR,Ob.c]
 generalize hY:aa.at _ _ _=Y
 have yo:Old h Y:=by rw[<-hY];exact(Old.refl h).at (Nat.le_refl _)
 have y0:cellsOf Y h.next=some (o.c tl):=by rw[<-hY];exact av (by simp[aa.at,Ob.c])
 have yn:h.next<Y.next:=by rw[<-hY];simp[aa.at]
 have nR:cellsOf Y xb=_:=(show cellsOf Y xb=cellsOf h xb by unfold cellsOf;rw[yo.get _ lx]).trans cx
 have vG:cellsOf Y a.tb=_:=(show cellsOf Y a.tb=cellsOf h a.tb by unfold cellsOf;rw[yo.get _ l2]).trans ct
 simp only[Ob.c] at y0
 have n1:xb<Y.next:=by omega
 have n2:a.tb<Y.next:=by omega
 refine bU 11 rfl rfl ?_
 simp+decide only[st,xv,A3,acQ,nR,vG,y0,n1,n2,yn,i5,gx]
 refine eX (ajJ (a:=(ai[t]'X.ht).ak) (b:=o.ak) (ta:= .ao) (eU:=tl 0) ok X.ak hl) (cN (Nat.le_refl _)) ?_
 simp+decide only[st,xv]
 intro b hb
 rw[if_pos (by omega)]
 exact yo.get b hb
theorem Mx (ok:ax P tb) (X:KX h xb a lb N M t ai ah rp) {o:Ob} {tl:Nat->aG} (hl:o.ak.ok):an P 100 [.ptr xb 0, .agg (o.c tl)] h (.bool (fI (ai[t]'X.ht).ak o.ak)) h:=by
 refine ok.keeps (rf:=As) rfl (Nat.le_of_ble_eq_true rfl) rfl ?_
 obtain⟨rt,hx⟩:=X.x
 have cx:=av hx
 obtain⟨ct,hle,gx⟩:=X.th
 have l2:=X.k.l2
 have lx:=X.lx
 have i5:t*12+2<=(aX aS ai).flatten.length:=by omega
 simp+decide only[st,xv,As,acf,Ob.c]
 generalize hY:aa.at _ _ _=Y
 have yo:Old h Y:=by rw[<-hY];exact(Old.refl h).at (Nat.le_refl _)
 have y0:cellsOf Y h.next=some (o.c tl):=by rw[<-hY];exact av (by simp[aa.at,Ob.c])
 have yn:h.next<Y.next:=by rw[<-hY];simp[aa.at]
 have nR:cellsOf Y xb=_:=(show cellsOf Y xb=cellsOf h xb by unfold cellsOf;rw[yo.get _ lx]).trans cx
 have vG:cellsOf Y a.tb=_:=(show cellsOf Y a.tb=cellsOf h a.tb by unfold cellsOf;rw[yo.get _ l2]).trans ct
 simp only[Ob.c] at y0
 have n1:xb<Y.next:=by omega
 have n2:a.tb<Y.next:=by omega
 refine bU 11 rfl rfl ?_
 simp+decide only[st,xv,As,ace,nR,vG,y0,n1,n2,yn,i5,gx]
 refine eX (aiM (a:=(ai[t]'X.ht).ak) (b:=o.ak) (ta:= .ao) (eU:=tl 0) ok X.ak hl) (cN (Nat.le_refl _)) ?_
 simp+decide only[st,xv]
 intro b hb
 rw[if_pos (by omega)]
 exact yo.get b hb
def dG (l o:Lb):Bool:=fq l o&&fI l o
theorem Ii (ok:ax P tb) (X:KX h xb a lb N M t ai ah rp) {o:Ob} {tl:Nat->aG} (hl:o.ak.ok):an P 92 [.ptr xb 0, .agg (o.c tl)] h (.bool (dG (ai[t]'X.ht).ak o.ak)) h:=by
 refine ok.keeps (rf:=tS) rfl (Nat.le_of_ble_eq_true rfl) rfl ?_
 simp+decide only[st,xv,tS,ac5,Ob.c]
 generalize hY:aa.at _ _ _=Y
 have yo:Old h Y:=by rw[<-hY];exact(Old.refl h).at (Nat.le_refl _)
 have y0:cellsOf Y h.next=some (o.c tl):=by rw[<-hY];exact av (by simp[aa.at,Ob.c])
 simp only[Ob.c] at y0
 have XY:=X.old yo
 unfold dG
 simp+decide only[st,xv,tS,C5,y0]
 refine au (CO ok XY (o:=o) (tl:=tl) hl) ?_
 cases hs:fq (ai[t]'X.ht).ak o.ak with
 |false=>
  simp+decide only[st,xv,tS,C5]
  first|exact⟨rfl,yo.get⟩|(refine⟨by simp,yo.get⟩)
 |true=>
  simp+decide only[st,xv,tS,C5,y0]
  refine au (Mx ok XY (o:=o) (tl:=tl) hl) ?_
  simp+decide only[st,xv,tS,C5]
  first|exact yo.get|(refine⟨?_,yo.get⟩;cases fI (ai[t]'X.ht).ak o.ak<;>rfl)
def eK (ah:List Ob) (l:Lb):Ob->List Nat->Ob×Nat
 |o,[]=>(o,0)
 |o,p::ps=>if o.kind≠1 then(bf,7) else if fq l o.ak=false then(bf,6) else match bg ah p with
  |none=>(bf,7)
  |some o'=>eK ah l o' ps
def dv (ah:List Ob) (l:Lb) (id:Nat):Ob×Nat:=match fp id with
 |[]=>(bf,7)
 |r::ps=>eK ah l ((bg ah r).getD bf) ps
theorem F3 {id:Nat} (h:dw id=false):fp id=[]:=by
 unfold dw at h
 unfold fp
 cases hn:gu id with
 |none=>rfl
 |some l=>rw[hn] at h;cases h
theorem F2 {id:Nat} (h:dw id=true): ∃ps,fp id=1::ps:=by
 unfold dw at h
 unfold fp
 cases hn:gu id with
 |none=>rw[hn] at h;cases h
 |some l=>
  have:=(GK hn).1
  refine⟨(List.range l.length).map fun j=>id/64^(l.length-(j+1)),?_⟩
  simp only[List.range_succ_eq_map,List.map_cons,List.map_map,Nat.sub_zero,this]
  rfl
theorem Yn {ah:List Ob} {l:Lb}: ∀{ps:List Nat} {o:Ob},(∃x∈ah,x=o)->(eK ah l o ps).1=bf\/(eK ah l o ps).1∈ah
 |[],o,h=>by obtain⟨x,hx,rfl⟩:=h;exact .inr hx
 |p::ps,o,h=>by
  unfold eK
  split
  ·exact .inl rfl
  split
  ·exact .inl rfl
  cases ho:bg ah p with
  |none=>exact .inl rfl
  |some o'=>exact Yn ⟨o',(lg ho).1,rfl⟩
def qi:Nat->aG:=fun _=> .full
theorem xK:bf.c qi=[.int .u64 0, .int .i64 0, .int .u8 0, .vs [] .full, .vs [] .full, .vs [] .full, .vs [] .full, .int .i64 0, .int .i64 0, .int .i64 0, .vs [] .full, .vs [] .full, .vs [] .full]:=rfl
theorem Lf (ok:ax P tb) (X:KX h xb a lb N M t ai ah rp) {id:Nat} (aJ:id<2^64):an P 101 [.ptr xb 0, .int .u64 id] h (.ay [.agg ((dv ah (ai[t]'X.ht).ak id).1.c aK), .int .i64 (dv ah (ai[t]'X.ht).ak id).2]) h:=by
 refine ok.eW (rf:=iP) rfl (Nat.le_of_ble_eq_true rfl) (by simp only[AV.bD,AV.b8,um];rfl) ?_
 simp+decide only[st,xv,iP,acd]
 generalize hY:aa.at _ _ _=Y
 have yo:Old h Y:=by rw[<-hY];exact(Old.refl h).at (Nat.le_refl _)
 have y0:cellsOf Y h.next=some (bf.c qi):=by rw[<-hY];exact av (by simp[aa.at];rfl)
 have yn:Y.next=h.next+1:=by rw[<-hY];simp[aa.at]
 have lx:=X.lx
 simp only[xK] at y0
 obtain⟨R,hR⟩: ∃R,R=dv ah (ai[t]'X.ht).ak id:=⟨_,rfl⟩
 rw[<-hR]
 let J:Nat->Env->aa->Prop:=fun n ρ H=> ∃o ps q ob t6,n=ps.length/\Old h H/\o∈ah/\eK ah (ai[t]'X.ht).ak o ps=R/\ρ 0= .ptr xb 0/\ρ 4= .ptr h.next 0/\ρ 6= .vs ((aH .u64).R (q::ps)) t6/\ρ 7= .ptr ob 0/\h.next<ob/\ob<H.next/\cellsOf H h.next=some (bf.c qi)/\cellsOf H ob=some (o.c aK)
 refine l8 0 rfl rfl J (fun l' ρ h hk=>hk) ?_ ?_
 ·unfold dv at hR
  cases hm:dw id with
  |false=>
   rw[F3 hm] at hR
   simp+decide only[st,xv,iP,CI,j9,List.foldr]
   refine au (F4 ok aJ) ?_
   rw[hm]
   simp+decide only[st,xv,iP,CI,acb,y0,xr,bG]
   refine⟨by rw[hR];rfl,fun b hb=>?_⟩
   rw[if_neg (by omega)];exact yo.get b hb
  |true=>
   obtain⟨ps,hp⟩:=F2 hm
   rw[hp] at hR
   simp+decide only[st,xv,iP,CI,j9,List.foldr]
   refine au (F4 ok aJ) ?_
   rw[hm]
   simp+decide only[st,xv,iP,CI,Pu]
   refine au (Wg ok aJ) ?_
   rw[hp]
   have XY:=X.old yo
   obtain⟨rt,hx⟩:=XY.x
   have cx:=av hx
   have J8:=XY.lx
   have g0:((aH .u64).R (1::ps))[0]? =some [.int .u64 1]:=rfl
   obtain⟨r,hr⟩:=X.root
   have a9:=JH ok (XY.old ((Old.refl Y).clean (n:=14))).k (id:=1)
   change R=eK ah (ai[t]'X.ht).ak ((bg ah 1).getD bf) ps at hR
   rw[hr] at a9 hR
   rw[Option.getD_some] at hR
   simp+decide only[st,xv,iP,Pu]
   refine bU 14 rfl rfl ?_
   simp+decide only[st,xv,iP,aca,cx,J8,g0,xr]
   refine eX a9 (cN (Nat.le_refl _)) ?_
   simp+decide only[st,xv,db,xr]
   have vu:=(lg hr).1
   refine⟨fun j hj hn=>?_,ps.length,r,ps,1,Y.next+11,_,rfl,?_,vu,hR.symm,rfl,rfl,rfl,rfl,by omega,?_,?_,?_⟩
   ·simp only[aa.set,aa.at,aa.clean]
    rw[if_neg (by omega),if_neg (by omega)]
    exact if_neg (by omega)
   ·exact yo.trans (((Old.refl Y).clean.at (by omega)).set (by omega))
   ·simp[aa.set,aa.at,aa.clean]
   ·rw[show∀(Z:aa) (cs:List AV),cellsOf (Z.set (Y.next+(1+1+1+1+1+1+1+1+1+1+1)) (some (.cells cs))) h.next=cellsOf Z h.next from fun Z cs=>by unfold cellsOf;simp only[aa.set];rw[if_neg (by omega)]]
    rw[xK,<-y0]
    unfold cellsOf
    simp only[aa.at,aa.clean]
    rw[if_neg (by omega),if_pos (by omega)]
   ·exact av (by simp[aa.set];rfl)
 ·rintro n ρ H ⟨o,ps,q,ob,t6,hn,ho,c5,hw,r0,r4,r6,r7,auo,JJ,z0,z1⟩
  have XH:=X.old ho
  have qu:=ho.next
  simp only[xK] at z0
  simp only[db] at z1
  have hv:=XH.k.ks.val o c5
  have EV: ¬ob=h.next:=by omega
  have agM: ¬h.next=ob:=by omega
  cases ps with
  |nil=>
   have e1:(aH .u64).R [q]=[[.int .u64 q]]:=rfl
   simp+decide only[st,xv,iP,HS,HQ,ab9,r4,r6,r7,e1,z0,z1,xr,EV,bG]
   unfold eK at hw
   rw[<-hw]
   refine⟨?_,fun b hb=>?_⟩
   ·show(AV.ay [.agg (o.c aK), .int .i64 0]).strip=_
    simp only[AV.strip,AV.bH,yK];rfl
   ·rw[if_neg (by omega)];exact ho.get b hb
  |cons p ps=>
   have e1:(aH .u64).R (q::p::ps)=[.int .u64 q]::[.int .u64 p]::(aH .u64).R ps:=rfl
   have k1:List.take (((aH .u64).R ps).length+1+1-1) ([AV.int .u64 p]::(aH .u64).R ps)=[AV.int .u64 p]::(aH .u64).R ps:=List.take_of_length_le (by simp)
   unfold eK at hw
   by_cases h1:o.kind=1
   case neg=>
    simp+decide only[st,xv,iP,HS,HQ,Pt,ab8,r4,r6,r7,e1,k1,z0,z1,xr,EV,h1,bG]
    rw[if_pos h1] at hw
    rw[<-hw]
    refine⟨rfl,fun b hb=>?_⟩
    rw[if_neg (by omega)];exact ho.get b hb
   rw[if_neg (fun h=>h h1)] at hw
   have hk:(o.kind=1)=True:=eq_true h1
   simp+decide only[st,xv,iP,HS,HQ,Pt,BM,r0,r4,r6,r7,e1,k1,z0,z1,xr,EV,hk]
   refine au (CO ok XH (o:=o) (tl:=aK) hv.ok.ak) ?_
   cases hs:fq (ai[t]'X.ht).ak o.ak with
   |false=>
    rw[hs,if_pos rfl] at hw
    simp+decide only[st,xv,iP,BM,Zl,r4,z0,xr,bG]
    rw[<-hw]
    refine⟨rfl,fun b hb=>?_⟩
    rw[if_neg (by omega)];exact ho.get b hb
   |true=>
    rw[hs,if_neg (by simp)] at hw
    obtain⟨rt,hx⟩:=XH.x
    have cx:=av hx
    have J8:=XH.lx
    have a9:=JH ok (XH.old ((Old.refl H).clean (n:=13))).k (id:=p)
    have zc:cellsOf (H.clean 13) ob=_:=(show cellsOf (H.clean 13) ob=cellsOf H ob by unfold cellsOf;simp only[aa.clean];rw[if_pos JJ]).trans z1
    have fr: ∀(cs:List AV) (i:Nat),dP 13 H.next i ((H.clean 13).set ob (some (.cells cs))):=fun cs i=>(jv JJ).2 (cN (Nat.le_refl _))
    cases hf:bg ah p with
    |none=>
     rw[hf] at a9 hw
     simp+decide only[st,xv,iP,BM,Mo]
     refine bU 13 rfl rfl ?_
     simp+decide only[st,xv,iP,Mn,r0,r7,cx,J8,xr]
     refine eX a9 (cN (Nat.le_refl _)) ?_
     have UW:h.next<H.next:=by omega
     simp+decide only[st,xv,iP,Mm,Zk,r0,r4,r7,z1,z0,JJ,UW,db,EV,agM,xr,bG]
     refine⟨fr _ _,?_,fun b hb=>?_⟩
     ·rw[<-hw];rfl
     ·rw[if_neg (by omega),if_neg (by omega),if_pos (by omega)];exact ho.get b hb
    |some o'=>
     rw[hf] at a9 hw
     simp+decide only[st,xv,iP,BM,Mo]
     refine bU 13 rfl rfl ?_
     simp+decide only[st,xv,iP,Mn,r0,r7,cx,J8,xr]
     refine eX a9 (cN (Nat.le_refl _)) ?_
     simp+decide only[st,xv,iP,Mm,r0,r4,r7,z1,JJ,db,EV,agM,xr]
     refine⟨fr _ _,ps.length,by simp only[List.length_cons] at hn;omega,o',ps,p,ob,_,rfl,(ho.trans ((Old.refl H).clean)).set (by omega),(lg hf).1,hw,r0,r4,rfl,r7,auo,by simp only[aa.set,aa.clean];omega,?_,av (by simp[aa.set];rfl)⟩
     rw[xK,<-z0]
     unfold cellsOf
     simp only[aa.set,aa.clean]
     rw[if_neg (by omega),if_pos (by omega)]
end
section
open Go
variable {P:Program} {h:aa} {a:KA} {lb N M:Nat} {ai:List Th} {ah:List Ob} {g:Nat->Option (List UInt8)} {xb t:Nat} {rp:Rp}
def bC (ah:List Ob) (l:Lb) (id:Nat) (kind:Int) (q:Lb->Bool):Ob×Nat:=if(dv ah l id).2≠0 then(bf,(dv ah l id).2) else if(dv ah l id).1.kind≠kind then(bf,8) else if q (dv ah l id).1.ak=false then(bf,6) else((dv ah l id).1,0)
theorem alx {l:Lb} {id:Nat} (hr: ∃r,bg ah 1=some r):(dv ah l id).1=bf\/(dv ah l id).1∈ah:=by
 unfold dv
 cases hm:dw id with
 |false=>rw[F3 hm];exact .inl rfl
 |true=>
  obtain⟨ps,hp⟩:=F2 hm
  obtain⟨r,hr⟩:=hr
  rw[hp]
  show(eK ah l ((bg ah 1).getD bf) ps).1=bf\/(eK ah l ((bg ah 1).getD bf) ps).1∈ah
  rw[hr]
  exact Yn ⟨r,(lg hr).1,rfl⟩
theorem sH:bf.ak.ok:=⟨by decide,fun p hp=>(by cases hp),by decide⟩
theorem KX.anA (X:KX h xb a lb N M t ai ah rp) {l:Lb} {id:Nat}:(dv ah l id).1.ak.ok:=by
 rcases alx (l:=l) (id:=id) X.root with e|e
 ·rw[e];exact sH
 ·exact(X.k.ks.val _ e).ok.ak
theorem ano {o:Ob} {n:Nat} {tl:Nat->aG}:(AV.ay [.agg (o.c tl), .int .i64 n]).strip= .ay [.agg (o.c aK), .int .i64 n]:=by simp only[AV.strip,AV.bH,yK]
theorem t8 (ok:ax P tb) (X:KX h xb a lb N M t ai ah rp) {id:Nat} (aJ:id<2^64) {kind:Int} {f:Nat} {q:Lb->Bool} (hf:cf P f=true) (hq: ∀(o:Ob) (h':aa),o.ak.ok->Old h h'->an P f [.ptr xb 0, .agg (o.c aK)] h' (.bool (q o.ak)) h'):
 an P 91 [.ptr xb 0, .int .u64 id, .int .i64 kind, .fn f [.ptr xb 0] []] h (.ay [.agg ((bC ah (ai[t]'X.ht).ak id kind q).1.c aK), .int .i64 (bC ah (ai[t]'X.ht).ak id kind q).2]) h:=by
 refine ok.eW (rf:=qC) rfl (Nat.le_of_ble_eq_true rfl) (by simp only[AV.bD,AV.b8,um];rfl) ?_
 simp+decide only[st,xv,qC,ada,PX]
 generalize hY:aa.at _ _ _=Y
 have yo:Old h Y:=by rw[<-hY];exact(Old.refl h).at (Nat.le_refl _)
 have y0:cellsOf Y h.next=some (bf.c qi):=by rw[<-hY];exact av (by simp[aa.at];rfl)
 have yn:Y.next=h.next+1:=by rw[<-hY];simp[aa.at]
 have XY:=X.old yo
 refine au (Lf ok XY aJ) ?_
 have gy:=X.anA (l:=(ai[t]'X.ht).ak) (id:=id)
 obtain⟨V,hV⟩: ∃V,V=bC ah (ai[t]'X.ht).ak id kind q:=⟨_,rfl⟩
 rw[<-hV]
 unfold bC at hV
 generalize dv ah (ai[t]'X.ht).ak id=R at*
 obtain⟨o,e⟩:=R
 simp only at gy hV ⊢
 simp+decide only[st,xv,qC,PX,db,xr]
 generalize hZ:aa.set _ _ _=Z
 have zo:Old Y Z:=by rw[<-hZ];exact((Old.refl Y).at (Nat.le_refl _)).set (Nat.le_refl _)
 have z1:cellsOf Z Y.next=some (o.c aK):=by rw[<-hZ];exact av (by simp[aa.set];rfl)
 have z0:cellsOf Z h.next=some (bf.c qi):=by rw[<-y0];unfold cellsOf;rw[zo.get _ (by omega)]
 have XZ:=XY.old zo
 have hold:=yo.trans zo
 simp only[xK] at z0
 simp only[db] at z1
 by_cases he:e=0
 ·subst he
  rw[if_neg (fun h=>h rfl)] at hV
  by_cases hk:o.kind=kind
  ·have ph:(o.kind=kind)=True:=eq_true hk
   rw[if_neg (fun h=>h hk)] at hV
   simp+decide only[st,xv,qC,IF,PW,IE,z1,ph]
   refine pI hf (hq o Z gy hold) ?_
   cases Az:q o.ak with
   |false=>
    rw[Az,if_pos rfl] at hV
    rw[hV]
    simp+decide only[st,xv,qC,IE,ac7,z0,xr,bG]
    exact⟨rfl,fun b hb=>by rw[if_neg (by omega)];exact hold.get b hb⟩
   |true=>
    rw[Az,if_neg (by simp)] at hV
    rw[hV]
    simp+decide only[st,xv,qC,IE,ac6,z0,z1,xr,bG]
    exact⟨ano (o:=o) (n:=0) (tl:=aK),fun b hb=>by rw[if_neg (by omega)];exact hold.get b hb⟩
  ·have ph:(o.kind=kind)=False:=eq_false hk
   rw[if_pos hk] at hV
   rw[hV]
   simp+decide only[st,xv,qC,IF,PW,ac8,z0,z1,ph,xr,bG]
   exact⟨rfl,fun b hb=>by rw[if_neg (by omega)];exact hold.get b hb⟩
 ·have dN:((e:Int)=0)=False:=eq_false (by omega)
  rw[if_pos he] at hV
  rw[hV]
  simp+decide only[st,xv,qC,IF,ac9,z0,dN,xr,bG]
  exact⟨rfl,fun b hb=>by rw[if_neg (by omega)];exact hold.get b hb⟩
theorem KX.mq (X:KX h xb a lb N M t ai ah rp) {x:Th} (hx:x.ak.ok/\x.ak.ps.length<=16):KX (h.set a.tb (some (.cells (aX aS (ai.set t x)).flatten))) xb a lb N M t (ai.set t x) ah rp:=by
 obtain⟨tl,tw⟩:=X.x
 have Uw:=X.k.sp.lt
 obtain⟨f,A,R⟩:=X.k.ar
 have ltA:=A.lt
 have e: ∀b,b≠a.tb->(h.set a.tb (some (.cells (aX aS (ai.set t x)).flatten))).get b=h.get b:=fun b hb=>by simp only[aa.set];rw[if_neg hb]
 have nA: ∀b,FA a lb b->b≠a.tb:=fun b hb e=>X.k.kZ b (.inr e) hb
 have nS: ∀b,FS a b->b≠a.tb:=fun b hb e=>X.k.nQ b (.inr e) hb
 have hn:h.next<=(h.set a.tb (some (.cells (aX aS (ai.set t x)).flatten))).next:=Nat.le_refl _
 refine⟨⟨by rw[e _ X.k.AW,List.length_set,X.k.top],by simp[aa.set],⟨f,A.bN hn (e _ (nA _ (.inl rfl))) (e _ (nA _ (.inr (.inl rfl)))) (fun _=>e _ (nA _ (.inr (.inr rfl)))) (Nat.le_refl _),R⟩,
  X.k.sp.bN hn (e _ (nS _ (.inl rfl))) (e _ (nS _ (.inr (.inl rfl)))) (e _ (nS _ (.inr (.inr (.inl rfl))))) (e _ (nS _ (.inr (.inr (.inr rfl))))) (Nat.le_refl _),X.k.l1,X.k.l2,X.k.AW,X.k.k7,X.k.kZ,X.k.nQ,X.k.ks⟩,
  ⟨tl,by rw[e _ (fun e=>X.dK (.inr e)),tw]⟩,X.lx,X.dK,X.dA,X.dS,by rw[List.length_set];exact X.ht,⟨by rw[List.length_set];exact X.tv.len,fun y hy=>?_⟩,X.root⟩
 rcases List.mem_or_eq_of_mem_set hy with hy|rfl
 ·exact X.tv.ak y hy
 ·exact hx
def qV (l:Lb) (cs:List Nat):Lb:=cs.foldl (fun l c=>w9 l c 0) l
theorem Zy {d:Nat}: ∀{l acc:List (Nat×Nat)},(l.foldl (nw d) acc).length<=acc.length+l.length
 |[],acc=>by simp
 |p::l,acc=>by
  have h1:=Zy (d:=d) (l:=l) (acc:=nw d acc p)
  have h2:=YW (d:=d) (l:=acc) (p:=p)
  rw[List.foldl_cons,List.length_cons];omega
theorem Zx {d:Nat} {q:Nat×Nat}: ∀{l acc:List (Nat×Nat)},q∈l.foldl (nw d) acc->q∈acc\/q∈l
 |[],acc,h=> .inl h
 |p::l,acc,h=>by
  rcases Zx (l:=l) (acc:=nw d acc p) h with h|h
  ·rcases YV h with h|h
   ·exact .inr (by simp[h])
   ·exact .inl h
  ·exact .inr (List.mem_cons_of_mem _ h)
theorem amo {l:Lb} {c km:Nat} (hl:l.ok) (hs:l.ps.length<2^19) (hc:c<65536) (hv:km<256):(w9 l c km).ok/\(w9 l c km).ps.length<=l.ps.length+1:=by
 have h1:(w9 l c km).ps.length<=l.ps.length+1:=by
  have:=Zy (d:=l.d) (l:=l.ps++[(c,km)]) (acc:=[])
  simpa [w9,jG] using this
 refine⟨⟨hl.d,fun p hp=>?_,by omega⟩,h1⟩
 rcases Zx hp with h|h
 ·cases h
 ·rcases List.mem_append.1 h with h|h
  ·exact hl.ps p h
  ·have:p=(c,km):=by simpa using h
   subst this;exact⟨hc,hv⟩
theorem Xk {cs:List Nat}: ∀{l:Lb},l.ok->l.ps.length+cs.length<2^19->(∀c∈cs,c<65536)->(qV l cs).ok/\(qV l cs).ps.length<=l.ps.length+cs.length:=by
 induction cs with
 |nil=>intro l hl _ _;exact⟨hl,by simp[qV]⟩
 |cons c cs ih=>
  intro l hl hs hc
  simp only[List.length_cons] at hs
  have h1:=amo (l:=l) (c:=c) (km:=0) hl (by omega) (hc c (List.mem_cons_self ..)) (by omega)
  have h2:=ih h1.1 (by omega) (fun x hx=>hc x (List.mem_cons_of_mem _ hx))
  refine⟨h2.1,?_⟩
  have:=h2.2
  simp only[List.length_cons]
  show(qV (w9 l c 0) cs).ps.length<=_
  omega
def XF (h h':aa) (a:KA) (lb xb:Nat):Prop:=h.next<=h'.next/\ ∀b,b<h.next-> ¬FK a b-> ¬FA a lb b-> ¬FS a b->b≠xb->h'.get b=h.get b
theorem XF.refl:XF h h a lb xb:=⟨Nat.le_refl _,fun _ _ _ _ _ _=>rfl⟩
theorem KF.xf {h':aa} (k:KF h h' a lb):XF h h' a lb xb:=⟨k.1,fun b hb h1 h2 h3 _=>k.2 b hb h1 h2 h3⟩
theorem XF.old {h':aa} (o:Old h h'):XF h h' a lb xb:=⟨o.next,fun b hb _ _ _ _=>o.get b hb⟩
theorem XF.trans {h1 h2:aa} {aT:Nat} (x:XF h h1 a lb xb) (y:XF h1 h2 a aT xb) (hl:aT=lb\/h.next<=aT):XF h h2 a lb xb:=⟨Nat.le_trans x.1 y.1,fun b hb h1 h2 h3 h4=>by
 have:=x.1
 rw[y.2 b (by omega) h1 ?_ h3 h4,x.2 b hb h1 h2 h3 h4]
 rintro(e|e|e)
 ·exact h2 (.inl e)
 ·exact h2 (.inr (.inl e))
 ·rcases hl with hl|hl
  ·exact h2 (.inr (.inr (e.trans hl)))
  ·omega⟩
theorem vY {l:List Th} {t j:Nat} (ht:t<l.length) {v:List AV} {x':Th} (hj:j+v.length<=12) (hx:List.take j (l[t].c aS)++v++List.drop (j+v.length) (l[t].c aS)=x'.c aS):List.take (t*12+j) (aX aS l).flatten++v++List.drop (t*12+j+v.length) (aX aS l).flatten=(aX aS (l.set t x')).flatten:=by
 have:=BE (rows:=aX aS l) (i:=t) (j:=j) (v:=v) ma (YM ht) hj
 rw[hx] at this
 unfold aX at*
 rw[List.map_set]
 exact this
def gN (x:Th) (cs:List Nat):Nat×Th:=if 16<(qV x.ak cs).ps.length then(9,x) else(0,{x with ak:=qV x.ak cs})
theorem sB {α:Type} {l:List α} {i:Nat} (h:i<l.length):l.set i l[i]=l:=by
 apply List.ext_getElem (by simp)
 intro j h1 h2
 rw[List.getElem_set]
 split
 ·rename_i e;subst e;rfl
 ·rfl
theorem VZ (ok:ax P tb) (X:KX h xb a lb N M t ai ah rp) {cs:List Nat} {tl:aG} (hc: ∀c∈cs,c<65536) (di:cs.length<2^16):
 ∃h',an P 89 [.ptr xb 0, .vs ((aH .u16).R cs) tl] h (.int .i64 (gN (ai[t]'X.ht) cs).1) h'/\KX h' xb a lb N M t (ai.set t (gN (ai[t]'X.ht) cs).2) ah rp/\XF h h' a lb xb:=by
 refine ok.dI (rf:=pt) rfl (Nat.le_of_ble_eq_true rfl) ?_
 obtain⟨rt,hx⟩:=X.x
 have cx:=av hx
 obtain⟨ct,hle,gx⟩:=X.th
 have lx:=X.lx
 have i5:t*12+2<=(aX aS ai).flatten.length:=by omega
 have agW:=X.ak
 have Kd:=(X.tv.ak _ (List.getElem_mem X.ht)).2
 simp+decide only[st,xv,pt,adj,adi,cx,ct,i5,gx,xr]
 generalize hY:aa.set _ _ _=Y
 have yo:Old h Y:=by rw[<-hY];exact((Old.refl h).at (Nat.le_refl _)).set (Nat.le_refl _)
 have y0:cellsOf Y h.next=some ((ai[t]'X.ht).ak.c .ao):=by rw[<-hY];exact av (by simp[aa.set];rfl)
 have yn:Y.next=h.next+1:=by rw[<-hY];simp[aa.at,aa.set]
 simp+decide only[st,xv,pt,adh,ey.aR]
 let I:Nat->Env->aa->Prop:=fun n ρ H=> ∃i,cs.length=i+n/\Old h H/\h.next<H.next/\cellsOf H h.next=some ((qV (ai[t]'X.ht).ak (cs.take i)).c .ao)/\ρ 0= .ptr xb 0/\ρ 5= .ptr h.next 0/\ρ 15= .vs ((aH .u16).R cs) tl/\ρ 16= .int .i64 cs.length/\ρ 17= .int .i64 i
 refine dO I ?_ cs.length ⟨0,by omega,yo,by omega,y0,rfl,rfl,rfl,rfl,rfl⟩
 rintro n ρ H ⟨i,aB,ho,hhn,br,r0,r5,fb,kl,oU⟩
 by_cases hi:i<cs.length
 ·have aA:(i:Int)<(cs.length:Int):=by omega
  have hw:=dF (show i<2^61 by omega)
  have g1:((aH .u16).R cs)[i]? =some [.int .u16 cs[i]]:=(aH .u16).gL hi
  have bc:=Xk (cs:=cs.take i) agW (by have:=List.length_take_le i cs;omega) (fun c h=>hc c (List.mem_of_mem_take h))
  simp only[Lb.c] at br
  simp+decide only[st,xv,pt,II,adg,P4,r5,fb,kl,oU,aA,g1,br]
  refine au (akL (l:=qV (ai[t]'X.ht).ak (cs.take i)) (t:= .ao) (c:=cs[i]) (km:=0) ok bc.1 (hc _ (List.getElem_mem hi)) (by omega)) ?_
  simp+decide only[st,xv,pt,P4,adf,r5,oU,hw,br,Lb.c,xr]
  refine⟨n-1,by omega,i+1,by omega,ho.set (Nat.le_refl _),by simp only[aa.set];omega,av ?_,r0,r5,fb,kl,rfl⟩
  rw[<-List.take_append_getElem hi]
  unfold qV
  rw[List.foldl_append]
  simp[aa.set];rfl
 ·have aA: ¬(i:Int)<(cs.length:Int):=by omega
  rw[List.take_of_length_le (by omega)] at br
  have bc:=Xk (cs:=cs) agW (by omega) hc
  have XH:=X.old ho
  obtain⟨JY,ny⟩:=XH.x
  have nR:=av ny
  unfold gN
  generalize hL:qV (ai[t]'X.ht).ak cs=L at*
  simp only[Lb.c] at br
  by_cases Vr:16<L.ps.length
  ·have xm:(16:Int)<(L.ps.length:Int):=by omega
   rw[if_pos Vr]
   simp+decide only[st,xv,pt,II,P3,ade,r5,kl,oU,aA,br,aw.aR,xm]
   refine⟨rfl,?_,XF.old ho⟩
   show KX H xb a lb N M t (ai.set t (ai[t]'X.ht)) ah rp
   rw[sB];exact XH
  ·have xm: ¬(16:Int)<(L.ps.length:Int):=by omega
   rw[if_neg Vr]
   have vG:cellsOf H a.tb=some (aX aS ai).flatten:=av XH.k.cj
   have Uv:=XH.lx
   have lt2:=XH.k.l2
   simp+decide only[st,xv,pt,II,P3,r5,kl,oU,aA,br,aw.aR,xm]
   refine bU 8 rfl rfl ?_
   simp+decide only[st,xv,pt,adb,r0,r5,nR,vG,br,hhn,Uv,lt2,xr]
   have lJ:=vY (l:=ai) X.ht (j:=0) (v:=[.int .u8 L.d, .vs (aw.R L.ps) .ao]) (x':={ai[t]'X.ht with ak:=L}) (by simp) rfl
   have hlen:t*12+2<=(aX aS ai).flatten.length:=by omega
   rw[show List.take (t*12) (aX aS ai).flatten++[AV.int IntKind.u8 ↑L.d,AV.vs (aw.R L.ps) aG.ao]++List.drop (t*12+(1+1)) (aX aS ai).flatten=_ from lJ]
   simp+decide only[st,xv,pt,ZO,hlen]
   have XC:=XH.old ((Old.refl H).clean (n:=8))
   refine⟨(jv lt2).2 (cN (Nat.le_refl _)),rfl,XC.mq (x:={ai[t]'X.ht with ak:=L}) ⟨bc.1,by show L.ps.length<=16;omega⟩,?_⟩
   refine⟨by simp only[aa.set,aa.clean];have:=ho.next;omega,fun b hb h1 h2 h3 h4=>?_⟩
   simp only[aa.set,aa.clean]
   have qu:=ho.next
   rw[if_neg (fun e=>h1 (.inr e)),if_pos (by omega)]
   exact ho.get b hb
end
section
open Go
variable {P:Program} {h:aa} {a:KA} {lb N M:Nat} {ai:List Th} {ah:List Ob} {g:Nat->Option (List UInt8)} {xb t:Nat} {rp:Rp}
structure Cl where
 op:Int
 kind:Int
 id:Nat
 to:Nat
 off:Int
 n:Int
 ak:Lb
 st:St
 data:List UInt8
 bV:List Nat
def Cl.c (c:Cl) (t:Nat->aG):List AV:=[.int .i64 c.op, .int .i64 c.kind, .int .u64 c.id, .int .u64 c.to, .int .i64 c.off, .int .i64 c.n, .int .u8 c.ak.d, .vs (aw.R c.ak.ps) (t 0), .vs ((aH .u16).R c.st.s) (t 1), .vs ((aH .u16).R c.st.i) (t 2), .vs ((aH .u16).R c.st.o) (t 3), .vs (BS c.data) (t 4), .vs ((aH .u16).R c.bV) (t 5)]
structure fO (c:Cl):Prop where
 ak:c.ak.ok
 Ig:c.ak.ps.length<=16
 id:c.id<2^64
 to:c.to<2^64
 data:c.data.length<2^20
 bV:c.bV.length<2^16
 cat: ∀x∈c.bV,x<65536
theorem yM {c:Cl} {t:Nat->aG}:AV.bH (c.c t)=c.c aK:=by
 simp only[Cl.c,AV.bH,AV.strip,aw.fx,jQ,(aH .u16).fx,aK]
theorem ZM {c:Cl} {t:Nat->aG}:(AV.agg (c.c t)).strip= .agg (c.c aK):=by simp only[AV.strip,yM]
theorem fi {c:Cl}:c.c aK=[.int .i64 c.op, .int .i64 c.kind, .int .u64 c.id, .int .u64 c.to, .int .i64 c.off, .int .i64 c.n, .int .u8 c.ak.d, .vs (aw.R c.ak.ps) .ao, .vs ((aH .u16).R c.st.s) .ao, .vs ((aH .u16).R c.st.i) .ao, .vs ((aH .u16).R c.st.o) .ao, .vs (BS c.data) .ao, .vs ((aH .u16).R c.bV) .ao]:=rfl
theorem aoM (ok:ax P tb) {g:Nat} {ed:List AV} {q:Nat->Bool} {l:List Nat} {t:aG} {h:aa} (hl:l.length<2^30) (hg:cf P g=true) (hq: ∀p∈l,an P g (.int .u16 p::ed) h (.bool (q p)) h):
 an P 175 [.vs ((aH .u16).R l) t, .fn g [] ed] h (.int .i64 (ki q l)) h:=by
 refine ok.calls (rf:=xu) rfl (Nat.le_of_ble_eq_true rfl) ?_
 simp+decide only[st,xv,xu,Hh,Hg,ey.aR]
 let I:Nat->Env->aa->Prop:=fun n ρ h'=>h'=h/\ ∃i:Nat,l.length=i+n/\(∀j,j<i-> ∀hj:j<l.length,q l[j]=false)/\ρ 0= .vs ((aH .u16).R l) t/\ρ 1= .fn g [] ed/\ρ 7= .int .i64 l.length/\ρ 8= .int .i64 i
 refine dO I ?_ l.length ⟨rfl,0,by omega,by omega,rfl,rfl,rfl,rfl⟩
 rintro n ρ h' ⟨rfl,i,aB,hf,r0,r1,r7,r8⟩
 by_cases hi:i<l.length
 ·have aA:(i:Int)<(l.length:Int):=by omega
  have fg:(0:Int)<=i:=by omega
  have hw:=dF (show i<2^61 by omega)
  have cC:((aH .u16).R l)[i]? =some [.int .u16 l[i]]:=(aH .u16).gL hi
  simp+decide only[st,xv,xu,Hh,Hg,NC,NB,NA,Nz,Ny,Nx,r0,r1,r7,r8,aA,fg,cC]
  refine pI hg (hq l[i] (List.getElem_mem hi)) ?_
  by_cases lU:q l[i]=true
  ·simp+decide only[st,xv,lU,r8,GU hi hf lU]
  ·have qt:q l[i]=false:=by simpa using lU
   simp+decide only[st,xv,qt,r8,hw]
   refine⟨n-1,by omega,rfl,i+1,by omega,fun j hj dU=>?_,r0,r1,r7,rfl⟩
   by_cases eu:j=i
   ·subst eu;exact qt
   ·exact hf j (by omega) dU
 ·have aA: ¬(i:Int)<(l.length:Int):=by omega
  have dL:=GS (q:=q) (l:=l) (fun j _ hj=>hf j (by omega) hj)
  simp+decide only[st,xv,xu,Hh,Hg,NC,NB,NA,Nz,Ny,Nx,r7,r8,aA,dL]
  rfl
def CM (l:Lb) (cs:List Nat):Bool:=cs.all fun c=>nx l c==0
theorem ais (ok:ax P tb) (X:KX h xb a lb N M t ai ah rp) {cs:List Nat} {tl:aG} (di:cs.length<2^16):an P 138 [.ptr xb 0, .vs ((aH .u16).R cs) tl] h (.bool (CM (ai[t]'X.ht).ak cs)) h:=by
 refine ok.keeps (rf:=An) rfl (Nat.le_of_ble_eq_true rfl) rfl ?_
 simp+decide only[st,xv,An,abi,OB]
 generalize hY:aa.at _ _ _=Y
 have yo:Old h Y:=by rw[<-hY];exact(Old.refl h).at (Nat.le_refl _)
 have y0:cellsOf Y h.next=some [.ptr xb 0]:=by rw[<-hY];exact av (by simp[aa.at])
 have hc:an P 162 [.vs ((aH .u16).R cs) tl, .fn 163 [] [.ptr h.next 0]] Y (.bool (cs.any fun c=>!(nx (ai[t]'X.ht).ak c==0))) Y:=by
  refine ok.calls (rf:=Ey) rfl (Nat.le_of_ble_eq_true rfl) ?_
  simp+decide only[st,xv,Ey,aaM,aaL]
  refine au (aoM ok (by omega) (ok.cf _ rfl) (q:=fun c=>!(nx (ai[t]'X.ht).ak c==0)) (fun p hp=>?_)) ?_
  ·refine ok.calls (rf:=Ai) rfl (Nat.le_of_ble_eq_true rfl) ?_
   have XY:=X.old yo
   obtain⟨rt,hx⟩:=XY.x
   have cx:=av hx
   obtain⟨ct,hle,gx⟩:=XY.th
   have i5:t*12+2<=(aX aS ai).flatten.length:=by omega
   simp+decide only[st,xv,Ai,NN,NM,y0,cx,ct,i5,gx]
   refine au (YJ (l:=(ai[t]'X.ht).ak) (t:= .ao) ok (by have:=(X.tv.ak _ (List.getElem_mem X.ht)).2;omega)) ?_
   simp+decide only[st,xv,Ai,NN,NM]
   by_cases hz:nx (ai[t]'X.ht).ak p=0<;>simp[hz]
  ·simp+decide only[st,xv,L1]
 refine au hc ?_
 simp+decide only[st,xv,An,OB]
 have e:CM (ai[t]'X.ht).ak cs=!(cs.any fun c=>!(nx (ai[t]'X.ht).ak c==0)):=by
  unfold CM
  rw[List.any_eq_not_all_not]
  simp
 rw[e]
 first|exact yo.get|exact⟨rfl,yo.get⟩
theorem qN {c:Cl} {tl:Nat->aG} {f:Nat} {x:Nat} {h h':aa} {r:AV} (hc:an P f [.ptr x 0, .agg (c.c aK)] h r h'):an P f [.ptr x 0, .agg (c.c tl)] h r h':=
 an.ao (by simp only[AV.bH,ZM];exact hc)
def kK (l:Lb) (c:Cl):Nat:=if c.kind=1/\ ¬(0<=c.n/\c.n<=400) then 1 else if c.kind=2/\64<c.data.length then 12 else if c.kind=3/\CM l c.bV=false then 5 else 0
theorem aiu (ok:ax P tb) (X:KX h xb a lb N M t ai ah rp) {c:Cl} {tl:Nat->aG} (k:fO c):an P 94 [.ptr xb 0, .agg (c.c tl)] h (.int .i64 (kK (ai[t]'X.ht).ak c)) h:=by
 refine qN ?_
 refine ok.keeps (rf:=mN) rfl (Nat.le_of_ble_eq_true rfl) rfl ?_
 have rZ:=k.bV
 simp+decide only[st,xv,mN,ac4,fi]
 generalize hY:aa.at _ _ _=Y
 have yo:Old h Y:=by rw[<-hY];exact(Old.refl h).at (Nat.le_refl _)
 have y0:cellsOf Y h.next=some (c.c aK):=by rw[<-hY];exact av (by simp[aa.at];rfl)
 simp only[fi] at y0
 have XY:=X.old yo
 obtain⟨V,hV⟩: ∃V,V=kK (ai[t]'X.ht).ak c:=⟨_,rfl⟩
 rw[<-hV]
 unfold kK at hV
 by_cases h1:c.kind=1
 ·have h2: ¬c.kind=2:=by omega
  have h3: ¬c.kind=3:=by omega
  have e1:(c.kind=1)=True:=eq_true h1
  have e2:(c.kind=2)=False:=eq_false h2
  have e3:(c.kind=3)=False:=eq_false h3
  simp+decide only[st,xv,mN,uH,y0,e1]
  refine au (GP ok) ?_
  by_cases hn:0<=c.n/\c.n<=400
  ·have e:(decide (0<=c.n)&&decide (c.n<=400))=true:=by simpa using hn
   rw[if_neg (fun hh=>hh.2 hn),if_neg (fun hh=>h2 hh.1),if_neg (fun hh=>h3 hh.1)] at hV
   subst hV
   rw[e]
   simp+decide only[st,xv,mN,uH,zN,wO,C4,y0,e2,e3]
   first|exact yo.get|exact⟨rfl,yo.get⟩
  ·have e:(decide (0<=c.n)&&decide (c.n<=400))=false:=by rw[<-Bool.not_eq_true];simpa using hn
   rw[if_pos ⟨h1,hn⟩] at hV
   subst hV
   rw[e]
   simp+decide only[st,xv,mN,uH,ac3]
   first|exact yo.get|exact⟨rfl,yo.get⟩
 rw[if_neg (fun hh=>h1 hh.1)] at hV
 have e1:(c.kind=1)=False:=eq_false h1
 by_cases h2:c.kind=2
 ·have h3: ¬c.kind=3:=by omega
  have e2:(c.kind=2)=True:=eq_true h2
  have e3:(c.kind=3)=False:=eq_false h3
  by_cases hn:64<c.data.length
  ·have jb:(64:Int)<(c.data.length:Int):=by omega
   rw[if_pos ⟨h2,hn⟩] at hV
   subst hV
   simp+decide only[st,xv,mN,uH,zN,ac2,y0,e1,e2,cr,jb]
   first|exact yo.get|exact⟨rfl,yo.get⟩
  ·have jb: ¬(64:Int)<(c.data.length:Int):=by omega
   rw[if_neg (fun hh=>hn hh.2),if_neg (fun hh=>h3 hh.1)] at hV
   subst hV
   simp+decide only[st,xv,mN,uH,zN,wO,C4,y0,e1,e2,e3,cr,jb]
   first|exact yo.get|exact⟨rfl,yo.get⟩
 rw[if_neg (fun hh=>h2 hh.1)] at hV
 have e2:(c.kind=2)=False:=eq_false h2
 by_cases h3:c.kind=3
 ·have e3:(c.kind=3)=True:=eq_true h3
  simp+decide only[st,xv,mN,uH,zN,wO,y0,e1,e2,e3]
  refine au (ais ok XY rZ) ?_
  cases ho:CM (ai[t]'X.ht).ak c.bV with
  |false=>
   rw[if_pos ⟨h3,ho⟩] at hV
   subst hV
   simp+decide only[st,xv,mN,wO,ac1]
   first|exact yo.get|exact⟨rfl,yo.get⟩
  |true=>
   rw[if_neg (by simp[ho])] at hV
   subst hV
   simp+decide only[st,xv,mN,wO,C4]
   first|exact yo.get|exact⟨rfl,yo.get⟩
 ·have e3:(c.kind=3)=False:=eq_false h3
  rw[if_neg (fun hh=>h3 hh.1)] at hV
  subst hV
  simp+decide only[st,xv,mN,uH,zN,wO,C4,y0,e1,e2,e3]
  first|exact yo.get|exact⟨rfl,yo.get⟩
end
section
open Go
variable {P:Program} {h:aa} {a:KA} {lb N M:Nat} {ai:List Th} {ah:List Ob} {g:Nat->Option (List UInt8)} {xb t:Nat} {rp:Rp}
theorem anf {n:Nat} (h:n<65536):IntKind.wrap .u16 (n:Int)=n:=by
 simp only[IntKind.wrap,IntKind.signed,IntKind.bits]
 simp;omega
theorem KX.rB (X:KX h xb a lb N M t ai ah rp) {bW:Rp} {tl:aG}:KX (h.set xb (some (.cells [.ptr a.kb 0, .ptr a.tb (t*12), .int .i64 t, .int .i64 bW.Mq, .int .i64 bW.err, .int .u64 bW.ret, .vs (BS bW.data) tl]))) xb a lb N M t ai ah bW:=by
 refine⟨X.k.bN (h':=h.set xb _) (Nat.le_refl _) (fun b hb hf=>?_) (Nat.le_refl _) (Nat.le_refl _),⟨tl,by simp[aa.set]⟩,X.lx,X.dK,X.dA,X.dS,X.ht,X.tv,X.root⟩
 simp only[aa.set]
 rw[if_neg]
 intro e;subst e
 rcases hf with hf|hf|hf
 ·exact X.dK hf
 ·exact X.dA hf
 ·exact X.dS hf
theorem XF.rA {h h':aa} {b:Option cF} (x:XF h h' a lb xb):XF h (h'.set xb b) a lb xb:=⟨x.1,fun c hc h1 h2 h3 h4=>by simp only[aa.set];rw[if_neg h4];exact x.2 c hc h1 h2 h3 h4⟩
theorem XF.mq {h h':aa} {b:Option cF} (x:XF h h' a lb xb):XF h (h'.set a.tb b) a lb xb:=⟨x.1,fun c hc h1 h2 h3 h4=>by simp only[aa.set];rw[if_neg (fun e=>h1 (.inr e))];exact x.2 c hc h1 h2 h3 h4⟩
theorem KX.Ea (X:KX h xb a lb N M t ai ah rp):cellsOf h a.tb=some (aX aS ai).flatten/\t*12+12<=(aX aS ai).flatten.length/\ ∀j,j<12->(aX aS ai).flatten[t*12+j]? =((ai[t]'X.ht).c aS)[j]?:=⟨X.th.1,X.th.2.1,fun j hj=>X.k.row X.ht hj⟩
def fE (h:aa) (xb:Nat) (a:KA) (lb N M t:Nat) (ai:List Th) (ah:List Ob) (rp:Rp) (h':aa):Prop:= ∃aT N' M',KX h' xb a aT N' M' t ai ah rp/\XF h h' a lb xb/\(aT=lb\/h.next<=aT)/\N'<=N+2/\M'<=M+1
theorem KX.fin (X:KX h xb a lb N M t ai ah rp) {h':aa} (o:Old h h'):fE h xb a lb N M t ai ah rp h':=⟨lb,N,M,X.old o, .old o, .inl rfl,by omega,by omega⟩
def jn (t:Nat) (x:Th):Nat×Nat×Th:=if 15<=x.own then(9,0,x) else if(gN x [1000+16*t+x.own.toNat+1]).1≠0 then((gN x [1000+16*t+x.own.toNat+1]).1,0,x) else(0,1000+16*t+x.own.toNat+1,{(gN x [1000+16*t+x.own.toNat+1]).2 with own:=x.own+1})
theorem aji (ok:ax P tb) (X:KX h xb a lb N M t ai ah rp) (ho:0<=(ai[t]'X.ht).own):
 ∃h',an P 57 [.ptr xb 0] h (.int .i64 (jn t (ai[t]'X.ht)).1) h'/\fE h xb a lb N M t (ai.set t (jn t (ai[t]'X.ht)).2.2) ah (if(jn t (ai[t]'X.ht)).1=0 then{rp with ret:=(jn t (ai[t]'X.ht)).2.1} else rp) h':=by
 refine ok.dI (rf:=pz) rfl (Nat.le_of_ble_eq_true rfl) ?_
 obtain⟨rt,hx⟩:=X.x
 have cx:=av hx
 obtain⟨ct,hle,cu⟩:=X.Ea
 have lx:=X.lx
 have l2:=X.k.l2
 have ht4:=X.tv.len
 have U4:=X.ht
 have r5:=cu 5 (by omega)
 have e5:((ai[t]'X.ht).c aS)[5]? =some (.int .i64 (ai[t]'X.ht).own):=rfl
 rw[e5] at r5
 obtain⟨V,hV⟩: ∃V,V=jn t (ai[t]'X.ht):=⟨_,rfl⟩
 rw[<-hV]
 unfold jn at hV
 simp+decide only[st,xv,pz,aeI,aeH,cx,ct,r5]
 by_cases nP:15<=(ai[t]'X.ht).own
 ·rw[if_pos nP] at hV
  subst hV
  simp+decide only[st,xv,pz,Rz,nP,jP]
  refine⟨rfl,?_⟩
  rw[sB]
  exact X.fin (Old.refl h)
 rw[if_neg nP] at hV
 have w1:IntKind.wrap .i64 ((16:Int)*(t:Int))=16*t:=bu (by omega) (by omega)
 have w2:IntKind.wrap .i64 ((1000:Int)+16*(t:Int))=1000+16*t:=bu (by omega) (by omega)
 have w3:IntKind.wrap .i64 ((1000:Int)+16*(t:Int)+(ai[t]'X.ht).own)=1000+16*t+(ai[t]'X.ht).own:=bu (by omega) (by omega)
 have w4:IntKind.wrap .i64 ((1000:Int)+16*(t:Int)+(ai[t]'X.ht).own+1)=1000+16*t+(ai[t]'X.ht).own+1:=bu (by omega) (by omega)
 have w5:IntKind.wrap .u16 ((1000:Int)+16*(t:Int)+(ai[t]'X.ht).own+1)=((1000+16*t+(ai[t]'X.ht).own.toNat+1:Nat):Int):=by
  have e:(1000:Int)+16*(t:Int)+(ai[t]'X.ht).own+1=((1000+16*t+(ai[t]'X.ht).own.toNat+1:Nat):Int):=by omega
  rw[e];exact anf (by omega)
 simp+decide only[st,xv,pz,Rz,nP]
 refine bU 17 rfl rfl ?_
 simp+decide only[st,xv,pz,aeG,cx,ct,r5,lx,l2,w1,w2,w3,w4,w5]
 generalize iV:1000+16*t+(ai[t]'X.ht).own.toNat+1=cc at*
 have XC:=X.old ((Old.refl h).clean (n:=17))
 have eP: ∀c∈[cc],c<65536:=fun c hc=>by
  have:=List.mem_singleton.1 hc
  omega
 obtain⟨h1,c1,X1,f1⟩:=VZ ok XC (cs:=[cc]) (tl:= .full) eP (by simp)
 simp+decide only[st,xv,pz,I3,xr]
 refine au c1 ?_
 have Kl:gN (ai[t]'X.ht) [cc]=(9,ai[t]'X.ht)\/((gN (ai[t]'X.ht) [cc]).1=0/\(gN (ai[t]'X.ht) [cc]).2.own=(ai[t]'X.ht).own):=by
  unfold gN
  split
  ·exact .inl rfl
  ·exact .inr ⟨rfl,rfl⟩
 have vl:XF h h1 a lb xb:=(XF.old ((Old.refl h).clean (n:=17))).trans f1 (.inl rfl)
 rcases Kl with Kl|⟨vw,nI⟩
 ·rw[Kl] at hV X1
  rw[Kl]
  rw[if_pos (by simp)] at hV
  subst hV
  simp+decide only[st,xv,pz,I3,Rw,aeF,jP]
  exact⟨lb,N,M,X1,vl, .inl rfl,by omega,by omega⟩
 ·rw[vw]
  rw[vw,if_neg (by simp)] at hV
  subst hV
  obtain⟨JY,ny⟩:=X1.x
  have nR:=av ny
  obtain⟨vG,i5,ass⟩:=X1.Ea
  have q5:=ass 5 (by omega)
  have Vx:(((ai.set t (gN (ai[t]'X.ht) [cc]).2)[t]'X1.ht).c aS)[5]? =some (.int .i64 (ai[t]'X.ht).own):=by
   rw[<-nI];simp[iE]
  rw[Vx] at q5
  have w6:IntKind.wrap .i64 ((ai[t]'X.ht).own+1)=(ai[t]'X.ht).own+1:=bu (by omega) (by omega)
  simp+decide only[st,xv,pz,I3,Rw,aeE,nR,vG,q5,w6,xr]
  have lJ:=vY (l:=ai.set t (gN (ai[t]'X.ht) [cc]).2) X1.ht (j:=5) (v:=[.int .i64 ((ai[t]'X.ht).own+1)]) (x':={(gN (ai[t]'X.ht) [cc]).2 with own:=(ai[t]'X.ht).own+1}) (by simp) (by simp[iE])
  rw[show List.take (t*12+5) (aX aS (ai.set t (gN (ai[t]'X.ht) [cc]).2)).flatten++[AV.int .i64 ((ai[t]'X.ht).own+1)]++List.drop (t*12+5+1) (aX aS (ai.set t (gN (ai[t]'X.ht) [cc]).2)).flatten=_ from lJ]
  have agV:t*12+5+1<=(aX aS (ai.set t (gN (ai[t]'X.ht) [cc]).2)).flatten.length:=by omega
  have X2:=X1.mq (x:={(gN (ai[t]'X.ht) [cc]).2 with own:=(ai[t]'X.ht).own+1}) (by
   have:=X1.tv.ak _ (List.getElem_mem X1.ht)
   simpa using this)
  rw[List.set_set] at X2 ⊢
  have wc:IntKind.wrap .u64 (cc:Int)=cc:=eQ (by omega)
  have EU: ¬xb=a.tb:=fun e=>X.dK (.inr e)
  simp+decide only[st,xv,pz,aeD,aeC,agV,nR,wc,EU,xr,jP]
  exact⟨lb,N,M,X2.rB (bW:={rp with ret:=cc}),(vl.mq).rA, .inl rfl,by omega,by omega⟩
end
section
open Go
variable {P:Program} {h:aa} {a:KA} {lb N M:Nat} {ai:List Th} {ah:List Ob} {g:Nat->Option (List UInt8)} {xb t:Nat} {rp:Rp}
theorem Xl {l:Lb}: ∀{ps:List Nat} {o:Ob},o∈ah->(eK ah l o ps).2=0->(eK ah l o ps).1∈ah
 |[],o,h,_=>h
 |p::ps,o,h,h0=>by
  unfold eK at h0 ⊢
  split at h0
  ·cases h0
  split at h0
  ·cases h0
  rename_i h1 h2
  rw[if_neg h1,if_neg h2]
  cases ho:bg ah p with
  |none=>rw[ho] at h0;cases h0
  |some o'=>rw[ho] at h0;exact Xl (lg ho).1 h0
theorem LD {l:Lb} {id:Nat} (hr: ∃r,bg ah 1=some r) (h0:(dv ah l id).2=0):(dv ah l id).1∈ah:=by
 unfold dv at h0 ⊢
 cases hm:dw id with
 |false=>rw[F3 hm] at h0;cases h0
 |true=>
  obtain⟨ps,hp⟩:=F2 hm
  obtain⟨r,hr⟩:=hr
  rw[hp] at h0 ⊢
  change(eK ah l ((bg ah 1).getD bf) ps).2=0 at h0
  change(eK ah l ((bg ah 1).getD bf) ps).1∈ah
  rw[hr] at h0 ⊢
  exact Xl (lg hr).1 h0
theorem mW {l:Lb} {id:Nat} {kind:Int} {q:Lb->Bool} (hr: ∃r,bg ah 1=some r) (h0:(bC ah l id kind q).2=0):(bC ah l id kind q).1∈ah/\(bC ah l id kind q).1.kind=kind/\bC ah l id kind q=((dv ah l id).1,0):=by
 unfold bC at h0 ⊢
 split at h0
 ·rename_i h1;exact absurd h0 h1
 split at h0
 ·cases h0
 split at h0
 ·cases h0
 rename_i h1 h2 h3
 rw[if_neg h1,if_neg h2,if_neg h3]
 exact⟨LD hr (Classical.not_not.1 h1),Classical.not_not.1 h2,rfl⟩
theorem Mf {Z h':aa} {n i:Nat} (hk: ∀b,Z.next<=b->b<Z.next+n->h'.get b=(Z.clean n).get b):dP n Z.next i h':=fun j hj hn=>by
 rw[hk _ (by omega) (by omega)]
 simp only[aa.clean]
 exact if_neg (by omega)
theorem KF.free {Z h':aa} {a:KA} {lb n i:Nat} (k:KF (Z.clean n) h' a lb) (hl: ∀b,FK a b\/FA a lb b\/FS a b->b<Z.next):dP n Z.next i h':=Mf fun b h1 h2=>k.2 b h2 (fun e=>by have:=hl b (.inl e);omega) (fun e=>by have:=hl b (.inr (.inl e));omega) (fun e=>by have:=hl b (.inr (.inr e));omega)
theorem KH.bt (K:KH h a lb N M ai ah g): ∀b,FK a b\/FA a lb b\/FS a b->b<h.next:=by
 have l1:=K.l1
 have l2:=K.l2
 obtain⟨f,A,_⟩:=K.ar
 have hA:=A.lt
 have hS:=K.sp.lt
 rintro b (e|e|e)
 ·rcases e with e|e<;>omega
 ·rcases e with e|e|e<;>omega
 ·rcases e with e|e|e|e<;>omega
def pQ (x:Th) (l:Lb):Nat×Th:=if v7 x.ak l≠0 then(v7 x.ak l,x) else(0,{x with ak:=l})
theorem ahT (ok:ax P tb) (X:KX h xb a lb N M t ai ah rp) {c:Cl} {tl:Nat->aG} (k:fO c):
 ∃h',an P 58 [.ptr xb 0, .agg (c.c tl)] h (.int .i64 (pQ (ai[t]'X.ht) c.ak).1) h'/\fE h xb a lb N M t (ai.set t (pQ (ai[t]'X.ht) c.ak).2) ah rp h':=by
 suffices hu: ∃h',an P 58 [.ptr xb 0, .agg (c.c aK)] h (.int .i64 (pQ (ai[t]'X.ht) c.ak).1) h'/\fE h xb a lb N M t (ai.set t (pQ (ai[t]'X.ht) c.ak).2) ah rp h' by
  obtain⟨h',c1,hq⟩:=hu
  exact⟨h',qN c1,hq⟩
 refine ok.dI (rf:=ss) rfl (Nat.le_of_ble_eq_true rfl) ?_
 simp+decide only[st,xv,ss,aeB,fi]
 generalize hY:aa.at _ _ _=Y
 have oY:Old h Y:=by rw[<-hY];exact(Old.refl h).at (Nat.le_refl _)
 have cY:cellsOf Y h.next=some (c.c aK):=by rw[<-hY];exact av (by simp[aa.at];try rfl)
 have nY:Y.next=h.next+1:=by rw[<-hY];simp[aa.at]
 simp only[fi] at cY
 have XY:=X.old oY
 obtain⟨rt,hx⟩:=XY.x
 have cx:=av hx
 obtain⟨ct,hle,gx⟩:=XY.th
 have lx:=XY.lx
 have l2:=XY.k.l2
 have hny:h.next<Y.next:=by omega
 have i5:t*12+2<=(aX aS ai).flatten.length:=by omega
 refine bU 11 rfl rfl ?_
 simp+decide only[st,xv,ss,aeA,cx,ct,cY,lx,l2,hny,i5,gx]
 refine eX (aiN (a:=(ai[t]'X.ht).ak) (b:=c.ak) (ta:= .ao) (eU:= .ao) ok X.ak k.ak) (cN (Nat.le_refl _)) ?_
 unfold pQ
 by_cases hr:v7 (ai[t]'X.ht).ak c.ak=0
 ·have hr': ¬(v7 (ai[t]'X.ht).ak c.ak≠0):=fun h=>h hr
  rw[hr]
  have XC:=XY.old ((Old.refl Y).clean (n:=11))
  obtain⟨JY,ny⟩:=XC.x
  have nR:=av ny
  obtain⟨vG,agV,avB⟩:=XC.th
  simp+decide only[st,xv,ss,Rv]
  refine qO 7 10 rfl (by omega) rfl ?_
  have lC:(Y.clean 11).next=Y.next+11:=rfl
  have n1:xb<Y.next+11:=by omega
  have n2:a.tb<Y.next+11:=by omega
  have n3:h.next<Y.next+11:=by omega
  simp+decide only[st,xv,ss,aey,cx,ct,cY,lx,l2,hny,n1,n2,n3]
  refine gX (Gd ok (l:=c.ak) (t:= .ao) (by have:=k.Ig;omega)) (cN (Nat.le_refl _)) ?_
  have lJ:=vY (l:=ai) X.ht (j:=0) (v:=[.int .u8 c.ak.d, .vs (aw.R c.ak.ps) .ao]) (x':={ai[t]'X.ht with ak:=c.ak}) (by simp) rfl
  simp+decide only[st,xv,Lb.c,n2,l2,ct,i5]
  rw[show List.take (t*12) (aX aS ai).flatten++[AV.int IntKind.u8 ↑c.ak.d,AV.vs (aw.R c.ak.ps) aG.ao]++List.drop (t*12+(1+1)) (aX aS ai).flatten=_ from lJ]
  simp+decide only[st,xv,ss,aex,jP]
  refine⟨(jv n2).2 (cN (by show(Y.clean 11).next<=_;omega)),lb,N,M,(XC.old ((Old.refl _).clean (n:=10))).mq (x:={ai[t]'X.ht with ak:=c.ak}) ⟨k.ak,k.Ig⟩,?_, .inl rfl,by omega,by omega⟩
  exact(XF.old ((oY.trans ((Old.refl Y).clean)).trans ((Old.refl _).clean))).mq
 ·have hr':((v7 (ai[t]'X.ht).ak c.ak:Int)=0)=False:=eq_false (by omega)
  rw[if_pos hr]
  simp+decide only[st,xv,ss,Rv,aez,hr',jP]
  rw[sB]
  exact X.fin (oY.trans ((Old.refl Y).clean))
def wG (l:Lb) (ah:List Ob) (c:Cl):Nat×List UInt8:=if(bC ah l c.id 2 (fq l)).2≠0 then((bC ah l c.id 2 (fq l)).2,[]) else if 0<=c.off/\0<=c.n/\c.off+c.n<=(bC ah l c.id 2 (fq l)).1.data.length then(0,((bC ah l c.id 2 (fq l)).1.data.drop c.off.toNat).take c.n.toNat) else(11,[])
theorem L2 {o:Ob} (k:KS ah) (ho:o∈ah) (h2:o.kind=2):eF ah o.id=some o.data:=by
 unfold eF
 rw[lj k.bY ho]
 simp[h2]
theorem air (ok:ax P tb) (X:KX h xb a lb N M t ai ah rp) {c:Cl} {tl:Nat->aG} (k:fO c):
 ∃h' bW,an P 60 [.ptr xb 0, .agg (c.c tl)] h (.int .i64 (wG (ai[t]'X.ht).ak ah c).1) h'/\fE h xb a lb N M t ai ah bW h'/\((wG (ai[t]'X.ht).ak ah c).1=0->bW={rp with data:=(wG (ai[t]'X.ht).ak ah c).2}):=by
 obtain⟨V,hV⟩: ∃V,V=wG (ai[t]'X.ht).ak ah c:=⟨_,rfl⟩
 suffices hu: ∃h',an P 60 [.ptr xb 0, .agg (c.c aK)] h (.int .i64 V.1) h'/\ ∃bW,fE h xb a lb N M t ai ah bW h'/\(V.1=0->bW={rp with data:=V.2}) by
  obtain⟨h',c1,bW,hq⟩:=hu
  rw[<-hV]
  exact⟨h',bW,qN c1,hq⟩
 unfold wG at hV
 refine ok.dI (rf:=py) rfl (Nat.le_of_ble_eq_true rfl) ?_
 simp+decide only[st,xv,py,aet,fi]
 generalize hY:aa.at _ _ _=Y
 have oY:Old h Y:=by rw[<-hY];exact(Old.refl h).at (Nat.le_refl _)
 have cY:cellsOf Y h.next=some (c.c aK):=by rw[<-hY];exact av (by simp[aa.at];try rfl)
 have nY:Y.next=h.next+1:=by rw[<-hY];simp[aa.at]
 simp only[fi] at cY
 have XY:=X.old oY
 simp+decide only[st,xv,py,Rm,cY]
 refine au (t8 ok XY k.id (ok.cf _ rfl) (q:=fq (ai[t]'X.ht).ak) (fun o h' hl o'=>CO ok (XY.old o') (tl:=aK) hl)) ?_
 have dM:=mW (l:=(ai[t]'X.ht).ak) (id:=c.id) (kind:=2) (q:=fq (ai[t]'X.ht).ak) X.root
 generalize bC ah (ai[t]'X.ht).ak c.id 2 (fq (ai[t]'X.ht).ak)=R at*
 obtain⟨o,e⟩:=R
 simp only at hV dM
 simp+decide only[st,xv,py,Rm,db,xr]
 generalize hZ:aa.set _ _ _=Z
 have oZ:Old Y Z:=by rw[<-hZ];exact((Old.refl Y).at (Nat.le_refl _)).set (Nat.le_refl _)
 have cZ:cellsOf Z Y.next=some (o.c aK):=by rw[<-hZ];exact av (by simp[aa.set];try rfl)
 have nZ:Z.next=Y.next+1:=by rw[<-hZ];simp[aa.at,aa.set]
 have l7:cellsOf Z h.next=_:=(show cellsOf Z h.next=cellsOf Y h.next by unfold cellsOf;rw[oZ.get _ (by omega)]).trans cY
 simp only[db] at cZ
 by_cases he:e=0
 ·subst he
  rw[if_neg (fun h=>h rfl)] at hV
  obtain⟨c5,bc,_⟩:=dM rfl
  have XZ:=XY.old oZ
  have oN:=L2 XZ.k.ks c5 bc
  obtain⟨rt,hx⟩:=XZ.x
  have cx:=av hx
  have ck:=av XZ.k.top
  have lx:=XZ.lx
  have lk:=XZ.k.l1
  have l0:h.next<Z.next:=by omega
  have l1:h.next+1<Z.next:=by omega
  simp+decide only[st,xv,py,Rl]
  refine bU 23 rfl rfl ?_
  have XC:=XZ.old ((Old.refl Z).clean (n:=23))
  rw[nY] at cZ
  simp+decide only[st,xv,py,aer,cx,ck,cZ,l7,lx,lk,l0,l1,nY]
  have lC:(Z.clean 23).next=Z.next+23:=rfl
  have n1:xb<Z.next+23:=by omega
  have hold:Old h (Z.clean 23):=(oY.trans oZ).trans ((Old.refl Z).clean)
  have fr: ∀(cs:List AV) (i:Nat),dP 23 Z.next i ((Z.clean 23).set xb (some (.cells cs))):=fun cs i=>(jv lx).2 (cN (Nat.le_refl _))
  by_cases aB:0<=c.off/\0<=c.n/\c.off+c.n<=o.data.length
  ·rw[if_pos aB] at hV
   subst hV
   obtain⟨off,u1⟩:=Int.eq_ofNat_of_zero_le aB.1
   obtain⟨n,hn⟩:=Int.eq_ofNat_of_zero_le aB.2.1
   have jJ:=XC.k.sp.read ok (id:=o.id) (off:=off) (n:=n) oN (by omega)
   rw[<-u1,<-hn] at jJ
   refine eX jJ (cN (Nat.le_refl _)) ?_
   simp+decide only[st,xv,py,Rk,cx,lx,xr]
   refine⟨fr _ _,rfl,{rp with data:=(o.data.drop off).take n},⟨lb,N,M,XC.rB (bW:={rp with data:=(o.data.drop off).take n}),(XF.old hold).rA, .inl rfl,by omega,by omega⟩,?_⟩
   rw[u1,hn];rfl
  ·rw[if_neg aB] at hV
   subst hV
   have jJ:=XC.k.sp.amg ok (id:=o.id) (off:=c.off) (n:=c.n) oN (by omega)
   refine eX jJ (cN (Nat.le_refl _)) ?_
   simp+decide only[st,xv,py,Rk,cx,lx,xr]
   exact⟨fr _ _,rfl,{rp with data:=[]},lb,N,M,XC.rB (bW:={rp with data:=[]}),(XF.old hold).rA, .inl rfl,by omega,by omega⟩
 ·rw[if_pos he] at hV
  subst hV
  have dN:((e:Int)=0)=False:=eq_false (by omega)
  simp+decide only[st,xv,py,Rl,aes,dN,jP]
  exact⟨rp,X.fin (oY.trans oZ),fun h=>absurd h he⟩
def EX (ah:List Ob) (o:Ob) (d:List UInt8):List Ob:=dp ah {o with data:=d}
theorem KX.wr (X:KX h xb a lb N M t ai ah rp) {o:Ob} (ho:o∈ah) (h2:o.kind=2) {d:List UInt8} (hd:d.length=o.data.length) {h':aa} (s:yt h h' a.bl a.bp) (S:SG h' a.bs a.bm a.bl a.bp M (iz (eF ah) o.id (some d))):KX h' xb a lb N M t ai (EX ah o d) rp:=by
 have v:=X.k.ks.val o ho
 have vd:=v.data hd
 have K1:=X.k.H8 s S
 have AK: ∀id,bg (EX ah o d) id=if id=o.id then some {o with data:=d} else bg ah id:=fun id=>nV X.k.ks.bY
 obtain⟨f,A,R⟩:=K1.ar
 obtain⟨tl,hx⟩:=X.x
 refine⟨⟨K1.top,K1.cj,⟨f,A,fun id=>?_⟩,K1.sp.fn fun id=>?_,K1.l1,K1.l2,K1.AW,K1.k7,K1.kZ,K1.nQ,K1.ks.put vd⟩,⟨tl,by rw[s.2 _ X.lx (fun e=>X.dS (.inr (.inr (.inl e)))) (fun e=>X.dS (.inr (.inr (.inr e)))),hx]⟩,Nat.lt_of_lt_of_le X.lx s.1,X.dK,X.dA,X.dS,X.ht,X.tv,?_⟩
 ·rw[AK]
  by_cases e:id=o.id
  ·rw[if_pos e]
   have:=R o.id
   rw[lj X.k.ks.bY ho] at this
   obtain⟨d',h1,h2⟩:=this
   exact⟨d',by rw[h1];exact hd.symm,by rw[e,h2]⟩
  ·rw[if_neg e];exact R id
 ·unfold iz eF
  rw[AK]
  by_cases e:id=o.id
  ·rw[if_pos e,if_pos e];simp[h2]
  ·rw[if_neg e,if_neg e]
 ·obtain⟨r,hr⟩:=X.root
  rw[AK]
  by_cases e:1=o.id
  ·rw[if_pos e];exact⟨_,rfl⟩
  ·rw[if_neg e];exact⟨r,hr⟩
def uo (l:Lb) (ah:List Ob) (c:Cl):Nat×List Ob:=if(bC ah l c.id 2 (fI l)).2≠0 then((bC ah l c.id 2 (fI l)).2,ah) else if 0<=c.off/\c.off+c.data.length<=(bC ah l c.id 2 (fI l)).1.data.length then(0,EX ah (bC ah l c.id 2 (fI l)).1 (xF (bC ah l c.id 2 (fI l)).1.data c.off.toNat c.data)) else(11,ah)
theorem ahS (ok:ax P tb) (X:KX h xb a lb N M t ai ah rp) {c:Cl} {tl:Nat->aG} (k:fO c):
 ∃h',an P 61 [.ptr xb 0, .agg (c.c tl)] h (.int .i64 (uo (ai[t]'X.ht).ak ah c).1) h'/\fE h xb a lb N M t ai (uo (ai[t]'X.ht).ak ah c).2 rp h':=by
 obtain⟨V,hV⟩: ∃V,V=uo (ai[t]'X.ht).ak ah c:=⟨_,rfl⟩
 rw[<-hV]
 suffices hu: ∃h',an P 61 [.ptr xb 0, .agg (c.c aK)] h (.int .i64 V.1) h'/\fE h xb a lb N M t ai V.2 rp h' by
  obtain⟨h',c1,hq⟩:=hu
  exact⟨h',qN c1,hq⟩
 unfold uo at hV
 refine ok.dI (rf:=px) rfl (Nat.le_of_ble_eq_true rfl) ?_
 simp+decide only[st,xv,px,aeq,fi]
 generalize hY:aa.at _ _ _=Y
 have oY:Old h Y:=by rw[<-hY];exact(Old.refl h).at (Nat.le_refl _)
 have cY:cellsOf Y h.next=some (c.c aK):=by rw[<-hY];exact av (by simp[aa.at];try rfl)
 have nY:Y.next=h.next+1:=by rw[<-hY];simp[aa.at]
 simp only[fi] at cY
 have XY:=X.old oY
 simp+decide only[st,xv,px,Rj,cY]
 refine au (t8 ok XY k.id (ok.cf _ rfl) (q:=fI (ai[t]'X.ht).ak) (fun o h' hl o'=>Mx ok (XY.old o') (tl:=aK) hl)) ?_
 have dM:=mW (l:=(ai[t]'X.ht).ak) (id:=c.id) (kind:=2) (q:=fI (ai[t]'X.ht).ak) X.root
 generalize bC ah (ai[t]'X.ht).ak c.id 2 (fI (ai[t]'X.ht).ak)=R at*
 obtain⟨o,e⟩:=R
 simp only at hV dM
 simp+decide only[st,xv,px,Rj,db,xr]
 generalize hZ:aa.set _ _ _=Z
 have oZ:Old Y Z:=by rw[<-hZ];exact((Old.refl Y).at (Nat.le_refl _)).set (Nat.le_refl _)
 have cZ:cellsOf Z Y.next=some (o.c aK):=by rw[<-hZ];exact av (by simp[aa.set];try rfl)
 have nZ:Z.next=Y.next+1:=by rw[<-hZ];simp[aa.at,aa.set]
 have l7:cellsOf Z h.next=_:=(show cellsOf Z h.next=cellsOf Y h.next by unfold cellsOf;rw[oZ.get _ (by omega)]).trans cY
 simp only[db] at cZ
 by_cases he:e=0
 ·subst he
  rw[if_neg (fun h=>h rfl)] at hV
  obtain⟨c5,bc,_⟩:=dM rfl
  have XZ:=XY.old oZ
  have oN:=L2 XZ.k.ks c5 bc
  obtain⟨rt,hx⟩:=XZ.x
  have cx:=av hx
  have ck:=av XZ.k.top
  have lx:=XZ.lx
  have lk:=XZ.k.l1
  have l0:h.next<Z.next:=by omega
  have l1:h.next+1<Z.next:=by omega
  simp+decide only[st,xv,px,Ri]
  refine bU 15 rfl rfl ?_
  have XC:=XZ.old ((Old.refl Z).clean (n:=15))
  rw[nY] at cZ
  simp+decide only[st,xv,px,IY,cx,ck,cZ,l7,lx,lk,l0,l1,nY]
  have lC:(Z.clean 15).next=Z.next+15:=rfl
  have hold:Old h (Z.clean 15):=(oY.trans oZ).trans ((Old.refl Z).clean)
  by_cases aB:0<=c.off/\c.off+c.data.length<=o.data.length
  ·rw[if_pos aB] at hV
   subst hV
   obtain⟨off,u1⟩:=Int.eq_ofNat_of_zero_le aB.1
   obtain⟨h1,bq,S1,k1⟩:=XC.k.sp.write ok (id:=o.id) (off:=off) (v:=c.data) (t:= .ao) oN (by omega)
   rw[<-u1] at bq
   have Uw:=XZ.k.sp.lt
   refine eX bq (Mf fun b ew b9=>k1.2 b (by omega) (by omega) (by omega)) ?_
   simp+decide only[st,xv,px,IY]
   refine⟨rfl,lb,N,M,XC.wr c5 bc (by simp[xF];omega) k1 ?_,(XF.old hold).trans k1.kf.xf (.inl rfl), .inl rfl,by omega,by omega⟩
   rw[u1];exact S1
  ·rw[if_neg aB] at hV
   subst hV
   have jJ:=XC.k.sp.akP ok (id:=o.id) (off:=c.off) (v:=c.data) (t:= .ao) oN (by omega)
   refine eX jJ (cN (Nat.le_refl _)) ?_
   simp+decide only[st,xv,px,IY]
   exact⟨rfl,X.fin hold⟩
 ·rw[if_pos he] at hV
  subst hV
  have dN:((e:Int)=0)=False:=eq_false (by omega)
  simp+decide only[st,xv,px,Ri,aep,dN]
  exact⟨rfl,X.fin (oY.trans oZ)⟩
def qW (x:Th) (ah:List Ob) (c:Cl):Nat×Th:=if(bC ah x.ak c.id 3 (fq x.ak)).2≠0 then((bC ah x.ak c.id 3 (fq x.ak)).2,x) else gN x (bC ah x.ak c.id 3 (fq x.ak)).1.bV
theorem ahV (ok:ax P tb) (X:KX h xb a lb N M t ai ah rp) {c:Cl} {tl:Nat->aG} (k:fO c):
 ∃h',an P 63 [.ptr xb 0, .agg (c.c tl)] h (.int .i64 (qW (ai[t]'X.ht) ah c).1) h'/\fE h xb a lb N M t (ai.set t (qW (ai[t]'X.ht) ah c).2) ah rp h':=by
 obtain⟨V,hV⟩: ∃V,V=qW (ai[t]'X.ht) ah c:=⟨_,rfl⟩
 rw[<-hV]
 suffices hu: ∃h',an P 63 [.ptr xb 0, .agg (c.c aK)] h (.int .i64 V.1) h'/\fE h xb a lb N M t (ai.set t V.2) ah rp h' by
  obtain⟨h',c1,hq⟩:=hu
  exact⟨h',qN c1,hq⟩
 unfold qW at hV
 refine ok.dI (rf:=sr) rfl (Nat.le_of_ble_eq_true rfl) ?_
 simp+decide only[st,xv,sr,aej,fi]
 generalize hY:aa.at _ _ _=Y
 have oY:Old h Y:=by rw[<-hY];exact(Old.refl h).at (Nat.le_refl _)
 have cY:cellsOf Y h.next=some (c.c aK):=by rw[<-hY];exact av (by simp[aa.at];try rfl)
 have nY:Y.next=h.next+1:=by rw[<-hY];simp[aa.at]
 simp only[fi] at cY
 have XY:=X.old oY
 simp+decide only[st,xv,sr,Rc,cY]
 refine au (t8 ok XY k.id (ok.cf _ rfl) (q:=fq (ai[t]'X.ht).ak) (fun o h' hl o'=>CO ok (XY.old o') (tl:=aK) hl)) ?_
 have dM:=mW (l:=(ai[t]'X.ht).ak) (id:=c.id) (kind:=3) (q:=fq (ai[t]'X.ht).ak) X.root
 generalize bC ah (ai[t]'X.ht).ak c.id 3 (fq (ai[t]'X.ht).ak)=R at*
 obtain⟨o,e⟩:=R
 simp only at hV dM
 simp+decide only[st,xv,sr,Rc,db,xr]
 generalize hZ:aa.set _ _ _=Z
 have oZ:Old Y Z:=by rw[<-hZ];exact((Old.refl Y).at (Nat.le_refl _)).set (Nat.le_refl _)
 have cZ:cellsOf Z Y.next=some (o.c aK):=by rw[<-hZ];exact av (by simp[aa.set];try rfl)
 have nZ:Z.next=Y.next+1:=by rw[<-hZ];simp[aa.at,aa.set]
 simp only[db] at cZ
 by_cases he:e=0
 ·subst he
  rw[if_neg (fun h=>h rfl)] at hV
  obtain⟨c5,bc,_⟩:=dM rfl
  have XZ:=XY.old oZ
  have v:=XZ.k.ks.val o c5
  have di:=GA (Ge v.may bc)
  obtain⟨h1,bq,X1,f1⟩:=VZ ok XZ (cs:=o.bV) (tl:= .ao) v.ok.cat (by omega)
  simp+decide only[st,xv,sr,Rb,Ra,cZ]
  rw[<-hV] at bq X1
  refine au bq ?_
  simp+decide only[st,xv,sr,Ra]
  exact⟨rfl,lb,N,M,X1,(XF.old (oY.trans oZ)).trans f1 (.inl rfl), .inl rfl,by omega,by omega⟩
 ·rw[if_pos he] at hV
  subst hV
  have dN:((e:Int)=0)=False:=eq_false (by omega)
  simp+decide only[st,xv,sr,Rb,aei,dN]
  refine⟨rfl,?_⟩
  show fE h xb a lb N M t (ai.set t (ai[t]'X.ht)) ah rp _
  rw[sB]
  exact X.fin (oY.trans oZ)
end
section
open Go
def CP (base:Nat) (W:Nat->Prop):Option Nat->Prop
 |none=>True
 |some b=>b<base/\ ¬W b
def v8 (base:Nat) (W:Nat->Prop) (h h':aa):Prop:= ∀b,b<base-> ¬W b->h'.get b=h.get b
def ou (P:Program) (W:Nat->Prop) (un:List (List Nat)) (n base:Nat):List RO->Nat->Env->aa->(Env->aa->Prop)->Prop
 |[],_,ρ,h,K=>K ρ h
 |o::os,i,ρ,h,K=> ∃r h',bz P o (base+i) ρ h r h'/\(o.op.cq=true-> ∀j,i<j->j<n->h'.get (base+j)=none)/\v8 base W h h'/\
   (∀q,o.op= .p q->iu un i=true->CP base W (q.key ρ))/\ou P W un n base os (i+1) (put ρ o.dst (f5 r)) h' K
theorem Xx {P:Program} {al:List RO} {un:List (List Nat)} {base:Nat} {W:Nat->Prop} {K:Env->aa->Prop}: ∀(os:List RO) (i:Nat) (ρ:Env) (h:aa) (done:List (Env×aa×Option AV)),
 done.length=i->al.drop i=os->
 (∀k d,done[k]? =some d->v8 base W d.2.1 h/\ ∀ok q v,al[k]? =some ok->ok.op= .p q->iu un k=true->d.2.2=some v->aY q d.1 d.2.1=some v/\CP base W (q.key d.1))->
 ou P W un al.length base os i ρ h K->mh P al un base os i ρ h done K
 |[],i,ρ,h,done,_,_,_,he=>he
 |o::os,i,ρ,h,done,hl,hd,hinv,⟨r,h',hs,hf,hk,iO,he⟩=>by
  have mE:al[i]? =some o:=by
   have:(al.drop i)[0]? =some o:=by rw[hd];rfl
   rw[List.getElem?_drop] at this
   simpa using this
  have bP: ∀k,k∈un.getD i []->iu un i=true/\iu un k=true:=fun k hk=>by
   constructor
   ·unfold iu
    cases hq:un.getD i [] with
    |nil=>rw[hq] at hk;cases hk
    |cons a b=>rfl
   ·unfold iu
    have:un.any (fun l=>l.contains k)=true:=by
     rw[List.any_eq_true]
     rw[List.getD_eq_getElem?_getD] at hk
     cases hq:un[i]? with
     |none=>rw[hq] at hk;cases hk
     |some l=>rw[hq] at hk;exact⟨l,List.mem_of_getElem? hq,by simpa using hk⟩
    rw[this,Bool.or_true]
  have rC: ∀q v,o.op= .p q->r=some v->aY q ρ h=some v/\h'=h:=fun q v hq hr=>by
   unfold bz at hs
   split at hs
   ·obtain⟨v',h1,h2⟩:=hs
    rw[hr] at h1;cases h1
    rw[hq] at h2
    exact h2
   ·rw[hr] at hs;cases hs.1
   ·exact hs.elim
  refine⟨r,h',hs,fun k Fh ok d bc dq=>?_,hf,?_⟩
  ·obtain⟨f1,f2⟩:=bP k Fh
   obtain⟨hold,lK⟩:=hinv k d dq
   unfold l6
   split
   ·split
    ·rename_i v q hv hq
     obtain⟨h1,h2⟩:=lK ok q v bc hq f2 hv
     rw[<-h1]
     refine(ue q d.1 d.2.1 h' (fun b hb=>?_)).symm
     rw[hb] at h2
     rw[hk b h2.1 h2.2,hold b h2.1 h2.2]
    ·trivial
   ·split
    ·rename_i v q hq
     obtain⟨h1,rfl⟩:=rC q v hq rfl
     have h2:=iO q hq f1
     rw[<-h1]
     refine ue q ρ d.2.1 h' (fun b hb=>?_)
     rw[hb] at h2
     exact(hold b h2.1 h2.2).symm
    ·trivial
  ·refine Xx os (i+1) _ h' _ (by simp[hl]) ?_ ?_ he
   ·rw[<-List.drop_drop,hd];rfl
   ·intro k d dq
    rw[List.getElem?_append] at dq
    split at dq
    ·obtain⟨g1,g2⟩:=hinv k d dq
     exact⟨fun b hb hw=>by rw[hk b hb hw,g1 b hb hw],g2⟩
    ·rename_i aC
     have nH:k=i:=by
      have:=(List.getElem?_eq_some_iff.1 dq).1
      simp at this;omega
     subst nH
     simp[hl] at dq
     subst dq
     refine⟨hk,fun ok q v bc hq bP hv=>?_⟩
     rw[mE] at bc;cases bc
     exact⟨(rC q v hq hv).1,iO q hq bP⟩
theorem YH {P:Program} {al:List RO} {un:List (List Nat)} {K:aQ->Env->aa->Prop} {ρ:Env} {h:aa} (W:Nat->Prop) (n:Nat) (hn:al.length=n) (he:ou P W un n h.next al 0 ρ (h.clean n) (K .normal)):WP P (.ba al un) K ρ h:=by
 subst hn
 obtain⟨ρ1,h1,he,hk⟩:=Bn (Xx (W:=W) al 0 ρ _ [] rfl rfl (fun k d hd=>by simp at hd) he)
 exact⟨_,_,_, .Eb he,hk⟩
section
variable {P:Program} {W:Nat->Prop} {un:List (List Nat)} {n base i:Nat} {ρ:Env} {h:aa} {K:Env->aa->Prop} {d:Option Nat} {os:List RO}
def Vz (P:Program) (W:Nat->Prop) (un:List (List Nat)) (n base:Nat) (os:List RO) (i:Nat) (d:Option Nat) (ρ:Env) (h:aa) (K:Env->aa->Prop) (o:Option AV):Prop:= ∃v,o=some v/\ou P W un n base os (i+1) (put ρ d v) h K
def d4E (P:Program) (W:Nat->Prop) (un:List (List Nat)) (n base:Nat) (os:List RO) (i:Nat) (d:Option Nat) (ρ:Env) (h:aa) (K:Env->aa->Prop) (o:Option (AV×aa)):Prop:= ∃v h',o=some (v,h')/\dP n base i h'/\v8 base W h h'/\ou P W un n base os (i+1) (put ρ d v) h' K
def d4C (P:Program) (W:Nat->Prop) (un:List (List Nat)) (n base:Nat) (os:List RO) (i:Nat) (d:Option Nat) (ρ:Env) (h:aa) (K:Env->aa->Prop) (f:Nat) (as:List AV):Prop:= ∃v h',an P f as h v h'/\dP n base i h'/\v8 base W h h'/\ou P W un n base os (i+1) (put ρ d v) h' K
theorem ao8:ou P W un n base [] i ρ h K↔K ρ h:=Iff.rfl
theorem auW {q:bd}:ou P W un n base (⟨d,none, .p q⟩::os) i ρ h K↔(iu un i=true->CP base W (q.key ρ))/\Vz P W un n base os i d ρ h K (aY q ρ h):=by
 constructor
 ·rintro⟨r,h',hs,_,_,hk,he⟩
  simp only[bz,bZ,gA] at hs
  obtain⟨v,rfl,hv,rfl⟩:=hs
  exact⟨hk q rfl,v,hv,he⟩
 ·rintro⟨hk,v,hv,he⟩
  exact⟨some v,h,⟨v,rfl,hv,rfl⟩,fun hh=>by simp[bX.cq] at hh,fun _ _ _=>rfl,(fun q' hq=>by cases hq;exact hk),he⟩
theorem auX {q:gn}:ou P W un n base (⟨d,none, .e q⟩::os) i ρ h K↔d4E P W un n base os i d ρ h K (bM q ρ (base+i) h):=by
 constructor
 ·rintro⟨r,h',hs,hf,hk,_,he⟩
  simp only[bz,bZ,gA] at hs
  obtain⟨v,rfl,hv⟩:=hs
  exact⟨v,h',hv,hf rfl,hk,he⟩
 ·rintro⟨v,h',hv,hf,hk,he⟩
  exact⟨some v,h',⟨v,rfl,hv⟩,fun _=>hf,hk,(fun q' hq=>by cases hq),he⟩
theorem auY {f:Nat} {as:List aq}:ou P W un n base (⟨d,none, .call f as⟩::os) i ρ h K↔d4C P W un n base os i d ρ h K f (as.map (aq.ev ρ)):=by
 constructor
 ·rintro⟨r,h',hs,hf,hk,_,he⟩
  simp only[bz,bZ,gA] at hs
  obtain⟨v,rfl,hv⟩:=hs
  exact⟨v,h',hv,hf rfl,hk,he⟩
 ·rintro⟨v,h',hv,hf,hk,he⟩
  exact⟨some v,h',⟨v,rfl,hv⟩,fun _=>hf,hk,fun q' hq=>(by cases hq),he⟩
theorem alS {v:AV}:Vz P W un n base os i d ρ h K (some v)↔ou P W un n base os (i+1) (put ρ d v) h K:=by simp[Vz]
theorem alT {v:AV} {h':aa}:d4E P W un n base os i d ρ h K (some (v,h'))↔dP n base i h'/\v8 base W h h'/\ou P W un n base os (i+1) (put ρ d v) h' K:=by
 constructor
 ·rintro⟨v',h2,e,a,b,c⟩;cases e;exact⟨a,b,c⟩
 ·rintro⟨a,b,c⟩;exact⟨v,h',rfl,a,b,c⟩
theorem ajg:CP base W none↔True:=Iff.rfl
theorem ajf {b:Nat}:CP base W (some b)↔b<base/\ ¬W b:=Iff.rfl
end
theorem WX {base:Nat} {W:Nat->Prop} {h:aa} {b:Nat} {x:Option cF} (hw:W b):v8 base W h (h.set b x):=fun c _ hc=>by
 simp only[aa.set]
 rw[if_neg]
 intro e;subst e;exact hc hw
theorem Bi {base:Nat} {W:Nat->Prop} {h:aa} {b:Nat} {x y:Option cF} (hw:W b):v8 base W (h.set b x) (h.set b y):=fun c _ hc=>by
 have: ¬c=b:=fun e=>hc (e▸hw)
 simp only[aa.set]
 rw[if_neg this,if_neg this]
set_option linter.defProp false in
def sw:=And.intro @ao8<|And.intro @auW<|And.intro @auX<|And.intro @auY<|And.intro @alS<|And.intro @alT<|And.intro @ajg @ajf
end
section
open Go
variable {P:Program} {h:aa} {a:KA} {lb N M:Nat} {ai:List Th} {ah:List Ob} {g:Nat->Option (List UInt8)} {xb t:Nat} {rp:Rp}
theorem CN (ok:ax P tb) (X:KX h xb a lb N M t ai ah rp) {o:Ob} {tl:Nat->aG} (v:jd o) (hs: ∀o',bg ah o.id=some o'->o'.kind≠2/\o.kind≠2) (hN:N<2^19) (hM:M<128):
 ∃h',an P 30 [.ptr a.kb 0, .agg (o.c tl)] h (.ay []) h'/\ ∃aT,KX h' xb a aT (N+1) (if o.kind=2 then M+1 else M) t ai (dp ah o) rp/\(aT=lb\/h.next<=aT)/\KF h h' a lb:=by
 obtain⟨h',c,aT,K,hl,kf⟩:=agN ok X.k (t:=tl) v hs hN hM
 obtain⟨rt,hx⟩:=X.x
 refine⟨h',c,aT,⟨K,⟨rt,by rw[kf.2 _ X.lx X.dK X.dA X.dS,hx]⟩,Nat.lt_of_lt_of_le X.lx kf.1,X.dK,?_,X.dS,X.ht,X.tv,?_⟩,hl,kf⟩
 ·rintro(e|e|e)
  ·exact X.dA (.inl e)
  ·exact X.dA (.inr (.inl e))
  ·rcases hl with h|h
   ·exact X.dA (.inr (.inr (e.trans h)))
   ·have:=X.lx;omega
 ·obtain⟨r,hr⟩:=X.root
  rw[nV X.k.ks.bY]
  by_cases e:1=o.id
  ·rw[if_pos e];exact⟨_,rfl⟩
  ·rw[if_neg e];exact⟨r,hr⟩
theorem Zw {o:Ob} (v:jd o) (h4:o.kind=4) {r:List (List UInt8)} (hr:jA r=true):jd {o with ring:=r}:=by
 have hm:=v.may
 have hn:=v.norm
 have gG:=vP hr
 refine⟨⟨v.ok.ak,v.ok.id,v.ok.bV,by show r.length<_;omega,v.ok.cat⟩,?_,?_⟩
 ·have h1: ¬o.kind=1:=by omega
  have h2: ¬o.kind=2:=by omega
  have h3: ¬o.kind=3:=by omega
  unfold fC m5 at hm ⊢
  simp only[h1,h2,h3,h4,if_true,if_false] at hm ⊢
  unfold p7 at hm ⊢
  simp only[Bool.and_eq_true] at hm ⊢
  exact⟨hm.1,hr⟩
 ·cases o with
  |mk J5 kind ak bh used next data bV ring st=>
   unfold iZ at hn ⊢
   simp only at hn h4 ⊢
   have h1: ¬kind=1:=by omega
   have h2: ¬kind=2:=by omega
   have h3: ¬kind=3:=by omega
   rw[if_neg h1,if_neg h2,if_neg h3] at hn ⊢
   simp only[Ob.mk.injEq,bf] at hn ⊢
   obtain⟨e1,e2,e3,e4,e5,e6,e7,e8,e9,Fz⟩:=hn
   exact⟨trivial,trivial,trivial,e4,e5,e6,e7,e8,trivial,Fz⟩
theorem ak8 {l:List (List UInt8)} {b:List UInt8} (hr:jA l=true) (h0:(m7 l b).2=0):m7 l b=(l++[b],0)/\jA (l++[b])=true:=by
 unfold m7 at h0 ⊢
 split at h0
 ·cases h0
 split at h0
 ·cases h0
 rename_i h1 h2
 rw[if_neg h1,if_neg h2]
 refine⟨rfl,?_⟩
 unfold jA at hr ⊢
 simp only[Bool.and_eq_true,decide_eq_true_eq,List.any_append,List.length_append,List.length_singleton,Bool.not_or,List.any_cons,List.any_nil,Bool.or_false] at hr ⊢
 refine⟨by omega,hr.2,by simp;omega⟩
def oH (l:Lb) (ah:List Ob) (c:Cl):Nat×List Ob:=if(bC ah l c.id 4 (dG l)).2≠0 then((bC ah l c.id 4 (dG l)).2,ah) else if(m7 (bC ah l c.id 4 (dG l)).1.ring c.data).2≠0 then((m7 (bC ah l c.id 4 (dG l)).1.ring c.data).2,ah) else(0,dp ah {(bC ah l c.id 4 (dG l)).1 with ring:=(m7 (bC ah l c.id 4 (dG l)).1.ring c.data).1})
theorem aip (ok:ax P tb) (X:KX h xb a lb N M t ai ah rp) {c:Cl} {tl:Nat->aG} (k:fO c) (hN:N<2^19) (hM:M<128):
 ∃h',an P 64 [.ptr xb 0, .agg (c.c tl)] h (.int .i64 (oH (ai[t]'X.ht).ak ah c).1) h'/\fE h xb a lb N M t ai (oH (ai[t]'X.ht).ak ah c).2 rp h':=by
 obtain⟨V,hV⟩: ∃V,V=oH (ai[t]'X.ht).ak ah c:=⟨_,rfl⟩
 rw[<-hV]
 suffices hu: ∃h',an P 64 [.ptr xb 0, .agg (c.c aK)] h (.int .i64 V.1) h'/\fE h xb a lb N M t ai V.2 rp h' by
  obtain⟨h',c1,hq⟩:=hu
  exact⟨h',qN c1,hq⟩
 unfold oH at hV
 refine ok.dI (rf:=mP) rfl (Nat.le_of_ble_eq_true rfl) ?_
 simp+decide only[st,xv,mP,aeh,fi]
 generalize hY:aa.at _ _ _=Y
 have oY:Old h Y:=by rw[<-hY];exact(Old.refl h).at (Nat.le_refl _)
 have cY:cellsOf Y h.next=some (c.c aK):=by rw[<-hY];exact av (by simp[aa.at];try rfl)
 have nY:Y.next=h.next+1:=by rw[<-hY];simp[aa.at]
 simp only[fi] at cY
 have XY:=X.old oY
 simp+decide only[st,xv,mP,Q9,cY]
 refine au (t8 ok XY k.id (ok.cf _ rfl) (q:=dG (ai[t]'X.ht).ak) (fun o h' hl o'=>Ii ok (XY.old o') (tl:=aK) hl)) ?_
 have dM:=mW (l:=(ai[t]'X.ht).ak) (id:=c.id) (kind:=4) (q:=dG (ai[t]'X.ht).ak) X.root
 generalize bC ah (ai[t]'X.ht).ak c.id 4 (dG (ai[t]'X.ht).ak)=R at*
 obtain⟨o,e⟩:=R
 simp only at hV dM
 simp+decide only[st,xv,mP,Q9,db,xr]
 generalize hZ:aa.set _ _ _=Z
 have oZ:Old Y Z:=by rw[<-hZ];exact((Old.refl Y).at (Nat.le_refl _)).set (Nat.le_refl _)
 have cZ:cellsOf Z Y.next=some (o.c aK):=by rw[<-hZ];exact av (by simp[aa.set];try rfl)
 have nZ:Z.next=Y.next+1:=by rw[<-hZ];simp[aa.at,aa.set]
 have l7:cellsOf Z h.next=_:=(show cellsOf Z h.next=cellsOf Y h.next by unfold cellsOf;rw[oZ.get _ (by omega)]).trans cY
 simp only[db] at cZ
 rw[nY] at cZ
 have hold:=oY.trans oZ
 have n01: ¬h.next=h.next+1:=by omega
 by_cases he:e=0
 ·subst he
  rw[if_neg (fun h=>h rfl)] at hV
  obtain⟨c5,bc,_⟩:=dM rfl
  have XZ:=XY.old oZ
  have v:=XZ.k.ks.val o c5
  have vu:=yH v.may bc
  have gG:=vP vu
  have hd:=k.data
  simp+decide only[st,xv,mP,Q8,Q7,cZ,l7,nY]
  refine au (ajL ok (l:=o.ring) (b:=c.data) (t:= .ao) (t':= .ao) (by omega) (fun b hb=>by have:=gG.2 b hb;omega) (by omega)) ?_
  have hpo:=ak8 (b:=c.data) vu
  generalize hQ:m7 o.ring c.data=Q at*
  obtain⟨r,e2⟩:=Q
  simp only at hV hpo
  simp+decide only[st,xv,mP,Q7,cZ,nY,xr]
  obtain⟨W,hW⟩: ∃W,W=Z.set (h.next+1) (some (.cells (Ob.c {o with ring:=r} aK))):=⟨_,rfl⟩
  have kX:=hW
  simp only[db] at kX
  rw[<-kX]
  have oW:Old h W:=by rw[hW];exact hold.set (by omega)
  have cW:cellsOf W (h.next+1)=some (Ob.c {o with ring:=r} aK):=by rw[hW];exact av (by simp[aa.set])
  have XW:=X.old oW
  simp only[db] at cW
  by_cases tI:e2=0
  ·subst tI
   rw[if_neg (fun h=>h rfl)] at hV
   obtain⟨tD,Fb⟩:=hpo rfl
   cases tD
   subst hV
   obtain⟨rt,hx⟩:=XW.x
   have cx:=av hx
   have lx:=XW.lx
   have lW:h.next+1<W.next:=by rw[hW];simp only[aa.set];omega
   simp+decide only[st,xv,mP,Q6]
   refine bU 6 rfl rfl ?_
   simp+decide only[st,xv,mP,aee,cx,cW,lx,lW,nY]
   have XC:=XW.old ((Old.refl W).clean (n:=6))
   obtain⟨h1,bq,dB,X1,eo,hU⟩:=CN ok XC (o:={o with ring:=o.ring++[c.data]}) (tl:=aK) (Zw v bc Fb) (fun o' ej=>by
    have qp:=lj XC.k.ks.bY c5
    have:o'=o:=by rw[qp] at ej;exact(Option.some.inj ej).symm
    subst this
    exact⟨by omega,by show o'.kind≠2;omega⟩) hN hM
   refine eX bq (hU.free XW.k.bt) ?_
   simp+decide only[st,xv,mP,aed]
   have lC:(W.clean 6).next=W.next+6:=rfl
   have onW:=oW.next
   refine⟨rfl,dB,N+1,_,X1,(XF.old (oW.trans ((Old.refl W).clean))).trans hU.xf (.inl rfl),?_,by omega,by split<;>omega⟩
   rcases eo with h|h
   ·exact .inl h
   ·exact .inr (by omega)
  ·rw[if_pos tI] at hV
   subst hV
   have dN:((e2:Int)=0)=False:=eq_false (by omega)
   simp+decide only[st,xv,mP,Q6,aef,dN]
   exact⟨rfl,X.fin oW⟩
 ·rw[if_pos he] at hV
  subst hV
  have dN:((e:Int)=0)=False:=eq_false (by omega)
  simp+decide only[st,xv,mP,Q8,aeg,dN]
  exact⟨rfl,X.fin hold⟩
def f7 (x:Th) (ah:List Ob) (c:Cl):Bool×Nat×Th×List Ob×List UInt8:=if(bC ah x.ak c.id 4 (dG x.ak)).2≠0 then(true,(bC ah x.ak c.id 4 (dG x.ak)).2,x,ah,[]) else match(bC ah x.ak c.id 4 (dG x.ak)).1.ring with
 |[]=>(false,0,{x with dj:=1,id:=c.id},ah,[])
 |b::m=>(true,0,x,dp ah {(bC ah x.ak c.id 4 (dG x.ak)).1 with ring:=m},b)
theorem aj1 {b:List UInt8} {m:List (List UInt8)} (h:jA (b::m)=true):jA m=true:=by
 unfold jA at h ⊢
 simp only[Bool.and_eq_true,decide_eq_true_eq,List.length_cons,List.any_cons,Bool.not_or] at h ⊢
 exact⟨by omega,h.2.2⟩
theorem aiq (ok:ax P tb) (X:KX h xb a lb N M t ai ah rp) {c:Cl} {tl:Nat->aG} (k:fO c) (hN:N<2^19) (hM:M<128):
 ∃h' bW,an P 65 [.ptr xb 0, .agg (c.c tl)] h (.ay [.bool (f7 (ai[t]'X.ht) ah c).1, .int .i64 (f7 (ai[t]'X.ht) ah c).2.1]) h'/\fE h xb a lb N M t (ai.set t (f7 (ai[t]'X.ht) ah c).2.2.1) (f7 (ai[t]'X.ht) ah c).2.2.2.1 bW h'/\((f7 (ai[t]'X.ht) ah c).1=true->(f7 (ai[t]'X.ht) ah c).2.1=0->bW={rp with data:=(f7 (ai[t]'X.ht) ah c).2.2.2.2}):=by
 obtain⟨V,hV⟩: ∃V,V=f7 (ai[t]'X.ht) ah c:=⟨_,rfl⟩
 rw[<-hV]
 obtain⟨Q,hQ⟩: ∃Q:aa->Prop,∀h',Q h'↔ ∃bW,fE h xb a lb N M t (ai.set t V.2.2.1) V.2.2.2.1 bW h'/\(V.1=true->V.2.1=0->bW={rp with data:=V.2.2.2.2}):=⟨_,fun _=>Iff.rfl⟩
 suffices hu: ∃h',an P 65 [.ptr xb 0, .agg (c.c aK)] h (.ay [.bool V.1, .int .i64 V.2.1]) h'/\Q h' by
  obtain⟨h',c1,hq⟩:=hu
  obtain⟨bW,hq⟩:=(hQ h').1 hq
  exact⟨h',bW,qN c1,hq⟩
 unfold f7 at hV
 refine ok.dI (rf:=mO) rfl (Nat.le_of_ble_eq_true rfl) ?_
 simp+decide only[st,xv,mO,aec,fi]
 generalize hY:aa.at _ _ _=Y
 have oY:Old h Y:=by rw[<-hY];exact(Old.refl h).at (Nat.le_refl _)
 have cY:cellsOf Y h.next=some (c.c aK):=by rw[<-hY];exact av (by simp[aa.at];try rfl)
 have nY:Y.next=h.next+1:=by rw[<-hY];simp[aa.at]
 simp only[fi] at cY
 have XY:=X.old oY
 simp+decide only[st,xv,mO,Q5,cY]
 refine au (t8 ok XY k.id (ok.cf _ rfl) (q:=dG (ai[t]'X.ht).ak) (fun o h' hl o'=>Ii ok (XY.old o') (tl:=aK) hl)) ?_
 have dM:=mW (l:=(ai[t]'X.ht).ak) (id:=c.id) (kind:=4) (q:=dG (ai[t]'X.ht).ak) X.root
 generalize bC ah (ai[t]'X.ht).ak c.id 4 (dG (ai[t]'X.ht).ak)=R at*
 obtain⟨o,e⟩:=R
 simp only at hV dM
 simp+decide only[st,xv,mO,Q5,db,xr]
 generalize hZ:aa.set _ _ _=Z
 have oZ:Old Y Z:=by rw[<-hZ];exact((Old.refl Y).at (Nat.le_refl _)).set (Nat.le_refl _)
 have cZ:cellsOf Z Y.next=some (o.c aK):=by rw[<-hZ];exact av (by simp[aa.set];try rfl)
 have nZ:Z.next=Y.next+1:=by rw[<-hZ];simp[aa.at,aa.set]
 have l7:cellsOf Z h.next=_:=(show cellsOf Z h.next=cellsOf Y h.next by unfold cellsOf;rw[oZ.get _ (by omega)]).trans cY
 simp only[db] at cZ
 rw[nY] at cZ
 have hold:=oY.trans oZ
 have n01: ¬h.next=h.next+1:=by omega
 by_cases he:e=0
 ·subst he
  rw[if_neg (fun h=>h rfl)] at hV
  obtain⟨c5,bc,_⟩:=dM rfl
  have XZ:=XY.old oZ
  have v:=XZ.k.ks.val o c5
  have vu:=yH v.may bc
  have gG:=vP vu
  simp+decide only[st,xv,mO,Q4,IW,cZ,l7,nY]
  refine au (akM ok (l:=o.ring) (t:= .ao) (by omega) (fun b hb=>by have:=gG.2 b hb;omega)) ?_
  cases PG:o.ring with
  |nil=>
   rw[PG] at hV
   subst hV
   obtain⟨rt,hx⟩:=XZ.x
   have cx:=av hx
   obtain⟨ct,hle,cu⟩:=XZ.Ea
   have lx:=XZ.lx
   have l2:=XZ.k.l2
   have Ut: ¬h.next=a.tb:=by have:=X.k.l2;omega
   have Us: ¬xb=a.tb:=fun e=>X.dK (.inr e)
   have l0:h.next<Z.next:=by omega
   have UM:List.take (t*12+6) (aX aS ai).flatten++[AV.int .i64 1]++List.drop (t*12+6+1) (aX aS ai).flatten=(aX aS (ai.set t {ai[t]'X.ht with dj:=1})).flatten:=vY (l:=ai) X.ht (j:=6) (v:=[.int .i64 1]) (x':={ai[t]'X.ht with dj:=1}) (by simp) (by simp[iE])
   have E8:List.take (t*12+7) (aX aS (ai.set t {ai[t]'X.ht with dj:=1})).flatten++[AV.int .u64 c.id]++List.drop (t*12+7+1) (aX aS (ai.set t {ai[t]'X.ht with dj:=1})).flatten=(aX aS (ai.set t {ai[t]'X.ht with dj:=1,id:=c.id})).flatten:=by
    have:=vY (l:=ai.set t {ai[t]'X.ht with dj:=1}) (t:=t) (by simpa using X.ht) (j:=7) (v:=[.int .u64 c.id]) (x':={ai[t]'X.ht with dj:=1,id:=c.id}) (by simp) (by simp[iE])
    rw[List.set_set] at this
    exact this
   have eo:t*12+6+1<=(aX aS ai).flatten.length:=by omega
   have eD:t*12+7+1<=(aX aS (ai.set t {ai[t]'X.ht with dj:=1})).flatten.length:=by
    rw[jg ma,iX,List.length_set];have:=X.ht;omega
   simp+decide only[st,xv,mO,IW,Q3]
   refine YH (fun b=>b=a.tb) 16 rfl ?_
   simp+decide only[st,xv,mO,aea,ad9,sw,cx,ct,l7,lx,l2,l0,Ut,Us,eo,nY,UM,E8,eD,xr]
   have fz:=fun i=>cN (h:=Z) (n:=16) (m:=16) (base:=Z.next) (i:=i) (Nat.le_refl _)
   have Kd:=XZ.tv.ak _ (List.getElem_mem XZ.ht)
   refine⟨(jv l2).2 (fz _),WX rfl,?_⟩
   refine⟨(jv l2).2 (fz _),Bi rfl,rfl,(hQ _).2 ⟨rp,⟨lb,N,M,(XZ.old ((Old.refl Z).clean (n:=16))).mq (x:={ai[t]'X.ht with dj:=1,id:=c.id}) Kd,(XF.old (hold.trans ((Old.refl Z).clean))).mq, .inl rfl,by omega,by omega⟩,fun h=>by cases h⟩⟩
  |cons b m=>
   rw[PG] at hV
   subst hV
   rw[PG] at vu
   have auf:=aj1 vu
   simp+decide only[st,xv,mO,IW,Q3,ad8,cZ,nY,xr]
   obtain⟨W,hW⟩: ∃W,W=Z.set (h.next+1) (some (.cells (Ob.c {o with ring:=m} aK))):=⟨_,rfl⟩
   have kX:=hW
   simp only[db] at kX
   rw[<-kX]
   have oW:Old h W:=by rw[hW];exact hold.set (by omega)
   have cW:cellsOf W (h.next+1)=some (Ob.c {o with ring:=m} aK):=by rw[hW];exact av (by simp[aa.set])
   have XW:=X.old oW
   simp only[db] at cW
   obtain⟨rt,hx⟩:=XW.x
   have cx:=av hx
   have lx:=XW.lx
   have lW:h.next+1<W.next:=by rw[hW];simp only[aa.set];omega
   refine bU 6 rfl rfl ?_
   simp+decide only[st,xv,mO,Q1,cx,cW,lx,lW,nY]
   have XC:=XW.old ((Old.refl W).clean (n:=6))
   obtain⟨h1,bq,dB,X1,eo,hU⟩:=CN ok XC (o:={o with ring:=m}) (tl:=aK) (Zw v bc auf) (fun o' ej=>by
    have qp:=lj XC.k.ks.bY c5
    have:o'=o:=by rw[qp] at ej;exact(Option.some.inj ej).symm
    subst this
    exact⟨by omega,by show o'.kind≠2;omega⟩) hN hM
   refine eX bq (hU.free XW.k.bt) ?_
   obtain⟨rt1,pe⟩:=X1.x
   have AY:=av pe
   simp+decide only[st,xv,mO,Q1,Z6,Z5,AY,xr]
   have lC:(W.clean 6).next=W.next+6:=rfl
   have onW:=oW.next
   have e0:ai.set t (ai[t]'X.ht)=ai:=sB X.ht
   refine⟨rfl,(hQ _).2 ⟨{rp with data:=b},⟨dB,N+1,_,by rw[e0];exact X1.rB (bW:={rp with data:=b}),((XF.old (oW.trans ((Old.refl W).clean))).trans hU.xf (.inl rfl)).rA,?_,by omega,by split<;>omega⟩,fun _ _=>rfl⟩⟩
   rcases eo with h|h
   ·exact .inl h
   ·exact .inr (by omega)
 ·rw[if_pos he] at hV
  subst hV
  have dN:((e:Int)=0)=False:=eq_false (by omega)
  simp+decide only[st,xv,mO,Q4,aeb,dN]
  refine⟨rfl,(hQ _).2 ⟨rp,?_,fun _ h=>absurd h he⟩⟩
  show fE h xb a lb N M t (ai.set t (ai[t]'X.ht)) ah rp _
  rw[sB]
  exact X.fin hold
end
section
open Go
variable {P:Program} {h:aa} {a:KA} {lb N M:Nat} {ai:List Th} {ah:List Ob} {g:Nat->Option (List UInt8)} {xb t:Nat} {rp:Rp}
def sP (l:Lb) (ah:List Ob) (c:Cl):Nat×Nat×List UInt8:=if(dv ah l c.id).2≠0 then((dv ah l c.id).2,0,[]) else(0,if(dv ah l c.id).1.kind=2 then(dv ah l c.id).1.data.length else if(dv ah l c.id).1.kind=1 then(dv ah l c.id).1.bh.toNat else 0,UInt8.ofNat (dv ah l c.id).1.kind.toNat::cT (dv ah l c.id).1.ak)
theorem aio (ok:ax P tb) (X:KX h xb a lb N M t ai ah rp) {c:Cl} {tl:Nat->aG} (k:fO c) (UO:rp.ret=0):
 ∃h' bW,an P 67 [.ptr xb 0, .agg (c.c tl)] h (.int .i64 (sP (ai[t]'X.ht).ak ah c).1) h'/\fE h xb a lb N M t ai ah bW h'/\((sP (ai[t]'X.ht).ak ah c).1=0->bW={rp with ret:=(sP (ai[t]'X.ht).ak ah c).2.1,data:=(sP (ai[t]'X.ht).ak ah c).2.2}):=by
 obtain⟨V,hV⟩: ∃V,V=sP (ai[t]'X.ht).ak ah c:=⟨_,rfl⟩
 rw[<-hV]
 obtain⟨Q,hQ⟩: ∃Q:aa->Prop,∀h',Q h'↔ ∃bW,fE h xb a lb N M t ai ah bW h'/\(V.1=0->bW={rp with ret:=V.2.1,data:=V.2.2}):=⟨_,fun _=>Iff.rfl⟩
 suffices hu: ∃h',an P 67 [.ptr xb 0, .agg (c.c aK)] h (.int .i64 V.1) h'/\Q h' by
  obtain⟨h',c1,hq⟩:=hu
  obtain⟨bW,hq⟩:=(hQ h').1 hq
  exact⟨h',bW,qN c1,hq⟩
 unfold sP at hV
 refine ok.dI (rf:=nT) rfl (Nat.le_of_ble_eq_true rfl) ?_
 simp+decide only[st,xv,nT,ad2,fi]
 generalize hY:aa.at _ _ _=Y
 have oY:Old h Y:=by rw[<-hY];exact(Old.refl h).at (Nat.le_refl _)
 have cY:cellsOf Y h.next=some (c.c aK):=by rw[<-hY];exact av (by simp[aa.at];try rfl)
 have nY:Y.next=h.next+1:=by rw[<-hY];simp[aa.at]
 simp only[fi] at cY
 have XY:=X.old oY
 simp+decide only[st,xv,nT,QW,cY]
 refine au (Lf ok XY k.id) ?_
 have dM:=LD (l:=(ai[t]'X.ht).ak) (id:=c.id) X.root
 generalize dv ah (ai[t]'X.ht).ak c.id=R at*
 obtain⟨o,e⟩:=R
 simp only at hV dM
 simp+decide only[st,xv,nT,QW,db,xr]
 generalize hZ:aa.set _ _ _=Z
 have oZ:Old Y Z:=by rw[<-hZ];exact((Old.refl Y).at (Nat.le_refl _)).set (Nat.le_refl _)
 have cZ:cellsOf Z Y.next=some (o.c aK):=by rw[<-hZ];exact av (by simp[aa.set];try rfl)
 have nZ:Z.next=Y.next+1:=by rw[<-hZ];simp[aa.at,aa.set]
 have l7:cellsOf Z h.next=_:=(show cellsOf Z h.next=cellsOf Y h.next by unfold cellsOf;rw[oZ.get _ (by omega)]).trans cY
 simp only[db] at cZ
 rw[nY] at cZ
 have hold:=oY.trans oZ
 by_cases he:e=0
 ·subst he
  rw[if_neg (fun h=>h rfl)] at hV
  have c5:=dM rfl
  have XZ:=XY.old oZ
  have v:=XZ.k.ks.val o c5
  obtain⟨rt,hx⟩:=XZ.x
  have cx:=av hx
  have lx:=XZ.lx
  have gU: ¬h.next+1=xb:=by have:=X.lx;omega
  obtain⟨kk,hk,vw,AG⟩: ∃kk:UInt8,o.kind=kk.toNat/\1<=kk.toNat/\kk.toNat<=4:=by
   rcases ub v.may with h|h|h|h<;>rw[h]
   ·exact⟨1,rfl,by decide⟩
   ·exact⟨2,rfl,by decide⟩
   ·exact⟨3,rfl,by decide⟩
   ·exact⟨4,rfl,by decide⟩
  have rY:UInt8.ofNat o.kind.toNat=kk:=by rw[hk];simp
  have w1:IntKind.wrap .u8 o.kind=kk.toNat:=by rw[hk,wrap_u8];unfold JX;simp;omega
  simp+decide only[st,xv,nT,QV,QU,cZ,nY,w1]
  refine au (F5 ok (b:=[kk]) (t:= .full) (l:=o.ak) (t':= .ao) v.ok.ak (by simp)) ?_
  simp+decide only[st,xv,nT,QU,ad0,cZ,cx,nY,gU,xr]
  have PI:=XF.old (a:=a) (lb:=lb) (xb:=xb) hold
  by_cases h2:o.kind=2
  ·have e2:(o.kind=2)=True:=eq_true h2
   have vx:=sE v.may h2
   have w2:IntKind.wrap .u64 (o.data.length:Int)=o.data.length:=eQ (by omega)
   rw[if_pos h2,rY] at hV
   simp+decide only[st,xv,nT,IU,adZ,G8,e2,cZ,cx,nY,gU,cr,w2,xr]
   subst hV
   refine⟨rfl,(hQ _).2 ⟨{rp with ret:=o.data.length,data:=kk::cT o.ak},⟨lb,N,M,XZ.rB (bW:={rp with ret:=o.data.length,data:=kk::cT o.ak}),PI.rA, .inl rfl,by omega,by omega⟩,fun _=>rfl⟩⟩
  have e2:(o.kind=2)=False:=eq_false h2
  rw[if_neg h2] at hV
  by_cases h1:o.kind=1
  ·have e1:(o.kind=1)=True:=eq_true h1
   obtain⟨b1,b2,b3,b4,b5⟩:=uf v.may h1
   obtain⟨q,hq⟩:=Int.eq_ofNat_of_zero_le (show 0<=o.bh by omega)
   have w2:IntKind.wrap .u64 o.bh=q:=by rw[hq];exact eQ (by omega)
   rw[if_pos h1,rY,hq,Int.toNat_natCast] at hV
   simp+decide only[st,xv,nT,IU,QT,adY,G8,e1,e2,cZ,cx,nY,gU,w2,xr]
   subst hV
   refine⟨rfl,(hQ _).2 ⟨{rp with ret:=q,data:=kk::cT o.ak},⟨lb,N,M,XZ.rB (bW:={rp with ret:=q,data:=kk::cT o.ak}),PI.rA, .inl rfl,by omega,by omega⟩,fun _=>rfl⟩⟩
  ·have e1:(o.kind=1)=False:=eq_false h1
   rw[if_neg h1,rY] at hV
   simp+decide only[st,xv,nT,IU,QT,G8,e1,e2,cZ,cx,nY,gU,xr]
   subst hV
   refine⟨rfl,(hQ _).2 ⟨{rp with data:=kk::cT o.ak},⟨lb,N,M,XZ.rB (bW:={rp with data:=kk::cT o.ak}),PI.rA, .inl rfl,by omega,by omega⟩,fun _=>by rw[<-UO]⟩⟩
 ·rw[if_pos he] at hV
  subst hV
  have dN:((e:Int)=0)=False:=eq_false (by omega)
  simp+decide only[st,xv,nT,QV,ad1,dN]
  exact⟨rfl,(hQ _).2 ⟨rp,X.fin hold,fun h=>absurd h he⟩⟩
def J9 (x:Th) (ah:List Ob) (c:Cl) (done:Int) (fr to:Ob):Bool×Nat×Th×List Ob×Nat:=
 let d:=(max 0 (min done c.n)).toNat
 let e:=min (d+4) c.n.toNat
 let z8:=EX ah to (xF to.data d ((fr.data.take e).drop d))
 if e<c.n.toNat then(false,0,{x with dj:=2,id:=c.id,to:=c.to,done:=e,n:=c.n},z8,0) else(true,0,x,z8,c.n.toNat)
def i0 (x:Th) (ah:List Ob) (c:Cl) (done:Int):Bool×Nat×Th×List Ob×Nat:=
 if(bC ah x.ak c.id 2 (fq x.ak)).2≠0 then(true,(bC ah x.ak c.id 2 (fq x.ak)).2,x,ah,0)
 else if(bC ah x.ak c.to 2 (fI x.ak)).2≠0 then(true,(bC ah x.ak c.to 2 (fI x.ak)).2,x,ah,0)
 else if¬(0<=c.n/\c.n<=min ((bC ah x.ak c.id 2 (fq x.ak)).1.data.length:Int) (bC ah x.ak c.to 2 (fI x.ak)).1.data.length) then(true,11,x,ah,0)
 else J9 x ah c done (bC ah x.ak c.id 2 (fq x.ak)).1 (bC ah x.ak c.to 2 (fI x.ak)).1
theorem ait (ok:ax P tb) (X:KX h xb a lb N M t ai ah rp) {c:Cl} {tl:Nat->aG} {done:Int} (k:fO c):
 ∃h' bW,an P 66 [.ptr xb 0, .agg (c.c tl), .int .i64 done] h (.ay [.bool (i0 (ai[t]'X.ht) ah c done).1, .int .i64 (i0 (ai[t]'X.ht) ah c done).2.1]) h'/\fE h xb a lb N M t (ai.set t (i0 (ai[t]'X.ht) ah c done).2.2.1) (i0 (ai[t]'X.ht) ah c done).2.2.2.1 bW h'/\((i0 (ai[t]'X.ht) ah c done).1=true->(i0 (ai[t]'X.ht) ah c done).2.1=0->bW={rp with ret:=(i0 (ai[t]'X.ht) ah c done).2.2.2.2}):=by
 obtain⟨V,hV⟩: ∃V,V=i0 (ai[t]'X.ht) ah c done:=⟨_,rfl⟩
 rw[<-hV]
 obtain⟨Q,hQ⟩: ∃Q:aa->Prop,∀h',Q h'↔ ∃bW,fE h xb a lb N M t (ai.set t V.2.2.1) V.2.2.2.1 bW h'/\(V.1=true->V.2.1=0->bW={rp with ret:=V.2.2.2.2}):=⟨_,fun _=>Iff.rfl⟩
 suffices hu: ∃h',an P 66 [.ptr xb 0, .agg (c.c aK), .int .i64 done] h (.ay [.bool V.1, .int .i64 V.2.1]) h'/\Q h' by
  obtain⟨h',c1,hq⟩:=hu
  obtain⟨bW,hq⟩:=(hQ h').1 hq
  exact⟨h',bW,an.ao (by simp only[AV.bH,ZM];exact c1),hq⟩
 unfold i0 at hV
 refine ok.dI (rf:=jN) rfl (Nat.le_of_ble_eq_true rfl) ?_
 have e0:ai.set t (ai[t]'X.ht)=ai:=sB X.ht
 have lf: ∀{e:Nat} {H:aa},Old h H->e≠0->V=(true,e,(ai[t]'X.ht),ah,0)->Q H:=by
  intro e H o he hv
  refine(hQ _).2 ⟨rp,?_,fun _ h=>by rw[hv] at h;exact absurd h he⟩
  rw[hv]
  show fE h xb a lb N M t (ai.set t (ai[t]'X.ht)) ah rp H
  rw[e0]
  exact X.fin o
 simp+decide only[st,xv,jN,ad7,fi]
 generalize hY:aa.at _ _ _=Y
 have oY:Old h Y:=by rw[<-hY];exact(Old.refl h).at (Nat.le_refl _)
 have cY:cellsOf Y h.next=some (c.c aK):=by rw[<-hY];exact av (by simp[aa.at];try rfl)
 have nY:Y.next=h.next+1:=by rw[<-hY];simp[aa.at]
 simp only[fi] at cY
 have XY:=X.old oY
 simp+decide only[st,xv,jN,Q0,cY]
 refine au (t8 ok XY k.id (ok.cf _ rfl) (q:=fq (ai[t]'X.ht).ak) (fun o h' hl o'=>CO ok (XY.old o') (tl:=aK) hl)) ?_
 have dM:=mW (l:=(ai[t]'X.ht).ak) (id:=c.id) (kind:=2) (q:=fq (ai[t]'X.ht).ak) X.root
 generalize bC ah (ai[t]'X.ht).ak c.id 2 (fq (ai[t]'X.ht).ak)=R at*
 obtain⟨o,e⟩:=R
 simp only at hV dM
 simp+decide only[st,xv,jN,Q0,db,xr]
 generalize hZ:aa.set _ _ _=Z
 have oZ:Old Y Z:=by rw[<-hZ];exact((Old.refl Y).at (Nat.le_refl _)).set (Nat.le_refl _)
 have cZ:cellsOf Z Y.next=some (o.c aK):=by rw[<-hZ];exact av (by simp[aa.set];try rfl)
 have nZ:Z.next=Y.next+1:=by rw[<-hZ];simp[aa.at,aa.set]
 have l7:cellsOf Z h.next=_:=(show cellsOf Z h.next=cellsOf Y h.next by unfold cellsOf;rw[oZ.get _ (by omega)]).trans cY
 simp only[db] at cZ
 have hold:=oY.trans oZ
 by_cases he:e=0
 case neg=>
  rw[if_pos he] at hV
  have dN:((e:Int)=0)=False:=eq_false (by omega)
  rw[show V.1=true by rw[hV],show V.2.1=e by rw[hV]]
  simp+decide only[st,xv,jN,QZ,ad6,dN]
  exact⟨rfl,lf hold he hV⟩
 subst he
 rw[if_neg (fun h=>h rfl)] at hV
 obtain⟨c5,bc,_⟩:=dM rfl
 have XZ:=XY.old oZ
 simp+decide only[st,xv,jN,QZ,QY,l7]
 refine au (t8 ok XZ k.to (ok.cf _ rfl) (q:=fI (ai[t]'X.ht).ak) (fun o h' hl o'=>Mx ok (XZ.old o') (tl:=aK) hl)) ?_
 have JN:=mW (l:=(ai[t]'X.ht).ak) (id:=c.to) (kind:=2) (q:=fI (ai[t]'X.ht).ak) X.root
 generalize bC ah (ai[t]'X.ht).ak c.to 2 (fI (ai[t]'X.ht).ak)=R2 at*
 obtain⟨o2,e2⟩:=R2
 simp only at hV JN
 simp+decide only[st,xv,jN,QY,db,xr]
 generalize hW:aa.set _ _ _=W
 have oW:Old Z W:=by rw[<-hW];exact((Old.refl Z).at (Nat.le_refl _)).set (Nat.le_refl _)
 have cW:cellsOf W Z.next=some (o2.c aK):=by rw[<-hW];exact av (by simp[aa.set];try rfl)
 have nW:W.next=Z.next+1:=by rw[<-hW];simp[aa.at,aa.set]
 have AZ:cellsOf W h.next=_:=(show cellsOf W h.next=cellsOf Z h.next by unfold cellsOf;rw[oW.get _ (by omega)]).trans l7
 have KQ:cellsOf W Y.next=_:=(show cellsOf W Y.next=cellsOf Z Y.next by unfold cellsOf;rw[oW.get _ (by omega)]).trans cZ
 simp only[db] at cW
 have zy:=hold.trans oW
 by_cases tI:e2=0
 case neg=>
  rw[if_pos tI] at hV
  have dN:((e2:Int)=0)=False:=eq_false (by omega)
  rw[show V.1=true by rw[hV],show V.2.1=e2 by rw[hV]]
  simp+decide only[st,xv,jN,QX,ad5,dN]
  exact⟨rfl,lf zy tI hV⟩
 subst tI
 rw[if_neg (fun h=>h rfl)] at hV
 obtain⟨Tj,Tk,_⟩:=JN rfl
 have XW:=XZ.old oW
 have v:=XW.k.ks.val o c5
 have v2:=XW.k.ks.val o2 Tj
 have hd1:=sE v.may bc
 have vy:=sE v2.may Tk
 simp+decide only[st,xv,jN,QX,IV,AZ,KQ,cW,cr]
 refine au (GP ok) ?_
 by_cases aB:0<=c.n/\c.n<=min (o.data.length:Int) o2.data.length
 case neg=>
  rw[if_pos aB] at hV
  have e:(decide (0<=c.n)&&decide (c.n<=min (o.data.length:Int) o2.data.length))=false:=by rw[<-Bool.not_eq_true];simp only[Bool.and_eq_true,decide_eq_true_eq];exact aB
  rw[show V.1=true by rw[hV],show V.2.1=11 by rw[hV],e]
  simp+decide only[st,xv,jN,IV,ad4]
  exact⟨rfl,lf zy (by decide) hV⟩
 rw[if_neg (fun h=>h aB)] at hV
 have e:(decide (0<=c.n)&&decide (c.n<=min (o.data.length:Int) o2.data.length))=true:=by simp only[Bool.and_eq_true,decide_eq_true_eq];exact aB
 rw[e]
 obtain⟨n,hn⟩:=Int.eq_ofNat_of_zero_le aB.1
 unfold J9 at hV
 dsimp only at hV
 rw[hn,Int.toNat_natCast] at hV
 generalize hD:(max 0 (min done (n:Int))).toNat=d at*
 have gV:max 0 (min done (n:Int))=(d:Int):=by omega
 have Fo:d<=n:=by omega
 have UT:n<=o.data.length/\n<=o2.data.length:=by omega
 have w1:IntKind.wrap .i64 ((d:Int)+4)=(d:Int)+4:=bu (by omega) (by omega)
 have auC:min ((d:Int)+4) (n:Int)=((min (d+4) n:Nat):Int):=by omega
 generalize hE:min (d+4) n=en at*
 have lY:d<=en:=by omega
 have hen:en<=n:=by omega
 simp+decide only[st,xv,jN,IV,ad3,Z4,AZ,hn,gV,w1,auC]
 obtain⟨rt,hx⟩:=XW.x
 have cx:=av hx
 have ck:=av XW.k.top
 have lx:=XW.lx
 have lk:=XW.k.l1
 have l0:h.next<W.next:=by omega
 have l1:Y.next<W.next:=by omega
 have l2:Z.next<W.next:=by omega
 have k1:d<=en/\en<=o.data.length:=by omega
 have k2:dH 1 (BS o.data)=true:=oq
 have k3:List.take (en-d) (List.drop d (BS o.data))=BS ((o.data.take en).drop d):=by
  rw[vW,Zs,List.drop_take]
 refine bU 16 rfl rfl ?_
 simp+decide only[st,xv,jN,Z3,cx,ck,cW,AZ,KQ,lx,lk,l0,l1,l2,cr,k1,k2,k3]
 have XC:=XW.old ((Old.refl W).clean (n:=16))
 have lC:(W.clean 16).next=W.next+16:=rfl
 have oN:=L2 XC.k.ks Tj Tk
 have hlw:((o.data.take en).drop d).length=en-d:=by simp;omega
 obtain⟨h1,bq,S1,EY⟩:=XC.k.sp.write ok (id:=o2.id) (off:=d) (v:=(o.data.take en).drop d) (t:= .ao) oN (by omega)
 have Uw:=XW.k.sp.lt
 refine eX bq (Mf fun b ew b9=>EY.2 b (by omega) (by omega) (by omega)) ?_
 have X1:=XC.wr Tj Tk (by simp[xF];omega) EY S1
 have hU:XF h h1 a lb xb:=(XF.old (zy.trans ((Old.refl W).clean))).trans EY.kf.xf (.inl rfl)
 have mR:cellsOf h1 h.next=_:=(show cellsOf h1 h.next=cellsOf W h.next by
  have ns:=X.k.bt
  unfold cellsOf
  rw[EY.2 _ (by omega) (fun e=>by have:=ns _ (.inr (.inr (.inr (.inr (.inl e)))));omega) (fun e=>by have:=ns _ (.inr (.inr (.inr (.inr (.inr e)))));omega)]
  simp only[aa.clean]
  rw[if_pos l0]).trans AZ
 have l1n:h.next<h1.next:=by have:=EY.1;omega
 simp+decide only[st,xv]
 generalize hρ:put _ _ _=ρ1
 have r0:ρ1 0= .ptr xb 0:=by rw[<-hρ];rfl
 have r4:ρ1 4= .ptr h.next 0:=by rw[<-hρ];rfl
 have fc:ρ1 11= .int .i64 en:=by rw[<-hρ];rfl
 clear hρ
 obtain⟨rt1,pe⟩:=X1.x
 have AY:=av pe
 by_cases aC:en<n
 ·have mr:(en:Int)<(n:Int):=by omega
  rw[if_pos aC] at hV
  rw[show V.1=false by rw[hV],show V.2.1=0 by rw[hV]]
  obtain⟨ct,hle,_⟩:=X1.Ea
  have lx1:=X1.lx
  have Ux:=X1.k.l2
  have Ut: ¬h.next=a.tb:=by have:=X.k.l2;omega
  have Us: ¬xb=a.tb:=fun e=>X.dK (.inr e)
  have U4:=X.ht
  have kR: ∀{x x':Th} {j:Nat} {v:AV},(j+1<=12)->List.take j (x.c aS)++[v]++List.drop (j+1) (x.c aS)=x'.c aS->List.take (t*12+j) (aX aS (ai.set t x)).flatten++[v]++List.drop (t*12+j+1) (aX aS (ai.set t x)).flatten=(aX aS (ai.set t x')).flatten/\t*12+j+1<=(aX aS (ai.set t x)).flatten.length:=by
   intro x x' j v hj kS
   have:=vY (l:=ai.set t x) (t:=t) (by simpa using U4) (j:=j) (v:=[v]) (x':=x') hj (by simpa using kS)
   rw[List.set_set] at this
   refine⟨this,?_⟩
   rw[jg ma,iX,List.length_set];omega
  have s1:=kR (x:=ai[t]'X.ht) (x':={ai[t]'X.ht with dj:=2}) (j:=6) (v:= .int .i64 2) (by omega) (by simp[iE])
  rw[e0] at s1
  have s2:=kR (x:={ai[t]'X.ht with dj:=2}) (x':={ai[t]'X.ht with dj:=2,id:=c.id}) (j:=7) (v:= .int .u64 c.id) (by omega) (by simp[iE])
  have s3:=kR (x:={ai[t]'X.ht with dj:=2,id:=c.id}) (x':={ai[t]'X.ht with dj:=2,id:=c.id,to:=c.to}) (j:=8) (v:= .int .u64 c.to) (by omega) (by simp[iE])
  have s4:=kR (x:={ai[t]'X.ht with dj:=2,id:=c.id,to:=c.to}) (x':={ai[t]'X.ht with dj:=2,id:=c.id,to:=c.to,done:=en}) (j:=9) (v:= .int .i64 en) (by omega) (by simp[iE])
  have s5:=kR (x:={ai[t]'X.ht with dj:=2,id:=c.id,to:=c.to,done:=en}) (x':={ai[t]'X.ht with dj:=2,id:=c.id,to:=c.to,done:=en,n:=n}) (j:=10) (v:= .int .i64 n) (by omega) (by simp[iE])
  simp+decide only[st,xv,jN,MO,r4,fc,mR,hn,mr]
  refine YH (fun b=>b=a.tb) 42 rfl ?_
  have fz:=fun i=>cN (h:=h1) (n:=42) (m:=42) (base:=h1.next) (i:=i) (Nat.le_refl _)
  simp+decide only[st,xv,jN,Z0,ZZ,sw,r0,r4,fc,AY,ct,mR,lx1,Ux,l1n,Ut,Us,hn,s1,s2,s3,s4,s5,xr]
  have fs:=fun(x:Option cF) i=>(jv (x:=x) Ux).2 (fz i)
  have Kd:=X1.tv.ak _ (List.getElem_mem X1.ht)
  refine⟨fs _ _,WX rfl,fs _ _,Bi rfl,fs _ _,Bi rfl,fs _ _,Bi rfl,fs _ _,Bi rfl,rfl,(hQ _).2 ⟨rp,?_,fun h=>by rw[hV] at h;cases h⟩⟩
  rw[hV]
  exact⟨lb,N,M,(X1.old ((Old.refl h1).clean (n:=42))).mq (x:={ai[t]'X.ht with dj:=2,id:=c.id,to:=c.to,done:=en,n:=n}) Kd,(hU.trans (XF.old ((Old.refl h1).clean (n:=42))) (.inl rfl)).mq, .inl rfl,by omega,by omega⟩
 ·have mr: ¬(en:Int)<(n:Int):=by omega
  rw[if_neg aC] at hV
  rw[show V.1=true by rw[hV],show V.2.1=0 by rw[hV]]
  have wn:IntKind.wrap .u64 (n:Int)=n:=eQ (by omega)
  simp+decide only[st,xv,jN,MO,ZY,ZX,r0,r4,fc,AY,mR,hn,mr,wn,xr]
  refine⟨rfl,(hQ _).2 ⟨{rp with ret:=n},?_,fun _ _=>by rw[hV]⟩⟩
  rw[hV]
  show fE h xb a lb N M t (ai.set t (ai[t]'X.ht)) _ _ _
  rw[e0]
  exact⟨lb,N,M,X1.rB (bW:={rp with ret:=n}),hU.rA, .inl rfl,by omega,by omega⟩
end
section
open Go
variable {P:Program} {h:aa} {a:KA} {lb N M:Nat} {ai:List Th} {ah:List Ob} {g:Nat->Option (List UInt8)} {xb t:Nat} {rp:Rp}
theorem We {id:Nat} (hm:dw id=true) (h1:id≠1): ∃ps,fp id=ps++[fM id,id]/\(ps=[]->fM id=1)/\ ∀x∈fp id,x≠id->x<id:=by
 unfold dw at hm
 unfold fM kM fp
 cases hn:gu id with
 |none=>rw[hn] at hm;cases hm
 |some l=>
  obtain⟨e1,_⟩:=GK hn
  have hl:l≠[]:=by
   intro e;subst e
   simp at e1;exact h1 e1
  obtain⟨n,hlen⟩: ∃n,l.length=n+1:=⟨l.length-1,by have:=List.length_pos_iff.2 hl;omega⟩
  simp only[Option.getD_some,hlen]
  rw[if_neg (by omega)]
  refine⟨(List.range n).map fun j=>id/64^(n+1-j),?_,?_,?_⟩
  ·rw[List.range_succ,List.range_succ,List.map_append,List.map_append]
   simp
  ·intro e
   have e2:=congrArg List.length e
   simp at e2
   subst e2
   rw[hlen] at e1;simpa using e1
  ·intro x hx aM
   obtain⟨j,hj,rfl⟩:=List.mem_map.1 hx
   have jr:=List.mem_range.1 hj
   have iy:0<id:=by
    rcases Nat.eq_zero_or_pos id with h|h
    ·subst h;simp at e1
    ·exact h
   by_cases dU:j=n+1
   ·subst dU;simp at aM
   ·refine Nat.div_lt_self iy ?_
    have:1<=n+1-j:=by omega
    calc 1<64^1:=by decide
     _<=64^(n+1-j):=Nat.pow_le_pow_right (by decide) this
theorem F6 {l:Lb} {p:Nat}: ∀{ps:List Nat} {o:Ob},(eK ah l o (ps++[p])).2=0-> ∃o',eK ah l o ps=(o',0)/\o'.kind=1/\fq l o'.ak=true/\bg ah p=some (eK ah l o (ps++[p])).1
 |[],o,h=>by
  simp only[List.nil_append] at h ⊢
  unfold eK at h ⊢
  split at h
  ·cases h
  split at h
  ·cases h
  rename_i h1 h2
  rw[if_neg h1,if_neg h2]
  cases ho:bg ah p with
  |none=>rw[ho] at h;cases h
  |some o'=>exact⟨o,rfl,Classical.not_not.1 h1,by simpa using h2,rfl⟩
 |q::ps,o,h=>by
  rw[List.cons_append] at h ⊢
  rw[eK] at h ⊢
  rw[eK]
  split at h
  ·cases h
  split at h
  ·cases h
  rename_i h1 h2
  rw[if_neg h1,if_neg h2,if_neg h1,if_neg h2]
  cases ho:bg ah q with
  |none=>rw[ho] at h;cases h
  |some o'=>rw[ho] at h;exact F6 h
theorem Xq {l:Lb} {id:Nat} (hr: ∃r,bg ah 1=some r) (h1:id≠1) (h0:(dv ah l id).2=0):bg ah id=some (dv ah l id).1/\ ∃b,bg ah (fM id)=some b/\b.kind=1/\dw id=true:=by
 cases hm:dw id with
 |false=>unfold dv at h0;rw[F3 hm] at h0;cases h0
 |true=>
  obtain⟨ps,hp,tD,_⟩:=We hm h1
  obtain⟨qs,hq⟩:=F2 hm
  obtain⟨r,hr⟩:=hr
  unfold dv at h0 ⊢
  rw[hq] at h0 ⊢
  change(eK ah l ((bg ah 1).getD bf) qs).2=0 at h0
  change bg ah id=some (eK ah l ((bg ah 1).getD bf) qs).1/\_
  rw[hr,Option.getD_some] at h0 ⊢
  cases ps with
  |nil=>
   rw[hq] at hp
   have hn:=tD rfl
   rw[hn] at hp ⊢
   have UP:qs=[id]:=by simpa using hp
   subst UP
   obtain⟨o',e1,e2,_,e3⟩:=F6 (ps:=[]) (p:=id) h0
   unfold eK at e1
   cases e1
   exact⟨e3,r,hr,e2,rfl⟩
  |cons p ps=>
   rw[hq] at hp
   have UP:qs=ps++[fM id,id]:=by simpa using(List.cons.inj hp).2
   subst UP
   have e:ps++[fM id,id]=(ps++[fM id])++[id]:=by simp
   rw[e] at h0 ⊢
   obtain⟨o',e1,e2,_,e3⟩:=F6 h0
   have Vs:(eK ah l r (ps++[fM id])).2=0:=by rw[e1]
   obtain⟨o'',_,_,_,e4⟩:=F6 Vs
   rw[e1] at e4
   exact⟨e3,o',e4,e2,rfl⟩
theorem anB (ok:ax P tb) (X:KX h xb a lb N M t ai ah rp) {id:Nat} (h1:id≠1):
 ∃h',an P 104 [.ptr a.kb 0, .int .u64 id] h (.ay []) h'/\KX h' xb a lb N M t ai (p8 ah id) rp/\KF h h' a lb:=by
 obtain⟨h',c,K,kf⟩:=aqU ok X.k (id:=id)
 obtain⟨rt,hx⟩:=X.x
 refine⟨h',c,⟨K,⟨rt,by rw[kf.2 _ X.lx X.dK X.dA X.dS,hx]⟩,Nat.lt_of_lt_of_le X.lx kf.1,X.dK,X.dA,X.dS,X.ht,X.tv,?_⟩,kf⟩
 obtain⟨r,hr⟩:=X.root
 exact⟨r,by rw[FZ,if_neg (fun e=>h1 e.symm),hr]⟩
def uV (bK:Nat) (ah:List Ob) (id:Nat):List Ob:=if jR id bK then p8 ah id else ah
def Ec (bK:Nat) (ah:List Ob):List Ob:=ah.filter fun o=>!jR o.id bK
theorem XQ {bK:Nat}: ∀{l:List Nat} {ah:List Ob},l.foldl (uV bK) ah=ah.filter fun o=>!(l.any fun id=>o.id==id&&jR id bK)
 |[],ah=>(List.filter_eq_self.2 (fun _ _=>rfl)).symm
 |id::l,ah=>by
  rw[List.foldl_cons,XQ]
  unfold uV
  by_cases hw:jR id bK=true
  ·rw[if_pos hw]
   unfold p8
   rw[List.filter_filter]
   congr 1
   funext o
   simp[hw,Bool.and_comm]
  ·have hw':jR id bK=false:=by simpa using hw
   rw[if_neg hw]
   congr 1
   funext o
   simp[hw']
theorem akV {bK:Nat}:(ah.map (·.id)).foldl (uV bK) ah=Ec bK ah:=by
 rw[XQ]
 unfold Ec
 refine List.filter_congr fun o ho=>?_
 congr 1
 rw[Bool.eq_iff_iff]
 simp only[List.any_eq_true,List.mem_map,Bool.and_eq_true,beq_iff_eq]
 constructor
 ·rintro⟨x,_,e,hw⟩;rw[e];exact hw
 ·intro hw;exact⟨o.id,⟨o,ho,rfl⟩,rfl,hw⟩
theorem am1 {o:Ob} (v:jd o) (h1:o.kind=1) {c:Int}:jd (p6 o c):=by
 obtain⟨b1,b2,b3,b4,b5⟩:=uf v.may h1
 unfold p6
 split
 ·refine⟨⟨v.ok.ak,v.ok.id,v.ok.bV,v.ok.ring,v.ok.cat⟩,?_,?_⟩
  ·have hm:=v.may
   unfold fC m5 at hm ⊢
   rw[if_pos h1] at hm
   rw[if_pos (show({o with used:=max (o.used-c) 0}:Ob).kind=1 from h1)]
   unfold p7 at hm ⊢
   simp only[Bool.and_eq_true,decide_eq_true_eq] at hm ⊢
   refine⟨hm.1,⟨⟨⟨by omega,by omega⟩,by omega⟩,by omega⟩,by omega⟩
  ·have hn:=v.norm
   cases o with
   |mk J5 kind ak bh used next data bV ring st=>
    simp only at h1
    subst h1
    unfold iZ at hn ⊢
    simp only[if_true,Ob.mk.injEq] at hn ⊢
    exact⟨trivial,trivial,trivial,trivial,trivial,trivial,hn.2.2.2.2.2.2.1,hn.2.2.2.2.2.2.2.1,hn.2.2.2.2.2.2.2.2.1,hn.2.2.2.2.2.2.2.2.2⟩
 ·exact v
theorem L7 {o:Ob} {c:Int}:(p6 o c).id=o.id/\(p6 o c).kind=o.kind:=by unfold p6;split<;>exact⟨rfl,rfl⟩
theorem XR {o:Ob} (m:fC o=true) (hn:iZ o=o):(-(2^61)<=o.bh/\o.bh<=400)/\o.data.length<=64/\0<=o.bh:=by
 have hq:0<=o.bh/\o.bh<=400:=by
  by_cases h1:o.kind=1
  ·have:=uf m h1;omega
  ·rw[<-hn];unfold iZ
   rw[if_neg h1]
   split
   ·exact⟨Int.le_refl 0,(by decide:(0:Int)<=400)⟩
   split<;>exact⟨Int.le_refl 0,(by decide:(0:Int)<=400)⟩
 have hd:o.data.length<=64:=by
  by_cases h2:o.kind=2
  ·exact sE m h2
  ·rw[<-hn];unfold iZ
   split
   ·exact Nat.zero_le _
   split<;>exact Nat.zero_le _
 exact⟨⟨by omega,hq.2⟩,hd,hq.1⟩
def uq (l:Lb) (ah:List Ob) (c:Cl):Nat×List Ob:=if c.id=1 then(1,ah) else if(dv ah l c.id).2≠0 then((dv ah l c.id).2,ah) else if dG l ((bg ah (fM c.id)).getD bf).ak=false then(6,ah) else(0,dp (Ec c.id ah) (p6 ((bg ah (fM c.id)).getD bf) (cost (dv ah l c.id).1)))
theorem ajP {bK:Nat} (h1:bK≠1) {l:List Nat} {ah:List Ob} (hr: ∃r,bg ah 1=some r): ∀id∈l,jR id bK=true->id≠1:=by
 intro id _ hw e
 subst e
 unfold jR at hw
 have e:fp 1=[1]:=by decide
 rw[e] at hw
 have:=List.contains_iff_mem.1 hw
 exact h1 (List.mem_singleton.1 this)
theorem ahW (ok:ax P tb) (X:KX h xb a lb N M t ai ah rp) {c:Cl} {tl:Nat->aG} (k:fO c) (hN:N<2^19) (hM:M<128) (eE:ah.length<=12):
 ∃h',an P 62 [.ptr xb 0, .agg (c.c tl)] h (.int .i64 (uq (ai[t]'X.ht).ak ah c).1) h'/\fE h xb a lb N M t ai (uq (ai[t]'X.ht).ak ah c).2 rp h':=by
 obtain⟨V,hV⟩: ∃V,V=uq (ai[t]'X.ht).ak ah c:=⟨_,rfl⟩
 rw[<-hV]
 obtain⟨Q,hQ⟩: ∃Q:aa->Prop,∀h',Q h'↔fE h xb a lb N M t ai V.2 rp h':=⟨_,fun _=>Iff.rfl⟩
 suffices hu: ∃h',an P 62 [.ptr xb 0, .agg (c.c aK)] h (.int .i64 V.1) h'/\Q h' by
  obtain⟨h',c1,hq⟩:=hu
  exact⟨h',qN c1,(hQ h').1 hq⟩
 unfold uq at hV
 refine ok.dI (rf:=iJ) rfl (Nat.le_of_ble_eq_true rfl) ?_
 have lf: ∀{e:Nat} {H:aa},Old h H->V=(e,ah)->Q H:=by
  intro e H o hv
  refine(hQ _).2 ?_
  rw[hv]
  exact X.fin o
 simp+decide only[st,xv,iJ,aeo,fi]
 generalize hY:aa.at _ _ _=Y
 have oY:Old h Y:=by rw[<-hY];exact(Old.refl h).at (Nat.le_refl _)
 have cY:cellsOf Y h.next=some (c.c aK):=by rw[<-hY];exact av (by simp[aa.at];try rfl)
 have nY:Y.next=h.next+1:=by rw[<-hY];simp[aa.at]
 simp only[fi] at cY
 have XY:=X.old oY
 by_cases h1:c.id=1
 ·have e1:((c.id:Int)=1)=True:=eq_true (by omega)
  rw[if_pos h1] at hV
  rw[show V.1=1 by rw[hV]]
  simp+decide only[st,xv,iJ,Rh,aen,cY,e1]
  exact⟨rfl,lf oY hV⟩
 have e1:((c.id:Int)=1)=False:=eq_false (by omega)
 rw[if_neg h1] at hV
 simp+decide only[st,xv,iJ,Rh,Rg,cY,e1]
 refine au (Lf ok XY k.id) ?_
 have dM:=LD (l:=(ai[t]'X.ht).ak) (id:=c.id) X.root
 have Kt:=Xq (l:=(ai[t]'X.ht).ak) X.root h1
 generalize dv ah (ai[t]'X.ht).ak c.id=R at*
 obtain⟨o,e⟩:=R
 simp only at hV dM Kt
 simp+decide only[st,xv,iJ,Rg,db,xr]
 generalize hZ:aa.set _ _ _=Z
 have oZ:Old Y Z:=by rw[<-hZ];exact((Old.refl Y).at (Nat.le_refl _)).set (Nat.le_refl _)
 have cZ:cellsOf Z Y.next=some (o.c aK):=by rw[<-hZ];exact av (by simp[aa.set];try rfl)
 have nZ:Z.next=Y.next+1:=by rw[<-hZ];simp[aa.at,aa.set]
 have l7:cellsOf Z h.next=_:=(show cellsOf Z h.next=cellsOf Y h.next by unfold cellsOf;rw[oZ.get _ (by omega)]).trans cY
 simp only[db] at cZ
 have hold:=oY.trans oZ
 by_cases he:e=0
 case neg=>
  rw[if_pos he] at hV
  have dN:((e:Int)=0)=False:=eq_false (by omega)
  rw[show V.1=e by rw[hV]]
  simp+decide only[st,xv,iJ,Rf,aem,dN]
  exact⟨rfl,lf hold hV⟩
 subst he
 rw[if_neg (fun h=>h rfl)] at hV
 have c5:=dM rfl
 obtain⟨_,b,hb,ew,mG⟩:=Kt rfl
 rw[hb,Option.getD_some] at hV
 have XZ:=XY.old oZ
 have v:=XZ.k.ks.val o c5
 have pn:=lg hb
 have vb:=XZ.k.ks.val b pn.1
 obtain⟨rt,hx⟩:=XZ.x
 have cx:=av hx
 have lx:=XZ.lx
 have lk:=XZ.k.l1
 have l0:h.next<Z.next:=by omega
 simp+decide only[st,xv,iJ,Rf]
 refine qO 7 14 rfl (by omega) rfl ?_
 simp+decide only[st,xv,iJ,ael,cx,l7,lx,l0]
 refine gX (ahF ok k.id) (cN (Nat.le_refl _)) ?_
 have a9:=fun H (o:Old Z H)=>JH ok (XZ.old o).k (id:=fM c.id)
 rw[hb] at a9
 simp+decide only[st,xv,cx,lx]
 refine eX (a9 _ ((Old.refl Z).clean)) (cN (Nat.le_refl _)) ?_
 simp+decide only[st,xv,db,xr]
 refine⟨fun j hj hn=>?_,?_⟩
 ·simp only[aa.set,aa.at,aa.clean]
  rw[if_neg (by omega),if_neg (by omega)]
  exact if_neg (by omega)
 generalize hW:aa.set _ _ _=W
 have oW:Old Z W:=by rw[<-hW];exact((Old.refl Z).clean.at (by omega)).set (by omega)
 have cW:cellsOf W (Z.next+11)=some (b.c aK):=by rw[<-hW];exact av (by simp[aa.set];rfl)
 have nW:W.next=Z.next+14:=by rw[<-hW];simp[aa.set,aa.at,aa.clean]
 have AZ:cellsOf W h.next=_:=(show cellsOf W h.next=cellsOf Z h.next by unfold cellsOf;rw[oW.get _ (by omega)]).trans l7
 have KQ:cellsOf W Y.next=_:=(show cellsOf W Y.next=cellsOf Z Y.next by unfold cellsOf;rw[oW.get _ (by omega)]).trans cZ
 have XW:=XZ.old oW
 have zy:=hold.trans oW
 simp only[db] at cW
 generalize hρ:put _ _ _=ρ1
 have r0:ρ1 0= .ptr xb 0:=by rw[<-hρ];rfl
 have r3:ρ1 3= .ptr h.next 0:=by rw[<-hρ];rfl
 have r5:ρ1 5= .ptr Y.next 0:=by rw[<-hρ];rfl
 have r7:ρ1 7= .ptr (Z.next+11) 0:=by rw[<-hρ];rfl
 clear hρ
 simp+decide only[st,xv,iJ,IX,r0,r7,cW]
 refine au (Ii ok XW (o:=b) (tl:=aK) vb.ok.ak) ?_
 cases hbo:dG (ai[t]'X.ht).ak b.ak with
 |false=>
  rw[if_pos hbo] at hV
  rw[show V.1=6 by rw[hV]]
  simp+decide only[st,xv,iJ,IX,aek]
  exact⟨rfl,lf zy hV⟩
 |true=>
  rw[if_neg (by simp[hbo])] at hV
  obtain⟨JY,ny⟩:=XW.x
  have nR:=av ny
  have ck2:=av XW.k.top
  obtain⟨f,A,Rr⟩:=XW.k.ar
  have aM:ah≠[]:=fun e=>by rw[e] at c5;cases c5
  obtain⟨i1,i2,i3⟩:=XW.k.ks.ids aM Rr
  simp+decide only[st,xv,iJ,IX,Re,r0,nR,ck2]
  refine au (A.ids ok i1 i2 i3 (by simpa using eE)) ?_
  simp+decide only[st,xv,iJ,Re,ey.aR,List.length_map]
  have auu: ∀x∈ah.map (·.id),x<2^64:=fun x hx=>by
   obtain⟨o',ej,rfl⟩:=List.mem_map.1 hx
   exact(XW.k.ks.val o' ej).ok.id
  have Tq:=akV (bK:=c.id) (ah:=ah)
  have hlen:(ah.map (·.id)).length=ah.length:=by simp
  generalize ah.map (·.id)=l at*
  let I:Nat->Env->aa->Prop:=fun n ρ H=> ∃i,l.length=i+n/\KX H xb a lb N M t ai ((l.take i).foldl (uV c.id) ah) rp/\XF h H a lb xb/\cellsOf H h.next=cellsOf Y h.next/\cellsOf H Y.next=cellsOf Z Y.next/\cellsOf H (Z.next+11)=cellsOf W (Z.next+11)/\W.next<=H.next/\ρ 0= .ptr xb 0/\ρ 3= .ptr h.next 0/\ρ 5= .ptr Y.next 0/\ρ 7= .ptr (Z.next+11) 0/\ρ 46= .vs ((aH .u64).R l) .ao/\ρ 47= .int .i64 l.length/\ρ 48= .int .i64 i
  have eo:l.length<2^20:=by omega
  have bt:=X.k.bt
  refine dO I ?_ l.length ⟨0,by omega,XW,XF.old zy,by rw[AZ,cY],by rw[KQ,cZ],rfl,Nat.le_refl _,r0,r3,r5,r7,rfl,by rw[hlen];rfl,rfl⟩
  rintro n ρ H ⟨i,aB,KI,xf,d0,d1,d2,hWn,r0,r3,r5,r7,Uj,J1,J0⟩
  rw[cY] at d0
  rw[cZ] at d1
  rw[cW] at d2
  by_cases hi:i<l.length
  ·have aA:(i:Int)<(l.length:Int):=by omega
   have hw:=dF (show i<2^61 by omega)
   have g1:((aH .u64).R l)[i]? =some [.int .u64 l[i]]:=(aH .u64).gL hi
   have nz:l.take (i+1)=l.take i++[l[i]]:=(List.take_append_getElem hi).symm
   simp+decide only[st,xv,iJ,MT,Z9,G9,r3,Uj,J1,J0,aA,g1,d0]
   refine au (ahE ok (auu _ (List.getElem_mem hi))) ?_
   cases lT:jR l[i] c.id with
   |false=>
    simp+decide only[st,xv,iJ,G9,MP,J0,hw]
    refine⟨n-1,by omega,i+1,by omega,?_,xf,by rw[d0,cY],by rw[d1,cZ],by rw[d2,cW],hWn,r0,r3,r5,r7,Uj,J1,rfl⟩
    rw[nz,List.foldl_append]
    show KX H xb a lb N M t ai (uV c.id _ l[i]) rp
    unfold uV
    rw[if_neg (by simp[lT])]
    exact KI
   |true=>
    have pf:=ajP h1 (l:=l) X.root _ (List.getElem_mem hi) lT
    obtain⟨rt3,E3⟩:=KI.x
    have AX:=av E3
    obtain⟨H1,bq,K1,hU⟩:=anB ok KI pf
    simp+decide only[st,xv,iJ,G9,MQ,r0,AX]
    refine au bq ?_
    simp+decide only[st,xv,iJ,MQ,MP,J0,hw]
    have same: ∀b,h.next<=b->b<W.next->H1.get b=H.get b:=fun b ew b9=>hU.2 b (by omega) (fun e=>by have:=bt b (.inl e);omega) (fun e=>by have:=bt b (.inr (.inl e));omega) (fun e=>by have:=bt b (.inr (.inr e));omega)
    have sc: ∀b,h.next<=b->b<W.next->cellsOf H1 b=cellsOf H b:=fun b ew b9=>by unfold cellsOf;rw[same b ew b9]
    refine⟨n-1,by omega,i+1,by omega,?_,xf.trans hU.xf (.inl rfl),by rw[sc _ (by omega) (by omega),d0,cY],by rw[sc _ (by omega) (by omega),d1,cZ],by rw[sc _ (by omega) (by omega),d2,cW],by have:=hU.1;omega,r0,r3,r5,r7,Uj,J1,rfl⟩
    rw[nz,List.foldl_append]
    show KX H1 xb a lb N M t ai (uV c.id _ l[i]) rp
    unfold uV
    rw[if_pos lT]
    exact K1
  ·have aA: ¬(i:Int)<(l.length:Int):=by omega
   rw[List.take_of_length_le (by omega),Tq] at KI
   obtain⟨rt3,E3⟩:=KI.x
   have AX:=av E3
   have J7:=KI.lx
   have l3a:h.next<H.next:=by omega
   have l3b:Y.next<H.next:=by omega
   have l3c:Z.next+11<H.next:=by omega
   simp+decide only[st,xv,iJ,MT,J1,J0,aA]
   refine qO 8 9 rfl (by omega) rfl ?_
   simp+decide only[st,xv,iJ,Z8,r0,r5,r7,AX,d1,d2,J7,l3a,l3b,l3c]
   have vq:=ub v.may
   have Ip:cost o<2^60/\ -(2^61)<=o.bh/\o.bh<2^61/\o.data.length<2^30:=by
    have hv:=XR v.may v.norm
    refine⟨?_,by omega,by omega,by omega⟩
    unfold cost
    split<;>omega
   refine gX (W9 ok (o:=o) (t:=aK) ⟨Ip.2.1,Ip.2.2.1⟩ Ip.2.2.2) (cN (Nat.le_refl _)) ?_
   simp+decide only[st,xv,r0,r5,r7,AX,d1,d2,J7,l3a,l3b,l3c]
   have kW:=uf vb.may ew
   refine gX (akK ok (o:=b) (t:=aK) (c:=cost o) (by omega) Ip.1) (cN (Nat.le_refl _)) ?_
   have KC:=KI.old ((Old.refl H).clean (n:=9))
   have jK:=L7 (o:=b) (c:=cost o)
   obtain⟨c7,bq,dB,X1,eo,hU⟩:=CN ok KC (o:=p6 b (cost o)) (tl:=aK) (am1 vb ew) (fun o' ej=>by
    have hm:=lg ej
    have hmo:=(List.mem_filter.1 hm.1).1
    have qp:=lj XW.k.ks.bY hmo
    have e1:o'.id=b.id:=by rw[hm.2,jK.1]
    rw[e1,pn.2,hb] at qp
    have:=(Option.some.inj qp).symm
    subst this
    exact⟨by omega,by rw[jK.2];omega⟩) hN hM
   simp+decide only[st,xv]
   refine eX bq (hU.free KI.k.bt) ?_
   simp+decide only[st,xv,iJ,Z7]
   rw[show V.1=0 by rw[hV]]
   refine⟨rfl,(hQ _).2 ?_⟩
   rw[hV]
   have lC:(H.clean 9).next=H.next+9:=rfl
   refine⟨dB,N+1,_,X1,(xf.trans (XF.old ((Old.refl H).clean)) (.inl rfl)).trans hU.xf (.inl rfl),?_,by omega,by split<;>omega⟩
   rcases eo with h|h
   ·exact .inl h
   ·exact .inr (by omega)
end
section
open Go
variable {P:Program} {h:aa} {a:KA} {lb N M:Nat} {ai:List Th} {ah:List Ob} {g:Nat->Option (List UInt8)} {xb t:Nat} {rp:Rp}
def d9 (c:Cl) (id:Nat):Ob:={bf with id:=id,kind:=c.kind,ak:=c.ak,bh:=if c.kind=1 then c.n else 0,next:=if c.kind=1 then 1 else 0,data:=if c.kind=2 then c.data else [],bV:=if c.kind=3 then c.bV else []}
theorem aje (ok:ax P tb) {c:Cl} {id:Nat} {tl:Nat->aG} (k:fO c):an P 96 [.agg (c.c tl), .int .u64 id] h (.agg ((d9 c id).c aK)) h:=by
 suffices hu:an P 96 [.agg (c.c aK), .int .u64 id] h (.agg ((d9 c id).c aK)) h from an.ao (by simp only[AV.bH,AV.strip,yM];exact hu)
 refine ok.eW (rf:=mM) rfl (Nat.le_of_ble_eq_true rfl) (by simp only[AV.bD,um]) ?_
 have hl:=k.Ig
 have hd:=k.data
 have hc:=k.bV
 simp+decide only[st,xv,mM,acV,fi]
 generalize hX:aa.at _ _ _=X
 have xo:Old h X:=by rw[<-hX];exact((Old.refl h).at (Nat.le_refl _)).at (by omega)
 have x0:cellsOf X h.next=some (c.c aK):=by rw[<-hX];exact av (by simp[aa.at];rfl)
 have x1:cellsOf X (h.next+1)=some (bf.c qi):=by rw[<-hX];exact av (by simp[aa.at];rfl)
 have xn:X.next=h.next+2:=by rw[<-hX];simp[aa.at]
 simp only[fi] at x0
 simp only[xK] at x1
 have n0:h.next<X.next:=by omega
 have n1:h.next+1<X.next:=by omega
 refine qO 6 9 rfl (by omega) rfl ?_
 simp+decide only[st,xv,mM,acU,x0,x1,n0,n1]
 refine gX (Gd ok (l:=c.ak) (t:= .ao) (by omega)) (cN (Nat.le_refl _)) ?_
 simp+decide only[st,xv,x0,x1,n0,n1,Lb.c]
 refine⟨fun j hj hn=>?_,?_⟩
 ·simp only[aa.set,aa.at,aa.clean]
  rw[if_neg (by omega),if_neg (by omega)]
  exact if_neg (by omega)
 generalize hW:aa.set _ _ _=W
 have oW:Old X W:=by rw[<-hW];exact((Old.refl X).clean.at (by omega)).set (by omega)
 have cW:cellsOf W (X.next+7)=some (Ob.c {bf with id:=id,kind:=c.kind,ak:=c.ak} (gg .ao .full .full .full)):=by rw[<-hW];exact av (by simp[aa.set];rfl)
 have nW:W.next=X.next+9:=by rw[<-hW];simp[aa.set,aa.at,aa.clean]
 have c0:cellsOf W h.next=_:=(show cellsOf W h.next=cellsOf X h.next by unfold cellsOf;rw[oW.get _ (by omega)]).trans x0
 have c1:cellsOf W (h.next+1)=_:=(show cellsOf W (h.next+1)=cellsOf X (h.next+1) by unfold cellsOf;rw[oW.get _ (by omega)]).trans x1
 have hold:=xo.trans oW
 rw[xn] at cW nW
 generalize hρ:put _ _ _=ρ1
 have r1:ρ1 1= .int .u64 id:=by rw[<-hρ];rfl
 have r2:ρ1 2= .ptr h.next 0:=by rw[<-hρ];rfl
 have r4:ρ1 4= .ptr (h.next+1) 0:=by rw[<-hρ];rfl
 have r5:ρ1 5= .ptr (h.next+9) 0:=by rw[<-hρ];simp[put,xn];try rfl
 have q0:h.next<W.next:=by omega
 obtain⟨V,hV⟩: ∃V,V=d9 c id:=⟨_,rfl⟩
 rw[<-hV]
 unfold d9 at hV
 have FN:cellsOf W (h.next+1)=some (bf.c qi):=c1
 clear c1
 have fin: ∀(ρ':Env) (H:aa) (t':Nat->aG),ρ' 4= .ptr (h.next+1) 0->ρ' 5= .ptr (h.next+9) 0->cellsOf H (h.next+9)=some (V.c t')->cellsOf H (h.next+1)=some (bf.c qi)->Old h H->exec P PR ρ' H (jj (WP P aZ.ret (uB [fN.cell 4 true 13] (AV.agg (V.c aK)) h)) (uB [fN.cell 4 true 13] (AV.agg (V.c aK)) h) aQ.normal):=by
  intro ρ' H t' r4 r5 cc cd o
  simp only[Ob.c] at cc cd
  simp+decide only[st,xv,mM,PR,r4,r5,cc,cd,bG]
  refine⟨?_,(o.set (by omega)).get⟩
  exact Mt (o:=V) (t:=t')
 simp only[Ob.c] at cW
 have hs: ∀(b:Option cF),cellsOf (W.set (h.next+9) b) (h.next+1)=some (bf.c qi):=fun b=>by unfold cellsOf;simp only[aa.set];rw[if_neg (by omega)];exact FN
 simp+decide only[st,xv,mM,acT,c0,r1,r2]
 by_cases h1:c.kind=1
 ·have e1:(c.kind=1)=True:=eq_true h1
  simp+decide only[st,xv,mM,C3,acS,c0,r1,r2,r4,r5,cW,e1]
  refine fin _ _ (gg .ao .full .full .full) r4 r5 (av ?_) ?_ ((hold.set (by omega)).set (by omega))
  ·simp only[aa.set]
   rw[if_pos trivial,hV]
   simp only[Ob.c,h1,if_true]
   rfl
  ·unfold cellsOf;simp only[aa.set];rw[if_neg (by omega),if_neg (by omega)];exact FN
 have e1:(c.kind=1)=False:=eq_false h1
 by_cases h2:c.kind=2
 ·have e2:(c.kind=2)=True:=eq_true h2
  simp+decide only[st,xv,mM,C3,IC,PU,c0,r1,r2,r4,r5,cW,e1,e2]
  refine au (ME iB ok rfl (l:=c.data) (by omega) (by omega)) ?_
  simp+decide only[st,xv,mM,PU,c0,r1,r2,r4,r5,cW]
  refine fin _ _ (gg .ao .ao .full .full) r4 r5 (av ?_) (hs _) (hold.set (by omega))
  simp only[aa.set]
  rw[if_pos trivial,hV]
  simp only[Ob.c,h2,if_true]
  rfl
 have e2:(c.kind=2)=False:=eq_false h2
 by_cases h3:c.kind=3
 ·have e3:(c.kind=3)=True:=eq_true h3
  simp+decide only[st,xv,mM,C3,IC,PT,PS,c0,r1,r2,r4,r5,cW,e1,e2,e3]
  refine au (ME (aH .u16) ok rfl (l:=c.bV) (by omega) (by omega)) ?_
  simp+decide only[st,xv,mM,PS,c0,r1,r2,r4,r5,cW]
  refine fin _ _ (gg .ao .full .ao .full) r4 r5 (av ?_) (hs _) (hold.set (by omega))
  simp only[aa.set]
  rw[if_pos trivial,hV]
  simp only[Ob.c,h3,if_true]
  rfl
 have e3:(c.kind=3)=False:=eq_false h3
 simp+decide only[st,xv,mM,C3,IC,PT,c0,r1,r2,r4,r5,cW,e1,e2,e3]
 refine fin _ _ (gg .ao .full .full .full) r4 r5 ?_ FN hold
 rw[cW,hV]
 simp only[Ob.c,h1,h2,h3,if_false]
 rfl
end
section
open Go
variable {P:Program} {h:aa} {a:KA} {lb N M:Nat} {ai:List Th} {ah:List Ob} {g:Nat->Option (List UInt8)} {xb t:Nat} {rp:Rp}
theorem Gu: ∀{k id j:Nat} {l:List Nat},gf k id=some l->l.length<=j->gf j id=some l
 |0,id,j,l,h,hj=>by
  simp only[gf] at h
  split at h
  ·rename_i e;subst e;cases h;exact LQ
  ·cases h
 |k+1,id,j,l,h,hj=>by
  simp only[gf] at h
  split at h
  ·rename_i e;subst e;cases h;exact LQ
  ·split at h
   ·rename_i h1 h2
    obtain⟨m,hm,rfl⟩:=Option.map_eq_some_iff.1 h
    obtain⟨j',rfl⟩: ∃j',j=j'+1:=⟨j-1,by simp at hj;omega⟩
    simp only[List.length_cons] at hj
    simp only[gf]
    rw[if_neg h1,if_pos h2,Gu hm (by omega)]
    rfl
   ·cases h
theorem Mu {b:Nat} {n:Int} (h0:(dR b n).2=0): ∃k:Nat,n=k/\1<=k/\k<=63/\dw b=true/\(dR b n).1=b*64+k/\dw (b*64+k)=true/\fM (b*64+k)=b/\(b*64+k)<2^40/\1<=b:=by
 unfold dR at h0 ⊢
 split at h0
 ·cases h0
 rename_i h1
 split at h0
 ·cases h0
 rename_i h2
 rw[if_neg h1,if_neg h2]
 have hm:dw b=true:=by
  cases h:dw b with
  |true=>rfl
  |false=>exact absurd (.inl h) h1
 obtain⟨k,hk⟩:=Int.eq_ofNat_of_zero_le (show 0<=n by omega)
 subst hk
 unfold dw at hm
 cases hn:gu b with
 |none=>rw[hn] at hm;cases hm
 |some l=>
  unfold kM at h2
  rw[hn] at h2
  simp only[Option.getD_some] at h2
  have hl:=vQ hn
  have UZ:l.length<=5:=by omega
  have h5:=Gu hn UZ
  have aC:=L8 hn
  have hp:2^(1+6*l.length)<=2^31:=Nat.pow_le_pow_right (by decide) (by omega)
  have ew:1<=b:=by
   rcases Nat.eq_zero_or_pos b with e|e
   ·subst e
    unfold gu at hn
    simp[gf] at hn
   ·exact e
  have hn6:gu (b*64+k)=some (k::l):=by
   unfold gu
   show gf (5+1) _=_
   rw[gf]
   rw[if_neg (by omega),if_pos (by omega),show(b*64+k)/64=b by omega,show(b*64+k)%64=k by omega,h5]
   rfl
  refine⟨k,rfl,by omega,by omega,by unfold dw;rw[hn];rfl,by simp,by unfold dw;rw[hn6];rfl,?_,by omega,ew⟩
  unfold fM kM
  rw[hn6,if_neg (by simp)]
  omega
theorem am4 {o:Ob} (v:jd o) (h1:o.kind=1) {c:Int} (hc:0<=c) (hq:c<=o.bh-o.used) (hn:o.next<=63):jd {o with used:=o.used+c,next:=o.next+1}:=by
 obtain⟨b1,b2,b3,b4,b5⟩:=uf v.may h1
 refine⟨⟨v.ok.ak,v.ok.id,v.ok.bV,v.ok.ring,v.ok.cat⟩,?_,?_⟩
 ·have hm:=v.may
  unfold fC m5 at hm ⊢
  rw[if_pos h1] at hm
  rw[if_pos (show({o with used:=o.used+c,next:=o.next+1}:Ob).kind=1 from h1)]
  unfold p7 at hm ⊢
  simp only[Bool.and_eq_true,decide_eq_true_eq] at hm ⊢
  refine⟨hm.1,⟨⟨⟨by omega,by omega⟩,by omega⟩,by omega⟩,by omega⟩
 ·have hn:=v.norm
  cases o with
  |mk J5 kind ak bh used next data bV ring st=>
   simp only at h1
   subst h1
   unfold iZ at hn ⊢
   simp only[if_true,Ob.mk.injEq] at hn ⊢
   exact⟨trivial,trivial,trivial,trivial,trivial,trivial,hn.2.2.2.2.2.2.1,hn.2.2.2.2.2.2.2.1,hn.2.2.2.2.2.2.2.2.1,hn.2.2.2.2.2.2.2.2.2⟩
theorem anC {c:Cl} (k:fO c) {id:Nat} {l:Lb} (aJ:id<2^64) (hn:dw id=true) (hl:ei c.ak=true) (hm:pP l c.ak=0) (hf:kK l c=0) (hc:jZ c.bV=true) (hk:1<=c.kind/\c.kind<=4):jd (d9 c id):=by
 have hs:(dW c.ak.ps).length=0:=by
  unfold pP at hm
  split at hm
  ·cases hm
  split at hm
  ·cases hm
  omega
 have rZ:=k.bV
 have eP:((if c.kind=3 then c.bV else []):List Nat).length<=c.bV.length:=by split<;>simp
 refine⟨⟨k.ak,aJ,by simp only[d9];omega,by simp[d9,bf],?_⟩,?_,?_⟩
 ·simp only[d9]
  intro x hx
  split at hx
  ·exact k.cat x hx
  ·cases hx
 ·unfold fC m5 p7 d9
  simp only[hn,hl,hs,Bool.true_and,beq_self_eq_true,Bool.and_true]
  unfold kK at hf
  by_cases h1:c.kind=1
  ·rw[if_pos h1]
   have:0<=c.n/\c.n<=400:=by
    by_cases hh:0<=c.n/\c.n<=400
    ·exact hh
    ·rw[if_pos ⟨h1,hh⟩] at hf;cases hf
   simp only[h1,if_true,bf]
   simp[this.1,this.2]
  rw[if_neg h1]
  rw[if_neg (fun hh=>h1 hh.1)] at hf
  by_cases h2:c.kind=2
  ·rw[if_pos h2]
   simp only[h2,if_true,decide_eq_true_eq]
   split at hf
   ·cases hf
   ·rename_i hh
    have: ¬64<c.data.length:=fun e=>hh ⟨h2,e⟩
    omega
  rw[if_neg h2]
  by_cases h3:c.kind=3
  ·rw[if_pos h3];simp only[h3,if_true];exact hc
  rw[if_neg h3,if_pos (by omega)]
  rfl
 ·unfold iZ d9
  by_cases h1:c.kind=1
  ·simp only[h1,if_true]
   simp[bf]
  by_cases h2:c.kind=2
  ·simp[h2,bf]
  by_cases h3:c.kind=3
  ·simp[h3,bf]
  ·simp[h1,h2,h3,bf]
def Tree (ah:List Ob):Prop:= ∀o∈ah,o.id≠1-> ∃b∈ah,b.id=fM o.id/\b.kind=1/\((o.id%64:Nat):Int)<b.next
theorem XU {b:Ob} (k:KS ah) (T:Tree ah) (hb:b∈ah) (h0:(dR b.id b.next).2=0):bg ah (dR b.id b.next).1=none:=by
 obtain⟨n,e1,e2,e3,e4,e5,e6,e7,e8,e9⟩:=Mu h0
 rw[e5]
 cases ho:bg ah (b.id*64+n) with
 |none=>rfl
 |some o=>
  obtain⟨hm,hi⟩:=lg ho
  obtain⟨b',bE,h1,h2,h3⟩:=T o hm (by omega)
  rw[hi,e7] at h1
  rw[hi] at h3
  have:=lj k.bY hb
  have h4:=lj k.bY bE
  rw[h1,this] at h4
  cases h4
  omega
end
section
open Go
variable {P:Program} {h:aa} {a:KA} {lb N M:Nat} {ai:List Th} {ah:List Ob} {g:Nat->Option (List UInt8)} {xb t:Nat} {rp:Rp}
def GQ (l:Lb) (ah:List Ob) (c:Cl) (box:Ob):Nat×Nat×List Ob:=
 if pP l c.ak≠0 then(pP l c.ak,0,ah) else if kK l c≠0 then(kK l c,0,ah) else if 63<box.next then(9,0,ah) else if(dR box.id box.next).2≠0 then((dR box.id box.next).2,0,ah) else if(jm box (cost (d9 c (dR box.id box.next).1))).2≠0 then((jm box (cost (d9 c (dR box.id box.next).1))).2,0,ah) else(0,(dR box.id box.next).1,dp (dp ah {(jm box (cost (d9 c (dR box.id box.next).1))).1 with next:=box.next+1}) (d9 c (dR box.id box.next).1))
def du (l:Lb) (ah:List Ob) (c:Cl):Nat×Nat×List Ob:=
 if c.kind<1\/4<c.kind then(8,0,ah) else if(bC ah l c.id 1 (dG l)).2≠0 then((bC ah l c.id 1 (dG l)).2,0,ah) else GQ l ah c (bC ah l c.id 1 (dG l)).1
theorem ahU (ok:ax P tb) (X:KX h xb a lb N M t ai ah rp) {c:Cl} {tl:Nat->aG} (k:fO c) (T:Tree ah) (hl:ei c.ak=true) (Ks:jZ c.bV=true) (hN:N+1<2^19) (hM:M<128):
 ∃h' bW,an P 59 [.ptr xb 0, .agg (c.c tl)] h (.int .i64 (du (ai[t]'X.ht).ak ah c).1) h'/\fE h xb a lb N M t ai (du (ai[t]'X.ht).ak ah c).2.2 bW h'/\((du (ai[t]'X.ht).ak ah c).1=0->bW={rp with ret:=(du (ai[t]'X.ht).ak ah c).2.1}):=by
 obtain⟨V,hV⟩: ∃V,V=du (ai[t]'X.ht).ak ah c:=⟨_,rfl⟩
 rw[<-hV]
 obtain⟨Q,hQ⟩: ∃Q:aa->Prop,∀h',Q h'↔ ∃bW,fE h xb a lb N M t ai V.2.2 bW h'/\(V.1=0->bW={rp with ret:=V.2.1}):=⟨_,fun _=>Iff.rfl⟩
 suffices hu: ∃h',an P 59 [.ptr xb 0, .agg (c.c aK)] h (.int .i64 V.1) h'/\Q h' by
  obtain⟨h',c1,hq⟩:=hu
  obtain⟨bW,hq⟩:=(hQ h').1 hq
  exact⟨h',bW,qN c1,hq⟩
 unfold du at hV
 refine ok.dI (rf:=fF) rfl (Nat.le_of_ble_eq_true rfl) ?_
 have lf: ∀{e:Nat} {H:aa},e≠0->Old h H->V=(e,0,ah)->Q H:=by
  intro e H he o hv
  refine(hQ _).2 ⟨rp,?_⟩
  rw[hv]
  exact⟨X.fin o,fun h=>absurd h he⟩
 simp+decide only[st,xv,fF,aew,fi]
 generalize hY:aa.at _ _ _=Y
 have oY:Old h Y:=by rw[<-hY];exact(Old.refl h).at (Nat.le_refl _)
 have cY:cellsOf Y h.next=some (c.c aK):=by rw[<-hY];exact av (by simp[aa.at];try rfl)
 have nY:Y.next=h.next+1:=by rw[<-hY];simp[aa.at]
 simp only[fi] at cY
 refine Lx (HW ?_)
 generalize hK:qm _ _=K1
 have kr: ∀(ρ:Env) (H:aa),ρ 4= .int .i64 V.1->Q H->K1 .ret ρ H:=by
  intro ρ H r4 hq
  rw[<-hK]
  exact⟨by show Option.map fl (dQ ρ H [fN.tmp 4])=_;simp[dQ,yU,fl,r4],hq⟩
 have kg: ∀(ρ:Env) (H:aa),ρ 4= .int .i64 V.1->Q H->K1 (.goto 0) ρ H:=by
  intro ρ H r4 hq
  rw[<-hK]
  refine alz rfl ?_
  refine HW ?_
  simp+decide only[st,xv,fF,MU,r4,xr,xi]
  exact⟨rfl,hq⟩
 clear hK
 simp+decide only[st,xv,fF,aev,aeu]
 generalize hZ:aa.at _ _ _=Z
 have oZ:Old Y Z:=by rw[<-hZ];exact((Old.refl Y).at (Nat.le_refl _)).at (by omega)
 have nZ:Z.next=h.next+3:=by rw[<-hZ];simp[aa.at,nY]
 have z1:cellsOf Z Y.next=some (bf.c qi):=by rw[<-hZ];exact av (by simp[aa.at,nY];rfl)
 have z2:cellsOf Z (Y.next+1)=some (bf.c qi):=by rw[<-hZ];exact av (by simp[aa.at,nY];rfl)
 have z0:cellsOf Z h.next=_:=(show cellsOf Z h.next=cellsOf Y h.next by unfold cellsOf;rw[oZ.get _ (by omega)]).trans cY
 have hold:=oY.trans oZ
 have XZ:=X.old hold
 simp only[xK] at z1 z2
 have s1:c.kind<1\/1<=c.kind:=by omega
 by_cases k1:c.kind<1
 ·have e1:(c.kind<1)=True:=eq_true k1
  rw[if_pos (.inl k1)] at hV
  simp+decide only[st,xv,fF,IZ,Ru,z0,e1,xr,xi]
  exact kr _ _ (by rw[hV];rfl) (lf (by decide) hold hV)
 have e1:(c.kind<1)=False:=eq_false k1
 by_cases k4:4<c.kind
 ·have e4:(4<c.kind)=True:=eq_true k4
  rw[if_pos (.inr k4)] at hV
  simp+decide only[st,xv,fF,IZ,Ru,z0,e1,e4,xr,xi]
  exact kr _ _ (by rw[hV];rfl) (lf (by decide) hold hV)
 have e4:(4<c.kind)=False:=eq_false k4
 rw[if_neg (by omega)] at hV
 simp+decide only[st,xv,fF,IZ,Rt,z0,e1,e4,xr,xi]
 refine au (t8 ok XZ k.id (ok.cf _ rfl) (q:=dG (ai[t]'X.ht).ak) (fun o h' hl o'=>Ii ok (XZ.old o') (tl:=aK) hl)) ?_
 have dM:=mW (l:=(ai[t]'X.ht).ak) (id:=c.id) (kind:=1) (q:=dG (ai[t]'X.ht).ak) X.root
 generalize bC ah (ai[t]'X.ht).ak c.id 1 (dG (ai[t]'X.ht).ak)=R at*
 obtain⟨o,e⟩:=R
 simp only at hV dM
 simp+decide only[st,xv,fF,Rt,db,xr,z1]
 obtain⟨W,hW⟩: ∃W,W=Z.set Y.next (some (.cells (o.c aK))):=⟨_,rfl⟩
 have kX:=hW
 simp only[db] at kX
 rw[<-kX]
 have oW:Old h W:=by rw[hW];exact hold.set (by omega)
 have w1:cellsOf W Y.next=some (o.c aK):=by rw[hW];exact av (by simp[aa.set])
 have w0:cellsOf W h.next=_:=(show cellsOf W h.next=cellsOf Z h.next by rw[hW];unfold cellsOf;simp only[aa.set];rw[if_neg (by omega)]).trans z0
 have w2:cellsOf W (Y.next+1)=_:=(show cellsOf W (Y.next+1)=cellsOf Z (Y.next+1) by rw[hW];unfold cellsOf;simp only[aa.set];rw[if_neg (by omega)]).trans z2
 have nW:W.next=h.next+3:=by rw[hW,<-nZ];rfl
 have XW:=X.old oW
 simp only[db] at w1
 generalize hρ:put _ _ _=ρ1
 have r0:ρ1 0= .ptr xb 0:=by rw[<-hρ];rfl
 have r3:ρ1 3= .ptr h.next 0:=by rw[<-hρ];rfl
 have r4:ρ1 4= .int .i64 e:=by rw[<-hρ];rfl
 have r5:ρ1 5= .ptr Y.next 0:=by rw[<-hρ];rfl
 have r6:ρ1 6= .ptr (Y.next+1) 0:=by rw[<-hρ];rfl
 have r7:ρ1 7= .int .u64 0:=by rw[<-hρ];rfl
 clear hρ
 by_cases he:e=0
 case neg=>
  rw[if_pos he] at hV
  have dN:((e:Int)=0)=False:=eq_false (by omega)
  simp+decide only[st,xv,fF,Rs,r4,dN,xr,xi]
  exact kg _ _ (by rw[hV];exact r4) (lf he oW hV)
 subst he
 rw[if_neg (fun h=>h rfl)] at hV
 obtain⟨c5,bc,_⟩:=dM rfl
 have v:=XW.k.ks.val o c5
 simp+decide only[st,xv,fF,Rs,r4,xr,xi]
 have xx:=XW.x
 obtain⟨rt,hx⟩:=xx
 have cx:=av hx
 obtain⟨ct,hle,gx⟩:=XW.th
 have lx:=XW.lx
 have l2:=XW.k.l2
 have i5:t*12+2<=(aX aS ai).flatten.length:=by omega
 have q0:h.next<W.next:=by omega
 have q1:Y.next<W.next:=by omega
 have q2:Y.next+1<W.next:=by omega
 refine bU 11 rfl rfl ?_
 simp+decide only[st,xv,fF,Rq,r0,r3,r5,r6,cx,ct,w0,lx,l2,q0,i5,gx]
 refine eX (aiO (a:=(ai[t]'X.ht).ak) (b:=c.ak) (ta:= .ao) (eU:= .ao) ok X.ak k.ak) (cN (Nat.le_refl _)) ?_
 unfold GQ at hV
 obtain⟨B,hB⟩: ∃B,B=W.clean 11:=⟨_,rfl⟩
 have oB:Old W B:=by rw[hB];exact(Old.refl W).clean
 have nB:B.next=h.next+14:=by rw[hB];show W.next+11=_;omega
 rw[<-hB]
 clear hB
 have b1:cellsOf B Y.next=_:=(show cellsOf B Y.next=cellsOf W Y.next by unfold cellsOf;rw[oB.get _ (by omega)]).trans w1
 have b0:cellsOf B h.next=_:=(show cellsOf B h.next=cellsOf W h.next by unfold cellsOf;rw[oB.get _ (by omega)]).trans w0
 have b2:cellsOf B (Y.next+1)=_:=(show cellsOf B (Y.next+1)=cellsOf W (Y.next+1) by unfold cellsOf;rw[oB.get _ (by omega)]).trans w2
 have Av:=oW.trans oB
 have XB:=X.old Av
 simp+decide only[st,xv,fF,Rq,r0]
 by_cases hm:pP (ai[t]'X.ht).ak c.ak=0
 case neg=>
  rw[if_pos hm] at hV
  have Ff:((pP (ai[t]'X.ht).ak c.ak:Int)=0)=False:=eq_false (by omega)
  simp+decide only[st,xv,fF,Ro,r0,Ff]
  exact kg _ _ (by rw[hV];rfl) (lf hm Av hV)
 rw[if_neg (fun h=>h hm)] at hV
 rw[hm]
 simp+decide only[st,xv,fF,Ro,Dw,r0,r3,b0]
 refine au (aiu ok XB (tl:=aK) k) ?_
 by_cases hf:kK (ai[t]'X.ht).ak c=0
 case neg=>
  rw[if_pos hf] at hV
  have xZ:((kK (ai[t]'X.ht).ak c:Int)=0)=False:=eq_false (by omega)
  simp+decide only[st,xv,fF,Dw,Hb,r0,xZ]
  exact kg _ _ (by rw[hV];rfl) (lf hf Av hV)
 rw[if_neg (fun h=>h hf)] at hV
 rw[hf]
 obtain⟨bx1,bx2,bx3,bx4,bx5⟩:=uf v.may bc
 by_cases vE:63<o.next
 ·rw[if_pos vE] at hV
  have u3:(63<o.next)=True:=eq_true vE
  simp+decide only[st,xv,fF,Dw,Hb,MZ,aae,r0,r5,b1,u3]
  exact kr _ _ (by rw[hV];rfl) (lf (by decide) Av hV)
 rw[if_neg vE] at hV
 have u3:(63<o.next)=False:=eq_false vE
 simp+decide only[st,xv,fF,Dw,Hb,MZ,Ha,r0,r5,b1,u3]
 refine au (aj8 ok (box:=o.id) (n:=o.next) v.ok.id) ?_
 have dL:=Mu (b:=o.id) (n:=o.next)
 have gh:=XU XB.k.ks T c5
 generalize dR o.id o.next=F at*
 obtain⟨id,fe⟩:=F
 simp only at hV dL gh
 by_cases U5:fe=0
 case neg=>
  rw[if_pos U5] at hV
  have xZ:((fe:Int)=0)=False:=eq_false (by omega)
  simp+decide only[st,xv,fF,Ha,MY,r0,xZ,xr]
  exact kg _ _ (by rw[hV];rfl) (lf U5 Av hV)
 subst U5
 rw[if_neg (fun h=>h rfl)] at hV
 obtain⟨n,e1',e2',e3',e4',Vx,e6',e7',e8',e9'⟩:=dL rfl
 have gh:=gh rfl
 simp+decide only[st,xv,fF,Ha,MY,MX,r0,r3,b0,xr]
 have asy:id<2^64:=by omega
 refine au (aje ok (id:=id) (tl:=aK) k) ?_
 have vo:=anC k asy (by rw[Vx];exact e6') hl hm hf Ks (by omega)
 generalize JN:d9 c id=p at*
 simp+decide only[st,xv,fF,MX,r6,b2,db]
 obtain⟨C,hC⟩: ∃C,C=B.set (Y.next+1) (some (.cells (p.c aK))):=⟨_,rfl⟩
 have Vm:=hC
 simp only[db] at Vm
 rw[<-Vm]
 have oC:Old h C:=by rw[hC];exact Av.set (by omega)
 have d1:cellsOf C Y.next=_:=(show cellsOf C Y.next=cellsOf B Y.next by rw[hC];unfold cellsOf;simp only[aa.set];rw[if_neg (by omega)]).trans b1
 have d2:cellsOf C (Y.next+1)=some (p.c aK):=by rw[hC];exact av (by simp[aa.set])
 have nC:C.next=h.next+14:=by rw[hC];exact nB
 simp only[db] at d2
 clear hC Vm
 generalize hρ:put _ _ _=ρ2
 have s0:ρ2 0= .ptr xb 0:=by rw[<-hρ];exact r0
 have s5:ρ2 5= .ptr Y.next 0:=by rw[<-hρ];exact r5
 have s6:ρ2 6= .ptr (Y.next+1) 0:=by rw[<-hρ];exact r6
 have s7:ρ2 7= .int .u64 id:=by rw[<-hρ];rfl
 clear hρ
 have q1:Y.next<C.next:=by omega
 have q2:Y.next+1<C.next:=by omega
 have hv:=XR vo.may vo.norm
 have hcp:0<=cost p/\cost p<2^60:=by
  unfold cost
  split
  ·omega
  split
  ·omega
  split
  ·omega
  split<;>omega
 refine qO 4 9 rfl (by omega) rfl ?_
 simp+decide only[st,xv,fF,aad,s5,s6,d1,d2,q1,q2]
 refine gX (W9 ok (o:=p) (t:=aK) ⟨by omega,by omega⟩ (by omega)) (cN (Nat.le_refl _)) ?_
 simp+decide only[st,xv]
 refine gX (akO ok (o:=o) (t:=aK) (c:=cost p) ⟨by omega,by omega⟩ ⟨by omega,by omega⟩ hcp.2) (cN (Nat.le_refl _)) ?_
 have qv:jm o (cost p)=(bf,10)\/jm o (cost p)=({o with used:=o.used+cost p},0)/\cost p<=o.bh-o.used:=by
  unfold jm
  rw[if_neg (by omega)]
  split
  ·exact .inl rfl
  ·exact .inr ⟨rfl,by omega⟩
 generalize jm o (cost p)=A at*
 obtain⟨oo,ae⟩:=A
 simp only at hV
 simp+decide only[st,xv,db,s5,d1,q1,xr]
 refine⟨(jv q1).2 (cN (Nat.le_refl _)),?_⟩
 by_cases Vc:ae=0
 case neg=>
  rw[if_pos Vc] at hV
  have xZ:((ae:Int)=0)=False:=eq_false (by omega)
  simp+decide only[st,xv,fF,MW,s5,xZ]
  exact kg _ _ (by rw[hV];rfl) (lf Vc ((oC.trans (Old.refl C).clean).set (by omega)) hV)
 subst Vc
 rw[if_neg (fun h=>h rfl)] at hV
 have qv:=qv.resolve_left (fun e=>by cases e)
 obtain⟨US,hle⟩:=qv
 obtain⟨E,hE⟩: ∃E,E=(C.clean 9).set Y.next (some (.cells (oo.c aK))):=⟨_,rfl⟩
 have Vl:=hE
 simp only[db] at Vl
 rw[<-Vl]
 have oE:Old h E:=by rw[hE];exact(oC.trans (Old.refl C).clean).set (by omega)
 have g1:cellsOf E Y.next=some (oo.c aK):=by rw[hE];exact av (by simp[aa.set])
 have g2:cellsOf E (Y.next+1)=_:=(show cellsOf E (Y.next+1)=cellsOf C (Y.next+1) by rw[hE];unfold cellsOf;simp only[aa.set,aa.clean];rw[if_neg (by omega),if_pos (by omega)]).trans d2
 have nE:E.next=h.next+23:=by rw[hE];show C.next+9=_;omega
 clear hE Vl
 have Kg:oo={o with used:=o.used+cost p}:=(Prod.mk.inj US).1
 have Uc:IntKind.wrap .i64 (oo.next+1)=oo.next+1:=bu (by rw[Kg];show _<=o.next+1;omega) (by rw[Kg];show o.next+1<_;omega)
 simp only[db] at g1
 simp+decide only[st,xv,fF,MW,aac,s5,g1,Uc]
 generalize hρ:put _ _ _=ρ3
 have u0:ρ3 0= .ptr xb 0:=by rw[<-hρ];exact s0
 have u4:ρ3 4= .int .i64 0:=by rw[<-hρ];rfl
 have u5:ρ3 5= .ptr Y.next 0:=by rw[<-hρ];exact s5
 have u6:ρ3 6= .ptr (Y.next+1) 0:=by rw[<-hρ];exact s6
 have u7:ρ3 7= .int .u64 id:=by rw[<-hρ];exact s7
 clear hρ
 obtain⟨B2,Ky⟩: ∃B2,B2={o with used:=o.used+cost p,next:=o.next+1}:=⟨_,rfl⟩
 have eB2:B2={oo with next:=o.next+1}:=by rw[Ky,Kg]
 obtain⟨G,hG⟩: ∃G,G=E.set Y.next (some (.cells (B2.c aK))):=⟨_,rfl⟩
 have Kx:=hG
 rw[eB2] at Kx
 simp only[db] at Kx
 rw[show oo.next=o.next by rw[Kg],<-Kx]
 have oG:Old h G:=by rw[hG];exact oE.set (by omega)
 have i1:cellsOf G Y.next=some (B2.c aK):=by rw[hG];exact av (by simp[aa.set])
 have i2:cellsOf G (Y.next+1)=_:=(show cellsOf G (Y.next+1)=cellsOf E (Y.next+1) by rw[hG];unfold cellsOf;simp only[aa.set];rw[if_neg (by omega)]).trans g2
 have nG:G.next=h.next+23:=by rw[hG];exact nE
 clear hG Kx
 simp only[db] at i1
 rw[<-eB2] at hV
 have XG:=X.old oG
 obtain⟨JY,ny⟩:=XG.x
 have nR:=av ny
 have Uv:=XG.lx
 have q3:Y.next<G.next:=by omega
 have ck2:=av XG.k.top
 have lk2:=XG.k.l1
 refine bU 6 rfl rfl ?_
 simp+decide only[st,xv,fF,aab,u0,u5,nR,i1,Uv,q3]
 have vb:jd B2:=by rw[Ky];exact am4 v bc hcp.1 hle (by omega)
 have XC:=XG.old ((Old.refl G).clean (n:=6))
 obtain⟨H1,bq,dB,X1,eo,hU⟩:=CN ok XC (o:=B2) (tl:=aK) vb (fun o' ej=>by
  have b9:B2.id=o.id/\B2.kind=1:=by rw[Ky];exact⟨rfl,bc⟩
  have hmo:=lg ej
  have qp:=lj XW.k.ks.bY c5
  rw[b9.1,qp] at ej
  have:=Option.some.inj ej
  subst this
  exact⟨by omega,by omega⟩) (by omega) hM
 refine eX bq (hU.free XG.k.bt) ?_
 simp+decide only[st,xv,fF,MV]
 have bt:=X.k.bt
 have lC:(G.clean 6).next=G.next+6:=rfl
 have b9:B2.id=o.id/\B2.kind=1:=by rw[Ky];exact⟨rfl,bc⟩
 have j2:cellsOf H1 (Y.next+1)=_:=(show cellsOf H1 (Y.next+1)=cellsOf G (Y.next+1) by
  unfold cellsOf
  rw[hU.2 _ (by omega) (fun e=>by have:=bt _ (.inl e);omega) (fun e=>by have:=bt _ (.inr (.inl e));omega) (fun e=>by have:=bt _ (.inr (.inr e));omega)]
  simp only[aa.clean]
  rw[if_pos (by omega)]).trans i2
 have nH1:=hU.1
 obtain⟨rt3,E3⟩:=X1.x
 have AX:=av E3
 have J7:=X1.lx
 have q4:Y.next+1<H1.next:=by omega
 refine bU 6 rfl rfl ?_
 simp+decide only[st,xv,fF,MV,u0,u6,AX,j2,J7,q4]
 rw[if_neg (by rw[b9.2];decide)] at X1
 have X2:=X1.old ((Old.refl H1).clean (n:=6))
 have aug:p.id=id:=by rw[<-JN];rfl
 obtain⟨H2,aU,lQ,X3,eD,jH⟩:=CN ok X2 (o:=p) (tl:=aK) vo (fun o' ej=>by
  rw[nV XG.k.ks.bY,aug,if_neg (by omega),gh] at ej
  cases ej) (by omega) hM
 refine eX aU (jH.free X1.k.bt) ?_
 obtain⟨rt4,hx4⟩:=X3.x
 have cx4:=av hx4
 simp+decide only[st,xv,fF,aaa,MU,u0,u4,u7,cx4,xr]
 refine kr _ _ (by rw[hV];rfl) ((hQ _).2 ?_)
 rw[hV]
 have lC2:(H1.clean 6).next=H1.next+6:=rfl
 have vl:XF h H1 a lb xb:=(XF.old (oG.trans (Old.refl G).clean)).trans hU.xf (.inl rfl)
 have JM:dB=lb\/h.next<=dB:=by
  rcases eo with e|e
  ·exact .inl e
  ·exact .inr (by omega)
 have xf2:XF h H2 a lb xb:=(vl.trans (XF.old (lb:=lb) (Old.refl H1).clean) (.inl rfl)).trans jH.xf JM
 refine⟨{rp with ret:=id},⟨lQ,N+1+1,_,X3.rB (bW:={rp with ret:=id}),xf2.rA,?_,by omega,by split<;>omega⟩,fun _=>rfl⟩
 rcases eD with e|e
 ·rw[e];exact JM
 ·exact .inr (by omega)
end
section
open Go
variable {P:Program} {h:aa} {a:KA} {lb N M:Nat} {ai:List Th} {ah:List Ob} {g:Nat->Option (List UInt8)} {xb t:Nat} {rp:Rp}
structure Dr where
 is:Bool
 err:Nat
 th:Th
 ah:List Ob
 ret:Nat
 data:List UInt8
def wa (t:Nat) (x:Th) (ah:List Ob) (c:Cl) (done:Int):Dr:=
 if c.op=1 then⟨true,(jn t x).1,(jn t x).2.2,ah,(jn t x).2.1,[]⟩
 else if c.op=2 then⟨true,(pQ x c.ak).1,(pQ x c.ak).2,ah,0,[]⟩
 else if c.op=3 then⟨true,(du x.ak ah c).1,x,(du x.ak ah c).2.2,(du x.ak ah c).2.1,[]⟩
 else if c.op=4 then⟨true,(wG x.ak ah c).1,x,ah,0,(wG x.ak ah c).2⟩
 else if c.op=5 then⟨true,(uo x.ak ah c).1,x,(uo x.ak ah c).2,0,[]⟩
 else if c.op=6 then⟨true,(uq x.ak ah c).1,x,(uq x.ak ah c).2,0,[]⟩
 else if c.op=7 then⟨true,(qW x ah c).1,(qW x ah c).2,ah,0,[]⟩
 else if c.op=8 then⟨true,(oH x.ak ah c).1,x,(oH x.ak ah c).2,0,[]⟩
 else if c.op=9 then⟨(f7 x ah c).1,(f7 x ah c).2.1,(f7 x ah c).2.2.1,(f7 x ah c).2.2.2.1,0,(f7 x ah c).2.2.2.2⟩
 else if c.op=10 then⟨(i0 x ah c done).1,(i0 x ah c done).2.1,(i0 x ah c done).2.2.1,(i0 x ah c done).2.2.2.1,(i0 x ah c done).2.2.2.2,[]⟩
 else if c.op=11 then⟨true,(sP x.ak ah c).1,x,ah,(sP x.ak ah c).2.1,(sP x.ak ah c).2.2⟩
 else if c.op=12 then⟨true,0,x,ah,t,cT x.ak⟩
 else if c.op=13 then⟨true,0,x,ah,0,[]⟩
 else⟨true,2,x,ah,0,[]⟩
def jW (t:Nat) (x:Th) (ah:List Ob) (c:Cl) (done:Int):Dr:=if(c.op=2\/c.op=3)/\names c.ak=false then⟨true,4,x,ah,0,[]⟩ else wa t x ah c done
theorem fE.from {Y h':aa} (o:Old h Y) (e:fE Y xb a lb N M t ai ah rp h'):fE h xb a lb N M t ai ah rp h':=by
 obtain⟨aT,N',M',X,xf,hl,hN,hM⟩:=e
 refine⟨aT,N',M',X,(XF.old (lb:=lb) o).trans xf (.inl rfl),?_,hN,hM⟩
 rcases hl with e|e
 ·exact .inl e
 ·exact .inr (Nat.le_trans o.next e)
def ahx (h:aa) (xb:Nat) (a:KA) (lb N M t:Nat) (ai:List Th) (rp:Rp) (D:Dr) (h':aa):Prop:= ∃bW,fE h xb a lb N M t (ai.set t D.th) D.ah bW h'/\(D.is=true->D.err=0->bW={rp with ret:=D.ret,data:=D.data})
theorem aiv (ok:ax P tb) (X:KX h xb a lb N M t ai ah rp) {c:Cl} {tl:Nat->aG} {done:Int} (k:fO c) (gh:c.op=3->Tree ah/\ei c.ak=true/\jZ c.bV=true) (hN:N+1<2^19) (hM:M<128) (eE:c.op=6->ah.length<=12) (ho:0<=(ai[t]'X.ht).own) (hr:rp.ret=0) (hd:rp.data=[]):
 ∃h',an P 38 [.ptr xb 0, .agg (c.c tl), .int .i64 done] h (.ay [.bool (jW t (ai[t]'X.ht) ah c done).is, .int .i64 (jW t (ai[t]'X.ht) ah c done).err]) h'/\ahx h xb a lb N M t ai rp (jW t (ai[t]'X.ht) ah c done) h':=by
 obtain⟨V,hV⟩: ∃V,V=jW t (ai[t]'X.ht) ah c done:=⟨_,rfl⟩
 rw[<-hV]
 obtain⟨Q,hQ⟩: ∃Q:aa->Prop,∀h',Q h'↔ahx h xb a lb N M t ai rp V h':=⟨_,fun _=>Iff.rfl⟩
 suffices hu: ∃h',an P 38 [.ptr xb 0, .agg (c.c aK), .int .i64 done] h (.ay [.bool V.is, .int .i64 V.err]) h'/\Q h' by
  obtain⟨h',c1,hq⟩:=hu
  refine⟨h',an.ao ?_,(hQ h').1 hq⟩
  simp only[AV.bH,AV.strip,yM]
  exact c1
 refine ok.dI (rf:=eg) rfl (Nat.le_of_ble_eq_true rfl) ?_
 have i9:ai.set t (ai[t]'X.ht)=ai:=sB X.ht
 have er: ∀n d,({rp with ret:=n,data:=d}:Rp)={rp with ret:=n,data:=d}:=fun _ _=>rfl
 have Vv: ∀n,({rp with ret:=n}:Rp)={rp with ret:=n,data:=[]}:=fun n=>by rw[<-hd]
 have err: ∀d,({rp with data:=d}:Rp)={rp with ret:=0,data:=d}:=fun d=>by rw[<-hr]
 have Ac:rp={rp with ret:=0,data:=[]}:=by rw[<-hr,<-hd]
 have avD:=k.Ig
 simp+decide only[st,xv,eg,afp,afo,fi]
 generalize hY:aa.at _ _ _=Y
 have oY:Old h Y:=by rw[<-hY];exact(Old.refl h).at (Nat.le_refl _)
 have cY:cellsOf Y h.next=some (c.c aK):=by rw[<-hY];exact av (by simp[aa.at];try rfl)
 have nY:Y.next=h.next+1:=by rw[<-hY];simp[aa.at]
 simp only[fi] at cY
 have XY:=X.old oY
 generalize gx:ai[t]'X.ht=x at*
 unfold jW at hV
 by_cases qc:(c.op=2\/c.op=3)/\names c.ak=false
 ·rw[if_pos qc] at hV
  have hq:Q Y:=(hQ _).2 ⟨rp,by rw[hV,i9];exact X.fin oY,fun _ e=>by rw[hV] at e;cases e⟩
  rcases qc.1 with e|e
  ·have e2:(c.op=2)=True:=eq_true e
   simp+decide only[st,xv,eg,iN,cY,e2]
   refine au (yA ok (l:=c.ak) (t:= .ao) (by omega)) ?_
   rw[qc.2]
   simp+decide only[st,xv,eg,iN,R4]
   exact⟨by rw[hV];rfl,hq⟩
  ·have e2:(c.op=2)=False:=eq_false (by omega)
   have e3:(c.op=3)=True:=eq_true e
   simp+decide only[st,xv,eg,iN,cY,e2,e3]
   refine au (yA ok (l:=c.ak) (t:= .ao) (by omega)) ?_
   rw[qc.2]
   simp+decide only[st,xv,eg,iN,R4]
   exact⟨by rw[hV];rfl,hq⟩
 rw[if_neg qc] at hV
 unfold wa at hV
 by_cases h1:c.op=1
 ·rw[if_pos h1] at hV
  have e1:(c.op=1)=True:=eq_true h1
  have z2:(c.op=2)=False:=eq_false (by omega)
  have z3:(c.op=3)=False:=eq_false (by omega)
  simp+decide only[st,xv,eg,iN,lF,lE,R3,cY,z2,z3,e1]
  obtain⟨h1,hc,he⟩:=aji ok XY (by rw[gx];exact ho)
  rw[gx] at hc he
  refine au hc ?_
  simp+decide only[st,xv,eg,R3,lz]
  refine⟨by rw[hV];rfl,(hQ _).2 ⟨_,by rw[hV];exact he.from oY,fun _ e=>?_⟩⟩
  rw[hV] at e ⊢;simp only at e ⊢;rw[if_pos e];exact Vv _
 rw[if_neg h1] at hV
 have n1:(c.op=1)=False:=eq_false h1
 by_cases h2:c.op=2
 ·rw[if_pos h2] at hV
  have e2:(c.op=2)=True:=eq_true h2
  have z3:(c.op=3)=False:=eq_false (by omega)
  simp+decide only[st,xv,eg,iN,cY,e2,z3]
  refine au (yA ok (l:=c.ak) (t:= .ao) (by omega)) ?_
  have mG:names c.ak=true:=by
   cases hh:names c.ak with
   |true=>rfl
   |false=>exact absurd ⟨by omega,hh⟩ qc
  rw[mG]
  simp+decide only[st,xv,eg,iN,lF,lE,mn,R1,cY,e2,n1]
  obtain⟨h1,hc,he⟩:=ahT ok XY (tl:=aK) k
  rw[gx] at hc he
  refine au hc ?_
  simp+decide only[st,xv,eg,R1,lz]
  exact⟨by rw[hV];rfl,(hQ _).2 ⟨_,by rw[hV];exact he.from oY,fun _ e=>by rw[hV];exact Ac⟩⟩
 rw[if_neg h2] at hV
 have n2:(c.op=2)=False:=eq_false h2
 by_cases h3:c.op=3
 ·rw[if_pos h3] at hV
  have e3:(c.op=3)=True:=eq_true h3
  simp+decide only[st,xv,eg,iN,cY,n2,e3]
  refine au (yA ok (l:=c.ak) (t:= .ao) (by omega)) ?_
  have mG:names c.ak=true:=by
   cases hh:names c.ak with
   |true=>rfl
   |false=>exact absurd ⟨by omega,hh⟩ qc
  rw[mG]
  simp+decide only[st,xv,eg,iN,lF,lE,mn,ni,Ng,cY,e3,n1,n2]
  obtain⟨T,hl,Ks⟩:=gh h3
  obtain⟨h1,oS,hc,he,kT⟩:=ahU ok XY (tl:=aK) k T hl Ks hN hM
  rw[gx] at hc he kT
  refine au hc ?_
  simp+decide only[st,xv,eg,Ng,lz]
  refine⟨by rw[hV];rfl,(hQ _).2 ⟨oS,by rw[hV,i9];exact he.from oY,fun _ e=>?_⟩⟩
  rw[hV] at e ⊢;rw[kT e];exact Vv _
 rw[if_neg h3] at hV
 have n3:(c.op=3)=False:=eq_false h3
 by_cases h4:c.op=4
 ·rw[if_pos h4] at hV
  have e4:(c.op=4)=True:=eq_true h4
  simp+decide only[st,xv,eg,iN,lF,lE,mn,ni,oA,Nf,cY,n2,n3,e4,n1,n2,n3]
  obtain⟨h1,oS,hc,he,kT⟩:=air ok XY (tl:=aK) k
  rw[gx] at hc kT
  refine au hc ?_
  simp+decide only[st,xv,eg,Nf,lz]
  refine⟨by rw[hV];rfl,(hQ _).2 ⟨oS,by rw[hV,i9];exact he.from oY,fun _ e=>?_⟩⟩
  rw[hV] at e ⊢;rw[kT e];exact err _
 rw[if_neg h4] at hV
 have n4:(c.op=4)=False:=eq_false h4
 by_cases h5:c.op=5
 ·rw[if_pos h5] at hV
  have e5:(c.op=5)=True:=eq_true h5
  simp+decide only[st,xv,eg,iN,lF,lE,mn,ni,oA,pT,Nd,cY,n2,n3,e5,n1,n2,n3,n4]
  obtain⟨h1,hc,he⟩:=ahS ok XY (tl:=aK) k
  rw[gx] at hc he
  refine au hc ?_
  simp+decide only[st,xv,eg,Nd,lz]
  exact⟨by rw[hV];rfl,(hQ _).2 ⟨_,by rw[hV,i9];exact he.from oY,fun _ e=>by rw[hV];exact Ac⟩⟩
 rw[if_neg h5] at hV
 have n5:(c.op=5)=False:=eq_false h5
 by_cases h6:c.op=6
 ·rw[if_pos h6] at hV
  have e6:(c.op=6)=True:=eq_true h6
  simp+decide only[st,xv,eg,iN,lF,lE,mn,ni,oA,pT,qX,Nc,cY,n2,n3,e6,n1,n2,n3,n4,n5]
  obtain⟨h1,hc,he⟩:=ahW ok XY (tl:=aK) k (by omega) hM (eE h6)
  rw[gx] at hc he
  refine au hc ?_
  simp+decide only[st,xv,eg,Nc,lz]
  exact⟨by rw[hV];rfl,(hQ _).2 ⟨_,by rw[hV,i9];exact he.from oY,fun _ e=>by rw[hV];exact Ac⟩⟩
 rw[if_neg h6] at hV
 have n6:(c.op=6)=False:=eq_false h6
 by_cases h7:c.op=7
 ·rw[if_pos h7] at hV
  have e7:(c.op=7)=True:=eq_true h7
  simp+decide only[st,xv,eg,iN,lF,lE,mn,ni,oA,pT,qX,sK,Nb,cY,n2,n3,e7,n1,n2,n3,n4,n5,n6]
  obtain⟨h1,hc,he⟩:=ahV ok XY (tl:=aK) k
  rw[gx] at hc he
  refine au hc ?_
  simp+decide only[st,xv,eg,Nb,lz]
  exact⟨by rw[hV];rfl,(hQ _).2 ⟨_,by rw[hV];exact he.from oY,fun _ e=>by rw[hV];exact Ac⟩⟩
 rw[if_neg h7] at hV
 have n7:(c.op=7)=False:=eq_false h7
 by_cases h8:c.op=8
 ·rw[if_pos h8] at hV
  have e8:(c.op=8)=True:=eq_true h8
  simp+decide only[st,xv,eg,iN,lF,lE,mn,ni,oA,pT,qX,sK,ux,Na,cY,n2,n3,e8,n1,n2,n3,n4,n5,n6,n7]
  obtain⟨h1,hc,he⟩:=aip ok XY (tl:=aK) k (by omega) hM
  rw[gx] at hc he
  refine au hc ?_
  simp+decide only[st,xv,eg,Na,lz]
  exact⟨by rw[hV];rfl,(hQ _).2 ⟨_,by rw[hV,i9];exact he.from oY,fun _ e=>by rw[hV];exact Ac⟩⟩
 rw[if_neg h8] at hV
 have n8:(c.op=8)=False:=eq_false h8
 by_cases h9:c.op=9
 ·rw[if_pos h9] at hV
  have e9:(c.op=9)=True:=eq_true h9
  simp+decide only[st,xv,eg,iN,lF,lE,mn,ni,oA,pT,qX,sK,ux,wj,M9,cY,n2,n3,e9,n1,n2,n3,n4,n5,n6,n7,n8]
  obtain⟨h1,oS,hc,he,kT⟩:=aiq ok XY (tl:=aK) k (by omega) hM
  rw[gx] at hc he kT
  refine au hc ?_
  simp+decide only[st,xv,eg,M9,lz,xr]
  refine⟨by rw[hV];rfl,(hQ _).2 ⟨oS,by rw[hV];exact he.from oY,fun e0 e=>?_⟩⟩
  rw[hV] at e0 e ⊢;rw[kT e0 e];exact err _
 rw[if_neg h9] at hV
 have n9:(c.op=9)=False:=eq_false h9
 by_cases KD:c.op=10
 ·rw[if_pos KD] at hV
  have Fz:(c.op=10)=True:=eq_true KD
  simp+decide only[st,xv,eg,iN,lF,lE,mn,ni,oA,pT,qX,sK,ux,wj,y5,M8,cY,n2,n3,Fz,n1,n2,n3,n4,n5,n6,n7,n8,n9]
  obtain⟨h1,oS,hc,he,kT⟩:=ait ok XY (tl:=aK) (done:=done) k
  rw[gx] at hc he kT
  refine au hc ?_
  simp+decide only[st,xv,eg,M8,lz,xr]
  refine⟨by rw[hV];rfl,(hQ _).2 ⟨oS,by rw[hV];exact he.from oY,fun e0 e=>?_⟩⟩
  rw[hV] at e0 e ⊢;rw[kT e0 e];exact Vv _
 rw[if_neg KD] at hV
 have J6:(c.op=10)=False:=eq_false KD
 by_cases KB:c.op=11
 ·rw[if_pos KB] at hV
  have e11:(c.op=11)=True:=eq_true KB
  simp+decide only[st,xv,eg,iN,lF,lE,mn,ni,oA,pT,qX,sK,ux,wj,y5,Cg,M7,cY,n2,n3,e11,n1,n2,n3,n4,n5,n6,n7,n8,n9,J6]
  obtain⟨h1,oS,hc,he,kT⟩:=aio ok XY (tl:=aK) k hr
  rw[gx] at hc kT
  refine au hc ?_
  simp+decide only[st,xv,eg,M7,lz]
  refine⟨by rw[hV];rfl,(hQ _).2 ⟨oS,by rw[hV,i9];exact he.from oY,fun _ e=>?_⟩⟩
  rw[hV] at e ⊢;rw[kT e]
 rw[if_neg KB] at hV
 have Uu:(c.op=11)=False:=eq_false KB
 by_cases eE:c.op=12
 ·rw[if_pos eE] at hV
  have e12:(c.op=12)=True:=eq_true eE
  simp+decide only[st,xv,eg,iN,lF,lE,mn,ni,oA,pT,qX,sK,ux,wj,y5,Cg,Hc,cY,n2,n3,e12,n1,n2,n3,n4,n5,n6,n7,n8,n9,J6,Uu]
  obtain⟨rt,hx⟩:=XY.x
  have cx:=av hx
  obtain⟨ct,hle,cu⟩:=XY.th
  rw[gx] at cu
  have lx:=XY.lx
  have l2:=XY.k.l2
  have i5:t*12+2<=(aX aS ai).flatten.length:=by omega
  have gy:=X.ak
  rw[gx] at gy
  have ht4:=X.tv.len
  have U4:=X.ht
  have Uc:IntKind.wrap .u64 (t:Int)=t:=eQ (by omega)
  refine qO 14 23 rfl (by omega) rfl ?_
  simp+decide only[st,xv,eg,aag,cx,ct,lx,l2,i5,cu]
  refine gX (F5 ok (b:=[]) (t:= .full) (l:=x.ak) (t':= .ao) gy (by simp)) (cN (Nat.le_refl _)) ?_
  simp+decide only[st,xv,cx,lx,Uc,xr]
  refine⟨(jv lx).2 (cN (Nat.le_refl _)),(jv lx).2 (cN (Nat.le_refl _)),?_⟩
  have XC:=(XY.old ((Old.refl Y).clean (n:=23))).rB (bW:={rp with ret:=t,data:=cT x.ak}) (tl:= .ao)
  simp+decide only[st,xv,eg,lz]
  exact⟨by rw[hV];rfl,(hQ _).2 ⟨{rp with ret:=t,data:=cT x.ak},by rw[hV,i9];exact⟨lb,N,M,XC,(XF.old (oY.trans (Old.refl Y).clean)).rA, .inl rfl,by omega,by omega⟩,fun _ _=>by rw[hV]⟩⟩
 rw[if_neg eE] at hV
 have n12:(c.op=12)=False:=eq_false eE
 by_cases Kz:c.op=13
 ·rw[if_pos Kz] at hV
  have Vy:(c.op=13)=True:=eq_true Kz
  simp+decide only[st,xv,eg,iN,lF,lE,mn,ni,oA,pT,qX,sK,ux,wj,y5,Cg,Hc,M0,lz,cY,n2,n3,Vy,n1,n2,n3,n4,n5,n6,n7,n8,n9,J6,Uu,n12]
  exact⟨by rw[hV];rfl,(hQ _).2 ⟨rp,by rw[hV,i9];exact X.fin oY,fun _ _=>by rw[hV];exact Ac⟩⟩
 rw[if_neg Kz] at hV
 have n13:(c.op=13)=False:=eq_false Kz
 simp+decide only[st,xv,eg,iN,lF,lE,mn,ni,oA,pT,qX,sK,ux,wj,y5,Cg,Hc,M0,aaf,lz,cY,n1,n2,n3,n4,n5,n6,n7,n8,n9,J6,Uu,n12,n13]
 exact⟨by rw[hV];rfl,(hQ _).2 ⟨rp,by rw[hV,i9];exact X.fin oY,fun _ e=>by rw[hV] at e;cases e⟩⟩
end
section
open Go
variable {P:Program} {h:aa} {a:KA} {lb N M:Nat} {ai:List Th} {ah:List Ob} {g:Nat->Option (List UInt8)} {xb t:Nat} {rp:Rp}
def pY (x:Th):Th:={x with dj:=0,id:=0,to:=0,done:=0,n:=0}
def Rp.c (r:Rp) (t:aG):List AV:=[.int .i64 r.Mq, .int .i64 r.err, .int .u64 r.ret, .vs (BS r.data) t]
def lN:Rp:=⟨0,0,0,[]⟩
structure Cr where
 r:Rp
 is:Bool
 ai:List Th
 ah:List Ob
 deriving DecidableEq
def told (t:Nat) (D:Dr) (ai:List Th):Cr:=⟨if D.is=false then lN else if D.err≠0 then⟨t,D.err,0,[]⟩ else⟨t,0,D.ret,D.data⟩,D.is,ai.set t D.th,D.ah⟩
def kH (t:Nat) (ai:List Th) (x:Th) (ah:List Ob) (c:Cl) (done:Int):Cr:=told t (jW t (pY x) ah c done) ai
def ju (h:aa) (a:KA) (lb N M:Nat) (ai:List Th) (ah:List Ob) (h':aa):Prop:= ∃aT N' M',KH h' a aT N' M' ai ah (eF ah)/\KF h h' a lb/\(aT=lb\/h.next<=aT)/\N'<=N+2/\M'<=M+1/\TV ai/\ ∃r,bg ah 1=some r
def Cr.v (r:Cr):AV:= .ay [.agg (r.r.c .ao), .bool r.is]
theorem K8 (ok:ax P tb) (K:KH h a lb N M ai ah (eF ah)) (tv:TV ai) (root: ∃r,bg ah 1=some r) (ht:t<ai.length) {c:Cl} {tl:Nat->aG} {done:Int} (k:fO c) (gh:c.op=3->Tree ah/\ei c.ak=true/\jZ c.bV=true) (hN:N+1<2^19) (hM:M<128) (eE:c.op=6->ah.length<=12) (ho:0<=ai[t].own):
 ∃h',an P 24 [.ptr a.kb 0, .int .i64 t, .agg (c.c tl), .int .i64 done] h (kH t ai ai[t] ah c done).v h'/\ju h a lb N M (kH t ai ai[t] ah c done).ai (kH t ai ai[t] ah c done).ah h':=by
 obtain⟨V,hV⟩: ∃V,V=kH t ai ai[t] ah c done:=⟨_,rfl⟩
 rw[<-hV]
 obtain⟨Q,hQ⟩: ∃Q:aa->Prop,∀h',Q h'↔ju h a lb N M V.ai V.ah h':=⟨_,fun _=>Iff.rfl⟩
 obtain⟨Q2,mJ⟩: ∃Q2:AV->aa->Prop,∀v h',Q2 v h'↔(v.strip=V.v/\Q h'):=⟨_,fun _ _=>Iff.rfl⟩
 suffices hu: ∃v h',an P 24 [.ptr a.kb 0, .int .i64 t, .agg (c.c aK), .int .i64 done] h v h'/\Q2 v h' by
  obtain⟨v,h',c1,vv⟩:=hu
  obtain⟨hv,hq⟩:=(mJ _ _).1 vv
  refine⟨h',an.ao ?_,(hQ h').1 hq⟩
  simp only[AV.bH,AV.strip,yM]
  rw[<-hv]
  exact c1.strip
 unfold kH at hV
 refine ok.uv (rf:=pC) rfl (Nat.le_of_ble_eq_true rfl) ?_
 have bt:=K.bt
 simp+decide only[st,xv,pC,af9,fi]
 generalize hX:aa.at _ _ _=X
 have xo:Old h X:=by rw[<-hX];exact((Old.refl h).at (Nat.le_refl _)).at (by omega)
 have x0:cellsOf X h.next=some (c.c aK):=by rw[<-hX];exact av (by simp[aa.at];rfl)
 have x1:cellsOf X (h.next+1)=some (lN.c .full):=by rw[<-hX];exact av (by simp[aa.at];rfl)
 have xn:X.next=h.next+2:=by rw[<-hX];simp[aa.at]
 have pE:=K.old xo
 have ck:=av pE.top
 have aC:(t:Int)<(ai.length:Int):=by omega
 simp+decide only[st,xv,pC,af8,ck,aC]
 generalize hY:aa.at _ _ _=Y
 have oY:Old X Y:=by rw[<-hY];exact(Old.refl X).at (Nat.le_refl _)
 have y2:Y.get X.next=some (.cells [.ptr a.kb 0, .ptr a.tb (t*12), .int .i64 t, .int .i64 t, .int .i64 0, .int .u64 0, .vs [] .full]):=by rw[<-hY];simp[aa.at]
 have yn:Y.next=h.next+3:=by rw[<-hY];simp[aa.at,xn]
 have y0:cellsOf Y h.next=_:=(show cellsOf Y h.next=cellsOf X h.next by unfold cellsOf;rw[oY.get _ (by omega)]).trans x0
 have y1:cellsOf Y (h.next+1)=_:=(show cellsOf Y (h.next+1)=cellsOf X (h.next+1) by unfold cellsOf;rw[oY.get _ (by omega)]).trans x1
 have hold:=xo.trans oY
 have XY:KX Y X.next a lb N M t ai ah ⟨t,0,0,[]⟩:=⟨pE.old oY,⟨.full,y2⟩,by omega,fun e=>by have:=bt _ (.inl e);omega,fun e=>by have:=bt _ (.inr (.inl e));omega,fun e=>by have:=bt _ (.inr (.inr e));omega,ht,tv,root⟩
 have cy:=av y2
 obtain⟨ct,hle,_⟩:=XY.Ea
 have l2:=K.l2
 have kR: ∀{x x':Th} {j:Nat} {v:AV},(j+1<=12)->List.take j (x.c aS)++[v]++List.drop (j+1) (x.c aS)=x'.c aS->List.take (t*12+j) (aX aS (ai.set t x)).flatten++[v]++List.drop (t*12+j+1) (aX aS (ai.set t x)).flatten=(aX aS (ai.set t x')).flatten/\t*12+j+1<=(aX aS (ai.set t x)).flatten.length:=by
  intro x x' j v hj kS
  have:=vY (l:=ai.set t x) (t:=t) (by simpa using ht) (j:=j) (v:=[v]) (x':=x') hj (by simpa using kS)
  rw[List.set_set] at this
  refine⟨this,?_⟩
  rw[jg ma,iX,List.length_set];omega
 have e0:ai.set t ai[t]=ai:=sB ht
 have s1:=kR (x:=ai[t]) (x':={ai[t] with dj:=0}) (j:=6) (v:= .int .i64 0) (by omega) (by simp[iE])
 rw[e0] at s1
 have s2:=kR (x:={ai[t] with dj:=0}) (x':={ai[t] with dj:=0,id:=0}) (j:=7) (v:= .int .u64 0) (by omega) (by simp[iE])
 have s3:=kR (x:={ai[t] with dj:=0,id:=0}) (x':={ai[t] with dj:=0,id:=0,to:=0}) (j:=8) (v:= .int .u64 0) (by omega) (by simp[iE])
 have s4:=kR (x:={ai[t] with dj:=0,id:=0,to:=0}) (x':={ai[t] with dj:=0,id:=0,to:=0,done:=0}) (j:=9) (v:= .int .i64 0) (by omega) (by simp[iE])
 have s5:=kR (x:={ai[t] with dj:=0,id:=0,to:=0,done:=0}) (x':={ai[t] with dj:=0,id:=0,to:=0,done:=0,n:=0}) (j:=10) (v:= .int .i64 0) (by omega) (by simp[iE])
 simp+decide only[st,xv,pC,af7,af6,cy,ct,s1,s2,s3,s4,s5,@set_set]
 generalize hρ:put _ _ _=ρ1
 have r0:ρ1 1= .int .i64 t:=by rw[<-hρ];rfl
 have r3:ρ1 3= .int .i64 done:=by rw[<-hρ];rfl
 have r6:ρ1 6= .ptr h.next 0:=by rw[<-hρ];rfl
 have r8:ρ1 8= .ptr (h.next+1) 0:=by rw[<-hρ];rfl
 have gj:ρ1 10= .ptr X.next 0:=by rw[<-hρ];rfl
 clear hρ
 obtain⟨W,hW⟩: ∃W,W=Y.set a.tb (some (.cells (aX aS (ai.set t (pY ai[t]))).flatten)):=⟨_,rfl⟩
 have kX:=hW
 unfold pY at kX
 rw[<-kX]
 have XW:KX W X.next a lb N M t (ai.set t (pY ai[t])) ah ⟨t,0,0,[]⟩:=by
  have tB:=tv.ak _ (List.getElem_mem ht)
  rw[hW];exact XY.mq (x:=pY ai[t]) tB
 have xfW:XF h W a lb X.next:=by rw[hW];exact(XF.old hold).mq
 have ntb: ∀b,h.next<=b->b≠a.tb:=fun b hb=>by omega
 have w0:cellsOf W h.next=_:=(show cellsOf W h.next=cellsOf Y h.next by rw[hW];unfold cellsOf;simp only[aa.set];rw[if_neg (by omega)]).trans y0
 have w1:cellsOf W (h.next+1)=_:=(show cellsOf W (h.next+1)=cellsOf Y (h.next+1) by rw[hW];unfold cellsOf;simp only[aa.set];rw[if_neg (by omega)]).trans y1
 have nW:W.next=h.next+3:=by rw[hW];exact yn
 clear hW kX
 simp only[fi] at w0
 have hx:(ai.set t (pY ai[t]))[t]'XW.ht=pY ai[t]:=by simp
 obtain⟨h1,hc,hD⟩:=aiv ok XW (tl:=aK) (done:=done) k gh hN hM eE (by rw[hx];exact ho) rfl rfl
 rw[hx] at hc hD
 generalize hDD:jW t (pY ai[t]) ah c done=D at*
 obtain⟨oS,⟨dB,N1,M1,X1,vl,eo,tN,tO⟩,kT⟩:=hD
 rw[List.set_set] at X1
 simp+decide only[st,xv,pC,Sv,r0,r3,r6,r8,gj,w0]
 refine au hc ?_
 simp+decide only[st,xv,pC,Sv,xr]
 have ltw:=XW.k.bt
 have uZ: ∀b,h.next<=b-> ¬FK a b/\ ¬FA a lb b/\ ¬FS a b:=fun b hb=>⟨fun e=>by have:=bt _ (.inl e);omega,fun e=>by have:=bt _ (.inr (.inl e));omega,fun e=>by have:=bt _ (.inr (.inr e));omega⟩
 have z1:cellsOf h1 (h.next+1)=_:=(show cellsOf h1 (h.next+1)=cellsOf W (h.next+1) by
  unfold cellsOf
  rw[vl.2 _ (by omega) (uZ _ (by omega)).1 (uZ _ (by omega)).2.1 (uZ _ (by omega)).2.2 (by omega)]).trans w1
 have nh1:=vl.1
 have l1x:=X1.lx
 obtain⟨rt,pe⟩:=X1.x
 have AY:=av pe
 have aM: ¬X.next=h.next+1:=by omega
 have JM:dB=lb\/h.next<=dB:=by
  rcases eo with e|e
  ·exact .inl e
  ·exact .inr (by omega)
 have hq: ∀(b:Option cF),V.ai=ai.set t D.th->V.ah=D.ah->Q (h1.set (h.next+1) b):=by
  intro b e1 e2
  refine(hQ _).2 ?_
  rw[e1,e2]
  have hz: ∀b',b'≠h.next+1->(h1.set (h.next+1) b).get b'=h1.get b':=fun b' bE=>by simp only[aa.set];rw[if_neg bE]
  have Ux:=X1.k.bt
  refine⟨dB,N1,M1,X1.k.bN (h':=h1.set (h.next+1) b) (Nat.le_refl _) (fun b' bE hf=>hz b' ?_) (Nat.le_refl _) (Nat.le_refl _),⟨by show h.next<=h1.next;omega,fun b' bE f1 f2 f3=>?_⟩,JM,tN,tO,X1.tv,X1.root⟩
  ·intro e
   subst e
   rcases hf with f|f|f
   ·exact(uZ _ (by omega)).1 f
   ·rcases eo with e|e
    ·rw[e] at f;exact(uZ _ (by omega)).2.1 f
    ·rcases f with f|f|f
     ·exact(uZ _ (by omega)).2.1 (.inl f)
     ·exact(uZ _ (by omega)).2.1 (.inr (.inl f))
     ·omega
   ·exact(uZ _ (by omega)).2.2 f
  ·rw[hz b' (by omega),vl.2 b' (by omega) f1 f2 f3 (by omega),xfW.2 b' bE f1 f2 f3 (by omega)]
 simp only[Rp.c] at z1
 unfold told at hV
 cases nJ:D.is with
 |false=>
  simp+decide only[st,xv,pC,Jm,af5,r8,z1,nJ,xr,pF]
  rw[nJ] at hV
  exact(mJ _ _).2 ⟨by rw[hV];rfl,hq _ (by rw[hV]) (by rw[hV])⟩
 |true=>
  by_cases he:D.err=0
  ·have dN:((D.err:Int)=0)=True:=eq_true (by omega)
   simp+decide only[st,xv,pC,Jm,Su,af3,r8,gj,z1,AY,nJ,dN,xr,pF]
   have e1:=kT nJ he
   rw[nJ,he] at hV
   refine(mJ _ _).2 ⟨?_,hq _ (by rw[hV]) (by rw[hV])⟩
   rw[hV,e1]
   simp only[AV.strip,AV.bH,jQ]
   rfl
  ·have dN:((D.err:Int)=0)=False:=eq_false (by omega)
   simp+decide only[st,xv,pC,Jm,Su,af4,r0,r8,z1,nJ,dN,xr,pF]
   rw[nJ,if_neg (by decide),if_pos he] at hV
   exact(mJ _ _).2 ⟨by rw[hV];rfl,hq _ (by rw[hV]) (by rw[hV])⟩
end
section
open Go
variable {P:Program} {h:aa} {a:KA} {lb N M:Nat} {ai:List Th} {ah:List Ob} {g:Nat->Option (List UInt8)} {xb:Nat} {rp:Rp}
def eH (t:Int) (ai:List Th) (ah:List Ob) (c:Cl):Cr:=if lR ai t=false then⟨lN,false,ai,ah⟩ else if kL ai t then⟨lN,false,ai,ah⟩ else match ai[t.toNat]? with
 |some x=>kH t.toNat ai x ah c 0
 |none=>⟨lN,false,ai,ah⟩
def k8:Cl:=⟨0,0,0,0,0,0,⟨0,[]⟩,qj,[],[]⟩
def kp (t:Int) (ai:List Th) (ah:List Ob):Cr:=if kL ai t=false then⟨lN,false,ai,ah⟩ else match ai[t.toNat]? with
 |some x=>if x.dj=1 then kH t.toNat ai x ah {k8 with op:=9,id:=x.id} 0 else kH t.toNat ai x ah {k8 with op:=10,id:=x.id,to:=x.to,n:=x.n} x.done
 |none=>⟨lN,false,ai,ah⟩
structure nu (ai:List Th) (ah:List Ob):Prop where
 tv:TV ai
 root: ∃r,bg ah 1=some r
 tree:Tree ah
 own: ∀x∈ai,0<=x.own/\x.id<2^64/\x.to<2^64
theorem ju.same (K:KH h a lb N M ai ah (eF ah)) (I:nu ai ah) {h':aa} (o:Old h h'):ju h a lb N M ai ah h':=⟨lb,N,M,K.old o, .old o, .inl rfl,by omega,by omega,I.tv,I.root⟩
theorem ju.from {Y h':aa} (o:Old h Y) (e:ju Y a lb N M ai ah h'):ju h a lb N M ai ah h':=by
 obtain⟨aT,N',M',K,kf,hl,hN,hM,tv,rt⟩:=e
 refine⟨aT,N',M',K,(KF.old (lb:=lb) o).trans kf (.inl rfl),?_,hN,hM,tv,rt⟩
 rcases hl with e|e
 ·exact .inl e
 ·exact .inr (Nat.le_trans o.next e)
theorem ju.get {Y h1:aa} (e:ju Y a lb N M ai ah h1) (bt: ∀b,FK a b\/FA a lb b\/FS a b->b<h.next) {i:Nat} (hi:h.next<=i) (AH:i<Y.next):h1.get i=Y.get i:=by
 obtain⟨dB,N1,M1,K,kf,hl,hN,hM,tv,rt⟩:=e
 exact kf.2 i AH (fun e=>by have:=bt _ (.inl e);omega) (fun e=>by have:=bt _ (.inr (.inl e));omega) (fun e=>by have:=bt _ (.inr (.inr e));omega)
theorem ju.sU {Y h1:aa} (o:Old h Y) (e:ju Y a lb N M ai ah h1) (bt: ∀b,FK a b\/FA a lb b\/FS a b->b<h.next) {i:Nat} (hi:h.next<=i) (AH:i<Y.next) (b:Option cF):ju h a lb N M ai ah (h1.set i b):=by
 obtain⟨dB,N1,M1,K,kf,hl,hN,hM,tv,rt⟩:=e
 have hz: ∀b',b'≠i->(h1.set i b).get b'=h1.get b':=fun b' bE=>by simp only[aa.set];rw[if_neg bE]
 have on:=o.next
 refine⟨dB,N1,M1,K.bN (h':=h1.set i b) (Nat.le_refl _) (fun b' bE hf=>hz b' ?_) (Nat.le_refl _) (Nat.le_refl _),⟨by have:=kf.1;show h.next<=h1.next;omega,fun b' bE f1 f2 f3=>?_⟩,?_,hN,hM,tv,rt⟩
 ·intro e
  subst e
  rcases hf with f|f|f
  ·have:=bt _ (.inl f);omega
  ·rcases hl with e|e
   ·rw[e] at f;have:=bt _ (.inr (.inl f));omega
   ·rcases f with f|f|f
    ·have:=bt _ (.inr (.inl (.inl f)));omega
    ·have:=bt _ (.inr (.inl (.inr (.inl f))));omega
    ·omega
  ·have:=bt _ (.inr (.inr f));omega
 ·rw[hz b' (by omega),kf.2 b' (by omega) f1 f2 f3,o.get b' bE]
 ·rcases hl with e|e
  ·exact .inl e
  ·exact .inr (by omega)
theorem akg (ok:ax P tb) (K:KH h a lb N M ai ah (eF ah)) (I:nu ai ah) {t:Int} {c:Cl} {tl:Nat->aG} (k:fO c) (gh:c.op=3->ei c.ak=true/\jZ c.bV=true) (hN:N+1<2^19) (hM:M<128) (eE:c.op=6->ah.length<=12):
 ∃h',an P 14 [.ptr a.kb 0, .int .i64 t, .agg (c.c tl)] h (eH t ai ah c).v h'/\ju h a lb N M (eH t ai ah c).ai (eH t ai ah c).ah h':=by
 obtain⟨V,hV⟩: ∃V,V=eH t ai ah c:=⟨_,rfl⟩
 rw[<-hV]
 obtain⟨Q,hQ⟩: ∃Q:aa->Prop,∀h',Q h'↔ju h a lb N M V.ai V.ah h':=⟨_,fun _=>Iff.rfl⟩
 obtain⟨Q2,mJ⟩: ∃Q2:AV->aa->Prop,∀v h',Q2 v h'↔(v.strip=V.v/\Q h'):=⟨_,fun _ _=>Iff.rfl⟩
 suffices hu: ∃v h',an P 14 [.ptr a.kb 0, .int .i64 t, .agg (c.c aK)] h v h'/\Q2 v h' by
  obtain⟨v,h',c1,vv⟩:=hu
  obtain⟨hv,hq⟩:=(mJ _ _).1 vv
  refine⟨h',an.ao ?_,(hQ h').1 hq⟩
  simp only[AV.bH,AV.strip,yM]
  rw[<-hv]
  exact c1.strip
 unfold eH at hV
 refine ok.uv (rf:=qI) rfl (Nat.le_of_ble_eq_true rfl) ?_
 have bt:=K.bt
 simp+decide only[st,xv,qI,agz,fi]
 generalize hX:aa.at _ _ _=X
 have xo:Old h X:=by rw[<-hX];exact((Old.refl h).at (Nat.le_refl _)).at (by omega)
 have x0:cellsOf X h.next=some (c.c aK):=by rw[<-hX];exact av (by simp[aa.at];rfl)
 have x1:cellsOf X (h.next+1)=some (lN.c .full):=by rw[<-hX];exact av (by simp[aa.at];rfl)
 have xn:X.next=h.next+2:=by rw[<-hX];simp[aa.at]
 have pE:=K.old xo
 simp only[fi] at x0
 simp only[Rp.c] at x1
 have no:V=⟨lN,false,ai,ah⟩-> ∀b,Q (X.set (h.next+1) b):=fun e b=>(hQ _).2 (by
  rw[e]
  exact(ju.same pE I (Old.refl X)).sU xo bt (by omega) (by omega) b)
 simp+decide only[st,xv,qI,zY]
 refine au (Xo ok pE) ?_
 cases nJ:lR ai t with
 |false=>
  rw[if_pos nJ] at hV
  simp+decide only[st,xv,qI,zY,SR,x1,xr,pF]
  exact(mJ _ _).2 ⟨by rw[hV];rfl,no hV _⟩
 |true=>
  rw[if_neg (by simp[nJ])] at hV
  simp+decide only[st,xv,qI,zY]
  refine au (Bj ok pE) ?_
  cases hb:kL ai t with
  |true=>
   rw[if_pos hb] at hV
   simp+decide only[st,xv,qI,zY,SR,x1,xr,pF]
   exact(mJ _ _).2 ⟨by rw[hV];rfl,no hV _⟩
  |false=>
   rw[if_neg (by simp[hb])] at hV
   obtain⟨n,rfl,hn⟩:=Md nJ
   rw[Int.toNat_natCast,List.getElem?_eq_getElem hn] at hV
   simp only at hV
   have i4:=I.own _ (List.getElem_mem hn)
   obtain⟨h1,hc,hE⟩:=K8 ok pE I.tv I.root hn (tl:=aK) (done:=0) k (fun e=>⟨I.tree,gh e⟩) hN hM eE i4.1
   rw[<-hV] at hc hE
   have z1:cellsOf h1 (h.next+1)=_:=(show cellsOf h1 (h.next+1)=cellsOf X (h.next+1) by unfold cellsOf;rw[hE.get bt (by omega) (by omega)]).trans x1
   simp+decide only[st,xv,qI,zY,SQ,x0,xr]
   refine au hc ?_
   simp+decide only[st,xv,qI,SQ,z1,Cr.v,Rp.c,xr,pF]
   exact(mJ _ _).2 ⟨by simp only[AV.strip,AV.bH,jQ];rfl,(hQ _).2 (hE.sU xo bt (by omega) (by omega) _)⟩
end
section
open Go
variable {P:Program} {h:aa} {a:KA} {lb N M:Nat} {ai:List Th} {ah:List Ob} {g:Nat->Option (List UInt8)} {xb:Nat} {rp:Rp}
theorem ake (ok:ax P tb) (K:KH h a lb N M ai ah (eF ah)) (I:nu ai ah) {t:Int} (hN:N+1<2^19) (hM:M<128):
 ∃h',an P 17 [.ptr a.kb 0, .int .i64 t] h (kp t ai ah).v h'/\ju h a lb N M (kp t ai ah).ai (kp t ai ah).ah h':=by
 obtain⟨V,hV⟩: ∃V,V=kp t ai ah:=⟨_,rfl⟩
 rw[<-hV]
 obtain⟨Q,hQ⟩: ∃Q:aa->Prop,∀h',Q h'↔ju h a lb N M V.ai V.ah h':=⟨_,fun _=>Iff.rfl⟩
 obtain⟨Q2,mJ⟩: ∃Q2:AV->aa->Prop,∀v h',Q2 v h'↔(v.strip=V.v/\Q h'):=⟨_,fun _ _=>Iff.rfl⟩
 suffices hu: ∃v h',an P 17 [.ptr a.kb 0, .int .i64 t] h v h'/\Q2 v h' by
  obtain⟨v,h',c1,vv⟩:=hu
  obtain⟨hv,hq⟩:=(mJ _ _).1 vv
  refine⟨h',?_,(hQ h').1 hq⟩
  rw[<-hv]
  exact c1.strip
 unfold kp at hV
 refine ok.uv (rf:=pD) rfl (Nat.le_of_ble_eq_true rfl) ?_
 have bt:=K.bt
 simp+decide only[st,xv,pD,agx]
 generalize hX:aa.at _ _ _=X
 have xo:Old h X:=by rw[<-hX];exact(Old.refl h).at (Nat.le_refl _)
 have x1:cellsOf X h.next=some (lN.c .full):=by rw[<-hX];exact av (by simp[aa.at];rfl)
 have xn:X.next=h.next+1:=by rw[<-hX];simp[aa.at]
 have pE:=K.old xo
 simp only[Rp.c] at x1
 have no:V=⟨lN,false,ai,ah⟩-> ∀b,Q (X.set h.next b):=fun e b=>(hQ _).2 (by
  rw[e]
  exact(ju.same pE I (Old.refl X)).sU xo bt (by omega) (by omega) b)
 simp+decide only[st,xv,pD,Jo]
 refine au (Bj ok pE) ?_
 cases hb:kL ai t with
 |false=>
  rw[if_pos hb] at hV
  simp+decide only[st,xv,pD,Jo,agw,x1,xr,pF]
  exact(mJ _ _).2 ⟨by rw[hV];rfl,no hV _⟩
 |true=>
  rw[if_neg (by simp[hb])] at hV
  have nJ:lR ai t=true:=by
   unfold kL at hb
   simp only[Bool.and_eq_true] at hb
   exact hb.1
  obtain⟨n,rfl,hn⟩:=Md nJ
  rw[Int.toNat_natCast,List.getElem?_eq_getElem hn] at hV
  simp only at hV
  have i4:=I.own _ (List.getElem_mem hn)
  have ck:=av pE.top
  have ct:=av pE.cj
  have aC:(n:Int)<(ai.length:Int):=by omega
  have hle:(aX aS ai).flatten.length=ai.length*12:=by rw[jg ma,iX]
  have i5:n*12+12<=(aX aS ai).flatten.length:=by omega
  have cu:=Gm (rows:=aX aS ai) (i:=n) (by rw[iX];exact hn) ma
  rw[show(aX aS ai)[n]'(by rw[iX];exact hn)=ai[n].c aS by simp[aX]] at cu
  generalize hx:ai[n]=x at*
  simp only[Th.c] at cu
  simp+decide only[st,xv,pD,Jo,agv,ck,ct,aC,i5,cu,xr]
  generalize hY:aa.set _ _ _=Y
  have oY:Old X Y:=by rw[<-hY];exact((Old.refl X).at (Nat.le_refl _)).set (Nat.le_refl _)
  have cY:cellsOf Y X.next=some (x.c aS):=by rw[<-hY];exact av (by simp[aa.set];try rfl)
  have nY:Y.next=X.next+1:=by rw[<-hY];simp[aa.at,aa.set]
  have hold:=xo.trans oY
  have KY:=K.old hold
  have y1:cellsOf Y h.next=_:=(show cellsOf Y h.next=cellsOf X h.next by unfold cellsOf;rw[oY.get _ (by omega)]).trans x1
  simp only[Th.c] at cY
  by_cases hd:x.dj=1
  ·have nN:(x.dj=1)=True:=eq_true hd
   rw[if_pos hd] at hV
   simp+decide only[st,xv,pD,SP,SO,cY,nN,xr]
   obtain⟨h1,hc,hE⟩:=K8 ok KY I.tv I.root hn (c:={k8 with op:=9,id:=x.id}) (tl:=fun _=> .full) (done:=0) ⟨sH,Nat.zero_le _,i4.2.1,(by decide:0<2^64),(by decide:0<2^20),(by decide:0<2^16),fun _ h=>by cases h⟩ (fun e=>by cases e) hN hM (fun e=>by cases e) (by rw[hx];exact i4.1)
   rw[hx,<-hV] at hc hE
   have z1:cellsOf h1 h.next=_:=(show cellsOf h1 h.next=cellsOf Y h.next by unfold cellsOf;rw[hE.get bt (by omega) (by omega)]).trans y1
   refine au hc ?_
   simp+decide only[st,xv,pD,SO,z1,Cr.v,Rp.c,xr,pF]
   exact(mJ _ _).2 ⟨by simp only[AV.strip,AV.bH,jQ];rfl,(hQ _).2 (hE.sU hold bt (by omega) (by omega) _)⟩
  ·have nN:(x.dj=1)=False:=eq_false hd
   rw[if_neg hd] at hV
   simp+decide only[st,xv,pD,SP,SN,cY,nN,xr]
   obtain⟨h1,hc,hE⟩:=K8 ok KY I.tv I.root hn (c:={k8 with op:=10,id:=x.id,to:=x.to,n:=x.n}) (tl:=fun _=> .full) (done:=x.done) ⟨sH,Nat.zero_le _,i4.2.1,i4.2.2,(by decide:0<2^20),(by decide:0<2^16),fun _ h=>by cases h⟩ (fun e=>by cases e) hN hM (fun e=>by cases e) (by rw[hx];exact i4.1)
   rw[hx,<-hV] at hc hE
   have z1:cellsOf h1 h.next=_:=(show cellsOf h1 h.next=cellsOf Y h.next by unfold cellsOf;rw[hE.get bt (by omega) (by omega)]).trans y1
   refine au hc ?_
   simp+decide only[st,xv,pD,SN,z1,Cr.v,Rp.c,xr,pF]
   exact(mJ _ _).2 ⟨by simp only[AV.strip,AV.bH,jQ];rfl,(hQ _).2 (hE.sU hold bt (by omega) (by omega) _)⟩
end
end Go.Proofs.YtljapedlkdfafaaGreat.Am
