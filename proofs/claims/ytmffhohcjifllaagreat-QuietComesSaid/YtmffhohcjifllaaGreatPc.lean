/- An abstract machine, and that what it does the program's model does. Conditions: none. -/
import Derived.Test.YtmffhohcjifllaaGreatPb
set_option maxRecDepth 100000
set_option maxHeartbeats 8000000
set_option linter.unusedSimpArgs false
set_option linter.unusedVariables false
set_option linter.unnecessarySimpa false
namespace Go.Proofs.YtmffhohcjifllaaGreat.Am
section
open Go
variable {P:Program} {T:fk} {h:aa}
def Fg:List RO:=[p 6 (.aj (.const (.vs [] .full)))]
def Ff:List RO:=[m 10 0,m 11 1,p 12 (.b9 2 (t 10) (some (t 11)) none none)]
def Fe:List RO:=[m 13 2,ln 14 13,m 7 14]
def Fc:List RO:=[m 15 7,b 16 .eql (t 15) (z 0)]
def UY:List RO:=[m 17 0,m 6 17]
def Fb:List RO:=[m 18 0,ln 19 18,m 8 19]
def Fa:List RO:=[m 20 1,m 21 8,b 22 .eql (t 20) (t 21)]
def UX:List RO:=[m 23 0,m 24 2,e 25 (.kF 4 2 (t 23) (t 24)),m 6 25]
def UW:List RO:=[m 26 8,m 27 7,b 28 .add (t 26) (t 27),m 29 0,p 30 (.tX (t 29)),b 31 .gtr (t 28) (t 30)]
def aiK:List RO:=[m 32 0,m 33 1,p 34 (.b9 2 (t 32) none (some (t 33)) none),m 35 8,m 36 7,b 37 .add (t 35) (t 36),m 38 1,b 39 .sub (t 37) (t 38),e 40 (.po 4 [(.int .u16 0),(.int .u8 0)] (t 34) (t 39)),m 9 40]
def aec:List RO:=[m 41 9,m 42 1,p 43 (.b9 2 (t 41) (some (t 42)) none none),m 44 2,e 45 (.copy 2 (t 43) (t 44))]
def aeb:List RO:=[m 46 9,m 47 1,m 48 7,b 49 .add (t 47) (t 48),p 50 (.b9 2 (t 46) (some (t 49)) none none),m 51 0,m 52 1,p 53 (.b9 2 (t 51) (some (t 52)) none none),e 54 (.copy 2 (t 50) (t 53))]
def aea:List RO:=[m 55 9,m 6 55]
def ad9:List RO:=[m 56 0,m 57 8,m 58 7,b 59 .add (t 57) (t 58),p 60 (.b9 2 (t 56) none (some (t 59)) none),m 0 60]
def ad8:List RO:=[m 61 2,m 62 0,m 63 1,m 64 7,b 65 .add (t 63) (t 64),p 66 (.b9 2 (t 62) (some (t 65)) none none),p 67 (.pM 2 (t 61) (t 66)),p 68 (.un .not (t 67))]
def ad7:List RO:=[m 69 0,m 70 1,m 71 7,b 72 .add (t 70) (t 71),p 73 (.b9 2 (t 69) (some (t 72)) none none),m 74 0,m 75 1,p 76 (.b9 2 (t 74) (some (t 75)) none none),e 77 (.nO 2 (t 73) (t 76))]
def ad6:List RO:=[m 78 0,m 79 1,p 80 (.b9 2 (t 78) (some (t 79)) none none),m 81 2,e 82 (.nO 2 (t 80) (t 81))]
def ad5:List RO:=[m 83 0,m 6 83]
def nN (rest:aZ):aA:=⟨(.seq (.af Fg) (.seq (.af Ff) (.seq (.af Fe) (.seq (.seq (.af Fc) (.cond (t 16) (.seq (.af UY) .ret) .skip)) (.seq (.af Fb) (.seq (.seq (.af Fa) (.cond (t 22) (.seq (.af UX) .ret) .skip)) (.seq (.seq (.af UW) (.cond (t 31) (.seq (.af aiK) (.seq (.af aec) (.seq (.aU aeb [[],[],[],[],[],[],[],[],[]]) (.seq (.af aea) .ret)))) .skip)) (.seq (.af ad9) (.seq (.seq (.af ad8) (.cond (t 68) (.seq (.aU ad7 [[],[],[],[],[],[],[],[],[]]) (.seq (.af ad6) (.seq (.af ad5) .ret))) .skip)) rest))))))))),95,[.tmp 6]⟩
def ka (cs row:List AV) (i:Nat):List AV:=cs.take (i*2)++row++cs.drop (i*2)
theorem aoG (ok:ax P T) {f:Nat} {rest:aZ} (hf:T.fn f=some (nN rest)) {b n:Nat} {row cs:List AV} {tl:aH} (hg:h.get b=some (.cells cs)) (hl:cs.length=n*2) (hr:row.length=2) (hn:n<2^30):
 an P f [.rs b 0 n 2, .int .i64 n, .vs [row] tl] h (.rs h.next 0 (n+1) 2) ((h.set b none).at h.next (.cells (ka cs row n))):=by
 refine ok.calls hf (by simp[nN]) ?_
 have hc:=av hg
 have awA:ka cs row n=cs.take (n*2)++[row].flatten:=by simp[ka,List.drop_of_length_le (show cs.length<=n*2 by omega)]
 have ha:fp 4 2 h.next h (.rs b 0 n 2) (some [row])=some (.rs h.next 0 (n+1) 2,(h.set b none).at h.next (.cells (ka cs row n))):=by
  simp only[fp,hc,Option.bind_some,awA,List.length_singleton]
  rw[if_neg (by simp),if_pos ⟨trivial,trivial,by omega,by omega,by omega⟩]
 have h0:(0:Int)<=n:=by omega
 simp+decide only[st,nN,Fg,Ff,Fe,Fc,UY,Fb,Fa,UX,Nf,h0,Int.toNat_natCast,Nat.le_refl,hr,ha]
theorem GP {cs:List AV} {off sz n:Nat} (h:off+n*sz<=cs.length):(rowsOf cs off sz n).length=n/\(∀r∈rowsOf cs off sz n,r.length=sz)/\(rowsOf cs off sz n).flatten=(cs.drop off).take (n*sz):=by
 obtain⟨e1,e2,e3⟩:=zi cs sz n off h
 exact⟨e1,fun r hr=>(e2 r hr).1,e3⟩
theorem anF (ok:ax P T) {f:Nat} {rest:aZ} (hf:T.fn f=some (nN rest)) {b i k cap:Nat} {row cs:List AV} {tl:aH} (hb:b<h.next) (hg:h.get b=some (.cells cs)) (hl:cs.length=(i+k+1)*2) (hr:row.length=2) (hn:i+k+1<2^30)
 (bn:i+k+1<=cap) (bk:cap<i+k+2):
 ∃h1,an P f [.rk b 0 (i+k+1) 2 cap, .int .i64 i, .vs [row] tl] h (.rs h.next 0 (i+k+2) 2) h1/\h1.get h.next=some (.cells (ka cs row i))/\h1.next<=h.next+19/\ ∀x,x<h.next->h1.get x=h.get x:=by
 have hc:=av hg
 have h0:(0:Int)<=i:=by omega
 have h1:(0:Int)<=((i+1:Nat):Int):=by omega
 have Fm: ¬((i:Int)=((i+k+1:Nat):Int)):=by omega
 have oJ:IntKind.wrap .i64 (((i+k+1:Nat):Int)+1)=((i+k+2:Nat):Int):=by rw[bw]<;>omega
 have sQ:IntKind.wrap .i64 (((i+k+2:Nat):Int)-i)=((k+2:Nat):Int):=by rw[bw]<;>omega
 have uh:=cT (show i<2^61 by omega)
 have Gi:((cap:Int)<((i+k+2:Nat):Int)):=by omega
 have uz: ¬cap=i:=by omega
 have BI: ¬cap=0:=by omega
 have yg:i<=i+k+1:=by omega
 have xL:i<=i+k+2:=by omega
 have Jy:i+1<=i+k+2:=by omega
 have vm:i<=cap:=by omega
 have hnb: ¬b=h.next:=by omega
 have awx: ¬i=i+k+2:=by omega
 have aww: ¬i+1=i+k+2:=by omega
 have dg:i+k+2-i=k+2:=by omega
 have xK:i+k+2-(i+1)=k+1:=by omega
 have auq:i+k+1-i=k+1:=by omega
 obtain⟨rl,ru,rf⟩:=GP (cs:=cs) (off:=0) (sz:=2) (n:=i) (by omega)
 obtain⟨V0,ru2,V1⟩:=GP (cs:=cs) (off:=i*2) (sz:=2) (n:=k+1) (by omega)
 have UP:(rowsOf cs (i*2) 2 (k+1)).flatten=cs.drop (i*2):=by rw[V1,List.take_of_length_le (by simp;omega)]
 let z:List AV:=[.int .u16 0, .int .u8 0]
 let X0:List AV:=cs.take (i*2)++(List.replicate (k+2) z).flatten
 have iv:(List.replicate (k+2) z).flatten.length=(k+2)*2:=by
  have:=zA (rows:=List.replicate (k+2) z) (sz:=2) (fun r hr=>by rw[List.eq_of_mem_replicate hr];rfl)
  simpa using this
 have hX0:X0.length=(i+k+2)*2:=by simp only[X0,List.length_append,iv,List.length_take];omega
 let X1:=dq X0 (i*2) row
 have Gq:X1.length=(i+k+2)*2:=by simp only[X1];rw[Mu _ _ _ (by omega)];exact hX0
 let X2:=dq X1 ((i+1)*2) (cs.drop (i*2))
 have hX2:X2=ka cs row i:=by
  have e0:X0.take (i*2)=cs.take (i*2):=List.take_left' (by simp;omega)
  have e1:(cs.take (i*2)++row).length=(i+1)*2:=by simp[hr];omega
  have e2:X1=(cs.take (i*2)++row)++X0.drop (i*2+row.length):=by simp only[X1,dq,e0]
  have e3:X1.take ((i+1)*2)=cs.take (i*2)++row:=by rw[e2];exact List.take_left' e1
  have e4:X1.drop ((i+1)*2+(cs.drop (i*2)).length)=[]:=List.drop_eq_nil_of_le (by rw[Gq];simp;omega)
  simp only[X2,dq,ka,e3,e4,List.append_nil]
 have hz:vH 4 z h.next h (.rk b 0 i 2 cap) (.int .i64 ((k+2:Nat):Int))=some (.rs h.next 0 (i+(k+2)) 2,h.at h.next (.cells X0)):=by
  simp only[vH]
  rw[if_pos (by omega)]
  simp only[hc,Option.bind_some,Int.toNat_natCast]
  rw[if_pos ⟨rfl,by omega,by show 0+i*2<=cs.length;omega,by omega,by omega⟩]
  have:(rowsOf cs 0 z.length i++List.replicate (k+2) z).flatten=X0:=by
   rw[List.flatten_append]
   simp only[X0]
   congr 1
  rw[this];rfl
 have Wk:vH 4 [.int .u16 0, .int .u8 0] h.next h (.rk b 0 i 2 cap) (.int .i64 ((k+2:Nat):Int))=some (.rs h.next 0 (i+k+2) 2,h.at h.next (.cells X0)):=hz
 have kB: ∀X:List AV,(h.at h.next (.cells X)).get h.next=some (.cells X):=fun X=>by simp[aa.at]
 have Ve:AB 2 (h.at h.next (.cells X0)) (.rs h.next (i*2) (k+2) 2) (.vs [row] tl)=some (.int .i64 1,h.at h.next (.cells X1)):=by
  have hm:min 1 (k+2)=1:=by omega
  have e:(h.at h.next (.cells X0)).set h.next (some (.cells X1))=h.at h.next (.cells X1):=by
   unfold aa.at aa.set
   congr 1
   funext x;by_cases hx:x=h.next<;>simp[hx]
  simp only[AB,cQ,av (kB X0),dF,hr,beq_self_eq_true,if_true,Option.bind_some,List.length_singleton,hm]
  rw[if_pos ⟨trivial,by rw[hX0];omega⟩]
  simp only[List.take_succ_cons,List.take_zero,List.flatten_cons,List.flatten_nil,List.append_nil]
  rw[<-e];rfl
 obtain⟨H1,jR⟩: ∃H,H=h.at h.next (.cells X1):=⟨_,rfl⟩
 have Xc:H1.next=h.next+1:=by rw[jR];simp[aa.at]
 have H1g:H1.get h.next=some (.cells X1):=by rw[jR];exact kB X1
 have H1o: ∀x,x<h.next->H1.get x=h.get x:=fun x hx=>by rw[jR];simp[aa.at,show¬x=h.next by omega]
 have dj: ∀x,x<h.next+1->(H1.clean 9).get x=H1.get x:=fun x hx=>by simp[aa.clean,Xc,hx]
 have dm:cellsOf (H1.clean 9) b=some cs:=av (by rw[dj b (by omega),H1o b hb];exact hg)
 have hcn:cellsOf (H1.clean 9) h.next=some X1:=av (by rw[dj _ (by omega)];exact H1g)
 let H2:=(H1.clean 9).set h.next (some (.cells X2))
 have Vc:AB 2 (H1.clean 9) (.rs h.next ((i+1)*2) (k+1) 2) (.rk b (i*2) (k+1) 2 (cap-i))=some (.int .i64 ((k+1:Nat):Int),H2):=by
  have hm:min (k+1) (k+1)=k+1:=by omega
  simp only[AB,cQ,dm,hcn,if_true]
  rw[if_pos (by omega)]
  simp only[Option.bind_some,V0,hm]
  rw[if_pos ⟨trivial,by rw[Gq];omega⟩,List.take_of_length_le (by rw[V0];exact Nat.le_refl _),UP]
 have fF:cU 9 (h.next+1) 8 H2:=fun j j1 j2=>by omega
 refine⟨H2,?_,?_,?_,?_⟩
 ·refine ok.calls hf (by simp[nN]) ?_
  simp+decide only[st,nN,Fg,Ff,Fe,Fc,Fb,Fa,UW,h0,Int.toNat_natCast,Fm,oJ,Gi,yg,bn,uz,vm,Nat.le_refl,hr]
  simp+decide only[st,aiK,aec,h0,Int.toNat_natCast,BI,oJ,sQ,yg,vm,Nat.zero_le,Nat.zero_mul,Nat.mul_zero,Nat.add_zero,Nat.zero_add,Nat.sub_zero,Nat.le_refl,Wk,Nf,Zr,xL,awx,dg,Ve]
  rw[<-jR]
  refine bJ 9 rfl rfl ?_
  rw[Xc]
  simp+decide only[st,aeb,aea,h0,h1,uh,Int.toNat_natCast,Nf,Zr,yg,Jy,aww,xK,auq,uz,vm,bn,Vc,Nat.zero_add,Nat.le_refl]
  exact fF
 ·rw[<-hX2];simp[H2,aa.set]
 ·simp[H2,aa.set,aa.clean,Xc]
 ·intro x hx
  have: ¬x=h.next:=by omega
  simp only[H2,aa.set,if_neg this]
  rw[dj x (by omega),H1o x hx]
theorem amn (ok:ax P T) {f:Nat} {rest:aZ} (hf:T.fn f=some (nN rest)) {b i k cap:Nat} {row cs:List AV} {tl:aH} (hb:b<h.next) (hg:h.get b=some (.cells cs)) (hl:cs.length=(i+k+1)*2) (hr:row.length=2) (hn:i+k+1<2^30)
 (bk:i+k+2<=cap):
 ∃h1,an P f [.rk b 0 (i+k+1) 2 cap, .int .i64 i, .vs [row] tl] h (.rk b 0 (i+k+2) 2 cap) h1/\h1.get b=some (.cells (ka cs row i))/\h1.next<=h.next+19/\ ∀x,x<h.next->x≠b->h1.get x=h.get x:=by
 have hc:=av hg
 have h0:(0:Int)<=i:=by omega
 have h1:(0:Int)<=((i+1:Nat):Int):=by omega
 have h2:(0:Int)<=((i+k+2:Nat):Int):=by omega
 have Fm: ¬((i:Int)=((i+k+1:Nat):Int)):=by omega
 have oJ:IntKind.wrap .i64 (((i+k+1:Nat):Int)+1)=((i+k+2:Nat):Int):=by rw[bw]<;>omega
 have uh:=cT (show i<2^61 by omega)
 have Gi: ¬((cap:Int)<((i+k+2:Nat):Int)):=by omega
 have uz: ¬cap=i:=by omega
 have aiY: ¬cap=i+1:=by omega
 have BI: ¬cap=0:=by omega
 have yg:i<=i+k+1:=by omega
 have xL:i<=i+k+2:=by omega
 have Jy:i+1<=i+k+2:=by omega
 have bn:i+k+1<=cap:=by omega
 have vm:i<=cap:=by omega
 have dg:i+k+2-i=k+2:=by omega
 have xK:i+k+2-(i+1)=k+1:=by omega
 have ur:min (k+2) (k+1)=k+1:=by omega
 have mA:min 1 (k+2)=1:=by omega
 obtain⟨V0,ru2,V1⟩:=GP (cs:=cs) (off:=i*2) (sz:=2) (n:=k+1) (by omega)
 have UP:(rowsOf cs (i*2) 2 (k+1)).flatten=cs.drop (i*2):=by rw[V1,List.take_of_length_le (by simp;omega)]
 let Y1:=dq cs ((i+1)*2) (cs.drop (i*2))
 let Y2:=dq Y1 (i*2) row
 have hY1:Y1=cs.take ((i+1)*2)++cs.drop (i*2):=by
  have e:cs.drop ((i+1)*2+(cs.drop (i*2)).length)=[]:=List.drop_eq_nil_of_le (by simp;omega)
  simp only[Y1,dq,e,List.append_nil]
 have awN:Y1.length=(i+k+2)*2:=by rw[hY1];simp;omega
 have hY2:Y2=ka cs row i:=by
  simp only[Y2,dq,ka,hr,hY1]
  have e1:(cs.take ((i+1)*2)++cs.drop (i*2)).take (i*2)=cs.take (i*2):=by
   rw[List.take_append_of_le_length (by simp;omega),List.take_take,Nat.min_eq_left (by omega)]
  have e2:(cs.take ((i+1)*2)++cs.drop (i*2)).drop (i*2+2)=cs.drop (i*2):=List.drop_left' (by simp;omega)
  rw[e1,e2]
 have pQ:vN 2 h (.vs [row] tl) (.rk b ((i+1)*2) (k+1) 2 (cap-(i+1)))=some (.bool false):=by simp[vN,hr,hc]
 have dj: ∀x,x<h.next->(h.clean 9).get x=h.get x:=fun x hx=>by simp[aa.clean,hx]
 have dm:cellsOf (h.clean 9) b=some cs:=av (by rw[dj b hb];exact hg)
 let H1:=(h.clean 9).set b (some (.cells Y1))
 have Ve:xg 2 (h.clean 9) (.rk b ((i+1)*2) (k+1) 2 (cap-(i+1))) (.rk b (i*2) (k+2) 2 (cap-i))=some (.int .i64 ((k+1:Nat):Int),H1):=by
  have hle:k+1<=k+2:=by omega
  simp only[xg,gI,Option.bind_some,ur,pA,dm]
  rw[if_pos ⟨trivial,hle⟩,if_pos (by omega)]
  simp only[Option.bind_some]
  rw[if_pos ⟨trivial,by omega⟩,UP]
 have cE:cellsOf H1 b=some Y1:=av (by simp[H1,aa.set])
 let H2:=H1.set b (some (.cells Y2))
 have Vc:xg 2 H1 (.rk b (i*2) (k+2) 2 (cap-i)) (.vs [row] tl)=some (.int .i64 1,H2):=by
  simp only[xg,gI,Option.bind_some,List.length_singleton,mA,pA,dF,hr,beq_self_eq_true,if_true,cE]
  rw[if_pos ⟨trivial,by rw[awN];omega⟩]
  simp only[List.take_succ_cons,List.take_zero,List.flatten_cons,List.flatten_nil,List.append_nil]
  rfl
 have fF:cU 9 h.next 8 H1:=fun j j1 j2=>by omega
 obtain⟨H1',axJ⟩: ∃H,H=H1:=⟨_,rfl⟩
 refine⟨H2,?_,?_,?_,?_⟩
 ·refine ok.calls hf (by simp[nN]) ?_
  simp+decide only[st,nN,Fg,Ff,Fe,Fc,Fb,Fa,UW,h0,Int.toNat_natCast,Fm,oJ,Gi,yg,bn,uz,vm,Nat.le_refl,hr]
  simp+decide only[st,ad9,ad8,h0,h1,h2,oJ,uh,Int.toNat_natCast,BI,aiY,Jy,bk,xK,pQ,Nat.zero_le,Nat.zero_mul,Nat.add_zero,Nat.zero_add,Nat.sub_zero,Nat.le_refl]
  refine bJ 9 rfl rfl ?_
  simp+decide only[st,ad7,h0,h1,uh,Int.toNat_natCast,xL,Jy,uz,aiY,bk,dg,xK,Ve,Nat.zero_add,Nat.le_refl]
  refine⟨fF,?_⟩
  simp+decide only[st,ad6,ad5,h0,Int.toNat_natCast,xL,uz,bk,dg,Vc,Nat.zero_add,Nat.le_refl]
 ·rw[<-hY2];simp[H2,aa.set]
 ·simp[H2,H1,aa.set,aa.clean]
 ·intro x hx ug
  simp only[H2,H1,aa.set,if_neg ug]
  exact dj x hx
end
section
open Go
variable {P:Program} {T:fk} {h:aa}
theorem amo (ok:ax P T) {f:Nat} {rest:aZ} (hf:T.fn f=some (nN rest)) {b n i:Nat} {row cs:List AV} {tl:aH} (hb:b<h.next) (hg:h.get b=some (.cells cs)) (hl:cs.length=n*2) (hr:row.length=2) (hn:n<2^30) (hi:i<=n):
 an P f [.rs b 0 n 2, .int .i64 i, .vs [row] tl] h (.rs (h.next+19) 0 (n+1) 2) (jN h b (ka cs row i)):=by
 have hlen:(ka cs row i).length=(n+1)*2:=by simp[ka,hr];omega
 have mZ:(ka cs row i).take ((n+1)*2)=ka cs row i:=List.take_of_length_le (by omega)
 rw[<-mZ]
 by_cases aE:i=n
 ·subst aE
  have:=aoG ok hf (tl:=tl) hg hl hr hn
  refine this.fin (c:=h.next) ((i+1)*2) (.inl rfl) (.inl rfl) (by simp[aa.at]) (.inr (Nat.le_refl _)) (by simp[aa.at,aa.set]) (fun x hx ug=>?_)
  have: ¬x=h.next:=by omega
  simp[aa.at,aa.set,this,ug]
 ·obtain⟨k,rfl⟩: ∃k,n=i+k+1:=⟨n-i-1,by omega⟩
  refine .aiG (fun cap bt=>?_)
  by_cases hc:cap<i+k+2
  ·obtain⟨h1,q1,q2,q3,q4⟩:=anF ok hf (tl:=tl) hb hg hl hr hn bt hc
   exact q1.fin (c:=h.next) ((i+k+1+1)*2) (.inr ⟨cap,rfl⟩) (.inl rfl) q2 (.inr (Nat.le_refl _)) q3 (fun x hx _=>q4 x hx)
  ·obtain⟨h1,q1,q2,q3,q4⟩:=amn ok hf (tl:=tl) hb hg hl hr hn (by omega:i+k+2<=cap)
   exact q1.fin (c:=b) ((i+k+1+1)*2) (.inr ⟨cap,rfl⟩) (.inr ⟨cap,rfl⟩) q2 (.inl rfl) q3 q4
theorem aoE (ok:ax P T) {f:Nat} {rest:aZ} (hf:T.fn f=some (nN rest)) {row:List AV} {tl:aH} (hr:row.length=2):
 an P f [.vs [] .full, .int .i64 0, .vs [row] tl] h (.rs h.next 0 1 2) (h.at h.next (.cells row)):=by
 refine ok.calls hf (by simp[nN]) ?_
 have ha:fp 4 2 h.next h (.vs [] .full) (some [row])=some (.rs h.next 0 1 2,h.at h.next (.cells row)):=by
  simp only[fp,List.length_singleton]
  rw[if_neg (by simp),if_pos ⟨by omega,by omega⟩]
  simp
 have h0:(0:Int)<=0:=by omega
 simp+decide only[st,nN,Fg,Ff,Fe,Fc,UY,Fb,Fa,UX,h0,Nat.le_refl,hr,ha]
def ai4:List RO:=[p 6 (.aj (.const (.vs [] .full)))]
def ai3:List RO:=[m 8 0,m 9 1,m 10 2,m 11 0,ln 12 11,p 13 (.b9 2 (t 8) (some (t 9)) (some (t 10)) (some (t 12)))]
def ai2:List RO:=[m 14 1,m 15 2,b 16 .eql (t 14) (t 15)]
def aw3:List RO:=[m 17 0,m 6 17]
def ai1:List RO:=[m 18 0,ln 19 18,m 7 19]
def Vs:List RO:=[m 20 0,m 21 1,p 22 (.b9 2 (t 20) none (some (t 21)) none),m 23 0,m 24 2,p 25 (.b9 2 (t 23) (some (t 24)) none none),e 26 (.kF 4 2 (t 22) (t 25)),m 0 26]
def Vr:List RO:=[m 27 0,m 28 0,ln 29 28,m 30 7,p 31 (.b9 2 (t 27) (some (t 29)) (some (t 30)) none),⟨none,none,(.e (.px [(.int .u16 0),(.int .u8 0)] (t 31)))⟩]
def Vq:List RO:=[m 32 0,m 6 32]
def Jp:aA:=⟨(.seq (.af ai4) (.seq (.af ai3) (.seq (.seq (.af ai2) (.cond (t 16) (.seq (.af aw3) .ret) .skip)) (.seq (.af ai1) (.seq (.aU Vs [[],[],[],[],[],[],[],[]]) (.seq (.af Vr) (.seq (.af Vq) .ret))))))),33,[.tmp 6]⟩
def qH (cs:List AV) (i:Nat):List AV:=cs.take (i*2)++cs.drop ((i+1)*2)
theorem arb (ok:ax P T) {f:Nat} (hf:T.fn f=some Jp) {b i k cap:Nat} {cs:List AV} (hb:b<h.next) (hg:h.get b=some (.cells cs)) (hl:cs.length=(i+k+1)*2) (hn:i+k+1<2^30) (bn:i+k+1<=cap):
 ∃h1 X,an P f [.rk b 0 (i+k+1) 2 cap, .int .i64 i, .int .i64 ((i+1:Nat):Int)] h (.rk b 0 (i+k) 2 cap) h1/\h1.get b=some (.cells X)/\X.take ((i+k)*2)=qH cs i/\h1.next<=h.next+19/\ ∀x,x<h.next->x≠b->h1.get x=h.get x:=by
 have hc:=av hg
 have h0:(0:Int)<=i:=by omega
 have h1:(0:Int)<=((i+1:Nat):Int):=by omega
 have h2:(0:Int)<=((i+k:Nat):Int):=by omega
 have h3:(0:Int)<=((i+k+1:Nat):Int):=by omega
 have Fm: ¬((i:Int)=((i+1:Nat):Int)):=by omega
 have ot: ¬i+k+1=i:=by omega
 have BI: ¬cap=0:=by omega
 have uz: ¬cap=i+k:=by omega
 have yg:i<=i+1:=by omega
 have Rf:i+1<=i+k+1:=by omega
 have xL:i+k<=i+k+1:=by omega
 have vm:i<=cap:=by omega
 have dg:i+k+1-(i+1)=k:=by omega
 have xK:i+k+1-(i+k)=1:=by omega
 let Z1:=dq cs (i*2) (cs.drop ((i+1)*2))
 have hZ1:Z1.length=(i+k+1)*2:=by simp only[Z1];rw[Mu _ _ _ (by simp;omega)];exact hl
 let Z2:=dq Z1 ((i+k)*2) [.int .u16 0, .int .u8 0]
 have hZ2:Z2.take ((i+k)*2)=qH cs i:=by
  have e1:Z1=qH cs i++cs.drop (i*2+(cs.drop ((i+1)*2)).length):=by simp only[Z1,dq,qH]
  have e2:(qH cs i).length=(i+k)*2:=by simp[qH];omega
  have e3:Z1.take ((i+k)*2)=qH cs i:=by rw[e1];exact List.take_left' e2
  simp only[Z2,dq,e3,List.append_assoc]
  exact List.take_left' e2
 have dj: ∀x,x<h.next->(h.clean 8).get x=h.get x:=fun x hx=>by simp[aa.clean,hx]
 have dm:cellsOf (h.clean 8) b=some cs:=av (by rw[dj b hb];exact hg)
 let H1:=(h.clean 8).set b (some (.cells Z1))
 have cE:cellsOf H1 b=some Z1:=av (by simp[H1,aa.set])
 let H2:=H1.set b (some (.cells Z2))
 have aiX:CG [.int .u16 0, .int .u8 0] H1 (.rk b ((i+k)*2) 1 2 (cap-(i+k)))=some (.az [],H2):=by
  simp only[CG,cE,Option.bind_some]
  rw[if_pos ⟨rfl,by show(i+k)*2+1*2<=Z1.length;omega⟩]
  rfl
 have fF:cU 8 h.next 6 H1:=fun j j1 j2=>by
  have: ¬h.next+j=b:=by omega
  simp[H1,aa.set,aa.clean,this]
  intro hh;omega
 refine⟨H2,Z2,?_,by simp[H2,aa.set],hZ2,by simp[H2,H1,aa.set,aa.clean],?_⟩
 ·refine ok.calls hf (by simp[Jp]) ?_
  simp+decide only[st,Jp,ai4,ai3,ai2,ai1,h0,h1,h3,Int.toNat_natCast,Fm,ot,yg,Rf,bn,Nat.le_refl]
  refine bJ 8 rfl rfl ?_
  by_cases bt:cap=i+1
  ·subst bt
   have hk:k=0:=by omega
   have hdr:cs.drop ((i+1)*2)=[]:=List.drop_eq_nil_of_le (by omega)
   have ha:fp 4 2 (h.next+(1+1+1+1+1+1)) (h.clean 8) (.rk b 0 i 2 (i+1)) (some [])=some (.rk b 0 (i+k) 2 (i+1),H1):=by
    simp only[fp,dm,Option.bind_some,List.length_nil,List.flatten_nil]
    rw[if_pos ⟨trivial,by omega,by omega⟩]
    simp only[H1,Z1,hdr,hk,Nat.zero_add]
   simp+decide only[st,Vs,h0,h1,Int.toNat_natCast,BI,vm,Rf,bn,Nat.zero_le,Nat.zero_mul,Nat.zero_add,Nat.sub_zero,Nat.le_refl,ha]
   refine⟨fF,?_⟩
   simp+decide only[st,Vr,Vq,h2,h3,Int.toNat_natCast,uz,xL,bn,xK,aiX,Nat.zero_add,Nat.le_refl]
  ·obtain⟨rl,ru,rf⟩:=GP (cs:=cs) (off:=(i+1)*2) (sz:=2) (n:=k) (by omega)
   have rf':(rowsOf cs ((i+1)*2) 2 k).flatten=cs.drop ((i+1)*2):=by rw[rf,List.take_of_length_le (by simp;omega)]
   have hra:cQ 2 (h.clean 8) (.rk b ((i+1)*2) k 2 (cap-(i+1)))=some (rowsOf cs ((i+1)*2) 2 k):=by
    simp only[cQ,dm,if_true]
    rw[if_pos (by omega)]
   have ha:fp 4 2 (h.next+(1+1+1+1+1+1)) (h.clean 8) (.rk b 0 i 2 cap) (some (rowsOf cs ((i+1)*2) 2 k))=some (.rk b 0 (i+k) 2 cap,H1):=by
    simp only[fp,dm,Option.bind_some,rl,rf']
    rw[if_pos ⟨trivial,by omega,by omega⟩]
    simp only[H1,Z1,Nat.zero_add]
   simp+decide only[st,Vs,h0,h1,Int.toNat_natCast,BI,bt,vm,Rf,bn,dg,Nat.zero_le,Nat.zero_mul,Nat.zero_add,Nat.sub_zero,Nat.le_refl,hra,ha]
   refine⟨fF,?_⟩
   simp+decide only[st,Vr,Vq,h2,h3,Int.toNat_natCast,uz,xL,bn,xK,aiX,Nat.zero_add,Nat.le_refl]
 ·intro x hx ug
  simp only[H2,H1,aa.set,if_neg ug]
  exact dj x hx
end
section
open Go
variable {P:Program} {T:fk} {h:aa}
theorem amy (ok:ax P T) {f:Nat} (hf:T.fn f=some Jp) {b n i:Nat} {cs:List AV} (hb:b<h.next) (hg:h.get b=some (.cells cs)) (hl:cs.length=n*2) (hn:n<2^30) (hi:i<n):
 an P f [.rs b 0 n 2, .int .i64 i, .int .i64 ((i+1:Nat):Int)] h (.rs (h.next+19) 0 (n-1) 2) (jN h b (qH cs i)):=by
 obtain⟨k,rfl⟩: ∃k,n=i+k+1:=⟨n-i-1,by omega⟩
 refine .aiG (fun cap bt=>?_)
 obtain⟨h1,X,q1,q2,q3,q4,q5⟩:=arb ok hf hb hg hl hn bt
 rw[<-q3]
 exact q1.fin (c:=b) ((i+k)*2) (.inr ⟨cap,rfl⟩) (.inr ⟨cap,rfl⟩) q2 (.inl rfl) q4 q5
theorem an.den {f:Nat} {args:List AV} {r:AV} {h' h2:aa} (hc:an P f args h r h') (hn:h2.next=h'.next) (fg:h.next<=h'.next) (hg: ∀x,x<h'.next->h2.get x=h'.get x):an P f args h r h2:=by
 intro ι I w bP H hl
 refine(hc ι I w bP H hl).mono ?_
 rintro e w' ⟨v,ι',I',rfl,hv,H',E⟩
 refine⟨v,ι',I',rfl,hv,H'.DF (fun i l hi=>by have:=H'.cG i l hi;omega) (fun i l x hi hx=>by rw[<-hg i (H'.cG i l hi)];exact hx),{E with next:=by omega,own:=?_,lost:=?_}⟩
 ·rintro k j ⟨i,l,x,hi,hx,bj⟩
  exact E.own k j ⟨i,l,x,hi,by rw[<-hg i (H'.cG i l hi)];exact hx,bj⟩
 ·intro i hi aE
  have aB:i<h.next:=by omega
  rw[hg i (by omega)]
  exact E.lost i hi aE
def axn (jl sz:Nat) (args:List AV) (H:CH):Option (AV×CH):=
 match args with
 |[x]=>match x with
  | .bx=>some (.vs [] .full,H)
  | .vs [] _=>some (.vs [] .full,H)
  |x=>match iM 1 x with
   |some false=>match cQ sz H.den x with
    |some []=>some (.vs [] .full,H)
    |some (r::rs)=>match Nat.blt ((r::rs).length*jl) (2^40)&&Nat.blt (r::rs).length (2^40) with
     |true=>H.iC H.next (some .tail) fun H1=>some (.vs (r::rs) (.own H.next),{t:=H1.t,next:=H.next+1})
     |false=>none
    |none=>none
   |_=>none
 |_=>none
def axA (args:List AV) (H:CH):Option (AV×CH):=
 match args with
 |[.rs b 0 n 2, .int .i64 (.ofNat i), .vs [row] _]=>
  match cellsOf H.den b with
  |some cs=>match Nat.blt b H.next&&Nat.beq cs.length (n*2)&&Nat.beq row.length 2&&Nat.blt n (2^30)&&Nat.ble i n&&xN H H.next 0 20 with
   |true=>H.iC b none fun H1=>H1.iC (H.next+19) (some (.cells (ka cs row i))) fun H2=>some (.rs (H.next+19) 0 (n+1) 2,{t:=H2.t,next:=H.next+20})
   |false=>none
  |none=>none
 |[.vs [] .full, .int .i64 (.ofNat 0), .vs [row] _]=>
  match Nat.beq row.length 2 with
  |true=>H.iC H.next (some (.cells row)) fun H1=>some (.rs H.next 0 1 2,{t:=H1.t,next:=H.next+1})
  |false=>none
 |_=>none
def axL (args:List AV) (H:CH):Option (AV×CH):=
 match args with
 |[.rs b 0 n 2, .int .i64 (.ofNat i), .int .i64 (.ofNat j)]=>
  match cellsOf H.den b with
  |some cs=>match Nat.blt b H.next&&Nat.beq cs.length (n*2)&&Nat.blt n (2^30)&&Nat.blt i n&&Nat.beq j (i+1)&&xN H H.next 0 20 with
   |true=>H.iC b none fun H1=>H1.iC (H.next+19) (some (.cells (qH cs i))) fun H2=>some (.rs (H.next+19) 0 (n-1) 2,{t:=H2.t,next:=H.next+20})
   |false=>none
  |none=>none
 |_=>none
end
section
open Go
variable {P:Program}
section
variable {R:Type}
end
def rp:Nat->List AV->List AV->List AV
 |0,_,tl=>tl
 |n+1,r,tl=>r++rp n r tl
def fk.with (T:fk) (nt:Tr (List AV->CH->Option (AV×CH))):fk:={T with nat:=fun n=>nt.get n}
theorem ax.with {T:fk} (ok:ax P T) {nt:Tr (List AV->CH->Option (AV×CH))} (hn: ∀e∈nt.tW,∀args H v H',e.2 args H=some (v,H')->an P e.1 args H.den v H'.den):ax P (T.with nt) where
 follow:=ok.follow
 fn:=ok.fn
 nat f g h:=hn (f,g) (Tr.Cu h)
 bZ:=ok.bZ
end
section
open Go
variable {P:Program} {T:fk} {h:aa}
structure Fr where
 b:List Int
 taken:Bool
def Fr.enc (f:Fr):List AV:=f.b.map (.int .u8)++[.bool f.taken]
structure eS (h:aa) (bm bl:Nat) (fs:List Fr):Prop where
 top:h.get bm=some (.cells [.rs bl 0 fs.length 17])
 row:h.get bl=some (.cells (fs.map Fr.enc).flatten)
 ne:bm≠bl
 len: ∀f∈fs,f.b.length=16
 small:fs.length<2^40
variable {bm bl:Nat} {fs:List Fr}
theorem Fr.CF {f:Fr} (hf:f.b.length=16):f.enc.length=17:=by simp[Fr.enc,hf]
theorem Fr.Zk {f:Fr} (hf:f.b.length=16):f.enc[16]? =some (.bool f.taken):=by simp[Fr.enc,hf]
theorem eS.rows (M:eS h bm bl fs): ∀r∈fs.map Fr.enc,r.length=17:=by
 intro r hr
 obtain⟨f,hf,rfl⟩:=List.mem_map.1 hr
 exact Fr.CF (M.len f hf)
theorem eS.taken (M:eS h bm bl fs) {i:Nat} {f:Fr} (hi:fs[i]? =some f):(fs.map Fr.enc).flatten[i*17+16]? =some (.bool f.taken):=by
 rw[wT M.rows (row:=f.enc) (by simp[hi]) (by omega)]
 exact Fr.Zk (M.len f (List.mem_of_getElem? hi))
def dQ (fs:List Fr):Nat:=fs.countP (·.taken)
def Ky:List RO:=[p 2 (.aj (z 0))]
def Kx:List RO:=[p 3 (.aj (z 0))]
def Kw:List RO:=[m 6 0,p 7 (.gG 0 true (t 6))]
def Kv:List RO:=[m 8 0,p 9 (.aF (t 8)),fa 10 0 9,ld 11 10,ln 12 11,p 13 (.aj (z 0))]
def Ku:List RO:=[b 14 .lss (t 13) (t 12)]
def Kt:List RO:=[ia 15 17 11 13,la 16 17 15,a 5 (.alloc [(.int .u8 0),(.int .u8 0),(.int .u8 0),(.int .u8 0),(.int .u8 0),(.int .u8 0),(.int .u8 0),(.int .u8 0),(.int .u8 0),(.int .u8 0),(.int .u8 0),(.int .u8 0),(.int .u8 0),(.int .u8 0),(.int .u8 0),(.int .u8 0),(.bool false)]),sn 17 (t 5) (t 16)]
def Ks:List RO:=[fa 17 16 5,ld 18 17]
def Kr:List RO:=[m 19 3,b 20 .add (t 19) (z 1),m 3 20]
def Kq:List RO:=[b 21 .add (t 13) (z 1),m 13 21]
def Ko:List RO:=[m 22 3,m 2 22]
def CQ:aA:=⟨(.seq (.af Ky) (.seq (.af Kx) (.seq (.seq (.af Kw) (.cond (t 7) (.seq (.af Kv) (.block 0 (.loop (.seq (.af Ku) (.seq (.cond (t 14) .skip (.exit 0)) (.seq (.block 1 (.seq (.af Kt) (.seq (.af Ks) (.cond (t 18) (.af Kr) .skip)))) (.af Kq))))))) .skip)) (.seq (.af Ko) .ret)))),23,[.tmp 2]⟩
theorem akP (ok:ax P T) {f:Nat} (hf:T.fn f=some CQ) (M:eS h bm bl fs) (aC:bm<h.next/\bl<h.next):an P f [.ptr bm 0] h (.int .i64 (dQ fs)) h:=by
 have hc:=av M.top
 have yM:=M.small
 refine ok.keeps hf (by simp[CQ]) rfl ?_
 simp+decide only[st,CQ,Ky,Kx,Kw,Kv,Ku,Kt,Ks,Kr,Kq,Ko,hc]
 let I:Nat->Env->aa->Prop:=fun n ρ h'=>(∀b,b<h.next->h'.get b=h.get b)/\h.next<=h'.next/\ ∃i:Nat,fs.length=i+n/\ρ 11= .rs bl 0 fs.length 17/\ρ 12= .int .i64 fs.length/\ρ 13= .int .i64 i/\ρ 3= .int .i64 (dQ (fs.take i))
 refine dn I ?_ fs.length ⟨fun _ _=>rfl,Nat.le_refl _,0,by omega,rfl,rfl,rfl,rfl⟩
 rintro n ρ h' ⟨hold,fg,i,aE,eU,fX,eJ,r3⟩
 by_cases hi:i<fs.length
 ·have hx:fs[i]? =some fs[i]:=List.getElem?_eq_getElem hi
  have mY:=M.len _ (List.mem_of_getElem? hx)
  have bk:cellsOf h' bl=some (fs.map Fr.enc).flatten:=av (by rw[hold _ aC.2];exact M.row)
  have hlen:=zA M.rows
  have hle:i*17+17<=(fs.map Fr.enc).flatten.length:=by rw[hlen];simp;omega
  have cw:=Z6 M.rows (i:=i) (row:=fs[i].enc) (by simp[hx])
  have Gl:=Fr.CF mY
  have cV:fs[i].enc.all AV.one=true:=by simp[Fr.enc,AV.one]
  have mZ:=Fr.Zk mY
  have hd:fs[i].enc.drop 17=[]:=List.drop_eq_nil_of_le (by omega)
  have hw:IntKind.wrap .i64 ((i:Int)+1)=((i+1:Nat):Int):=by rw[bw]<;>omega
  have hu:dQ (fs.take i)<=i:=Nat.le_trans (List.countP_le_length) (by simp;omega)
  have sQ:IntKind.wrap .i64 ((dQ (fs.take i):Int)+1)=((dQ (fs.take i)+1:Nat):Int):=by rw[bw]<;>omega
  have hs:dQ (fs.take (i+1))=dQ (fs.take i)+(if fs[i].taken then 1 else 0):=by
   have e:fs.take (i+1)=fs.take i++[fs[i]]:=(List.take_append_getElem hi).symm
   unfold dQ
   rw[e,List.countP_append,List.countP_singleton]
  simp+decide only[st,CQ,Ky,Kx,Kw,Kv,Ku,Kt,Ks,Kr,Kq,Ko,eU,fX,eJ,hi,bk,hle,cw]
  cases awj:fs[i].taken
  all_goals
   rw[awj] at mZ hs
   have aM: ∀b,b<h.next->b≠h'.next:=fun b hb=>by omega
   simp+decide only[st,eJ,Gl,cV,hd,mZ,r3,hw,sQ,Nat.reduceAdd]
   refine⟨n-1,by omega,fun b hb=>?_,?_,i+1,by omega,?_,?_,?_,?_⟩
   ·simp+decide only[st,aM b hb,hold b hb]
   ·simp+decide only[st]
    omega
   ·simp+decide only[st,eU]
   ·simp+decide only[st,fX]
   ·simp+decide only[st]
   ·simp+decide only[st,r3,hs]
 ·have cP:i=fs.length:=by omega
  rw[cP,List.take_length] at r3
  simp+decide only[st,CQ,Ky,Kx,Kw,Kv,Ku,Kt,Ks,Kr,Kq,Ko,eU,fX,eJ,hi,r3]
  exact fun b hb=>hold b hb
def aw7:AV->Bool
 | .int .u8 _=>true
 |_=>false
def ai5:Nat->List AV->Option Nat
 |0,[]=>some 0
 |0,_=>none
 |n+1,cs=>match(cs.take 16).all aw7,cs.drop 16 with
  |true, .bool t::rest=>match ai5 n rest with
   |some u=>match t with
    |true=>some (u+1)
    |false=>some u
   |none=>none
  |_,_=>none
def axp (args:List AV) (H:CH):Option (AV×CH):=
 match args with
 |[.ptr bm 0]=>match cellsOf H.den bm with
  |some [.rs bl 0 n 17]=>match Nat.blt bm H.next&&Nat.blt bl H.next&&!Nat.beq bm bl&&Nat.blt n (2^40),cellsOf H.den bl with
   |true,some cs=>match ai5 n cs with
    |some u=>ke u fun u=>some (.int .i64 (.ofNat u),H)
    |none=>none
   |_,_=>none
  |_=>none
 |_=>none
end
section
open Go
section
variable {P:Program} {md:Mode} {ι:aI} {I:aR} {h:aa} {w:World}
theorem HR.alloc (H:HR ι I h w) (o:Obj):HR ι I h (w.alloc o)/\Ext (fun _=>False) ι I h w ι I h (w.alloc o):=by
 have W:=eO.push w o
 refine⟨H.v7 W (Nat.le_refl _) (fun _ _ h=>h) (fun _ _ _ _ _ _ _ _ h=>h) (fun _ _ h=>h.elim),?_⟩
 exact Ext.of W (fun _ _ _ h=>h.elim) (fun _ _=>rfl) (fun _ _ h=>h) (Nat.le_refl _) (fun _ _ h=>h) (fun _ _ h=> .inl h) (fun _ _ h=> .inl h) (fun _ _ _=>rfl)
theorem HR.named (H:HR ι I h w) {id:Nat} {l:Loc} (aL:ι id=none) {h':aa} (eX:id<h'.next) (hle:h.next<=h'.next) (aE:l.block<w.heap.size) (dH:h'.get id=none) (dg: ∀b x,h'.get b=some x->h.get b=some x):HR (ι.set id l) I h' w:=by
 have cM: ∀a v,VR ι I w a v->VR (ι.set id l) I w a v:=fun a v hv=>hv.mono (fun b l' hb=>by
  rw[aI.eP _ _ (fun he=>by rw[he,aL] at hb;cases hb)];exact hb) (fun _ _ h=>h) (fun _ _ _=>rfl)
 have key: ∀b l' x,(ι.set id l) b=some l'->h'.get b=some x->b≠id/\ι b=some l'/\h.get b=some x:=fun b l' x hb hg=>by
  have aM:b≠id:=fun he=>by rw[he,dH] at hg;cases hg
  exact⟨aM,by rwa [aI.eP _ _ aM] at hb,dg b x hg⟩
 exact
 {cG:=fun b l' hb=>by
   by_cases cj:b=id
   ·subst cj;exact eX
   ·rw[aI.eP _ _ cj] at hb;exact Nat.lt_of_lt_of_le (H.cG b l' hb) hle
  inside:=fun b l' hb=>by
   by_cases cj:b=id
   ·subst cj;rw[aI.gj] at hb;cases hb;exact aE
   ·rw[aI.eP _ _ cj] at hb;exact H.inside b l' hb
  cells:=fun b cs l' hg hb=>by
   obtain⟨_,h1,h2⟩:=key b l' _ hb hg
   obtain⟨cb,o,room,e1,e2,e3,e4⟩:=H.cells b cs l' h2 h1
   exact⟨cb,o,room,e1,e2,e3,fun j hj=>by obtain⟨c,g1,g2,g3⟩:=e4 j hj;exact⟨c,g1,g2,fun v hv=>cM _ _ (g3 v hv)⟩⟩
  maps:=fun b es l' hg hb=>by
   obtain⟨_,h1,h2⟩:=key b l' _ hb hg
   obtain⟨cb,aV,clock,e1,e2,e3,e4⟩:=H.maps b es l' h2 h1
   exact⟨cb,aV,clock,e1,e2,e3,fun i k v e f1 f2=>⟨cM _ _ (e4 i k v e f1 f2).1,cM _ _ (e4 i k v e f1 f2).2⟩⟩
  eR:=fun b l' hg hb=>by
   obtain⟨_,h1,h2⟩:=key b l' _ hb hg
   exact H.eR b l' h2 h1
  dC:=fun b b' l1 l2 x x' k j aM hb bC hg cF=>by
   obtain⟨_,h1,h2⟩:=key b l1 _ hb hg
   obtain⟨_,h3,h4⟩:=key b' l2 _ bC cF
   exact H.dC b b' l1 l2 x x' k j aM h1 h3 h2 h4
  bz:=fun b l1 x k j hb hg=>by
   obtain⟨_,h1,h2⟩:=key b l1 _ hb hg
   exact H.bz b l1 x k j h1 h2
  dw:=H.dw
  pl:=fun b cs cb o room hg hb n=>by
   obtain⟨_,h1,h2⟩:=key b _ _ hb hg
   exact H.pl b cs cb o room h2 h1 n}
structure It (n:Nat) (ι0:aI) (I0:aR) (h:aa) (w0:World) (h0:aa) (id cm r:Nat) (e:MapEntry) (clock:Nat) (seen:Array Nat) (ρ:Env) (ι:aI) (I:aR) (w:World) (a:Act):Prop where
 A:AR ι I w n ρ a
 H:HR ι I h0 w
 E:Ext (h.next<= ·) ι0 I0 h w0 ι I h0 w
 it:w.heap[r]? =some (.mapIter (some cm) clock seen clock)
 mp:w.heap[cm]? =some (.map #[e] clock)
 born:e.born<clock
 nr: ∀j,¬eB ι h0 r j/\ ¬I r j
 nc: ∀j,¬eB ι h0 cm j/\ ¬I cm j
 new:w0.heap.size<=r
 named:ι id=some (.cells r 0 0)
 key:VR ι I w (.int .u64 1) e.key
variable {n:Nat} {ι0:aI} {I0:aR} {w0:World} {h0:aa} {id cm r clock:Nat} {e:MapEntry} {seen:Array Nat} {ρ:Env} {a:Act}
theorem It.next (T:It n ι0 I0 h w0 h0 id cm r e clock seen ρ ι I w a) {ρ':Env} {ι':aI} {I':aR} {w':World} {a':Act} (A':AR ι' I' w' n ρ' a') (H':HR ι' I' h0 w') (E':Ext (h0.next<= ·) ι I h0 w ι' I' h0 w'):
 It n ι0 I0 h w0 h0 id cm r e clock seen ρ' ι' I' w' a':=by
 have hr:r<w.heap.size:=(Array.getElem?_eq_some_iff.1 T.it).1
 have hc:cm<w.heap.size:=(Array.getElem?_eq_some_iff.1 T.mp).1
 have dH: ∀k,k<w.heap.size->(∀j,¬eB ι h0 k j/\ ¬I k j)-> ∀j,¬eB ι' h0 k j/\ ¬I' k j:=fun k hk hn j=>by
  refine⟨fun ho=>?_,fun hi=>?_⟩
  ·rcases E'.own k j ho with h|h
   ·exact(hn j).1 h
   ·omega
  ·rcases E'.gz k j hi with h|h|h
   ·exact(hn j).2 h
   ·exact(hn j).1 h
   ·omega
 exact
 {A:=A',H:=H',E:=T.E.trans E' (fun b hb=>Nat.le_trans T.E.next hb)
  it:=by rw[E'.block r hr (fun j=>(T.nr j).1)];exact T.it
  mp:=by rw[E'.block cm hc (fun j=>(T.nc j).1)];exact T.mp
  born:=T.born,nr:=dH r hr T.nr,nc:=dH cm hc T.nc,new:=T.new,named:=E'.bM _ _ T.named,key:=E'.vr T.H T.key}
variable {n:Nat} {ι0:aI} {I0:aR} {w0:World} {h0:aa} {id cm r clock:Nat} {e:MapEntry} {seen:Array Nat} {ρ:Env} {a:Act}
end
end
section
open Go
section
variable {P:Program} {T:fk}
theorem Yk {tb:fk} (ok:ax P tb) {fuel f:Nat} {args:List AV} {r:AV} (h:vf tb (runK tb fuel) f args ⟨.leaf,0⟩ (fun v _=>some v)=some r) (ha:AV.bX (fun _=>false) args=true) (hr:r.bB (fun _=>false)=true) (h:aa):
 an P f args h r h:=by
 obtain⟨v,H',hc,hv⟩:=alv ok ‹_›
 cases hv
 exact an.frame hc ha hr h
end
end
section
open Go
section
variable {P:Program} {T:fk}
structure Old (h0 h:aa):Prop where
 next:h0.next<=h.next
 get: ∀b,b<h0.next->h.get b=h0.get b
theorem Old.refl (h:aa):Old h h:=⟨Nat.le_refl _,fun _ _=>rfl⟩
theorem Old.trans {h0 h1 h2:aa} (a:Old h0 h1) (b:Old h1 h2):Old h0 h2:=⟨Nat.le_trans a.next b.next,fun x hx=>by rw[b.get x (Nat.lt_of_lt_of_le hx a.next),a.get x hx]⟩
theorem Old.at {h0 h:aa} (o:Old h0 h) {id:Nat} {x:cI} (hi:h0.next<=id):Old h0 (h.at id x):=by
 refine⟨Nat.le_trans o.next (by simp[aa.at];omega),fun b hb=>?_⟩
 have: ¬b=id:=by omega
 simp[aa.at,this,o.get b hb]
theorem Old.set {h0 h:aa} (o:Old h0 h) {id:Nat} {x:Option cI} (hi:h0.next<=id):Old h0 (h.set id x):=by
 refine⟨o.next,fun b hb=>?_⟩
 have: ¬b=id:=by omega
 simp[aa.set,this,o.get b hb]
theorem Old.clean {h0 h:aa} (o:Old h0 h) {n:Nat}:Old h0 (h.clean n):=by
 refine⟨Nat.le_trans o.next (by simp[aa.clean]),fun b hb=>?_⟩
 have:b<h.next:=Nat.lt_of_lt_of_le hb o.next
 simp[aa.clean,this,o.get b hb]
def App (h0 h:aa) (v:AV) (rows:List (List AV)):Prop:= ∃t,v= .vs rows t/\(t= .full\/ ∃k,t= .own k/\h0.next<=k/\k<h.next/\h.get k=some .tail)
theorem App.nil (h0 h:aa):App h0 h (.vs [] .full) []:=⟨_,rfl, .inl rfl⟩
theorem App.to {h0 h h':aa} {v:AV} {rows:List (List AV)} (a:App h0 h v rows) (hn:h.next<=h'.next) (hk: ∀k,h0.next<=k->k<h.next->h.get k=some .tail->h'.get k=some .tail):App h0 h' v rows:=by
 obtain⟨t,rfl,rfl|⟨k,rfl,h1,h2,h3⟩⟩:=a
 ·exact⟨_,rfl, .inl rfl⟩
 ·exact⟨_,rfl, .inr ⟨k,rfl,h1,by omega,hk k h1 h2 h3⟩⟩
theorem App.old {h0 h h':aa} {v:AV} {rows:List (List AV)} (a:App h0 h v rows) (o:Old h h'):App h0 h' v rows:=a.to o.next (fun k _ h2 h3=>by rw[o.get k h2];exact h3)
theorem App.app {h0 h:aa} {v:AV} {rows:List (List AV)} (a:App h0 h v rows) (o:Old h0 h) {bytes sz id:Nat} (aL:h0.next<=id) (ys:List (List AV)) (hh:dF sz rows=true) (h1:(rows.length+ys.length)*bytes<2^40) (h2:rows.length+ys.length<2^40):
 ∃v' h',mr bytes sz id h v (some ys)=some (v',h')/\App h0 h' v' (rows++ys)/\Old h0 h'/\h.next<=h'.next/\h'.next<=max h.next (id+1)/\(∀b,b≠id->h.get b≠some .tail->h'.get b=h.get b)/\(∀b,b≠id->h.get b=none->h'.get b=none):=by
 obtain⟨t,rfl,ht⟩:=a
 by_cases hy:ys=[]
 ·subst hy
  exact⟨.vs rows t,h,by simp[mr],⟨t,by simp,ht⟩,o,Nat.le_refl _,by omega,fun _ _ _=>rfl,fun _ _ h=>h⟩
 ·rcases ht with rfl|⟨k,rfl,q1,q2,q3⟩
  ·refine⟨.vs (rows++ys) (.own id),h.at id .tail,by simp only[mr];rw[if_neg hy,if_pos ⟨hh,h1,h2⟩],⟨_,rfl, .inr ⟨id,rfl,aL,by simp[aa.at];omega,by simp[aa.at]⟩⟩,o.at aL,by simp[aa.at];omega,by simp[aa.at],fun b hb _=>by simp[aa.at,hb],fun b hb hn=>by simp[aa.at,hb,hn]⟩
  ·refine⟨.vs (rows++ys) (.own id),(h.set k none).at id .tail,by simp only[mr];rw[if_neg hy,if_pos ⟨hh,h1,h2⟩];simp only[q3],⟨_,rfl, .inr ⟨id,rfl,aL,by simp[aa.at];omega,by simp[aa.at]⟩⟩,(o.set q1).at aL,by simp[aa.at,aa.set];omega,by simp[aa.at,aa.set],fun b hb hn=>?_,fun b hb hn=>?_⟩
   ·have: ¬b=k:=fun e=>hn (by rw[e];exact q3)
    simp[aa.at,aa.set,hb,this]
   ·by_cases Gp:b=k
    ·subst Gp;simp[aa.at,aa.set,hb]
    ·simp[aa.at,aa.set,hb,Gp,hn]
theorem App.sG {h0 h:aa} {v:AV} {rows:List (List AV)} (a:App h0 h v rows) (o:Old h0 h) {bytes sz base n i:Nat} (hb:h0.next<=base) (hf: ∀j,j<n->h.get (base+j)=none\/j<=i) (ys:List (List AV)) (hh:dF sz rows=true) (h1:(rows.length+ys.length)*bytes<2^40) (h2:rows.length+ys.length<2^40):
 ∃v' h',mr bytes sz (base+i) h v (some ys)=some (v',h')/\App h0 h' v' (rows++ys)/\Old h0 h'/\h.next<=h'.next/\cU n base i h':=by
 obtain⟨v',h',e1,e2,e3,e4,e5,e6,e7⟩:=a.app o (id:=base+i) (by omega) ys hh h1 h2
 refine⟨v',h',e1,e2,e3,e4,fun j hj hn=>?_⟩
 rcases hf j hn with hg|hg
 ·exact e7 _ (by omega) hg
 ·omega
def BS (l:List UInt8):List (List AV):=l.map fun b=>[.int .u8 b.toNat]
theorem b8 {l:List UInt8}:(BS l).length=l.length:=by simp[BS]
theorem Ja {l:List UInt8} {i:Nat}:(BS l)[i]? =(l[i]?).map fun b=>[.int .u8 b.toNat]:=by simp[BS]
theorem wW {l:List UInt8} {n:Nat}:(BS l).drop n=BS (l.drop n):=by simp[BS]
theorem aaV {l:List UInt8} {n:Nat}:(BS l).take n=BS (l.take n):=by simp[BS]
theorem ad0 {l m:List UInt8}:BS l++BS m=BS (l++m):=by simp[BS]
theorem qj {l:List UInt8}:dF 1 (BS l)=true:=by cases l<;>rfl
theorem aaW {l:List UInt8} {t:aH} {h:aa}:cQ 1 h (.vs (BS l) t)=some (BS l):=by simp[cQ,qj]
theorem jV: ∀{l:List UInt8},AV.fy (BS l)=BS l
 |[]=>rfl
 |b::l=>by
  have ih:=jV (l:=l)
  simp only[BS,List.map_cons,AV.fy,AV.bA,AV.strip] at ih ⊢
  rw[ih]
theorem u3 {p:Nat->Bool}: ∀{l:List UInt8},AV.iA p (BS l)=true
 |[]=>rfl
 |b::l=>by
  have ih:=u3 (p:=p) (l:=l)
  simp only[BS,List.map_cons,AV.iA,AV.bX,AV.bB,Bool.and_true,Bool.true_and] at ih ⊢
  exact ih
theorem zP (ok:ax P T) {f:Nat} {z:List AV} (hf:T.fn f=some (nz z 1 1)) {l:List UInt8} {t:aH} {h:aa} (hl:l.length<2^40):an P f [.vs (BS l) t] h (.vs (BS l) .ao) h:=by
 cases l with
 |nil=>exact(MG ok hf (t:=t)).strip
 |cons b l=>
  have:=(MY ok hf (x:= .vs (BS (b::l)) t) (h:=h) (rows:=BS (b::l)) rfl aaW (by simp[BS]) (by simpa [b8] using hl) (by simpa [b8] using hl)).strip
  have h2:(AV.vs (BS (b::l)) (.own h.next)).strip= .vs (BS (b::l)) .ao:=by simp only[AV.strip,jV]
  rw[h2] at this
  exact this.restore (fun x hx=>by simp[aa.at];omega) (by simp only[AV.bB,u3];rfl)
def FJ (n:Int):UInt8:=UInt8.ofNat (n%256).toNat
theorem wrap_u8 {n:Int}:IntKind.wrap .u8 n=((FJ n).toNat:Int):=by
 have h1:IntKind.wrap .u8 n=n%256:=by simp[IntKind.wrap,IntKind.signed,IntKind.bits]
 rw[h1,FJ,UInt8.toNat_ofNat']
 omega
theorem aoC: ∀{l:List Int},(∀n∈l,(Lit.int .u8 n).wf=true)-> ∃bs:List UInt8,(l.map fun n=>[AV.int .u8 n])=BS bs
 |[],_=>⟨[],rfl⟩
 |n::l,h=>by
  obtain⟨bs,uB⟩:=aoC (l:=l) (fun x hx=>h x (List.mem_cons_of_mem _ hx))
  have hw:=asG (h n (by simp))
  refine⟨UInt8.ofNat n.toNat::bs,?_⟩
  simp only[List.map_cons,uB,BS,List.cons.injEq,and_true]
  rw[UInt8.toNat_ofNat']
  have:((n.toNat%2^8:Nat):Int)=n:=by omega
  rw[this]
end
end
section
open Go
section
variable {P:Program}
def Au (h0 h h':aa):aa:={get:=fun b=>match h'.get b with|some x=>some x|none=>if b<h.next then(match h0.get b with|none=>h.get b|some _=>none) else none,next:=h'.next}
theorem an.sub {f:Nat} {args:List AV} {h0 h h':aa} {r:AV} (hc:an P f args h0 r h') (dg: ∀b x,h0.get b=some x->h.get b=some x) (hn:h.next<=h0.next):an P f args h r (Au h0 h h'):=by
 intro ι I w bP H hl
 have H0:HR ι I h0 w:=H.DF (fun b l hb=>Nat.lt_of_lt_of_le (H.cG b l hb) hn) (fun b l x _ hx=>dg b x hx)
 refine(hc ι I w bP H0 hl).mono ?_
 rintro e w' ⟨v,ι',I',rfl,hv,H',E⟩
 have ael: ∀b x,(Au h0 h h').get b=some x->h'.get b=some x\/(h'.get b=none/\b<h.next/\h0.get b=none/\h.get b=some x):=fun b x hb=>by
  simp only[Au] at hb
  split at hb
  ·rename_i y hy;cases hb;exact .inl hy
  ·rename_i hy
   split at hb
   ·rename_i aC
    split at hb
    ·rename_i h0b;exact .inr ⟨hy,aC,h0b,hb⟩
    ·cases hb
   ·cases hb
 have DO: ∀k j,eB ι h0 k j->eB ι h k j:=fun k j ⟨b,l,x,h1,h2,h3⟩=>⟨b,l,x,h1,dg b x h2,h3⟩
 have iz: ∀b,b<h.next->ι' b=ι b:=fun b hb=>E.eZ b (by omega)
 refine⟨v,ι',I',rfl,hv,?_,?_⟩
 ·refine H.join H' E (fun b l x _ hx=>dg b x hx) (by simp[Au]) (fun b x hb=>?_)
  rcases ael b x hb with h1|⟨_,h2,h3,h4⟩
  ·exact .inl h1
  ·cases hq:ι b with
   |none=>exact .inr (.inr (by rw[iz b h2,hq]))
   |some l=>exact .inr (.inl ⟨h4,h3,l,rfl⟩)
 ·exact
  {eZ:=fun b hb=>E.eZ b (by omega),bM:=E.bM,next:=by have:=E.next;simp only[Au];omega,bz:=E.bz,os:=E.os,tape:=E.tape,output:=E.output,size:=E.size
   block:=fun k hk ho=>E.block k hk (fun j hj=>ho j (DO k j hj))
   cell:=fun k j hk ho=>E.cell k j hk (fun hj=>ho (DO k j hj))
   frozen:=fun k j hk ho=>E.frozen k j hk (fun hj=>ho (DO k j hj))
   own:=fun k j ⟨b,l,x,h1,h2,h3⟩=>by
    rcases ael b x h2 with h4|⟨_,h5,h6,h7⟩
    ·rcases E.own k j ⟨b,l,x,h1,h4,h3⟩ with h|h
     ·exact .inl (DO k j h)
     ·exact .inr h
    ·exact .inl ⟨b,l,x,by rw[<-iz b h5];exact h1,h7,h3⟩
   gz:=fun k j hk=>by
    rcases E.gz k j hk with h|h|h
    ·exact .inl h
    ·exact .inr (.inl (DO k j h))
    ·exact .inr (.inr h)
   lost:=fun b hb hi=>by
    have aC:b<h.next:=by omega
    have h1:=E.lost b (by omega) hi
    simp only[Au,h1,aC,if_true]
    cases h2:h0.get b with
    |none=>rfl
    |some x=>exact(dg b x h2).symm}
theorem an.E4 {f:Nat} {args E3:List AV} {h h':aa} {r:AV} (hc:an P f args h r h') (hl:args.length=E3.length) (hw: ∀(i:Nat) (a b:AV),args[i]? =some a->E3[i]? =some b->a=b\/a= .undef\/(a= .fb/\b.one=true)\/a=b.strip):an P f E3 h r h':=by
 intro ι I w bP H dt
 refine hc ι I w bP H ⟨hl.trans dt.1,fun i v c hv fZ=>?_⟩
 have hi:i<E3.length:=by rw[<-hl];exact(List.getElem?_eq_some_iff.1 hv).1
 have hb:=List.getElem?_eq_getElem hi
 have hr:=dt.2 i _ c hb fZ
 rcases hw i v _ hv hb with h1|h1|⟨h1,h2⟩|h1
 ·rw[h1];exact hr
 ·rw[h1];exact .undef _
 ·rw[h1];exact .fb _ (hr.one h2)
 ·rw[h1];exact hr.strip
end
end
section
open Go
theorem pK {α:Type} {z w:α}:(List.replicate 1 z).set 0 w=[w]:=rfl
theorem avN {α:Type} {z w:α}:(List.replicate 2 z).set 0 w=[w,z]:=rfl
theorem avM {α:Type} {z w v:α}:[w,z].set 1 v=[w,v]:=rfl
theorem ad3 {n:Nat}:(n=n+1)=False:=eq_false (by omega)
theorem apt {n:Nat}:(n+1=n)=False:=eq_false (by omega)
theorem aps {n:Nat}:(n=n+1+1)=False:=eq_false (by omega)
theorem aos {n:Nat}:(n+1+1=n)=False:=eq_false (by omega)
theorem apr {n:Nat}:(n=n+1+1+1)=False:=eq_false (by omega)
theorem aor {n:Nat}:(n+1+1+1=n)=False:=eq_false (by omega)
theorem apq {n:Nat}:(n=n+1+1+1+1)=False:=eq_false (by omega)
theorem aoq {n:Nat}:(n+1+1+1+1=n)=False:=eq_false (by omega)
theorem avU {n:Nat}:(n<n+1+1+1+1)=True:=eq_true (by omega)
theorem avT {n:Nat}:(n<n+1+1+1+1+1)=True:=eq_true (by omega)
theorem avX {n:Nat}:(n<n+1)=True:=eq_true (by omega)
theorem avW {n:Nat}:(n<n+1+1)=True:=eq_true (by omega)
theorem avV {n:Nat}:(n<n+1+1+1)=True:=eq_true (by omega)
theorem apb {u:Bool} {k:IntKind} {a b:Int}:cR u .or (.int k a) (.int k b)=(pD .or k a b).map (.int k):=by simp[cR,kR]
theorem aob {u:Bool} {k:IntKind} {a b:Int}:cR u .and (.int k a) (.int k b)=(pD .and k a b).map (.int k):=by simp[cR,kR]
theorem NY {a b:Nat} (ha:a<2^64) (hb:b<2^64):pD .or .u64 (a:Int) (b:Int)=some ((a|||b:Nat):Int):=by
 have e1:(BitVec.ofInt 64 (a:Int)).toNat=a:=by simp;omega
 have e2:(BitVec.ofInt 64 (b:Int)).toNat=b:=by simp;omega
 show some (IntKind.wrap .u64 (((BitVec.ofInt 64 (a:Int))|||(BitVec.ofInt 64 (b:Int))).toNat:Int))=_
 rw[BitVec.toNat_or,e1,e2,fC (Nat.or_lt_two_pow ha hb)]
theorem apa {a b:Nat} (ha:a<2^64) (hb:b<2^64):pD .and .u64 (a:Int) (b:Int)=some ((a&&&b:Nat):Int):=by
 have e1:(BitVec.ofInt 64 (a:Int)).toNat=a:=by simp;omega
 have e2:(BitVec.ofInt 64 (b:Int)).toNat=b:=by simp;omega
 show some (IntKind.wrap .u64 (((BitVec.ofInt 64 (a:Int))&&&(BitVec.ofInt 64 (b:Int))).toNat:Int))=_
 rw[BitVec.toNat_and,e1,e2,fC (Nat.lt_of_le_of_lt Nat.and_le_left ha)]
structure ba (α:Type) where
 e:α->List AV
 sz:Nat
 len: ∀a,(e a).length=sz
 strip: ∀a,AV.bA (e a)=e a
 all: ∀p a,AV.bX p (e a)=true
namespace ba
variable {α:Type} (E:ba α) {l m:List α}
def R (l:List α):List (List AV):=l.map E.e
theorem aN:(E.R l).length=l.length:=by simp[R]
theorem aiB {i:Nat}:(E.R l)[i]? =(l[i]?).map E.e:=by simp[R]
theorem jK:E.R l++E.R m=E.R (l++m):=by simp[R]
theorem xF {a:α}:E.R (a::l)=E.e a::E.R l:=rfl
theorem kM:E.R ([]:List α)=[]:=rfl
theorem avF {a:α}:E.R [a]=[E.e a]:=rfl
theorem jn:dF E.sz (E.R l)=true:=by
 cases l with
 |nil=>rfl
 |cons a l=>simp[R,dF,E.len]
theorem adZ {t:aH} {h:aa}:cQ E.sz h (.vs (E.R l) t)=some (E.R l):=by simp[cQ,E.jn]
theorem ew: ∀{l:List α},AV.fy (E.R l)=E.R l
 |[]=>rfl
 |a::l=>by
  have ih:=ew (l:=l)
  simp only[xF,AV.fy,E.strip,ih]
theorem iB {p:Nat->Bool}: ∀{l:List α},AV.iA p (E.R l)=true
 |[]=>rfl
 |a::l=>by
  have ih:=iB (p:=p) (l:=l)
  simp only[xF,AV.iA,E.all,ih,Bool.and_self]
theorem lR {t:aH}:(AV.vs (E.R l) t).strip= .vs (E.R l) .ao:=by simp only[AV.strip,E.ew]
theorem lV {p:Nat->Bool}:(AV.vs (E.R l) .ao).bB p=true:=by simp only[AV.bB,E.iB,Bool.true_and]
theorem eW {i:Nat} (hi:i<l.length):(E.R l)[i]? =some (E.e l[i]):=by rw[E.aiB,List.getElem?_eq_getElem hi];rfl
end ba
def jM:ba UInt8:=⟨fun b=>[.int .u8 b.toNat],1,fun _=>rfl,fun _=>rfl,fun _ _=>rfl⟩
def ay (k:IntKind):ba Nat:=⟨fun n=>[.int k n],1,fun _=>rfl,fun _=>rfl,fun _ _=>rfl⟩
def a9:ba (List UInt8):=⟨fun b=>[.vs (BS b) .ao],1,fun _=>rfl,fun b=>by simp only[AV.bA,AV.strip,jV],fun p b=>by simp only[AV.bX,AV.bB,u3,Bool.and_self]⟩
def aw:ba (Nat×Nat):=⟨fun p=>[.int .u16 p.1, .int .u8 p.2],2,fun _=>rfl,fun _=>rfl,fun _ _=>rfl⟩
section
variable {P:Program} {T:fk}
theorem Of {α:Type} (E:ba α) (ok:ax P T) {f jl:Nat} {z:List AV} (hf:T.fn f=some (nz z jl E.sz)) {l:List α} {t:aH} {h:aa} (h1:l.length*jl<2^40) (h2:l.length<2^40):an P f [.vs (E.R l) t] h (.vs (E.R l) .ao) h:=by
 cases l with
 |nil=>exact(MG ok hf (t:=t)).strip
 |cons b l=>
  have:=(MY ok hf (x:= .vs (E.R (b::l)) t) (h:=h) (rows:=E.R (b::l)) rfl E.adZ (by simp[ba.R]) (by simpa [E.aN] using h1) (by simpa [E.aN] using h2)).strip
  rw[E.lR] at this
  exact this.restore (fun x hx=>by simp[aa.at];omega) E.lV
theorem abh {α:Type} (E:ba α) (ok:ax P T) {f jl:Nat} {z:List AV} (hf:T.fn f=some (nz z jl E.sz)) {l:List α} {t:aH} {h:aa} (h1:l.length*jl<2^40) (h2:l.length<2^40): ∃v h',an P f [.vs (E.R l) t] h v h'/\App h h' v (E.R l)/\Old h h'/\h'.next<=h.next+1/\(h'=h\/h'=h.at h.next .tail):=by
 cases l with
 |nil=>exact⟨_,h,MG ok hf (t:=t),App.nil h h,Old.refl h,by omega, .inl rfl⟩
 |cons b l=>
  exact⟨_,_,MY ok hf (x:= .vs (E.R (b::l)) t) (h:=h) (rows:=E.R (b::l)) rfl E.adZ (by simp[ba.R]) (by simpa [E.aN] using h1) (by simpa [E.aN] using h2),⟨_,rfl, .inr ⟨h.next,rfl,Nat.le_refl _,by simp[aa.at],by simp[aa.at]⟩⟩,(Old.refl h).at (Nat.le_refl _),by simp[aa.at], .inr rfl⟩
theorem dp {h:aa} {n m base i:Nat} (hb:h.next<=base):cU n base i (h.clean m):=fun j hj hn=>by
 simp only[aa.clean]
 rw[if_neg (by omega)]
def ad4 (rs:List fv) (r:AV) (h0:aa):aQ->Env->aa->Prop
 | .ret,ρ,h=> ∃r0 b cs,(dL ρ h rs).map eQ=some r0/\h.get b=some (.cells cs)/\h0.next<=b/\(AV.eK b cs r0).bB (fun i=>i !=b)=true/\(AV.eK b cs r0).strip=r/\ ∀b,b<h0.next->h.get b=h0.get b
 |_,_,_=>False
theorem Hb {rs:List fv} {r:AV} {h0:aa} {ρ:Env} {h:aa}:ad4 rs r h0 .ret ρ h↔ ∃r0 b cs,(dL ρ h rs).map eQ=some r0/\h.get b=some (.cells cs)/\h0.next<=b/\(AV.eK b cs r0).bB (fun i=>i !=b)=true/\(AV.eK b cs r0).strip=r/\ ∀b,b<h0.next->h.get b=h0.get b:=Iff.rfl
theorem ax.N8 {T:fk} (ok:ax P T) {f:Nat} {rf:aA} (hf:T.fn f=some rf) {args:List AV} (ez:args.length<=rf.ntmps)
 {h:aa} {r:AV} (hr:r.bB (fun b=>decide (b<h.next))=true) (hw:WP P rf.code (ad4 rf.results r h) (jZ args) h):an P f args h r h:=by
 obtain⟨fn,md,h2,h3⟩:=ok.fn f rf hf
 obtain⟨e,ρ',h',hb,hk⟩:=hw
 cases e with
 |ret=>
  obtain⟨r0,b,cs,hv,hg,aC,ha,hs,hh⟩:=hk
  obtain⟨vs,hv,ht⟩:=Option.map_eq_some_iff.1 hv
  have:=nw ok.follow h2 h3 ez hb (.inr rfl) hv
  rw[ht] at this
  have:=(this.freeze hg aC ha).strip
  rw[hs] at this
  refine this.restore (fun i hi=>?_) hr
  have: ¬i=b:=by omega
  simp only[aa.set,this,if_false]
  exact hh i hi
 |normal=>exact hk.elim
 |exit _=>exact hk.elim
 |goto _=>exact hk.elim
def Rm (rs:List fv) (Q:AV->aa->Prop):aQ->Env->aa->Prop
 | .ret,ρ,h=> ∃r,(dL ρ h rs).map eQ=some r/\Q r h
 | .normal,ρ,h=> ∃r,(dL ρ h rs).map eQ=some r/\Q r h
 |_,_,_=>False
theorem lP {rs:List fv} {Q:AV->aa->Prop} {ρ:Env} {h:aa}:Rm rs Q .ret ρ h↔ ∃r,(dL ρ h rs).map eQ=some r/\Q r h:=Iff.rfl
theorem ax.py {T:fk} (ok:ax P T) {f:Nat} {rf:aA} (hf:T.fn f=some rf) {args:List AV} (ez:args.length<=rf.ntmps) {h:aa} {Q:AV->aa->Prop}
 (hw:WP P rf.code (Rm rf.results Q) (jZ args) h): ∃v h',an P f args h v h'/\Q v h':=by
 obtain⟨fn,md,h2,h3⟩:=ok.fn f rf hf
 obtain⟨e,ρ',h',hb,hk⟩:=hw
 cases e with
 |normal=>
  obtain⟨r,hv,hq⟩:=hk
  obtain⟨vs,yL,rfl⟩:=Option.map_eq_some_iff.1 hv
  exact⟨_,h',nw ok.follow h2 h3 ez hb (.inl rfl) yL,hq⟩
 |ret=>
  obtain⟨r,hv,hq⟩:=hk
  obtain⟨vs,yL,rfl⟩:=Option.map_eq_some_iff.1 hv
  exact⟨_,h',nw ok.follow h2 h3 ez hb (.inr rfl) yL,hq⟩
 |exit _=>exact hk.elim
 |goto _=>exact hk.elim
theorem MX {P:Program} {al:List RO} {un:List (List Nat)} {base:Nat} {K:Env->aa->Prop}: ∀(os:List RO) (i:Nat) (ρ:Env) (h:aa) (done:List (Env×aa×Option AV)),(∀j,i<=j->un.getD j []=[])->
 bL P al.length base os i ρ h K->l7 P al un base os i ρ h done K
 |[],i,ρ,h,done,_,he=>he
 |o::os,i,ρ,h,done,hu,⟨r,h',hs,hf,he⟩=>by
  refine⟨r,h',hs,fun k hk=>?_,hf,MX os (i+1) _ h' _ (fun j hj=>hu j (by omega)) he⟩
  rw[hu i (Nat.le_refl _)] at hk
  cases hk
theorem Zh {P:Program} {al qR:List RO} {un:List (List Nat)} {base:Nat} {K:Env->aa->Prop}: ∀(os:List RO) (i:Nat) (ρ:Env) (h:aa) (done:List (Env×aa×Option AV)),(∀j,i+os.length<=j->un.getD j []=[])->
 done.length=i->al.drop i=os++qR->
 (∀k d,done[k]? =some d->xa base d.2.1 h/\ ∀ok q v,al[k]? =some ok->ok.op= .p q->fQ un k=true->d.2.2=some v->aX q d.1 d.2.1=some v/\tQ base (q.key d.1))->
 dW P un al.length base os i ρ h (fun ρ' h'=>bL P al.length base qR (i+os.length) ρ' h' K)->l7 P al un base (os++qR) i ρ h done K
 |[],i,ρ,h,done,hu,_,_,_,he=>MX qR i ρ h done hu he
 |o::os,i,ρ,h,done,hu,hl,hd,hinv,⟨r,h',hs,hf,hk,iq,he⟩=>by
  have lA:al[i]? =some o:=by
   have:(al.drop i)[0]? =some o:=by rw[hd];rfl
   rw[List.getElem?_drop] at this
   simpa using this
  have bH: ∀k,k∈un.getD i []->fQ un i=true/\fQ un k=true:=fun k hk=>by
   constructor
   ·unfold fQ
    cases hq:un.getD i [] with
    |nil=>rw[hq] at hk;cases hk
    |cons a b=>rfl
   ·unfold fQ
    have:un.any (fun l=>l.contains k)=true:=by
     rw[List.any_eq_true]
     rw[List.getD_eq_getElem?_getD] at hk
     cases hq:un[i]? with
     |none=>rw[hq] at hk;cases hk
     |some l=>rw[hq] at hk;exact⟨l,List.mem_of_getElem? hq,by simpa using hk⟩
    rw[this,Bool.or_true]
  have oq: ∀q v,o.op= .p q->r=some v->aX q ρ h=some v/\h'=h:=fun q v hq hr=>by
   unfold br at hs
   split at hs
   ·obtain⟨v',h1,h2⟩:=hs
    rw[hr] at h1;cases h1
    rw[hq] at h2
    exact h2
   ·rw[hr] at hs;cases hs.1
   ·exact hs.elim
  refine⟨r,h',hs,fun k yR ok d aY cB=>?_,hf,?_⟩
  ·obtain⟨f1,f2⟩:=bH k yR
   obtain⟨hold,sv⟩:=hinv k d cB
   unfold lJ
   split
   ·split
    ·rename_i v q hv hq
     obtain⟨h1,h2⟩:=sv ok q v aY hq f2 hv
     rw[<-h1]
     refine(rK q d.1 d.2.1 h' (fun b hb=>?_)).symm
     rw[hb] at h2
     rw[hk b h2,hold b h2]
    ·trivial
   ·split
    ·rename_i v q hq
     obtain⟨h1,rfl⟩:=oq q v hq rfl
     have h2:=iq q hq f1
     rw[<-h1]
     refine rK q ρ d.2.1 h' (fun b hb=>?_)
     rw[hb] at h2
     exact(hold b h2).symm
    ·trivial
  ·refine Zh os (i+1) _ h' _ (fun j hj=>hu j (by simp only[List.length_cons];omega)) (by simp[hl]) ?_ ?_ (by simpa only[List.length_cons,Nat.add_assoc,Nat.add_comm 1] using he)
   ·rw[<-List.drop_drop,hd];rfl
   ·intro k d cB
    rw[List.getElem?_append] at cB
    split at cB
    ·obtain⟨g1,g2⟩:=hinv k d cB
     exact⟨fun b hb=>by rw[hk b hb,g1 b hb],g2⟩
    ·rename_i aC
     have mB:k=i:=by
      have:=(List.getElem?_eq_some_iff.1 cB).1
      simp at this;omega
     subst mB
     simp[hl] at cB
     subst cB
     refine⟨hk,fun ok q v aY hq bH hv=>?_⟩
     rw[lA] at aY;cases aY
     exact⟨(oq q v hq hv).1,iq q hq bH⟩
theorem qg {P:Program} {al:List RO} {un:List (List Nat)} {K:aQ->Env->aa->Prop} {ρ:Env} {h:aa} (k n:Nat) (hn:al.length=n) (hk:k<=n) (hu:(un.drop k).all (·.isEmpty)=true)
 (he:dW P un n h.next (al.take k) 0 ρ (h.clean n) (fun ρ' h'=>bL P n h.next (al.drop k) k ρ' h' (K .normal))):WP P (.aU al un) K ρ h:=by
 subst hn
 have hl:(al.take k).length=k:=by rw[List.length_take];omega
 have:=Zh (P:=P) (al:=al) (qR:=al.drop k) (un:=un) (base:=h.next) (K:=K .normal) (al.take k) 0 ρ (h.clean al.length) [] (fun j hj=>by
  rw[hl,Nat.zero_add] at hj
  have h1:un.getD j []=(un.drop k).getD (j-k) []:=by
   rw[List.getD_eq_getElem?_getD,List.getD_eq_getElem?_getD,List.getElem?_drop,show k+(j-k)=j by omega]
  rw[h1,List.getD_eq_getElem?_getD]
  cases hq:(un.drop k)[j-k]? with
  |none=>rfl
  |some l=>
   have:=List.all_eq_true.1 hu l (List.mem_of_getElem? hq)
   cases l with
   |nil=>rfl
   |cons a b=>simp at this) rfl (by simp) (fun k d hd=>by simp at hd) (by simpa only[hl,Nat.zero_add] using he)
 rw[List.take_append_drop] at this
 obtain⟨ρ1,h1,he,hk⟩:=zp this
 exact⟨_,_,_, .AU he,hk⟩
structure i0 (h:aa) (v:AV) (sz:Nat) (rows:List (List AV)):Prop where
 len:gI v=some rows.length
 get: ∀i (hi:i<rows.length),∃p,iL sz v (.int .i64 i)=some p/\kL true sz h p=some (.agg rows[i])
theorem i0.vs {α:Type} (E:ba α) {h:aa} {l:List α} {t:aH}:i0 h (.vs (E.R l) t) E.sz (E.R l) where
 len:=rfl
 get i hi:=by
  have hlen:((E.R l)[i]).length=E.sz:=by simp[ba.R,E.len]
  refine⟨.vp (E.R l)[i] 0,?_,?_⟩
  ·simp only[iL]
   rw[if_pos (by omega),Int.toNat_natCast,List.getElem?_eq_getElem hi]
   simp[hlen]
  ·simp only[kL,cut,if_true]
   rw[if_pos (by omega),List.drop_zero,List.take_of_length_le (by omega)]
theorem jE {sz:Nat}: ∀{rows:List (List AV)},(∀r∈rows,r.length=sz)->rows.flatten.length=rows.length*sz
 |[],_=>by simp
 |r::rows,h=>by
  have ih:=jE (rows:=rows) (fun r' hr=>h r' (List.mem_cons_of_mem _ hr))
  rw[List.flatten_cons,List.length_append,h r (List.mem_cons_self ..),ih,List.length_cons,Nat.add_mul];omega
theorem Hc {sz:Nat}: ∀{rows:List (List AV)} {i:Nat} (hi:i<rows.length),(∀r∈rows,r.length=sz)->(rows.flatten.drop (i*sz)).take sz=rows[i]
 |r::rows,0,hi,h=>by
  rw[Nat.zero_mul,List.drop_zero,List.flatten_cons,List.take_append_of_le_length (by rw[h r (List.mem_cons_self ..)];omega),List.take_of_length_le (by rw[h r (List.mem_cons_self ..)];omega)];rfl
 |r::rows,i+1,hi,h=>by
  have hr:=h r (List.mem_cons_self ..)
  have:=Hc (rows:=rows) (i:=i) (by simpa using hi) (fun r' hr=>h r' (List.mem_cons_of_mem _ hr))
  rw[List.flatten_cons,List.drop_append,List.drop_of_length_le (by rw[hr,Nat.add_mul];omega),List.nil_append,hr,show(i+1)*sz-sz=i*sz by rw[Nat.add_mul];omega,this];rfl
theorem i0.rs {h:aa} {b sz:Nat} {rows:List (List AV)} {cs:List AV} (hg:cellsOf h b=some cs) (eF:cs.take (rows.length*sz)=rows.flatten) (hr: ∀r∈rows,r.length=sz):i0 h (.rs b 0 rows.length sz) sz rows where
 len:=rfl
 get i hi:=by
  have bH:=jE hr
  have hle:(i+1)*sz<=rows.length*sz:=Nat.mul_le_mul_right sz hi
  rw[Nat.add_mul,Nat.one_mul] at hle
  have dj:rows.length*sz<=cs.length:=by
   have:=congrArg List.length eF
   rw[List.length_take,bH] at this
   omega
  refine⟨.ptr b (0+i*sz),?_,?_⟩
  ·simp only[iL]
   rw[if_pos (by omega),if_pos (by simp;omega),Int.toNat_natCast]
  ·simp only[kL,cut,hg,Option.bind_some,if_true,Nat.zero_add]
   rw[if_pos (by omega),<-Hc hi hr,<-eF,List.drop_take,List.take_take,Nat.min_eq_left (by omega)]
def aes (P:Program) (d:Option Nat) (os:List RO) (ρ:Env) (h:aa) (K:Env->aa->Prop) (v:AV) (as:List AV):Prop:= ∃f fs cs r h',v= .fn f fs cs/\bZ P f=true/\an P f (fs++as++cs) h r h'/\exec P os (put ρ d r) h' K
theorem anM {K:Env->aa->Prop} {ρ:Env} {h:aa} {d:Option Nat} {os:List RO} {x:au} {as:List au}:exec P (⟨d,none, .dyn x as⟩::os) ρ h K↔aes P d os ρ h K (x.ev ρ) (as.map (au.ev ρ)):=by
 constructor
 ·rintro⟨r,h',hs,hk⟩
  simp only[br,bV,gF] at hs
  obtain⟨v,rfl,f,fs,cs,h1,h2,h3⟩:=hs
  exact⟨f,fs,cs,v,h',h1,h2,h3,hk⟩
 ·rintro⟨f,fs,cs,v,h',h1,h2,h3,hk⟩
  refine⟨some v,h',?_,hk⟩
  simp only[br,bV,gF]
  exact⟨v,rfl,f,fs,cs,h1,h2,h3⟩
theorem qf {K:Env->aa->Prop} {ρ:Env} {h h':aa} {d:Option Nat} {os:List RO} {f:Nat} {fs cs as:List AV} {v:AV} (hc:bZ P f=true) (ha:an P f (fs++as++cs) h v h') (hk:exec P os (put ρ d v) h' K):aes P d os ρ h K (.fn f fs cs) as:=⟨f,fs,cs,v,h',rfl,hc,ha,hk⟩
set_option linter.defProp false in
def xv:=And.intro @pK<|And.intro @avN<|And.intro @avM<|And.intro @ad3<|And.intro @apt<|And.intro @aps<|And.intro @aos<|And.intro @apr<|And.intro @aor<|And.intro @apq<|And.intro @aoq<|And.intro @avU<|And.intro @avT<|And.intro @avX<|And.intro @avW<|And.intro @avV<|And.intro @List.length_cons.{0}<|And.intro @List.length_nil.{0}<|And.intro @Int.toNat_natCast<|And.intro Int.toNat_zero<|And.intro @anM<|And.intro @apb<|And.intro @aob @Option.map_some.{0,0}
def aw8 (tb:fk) (fuel f:Nat) (k:IntKind) (n m:Nat) (g:Nat->Nat->AV):Bool:=(List.range n).all fun x=>(List.range m).all fun y=>match vf tb (runK tb fuel) f [.int k x, .int k y] ⟨.leaf,0⟩ (fun v _=>some v) with
 |some v=>sZ 10 (g x y) v
 |none=>false
theorem aoP {tb:fk} (ok:ax P tb) {fuel f:Nat} {k:IntKind} {n m:Nat} {g:Nat->Nat->AV} (hc:aw8 tb fuel f k n m g=true) {x y:Nat} (hx:x<n) (hy:y<m) (hg:(g x y).bB (fun _=>false)=true) (h:aa):an P f [.int k x, .int k y] h (g x y) h:=by
 have h1:=List.all_eq_true.1 (List.all_eq_true.1 hc x (List.mem_range.2 hx)) y (List.mem_range.2 hy)
 split at h1
 ·rename_i v hv
  have:=Hf _ _ _ h1
  subst this
  exact Yk ok hv rfl hg h
 ·cases h1
end
end
end Go.Proofs.YtmffhohcjifllaaGreat.Am
