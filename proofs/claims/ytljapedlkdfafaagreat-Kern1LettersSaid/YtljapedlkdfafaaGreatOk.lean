/- The codes are those of the program. Conditions: none. -/
import Derived.Test.YtljapedlkdfafaaGreatCa
import Derived.Test.YtljapedlkdfafaaGreatChecked
import Derived.KernelRfl
set_option maxRecDepth 100000
set_option linter.unusedVariables false
namespace Go.Proofs.YtljapedlkdfafaaGreat.Am
open Go Go.Proofs.YtljapedlkdfafaaGreat
def aI:Mode:=⟨false,[]⟩
def atY:Mode:=⟨false,[49]⟩
def atX:Mode:=⟨false,[19]⟩
def atW:Mode:=⟨false,[23]⟩
def atV:Mode:=⟨false,[27]⟩
def atU:Mode:=⟨false,[23]⟩
def atT:Mode:=⟨false,[6]⟩
def atS:Mode:=⟨true,[33]⟩
def aqT:Mode:=⟨true,[]⟩
def aqS:Mode:=⟨false,[26]⟩
def aqR:Mode:=⟨false,[25,77,82]⟩
theorem at6:aD Tryz.prog aI Tryz.f3=some c3:=by kernel_rfl
theorem at5:aD Tryz.prog aI Tryz.f4=some c4:=by kernel_rfl
theorem at4:aD Tryz.prog aI Tryz.f6=some c6:=by kernel_rfl
theorem at3:aD Tryz.prog aI Tryz.f8=some c8:=by kernel_rfl
theorem at1:aD Tryz.prog aI Tryz.f9=some c9:=by kernel_rfl
theorem asm:aD Tryz.prog aI Tryz.f10=some mR:=by kernel_rfl
theorem asl:aD Tryz.prog aI Tryz.f11=some Be:=by kernel_rfl
theorem asj:aD Tryz.prog aI Tryz.f12=some FM:=by kernel_rfl
theorem asi:aD Tryz.prog aI Tryz.f14=some qI:=by kernel_rfl
theorem ash:aD Tryz.prog aI Tryz.f16=some yq:=by kernel_rfl
theorem asg:aD Tryz.prog aI Tryz.f17=some pD:=by kernel_rfl
theorem asf:aD Tryz.prog atY Tryz.f19=some iK:=by kernel_rfl
theorem ase:aD Tryz.prog aI Tryz.f20=some sy:=by kernel_rfl
theorem asd:aD Tryz.prog aI Tryz.f21=some kD:=by kernel_rfl
theorem asc:aD Tryz.prog atX Tryz.f22=some sx:=by kernel_rfl
theorem asb:aD Tryz.prog aI Tryz.f23=some Bd:=by kernel_rfl
theorem asa:aD Tryz.prog aI Tryz.f24=some pC:=by kernel_rfl
theorem ar9:aD Tryz.prog aI Tryz.f26=some Bc:=by kernel_rfl
theorem ar8:aD Tryz.prog aI Tryz.f27=some yp:=by kernel_rfl
theorem ar7:aD Tryz.prog aI Tryz.f28=some k9:=by kernel_rfl
theorem ar6:aD Tryz.prog aI Tryz.f29=some Bb:=by kernel_rfl
theorem ar5:aD Tryz.prog aI Tryz.f30=some mQ:=by kernel_rfl
theorem ar4:aD Tryz.prog atW Tryz.f31=some sv:=by kernel_rfl
theorem ar3:aD Tryz.prog aI Tryz.f32=some pB:=by kernel_rfl
theorem ar2:aD Tryz.prog aI Tryz.f33=some FJ:=by kernel_rfl
theorem ar1:aD Tryz.prog aI Tryz.f34=some gI:=by kernel_rfl
theorem ar0:aD Tryz.prog aI Tryz.f35=some pA:=by kernel_rfl
theorem arZ:aD Tryz.prog aI Tryz.f36=some su:=by kernel_rfl
theorem arY:aD Tryz.prog aI Tryz.f37=some qH:=by kernel_rfl
theorem arX:aD Tryz.prog aI Tryz.f38=some eg:=by kernel_rfl
theorem arW:aD Tryz.prog aI Tryz.f39=some FI:=by kernel_rfl
theorem arV:aD Tryz.prog aI Tryz.f40=some FH:=by kernel_rfl
theorem arU:aD Tryz.prog aI Tryz.f41=some VC:=by kernel_rfl
theorem arT:aD Tryz.prog aI Tryz.f42=some qG:=by kernel_rfl
theorem arS:aD Tryz.prog aI Tryz.f43=some qF:=by kernel_rfl
theorem arR:aD Tryz.prog aI Tryz.f44=some ym:=by kernel_rfl
theorem arQ:aD Tryz.prog aI Tryz.f45=some vL:=by kernel_rfl
theorem arP:aD Tryz.prog aI Tryz.f46=some tX:=by kernel_rfl
theorem arO:aD Tryz.prog aI Tryz.f47=some Ba:=by kernel_rfl
theorem arN:aD Tryz.prog atV Tryz.f48=some qE:=by kernel_rfl
theorem arM:aD Tryz.prog aI Tryz.f49=some jc:=by kernel_rfl
theorem arL:aD Tryz.prog aI Tryz.f50=some tW:=by kernel_rfl
theorem arK:aD Tryz.prog aI Tryz.f51=some A9:=by kernel_rfl
theorem arJ:aD Tryz.prog aI Tryz.f52=some tV:=by kernel_rfl
theorem arI:aD Tryz.prog aI Tryz.f53=some tU:=by kernel_rfl
theorem arH:aD Tryz.prog atU Tryz.f54=some vK:=by kernel_rfl
theorem arG:aD Tryz.prog aI Tryz.f55=some VB:=by kernel_rfl
theorem arF:aD Tryz.prog aI Tryz.f56=some A8:=by kernel_rfl
theorem arE:aD Tryz.prog aI Tryz.f57=some pz:=by kernel_rfl
theorem arD:aD Tryz.prog aI Tryz.f58=some ss:=by kernel_rfl
theorem arC:aD Tryz.prog aI Tryz.f59=some fF:=by kernel_rfl
theorem arB:aD Tryz.prog aI Tryz.f60=some py:=by kernel_rfl
theorem arA:aD Tryz.prog aI Tryz.f61=some px:=by kernel_rfl
theorem arz:aD Tryz.prog aI Tryz.f62=some iJ:=by kernel_rfl
theorem ary:aD Tryz.prog aI Tryz.f63=some sr:=by kernel_rfl
theorem arx:aD Tryz.prog aI Tryz.f64=some mP:=by kernel_rfl
theorem arw:aD Tryz.prog aI Tryz.f65=some mO:=by kernel_rfl
theorem arv:aD Tryz.prog aI Tryz.f66=some jN:=by kernel_rfl
theorem aru:aD Tryz.prog aI Tryz.f67=some nT:=by kernel_rfl
theorem art:aD Tryz.prog atT Tryz.f68=some FG:=by kernel_rfl
theorem ars:aD Tryz.prog aI Tryz.f69=some FF:=by kernel_rfl
theorem arq:aD Tryz.prog aI Tryz.f70=some vJ:=by kernel_rfl
theorem arp:aD Tryz.prog aI Tryz.f71=some A7:=by kernel_rfl
theorem aro:aD Tryz.prog aI Tryz.f72=some A6:=by kernel_rfl
theorem arn:aD Tryz.prog aI Tryz.f73=some yl:=by kernel_rfl
theorem arl:aD Tryz.prog aI Tryz.f74=some VA:=by kernel_rfl
theorem ark:aD Tryz.prog aI Tryz.f75=some yk:=by kernel_rfl
theorem arj:aD Tryz.prog aI Tryz.f76=some tT:=by kernel_rfl
theorem ari:aD Tryz.prog aI Tryz.f77=some pw:=by kernel_rfl
theorem arh:aD Tryz.prog aI Tryz.f78=some A5:=by kernel_rfl
theorem arf:aD Tryz.prog aI Tryz.f79=some A4:=by kernel_rfl
theorem are:aD Tryz.prog aI Tryz.f80=some vI:=by kernel_rfl
theorem ard:aD Tryz.prog aI Tryz.f81=some vH:=by kernel_rfl
theorem arc:aD Tryz.prog aI Tryz.f82=some yj:=by kernel_rfl
theorem arb:aD Tryz.prog aI Tryz.f83=some yi:=by kernel_rfl
theorem ara:aD Tryz.prog atS Tryz.f84=some qD:=by kernel_rfl
theorem aq9:aD Tryz.prog aI Tryz.f85=some yh:=by kernel_rfl
theorem aq8:aD Tryz.prog aI Tryz.f86=some FE:=by kernel_rfl
theorem aq7:aD Tryz.prog aI Tryz.f87=some FD:=by kernel_rfl
theorem aq6:aD Tryz.prog aI Tryz.f88=some FC:=by kernel_rfl
theorem aq5:aD Tryz.prog aI Tryz.f89=some pt:=by kernel_rfl
theorem aq4:aD Tryz.prog aI Tryz.f90=some sq:=by kernel_rfl
theorem aq3:aD Tryz.prog aI Tryz.f91=some qC:=by kernel_rfl
theorem aq2:aD Tryz.prog aI Tryz.f92=some tS:=by kernel_rfl
theorem aq1:aD Tryz.prog aI Tryz.f93=some qB:=by kernel_rfl
theorem aq0:aD Tryz.prog aI Tryz.f94=some mN:=by kernel_rfl
theorem aqZ:aD Tryz.prog aI Tryz.f95=some qA:=by kernel_rfl
theorem aqY:aD Tryz.prog aI Tryz.f96=some mM:=by kernel_rfl
theorem aqX:aD Tryz.prog aI Tryz.f97=some yg:=by kernel_rfl
theorem aqW:aD Tryz.prog aI Tryz.f98=some tR:=by kernel_rfl
theorem aqV:aD Tryz.prog aI Tryz.f99=some A3:=by kernel_rfl
theorem aoL:aD Tryz.prog aI Tryz.f100=some As:=by kernel_rfl
theorem aoK:aD Tryz.prog aI Tryz.f101=some iP:=by kernel_rfl
theorem aoJ:aD Tryz.prog aI Tryz.f102=some s8:=by kernel_rfl
theorem aoI:aD Tryz.prog aI Tryz.f103=some xD:=by kernel_rfl
theorem aoH:aD Tryz.prog aI Tryz.f104=some xC:=by kernel_rfl
theorem aoG:aD Tryz.prog aI Tryz.f105=some Ar:=by kernel_rfl
theorem aoF:aD Tryz.prog aI Tryz.f106=some sZ:=by kernel_rfl
theorem aoE:aD Tryz.prog aI Tryz.f107=some xB:=by kernel_rfl
theorem aoD:aD Tryz.prog aI Tryz.f108=some EH:=by kernel_rfl
theorem aoC:aD Tryz.prog aI Tryz.f109=some Ua:=by kernel_rfl
theorem aoB:aD Tryz.prog aI Tryz.f110=some Aq:=by kernel_rfl
theorem aoA:aD Tryz.prog aI Tryz.f111=some oP:=by kernel_rfl
theorem aoz:aD Tryz.prog aI Tryz.f117=some Ap:=by kernel_rfl
theorem aoy:aD Tryz.prog aI Tryz.f120=some T9:=by kernel_rfl
theorem aox:aD Tryz.prog aI Tryz.f121=some T8:=by kernel_rfl
theorem aow:aD Tryz.prog aI Tryz.f122=some Ao:=by kernel_rfl
theorem aov:aD Tryz.prog aI Tryz.f123=some mw:=by kernel_rfl
theorem aou:aD Tryz.prog aI Tryz.f124=some rK:=by kernel_rfl
theorem aot:aD Tryz.prog aI Tryz.f125=some qh:=by kernel_rfl
theorem aos:aD Tryz.prog aI Tryz.f126=some lL:=by kernel_rfl
theorem aor:aD Tryz.prog aI Tryz.f127=some mv:=by kernel_rfl
theorem aoq:aD Tryz.prog aI Tryz.f128=some qg:=by kernel_rfl
theorem aop:aD Tryz.prog aI Tryz.f129=some vj:=by kernel_rfl
theorem aoo:aD Tryz.prog aI Tryz.f130=some rJ:=by kernel_rfl
theorem aon:aD Tryz.prog aI Tryz.f131=some EG:=by kernel_rfl
theorem aom:aD Tryz.prog aI Tryz.f132=some EF:=by kernel_rfl
theorem aol:aD Tryz.prog aqT Tryz.f133=some EE:=by kernel_rfl
theorem aok:aD Tryz.prog aI Tryz.f134=some xA:=by kernel_rfl
theorem aoj:aD Tryz.prog aI Tryz.f135=some xz:=by kernel_rfl
theorem aoi:aD Tryz.prog aI Tryz.f136=some ED:=by kernel_rfl
theorem aoh:aD Tryz.prog aI Tryz.f137=some vi:=by kernel_rfl
theorem aog:aD Tryz.prog aI Tryz.f138=some An:=by kernel_rfl
theorem aof:aD Tryz.prog aI Tryz.f139=some vh:=by kernel_rfl
theorem aoe:aD Tryz.prog aI Tryz.f140=some T7:=by kernel_rfl
theorem aod:aD Tryz.prog aI Tryz.f141=some Al:=by kernel_rfl
theorem aoc:aD Tryz.prog aI Tryz.f142=some EC:=by kernel_rfl
theorem aob:aD Tryz.prog aI Tryz.f143=some oO:=by kernel_rfl
theorem aoa:aD Tryz.prog aI Tryz.f144=some EB:=by kernel_rfl
theorem an9:aD Tryz.prog aI Tryz.f145=some qf:=by kernel_rfl
theorem an8:aD Tryz.prog aI Tryz.f146=some xy:=by kernel_rfl
theorem an7:aD Tryz.prog aI Tryz.f147=some vg:=by kernel_rfl
theorem an6:aD Tryz.prog aI Tryz.f148=some vf:=by kernel_rfl
theorem an5:aD Tryz.prog aI Tryz.f154=some EA:=by kernel_rfl
theorem an4:aD Tryz.prog aI Tryz.f155=some rI:=by kernel_rfl
theorem an3:aD Tryz.prog aI Tryz.f156=some xw:=by kernel_rfl
theorem an2:aD Tryz.prog aI Tryz.f157=some kP:=by kernel_rfl
theorem an1:aD Tryz.prog aI Tryz.f158=some Ez:=by kernel_rfl
theorem an0:aD Tryz.prog aI Tryz.f159=some Ak:=by kernel_rfl
theorem anZ:aD Tryz.prog aI Tryz.f160=some eB:=by kernel_rfl
theorem anY:aD Tryz.prog aI Tryz.f161=some Aj:=by kernel_rfl
theorem anX:aD Tryz.prog aI Tryz.f162=some Ey:=by kernel_rfl
theorem anW:aD Tryz.prog aI Tryz.f163=some Ai:=by kernel_rfl
theorem anV:aD Tryz.prog aI Tryz.f164=some Ex:=by kernel_rfl
theorem anU:aD Tryz.prog aI Tryz.f165=some ve:=by kernel_rfl
theorem anT:aD Tryz.prog aI Tryz.f166=some Ah:=by kernel_rfl
theorem anS:aD Tryz.prog aqS Tryz.f168=some T6:=by kernel_rfl
theorem anR:aD Tryz.prog aI Tryz.f169=some rH:=by kernel_rfl
theorem anQ:aD Tryz.prog aI Tryz.f170=some Ew:=by kernel_rfl
theorem anP:aD Tryz.prog aqR Tryz.f171=some T5:=by kernel_rfl
theorem anO:aD Tryz.prog aI Tryz.f172=some Ev:=by kernel_rfl
theorem anN:aD Tryz.prog aI Tryz.f173=some T4:=by kernel_rfl
theorem anM:aD Tryz.prog aI Tryz.f174=some T3:=by kernel_rfl
theorem anL:aD Tryz.prog aI Tryz.f175=some xu:=by kernel_rfl
theorem anK:aD Tryz.prog aI Tryz.f176=some xt:=by kernel_rfl
theorem anJ:aD Tryz.prog aI Tryz.f177=some Eu:=by kernel_rfl
theorem anI:aD Tryz.prog aI Tryz.f178=some Ag:=by kernel_rfl
theorem anH:aD Tryz.prog aI Tryz.f180=some T2:=by kernel_rfl
theorem anG:aD Tryz.prog aI Tryz.f181=some T0:=by kernel_rfl
theorem anF:aD Tryz.prog aI Tryz.f182=some vc:=by kernel_rfl
theorem anE:aD Tryz.prog aI Tryz.f183=some TZ:=by kernel_rfl
theorem anD:aD Tryz.prog aI Tryz.f184=some TY:=by kernel_rfl
theorem YP:EK.sW=[(3,c3),(31,sv),(63,sr),(127,mv),(95,qA),(159,Ak),(47,Ba),(79,A4),(143,oO),(111,oP),(175,xu),(23,Bd),(39,FI),(71,A7),(135,xz),(103,xD),(55,VB),(87,FD),(183,TZ),(11,Be),(19,iK),(35,pA),(67,nT),(131,EG),(99,A3),(163,Ai),(51,A9),(83,yi),(147,vg),(27,yp),(43,qF),(75,yk),(139,vh),(107,xB),(171,T5),(59,fF),(91,qC),(155,rI),(123,mw),(9,c9),(17,pD),(33,FJ),(65,mO),(129,vj),(97,yg),(161,Aj),(49,jc),(81,vH),(145,qf),(177,Eu),(41,VC),(73,yl),(137,vi),(105,Ar),(169,rH),(57,pz),(89,pt),(121,T8),(21,kD),(37,qH),(69,FF),(133,EE),(101,iP),(165,ve),(53,tU),(85,yh),(117,Ap),(181,T0),(29,Bb),(45,vL),(77,pw),(141,Al),(109,Ua),(173,T4),(61,px),(93,qB),(157,kP),(125,qh),(4,c4),(8,c8),(16,yq),(32,pB),(64,mP),(128,qg),(96,mM),(160,eB),(48,qE),(80,vI),(144,EB),(176,xt),(24,pC),(40,FH),(72,A6),(136,ED),(104,xC),(168,T6),(56,A8),(88,FC),(120,T9),(184,TY),(12,FM),(20,sy),(36,su),(68,FG),(132,EF),(100,As),(164,Ex),(52,tV),(84,qD),(148,vf),(180,T2),(28,k9),(44,ym),(76,tT),(140,T7),(108,EH),(172,Ev),(60,py),(92,tS),(156,xw),(124,rK),(6,c6),(10,mR),(34,gI),(66,jN),(130,rJ),(98,tR),(162,Ey),(50,tW),(82,yj),(146,xy),(178,Ag),(26,Bc),(42,qG),(74,VA),(138,An),(106,sZ),(170,Ew),(58,ss),(90,sq),(154,EA),(122,Ao),(14,qI),(22,sx),(38,eg),(70,vJ),(134,xA),(102,s8),(166,Ah),(54,vK),(86,FE),(182,vc),(30,mQ),(46,tX),(78,A5),(142,EC),(110,Aq),(174,T3),(62,iJ),(94,mN),(158,Ez),(126,lL)]:=by kernel_rfl
theorem fm {p:Nat×az->Prop} {a:Nat×az} {l:List (Nat×az)} (h:p a) (k: ∀x∈l,p x): ∀x∈a::l,p x:=List.forall_mem_cons.2 ⟨h,k⟩
theorem anh: ∀e∈EK.sW,∃fn md,Tryz.prog.funcs[e.1]? =some fn/\aD Tryz.prog md fn=some e.2:=by
 rw[YP]
 refine fm ⟨_,_,Tryz.func3,at6⟩ ?_
 refine fm ⟨_,_,Tryz.func31,ar4⟩ ?_
 refine fm ⟨_,_,Tryz.func63,ary⟩ ?_
 refine fm ⟨_,_,Tryz.func127,aor⟩ ?_
 refine fm ⟨_,_,Tryz.func95,aqZ⟩ ?_
 refine fm ⟨_,_,Tryz.func159,an0⟩ ?_
 refine fm ⟨_,_,Tryz.func47,arO⟩ ?_
 refine fm ⟨_,_,Tryz.func79,arf⟩ ?_
 refine fm ⟨_,_,Tryz.func143,aob⟩ ?_
 refine fm ⟨_,_,Tryz.func111,aoA⟩ ?_
 refine fm ⟨_,_,Tryz.func175,anL⟩ ?_
 refine fm ⟨_,_,Tryz.func23,asb⟩ ?_
 refine fm ⟨_,_,Tryz.func39,arW⟩ ?_
 refine fm ⟨_,_,Tryz.func71,arp⟩ ?_
 refine fm ⟨_,_,Tryz.func135,aoj⟩ ?_
 refine fm ⟨_,_,Tryz.func103,aoI⟩ ?_
 refine fm ⟨_,_,Tryz.func55,arG⟩ ?_
 refine fm ⟨_,_,Tryz.func87,aq7⟩ ?_
 refine fm ⟨_,_,Tryz.func183,anE⟩ ?_
 refine fm ⟨_,_,Tryz.func11,asl⟩ ?_
 refine fm ⟨_,_,Tryz.func19,asf⟩ ?_
 refine fm ⟨_,_,Tryz.func35,ar0⟩ ?_
 refine fm ⟨_,_,Tryz.func67,aru⟩ ?_
 refine fm ⟨_,_,Tryz.func131,aon⟩ ?_
 refine fm ⟨_,_,Tryz.func99,aqV⟩ ?_
 refine fm ⟨_,_,Tryz.func163,anW⟩ ?_
 refine fm ⟨_,_,Tryz.func51,arK⟩ ?_
 refine fm ⟨_,_,Tryz.func83,arb⟩ ?_
 refine fm ⟨_,_,Tryz.func147,an7⟩ ?_
 refine fm ⟨_,_,Tryz.func27,ar8⟩ ?_
 refine fm ⟨_,_,Tryz.func43,arS⟩ ?_
 refine fm ⟨_,_,Tryz.func75,ark⟩ ?_
 refine fm ⟨_,_,Tryz.func139,aof⟩ ?_
 refine fm ⟨_,_,Tryz.func107,aoE⟩ ?_
 refine fm ⟨_,_,Tryz.func171,anP⟩ ?_
 refine fm ⟨_,_,Tryz.func59,arC⟩ ?_
 refine fm ⟨_,_,Tryz.func91,aq3⟩ ?_
 refine fm ⟨_,_,Tryz.func155,an4⟩ ?_
 refine fm ⟨_,_,Tryz.func123,aov⟩ ?_
 refine fm ⟨_,_,Tryz.func9,at1⟩ ?_
 refine fm ⟨_,_,Tryz.func17,asg⟩ ?_
 refine fm ⟨_,_,Tryz.func33,ar2⟩ ?_
 refine fm ⟨_,_,Tryz.func65,arw⟩ ?_
 refine fm ⟨_,_,Tryz.func129,aop⟩ ?_
 refine fm ⟨_,_,Tryz.func97,aqX⟩ ?_
 refine fm ⟨_,_,Tryz.func161,anY⟩ ?_
 refine fm ⟨_,_,Tryz.func49,arM⟩ ?_
 refine fm ⟨_,_,Tryz.func81,ard⟩ ?_
 refine fm ⟨_,_,Tryz.func145,an9⟩ ?_
 refine fm ⟨_,_,Tryz.func177,anJ⟩ ?_
 refine fm ⟨_,_,Tryz.func41,arU⟩ ?_
 refine fm ⟨_,_,Tryz.func73,arn⟩ ?_
 refine fm ⟨_,_,Tryz.func137,aoh⟩ ?_
 refine fm ⟨_,_,Tryz.func105,aoG⟩ ?_
 refine fm ⟨_,_,Tryz.func169,anR⟩ ?_
 refine fm ⟨_,_,Tryz.func57,arE⟩ ?_
 refine fm ⟨_,_,Tryz.func89,aq5⟩ ?_
 refine fm ⟨_,_,Tryz.func121,aox⟩ ?_
 refine fm ⟨_,_,Tryz.func21,asd⟩ ?_
 refine fm ⟨_,_,Tryz.func37,arY⟩ ?_
 refine fm ⟨_,_,Tryz.func69,ars⟩ ?_
 refine fm ⟨_,_,Tryz.func133,aol⟩ ?_
 refine fm ⟨_,_,Tryz.func101,aoK⟩ ?_
 refine fm ⟨_,_,Tryz.func165,anU⟩ ?_
 refine fm ⟨_,_,Tryz.func53,arI⟩ ?_
 refine fm ⟨_,_,Tryz.func85,aq9⟩ ?_
 refine fm ⟨_,_,Tryz.func117,aoz⟩ ?_
 refine fm ⟨_,_,Tryz.func181,anG⟩ ?_
 refine fm ⟨_,_,Tryz.func29,ar6⟩ ?_
 refine fm ⟨_,_,Tryz.func45,arQ⟩ ?_
 refine fm ⟨_,_,Tryz.func77,ari⟩ ?_
 refine fm ⟨_,_,Tryz.func141,aod⟩ ?_
 refine fm ⟨_,_,Tryz.func109,aoC⟩ ?_
 refine fm ⟨_,_,Tryz.func173,anN⟩ ?_
 refine fm ⟨_,_,Tryz.func61,arA⟩ ?_
 refine fm ⟨_,_,Tryz.func93,aq1⟩ ?_
 refine fm ⟨_,_,Tryz.func157,an2⟩ ?_
 refine fm ⟨_,_,Tryz.func125,aot⟩ ?_
 refine fm ⟨_,_,Tryz.func4,at5⟩ ?_
 refine fm ⟨_,_,Tryz.func8,at3⟩ ?_
 refine fm ⟨_,_,Tryz.func16,ash⟩ ?_
 refine fm ⟨_,_,Tryz.func32,ar3⟩ ?_
 refine fm ⟨_,_,Tryz.func64,arx⟩ ?_
 refine fm ⟨_,_,Tryz.func128,aoq⟩ ?_
 refine fm ⟨_,_,Tryz.func96,aqY⟩ ?_
 refine fm ⟨_,_,Tryz.func160,anZ⟩ ?_
 refine fm ⟨_,_,Tryz.func48,arN⟩ ?_
 refine fm ⟨_,_,Tryz.func80,are⟩ ?_
 refine fm ⟨_,_,Tryz.func144,aoa⟩ ?_
 refine fm ⟨_,_,Tryz.func176,anK⟩ ?_
 refine fm ⟨_,_,Tryz.func24,asa⟩ ?_
 refine fm ⟨_,_,Tryz.func40,arV⟩ ?_
 refine fm ⟨_,_,Tryz.func72,aro⟩ ?_
 refine fm ⟨_,_,Tryz.func136,aoi⟩ ?_
 refine fm ⟨_,_,Tryz.func104,aoH⟩ ?_
 refine fm ⟨_,_,Tryz.func168,anS⟩ ?_
 refine fm ⟨_,_,Tryz.func56,arF⟩ ?_
 refine fm ⟨_,_,Tryz.func88,aq6⟩ ?_
 refine fm ⟨_,_,Tryz.func120,aoy⟩ ?_
 refine fm ⟨_,_,Tryz.func184,anD⟩ ?_
 refine fm ⟨_,_,Tryz.func12,asj⟩ ?_
 refine fm ⟨_,_,Tryz.func20,ase⟩ ?_
 refine fm ⟨_,_,Tryz.func36,arZ⟩ ?_
 refine fm ⟨_,_,Tryz.func68,art⟩ ?_
 refine fm ⟨_,_,Tryz.func132,aom⟩ ?_
 refine fm ⟨_,_,Tryz.func100,aoL⟩ ?_
 refine fm ⟨_,_,Tryz.func164,anV⟩ ?_
 refine fm ⟨_,_,Tryz.func52,arJ⟩ ?_
 refine fm ⟨_,_,Tryz.func84,ara⟩ ?_
 refine fm ⟨_,_,Tryz.func148,an6⟩ ?_
 refine fm ⟨_,_,Tryz.func180,anH⟩ ?_
 refine fm ⟨_,_,Tryz.func28,ar7⟩ ?_
 refine fm ⟨_,_,Tryz.func44,arR⟩ ?_
 refine fm ⟨_,_,Tryz.func76,arj⟩ ?_
 refine fm ⟨_,_,Tryz.func140,aoe⟩ ?_
 refine fm ⟨_,_,Tryz.func108,aoD⟩ ?_
 refine fm ⟨_,_,Tryz.func172,anO⟩ ?_
 refine fm ⟨_,_,Tryz.func60,arB⟩ ?_
 refine fm ⟨_,_,Tryz.func92,aq2⟩ ?_
 refine fm ⟨_,_,Tryz.func156,an3⟩ ?_
 refine fm ⟨_,_,Tryz.func124,aou⟩ ?_
 refine fm ⟨_,_,Tryz.func6,at4⟩ ?_
 refine fm ⟨_,_,Tryz.func10,asm⟩ ?_
 refine fm ⟨_,_,Tryz.func34,ar1⟩ ?_
 refine fm ⟨_,_,Tryz.func66,arv⟩ ?_
 refine fm ⟨_,_,Tryz.func130,aoo⟩ ?_
 refine fm ⟨_,_,Tryz.func98,aqW⟩ ?_
 refine fm ⟨_,_,Tryz.func162,anX⟩ ?_
 refine fm ⟨_,_,Tryz.func50,arL⟩ ?_
 refine fm ⟨_,_,Tryz.func82,arc⟩ ?_
 refine fm ⟨_,_,Tryz.func146,an8⟩ ?_
 refine fm ⟨_,_,Tryz.func178,anI⟩ ?_
 refine fm ⟨_,_,Tryz.func26,ar9⟩ ?_
 refine fm ⟨_,_,Tryz.func42,arT⟩ ?_
 refine fm ⟨_,_,Tryz.func74,arl⟩ ?_
 refine fm ⟨_,_,Tryz.func138,aog⟩ ?_
 refine fm ⟨_,_,Tryz.func106,aoF⟩ ?_
 refine fm ⟨_,_,Tryz.func170,anQ⟩ ?_
 refine fm ⟨_,_,Tryz.func58,arD⟩ ?_
 refine fm ⟨_,_,Tryz.func90,aq4⟩ ?_
 refine fm ⟨_,_,Tryz.func154,an5⟩ ?_
 refine fm ⟨_,_,Tryz.func122,aow⟩ ?_
 refine fm ⟨_,_,Tryz.func14,asi⟩ ?_
 refine fm ⟨_,_,Tryz.func22,asc⟩ ?_
 refine fm ⟨_,_,Tryz.func38,arX⟩ ?_
 refine fm ⟨_,_,Tryz.func70,arq⟩ ?_
 refine fm ⟨_,_,Tryz.func134,aok⟩ ?_
 refine fm ⟨_,_,Tryz.func102,aoJ⟩ ?_
 refine fm ⟨_,_,Tryz.func166,anT⟩ ?_
 refine fm ⟨_,_,Tryz.func54,arH⟩ ?_
 refine fm ⟨_,_,Tryz.func86,aq8⟩ ?_
 refine fm ⟨_,_,Tryz.func182,anF⟩ ?_
 refine fm ⟨_,_,Tryz.func30,ar5⟩ ?_
 refine fm ⟨_,_,Tryz.func46,arP⟩ ?_
 refine fm ⟨_,_,Tryz.func78,arh⟩ ?_
 refine fm ⟨_,_,Tryz.func142,aoc⟩ ?_
 refine fm ⟨_,_,Tryz.func110,aoB⟩ ?_
 refine fm ⟨_,_,Tryz.func174,anM⟩ ?_
 refine fm ⟨_,_,Tryz.func62,arz⟩ ?_
 refine fm ⟨_,_,Tryz.func94,aq0⟩ ?_
 refine fm ⟨_,_,Tryz.func158,an1⟩ ?_
 refine fm ⟨_,_,Tryz.func126,aos⟩ ?_
 intro e he
 cases he
theorem ak2: ∀e∈EK.sW,cf Tryz.prog e.1=true:=by
 rw[YP]
 refine List.all_eq_true.1 (?_:List.all _ (fun e:Nat×az=>cf Tryz.prog e.1)=true)
 kernel_rfl
theorem tb_ok:ax Tryz.prog tb where
 follow:=by kernel_rfl
 fn f rf h:=anh (f,rf) (Tr.BB h)
 nat f g h:=by cases h
 cf f h:=by
  obtain⟨rf,hr⟩:=Option.isSome_iff_exists.1 h
  exact ak2 (f,rf) (Tr.BB hr)
end Go.Proofs.YtljapedlkdfafaaGreat.Am
