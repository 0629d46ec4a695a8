/- The codes are those of the program. Conditions: none. -/
import Derived.Test.YtljapedlkdfafaaGreatCa
import Derived.Test.YtljapedlkdfafaaGreatChecked
import Derived.KernelRfl
set_option maxRecDepth 100000
set_option linter.unusedVariables false
namespace Go.Proofs.YtljapedlkdfafaaGreat.Am
open Go Go.Proofs.YtljapedlkdfafaaGreat
def aI:Mode:=⟨false,[]⟩
def md7:Mode:=⟨false,[26]⟩
def avg:Mode:=⟨false,[49]⟩
def avf:Mode:=⟨false,[19]⟩
def ave:Mode:=⟨false,[23]⟩
def avd:Mode:=⟨false,[27]⟩
def avc:Mode:=⟨false,[23]⟩
def avb:Mode:=⟨false,[6]⟩
def ava:Mode:=⟨true,[33]⟩
def ara:Mode:=⟨true,[]⟩
def aq9:Mode:=⟨false,[26]⟩
def aq8:Mode:=⟨false,[25,77,82]⟩
theorem avp:aC Tryz.prog aI Tryz.f3=some c3:=by kernel_rfl
theorem avo:aC Tryz.prog aI Tryz.f4=some c4:=by kernel_rfl
theorem avn:aC Tryz.prog aI Tryz.f5=some c5:=by kernel_rfl
theorem avm:aC Tryz.prog aI Tryz.f6=some c6:=by kernel_rfl
theorem avl:aC Tryz.prog md7 Tryz.f7=some c7:=by kernel_rfl
theorem avk:aC Tryz.prog aI Tryz.f8=some c8:=by kernel_rfl
theorem avj:aC Tryz.prog aI Tryz.f9=some c9:=by kernel_rfl
theorem asH:aC Tryz.prog aI Tryz.f10=some mS:=by kernel_rfl
theorem asG:aC Tryz.prog aI Tryz.f11=some Bg:=by kernel_rfl
theorem asF:aC Tryz.prog aI Tryz.f12=some FM:=by kernel_rfl
theorem asE:aC Tryz.prog aI Tryz.f13=some FJ:=by kernel_rfl
theorem asD:aC Tryz.prog aI Tryz.f14=some qN:=by kernel_rfl
theorem asC:aC Tryz.prog aI Tryz.f15=some pK:=by kernel_rfl
theorem asB:aC Tryz.prog aI Tryz.f16=some yw:=by kernel_rfl
theorem asA:aC Tryz.prog aI Tryz.f17=some pJ:=by kernel_rfl
theorem asz:aC Tryz.prog aI Tryz.f18=some ua:=by kernel_rfl
theorem asy:aC Tryz.prog avg Tryz.f19=some iM:=by kernel_rfl
theorem asx:aC Tryz.prog aI Tryz.f20=some sH:=by kernel_rfl
theorem asw:aC Tryz.prog aI Tryz.f21=some kC:=by kernel_rfl
theorem asv:aC Tryz.prog avf Tryz.f22=some sG:=by kernel_rfl
theorem asu:aC Tryz.prog aI Tryz.f23=some Bf:=by kernel_rfl
theorem ast:aC Tryz.prog aI Tryz.f24=some pI:=by kernel_rfl
theorem ass:aC Tryz.prog aI Tryz.f25=some yv:=by kernel_rfl
theorem asr:aC Tryz.prog aI Tryz.f26=some Be:=by kernel_rfl
theorem asq:aC Tryz.prog aI Tryz.f27=some yu:=by kernel_rfl
theorem asp:aC Tryz.prog aI Tryz.f28=some k7:=by kernel_rfl
theorem aso:aC Tryz.prog aI Tryz.f29=some Bd:=by kernel_rfl
theorem asn:aC Tryz.prog aI Tryz.f30=some mR:=by kernel_rfl
theorem asm:aC Tryz.prog ave Tryz.f31=some sF:=by kernel_rfl
theorem asl:aC Tryz.prog aI Tryz.f32=some pH:=by kernel_rfl
theorem asj:aC Tryz.prog aI Tryz.f33=some FI:=by kernel_rfl
theorem asi:aC Tryz.prog aI Tryz.f34=some gP:=by kernel_rfl
theorem ash:aC Tryz.prog aI Tryz.f35=some pG:=by kernel_rfl
theorem asg:aC Tryz.prog aI Tryz.f36=some sE:=by kernel_rfl
theorem asf:aC Tryz.prog aI Tryz.f37=some qM:=by kernel_rfl
theorem ase:aC Tryz.prog aI Tryz.f38=some ee:=by kernel_rfl
theorem asd:aC Tryz.prog aI Tryz.f39=some FH:=by kernel_rfl
theorem asc:aC Tryz.prog aI Tryz.f40=some FG:=by kernel_rfl
theorem asb:aC Tryz.prog aI Tryz.f41=some VD:=by kernel_rfl
theorem asa:aC Tryz.prog aI Tryz.f42=some qL:=by kernel_rfl
theorem ar9:aC Tryz.prog aI Tryz.f43=some qK:=by kernel_rfl
theorem ar8:aC Tryz.prog aI Tryz.f44=some yt:=by kernel_rfl
theorem ar7:aC Tryz.prog aI Tryz.f45=some vZ:=by kernel_rfl
theorem ar6:aC Tryz.prog aI Tryz.f46=some t9:=by kernel_rfl
theorem ar5:aC Tryz.prog aI Tryz.f47=some Bc:=by kernel_rfl
theorem ar4:aC Tryz.prog avd Tryz.f48=some qJ:=by kernel_rfl
theorem ar3:aC Tryz.prog aI Tryz.f49=some je:=by kernel_rfl
theorem ar2:aC Tryz.prog aI Tryz.f50=some t8:=by kernel_rfl
theorem ar1:aC Tryz.prog aI Tryz.f51=some Bb:=by kernel_rfl
theorem ar0:aC Tryz.prog aI Tryz.f52=some t7:=by kernel_rfl
theorem arZ:aC Tryz.prog aI Tryz.f53=some t5:=by kernel_rfl
theorem arY:aC Tryz.prog avc Tryz.f54=some vY:=by kernel_rfl
theorem arX:aC Tryz.prog aI Tryz.f55=some VC:=by kernel_rfl
theorem arW:aC Tryz.prog aI Tryz.f56=some Ba:=by kernel_rfl
theorem arV:aC Tryz.prog aI Tryz.f57=some pF:=by kernel_rfl
theorem arU:aC Tryz.prog aI Tryz.f58=some sD:=by kernel_rfl
theorem arT:aC Tryz.prog aI Tryz.f59=some fA:=by kernel_rfl
theorem arS:aC Tryz.prog aI Tryz.f60=some pE:=by kernel_rfl
theorem arR:aC Tryz.prog aI Tryz.f61=some pD:=by kernel_rfl
theorem arQ:aC Tryz.prog aI Tryz.f62=some iL:=by kernel_rfl
theorem arP:aC Tryz.prog aI Tryz.f63=some sC:=by kernel_rfl
theorem arO:aC Tryz.prog aI Tryz.f64=some mQ:=by kernel_rfl
theorem arN:aC Tryz.prog aI Tryz.f65=some mP:=by kernel_rfl
theorem arM:aC Tryz.prog aI Tryz.f66=some jM:=by kernel_rfl
theorem arL:aC Tryz.prog aI Tryz.f67=some oe:=by kernel_rfl
theorem arK:aC Tryz.prog avb Tryz.f68=some FF:=by kernel_rfl
theorem arJ:aC Tryz.prog aI Tryz.f69=some FE:=by kernel_rfl
theorem arI:aC Tryz.prog aI Tryz.f70=some vX:=by kernel_rfl
theorem arH:aC Tryz.prog aI Tryz.f71=some A9:=by kernel_rfl
theorem arG:aC Tryz.prog aI Tryz.f72=some A8:=by kernel_rfl
theorem arF:aC Tryz.prog aI Tryz.f73=some yr:=by kernel_rfl
theorem arE:aC Tryz.prog aI Tryz.f74=some VB:=by kernel_rfl
theorem arD:aC Tryz.prog aI Tryz.f75=some yq:=by kernel_rfl
theorem arC:aC Tryz.prog aI Tryz.f76=some t4:=by kernel_rfl
theorem arB:aC Tryz.prog aI Tryz.f77=some pC:=by kernel_rfl
theorem arA:aC Tryz.prog aI Tryz.f78=some A7:=by kernel_rfl
theorem arz:aC Tryz.prog aI Tryz.f79=some A6:=by kernel_rfl
theorem ary:aC Tryz.prog aI Tryz.f80=some vW:=by kernel_rfl
theorem arx:aC Tryz.prog aI Tryz.f81=some vV:=by kernel_rfl
theorem arw:aC Tryz.prog aI Tryz.f82=some yp:=by kernel_rfl
theorem arv:aC Tryz.prog aI Tryz.f83=some ym:=by kernel_rfl
theorem aru:aC Tryz.prog ava Tryz.f84=some qI:=by kernel_rfl
theorem art:aC Tryz.prog aI Tryz.f85=some yl:=by kernel_rfl
theorem ars:aC Tryz.prog aI Tryz.f86=some FD:=by kernel_rfl
theorem arq:aC Tryz.prog aI Tryz.f87=some FC:=by kernel_rfl
theorem arp:aC Tryz.prog aI Tryz.f88=some FB:=by kernel_rfl
theorem aro:aC Tryz.prog aI Tryz.f89=some pB:=by kernel_rfl
theorem arn:aC Tryz.prog aI Tryz.f90=some sB:=by kernel_rfl
theorem arl:aC Tryz.prog aI Tryz.f91=some qH:=by kernel_rfl
theorem ark:aC Tryz.prog aI Tryz.f92=some tZ:=by kernel_rfl
theorem arj:aC Tryz.prog aI Tryz.f93=some qG:=by kernel_rfl
theorem ari:aC Tryz.prog aI Tryz.f94=some mO:=by kernel_rfl
theorem arh:aC Tryz.prog aI Tryz.f95=some qF:=by kernel_rfl
theorem arf:aC Tryz.prog aI Tryz.f96=some mN:=by kernel_rfl
theorem are:aC Tryz.prog aI Tryz.f97=some yk:=by kernel_rfl
theorem ard:aC Tryz.prog aI Tryz.f98=some tY:=by kernel_rfl
theorem arc:aC Tryz.prog aI Tryz.f99=some A5:=by kernel_rfl
theorem aoV:aC Tryz.prog aI Tryz.f100=some Aw:=by kernel_rfl
theorem aoU:aC Tryz.prog aI Tryz.f101=some iR:=by kernel_rfl
theorem aoT:aC Tryz.prog aI Tryz.f102=some tq:=by kernel_rfl
theorem aoS:aC Tryz.prog aI Tryz.f103=some xR:=by kernel_rfl
theorem aoR:aC Tryz.prog aI Tryz.f104=some xQ:=by kernel_rfl
theorem aoQ:aC Tryz.prog aI Tryz.f105=some Av:=by kernel_rfl
theorem aoP:aC Tryz.prog aI Tryz.f106=some tp:=by kernel_rfl
theorem aoO:aC Tryz.prog aI Tryz.f107=some xP:=by kernel_rfl
theorem aoN:aC Tryz.prog aI Tryz.f108=some EI:=by kernel_rfl
theorem aoM:aC Tryz.prog aI Tryz.f109=some Uj:=by kernel_rfl
theorem aoL:aC Tryz.prog aI Tryz.f110=some Au:=by kernel_rfl
theorem aoK:aC Tryz.prog aI Tryz.f111=some oU:=by kernel_rfl
theorem aoJ:aC Tryz.prog aI Tryz.f117=some At:=by kernel_rfl
theorem aoI:aC Tryz.prog aI Tryz.f120=some Ui:=by kernel_rfl
theorem aoH:aC Tryz.prog aI Tryz.f121=some Uh:=by kernel_rfl
theorem aoG:aC Tryz.prog aI Tryz.f122=some As:=by kernel_rfl
theorem aoF:aC Tryz.prog aI Tryz.f123=some mz:=by kernel_rfl
theorem aoE:aC Tryz.prog aI Tryz.f124=some rS:=by kernel_rfl
theorem aoD:aC Tryz.prog aI Tryz.f125=some qi:=by kernel_rfl
theorem aoC:aC Tryz.prog aI Tryz.f126=some lM:=by kernel_rfl
theorem aoB:aC Tryz.prog aI Tryz.f127=some my:=by kernel_rfl
theorem aoA:aC Tryz.prog aI Tryz.f128=some qh:=by kernel_rfl
theorem aoz:aC Tryz.prog aI Tryz.f129=some vw:=by kernel_rfl
theorem aoy:aC Tryz.prog aI Tryz.f130=some rR:=by kernel_rfl
theorem aox:aC Tryz.prog aI Tryz.f131=some EH:=by kernel_rfl
theorem aow:aC Tryz.prog aI Tryz.f132=some EG:=by kernel_rfl
theorem aov:aC Tryz.prog ara Tryz.f133=some EF:=by kernel_rfl
theorem aou:aC Tryz.prog aI Tryz.f134=some xO:=by kernel_rfl
theorem aot:aC Tryz.prog aI Tryz.f135=some xN:=by kernel_rfl
theorem aos:aC Tryz.prog aI Tryz.f136=some EE:=by kernel_rfl
theorem aor:aC Tryz.prog aI Tryz.f137=some vv:=by kernel_rfl
theorem aoq:aC Tryz.prog aI Tryz.f138=some Ar:=by kernel_rfl
theorem aop:aC Tryz.prog aI Tryz.f139=some vu:=by kernel_rfl
theorem aoo:aC Tryz.prog aI Tryz.f140=some Ug:=by kernel_rfl
theorem aon:aC Tryz.prog aI Tryz.f141=some Aq:=by kernel_rfl
theorem aom:aC Tryz.prog aI Tryz.f142=some ED:=by kernel_rfl
theorem aol:aC Tryz.prog aI Tryz.f143=some oT:=by kernel_rfl
theorem aok:aC Tryz.prog aI Tryz.f144=some EC:=by kernel_rfl
theorem aoj:aC Tryz.prog aI Tryz.f145=some qg:=by kernel_rfl
theorem aoi:aC Tryz.prog aI Tryz.f146=some xM:=by kernel_rfl
theorem aoh:aC Tryz.prog aI Tryz.f147=some vt:=by kernel_rfl
theorem aog:aC Tryz.prog aI Tryz.f148=some vn:=by kernel_rfl
theorem aof:aC Tryz.prog aI Tryz.f154=some EB:=by kernel_rfl
theorem aoe:aC Tryz.prog aI Tryz.f155=some rQ:=by kernel_rfl
theorem aod:aC Tryz.prog aI Tryz.f156=some xL:=by kernel_rfl
theorem aoc:aC Tryz.prog aI Tryz.f157=some kN:=by kernel_rfl
theorem aob:aC Tryz.prog aI Tryz.f158=some EA:=by kernel_rfl
theorem aoa:aC Tryz.prog aI Tryz.f159=some Ap:=by kernel_rfl
theorem an9:aC Tryz.prog aI Tryz.f160=some ey:=by kernel_rfl
theorem an8:aC Tryz.prog aI Tryz.f161=some Ao:=by kernel_rfl
theorem an7:aC Tryz.prog aI Tryz.f162=some Ez:=by kernel_rfl
theorem an6:aC Tryz.prog aI Tryz.f163=some An:=by kernel_rfl
theorem an5:aC Tryz.prog aI Tryz.f164=some Ey:=by kernel_rfl
theorem an4:aC Tryz.prog aI Tryz.f165=some vm:=by kernel_rfl
theorem an3:aC Tryz.prog aI Tryz.f166=some Al:=by kernel_rfl
theorem an2:aC Tryz.prog aq9 Tryz.f168=some Uf:=by kernel_rfl
theorem an1:aC Tryz.prog aI Tryz.f169=some rP:=by kernel_rfl
theorem an0:aC Tryz.prog aI Tryz.f170=some Ex:=by kernel_rfl
theorem anZ:aC Tryz.prog aq8 Tryz.f171=some Ue:=by kernel_rfl
theorem anY:aC Tryz.prog aI Tryz.f172=some Ew:=by kernel_rfl
theorem anX:aC Tryz.prog aI Tryz.f173=some Ud:=by kernel_rfl
theorem anW:aC Tryz.prog aI Tryz.f174=some Uc:=by kernel_rfl
theorem anV:aC Tryz.prog aI Tryz.f175=some xK:=by kernel_rfl
theorem anU:aC Tryz.prog aI Tryz.f176=some xJ:=by kernel_rfl
theorem anT:aC Tryz.prog aI Tryz.f177=some Ev:=by kernel_rfl
theorem anS:aC Tryz.prog aI Tryz.f178=some Ak:=by kernel_rfl
theorem anR:aC Tryz.prog aI Tryz.f180=some Ub:=by kernel_rfl
theorem anQ:aC Tryz.prog aI Tryz.f181=some Ua:=by kernel_rfl
theorem anP:aC Tryz.prog aI Tryz.f182=some vl:=by kernel_rfl
theorem anO:aC Tryz.prog aI Tryz.f183=some T9:=by kernel_rfl
theorem anN:aC Tryz.prog aI Tryz.f184=some T8:=by kernel_rfl
theorem YP:EJ.tg=[(3,c3),(7,c7),(15,pK),(31,sF),(63,sC),(127,my),(95,qF),(159,Ap),(47,Bc),(79,A6),(143,oT),(111,oU),(175,xK),(23,Bf),(39,FH),(71,A9),(135,xN),(103,xR),(55,VC),(87,FC),(183,T9),(11,Bg),(19,iM),(35,pG),(67,oe),(131,EH),(99,A5),(163,An),(51,Bb),(83,ym),(147,vt),(27,yu),(43,qK),(75,yq),(139,vu),(107,xP),(171,Ue),(59,fA),(91,qH),(155,rQ),(123,mz),(5,c5),(9,c9),(17,pJ),(33,FI),(65,mP),(129,vw),(97,yk),(161,Ao),(49,je),(81,vV),(145,qg),(177,Ev),(25,yv),(41,VD),(73,yr),(137,vv),(105,Av),(169,rP),(57,pF),(89,pB),(121,Uh),(13,FJ),(21,kC),(37,qM),(69,FE),(133,EF),(101,iR),(165,vm),(53,t5),(85,yl),(117,At),(181,Ua),(29,Bd),(45,vZ),(77,pC),(141,Aq),(109,Uj),(173,Ud),(61,pD),(93,qG),(157,kN),(125,qi),(4,c4),(8,c8),(16,yw),(32,pH),(64,mQ),(128,qh),(96,mN),(160,ey),(48,qJ),(80,vW),(144,EC),(176,xJ),(24,pI),(40,FG),(72,A8),(136,EE),(104,xQ),(168,Uf),(56,Ba),(88,FB),(120,Ui),(184,T8),(12,FM),(20,sH),(36,sE),(68,FF),(132,EG),(100,Aw),(164,Ey),(52,t7),(84,qI),(148,vn),(180,Ub),(28,k7),(44,yt),(76,t4),(140,Ug),(108,EI),(172,Ew),(60,pE),(92,tZ),(156,xL),(124,rS),(6,c6),(10,mS),(18,ua),(34,gP),(66,jM),(130,rR),(98,tY),(162,Ez),(50,t8),(82,yp),(146,xM),(178,Ak),(26,Be),(42,qL),(74,VB),(138,Ar),(106,tp),(170,Ex),(58,sD),(90,sB),(154,EB),(122,As),(14,qN),(22,sG),(38,ee),(70,vX),(134,xO),(102,tq),(166,Al),(54,vY),(86,FD),(182,vl),(30,mR),(46,t9),(78,A7),(142,ED),(110,Au),(174,Uc),(62,iL),(94,mO),(158,EA),(126,lM)]:=by kernel_rfl
theorem fm {p:Nat×az->Prop} {a:Nat×az} {l:List (Nat×az)} (h:p a) (k: ∀x∈l,p x): ∀x∈a::l,p x:=List.forall_mem_cons.2 ⟨h,k⟩
theorem anu: ∀e∈EJ.tg,∃fn md,Tryz.prog.funcs[e.1]? =some fn/\aC Tryz.prog md fn=some e.2:=by
 rw[YP]
 refine fm ⟨_,_,Tryz.func3,avp⟩ ?_
 refine fm ⟨_,_,Tryz.func7,avl⟩ ?_
 refine fm ⟨_,_,Tryz.func15,asC⟩ ?_
 refine fm ⟨_,_,Tryz.func31,asm⟩ ?_
 refine fm ⟨_,_,Tryz.func63,arP⟩ ?_
 refine fm ⟨_,_,Tryz.func127,aoB⟩ ?_
 refine fm ⟨_,_,Tryz.func95,arh⟩ ?_
 refine fm ⟨_,_,Tryz.func159,aoa⟩ ?_
 refine fm ⟨_,_,Tryz.func47,ar5⟩ ?_
 refine fm ⟨_,_,Tryz.func79,arz⟩ ?_
 refine fm ⟨_,_,Tryz.func143,aol⟩ ?_
 refine fm ⟨_,_,Tryz.func111,aoK⟩ ?_
 refine fm ⟨_,_,Tryz.func175,anV⟩ ?_
 refine fm ⟨_,_,Tryz.func23,asu⟩ ?_
 refine fm ⟨_,_,Tryz.func39,asd⟩ ?_
 refine fm ⟨_,_,Tryz.func71,arH⟩ ?_
 refine fm ⟨_,_,Tryz.func135,aot⟩ ?_
 refine fm ⟨_,_,Tryz.func103,aoS⟩ ?_
 refine fm ⟨_,_,Tryz.func55,arX⟩ ?_
 refine fm ⟨_,_,Tryz.func87,arq⟩ ?_
 refine fm ⟨_,_,Tryz.func183,anO⟩ ?_
 refine fm ⟨_,_,Tryz.func11,asG⟩ ?_
 refine fm ⟨_,_,Tryz.func19,asy⟩ ?_
 refine fm ⟨_,_,Tryz.func35,ash⟩ ?_
 refine fm ⟨_,_,Tryz.func67,arL⟩ ?_
 refine fm ⟨_,_,Tryz.func131,aox⟩ ?_
 refine fm ⟨_,_,Tryz.func99,arc⟩ ?_
 refine fm ⟨_,_,Tryz.func163,an6⟩ ?_
 refine fm ⟨_,_,Tryz.func51,ar1⟩ ?_
 refine fm ⟨_,_,Tryz.func83,arv⟩ ?_
 refine fm ⟨_,_,Tryz.func147,aoh⟩ ?_
 refine fm ⟨_,_,Tryz.func27,asq⟩ ?_
 refine fm ⟨_,_,Tryz.func43,ar9⟩ ?_
 refine fm ⟨_,_,Tryz.func75,arD⟩ ?_
 refine fm ⟨_,_,Tryz.func139,aop⟩ ?_
 refine fm ⟨_,_,Tryz.func107,aoO⟩ ?_
 refine fm ⟨_,_,Tryz.func171,anZ⟩ ?_
 refine fm ⟨_,_,Tryz.func59,arT⟩ ?_
 refine fm ⟨_,_,Tryz.func91,arl⟩ ?_
 refine fm ⟨_,_,Tryz.func155,aoe⟩ ?_
 refine fm ⟨_,_,Tryz.func123,aoF⟩ ?_
 refine fm ⟨_,_,Tryz.func5,avn⟩ ?_
 refine fm ⟨_,_,Tryz.func9,avj⟩ ?_
 refine fm ⟨_,_,Tryz.func17,asA⟩ ?_
 refine fm ⟨_,_,Tryz.func33,asj⟩ ?_
 refine fm ⟨_,_,Tryz.func65,arN⟩ ?_
 refine fm ⟨_,_,Tryz.func129,aoz⟩ ?_
 refine fm ⟨_,_,Tryz.func97,are⟩ ?_
 refine fm ⟨_,_,Tryz.func161,an8⟩ ?_
 refine fm ⟨_,_,Tryz.func49,ar3⟩ ?_
 refine fm ⟨_,_,Tryz.func81,arx⟩ ?_
 refine fm ⟨_,_,Tryz.func145,aoj⟩ ?_
 refine fm ⟨_,_,Tryz.func177,anT⟩ ?_
 refine fm ⟨_,_,Tryz.func25,ass⟩ ?_
 refine fm ⟨_,_,Tryz.func41,asb⟩ ?_
 refine fm ⟨_,_,Tryz.func73,arF⟩ ?_
 refine fm ⟨_,_,Tryz.func137,aor⟩ ?_
 refine fm ⟨_,_,Tryz.func105,aoQ⟩ ?_
 refine fm ⟨_,_,Tryz.func169,an1⟩ ?_
 refine fm ⟨_,_,Tryz.func57,arV⟩ ?_
 refine fm ⟨_,_,Tryz.func89,aro⟩ ?_
 refine fm ⟨_,_,Tryz.func121,aoH⟩ ?_
 refine fm ⟨_,_,Tryz.func13,asE⟩ ?_
 refine fm ⟨_,_,Tryz.func21,asw⟩ ?_
 refine fm ⟨_,_,Tryz.func37,asf⟩ ?_
 refine fm ⟨_,_,Tryz.func69,arJ⟩ ?_
 refine fm ⟨_,_,Tryz.func133,aov⟩ ?_
 refine fm ⟨_,_,Tryz.func101,aoU⟩ ?_
 refine fm ⟨_,_,Tryz.func165,an4⟩ ?_
 refine fm ⟨_,_,Tryz.func53,arZ⟩ ?_
 refine fm ⟨_,_,Tryz.func85,art⟩ ?_
 refine fm ⟨_,_,Tryz.func117,aoJ⟩ ?_
 refine fm ⟨_,_,Tryz.func181,anQ⟩ ?_
 refine fm ⟨_,_,Tryz.func29,aso⟩ ?_
 refine fm ⟨_,_,Tryz.func45,ar7⟩ ?_
 refine fm ⟨_,_,Tryz.func77,arB⟩ ?_
 refine fm ⟨_,_,Tryz.func141,aon⟩ ?_
 refine fm ⟨_,_,Tryz.func109,aoM⟩ ?_
 refine fm ⟨_,_,Tryz.func173,anX⟩ ?_
 refine fm ⟨_,_,Tryz.func61,arR⟩ ?_
 refine fm ⟨_,_,Tryz.func93,arj⟩ ?_
 refine fm ⟨_,_,Tryz.func157,aoc⟩ ?_
 refine fm ⟨_,_,Tryz.func125,aoD⟩ ?_
 refine fm ⟨_,_,Tryz.func4,avo⟩ ?_
 refine fm ⟨_,_,Tryz.func8,avk⟩ ?_
 refine fm ⟨_,_,Tryz.func16,asB⟩ ?_
 refine fm ⟨_,_,Tryz.func32,asl⟩ ?_
 refine fm ⟨_,_,Tryz.func64,arO⟩ ?_
 refine fm ⟨_,_,Tryz.func128,aoA⟩ ?_
 refine fm ⟨_,_,Tryz.func96,arf⟩ ?_
 refine fm ⟨_,_,Tryz.func160,an9⟩ ?_
 refine fm ⟨_,_,Tryz.func48,ar4⟩ ?_
 refine fm ⟨_,_,Tryz.func80,ary⟩ ?_
 refine fm ⟨_,_,Tryz.func144,aok⟩ ?_
 refine fm ⟨_,_,Tryz.func176,anU⟩ ?_
 refine fm ⟨_,_,Tryz.func24,ast⟩ ?_
 refine fm ⟨_,_,Tryz.func40,asc⟩ ?_
 refine fm ⟨_,_,Tryz.func72,arG⟩ ?_
 refine fm ⟨_,_,Tryz.func136,aos⟩ ?_
 refine fm ⟨_,_,Tryz.func104,aoR⟩ ?_
 refine fm ⟨_,_,Tryz.func168,an2⟩ ?_
 refine fm ⟨_,_,Tryz.func56,arW⟩ ?_
 refine fm ⟨_,_,Tryz.func88,arp⟩ ?_
 refine fm ⟨_,_,Tryz.func120,aoI⟩ ?_
 refine fm ⟨_,_,Tryz.func184,anN⟩ ?_
 refine fm ⟨_,_,Tryz.func12,asF⟩ ?_
 refine fm ⟨_,_,Tryz.func20,asx⟩ ?_
 refine fm ⟨_,_,Tryz.func36,asg⟩ ?_
 refine fm ⟨_,_,Tryz.func68,arK⟩ ?_
 refine fm ⟨_,_,Tryz.func132,aow⟩ ?_
 refine fm ⟨_,_,Tryz.func100,aoV⟩ ?_
 refine fm ⟨_,_,Tryz.func164,an5⟩ ?_
 refine fm ⟨_,_,Tryz.func52,ar0⟩ ?_
 refine fm ⟨_,_,Tryz.func84,aru⟩ ?_
 refine fm ⟨_,_,Tryz.func148,aog⟩ ?_
 refine fm ⟨_,_,Tryz.func180,anR⟩ ?_
 refine fm ⟨_,_,Tryz.func28,asp⟩ ?_
 refine fm ⟨_,_,Tryz.func44,ar8⟩ ?_
 refine fm ⟨_,_,Tryz.func76,arC⟩ ?_
 refine fm ⟨_,_,Tryz.func140,aoo⟩ ?_
 refine fm ⟨_,_,Tryz.func108,aoN⟩ ?_
 refine fm ⟨_,_,Tryz.func172,anY⟩ ?_
 refine fm ⟨_,_,Tryz.func60,arS⟩ ?_
 refine fm ⟨_,_,Tryz.func92,ark⟩ ?_
 refine fm ⟨_,_,Tryz.func156,aod⟩ ?_
 refine fm ⟨_,_,Tryz.func124,aoE⟩ ?_
 refine fm ⟨_,_,Tryz.func6,avm⟩ ?_
 refine fm ⟨_,_,Tryz.func10,asH⟩ ?_
 refine fm ⟨_,_,Tryz.func18,asz⟩ ?_
 refine fm ⟨_,_,Tryz.func34,asi⟩ ?_
 refine fm ⟨_,_,Tryz.func66,arM⟩ ?_
 refine fm ⟨_,_,Tryz.func130,aoy⟩ ?_
 refine fm ⟨_,_,Tryz.func98,ard⟩ ?_
 refine fm ⟨_,_,Tryz.func162,an7⟩ ?_
 refine fm ⟨_,_,Tryz.func50,ar2⟩ ?_
 refine fm ⟨_,_,Tryz.func82,arw⟩ ?_
 refine fm ⟨_,_,Tryz.func146,aoi⟩ ?_
 refine fm ⟨_,_,Tryz.func178,anS⟩ ?_
 refine fm ⟨_,_,Tryz.func26,asr⟩ ?_
 refine fm ⟨_,_,Tryz.func42,asa⟩ ?_
 refine fm ⟨_,_,Tryz.func74,arE⟩ ?_
 refine fm ⟨_,_,Tryz.func138,aoq⟩ ?_
 refine fm ⟨_,_,Tryz.func106,aoP⟩ ?_
 refine fm ⟨_,_,Tryz.func170,an0⟩ ?_
 refine fm ⟨_,_,Tryz.func58,arU⟩ ?_
 refine fm ⟨_,_,Tryz.func90,arn⟩ ?_
 refine fm ⟨_,_,Tryz.func154,aof⟩ ?_
 refine fm ⟨_,_,Tryz.func122,aoG⟩ ?_
 refine fm ⟨_,_,Tryz.func14,asD⟩ ?_
 refine fm ⟨_,_,Tryz.func22,asv⟩ ?_
 refine fm ⟨_,_,Tryz.func38,ase⟩ ?_
 refine fm ⟨_,_,Tryz.func70,arI⟩ ?_
 refine fm ⟨_,_,Tryz.func134,aou⟩ ?_
 refine fm ⟨_,_,Tryz.func102,aoT⟩ ?_
 refine fm ⟨_,_,Tryz.func166,an3⟩ ?_
 refine fm ⟨_,_,Tryz.func54,arY⟩ ?_
 refine fm ⟨_,_,Tryz.func86,ars⟩ ?_
 refine fm ⟨_,_,Tryz.func182,anP⟩ ?_
 refine fm ⟨_,_,Tryz.func30,asn⟩ ?_
 refine fm ⟨_,_,Tryz.func46,ar6⟩ ?_
 refine fm ⟨_,_,Tryz.func78,arA⟩ ?_
 refine fm ⟨_,_,Tryz.func142,aom⟩ ?_
 refine fm ⟨_,_,Tryz.func110,aoL⟩ ?_
 refine fm ⟨_,_,Tryz.func174,anW⟩ ?_
 refine fm ⟨_,_,Tryz.func62,arQ⟩ ?_
 refine fm ⟨_,_,Tryz.func94,ari⟩ ?_
 refine fm ⟨_,_,Tryz.func158,aob⟩ ?_
 refine fm ⟨_,_,Tryz.func126,aoC⟩ ?_
 intro e he
 cases he
theorem ala: ∀e∈EJ.tg,cj Tryz.prog e.1=true:=by
 rw[YP]
 refine List.all_eq_true.1 (?_:List.all _ (fun e:Nat×az=>cj Tryz.prog e.1)=true)
 kernel_rfl
theorem tb_ok:ax Tryz.prog tb where
 follow:=by kernel_rfl
 fn f rf h:=anu (f,rf) (Tr.BC h)
 nat f g h:=by cases h
 cj f h:=by
  obtain⟨rf,hr⟩:=Option.isSome_iff_exists.1 h
  exact ala (f,rf) (Tr.BC hr)
end Go.Proofs.YtljapedlkdfafaaGreat.Am
