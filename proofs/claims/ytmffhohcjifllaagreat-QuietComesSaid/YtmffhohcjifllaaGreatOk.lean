/- The codes are those of the program. Conditions: none. -/
import Derived.Test.YtmffhohcjifllaaGreatCa
import Derived.Test.YtmffhohcjifllaaGreatChecked
import Derived.KernelRfl
set_option maxRecDepth 100000
set_option linter.unusedVariables false
namespace Go.Proofs.YtmffhohcjifllaaGreat.Am
open Go Go.Proofs.YtmffhohcjifllaaGreat
def aJ:Mode:=⟨false,[]⟩
def md6:Mode:=⟨false,[49]⟩
def av5:Mode:=⟨false,[19]⟩
def av4:Mode:=⟨false,[11]⟩
def av3:Mode:=⟨false,[23]⟩
def av2:Mode:=⟨false,[27]⟩
def av1:Mode:=⟨false,[6]⟩
def av0:Mode:=⟨false,[23]⟩
def avZ:Mode:=⟨true,[33]⟩
def asS:Mode:=⟨true,[]⟩
def asR:Mode:=⟨false,[26]⟩
def asQ:Mode:=⟨false,[25,77,82]⟩
theorem awf:aD Tryz.prog aJ Tryz.f3=some c3:=by kernel_rfl
theorem awe:aD Tryz.prog aJ Tryz.f4=some c4:=by kernel_rfl
theorem awd:aD Tryz.prog aJ Tryz.f5=some c5:=by kernel_rfl
theorem awc:aD Tryz.prog md6 Tryz.f6=some c6:=by kernel_rfl
theorem awb:aD Tryz.prog aJ Tryz.f7=some c7:=by kernel_rfl
theorem awa:aD Tryz.prog aJ Tryz.f8=some c8:=by kernel_rfl
theorem av9:aD Tryz.prog aJ Tryz.f9=some c9:=by kernel_rfl
theorem auo:aD Tryz.prog aJ Tryz.f10=some qc:=by kernel_rfl
theorem aum:aD Tryz.prog aJ Tryz.f11=some uN:=by kernel_rfl
theorem aul:aD Tryz.prog aJ Tryz.f12=some rF:=by kernel_rfl
theorem auk:aD Tryz.prog aJ Tryz.f13=some fK:=by kernel_rfl
theorem auj:aD Tryz.prog aJ Tryz.f14=some tu:=by kernel_rfl
theorem aui:aD Tryz.prog aJ Tryz.f15=some uM:=by kernel_rfl
theorem auh:aD Tryz.prog aJ Tryz.f16=some qb:=by kernel_rfl
theorem aug:aD Tryz.prog aJ Tryz.f17=some uL:=by kernel_rfl
theorem auf:aD Tryz.prog aJ Tryz.f18=some B7:=by kernel_rfl
theorem aue:aD Tryz.prog aJ Tryz.f19=some y5:=by kernel_rfl
theorem aud:aD Tryz.prog aJ Tryz.f20=some lM:=by kernel_rfl
theorem auc:aD Tryz.prog aJ Tryz.f21=some B6:=by kernel_rfl
theorem aub:aD Tryz.prog aJ Tryz.f22=some np:=by kernel_rfl
theorem aua:aD Tryz.prog aJ Tryz.f23=some jT:=by kernel_rfl
theorem at9:aD Tryz.prog aJ Tryz.f24=some lL:=by kernel_rfl
theorem at8:aD Tryz.prog av5 Tryz.f25=some tq:=by kernel_rfl
theorem at7:aD Tryz.prog aJ Tryz.f26=some B5:=by kernel_rfl
theorem at6:aD Tryz.prog aJ Tryz.f27=some qa:=by kernel_rfl
theorem at5:aD Tryz.prog aJ Tryz.f28=some gD:=by kernel_rfl
theorem at4:aD Tryz.prog av4 Tryz.f29=some wL:=by kernel_rfl
theorem at3:aD Tryz.prog aJ Tryz.f30=some B4:=by kernel_rfl
theorem at1:aD Tryz.prog av3 Tryz.f31=some tp:=by kernel_rfl
theorem at0:aD Tryz.prog aJ Tryz.f32=some p9:=by kernel_rfl
theorem atZ:aD Tryz.prog aJ Tryz.f33=some wK:=by kernel_rfl
theorem atY:aD Tryz.prog aJ Tryz.f34=some GJ:=by kernel_rfl
theorem atX:aD Tryz.prog aJ Tryz.f35=some GI:=by kernel_rfl
theorem atW:aD Tryz.prog aJ Tryz.f36=some GH:=by kernel_rfl
theorem atV:aD Tryz.prog aJ Tryz.f37=some Xa:=by kernel_rfl
theorem atU:aD Tryz.prog aJ Tryz.f38=some gS:=by kernel_rfl
theorem atT:aD Tryz.prog aJ Tryz.f39=some p8:=by kernel_rfl
theorem atS:aD Tryz.prog aJ Tryz.f40=some rE:=by kernel_rfl
theorem atQ:aD Tryz.prog aJ Tryz.f41=some rD:=by kernel_rfl
theorem atP:aD Tryz.prog aJ Tryz.f42=some uK:=by kernel_rfl
theorem atO:aD Tryz.prog aJ Tryz.f43=some d8:=by kernel_rfl
theorem atN:aD Tryz.prog aJ Tryz.f44=some y4:=by kernel_rfl
theorem atM:aD Tryz.prog aJ Tryz.f45=some wJ:=by kernel_rfl
theorem atL:aD Tryz.prog aJ Tryz.f46=some uJ:=by kernel_rfl
theorem atK:aD Tryz.prog aJ Tryz.f47=some B3:=by kernel_rfl
theorem atJ:aD Tryz.prog av2 Tryz.f48=some rC:=by kernel_rfl
theorem atI:aD Tryz.prog av1 Tryz.f49=some GG:=by kernel_rfl
theorem atH:aD Tryz.prog aJ Tryz.f50=some jA:=by kernel_rfl
theorem atG:aD Tryz.prog aJ Tryz.f51=some rB:=by kernel_rfl
theorem atF:aD Tryz.prog aJ Tryz.f52=some uI:=by kernel_rfl
theorem atE:aD Tryz.prog aJ Tryz.f53=some BZ:=by kernel_rfl
theorem atD:aD Tryz.prog aJ Tryz.f54=some uH:=by kernel_rfl
theorem atC:aD Tryz.prog aJ Tryz.f55=some uG:=by kernel_rfl
theorem atB:aD Tryz.prog av0 Tryz.f56=some wI:=by kernel_rfl
theorem atA:aD Tryz.prog aJ Tryz.f57=some W9:=by kernel_rfl
theorem atz:aD Tryz.prog aJ Tryz.f58=some GF:=by kernel_rfl
theorem aty:aD Tryz.prog aJ Tryz.f59=some wH:=by kernel_rfl
theorem atx:aD Tryz.prog aJ Tryz.f60=some BY:=by kernel_rfl
theorem atw:aD Tryz.prog aJ Tryz.f61=some BX:=by kernel_rfl
theorem atv:aD Tryz.prog aJ Tryz.f62=some lK:=by kernel_rfl
theorem atu:aD Tryz.prog aJ Tryz.f63=some BW:=by kernel_rfl
theorem att:aD Tryz.prog aJ Tryz.f64=some p7:=by kernel_rfl
theorem ats:aD Tryz.prog aJ Tryz.f65=some tj:=by kernel_rfl
theorem atr:aD Tryz.prog aJ Tryz.f66=some fj:=by kernel_rfl
theorem atq:aD Tryz.prog aJ Tryz.f67=some p6:=by kernel_rfl
theorem atp:aD Tryz.prog aJ Tryz.f68=some p5:=by kernel_rfl
theorem ato:aD Tryz.prog aJ Tryz.f69=some iZ:=by kernel_rfl
theorem atn:aD Tryz.prog aJ Tryz.f70=some ti:=by kernel_rfl
theorem atm:aD Tryz.prog aJ Tryz.f71=some nj:=by kernel_rfl
theorem atl:aD Tryz.prog aJ Tryz.f72=some ni:=by kernel_rfl
theorem atk:aD Tryz.prog aJ Tryz.f73=some kC:=by kernel_rfl
theorem atj:aD Tryz.prog aJ Tryz.f74=some pc:=by kernel_rfl
theorem ati:aD Tryz.prog aJ Tryz.f75=some y3:=by kernel_rfl
theorem ath:aD Tryz.prog aJ Tryz.f76=some W8:=by kernel_rfl
theorem atg:aD Tryz.prog aJ Tryz.f77=some yZ:=by kernel_rfl
theorem atf:aD Tryz.prog aJ Tryz.f78=some uF:=by kernel_rfl
theorem ate:aD Tryz.prog aJ Tryz.f79=some p4:=by kernel_rfl
theorem atd:aD Tryz.prog aJ Tryz.f80=some BV:=by kernel_rfl
theorem atc:aD Tryz.prog aJ Tryz.f81=some BU:=by kernel_rfl
theorem atb:aD Tryz.prog aJ Tryz.f82=some wG:=by kernel_rfl
theorem ata:aD Tryz.prog aJ Tryz.f83=some wF:=by kernel_rfl
theorem as9:aD Tryz.prog aJ Tryz.f84=some yY:=by kernel_rfl
theorem as8:aD Tryz.prog aJ Tryz.f85=some yX:=by kernel_rfl
theorem as7:aD Tryz.prog avZ Tryz.f86=some rA:=by kernel_rfl
theorem as6:aD Tryz.prog aJ Tryz.f87=some yW:=by kernel_rfl
theorem as5:aD Tryz.prog aJ Tryz.f88=some GC:=by kernel_rfl
theorem as4:aD Tryz.prog aJ Tryz.f89=some GB:=by kernel_rfl
theorem as3:aD Tryz.prog aJ Tryz.f90=some W7:=by kernel_rfl
theorem as2:aD Tryz.prog aJ Tryz.f91=some BT:=by kernel_rfl
theorem as1:aD Tryz.prog aJ Tryz.f92=some GA:=by kernel_rfl
theorem as0:aD Tryz.prog aJ Tryz.f93=some Gz:=by kernel_rfl
theorem asZ:aD Tryz.prog aJ Tryz.f94=some p3:=by kernel_rfl
theorem asY:aD Tryz.prog aJ Tryz.f95=some tg:=by kernel_rfl
theorem asX:aD Tryz.prog aJ Tryz.f96=some rz:=by kernel_rfl
theorem asW:aD Tryz.prog aJ Tryz.f97=some uE:=by kernel_rfl
theorem asV:aD Tryz.prog aJ Tryz.f98=some ry:=by kernel_rfl
theorem asU:aD Tryz.prog aJ Tryz.f99=some nh:=by kernel_rfl
theorem aqP:aD Tryz.prog aJ Tryz.f100=some qL:=by kernel_rfl
theorem aqO:aD Tryz.prog aJ Tryz.f101=some mV:=by kernel_rfl
theorem aqN:aD Tryz.prog aJ Tryz.f102=some yx:=by kernel_rfl
theorem aqM:aD Tryz.prog aJ Tryz.f103=some t5:=by kernel_rfl
theorem aqL:aD Tryz.prog aJ Tryz.f104=some Bh:=by kernel_rfl
theorem aqK:aD Tryz.prog aJ Tryz.f105=some Bg:=by kernel_rfl
theorem aqJ:aD Tryz.prog aJ Tryz.f106=some jd:=by kernel_rfl
theorem aqI:aD Tryz.prog aJ Tryz.f107=some t4:=by kernel_rfl
theorem aqH:aD Tryz.prog aJ Tryz.f108=some yw:=by kernel_rfl
theorem aqG:aD Tryz.prog aJ Tryz.f109=some yv:=by kernel_rfl
theorem aqF:aD Tryz.prog aJ Tryz.f110=some Bf:=by kernel_rfl
theorem aqE:aD Tryz.prog aJ Tryz.f111=some tZ:=by kernel_rfl
theorem aqD:aD Tryz.prog aJ Tryz.f112=some yu:=by kernel_rfl
theorem aqC:aD Tryz.prog aJ Tryz.f113=some pH:=by kernel_rfl
theorem aqB:aD Tryz.prog aJ Tryz.f119=some Be:=by kernel_rfl
theorem aqA:aD Tryz.prog aJ Tryz.f122=some VU:=by kernel_rfl
theorem aqz:aD Tryz.prog aJ Tryz.f123=some VT:=by kernel_rfl
theorem aqy:aD Tryz.prog aJ Tryz.f124=some Bd:=by kernel_rfl
theorem aqx:aD Tryz.prog aJ Tryz.f125=some mU:=by kernel_rfl
theorem aqw:aD Tryz.prog aJ Tryz.f126=some sF:=by kernel_rfl
theorem aqv:aD Tryz.prog aJ Tryz.f127=some qK:=by kernel_rfl
theorem aqu:aD Tryz.prog aJ Tryz.f128=some mq:=by kernel_rfl
theorem aqt:aD Tryz.prog aJ Tryz.f129=some mT:=by kernel_rfl
theorem aqs:aD Tryz.prog aJ Tryz.f130=some qJ:=by kernel_rfl
theorem aqr:aD Tryz.prog aJ Tryz.f131=some v5:=by kernel_rfl
theorem aqq:aD Tryz.prog aJ Tryz.f132=some sE:=by kernel_rfl
theorem aqp:aD Tryz.prog aJ Tryz.f133=some FI:=by kernel_rfl
theorem aqo:aD Tryz.prog aJ Tryz.f134=some FH:=by kernel_rfl
theorem aqn:aD Tryz.prog asS Tryz.f135=some FG:=by kernel_rfl
theorem aqm:aD Tryz.prog aJ Tryz.f136=some vZ:=by kernel_rfl
theorem aql:aD Tryz.prog aJ Tryz.f137=some yt:=by kernel_rfl
theorem aqk:aD Tryz.prog aJ Tryz.f138=some yr:=by kernel_rfl
theorem aqj:aD Tryz.prog aJ Tryz.f139=some FF:=by kernel_rfl
theorem aqi:aD Tryz.prog aJ Tryz.f140=some vY:=by kernel_rfl
theorem aqh:aD Tryz.prog aJ Tryz.f141=some Bc:=by kernel_rfl
theorem aqg:aD Tryz.prog aJ Tryz.f142=some vX:=by kernel_rfl
theorem aqf:aD Tryz.prog aJ Tryz.f143=some VS:=by kernel_rfl
theorem aqe:aD Tryz.prog aJ Tryz.f144=some Bb:=by kernel_rfl
theorem aqd:aD Tryz.prog aJ Tryz.f145=some FE:=by kernel_rfl
theorem aqc:aD Tryz.prog aJ Tryz.f146=some pG:=by kernel_rfl
theorem aqb:aD Tryz.prog aJ Tryz.f147=some FD:=by kernel_rfl
theorem aqa:aD Tryz.prog aJ Tryz.f148=some qI:=by kernel_rfl
theorem ap9:aD Tryz.prog aJ Tryz.f149=some yq:=by kernel_rfl
theorem ap8:aD Tryz.prog aJ Tryz.f150=some vW:=by kernel_rfl
theorem ap7:aD Tryz.prog aJ Tryz.f156=some FC:=by kernel_rfl
theorem ap6:aD Tryz.prog aJ Tryz.f157=some sD:=by kernel_rfl
theorem ap5:aD Tryz.prog aJ Tryz.f158=some yp:=by kernel_rfl
theorem ap4:aD Tryz.prog aJ Tryz.f159=some lh:=by kernel_rfl
theorem ap3:aD Tryz.prog aJ Tryz.f160=some FB:=by kernel_rfl
theorem ap2:aD Tryz.prog aJ Tryz.f161=some Ba:=by kernel_rfl
theorem ap1:aD Tryz.prog aJ Tryz.f162=some eg:=by kernel_rfl
theorem ap0:aD Tryz.prog aJ Tryz.f163=some A9:=by kernel_rfl
theorem apZ:aD Tryz.prog aJ Tryz.f164=some Fz:=by kernel_rfl
theorem apY:aD Tryz.prog aJ Tryz.f165=some A8:=by kernel_rfl
theorem apX:aD Tryz.prog aJ Tryz.f166=some Fy:=by kernel_rfl
theorem apW:aD Tryz.prog aJ Tryz.f167=some vV:=by kernel_rfl
theorem apV:aD Tryz.prog aJ Tryz.f168=some A7:=by kernel_rfl
theorem apU:aD Tryz.prog asR Tryz.f170=some VQ:=by kernel_rfl
theorem apT:aD Tryz.prog aJ Tryz.f171=some sC:=by kernel_rfl
theorem apS:aD Tryz.prog aJ Tryz.f172=some Fx:=by kernel_rfl
theorem apR:aD Tryz.prog asQ Tryz.f173=some VP:=by kernel_rfl
theorem apQ:aD Tryz.prog aJ Tryz.f174=some Fw:=by kernel_rfl
theorem apP:aD Tryz.prog aJ Tryz.f175=some VO:=by kernel_rfl
theorem apO:aD Tryz.prog aJ Tryz.f176=some VN:=by kernel_rfl
theorem apN:aD Tryz.prog aJ Tryz.f177=some ym:=by kernel_rfl
theorem apM:aD Tryz.prog aJ Tryz.f178=some yl:=by kernel_rfl
theorem apL:aD Tryz.prog aJ Tryz.f179=some Fv:=by kernel_rfl
theorem apK:aD Tryz.prog aJ Tryz.f180=some A6:=by kernel_rfl
theorem apJ:aD Tryz.prog aJ Tryz.f182=some VM:=by kernel_rfl
theorem apI:aD Tryz.prog aJ Tryz.f183=some VL:=by kernel_rfl
theorem apH:aD Tryz.prog aJ Tryz.f184=some vU:=by kernel_rfl
theorem apG:aD Tryz.prog aJ Tryz.f185=some VK:=by kernel_rfl
theorem apF:aD Tryz.prog aJ Tryz.f186=some VJ:=by kernel_rfl
theorem aan:FM.tW=[(3,c3),(7,c7),(15,uM),(31,tp),(63,BW),(127,qK),(95,tg),(159,lh),(47,B3),(79,p4),(143,VS),(111,tZ),(175,VO),(23,jT),(39,p8),(71,nj),(135,FG),(103,t5),(167,vV),(55,uG),(87,yW),(119,Be),(183,VL),(11,uN),(19,y5),(35,GI),(67,p6),(131,v5),(99,nh),(163,A9),(51,rB),(83,wF),(147,FD),(179,Fv),(27,qa),(43,d8),(75,y3),(139,FF),(107,t4),(171,sC),(59,wH),(91,BT),(123,VT),(5,c5),(9,c9),(17,uL),(33,wK),(65,tj),(129,mT),(97,uE),(161,Ba),(49,GG),(81,BU),(145,FE),(113,pH),(177,ym),(25,tq),(41,rD),(73,kC),(137,yt),(105,Bg),(57,W9),(89,GB),(185,VK),(13,fK),(21,B6),(37,Xa),(69,iZ),(133,FI),(101,mV),(165,A8),(53,BZ),(85,yX),(149,yq),(29,wL),(45,wJ),(77,yZ),(141,Bc),(109,yv),(173,VP),(61,BX),(93,Gz),(157,sD),(125,mU),(4,c4),(8,c8),(16,qb),(32,p9),(64,p7),(128,mq),(96,rz),(160,FB),(48,rC),(80,BV),(144,Bb),(112,yu),(176,VN),(24,lL),(40,rE),(72,ni),(136,vZ),(104,Bh),(168,A7),(56,wI),(88,GC),(184,vU),(12,rF),(20,lM),(36,GH),(68,p5),(132,sE),(100,qL),(164,Fz),(52,uI),(84,yY),(148,qI),(180,A6),(28,gD),(44,y4),(76,W8),(140,vY),(108,yw),(172,Fx),(60,BY),(92,GA),(156,FC),(124,Bd),(6,c6),(10,qc),(18,B7),(34,GJ),(66,fj),(130,qJ),(98,ry),(162,eg),(50,jA),(82,wG),(146,pG),(178,yl),(26,B5),(42,uK),(74,pc),(138,yr),(106,jd),(170,VQ),(58,GF),(90,W7),(122,VU),(186,VJ),(14,tu),(22,np),(38,gS),(70,ti),(134,FH),(102,yx),(166,Fy),(54,uH),(86,rA),(150,vW),(182,VM),(30,B4),(46,uJ),(78,uF),(142,vX),(110,Bf),(174,Fw),(62,lK),(94,p3),(158,yp),(126,sF)]:=by kernel_rfl
theorem fm {p:Nat×aA->Prop} {a:Nat×aA} {l:List (Nat×aA)} (h:p a) (k: ∀x∈l,p x): ∀x∈a::l,p x:=List.forall_mem_cons.2 ⟨h,k⟩
theorem apj: ∀e∈FM.tW,∃fn md,Tryz.prog.funcs[e.1]? =some fn/\aD Tryz.prog md fn=some e.2:=by
 rw[aan]
 refine fm ⟨_,_,Tryz.func3,awf⟩ ?_
 refine fm ⟨_,_,Tryz.func7,awb⟩ ?_
 refine fm ⟨_,_,Tryz.func15,aui⟩ ?_
 refine fm ⟨_,_,Tryz.func31,at1⟩ ?_
 refine fm ⟨_,_,Tryz.func63,atu⟩ ?_
 refine fm ⟨_,_,Tryz.func127,aqv⟩ ?_
 refine fm ⟨_,_,Tryz.func95,asY⟩ ?_
 refine fm ⟨_,_,Tryz.func159,ap4⟩ ?_
 refine fm ⟨_,_,Tryz.func47,atK⟩ ?_
 refine fm ⟨_,_,Tryz.func79,ate⟩ ?_
 refine fm ⟨_,_,Tryz.func143,aqf⟩ ?_
 refine fm ⟨_,_,Tryz.func111,aqE⟩ ?_
 refine fm ⟨_,_,Tryz.func175,apP⟩ ?_
 refine fm ⟨_,_,Tryz.func23,aua⟩ ?_
 refine fm ⟨_,_,Tryz.func39,atT⟩ ?_
 refine fm ⟨_,_,Tryz.func71,atm⟩ ?_
 refine fm ⟨_,_,Tryz.func135,aqn⟩ ?_
 refine fm ⟨_,_,Tryz.func103,aqM⟩ ?_
 refine fm ⟨_,_,Tryz.func167,apW⟩ ?_
 refine fm ⟨_,_,Tryz.func55,atC⟩ ?_
 refine fm ⟨_,_,Tryz.func87,as6⟩ ?_
 refine fm ⟨_,_,Tryz.func119,aqB⟩ ?_
 refine fm ⟨_,_,Tryz.func183,apI⟩ ?_
 refine fm ⟨_,_,Tryz.func11,aum⟩ ?_
 refine fm ⟨_,_,Tryz.func19,aue⟩ ?_
 refine fm ⟨_,_,Tryz.func35,atX⟩ ?_
 refine fm ⟨_,_,Tryz.func67,atq⟩ ?_
 refine fm ⟨_,_,Tryz.func131,aqr⟩ ?_
 refine fm ⟨_,_,Tryz.func99,asU⟩ ?_
 refine fm ⟨_,_,Tryz.func163,ap0⟩ ?_
 refine fm ⟨_,_,Tryz.func51,atG⟩ ?_
 refine fm ⟨_,_,Tryz.func83,ata⟩ ?_
 refine fm ⟨_,_,Tryz.func147,aqb⟩ ?_
 refine fm ⟨_,_,Tryz.func179,apL⟩ ?_
 refine fm ⟨_,_,Tryz.func27,at6⟩ ?_
 refine fm ⟨_,_,Tryz.func43,atO⟩ ?_
 refine fm ⟨_,_,Tryz.func75,ati⟩ ?_
 refine fm ⟨_,_,Tryz.func139,aqj⟩ ?_
 refine fm ⟨_,_,Tryz.func107,aqI⟩ ?_
 refine fm ⟨_,_,Tryz.func171,apT⟩ ?_
 refine fm ⟨_,_,Tryz.func59,aty⟩ ?_
 refine fm ⟨_,_,Tryz.func91,as2⟩ ?_
 refine fm ⟨_,_,Tryz.func123,aqz⟩ ?_
 refine fm ⟨_,_,Tryz.func5,awd⟩ ?_
 refine fm ⟨_,_,Tryz.func9,av9⟩ ?_
 refine fm ⟨_,_,Tryz.func17,aug⟩ ?_
 refine fm ⟨_,_,Tryz.func33,atZ⟩ ?_
 refine fm ⟨_,_,Tryz.func65,ats⟩ ?_
 refine fm ⟨_,_,Tryz.func129,aqt⟩ ?_
 refine fm ⟨_,_,Tryz.func97,asW⟩ ?_
 refine fm ⟨_,_,Tryz.func161,ap2⟩ ?_
 refine fm ⟨_,_,Tryz.func49,atI⟩ ?_
 refine fm ⟨_,_,Tryz.func81,atc⟩ ?_
 refine fm ⟨_,_,Tryz.func145,aqd⟩ ?_
 refine fm ⟨_,_,Tryz.func113,aqC⟩ ?_
 refine fm ⟨_,_,Tryz.func177,apN⟩ ?_
 refine fm ⟨_,_,Tryz.func25,at8⟩ ?_
 refine fm ⟨_,_,Tryz.func41,atQ⟩ ?_
 refine fm ⟨_,_,Tryz.func73,atk⟩ ?_
 refine fm ⟨_,_,Tryz.func137,aql⟩ ?_
 refine fm ⟨_,_,Tryz.func105,aqK⟩ ?_
 refine fm ⟨_,_,Tryz.func57,atA⟩ ?_
 refine fm ⟨_,_,Tryz.func89,as4⟩ ?_
 refine fm ⟨_,_,Tryz.func185,apG⟩ ?_
 refine fm ⟨_,_,Tryz.func13,auk⟩ ?_
 refine fm ⟨_,_,Tryz.func21,auc⟩ ?_
 refine fm ⟨_,_,Tryz.func37,atV⟩ ?_
 refine fm ⟨_,_,Tryz.func69,ato⟩ ?_
 refine fm ⟨_,_,Tryz.func133,aqp⟩ ?_
 refine fm ⟨_,_,Tryz.func101,aqO⟩ ?_
 refine fm ⟨_,_,Tryz.func165,apY⟩ ?_
 refine fm ⟨_,_,Tryz.func53,atE⟩ ?_
 refine fm ⟨_,_,Tryz.func85,as8⟩ ?_
 refine fm ⟨_,_,Tryz.func149,ap9⟩ ?_
 refine fm ⟨_,_,Tryz.func29,at4⟩ ?_
 refine fm ⟨_,_,Tryz.func45,atM⟩ ?_
 refine fm ⟨_,_,Tryz.func77,atg⟩ ?_
 refine fm ⟨_,_,Tryz.func141,aqh⟩ ?_
 refine fm ⟨_,_,Tryz.func109,aqG⟩ ?_
 refine fm ⟨_,_,Tryz.func173,apR⟩ ?_
 refine fm ⟨_,_,Tryz.func61,atw⟩ ?_
 refine fm ⟨_,_,Tryz.func93,as0⟩ ?_
 refine fm ⟨_,_,Tryz.func157,ap6⟩ ?_
 refine fm ⟨_,_,Tryz.func125,aqx⟩ ?_
 refine fm ⟨_,_,Tryz.func4,awe⟩ ?_
 refine fm ⟨_,_,Tryz.func8,awa⟩ ?_
 refine fm ⟨_,_,Tryz.func16,auh⟩ ?_
 refine fm ⟨_,_,Tryz.func32,at0⟩ ?_
 refine fm ⟨_,_,Tryz.func64,att⟩ ?_
 refine fm ⟨_,_,Tryz.func128,aqu⟩ ?_
 refine fm ⟨_,_,Tryz.func96,asX⟩ ?_
 refine fm ⟨_,_,Tryz.func160,ap3⟩ ?_
 refine fm ⟨_,_,Tryz.func48,atJ⟩ ?_
 refine fm ⟨_,_,Tryz.func80,atd⟩ ?_
 refine fm ⟨_,_,Tryz.func144,aqe⟩ ?_
 refine fm ⟨_,_,Tryz.func112,aqD⟩ ?_
 refine fm ⟨_,_,Tryz.func176,apO⟩ ?_
 refine fm ⟨_,_,Tryz.func24,at9⟩ ?_
 refine fm ⟨_,_,Tryz.func40,atS⟩ ?_
 refine fm ⟨_,_,Tryz.func72,atl⟩ ?_
 refine fm ⟨_,_,Tryz.func136,aqm⟩ ?_
 refine fm ⟨_,_,Tryz.func104,aqL⟩ ?_
 refine fm ⟨_,_,Tryz.func168,apV⟩ ?_
 refine fm ⟨_,_,Tryz.func56,atB⟩ ?_
 refine fm ⟨_,_,Tryz.func88,as5⟩ ?_
 refine fm ⟨_,_,Tryz.func184,apH⟩ ?_
 refine fm ⟨_,_,Tryz.func12,aul⟩ ?_
 refine fm ⟨_,_,Tryz.func20,aud⟩ ?_
 refine fm ⟨_,_,Tryz.func36,atW⟩ ?_
 refine fm ⟨_,_,Tryz.func68,atp⟩ ?_
 refine fm ⟨_,_,Tryz.func132,aqq⟩ ?_
 refine fm ⟨_,_,Tryz.func100,aqP⟩ ?_
 refine fm ⟨_,_,Tryz.func164,apZ⟩ ?_
 refine fm ⟨_,_,Tryz.func52,atF⟩ ?_
 refine fm ⟨_,_,Tryz.func84,as9⟩ ?_
 refine fm ⟨_,_,Tryz.func148,aqa⟩ ?_
 refine fm ⟨_,_,Tryz.func180,apK⟩ ?_
 refine fm ⟨_,_,Tryz.func28,at5⟩ ?_
 refine fm ⟨_,_,Tryz.func44,atN⟩ ?_
 refine fm ⟨_,_,Tryz.func76,ath⟩ ?_
 refine fm ⟨_,_,Tryz.func140,aqi⟩ ?_
 refine fm ⟨_,_,Tryz.func108,aqH⟩ ?_
 refine fm ⟨_,_,Tryz.func172,apS⟩ ?_
 refine fm ⟨_,_,Tryz.func60,atx⟩ ?_
 refine fm ⟨_,_,Tryz.func92,as1⟩ ?_
 refine fm ⟨_,_,Tryz.func156,ap7⟩ ?_
 refine fm ⟨_,_,Tryz.func124,aqy⟩ ?_
 refine fm ⟨_,_,Tryz.func6,awc⟩ ?_
 refine fm ⟨_,_,Tryz.func10,auo⟩ ?_
 refine fm ⟨_,_,Tryz.func18,auf⟩ ?_
 refine fm ⟨_,_,Tryz.func34,atY⟩ ?_
 refine fm ⟨_,_,Tryz.func66,atr⟩ ?_
 refine fm ⟨_,_,Tryz.func130,aqs⟩ ?_
 refine fm ⟨_,_,Tryz.func98,asV⟩ ?_
 refine fm ⟨_,_,Tryz.func162,ap1⟩ ?_
 refine fm ⟨_,_,Tryz.func50,atH⟩ ?_
 refine fm ⟨_,_,Tryz.func82,atb⟩ ?_
 refine fm ⟨_,_,Tryz.func146,aqc⟩ ?_
 refine fm ⟨_,_,Tryz.func178,apM⟩ ?_
 refine fm ⟨_,_,Tryz.func26,at7⟩ ?_
 refine fm ⟨_,_,Tryz.func42,atP⟩ ?_
 refine fm ⟨_,_,Tryz.func74,atj⟩ ?_
 refine fm ⟨_,_,Tryz.func138,aqk⟩ ?_
 refine fm ⟨_,_,Tryz.func106,aqJ⟩ ?_
 refine fm ⟨_,_,Tryz.func170,apU⟩ ?_
 refine fm ⟨_,_,Tryz.func58,atz⟩ ?_
 refine fm ⟨_,_,Tryz.func90,as3⟩ ?_
 refine fm ⟨_,_,Tryz.func122,aqA⟩ ?_
 refine fm ⟨_,_,Tryz.func186,apF⟩ ?_
 refine fm ⟨_,_,Tryz.func14,auj⟩ ?_
 refine fm ⟨_,_,Tryz.func22,aub⟩ ?_
 refine fm ⟨_,_,Tryz.func38,atU⟩ ?_
 refine fm ⟨_,_,Tryz.func70,atn⟩ ?_
 refine fm ⟨_,_,Tryz.func134,aqo⟩ ?_
 refine fm ⟨_,_,Tryz.func102,aqN⟩ ?_
 refine fm ⟨_,_,Tryz.func166,apX⟩ ?_
 refine fm ⟨_,_,Tryz.func54,atD⟩ ?_
 refine fm ⟨_,_,Tryz.func86,as7⟩ ?_
 refine fm ⟨_,_,Tryz.func150,ap8⟩ ?_
 refine fm ⟨_,_,Tryz.func182,apJ⟩ ?_
 refine fm ⟨_,_,Tryz.func30,at3⟩ ?_
 refine fm ⟨_,_,Tryz.func46,atL⟩ ?_
 refine fm ⟨_,_,Tryz.func78,atf⟩ ?_
 refine fm ⟨_,_,Tryz.func142,aqg⟩ ?_
 refine fm ⟨_,_,Tryz.func110,aqF⟩ ?_
 refine fm ⟨_,_,Tryz.func174,apQ⟩ ?_
 refine fm ⟨_,_,Tryz.func62,atv⟩ ?_
 refine fm ⟨_,_,Tryz.func94,asZ⟩ ?_
 refine fm ⟨_,_,Tryz.func158,ap5⟩ ?_
 refine fm ⟨_,_,Tryz.func126,aqw⟩ ?_
 intro e he
 cases he
theorem am3: ∀e∈FM.tW,bZ Tryz.prog e.1=true:=by
 rw[aan]
 refine List.all_eq_true.1 (?_:List.all _ (fun e:Nat×aA=>bZ Tryz.prog e.1)=true)
 kernel_rfl
theorem tb_ok:ax Tryz.prog tb where
 follow:=by kernel_rfl
 fn f rf h:=apj (f,rf) (Tr.Cu h)
 nat f g h:=by cases h
 bZ f h:=by
  obtain⟨rf,hr⟩:=Option.isSome_iff_exists.1 h
  exact am3 (f,rf) (Tr.Cu hr)
end Go.Proofs.YtmffhohcjifllaaGreat.Am
