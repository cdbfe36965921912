/- FnExactOrderFindings: whatever the arguments, the law answers true, and the arguments read as they did. Conditions: none beyond those of the row. -/
import Derived.Test.YtngbehdgjocndaaGreatRows
import Derived.Test.YtngbehdgjocndaaGreatTofL
import Derived.Test.YtngbehdgjocndaaGreatTofP
import Derived.Test.YtngbehdgjocndaaGreatSimRk
import Derived.WalkKit
import Derived.ProofKit
import Derived.OpenShut
import Derived.ShutString
import Derived.ChangeOld
import Derived.Below
import Derived.SizedLaws
namespace Go.Proofs.YtngbehdgjocndaaGreat
open Go Go.Sim Go.Pw Go.Proofs
set_option linter.unusedVariables false
set_option maxRecDepth 100000
theorem g5:okF fc5 Tryz.f5=true:=by kernel_rfl
theorem g6:okF fc6 Tryz.f6=true:=by kernel_rfl
theorem g8:okF fc8 Tryz.f8=true:=by kernel_rfl
theorem g10:okF agH Tryz.f10=true:=by kernel_rfl
theorem g11:okF ajC Tryz.f11=true:=by kernel_rfl
theorem g12:okF ajD Tryz.f12=true:=by kernel_rfl
theorem g13:okF agI Tryz.f13=true:=by kernel_rfl
theorem g14:okF agJ Tryz.f14=true:=by kernel_rfl
theorem g17:okF ajE Tryz.f17=true:=by kernel_rfl
theorem g18:okF ajF Tryz.f18=true:=by kernel_rfl
theorem g19:okF ajG Tryz.f19=true:=by kernel_rfl
theorem g20:okF agK Tryz.f20=true:=by kernel_rfl
theorem g21:okF ajH Tryz.f21=true:=by kernel_rfl
theorem g22:okF ajI Tryz.f22=true:=by kernel_rfl
theorem g23:okF ajJ Tryz.f23=true:=by kernel_rfl
theorem g24:okF ajK Tryz.f24=true:=by kernel_rfl
theorem g25:okF agL Tryz.f25=true:=by kernel_rfl
theorem g26:okF agM Tryz.f26=true:=by kernel_rfl
theorem g27:okF ajL Tryz.f27=true:=by kernel_rfl
theorem g28:okF agN Tryz.f28=true:=by kernel_rfl
theorem g29:okF agO Tryz.f29=true:=by kernel_rfl
theorem g31:okF ajM Tryz.f31=true:=by kernel_rfl
theorem g32:okF ajN Tryz.f32=true:=by kernel_rfl
theorem g33:okF agP Tryz.f33=true:=by kernel_rfl
theorem g34:okF agQ Tryz.f34=true:=by kernel_rfl
theorem g35:okF ajO Tryz.f35=true:=by kernel_rfl
theorem g36:okF agR Tryz.f36=true:=by kernel_rfl
theorem g37:okF ajP Tryz.f37=true:=by kernel_rfl
theorem g38:okF agS Tryz.f38=true:=by kernel_rfl
theorem g39:okF agT Tryz.f39=true:=by kernel_rfl
theorem g40:okF agU Tryz.f40=true:=by kernel_rfl
theorem g41:okF agV Tryz.f41=true:=by kernel_rfl
theorem g43:okF agW Tryz.f43=true:=by kernel_rfl
theorem g44:okF ajQ Tryz.f44=true:=by kernel_rfl
theorem g45:okF agX Tryz.f45=true:=by kernel_rfl
theorem g46:okF ajR Tryz.f46=true:=by kernel_rfl
theorem g47:okF agY Tryz.f47=true:=by kernel_rfl
theorem g51:okF agZ Tryz.f51=true:=by kernel_rfl
theorem g52:okF ajS Tryz.f52=true:=by kernel_rfl
theorem g53:okF ag0 Tryz.f53=true:=by kernel_rfl
theorem g54:okF ajT Tryz.f54=true:=by kernel_rfl
theorem g55:okF ajU Tryz.f55=true:=by kernel_rfl
theorem g56:okF ag1 Tryz.f56=true:=by kernel_rfl
theorem g57:okF ag2 Tryz.f57=true:=by kernel_rfl
theorem g58:okF ag3 Tryz.f58=true:=by kernel_rfl
theorem g59:okF ag4 Tryz.f59=true:=by kernel_rfl
theorem g60:okF ag5 Tryz.f60=true:=by kernel_rfl
theorem g61:okF ag6 Tryz.f61=true:=by kernel_rfl
theorem g64:okF ajV Tryz.f64=true:=by kernel_rfl
theorem g65:okF ag7 Tryz.f65=true:=by kernel_rfl
theorem g66:okF ajW Tryz.f66=true:=by kernel_rfl
theorem g67:okF ajX Tryz.f67=true:=by kernel_rfl
theorem g68:okF ajY Tryz.f68=true:=by kernel_rfl
theorem g69:okF ag8 Tryz.f69=true:=by kernel_rfl
theorem g70:okF ag9 Tryz.f70=true:=by kernel_rfl
theorem g73:okF aha Tryz.f73=true:=by kernel_rfl
theorem g74:okF ajZ Tryz.f74=true:=by kernel_rfl
theorem g75:okF aj0 Tryz.f75=true:=by kernel_rfl
theorem g76:okF ahb Tryz.f76=true:=by kernel_rfl
theorem g77:okF aj1 Tryz.f77=true:=by kernel_rfl
theorem g78:okF aj2 Tryz.f78=true:=by kernel_rfl
theorem g79:okF ahc Tryz.f79=true:=by kernel_rfl
theorem g80:okF ahd Tryz.f80=true:=by kernel_rfl
theorem g81:okF ahe Tryz.f81=true:=by kernel_rfl
theorem g82:okF ahf Tryz.f82=true:=by kernel_rfl
theorem g83:okF ahg Tryz.f83=true:=by kernel_rfl
theorem g84:okF ahh Tryz.f84=true:=by kernel_rfl
theorem g85:okF aj3 Tryz.f85=true:=by kernel_rfl
theorem g86:okF aj6 Tryz.f86=true:=by kernel_rfl
theorem g87:okF ahi Tryz.f87=true:=by kernel_rfl
theorem g89:okF aj7 Tryz.f89=true:=by kernel_rfl
theorem g97:okF ahj Tryz.f97=true:=by kernel_rfl
theorem g98:okF ahk Tryz.f98=true:=by kernel_rfl
theorem g99:okF ahl Tryz.f99=true:=by kernel_rfl
theorem apL:okF aae Tryz.f100=true:=by kernel_rfl
theorem apM:okF aaf Tryz.f101=true:=by kernel_rfl
theorem apN:okF ad6 Tryz.f102=true:=by kernel_rfl
theorem apO:okF aag Tryz.f103=true:=by kernel_rfl
theorem apP:okF aah Tryz.f104=true:=by kernel_rfl
theorem apQ:okF ad7 Tryz.f105=true:=by kernel_rfl
theorem apR:okF aai Tryz.f106=true:=by kernel_rfl
theorem apS:okF aaj Tryz.f107=true:=by kernel_rfl
theorem apT:okF aak Tryz.f114=true:=by kernel_rfl
theorem apU:okF aal Tryz.f115=true:=by kernel_rfl
theorem apV:okF ad8 Tryz.f116=true:=by kernel_rfl
theorem apW:okF aam Tryz.f117=true:=by kernel_rfl
theorem apX:okF aan Tryz.f118=true:=by kernel_rfl
theorem apY:okF aao Tryz.f119=true:=by kernel_rfl
theorem apZ:okF aap Tryz.f121=true:=by kernel_rfl
theorem ap0:okF aaq Tryz.f122=true:=by kernel_rfl
theorem ap1:okF aar Tryz.f123=true:=by kernel_rfl
theorem ap2:okF ad9 Tryz.f124=true:=by kernel_rfl
theorem ap3:okF aas Tryz.f125=true:=by kernel_rfl
theorem ap4:okF aea Tryz.f126=true:=by kernel_rfl
theorem ap5:okF aat Tryz.f127=true:=by kernel_rfl
theorem ap6:okF aau Tryz.f128=true:=by kernel_rfl
theorem ap7:okF aav Tryz.f129=true:=by kernel_rfl
theorem ap8:okF aaw Tryz.f130=true:=by kernel_rfl
theorem ap9:okF aeb Tryz.f131=true:=by kernel_rfl
theorem aqa:okF aax Tryz.f132=true:=by kernel_rfl
theorem aqb:okF aec Tryz.f134=true:=by kernel_rfl
theorem aqc:okF aay Tryz.f135=true:=by kernel_rfl
theorem aqd:okF aed Tryz.f146=true:=by kernel_rfl
theorem aqe:okF aaz Tryz.f147=true:=by kernel_rfl
theorem aqf:okF aaA Tryz.f148=true:=by kernel_rfl
theorem aqg:okF aee Tryz.f149=true:=by kernel_rfl
theorem aqh:okF aef Tryz.f150=true:=by kernel_rfl
theorem aqi:okF aeg Tryz.f151=true:=by kernel_rfl
theorem aqj:okF aeh Tryz.f152=true:=by kernel_rfl
theorem aqk:okF aaB Tryz.f153=true:=by kernel_rfl
theorem aql:okF aaC Tryz.f154=true:=by kernel_rfl
theorem aqm:okF aaD Tryz.f155=true:=by kernel_rfl
theorem aqn:okF aei Tryz.f156=true:=by kernel_rfl
theorem aqo:okF aej Tryz.f157=true:=by kernel_rfl
theorem aqp:okF aaE Tryz.f158=true:=by kernel_rfl
theorem aqr:okF aek Tryz.f159=true:=by kernel_rfl
theorem aqs:okF ael Tryz.f160=true:=by kernel_rfl
theorem aqt:okF aaF Tryz.f161=true:=by kernel_rfl
theorem aqu:okF aem Tryz.f169=true:=by kernel_rfl
theorem aqv:okF aen Tryz.f170=true:=by kernel_rfl
theorem aqw:okF aeo Tryz.f171=true:=by kernel_rfl
theorem aqx:okF aaG Tryz.f174=true:=by kernel_rfl
theorem aqy:okF aaH Tryz.f175=true:=by kernel_rfl
theorem aqz:okF aaI Tryz.f176=true:=by kernel_rfl
theorem aqA:okF aaJ Tryz.f177=true:=by kernel_rfl
theorem aqB:okF aaK Tryz.f178=true:=by kernel_rfl
theorem aqC:okF aaL Tryz.f179=true:=by kernel_rfl
theorem aqD:okF aaM Tryz.f180=true:=by kernel_rfl
theorem aqE:okF aaN Tryz.f181=true:=by kernel_rfl
theorem aqF:okF aaO Tryz.f182=true:=by kernel_rfl
theorem aqG:okF aep Tryz.f183=true:=by kernel_rfl
theorem aqH:okF aeq Tryz.f189=true:=by kernel_rfl
theorem aqI:okF aer Tryz.f196=true:=by kernel_rfl
theorem aqJ:okF aaP Tryz.f197=true:=by kernel_rfl
theorem aqK:okF aaQ Tryz.f198=true:=by kernel_rfl
theorem aqL:okF aaR Tryz.f199=true:=by kernel_rfl
theorem aqM:okF aaS Tryz.f200=true:=by kernel_rfl
theorem aqN:okF aaT Tryz.f201=true:=by kernel_rfl
theorem aqO:okF aaU Tryz.f202=true:=by kernel_rfl
theorem aqP:okF aaV Tryz.f203=true:=by kernel_rfl
theorem aqQ:okF aaW Tryz.f204=true:=by kernel_rfl
theorem aqR:okF aaX Tryz.f205=true:=by kernel_rfl
theorem aqS:okF aes Tryz.f206=true:=by kernel_rfl
theorem aqT:okF aaY Tryz.f207=true:=by kernel_rfl
theorem aqU:okF aet Tryz.f215=true:=by kernel_rfl
theorem aqV:okF aaZ Tryz.f216=true:=by kernel_rfl
theorem aqW:okF aeu Tryz.f217=true:=by kernel_rfl
theorem aqX:okF aa0 Tryz.f218=true:=by kernel_rfl
theorem aqY:okF aev Tryz.f219=true:=by kernel_rfl
theorem aqZ:okF aew Tryz.f220=true:=by kernel_rfl
theorem aq0:okF aex Tryz.f221=true:=by kernel_rfl
theorem aq1:okF aey Tryz.f222=true:=by kernel_rfl
theorem aq2:okF aa1 Tryz.f223=true:=by kernel_rfl
theorem aq3:okF aa2 Tryz.f224=true:=by kernel_rfl
theorem aq4:okF aa3 Tryz.f225=true:=by kernel_rfl
theorem aq5:okF aa4 Tryz.f226=true:=by kernel_rfl
theorem aq6:okF aa5 Tryz.f227=true:=by kernel_rfl
theorem aq7:okF aa6 Tryz.f228=true:=by kernel_rfl
theorem aq8:okF aez Tryz.f229=true:=by kernel_rfl
theorem aq9:okF aeA Tryz.f230=true:=by kernel_rfl
theorem ara:okF aeB Tryz.f232=true:=by kernel_rfl
theorem arb:okF aa7 Tryz.f239=true:=by kernel_rfl
theorem arc:okF aa8 Tryz.f240=true:=by kernel_rfl
theorem ard:okF aeC Tryz.f241=true:=by kernel_rfl
theorem arf:okF aa9 Tryz.f244=true:=by kernel_rfl
theorem arh:okF aba Tryz.f245=true:=by kernel_rfl
theorem ari:okF abb Tryz.f246=true:=by kernel_rfl
theorem arj:okF abd Tryz.f247=true:=by kernel_rfl
theorem ark:okF aeD Tryz.f248=true:=by kernel_rfl
theorem arl:okF aeE Tryz.f250=true:=by kernel_rfl
theorem mixed:Tryz.prog.follows .mixedOrders=true:=by kernel_rfl
theorem anF [Lim]:ZZ Tryz.prog cfg:=by
 refine ac4 mixed ?_ fun f g hg=>?_
 ·unfold ons
  simp only [List.forall_mem_cons]
  exact ⟨⟨_,Tryz.func5,g5⟩,⟨_,Tryz.func6,g6⟩,⟨_,Tryz.func8,g8⟩,⟨_,Tryz.func10,g10⟩,⟨_,Tryz.func11,g11⟩,⟨_,Tryz.func12,g12⟩,⟨_,Tryz.func13,g13⟩,⟨_,Tryz.func14,g14⟩,⟨_,Tryz.func17,g17⟩,⟨_,Tryz.func18,g18⟩,⟨_,Tryz.func19,g19⟩,⟨_,Tryz.func20,g20⟩,⟨_,Tryz.func21,g21⟩,⟨_,Tryz.func22,g22⟩,⟨_,Tryz.func23,g23⟩,⟨_,Tryz.func24,g24⟩,⟨_,Tryz.func25,g25⟩,⟨_,Tryz.func26,g26⟩,⟨_,Tryz.func27,g27⟩,⟨_,Tryz.func28,g28⟩,⟨_,Tryz.func29,g29⟩,⟨_,Tryz.func31,g31⟩,⟨_,Tryz.func32,g32⟩,⟨_,Tryz.func33,g33⟩,⟨_,Tryz.func34,g34⟩,⟨_,Tryz.func35,g35⟩,⟨_,Tryz.func36,g36⟩,⟨_,Tryz.func37,g37⟩,⟨_,Tryz.func38,g38⟩,⟨_,Tryz.func39,g39⟩,⟨_,Tryz.func40,g40⟩,⟨_,Tryz.func41,g41⟩,⟨_,Tryz.func43,g43⟩,⟨_,Tryz.func44,g44⟩,⟨_,Tryz.func45,g45⟩,⟨_,Tryz.func46,g46⟩,⟨_,Tryz.func47,g47⟩,⟨_,Tryz.func51,g51⟩,⟨_,Tryz.func52,g52⟩,⟨_,Tryz.func53,g53⟩,⟨_,Tryz.func54,g54⟩,⟨_,Tryz.func55,g55⟩,⟨_,Tryz.func56,g56⟩,⟨_,Tryz.func57,g57⟩,⟨_,Tryz.func58,g58⟩,⟨_,Tryz.func59,g59⟩,⟨_,Tryz.func60,g60⟩,⟨_,Tryz.func61,g61⟩,⟨_,Tryz.func64,g64⟩,⟨_,Tryz.func65,g65⟩,⟨_,Tryz.func66,g66⟩,⟨_,Tryz.func67,g67⟩,⟨_,Tryz.func68,g68⟩,⟨_,Tryz.func69,g69⟩,⟨_,Tryz.func70,g70⟩,⟨_,Tryz.func73,g73⟩,⟨_,Tryz.func74,g74⟩,⟨_,Tryz.func75,g75⟩,⟨_,Tryz.func76,g76⟩,⟨_,Tryz.func77,g77⟩,⟨_,Tryz.func78,g78⟩,⟨_,Tryz.func79,g79⟩,⟨_,Tryz.func80,g80⟩,⟨_,Tryz.func81,g81⟩,⟨_,Tryz.func82,g82⟩,⟨_,Tryz.func83,g83⟩,⟨_,Tryz.func84,g84⟩,⟨_,Tryz.func85,g85⟩,⟨_,Tryz.func86,g86⟩,⟨_,Tryz.func87,g87⟩,⟨_,Tryz.func89,g89⟩,⟨_,Tryz.func97,g97⟩,⟨_,Tryz.func98,g98⟩,⟨_,Tryz.func99,g99⟩,⟨_,Tryz.func100,apL⟩,⟨_,Tryz.func101,apM⟩,⟨_,Tryz.func102,apN⟩,⟨_,Tryz.func103,apO⟩,⟨_,Tryz.func104,apP⟩,⟨_,Tryz.func105,apQ⟩,⟨_,Tryz.func106,apR⟩,⟨_,Tryz.func107,apS⟩,⟨_,Tryz.func114,apT⟩,⟨_,Tryz.func115,apU⟩,⟨_,Tryz.func116,apV⟩,⟨_,Tryz.func117,apW⟩,⟨_,Tryz.func118,apX⟩,⟨_,Tryz.func119,apY⟩,⟨_,Tryz.func121,apZ⟩,⟨_,Tryz.func122,ap0⟩,⟨_,Tryz.func123,ap1⟩,⟨_,Tryz.func124,ap2⟩,⟨_,Tryz.func125,ap3⟩,⟨_,Tryz.func126,ap4⟩,⟨_,Tryz.func127,ap5⟩,⟨_,Tryz.func128,ap6⟩,⟨_,Tryz.func129,ap7⟩,⟨_,Tryz.func130,ap8⟩,⟨_,Tryz.func131,ap9⟩,⟨_,Tryz.func132,aqa⟩,⟨_,Tryz.func134,aqb⟩,⟨_,Tryz.func135,aqc⟩,⟨_,Tryz.func146,aqd⟩,⟨_,Tryz.func147,aqe⟩,⟨_,Tryz.func148,aqf⟩,⟨_,Tryz.func149,aqg⟩,⟨_,Tryz.func150,aqh⟩,⟨_,Tryz.func151,aqi⟩,⟨_,Tryz.func152,aqj⟩,⟨_,Tryz.func153,aqk⟩,⟨_,Tryz.func154,aql⟩,⟨_,Tryz.func155,aqm⟩,⟨_,Tryz.func156,aqn⟩,⟨_,Tryz.func157,aqo⟩,⟨_,Tryz.func158,aqp⟩,⟨_,Tryz.func159,aqr⟩,⟨_,Tryz.func160,aqs⟩,⟨_,Tryz.func161,aqt⟩,⟨_,Tryz.func169,aqu⟩,⟨_,Tryz.func170,aqv⟩,⟨_,Tryz.func171,aqw⟩,⟨_,Tryz.func174,aqx⟩,⟨_,Tryz.func175,aqy⟩,⟨_,Tryz.func176,aqz⟩,⟨_,Tryz.func177,aqA⟩,⟨_,Tryz.func178,aqB⟩,⟨_,Tryz.func179,aqC⟩,⟨_,Tryz.func180,aqD⟩,⟨_,Tryz.func181,aqE⟩,⟨_,Tryz.func182,aqF⟩,⟨_,Tryz.func183,aqG⟩,⟨_,Tryz.func189,aqH⟩,⟨_,Tryz.func196,aqI⟩,⟨_,Tryz.func197,aqJ⟩,⟨_,Tryz.func198,aqK⟩,⟨_,Tryz.func199,aqL⟩,⟨_,Tryz.func200,aqM⟩,⟨_,Tryz.func201,aqN⟩,⟨_,Tryz.func202,aqO⟩,⟨_,Tryz.func203,aqP⟩,⟨_,Tryz.func204,aqQ⟩,⟨_,Tryz.func205,aqR⟩,⟨_,Tryz.func206,aqS⟩,⟨_,Tryz.func207,aqT⟩,⟨_,Tryz.func215,aqU⟩,⟨_,Tryz.func216,aqV⟩,⟨_,Tryz.func217,aqW⟩,⟨_,Tryz.func218,aqX⟩,⟨_,Tryz.func219,aqY⟩,⟨_,Tryz.func220,aqZ⟩,⟨_,Tryz.func221,aq0⟩,⟨_,Tryz.func222,aq1⟩,⟨_,Tryz.func223,aq2⟩,⟨_,Tryz.func224,aq3⟩,⟨_,Tryz.func225,aq4⟩,⟨_,Tryz.func226,aq5⟩,⟨_,Tryz.func227,aq6⟩,⟨_,Tryz.func228,aq7⟩,⟨_,Tryz.func229,aq8⟩,⟨_,Tryz.func230,aq9⟩,⟨_,Tryz.func232,ara⟩,⟨_,Tryz.func239,arb⟩,⟨_,Tryz.func240,arc⟩,⟨_,Tryz.func241,ard⟩,⟨_,Tryz.func244,arf⟩,⟨_,Tryz.func245,arh⟩,⟨_,Tryz.func246,ari⟩,⟨_,Tryz.func247,arj⟩,⟨_,Tryz.func248,ark⟩,⟨_,Tryz.func250,arl⟩,fun _ h=>by cases h⟩
 cases hg
theorem laid:laidOutB Tryz.prog=true:=by kernel_rfl
theorem rowed:mapsRowed Tryz.prog=true:=by kernel_rfl
theorem sized:DU Tryz.prog=true:=by kernel_rfl
def SB (x:ae):Prop:=(Lit.int .i64 x.X).wf=true∧(Lit.int .i64 x.Y).wf=true
theorem arn:y7 Tryz.prog 211 (fun x:ae=>(af x).cells) SB:=
 sU (fun p:Int×Int×Unit=>⟨p.1,p.2.1⟩)
  (kG Tryz.underlying211 (by kernel_rfl) (bn (s:=1) (by kernel_rfl) rfl (dY Tryz.underlying2) (bn (s:=1) (by kernel_rfl) rfl (dY Tryz.underlying2) oU)))
  (fun _=>rfl) (fun _ h=>⟨h.1,h.2.1⟩)
def UF (x:bT):Prop:=x.Name.size≤maxLen∧((∀a∈x.Ring,(Lit.int .i64 a).wf=true)∧x.Ring.length≤maxLen)
theorem aro:y7 Tryz.prog 189 (fun x:bT=>(aQ x).cells) UF:=
 sU (fun p:ByteArray×(List Int)×Unit=>⟨p.1,p.2.1⟩)
  (kG Tryz.underlying189 (by kernel_rfl) (bn (s:=1) (by kernel_rfl) rfl (BQ Tryz.underlying9) (bn (s:=1) (by kernel_rfl) rfl (oC (e:=2) (sz:=1) (ee:=eI) Tryz.underlying33 (by kernel_rfl) (by decide) (fun _=>rfl) (fun _=>rfl) (dY Tryz.underlying2)) oU)))
  (fun _=>rfl) (fun _ h=>⟨h.1,h.2.1⟩)
def L8 (x:aB):Prop:=(Lit.int .i64 x.Width).wf=true∧(Lit.int .i64 x.Height).wf=true∧((∀a∈x.bG,SB a)∧x.bG.length≤maxLen)∧((∀a∈x.aG,UF a)∧x.aG.length≤maxLen)
theorem o25:y7 Tryz.prog 25 (fun x:aB=>(Xz x).cells) L8:=
 sU (fun p:Int×Int×(List ae)×(List bT)×Unit=>⟨p.1,p.2.1,p.2.2.1,p.2.2.2.1⟩)
  (kG Tryz.underlying25 (by kernel_rfl) (bn (s:=1) (by kernel_rfl) rfl (dY Tryz.underlying2) (bn (s:=1) (by kernel_rfl) rfl (dY Tryz.underlying2) (bn (s:=1) (by kernel_rfl) rfl (oC (e:=211) (sz:=2) (ee:=af) Tryz.underlying22 (by kernel_rfl) (by decide) (fun _=>rfl) (fun _=>rfl) arn) (bn (s:=1) (by kernel_rfl) rfl (oC (e:=189) (sz:=2) (ee:=aQ) Tryz.underlying23 (by kernel_rfl) (by decide) (fun _=>rfl) (fun _=>rfl) aro) oU)))))
  (fun _=>rfl) (fun _ h=>⟨h.1,h.2.1,h.2.2.1,h.2.2.2.1⟩)
def Iz (x:aI):Prop:=x.jr.size≤maxLen∧(Lit.int .i64 x.iK).wf=true∧(Lit.int .i64 x.Bl).wf=true
theorem o87:y7 Tryz.prog 87 (fun x:aI=>(aK x).cells) Iz:=
 sU (fun p:ByteArray×Int×Int×Unit=>⟨p.1,p.2.1,p.2.2.1⟩)
  (kG Tryz.underlying87 (by kernel_rfl) (bn (s:=1) (by kernel_rfl) rfl (BQ Tryz.underlying9) (bn (s:=1) (by kernel_rfl) rfl (dY Tryz.underlying2) (bn (s:=1) (by kernel_rfl) rfl (dY Tryz.underlying2) oU))))
  (fun _=>rfl) (fun _ h=>⟨h.1,h.2.1,h.2.2.1⟩)
def L9 (x:dJ):Prop:=L8 x.az∧((∀a∈x.dM,Iz a)∧x.dM.length≤maxLen)
theorem o28:y7 Tryz.prog 28 (fun x:dJ=>(XA x).cells) L9:=
 sU (fun p:aB×(List aI)×Unit=>⟨p.1,p.2.1⟩)
  (kG Tryz.underlying28 (by kernel_rfl) (bn (s:=4) (by kernel_rfl) rfl o25 (bn (s:=1) (by kernel_rfl) rfl (oC (e:=87) (sz:=3) (ee:=aK) Tryz.underlying26 (by kernel_rfl) (by decide) (fun _=>rfl) (fun _=>rfl) o87) oU)))
  (fun _=>rfl) (fun _ h=>⟨h.1,h.2.1⟩)
def Yg (x:dn):Prop:=(Lit.int .i64 x.X).wf=true∧(Lit.int .i64 x.Y).wf=true∧(Lit.int .i64 x.Width).wf=true∧(Lit.int .i64 x.Length).wf=true
theorem arp:y7 Tryz.prog 214 (fun x:dn=>(cu x).cells) Yg:=
 sU (fun p:Int×Int×Int×Int×Unit=>⟨p.1,p.2.1,p.2.2.1,p.2.2.2.1⟩)
  (kG Tryz.underlying214 (by kernel_rfl) (bn (s:=1) (by kernel_rfl) rfl (dY Tryz.underlying2) (bn (s:=1) (by kernel_rfl) rfl (dY Tryz.underlying2) (bn (s:=1) (by kernel_rfl) rfl (dY Tryz.underlying2) (bn (s:=1) (by kernel_rfl) rfl (dY Tryz.underlying2) oU)))))
  (fun _=>rfl) (fun _ h=>⟨h.1,h.2.1,h.2.2.1,h.2.2.2.1⟩)
def UG (x:bU):Prop:=x.Id.size≤maxLen∧x.lM.size≤maxLen∧(Lit.int .i64 x.Number).wf=true∧Iz x.jL∧(Lit.int .i64 x.Width).wf=true∧(Lit.int .i64 x.Length).wf=true∧((∀a∈x.fU,Yg a)∧x.fU.length≤maxLen)
theorem o90:y7 Tryz.prog 90 (fun x:bU=>(aW x).cells) UG:=
 sU (fun p:ByteArray×ByteArray×Int×aI×Int×Int×(List dn)×Unit=>⟨p.1,p.2.1,p.2.2.1,p.2.2.2.1,p.2.2.2.2.1,p.2.2.2.2.2.1,p.2.2.2.2.2.2.1⟩)
  (kG Tryz.underlying90 (by kernel_rfl) (bn (s:=1) (by kernel_rfl) rfl (BQ Tryz.underlying9) (bn (s:=1) (by kernel_rfl) rfl (BQ Tryz.underlying9) (bn (s:=1) (by kernel_rfl) rfl (dY Tryz.underlying2) (bn (s:=3) (by kernel_rfl) rfl o87 (bn (s:=1) (by kernel_rfl) rfl (dY Tryz.underlying2) (bn (s:=1) (by kernel_rfl) rfl (dY Tryz.underlying2) (bn (s:=1) (by kernel_rfl) rfl (oC (e:=214) (sz:=4) (ee:=cu) Tryz.underlying88 (by kernel_rfl) (by decide) (fun _=>rfl) (fun _=>rfl) arp) oU))))))))
  (fun _=>rfl) (fun _ h=>⟨h.1,h.2.1,h.2.2.1,h.2.2.2.1,h.2.2.2.2.1,h.2.2.2.2.2.1,h.2.2.2.2.2.2.1⟩)
def IA (x:ak):Prop:=(Lit.int .i64 x.nI).wf=true∧(Lit.int .i64 x.OJ).wf=true∧(Lit.int .i64 x.X).wf=true∧(Lit.int .i64 x.Y).wf=true∧(Lit.int .i64 x.Turn).wf=true
theorem arq:y7 Tryz.prog 103 (fun x:ak=>(aj x).cells) IA:=
 sU (fun p:Int×Int×Int×Int×Int×Unit=>⟨p.1,p.2.1,p.2.2.1,p.2.2.2.1,p.2.2.2.2.1⟩)
  (kG Tryz.underlying103 (by kernel_rfl) (bn (s:=1) (by kernel_rfl) rfl (dY Tryz.underlying2) (bn (s:=1) (by kernel_rfl) rfl (dY Tryz.underlying2) (bn (s:=1) (by kernel_rfl) rfl (dY Tryz.underlying2) (bn (s:=1) (by kernel_rfl) rfl (dY Tryz.underlying2) (bn (s:=1) (by kernel_rfl) rfl (dY Tryz.underlying2) oU))))))
  (fun _=>rfl) (fun _ h=>⟨h.1,h.2.1,h.2.2.1,h.2.2.2.1,h.2.2.2.2.1⟩)
def SC (x:jv):Prop:=(Lit.int .i64 x.kD).wf=true∧(Lit.int .i64 x.o8).wf=true∧(Lit.int .i64 x.yg).wf=true∧(Lit.int .i64 x.iK).wf=true
theorem o32:y7 Tryz.prog 32 (fun x:jv=>(ab2 x).cells) SC:=
 sU (fun p:Int×Int×Int×Int×Unit=>⟨p.1,p.2.1,p.2.2.1,p.2.2.2.1⟩)
  (kG Tryz.underlying32 (by kernel_rfl) (bn (s:=1) (by kernel_rfl) rfl (dY Tryz.underlying2) (bn (s:=1) (by kernel_rfl) rfl (dY Tryz.underlying2) (bn (s:=1) (by kernel_rfl) rfl (dY Tryz.underlying2) (bn (s:=1) (by kernel_rfl) rfl (dY Tryz.underlying2) oU)))))
  (fun _=>rfl) (fun _ h=>⟨h.1,h.2.1,h.2.2.1,h.2.2.2.1⟩)
def af7 (x:fM):Prop:=L9 x.aS∧((∀a∈x.Leaves,UG a)∧x.Leaves.length≤maxLen)∧((∀a∈x.bP,IA a)∧x.bP.length≤maxLen)∧SC x.yh∧(Lit.int .i64 x.jk).wf=true∧(Lit.int .i64 x.Jb).wf=true∧(Lit.int .i64 x.Ci).wf=true∧(Lit.int .i64 x.Gap).wf=true∧((∀a∈x.Order,(Lit.int .i64 a).wf=true)∧x.Order.length≤maxLen)∧((∀a∈x.G6,(Lit.int .i64 a).wf=true)∧x.G6.length≤maxLen)
theorem o35:y7 Tryz.prog 35 (fun x:fM=>(agG x).cells) af7:=
 sU (fun p:dJ×(List bU)×(List ak)×jv×Int×Int×Int×Int×(List Int)×(List Int)×Unit=>⟨p.1,p.2.1,p.2.2.1,p.2.2.2.1,p.2.2.2.2.1,p.2.2.2.2.2.1,p.2.2.2.2.2.2.1,p.2.2.2.2.2.2.2.1,p.2.2.2.2.2.2.2.2.1,p.2.2.2.2.2.2.2.2.2.1⟩)
  (kG Tryz.underlying35 (by kernel_rfl) (bn (s:=5) (by kernel_rfl) rfl o28 (bn (s:=1) (by kernel_rfl) rfl (oC (e:=90) (sz:=9) (ee:=aW) Tryz.underlying29 (by kernel_rfl) (by decide) (fun _=>rfl) (fun _=>rfl) o90) (bn (s:=1) (by kernel_rfl) rfl (oC (e:=103) (sz:=5) (ee:=aj) Tryz.underlying30 (by kernel_rfl) (by decide) (fun _=>rfl) (fun _=>rfl) arq) (bn (s:=4) (by kernel_rfl) rfl o32 (bn (s:=1) (by kernel_rfl) rfl (dY Tryz.underlying2) (bn (s:=1) (by kernel_rfl) rfl (dY Tryz.underlying2) (bn (s:=1) (by kernel_rfl) rfl (dY Tryz.underlying2) (bn (s:=1) (by kernel_rfl) rfl (dY Tryz.underlying2) (bn (s:=1) (by kernel_rfl) rfl (oC (e:=2) (sz:=1) (ee:=eI) Tryz.underlying33 (by kernel_rfl) (by decide) (fun _=>rfl) (fun _=>rfl) (dY Tryz.underlying2)) (bn (s:=1) (by kernel_rfl) rfl (oC (e:=2) (sz:=1) (ee:=eI) Tryz.underlying33 (by kernel_rfl) (by decide) (fun _=>rfl) (fun _=>rfl) (dY Tryz.underlying2)) oU)))))))))))
  (fun _=>rfl) (fun _ h=>⟨h.1,h.2.1,h.2.2.1,h.2.2.2.1,h.2.2.2.2.1,h.2.2.2.2.2.1,h.2.2.2.2.2.2.1,h.2.2.2.2.2.2.2.1,h.2.2.2.2.2.2.2.2.1,h.2.2.2.2.2.2.2.2.2.1⟩)
namespace fnExactOrderFindings
theorem own:ownKnob Tryz.prog.godebug=none:=by kernel_rfl
theorem lifted (os:Os) (started:os.Started) (H:Type) (enc:TypeId×Value→H):
 ReturnsInHanded {} Tryz.checked os 5 .any (Rows.fnExactOrderFindingsSpec.pre6 enc Tryz.prog Tryz.f5 Rows.fnExactOrderFindingsRow.domain false) (Rows.fnExactOrderFindingsSpec.post enc Tryz.prog Tryz.f5 false true false false):=by
 refine returnsInHanded_of_change_sized (C:=Tryz.checked) own started (by kernel_rfl) Tryz.func5
  (ChangeSpec.witness6 (enc:=enc) (C:=Tryz.checked) false ⟨#[],#[.agg #[.int .i64 0,.int .i64 0,.slice none 0 0,.slice none 0 0,.slice none 0 0,.slice none 0 0,.slice none 0 0,.int .i64 0,.int .i64 0,.int .i64 0,.int .i64 0,.int .i64 0,.int .i64 0,.int .i64 0,.int .i64 0,.slice none 0 0,.slice none 0 0]],[]⟩ 8 (by kernel_rfl) (by kernel_rfl) (by kernel_rfl) (by kernel_rfl)) ?_
 intro W base args ds gs before hval0 hW hcnd hsz0 _
 have hval:∀(j:Nat) t v,Tryz.f5.params[j]?=some t→args[j]?=some v→Value.okWide Tryz.prog W .any base t v:=hval0
 have hW':=hW
 obtain ⟨p,q,hA0,hV,rfl,hfz,hnd⟩:=hW
 have hA:DataW.TrodAll enc Tryz.prog W 0 (fun _=>true) true Tryz.f5.params.toList args.toList ds p:=hA0
 rw [Tryz.params5] at hA hval
 obtain ⟨v0,vs0,d0,ds0,p0,q0,hargs0,rfl,rfl,h0,r0⟩:=ChangeShapes.trodAll_cons hA
 obtain ⟨rfl,rfl,rfl⟩:=ChangeShapes.trodAll_nil r0
 obtain rfl:args=#[v0]:=by cases args;simp_all
 obtain ⟨rfl,rfl⟩:=ChangeShapes.trodVars_none hV
 obtain ⟨a0,k0,w0⟩:=air (tt:=2) o35 Tryz.underlying35 (hval 0 35 v0 rfl rfl) h0
 refine (afK anF (BP (L6 a0 w0)) (show Jv _ _ _ [v0] from (.cons k0 .nil))).mono fun e W' ⟨he,hio,_,hb⟩=>?_
 exact ⟨_,he,af6 Tryz.underlying4 rfl rfl hW' rfl (kids_rows laid rowed) sized (by decide) hio hb⟩
theorem ars {a b:Bool} (h1:a=true) (h2:b=true):(a&&b)=true:=by rw [h1,h2];rfl
set_option maxHeartbeats 4000000 in
theorem closed:joinedFacts Tryz.prog 5 Tryz.f5 Rows.fnExactOrderFindingsSpec Rows.fnExactOrderFindingsRow=true:=by
 unfold joinedFacts
 repeat' with_reducible refine ars ?_ ?_
 all_goals (as_aux_lemma=>kernel_rfl)
theorem over:Rows.fnExactOrderFindingsRow.holds Tryz.pinned (OpenSpec.ofChange Rows.fnExactOrderFindingsSpec):=
 OpenClaim.holds_of_wide 5 Tryz.f5 rfl rfl rfl rfl rfl rfl rfl ⟨rfl,rfl,rfl,rfl,rfl⟩ rfl rfl rfl rfl rfl (by kernel_rfl) Tryz.func5 closed
  (of_decide_eq_true (by kernel_rfl)) (by unfold Func.isWrapper;first | (rw [if_pos (by decide+kernel)];kernel_rfl) | (rw [if_neg (by decide+kernel)];exact ⟨rfl,rfl⟩))
  (fun os started H enc _=>lifted os started H enc)
theorem proved:Rows.FnExactOrderFindingsSaid:=over
#print axioms proved
end fnExactOrderFindings
theorem fnExactOrderFindings_holds:Rows.FnExactOrderFindingsSaid:=fnExactOrderFindings.proved
end Go.Proofs.YtngbehdgjocndaaGreat
