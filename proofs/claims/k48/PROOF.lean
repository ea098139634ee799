import PyProof.Rows.All
import Wide.All
import OpenK.AllK
import Wide.FinOn
import HandS.ForMost
import HandS.ForExc
import HandS.Nested
import HandS.Star
import HandS.Property
import HandS.ClsMeth
import HandS.Defaults
import HandS.ExcInit
import HandS.MakeKwOnly
import HandS.IsInst
import HandS.Wide
import HandS.EndTab
import KE.GoesMore
import KE.GoesComp
import KE.GoesEnum
import HandS.ExcIs
import HandS.TryMany
import KE.KExcIs
import HandS.Evl
import HandS.ExcField
import HandS.TupAny
import HandS.Small
import KE.KeyNested
import KE.KSuper
import HandS.NestedK
import HandS.SetFor
import HandS.Strs
import HandS.SortInts
import HandS.Style
import PyProof.ListNew
import PyProof.TupleOfSeq
import PyProof.Rows.FactsTup
import PyProof.Rows.SortShellAny
import HandS.GenList
import HandS.GenYield
import HandS.More
import HandS.Text
import HandS.Walk
import KE.IntTextLaws
import PyProof.EqAt
import HandS.Lambda
import HandS.Iter
import HandS.EndOwn
import KE.KNestM
import KE.OsRunLaw
import PySem.Challenge.RW_seasonpass_k48_known_buyers
set_option Elab.async false
set_option linter.all false
set_option maxRecDepth 100000
set_option maxHeartbeats 4000000
/-! the places of the text; what the end asks; the end's head, taken first -/
namespace Sea
open PySem PySem.Spec PyProof.Rows L2 LamX NdefX ClX StX
def top (i : Nat) : Stmt := PySem.Challenge.pw_seasonpass_k48_known_buyers.main.body.getD i (.Pass ⟨0, 0, 0, 0⟩)
abbrev sStart : Stmt := top 42
abbrev sDrawn : Stmt := top 43
abbrev sIT : Stmt := inClass (top 3) 0
abbrev sInit : Stmt := inClass (top 8) 3
abbrev sPasses : Stmt := inClass (top 8) 5
abbrev sValid : Stmt := top 9
abbrev sIV : Stmt := inClass (top 4) 0
abbrev sVN : Stmt := top 27
abbrev sTvI : Stmt := inClass (top 28) 0
abbrev sRl : Stmt := inClass (top 28) 1
abbrev sRd : Stmt := inClass (top 28) 2
abbrev sEx : Stmt := inClass (top 28) 3
abbrev sLengths : Stmt := inClass (top 8) 6
abbrev sPrices : Stmt := inClass (top 8) 7
abbrev sVC : Stmt := top 10
abbrev sSpI : Stmt := inClass (top 34) 0
abbrev sSd : Stmt := inClass (top 34) 1
abbrev sTa : Stmt := inClass (top 34) 2
abbrev sSpd : Stmt := top 35
abbrev sPu : Stmt := top 36
abbrev sByI : Stmt := inClass (top 12) 1
abbrev sByT : Stmt := inClass (top 12) 2
abbrev sByB : Stmt := inClass (top 12) 3
abbrev sByG : Stmt := inClass (top 12) 5
abbrev sFxI : Stmt := inClass (top 13) 1
abbrev sFxC : Stmt := inClass (top 13) 2
abbrev sTnI : Stmt := inClass (top 14) 1
abbrev sTnB : Stmt := inClass (top 14) 2
abbrev sTnC : Stmt := inClass (top 14) 3
abbrev sSwI : Stmt := inClass (top 15) 2
abbrev sSwC : Stmt := inClass (top 15) 3
abbrev sSwG : Stmt := inClass (top 15) 4
abbrev sSr : Stmt := top 38
abbrev sFr : Stmt := top 37
abbrev sCd : Stmt := top 30
abbrev sStI : Stmt := inClass (top 17) 0
abbrev sHol : Stmt := inClass (top 17) 1
abbrev sVal : Stmt := inClass (top 17) 2
abbrev sCut : Stmt := top 18
abbrev sCvI : Stmt := inClass (top 19) 0
abbrev sOpn : Stmt := inClass (top 19) 1
abbrev sNot : Stmt := inClass (top 19) 2
abbrev sAdd : Stmt := inClass (top 19) 3
abbrev sKno : Stmt := inClass (top 19) 5
abbrev sRch : Stmt := inClass (top 19) 6
abbrev sCAt : Stmt := inClass (top 19) 7
abbrev sCom : Stmt := inClass (top 19) 8
abbrev sTo : Stmt := inClass (top 28) 4
abbrev sClo : Stmt := inClass (top 19) 4
abbrev sCoI : Stmt := inClass (top 31) 0
abbrev sRep : Stmt := inClass (top 31) 3
abbrev sCos : Stmt := inClass (top 31) 5
abbrev sFe : Stmt := top 39
abbrev sBl : Stmt := top 40
abbrev sOth : Stmt := top 45
abbrev sLaw : Stmt := top 46
def AMT : Prop := ∀ {l : PySem.W.OpenLaw} {w : World} {K : PySem.W.Frag} {h : Heap} {mg : Str → Option Value} {fa : Addr} (X : K.In h) (Gn : h.Ns mainGlobals mg) (hfa : mg "law" = some (.ref fa))
    {C CV DB DF DT DS S CC ST CO cP cI cV cU cN pP pL pR pRl pRd pEx pBt eT fI fV fT fTv fP fL fR fRl fRd fEx fBt fBb fBbT fBcF fBcT fBcW fBg fBgW fSI fSd fTa fBy fFx fTn fSw fTo fSx fHol fVal fCvI fOpn fNot fAdd fClo fKno fRch fCAt fCom fCoI pRep fRep fCos fVN fVP fVC fCut fCd fFr fSp fPu fSr fFe fBl fSt fD fOth fLaw : Addr}
    {t0 : Tok} {t1 : Tok} {t2 : Tok} {tM : Tok} {u0 : Tok} {u1 : Tok} {u2 : Tok} {u3 : Tok} {u4 : Tok} {nmI qI : Str} {xNI : Addr} {xbsI xbmI xsubI : List Value} {xsnI : List Str} {xabI : Bool} {xcolI : Option Bool} {xddI : Option Addr} {xm0I xm1I xm2I xm3I xm5I : Option Value} {nmV qV : Str} {xNV : Addr} {xbsV xbmV xsubV : List Value} {xsnV : List Str} {xabV : Bool} {xcolV : Option Bool} {xddV : Option Addr} {xm0V xm1V xm2V xm3V xm5V : Option Value} {ocT : Value} {dcT : Value} {pmT : Value} {ctT : Value} {cdT : Value} {kVT : Value} {odT anT : Option Addr} {slT : Array (Option Value)} {ocI : Value} {dcI : Value} {pmI : Value} {ctI : Value} {cdI : Value} {kVI : Value} {odI anI : Option Addr} {slI : Array (Option Value)} {ocXV : Value} {dcXV : Value} {pmXV : Value} {ctXV : Value} {cdXV : Value} {kVXV : Value} {odXV anXV : Option Addr} {slXV : Array (Option Value)} {reP : List Value} {ocP : Value} {dcP : Value} {pmP : Value} {ctP : Value} {cdP : Value} {kVP : Value} {odP anP : Option Addr} {slP : Array (Option Value)} {reL : List Value} {ocL : Value} {dcL : Value} {pmL : Value} {ctL : Value} {cdL : Value} {kVL : Value} {odL anL : Option Addr} {slL : Array (Option Value)} {reR : List Value} {ocR : Value} {dcR : Value} {pmR : Value} {ctR : Value} {cdR : Value} {kVR : Value} {odR anR : Option Addr} {slR : Array (Option Value)} {ocTv : Value} {dcTv : Value} {pmTv : Value} {ctTv : Value} {cdTv : Value} {odTv anTv : Option Addr} {slTv : Array (Option Value)} {kD : Addr} {eTd : Option Addr} {eTn : Nat} {eTs : Array (Option Value)} {reRl : List Value} {ocRl : Value} {dcRl : Value} {pmRl : Value} {ctRl : Value} {cdRl : Value} {kVRl : Value} {odRl anRl : Option Addr} {slRl : Array (Option Value)} {reRd : List Value} {ocRd : Value} {dcRd : Value} {pmRd : Value} {ctRd : Value} {cdRd : Value} {kVRd : Value} {odRd anRd : Option Addr} {slRd : Array (Option Value)} {reEx : List Value} {ocEx : Value} {dcEx : Value} {pmEx : Value} {ctEx : Value} {cdEx : Value} {kVEx : Value} {odEx anEx : Option Addr} {slEx : Array (Option Value)} {reBt : List Value} {ocBt : Value} {dcBt : Value} {pmBt : Value} {ctBt : Value} {cdBt : Value} {kVBt : Value} {odBt anBt : Option Addr} {slBt : Array (Option Value)} {ocBb : Value} {dcBb : Value} {pmBb : Value} {ctBb : Value} {cdBb : Value} {kVBb : Value} {odBb anBb : Option Addr} {slBb : Array (Option Value)} {ocBbT : Value} {dcBbT : Value} {pmBbT : Value} {ctBbT : Value} {cdBbT : Value} {kVBbT : Value} {odBbT anBbT : Option Addr} {slBbT : Array (Option Value)} {ocBcF : Value} {dcBcF : Value} {pmBcF : Value} {ctBcF : Value} {cdBcF : Value} {kVBcF : Value} {odBcF anBcF : Option Addr} {slBcF : Array (Option Value)} {ocBcT : Value} {dcBcT : Value} {pmBcT : Value} {ctBcT : Value} {cdBcT : Value} {kVBcT : Value} {odBcT anBcT : Option Addr} {slBcT : Array (Option Value)} {ocBcW : Value} {dcBcW : Value} {pmBcW : Value} {ctBcW : Value} {cdBcW : Value} {kVBcW : Value} {odBcW anBcW : Option Addr} {slBcW : Array (Option Value)} {ocBg : Value} {dcBg : Value} {pmBg : Value} {ctBg : Value} {cdBg : Value} {kVBg : Value} {odBg anBg : Option Addr} {slBg : Array (Option Value)} {ocBgW : Value} {dcBgW : Value} {pmBgW : Value} {ctBgW : Value} {cdBgW : Value} {kVBgW : Value} {odBgW anBgW : Option Addr} {slBgW : Array (Option Value)} {ocSI : Value} {dcSI : Value} {pmSI : Value} {ctSI : Value} {cdSI : Value} {kVSI : Value} {odSI anSI : Option Addr} {slSI : Array (Option Value)} {ocSd : Value} {dcSd : Value} {pmSd : Value} {ctSd : Value} {cdSd : Value} {kVSd : Value} {odSd anSd : Option Addr} {slSd : Array (Option Value)} {ocTa : Value} {dcTa : Value} {pmTa : Value} {ctTa : Value} {cdTa : Value} {kVTa : Value} {odTa anTa : Option Addr} {slTa : Array (Option Value)} {ocBy : Value} {dcBy : Value} {pmBy : Value} {ctBy : Value} {cdBy : Value} {kVBy : Value} {odBy anBy : Option Addr} {slBy : Array (Option Value)} {ocF0 kVF0 dcF0 pmF0 ctF0 : Value} {odF0 anF0 : Option Addr} {slF0 : Array (Option Value)} {scclF0 sclvF0 : Value} {scddF0 scldF0 : Option Addr} {scvsF0 : Array Value} {sccsF0 scslF0 : Array (Option Value)} {scfileF0 : Str} {sctfF0 : Tok} {sclsF0 : ClassData} {ccF0 cdaF0 : Addr} {ocT0 kVT0 dcT0 pmT0 ctT0 : Value} {odT0 anT0 : Option Addr} {slT0 : Array (Option Value)} {scclT0 sclvT0 : Value} {scddT0 scldT0 : Option Addr} {scvsT0 : Array Value} {sccsT0 scslT0 : Array (Option Value)} {scfileT0 : Str} {sctfT0 : Tok} {sclsT0 : ClassData} {ccT0 cdaT0 : Addr} {ocW0 kVW0 dcW0 pmW0 ctW0 : Value} {odW0 anW0 : Option Addr} {slW0 : Array (Option Value)} {scclW0 sclvW0 : Value} {scddW0 scldW0 : Option Addr} {scvsW0 : Array Value} {sccsW0 scslW0 : Array (Option Value)} {scfileW0 : Str} {sctfW0 : Tok} {sclsW0 : ClassData} {ccW0 cdaW0 : Addr} {ocTo : Value} {dcTo : Value} {pmTo : Value} {ctTo : Value} {cdTo : Value} {kVTo : Value} {odTo anTo : Option Addr} {slTo : Array (Option Value)} {ocSx : Value} {dcSx : Value} {pmSx : Value} {ctSx : Value} {cdSx : Value} {kVSx : Value} {odSx anSx : Option Addr} {slSx : Array (Option Value)} {ocHol : Value} {dcHol : Value} {pmHol : Value} {ctHol : Value} {cdHol : Value} {kVHol : Value} {odHol anHol : Option Addr} {slHol : Array (Option Value)} {ocVal : Value} {dcVal : Value} {pmVal : Value} {ctVal : Value} {cdVal : Value} {kVVal : Value} {odVal anVal : Option Addr} {slVal : Array (Option Value)} {ocCvI : Value} {dcCvI : Value} {pmCvI : Value} {ctCvI : Value} {cdCvI : Value} {kVCvI : Value} {odCvI anCvI : Option Addr} {slCvI : Array (Option Value)} {ocOpn : Value} {dcOpn : Value} {pmOpn : Value} {ctOpn : Value} {cdOpn : Value} {kVOpn : Value} {odOpn anOpn : Option Addr} {slOpn : Array (Option Value)} {ocNot : Value} {dcNot : Value} {pmNot : Value} {ctNot : Value} {cdNot : Value} {kVNot : Value} {odNot anNot : Option Addr} {slNot : Array (Option Value)} {ocAdd : Value} {dcAdd : Value} {pmAdd : Value} {ctAdd : Value} {cdAdd : Value} {kVAdd : Value} {odAdd anAdd : Option Addr} {slAdd : Array (Option Value)} {ocClo : Value} {dcClo : Value} {pmClo : Value} {ctClo : Value} {cdClo : Value} {kVClo : Value} {odClo anClo : Option Addr} {slClo : Array (Option Value)} {ocKno : Value} {dcKno : Value} {pmKno : Value} {ctKno : Value} {cdKno : Value} {kVKno : Value} {odKno anKno : Option Addr} {slKno : Array (Option Value)} {ocRch : Value} {dcRch : Value} {pmRch : Value} {ctRch : Value} {cdRch : Value} {kVRch : Value} {odRch anRch : Option Addr} {slRch : Array (Option Value)} {ocCAt : Value} {dcCAt : Value} {pmCAt : Value} {ctCAt : Value} {cdCAt : Value} {kVCAt : Value} {odCAt anCAt : Option Addr} {slCAt : Array (Option Value)} {ocCom : Value} {dcCom : Value} {pmCom : Value} {ctCom : Value} {cdCom : Value} {kVCom : Value} {odCom anCom : Option Addr} {slCom : Array (Option Value)} {ocCoI : Value} {dcCoI : Value} {pmCoI : Value} {ctCoI : Value} {cdCoI : Value} {kVCoI : Value} {odCoI anCoI : Option Addr} {slCoI : Array (Option Value)} {reRep : List Value} {ocRep : Value} {dcRep : Value} {pmRep : Value} {ctRep : Value} {cdRep : Value} {kVRep : Value} {odRep anRep : Option Addr} {slRep : Array (Option Value)} {ocCos : Value} {dcCos : Value} {pmCos : Value} {ctCos : Value} {cdCos : Value} {kVCos : Value} {odCos anCos : Option Addr} {slCos : Array (Option Value)} {ocVN : Value} {dcVN : Value} {pmVN : Value} {ctVN : Value} {cdVN : Value} {kVVN : Value} {odVN anVN : Option Addr} {slVN : Array (Option Value)} {ocVP : Value} {dcVP : Value} {pmVP : Value} {ctVP : Value} {cdVP : Value} {kVVP : Value} {odVP anVP : Option Addr} {slVP : Array (Option Value)} {ocVC : Value} {dcVC : Value} {pmVC : Value} {ctVC : Value} {cdVC : Value} {kVVC : Value} {odVC anVC : Option Addr} {slVC : Array (Option Value)} {ocCut : Value} {dcCut : Value} {pmCut : Value} {ctCut : Value} {cdCut : Value} {kVCut : Value} {odCut anCut : Option Addr} {slCut : Array (Option Value)} {ocCd : Value} {dcCd : Value} {pmCd : Value} {ctCd : Value} {cdCd : Value} {kVCd : Value} {odCd anCd : Option Addr} {slCd : Array (Option Value)} {ocFr : Value} {dcFr : Value} {pmFr : Value} {ctFr : Value} {cdFr : Value} {kVFr : Value} {odFr anFr : Option Addr} {slFr : Array (Option Value)} {ocSp : Value} {dcSp : Value} {pmSp : Value} {ctSp : Value} {cdSp : Value} {kVSp : Value} {odSp anSp : Option Addr} {slSp : Array (Option Value)} {ocPu : Value} {dcPu : Value} {pmPu : Value} {ctPu : Value} {cdPu : Value} {kVPu : Value} {odPu anPu : Option Addr} {slPu : Array (Option Value)} {ocSr : Value} {dcSr : Value} {pmSr : Value} {ctSr : Value} {cdSr : Value} {kVSr : Value} {odSr anSr : Option Addr} {slSr : Array (Option Value)} {ocFe : Value} {dcFe : Value} {pmFe : Value} {ctFe : Value} {cdFe : Value} {kVFe : Value} {odFe anFe : Option Addr} {slFe : Array (Option Value)} {ocBl : Value} {dcBl : Value} {pmBl : Value} {ctBl : Value} {cdBl : Value} {kVBl : Value} {odBl anBl : Option Addr} {slBl : Array (Option Value)} {ocSt : Value} {dcSt : Value} {pmSt : Value} {ctSt : Value} {cdSt : Value} {kVSt : Value} {odSt anSt : Option Addr} {slSt : Array (Option Value)} {ocD : Value} {dcD : Value} {pmD : Value} {ctD : Value} {cdD : Value} {kVD : Value} {odD anD : Option Addr} {slD : Array (Option Value)} {ocOth : Value} {dcOth : Value} {pmOth : Value} {ctOth : Value} {cdOth : Value} {kVOth : Value} {odOth anOth : Option Addr} {slOth : Array (Option Value)} {ocLaw : Value} {dcLaw : Value} {pmLaw : Value} {ctLaw : Value} {cdLaw : Value} {kVLaw : Value} {odLaw anLaw : Option Addr} {slLaw : Array (Option Value)}
    (aC : PySem.W.nsIn K mainGlobals "Tariff" = some (some (.ref C)))
    (aCV : PySem.W.nsIn K mainGlobals "Travel" = some (some (.ref CV)))
    (aDB : PySem.W.nsIn K mainGlobals "Buyer" = some (some (.ref DB)))
    (aDF : PySem.W.nsIn K mainGlobals "FixedBuyer" = some (some (.ref DF)))
    (aDT : PySem.W.nsIn K mainGlobals "TurnBuyer" = some (some (.ref DT)))
    (aDS : PySem.W.nsIn K mainGlobals "SwitchBuyer" = some (some (.ref DS)))
    (aS : PySem.W.nsIn K mainGlobals "Spending" = some (some (.ref S)))
    (aP : PySem.W.nsIn K mainGlobals "PassError" = some (some (.ref cP)))
    (aI : PySem.W.nsIn K mainGlobals "InvalidTariff" = some (some (.ref cI)))
    (aV : PySem.W.nsIn K mainGlobals "InvalidTravel" = some (some (.ref cV)))
    (aU : PySem.W.nsIn K mainGlobals "UnknownPass" = some (some (.ref cU)))
    (aN : PySem.W.nsIn K mainGlobals "InvalidCount" = some (some (.ref cN)))
    (aCC : PySem.W.nsIn K mainGlobals "Curve" = some (some (.ref CC)))
    (aST : PySem.W.nsIn K mainGlobals "Stretch" = some (some (.ref ST)))
    (aCO : PySem.W.nsIn K mainGlobals "Costs" = some (some (.ref CO)))
    (z_enumerate : PySem.W.nsIn K mainGlobals "enumerate" = some none)
    (z_len : PySem.W.nsIn K mainGlobals "len" = some none)
    (z_tuple : PySem.W.nsIn K mainGlobals "tuple" = some none)
    (z_int : PySem.W.nsIn K mainGlobals "int" = some none)
    (z_range : PySem.W.nsIn K mainGlobals "range" = some none)
    (z_max : PySem.W.nsIn K mainGlobals "max" = some none)
    (z_min : PySem.W.nsIn K mainGlobals "min" = some none)
    (z_super : PySem.W.nsIn K mainGlobals "super" = some none)
    (pgC : PySem.W.plainGet K C Str.empty = true)
    (hdC : PySem.W.hasDictIn K C = true)
    (poC : PySem.W.plainOver K C = true)
    (saC : PySem.W.findIn K (.ref C) "__setattr__" = some (some (.builtin "object.__setattr__")))
    (mkC : PySem.W.makesIn K C = true)
    (kpCC : PySem.W.keepIn K (.ref C) = true)
    (pgV : PySem.W.plainGet K CV Str.empty = true)
    (hdV : PySem.W.hasDictIn K CV = true)
    (poV : PySem.W.plainOver K CV = true)
    (saV : PySem.W.findIn K (.ref CV) "__setattr__" = some (some (.builtin "object.__setattr__")))
    (mkV : PySem.W.makesIn K CV = true)
    (kpCV : PySem.W.keepIn K (.ref CV) = true)
    (pgF : PySem.W.plainGet K DF Str.empty = true)
    (hdF : PySem.W.hasDictIn K DF = true)
    (poF : PySem.W.plainOver K DF = true)
    (saF : PySem.W.findIn K (.ref DF) "__setattr__" = some (some (.builtin "object.__setattr__")))
    (mkF : PySem.W.makesIn K DF = true)
    (kpCF : PySem.W.keepIn K (.ref DF) = true)
    (pgT : PySem.W.plainGet K DT Str.empty = true)
    (hdT : PySem.W.hasDictIn K DT = true)
    (poT : PySem.W.plainOver K DT = true)
    (saT : PySem.W.findIn K (.ref DT) "__setattr__" = some (some (.builtin "object.__setattr__")))
    (mkT : PySem.W.makesIn K DT = true)
    (kpCT : PySem.W.keepIn K (.ref DT) = true)
    (pgW : PySem.W.plainGet K DS Str.empty = true)
    (hdW : PySem.W.hasDictIn K DS = true)
    (poW : PySem.W.plainOver K DS = true)
    (saW : PySem.W.findIn K (.ref DS) "__setattr__" = some (some (.builtin "object.__setattr__")))
    (mkW : PySem.W.makesIn K DS = true)
    (kpCW : PySem.W.keepIn K (.ref DS) = true)
    (pgS : PySem.W.plainGet K S Str.empty = true)
    (hdS : PySem.W.hasDictIn K S = true)
    (poS : PySem.W.plainOver K S = true)
    (saS : PySem.W.findIn K (.ref S) "__setattr__" = some (some (.builtin "object.__setattr__")))
    (mkS : PySem.W.makesIn K S = true)
    (kpCS : PySem.W.keepIn K (.ref S) = true)
    (pgQ : PySem.W.plainGet K CC Str.empty = true)
    (hdQ : PySem.W.hasDictIn K CC = true)
    (poQ : PySem.W.plainOver K CC = true)
    (saQ : PySem.W.findIn K (.ref CC) "__setattr__" = some (some (.builtin "object.__setattr__")))
    (mkQ : PySem.W.makesIn K CC = true)
    (kpCQ : PySem.W.keepIn K (.ref CC) = true)
    (pgX : PySem.W.plainGet K ST Str.empty = true)
    (hdX : PySem.W.hasDictIn K ST = true)
    (poX : PySem.W.plainOver K ST = true)
    (saX : PySem.W.findIn K (.ref ST) "__setattr__" = some (some (.builtin "object.__setattr__")))
    (mkX : PySem.W.makesIn K ST = true)
    (kpCX : PySem.W.keepIn K (.ref ST) = true)
    (pgO : PySem.W.plainGet K CO Str.empty = true)
    (hdO : PySem.W.hasDictIn K CO = true)
    (poO : PySem.W.plainOver K CO = true)
    (saO : PySem.W.findIn K (.ref CO) "__setattr__" = some (some (.builtin "object.__setattr__")))
    (mkO : PySem.W.makesIn K CO = true)
    (kpCO : PySem.W.keepIn K (.ref CO) = true)
    (nO : PySem.W.findIn K (.ref C) "offers" = some none)
    (rd : PySem.W.readsIn K C (.type "type") = true)
    (ga : PySem.W.specialIn K (.ref C) "__getattribute__" = some (some (.builtin "type.__getattribute__")))
    (rdW : PySem.W.readsIn K DS (.type "type") = true)
    (gaW : PySem.W.specialIn K (.ref DS) "__getattribute__" = some (some (.builtin "type.__getattribute__")))
    (v0 : PySem.W.findCls K (.ref C) (.type "type") "MAX_LENGTH" = some (.val (.int 28 t0)))
    (v1 : PySem.W.findCls K (.ref C) (.type "type") "MAX_PRICE" = some (.val (.int 1000000 t1)))
    (v2 : PySem.W.findCls K (.ref C) (.type "type") "MAX_PASSES" = some (.val (.int 6 t2)))
    (vM : PySem.W.findCls K (.ref DS) (.type "type") "MAX_LIMIT" = some (.val (.int 1000000000 tM)))
    (nA0 : PySem.W.findIn K (.ref CV) "size" = some none)
    (nA1 : PySem.W.findIn K (.ref CV) "pattern" = some none)
    (nA2 : PySem.W.findIn K (.ref CV) "odd_days" = some none)
    (nB0 : PySem.W.findIn K (.ref DF) "offer" = some none)
    (nB1 : PySem.W.findIn K (.ref DT) "offer" = some none)
    (nB2 : PySem.W.findIn K (.ref DS) "offer" = some none)
    (nB3 : PySem.W.findIn K (.ref DF) "favorite" = some none)
    (nB4 : PySem.W.findIn K (.ref DT) "sequence" = some none)
    (nB5 : PySem.W.findIn K (.ref DS) "short" = some none)
    (nB6 : PySem.W.findIn K (.ref DS) "long" = some none)
    (nB7 : PySem.W.findIn K (.ref DS) "limit" = some none)
    (nQ0 : PySem.W.findIn K (.ref CC) "offers" = some none)
    (nQ1 : PySem.W.findIn K (.ref CC) "days_of_travel" = some none)
    (nQ2 : PySem.W.findIn K (.ref CC) "reach" = some none)
    (nQ3 : PySem.W.findIn K (.ref CC) "cuts" = some none)
    (nQ4 : PySem.W.findIn K (.ref CC) "stretches" = some none)
    (nQ5 : PySem.W.findIn K (.ref CC) "recent" = some none)
    (nQ6 : PySem.W.findIn K (.ref CC) "seen" = some none)
    (nX0 : PySem.W.findIn K (.ref ST) "begin" = some none)
    (nX1 : PySem.W.findIn K (.ref ST) "end" = some none)
    (nX2 : PySem.W.findIn K (.ref ST) "totals" = some none)
    (nX3 : PySem.W.findIn K (.ref ST) "start" = some none)
    (nX4 : PySem.W.findIn K (.ref ST) "days" = some none)
    (nX5 : PySem.W.findIn K (.ref ST) "gain" = some none)
    (nP0 : PySem.W.findIn K (.ref CO) "offer" = some none)
    (nP1 : PySem.W.findIn K (.ref CO) "trips" = some none)
    (nP2 : PySem.W.findIn K (.ref CO) "curve" = some none)
    (nP3 : PySem.W.findIn K (.ref CO) "last" = some none)
    (nS0 : PySem.W.findIn K (.ref S) "totals" = some none)
    (nS1 : PySem.W.findIn K (.ref S) "bought" = some none)
    (nS2 : PySem.W.findIn K (.ref S) "start" = some none)
    (nS3 : PySem.W.findIn K (.ref S) "period" = some none)
    (nS4 : PySem.W.findIn K (.ref S) "gain" = some none)
    (w0 : PySem.W.nsIn K mainGlobals "MAX_ROUND" = some (some (.int 14 u0)))
    (w1 : PySem.W.nsIn K mainGlobals "MAX_EXCEPTIONS" = some (some (.int 6 u1)))
    (w2 : PySem.W.nsIn K mainGlobals "MAX_DAYS" = some (some (.int 1000000000000000000 u2)))
    (w3 : PySem.W.nsIn K mainGlobals "MAX_YIELDED" = some (some (.int 10000 u3)))
    (w4 : PySem.W.nsIn K mainGlobals "MAX_FACTOR" = some (some (.int 1000 u4)))
    (xLI : K.lookup cI = some (excClassObj nmI qI cI xNI xbsI xbmI true xsnI xsubI xabI xcolI xddI xm0I xm1I xm2I xm3I xm5I "ValueError.__new__"))
    (xrvI : PySem.HandSPX.refsVE xbmI = true)
    (xsaI : PySem.W.findIn K (.ref cI) "__setattr__" = some (some (.builtin "object.__setattr__")))
    (sI : PySem.W.subIn K (.ref cI) (.type "BaseException") = some true)
    (yI : PySem.W.typeIn K (.ref cI) = some (.type "type"))
    (kpI : PySem.W.keepIn K (.ref cI) = true)
    (nI_index : PySem.W.findIn K (.ref cI) "index" = some none)
    (iI : PySem.W.findIn K (.ref cI) "__init__" = some (some (.ref fI)))
    (tI : PySem.W.typeIn K (.ref fI) = some (.type "function"))
    (egI : PySem.W.findIn K (.ref cI) "__getattribute__" = some (some (.builtin "BaseException.__getattribute__")))
    (ekI : PySem.W.findIn K (.ref cI) "__getattr__" = some none)
    (ehI : PySem.W.hasDictIn K cI = true)
    (xLV : K.lookup cV = some (excClassObj nmV qV cV xNV xbsV xbmV true xsnV xsubV xabV xcolV xddV xm0V xm1V xm2V xm3V xm5V "ValueError.__new__"))
    (xrvV : PySem.HandSPX.refsVE xbmV = true)
    (xsaV : PySem.W.findIn K (.ref cV) "__setattr__" = some (some (.builtin "object.__setattr__")))
    (sV : PySem.W.subIn K (.ref cV) (.type "BaseException") = some true)
    (yV : PySem.W.typeIn K (.ref cV) = some (.type "type"))
    (kpV : PySem.W.keepIn K (.ref cV) = true)
    (nV_part : PySem.W.findIn K (.ref cV) "part" = some none)
    (nV_index : PySem.W.findIn K (.ref cV) "index" = some none)
    (iV : PySem.W.findIn K (.ref cV) "__init__" = some (some (.ref fV)))
    (tV : PySem.W.typeIn K (.ref fV) = some (.type "function"))
    (egV : PySem.W.findIn K (.ref cV) "__getattribute__" = some (some (.builtin "BaseException.__getattribute__")))
    (ekV : PySem.W.findIn K (.ref cV) "__getattr__" = some none)
    (ehV : PySem.W.hasDictIn K cV = true)
    (prd : PySem.W.readsIn K cP (.type "type") = true)
    (pga : PySem.W.specialIn K (.ref cP) "__getattribute__" = some (some (.builtin "type.__getattribute__")))
    (pat : PySem.W.findCls K (.ref cP) (.type "type") "__init__" = some (.val (.builtin "ValueError.__init__")))
    (qU : PySem.W.excIn K cU [.type "ValueError", .type "Exception", .type "BaseException", .type "object"] "ValueError.__new__" = true)
    (kU : PySem.W.keepIn K (.ref cU) = true)
    (sU : PySem.W.subIn K (.ref cU) (.type "BaseException") = some true)
    (yU : PySem.W.typeIn K (.ref cU) = some (.type "type"))
    (qN : PySem.W.excIn K cN [.type "ValueError", .type "Exception", .type "BaseException", .type "object"] "ValueError.__new__" = true)
    (kN : PySem.W.keepIn K (.ref cN) = true)
    (sN : PySem.W.subIn K (.ref cN) (.type "BaseException") = some true)
    (yN : PySem.W.typeIn K (.ref cN) = some (.type "type"))
    (atT : PySem.W.findIn K (.ref C) "__init__" = some (some (.ref fT)))
    (ifT : PySem.W.isFn K (.ref fT) = true)
    (lT : K.lookup fT = some ⟨ocT, odT, .func (PySem.W.fnOf "__init__" "Tariff.__init__" (defArgs sInit) (defBody sInit) (defScope sInit) .none kVT dcT pmT anT cdT ctT), slT⟩)
    (cd_T : PySem.W.codeIn K cdT "Tariff.__init__" = true)
    (kp_T : PySem.W.keepIn K (.ref fT) = true)
    (lI : K.lookup fI = some ⟨ocI, odI, .func (PySem.W.fnOf "__init__" "InvalidTariff.__init__" (defArgs sIT) (defBody sIT) (defScope sIT) .none kVI dcI pmI anI cdI ctI), slI⟩)
    (cd_I : PySem.W.codeIn K cdI "InvalidTariff.__init__" = true)
    (kp_I : PySem.W.keepIn K (.ref fI) = true)
    (lXV : K.lookup fV = some ⟨ocXV, odXV, .func (PySem.W.fnOf "__init__" "InvalidTravel.__init__" (defArgs sIV) (defBody sIV) (defScope sIV) .none kVXV dcXV pmXV anXV cdXV ctXV), slXV⟩)
    (cd_XV : PySem.W.codeIn K cdXV "InvalidTravel.__init__" = true)
    (kp_XV : PySem.W.keepIn K (.ref fV) = true)
    (atP : PySem.W.findIn K (.ref C) "passes" = some (some (.ref pP)))
    (geP : PySem.W.specialIn K (.ref pP) "__get__" = some (some (.builtin "property.__get__")))
    (taP : PySem.W.takesIn K (.ref pP) = some true)
    (rcP : PySem.W.recIn K pP "property" = some (.ref fP :: reP))
    (lP : K.lookup fP = some ⟨ocP, odP, .func (PySem.W.fnOf "passes" "Tariff.passes" (defArgs sPasses) (defBody sPasses) (defScope sPasses) .none kVP dcP pmP anP cdP ctP), slP⟩)
    (cd_P : PySem.W.codeIn K cdP "Tariff.passes" = true)
    (kp_P : PySem.W.keepIn K (.ref fP) = true)
    (atL : PySem.W.findIn K (.ref C) "lengths" = some (some (.ref pL)))
    (geL : PySem.W.specialIn K (.ref pL) "__get__" = some (some (.builtin "property.__get__")))
    (taL : PySem.W.takesIn K (.ref pL) = some true)
    (rcL : PySem.W.recIn K pL "property" = some (.ref fL :: reL))
    (lL : K.lookup fL = some ⟨ocL, odL, .func (PySem.W.fnOf "lengths" "Tariff.lengths" (defArgs sLengths) (defBody sLengths) (defScope sLengths) .none kVL dcL pmL anL cdL ctL), slL⟩)
    (cd_L : PySem.W.codeIn K cdL "Tariff.lengths" = true)
    (kp_L : PySem.W.keepIn K (.ref fL) = true)
    (atR : PySem.W.findIn K (.ref C) "prices" = some (some (.ref pR)))
    (geR : PySem.W.specialIn K (.ref pR) "__get__" = some (some (.builtin "property.__get__")))
    (taR : PySem.W.takesIn K (.ref pR) = some true)
    (rcR : PySem.W.recIn K pR "property" = some (.ref fR :: reR))
    (lR : K.lookup fR = some ⟨ocR, odR, .func (PySem.W.fnOf "prices" "Tariff.prices" (defArgs sPrices) (defBody sPrices) (defScope sPrices) .none kVR dcR pmR anR cdR ctR), slR⟩)
    (cd_R : PySem.W.codeIn K cdR "Tariff.prices" = true)
    (kp_R : PySem.W.keepIn K (.ref fR) = true)
    (atTv : PySem.W.findIn K (.ref CV) "__init__" = some (some (.ref fTv)))
    (ifTv : PySem.W.isFn K (.ref fTv) = true)
    (lTv : K.lookup fTv = some ⟨ocTv, odTv, .func (PySem.W.fnOf "__init__" "Travel.__init__" (defArgs sTvI) (defBody sTvI) (defScope sTvI) .none (.ref kD) dcTv pmTv anTv cdTv ctTv), slTv⟩)
    (cd_Tv : PySem.W.codeIn K cdTv "Travel.__init__" = true)
    (kp_Tv : PySem.W.keepIn K (.ref fTv) = true)
    (kx : PySem.W.nsIn K kD "exceptions" = some (some (.ref eT)))
    (eTl : K.lookup eT = some ⟨.type "tuple", eTd, .seq #[] eTn, eTs⟩)
    (atRl : PySem.W.findIn K (.ref CV) "round_length" = some (some (.ref pRl)))
    (geRl : PySem.W.specialIn K (.ref pRl) "__get__" = some (some (.builtin "property.__get__")))
    (taRl : PySem.W.takesIn K (.ref pRl) = some true)
    (rcRl : PySem.W.recIn K pRl "property" = some (.ref fRl :: reRl))
    (lRl : K.lookup fRl = some ⟨ocRl, odRl, .func (PySem.W.fnOf "round_length" "Travel.round_length" (defArgs sRl) (defBody sRl) (defScope sRl) .none kVRl dcRl pmRl anRl cdRl ctRl), slRl⟩)
    (cd_Rl : PySem.W.codeIn K cdRl "Travel.round_length" = true)
    (kp_Rl : PySem.W.keepIn K (.ref fRl) = true)
    (atRd : PySem.W.findIn K (.ref CV) "round_days" = some (some (.ref pRd)))
    (geRd : PySem.W.specialIn K (.ref pRd) "__get__" = some (some (.builtin "property.__get__")))
    (taRd : PySem.W.takesIn K (.ref pRd) = some true)
    (rcRd : PySem.W.recIn K pRd "property" = some (.ref fRd :: reRd))
    (lRd : K.lookup fRd = some ⟨ocRd, odRd, .func (PySem.W.fnOf "round_days" "Travel.round_days" (defArgs sRd) (defBody sRd) (defScope sRd) .none kVRd dcRd pmRd anRd cdRd ctRd), slRd⟩)
    (cd_Rd : PySem.W.codeIn K cdRd "Travel.round_days" = true)
    (kp_Rd : PySem.W.keepIn K (.ref fRd) = true)
    (atEx : PySem.W.findIn K (.ref CV) "exceptions" = some (some (.ref pEx)))
    (geEx : PySem.W.specialIn K (.ref pEx) "__get__" = some (some (.builtin "property.__get__")))
    (taEx : PySem.W.takesIn K (.ref pEx) = some true)
    (rcEx : PySem.W.recIn K pEx "property" = some (.ref fEx :: reEx))
    (lEx : K.lookup fEx = some ⟨ocEx, odEx, .func (PySem.W.fnOf "exceptions" "Travel.exceptions" (defArgs sEx) (defBody sEx) (defScope sEx) .none kVEx dcEx pmEx anEx cdEx ctEx), slEx⟩)
    (cd_Ex : PySem.W.codeIn K cdEx "Travel.exceptions" = true)
    (kp_Ex : PySem.W.keepIn K (.ref fEx) = true)
    (atBt : PySem.W.findIn K (.ref DF) "tariff" = some (some (.ref pBt)))
    (geBt : PySem.W.specialIn K (.ref pBt) "__get__" = some (some (.builtin "property.__get__")))
    (taBt : PySem.W.takesIn K (.ref pBt) = some true)
    (rcBt : PySem.W.recIn K pBt "property" = some (.ref fBt :: reBt))
    (lBt : K.lookup fBt = some ⟨ocBt, odBt, .func (PySem.W.fnOf "tariff" "Buyer.tariff" (defArgs sByT) (defBody sByT) (defScope sByT) .none kVBt dcBt pmBt anBt cdBt ctBt), slBt⟩)
    (cd_Bt : PySem.W.codeIn K cdBt "Buyer.tariff" = true)
    (kp_Bt : PySem.W.keepIn K (.ref fBt) = true)
    (atBtT : PySem.W.findIn K (.ref DT) "tariff" = some (some (.ref pBt)))
    (atBtW : PySem.W.findIn K (.ref DS) "tariff" = some (some (.ref pBt)))
    (atBb : PySem.W.findIn K (.ref DF) "beginning" = some (some (.ref fBb)))
    (ifBb : PySem.W.isFn K (.ref fBb) = true)
    (lBb : K.lookup fBb = some ⟨ocBb, odBb, .func (PySem.W.fnOf "beginning" "Buyer.beginning" (defArgs sByB) (defBody sByB) (defScope sByB) .none kVBb dcBb pmBb anBb cdBb ctBb), slBb⟩)
    (cd_Bb : PySem.W.codeIn K cdBb "Buyer.beginning" = true)
    (kp_Bb : PySem.W.keepIn K (.ref fBb) = true)
    (atBbW : PySem.W.findIn K (.ref DS) "beginning" = some (some (.ref fBb)))
    (ifBbW : PySem.W.isFn K (.ref fBb) = true)
    (atBbT : PySem.W.findIn K (.ref DT) "beginning" = some (some (.ref fBbT)))
    (ifBbT : PySem.W.isFn K (.ref fBbT) = true)
    (lBbT : K.lookup fBbT = some ⟨ocBbT, odBbT, .func (PySem.W.fnOf "beginning" "TurnBuyer.beginning" (defArgs sTnB) (defBody sTnB) (defScope sTnB) .none kVBbT dcBbT pmBbT anBbT cdBbT ctBbT), slBbT⟩)
    (cd_BbT : PySem.W.codeIn K cdBbT "TurnBuyer.beginning" = true)
    (kp_BbT : PySem.W.keepIn K (.ref fBbT) = true)
    (atBcF : PySem.W.findIn K (.ref DF) "choose" = some (some (.ref fBcF)))
    (ifBcF : PySem.W.isFn K (.ref fBcF) = true)
    (lBcF : K.lookup fBcF = some ⟨ocBcF, odBcF, .func (PySem.W.fnOf "choose" "FixedBuyer.choose" (defArgs sFxC) (defBody sFxC) (defScope sFxC) .none kVBcF dcBcF pmBcF anBcF cdBcF ctBcF), slBcF⟩)
    (cd_BcF : PySem.W.codeIn K cdBcF "FixedBuyer.choose" = true)
    (kp_BcF : PySem.W.keepIn K (.ref fBcF) = true)
    (atBcT : PySem.W.findIn K (.ref DT) "choose" = some (some (.ref fBcT)))
    (ifBcT : PySem.W.isFn K (.ref fBcT) = true)
    (lBcT : K.lookup fBcT = some ⟨ocBcT, odBcT, .func (PySem.W.fnOf "choose" "TurnBuyer.choose" (defArgs sTnC) (defBody sTnC) (defScope sTnC) .none kVBcT dcBcT pmBcT anBcT cdBcT ctBcT), slBcT⟩)
    (cd_BcT : PySem.W.codeIn K cdBcT "TurnBuyer.choose" = true)
    (kp_BcT : PySem.W.keepIn K (.ref fBcT) = true)
    (atBcW : PySem.W.findIn K (.ref DS) "choose" = some (some (.ref fBcW)))
    (ifBcW : PySem.W.isFn K (.ref fBcW) = true)
    (lBcW : K.lookup fBcW = some ⟨ocBcW, odBcW, .func (PySem.W.fnOf "choose" "SwitchBuyer.choose" (defArgs sSwC) (defBody sSwC) (defScope sSwC) .none kVBcW dcBcW pmBcW anBcW cdBcW ctBcW), slBcW⟩)
    (cd_BcW : PySem.W.codeIn K cdBcW "SwitchBuyer.choose" = true)
    (kp_BcW : PySem.W.keepIn K (.ref fBcW) = true)
    (atBg : PySem.W.findIn K (.ref DF) "grow_older" = some (some (.ref fBg)))
    (ifBg : PySem.W.isFn K (.ref fBg) = true)
    (lBg : K.lookup fBg = some ⟨ocBg, odBg, .func (PySem.W.fnOf "grow_older" "Buyer.grow_older" (defArgs sByG) (defBody sByG) (defScope sByG) .none kVBg dcBg pmBg anBg cdBg ctBg), slBg⟩)
    (cd_Bg : PySem.W.codeIn K cdBg "Buyer.grow_older" = true)
    (kp_Bg : PySem.W.keepIn K (.ref fBg) = true)
    (atBgT : PySem.W.findIn K (.ref DT) "grow_older" = some (some (.ref fBg)))
    (ifBgT : PySem.W.isFn K (.ref fBg) = true)
    (atBgW : PySem.W.findIn K (.ref DS) "grow_older" = some (some (.ref fBgW)))
    (ifBgW : PySem.W.isFn K (.ref fBgW) = true)
    (lBgW : K.lookup fBgW = some ⟨ocBgW, odBgW, .func (PySem.W.fnOf "grow_older" "SwitchBuyer.grow_older" (defArgs sSwG) (defBody sSwG) (defScope sSwG) .none kVBgW dcBgW pmBgW anBgW cdBgW ctBgW), slBgW⟩)
    (cd_BgW : PySem.W.codeIn K cdBgW "SwitchBuyer.grow_older" = true)
    (kp_BgW : PySem.W.keepIn K (.ref fBgW) = true)
    (atSI : PySem.W.findIn K (.ref S) "__init__" = some (some (.ref fSI)))
    (ifSI : PySem.W.isFn K (.ref fSI) = true)
    (lSI : K.lookup fSI = some ⟨ocSI, odSI, .func (PySem.W.fnOf "__init__" "Spending.__init__" (defArgs sSpI) (defBody sSpI) (defScope sSpI) .none kVSI dcSI pmSI anSI cdSI ctSI), slSI⟩)
    (cd_SI : PySem.W.codeIn K cdSI "Spending.__init__" = true)
    (kp_SI : PySem.W.keepIn K (.ref fSI) = true)
    (atSd : PySem.W.findIn K (.ref S) "same_day" = some (some (.ref fSd)))
    (ifSd : PySem.W.isFn K (.ref fSd) = true)
    (lSd : K.lookup fSd = some ⟨ocSd, odSd, .func (PySem.W.fnOf "same_day" "Spending.same_day" (defArgs sSd) (defBody sSd) (defScope sSd) .none kVSd dcSd pmSd anSd cdSd ctSd), slSd⟩)
    (cd_Sd : PySem.W.codeIn K cdSd "Spending.same_day" = true)
    (kp_Sd : PySem.W.keepIn K (.ref fSd) = true)
    (atTa : PySem.W.findIn K (.ref S) "total_after" = some (some (.ref fTa)))
    (ifTa : PySem.W.isFn K (.ref fTa) = true)
    (lTa : K.lookup fTa = some ⟨ocTa, odTa, .func (PySem.W.fnOf "total_after" "Spending.total_after" (defArgs sTa) (defBody sTa) (defScope sTa) .none kVTa dcTa pmTa anTa cdTa ctTa), slTa⟩)
    (cd_Ta : PySem.W.codeIn K cdTa "Spending.total_after" = true)
    (kp_Ta : PySem.W.keepIn K (.ref fTa) = true)
    (atBy : PySem.W.findIn K (.ref DB) "__init__" = some (some (.ref fBy)))
    (lBy : K.lookup fBy = some ⟨ocBy, odBy, .func (PySem.W.fnOf "__init__" "Buyer.__init__" (defArgs sByI) (defBody sByI) (defScope sByI) .none kVBy dcBy pmBy anBy cdBy ctBy), slBy⟩)
    (cd_By : PySem.W.codeIn K cdBy "Buyer.__init__" = true)
    (kp_By : PySem.W.keepIn K (.ref fBy) = true)
    (stop : (l.prog.main.scope.names.lookup ("super" : Str)).isSome = false)
    (sopq : PySem.W.nsIn K cStatics "thirdparty.any" = some none)
    (sty : PySem.W.typeIn K (.ref fBy) = some (.type "function"))
    (sfi : PySem.W.fnIn K fBy = true)
    (atF0 : PySem.W.findIn K (.ref DF) "__init__" = some (some (.ref fFx)))
    (ifF0 : PySem.W.isFn K (.ref fFx) = true)
    (lF0 : K.lookup fFx = some ⟨ocF0, odF0, .func (PySem.W.fnX "__init__" "FixedBuyer.__init__" (defArgs sFxI) (defBody sFxI) (defScope sFxI) [("__class__", ccF0)] .none kVF0 dcF0 pmF0 anF0 (.ref cdaF0) ctF0), slF0⟩)
    (cd_F0 : PySem.W.codeIn K (.ref cdaF0) "FixedBuyer.__init__" = true)
    (kp_F0 : PySem.W.keepIn K (.ref fFx) = true)
    (scodeF0 : K.lookup cdaF0 = some ⟨scclF0, scddF0, .fields scvsF0, sccsF0⟩)
    (sfilF0 : scvsF0[2]? = some (.str scfileF0 sctfF0))
    (smainF0 : ((l.prog.main.file : Str) == scfileF0) = true)
    (scellF0 : K.lookup ccF0 = some ⟨sclvF0, scldF0, .cell (some (.ref DF)), scslF0⟩)
    (sclassF0 : PySem.W.clsIn K DF = some sclsF0)
    (smroF0 : PySem.W.mroIn K DF (.ref DF) = some true)
    (smethF0 : PySem.W.ks_superIn K DF DF "__init__" = some (some (.ref fBy)))
    (atT0 : PySem.W.findIn K (.ref DT) "__init__" = some (some (.ref fTn)))
    (ifT0 : PySem.W.isFn K (.ref fTn) = true)
    (lT0 : K.lookup fTn = some ⟨ocT0, odT0, .func (PySem.W.fnX "__init__" "TurnBuyer.__init__" (defArgs sTnI) (defBody sTnI) (defScope sTnI) [("__class__", ccT0)] .none kVT0 dcT0 pmT0 anT0 (.ref cdaT0) ctT0), slT0⟩)
    (cd_T0 : PySem.W.codeIn K (.ref cdaT0) "TurnBuyer.__init__" = true)
    (kp_T0 : PySem.W.keepIn K (.ref fTn) = true)
    (scodeT0 : K.lookup cdaT0 = some ⟨scclT0, scddT0, .fields scvsT0, sccsT0⟩)
    (sfilT0 : scvsT0[2]? = some (.str scfileT0 sctfT0))
    (smainT0 : ((l.prog.main.file : Str) == scfileT0) = true)
    (scellT0 : K.lookup ccT0 = some ⟨sclvT0, scldT0, .cell (some (.ref DT)), scslT0⟩)
    (sclassT0 : PySem.W.clsIn K DT = some sclsT0)
    (smroT0 : PySem.W.mroIn K DT (.ref DT) = some true)
    (smethT0 : PySem.W.ks_superIn K DT DT "__init__" = some (some (.ref fBy)))
    (atW0 : PySem.W.findIn K (.ref DS) "__init__" = some (some (.ref fSw)))
    (ifW0 : PySem.W.isFn K (.ref fSw) = true)
    (lW0 : K.lookup fSw = some ⟨ocW0, odW0, .func (PySem.W.fnX "__init__" "SwitchBuyer.__init__" (defArgs sSwI) (defBody sSwI) (defScope sSwI) [("__class__", ccW0)] .none kVW0 dcW0 pmW0 anW0 (.ref cdaW0) ctW0), slW0⟩)
    (cd_W0 : PySem.W.codeIn K (.ref cdaW0) "SwitchBuyer.__init__" = true)
    (kp_W0 : PySem.W.keepIn K (.ref fSw) = true)
    (scodeW0 : K.lookup cdaW0 = some ⟨scclW0, scddW0, .fields scvsW0, sccsW0⟩)
    (sfilW0 : scvsW0[2]? = some (.str scfileW0 sctfW0))
    (smainW0 : ((l.prog.main.file : Str) == scfileW0) = true)
    (scellW0 : K.lookup ccW0 = some ⟨sclvW0, scldW0, .cell (some (.ref DS)), scslW0⟩)
    (sclassW0 : PySem.W.clsIn K DS = some sclsW0)
    (smroW0 : PySem.W.mroIn K DS (.ref DS) = some true)
    (smethW0 : PySem.W.ks_superIn K DS DS "__init__" = some (some (.ref fBy)))
    (atTo : PySem.W.findIn K (.ref CV) "travels_on" = some (some (.ref fTo)))
    (ifTo : PySem.W.isFn K (.ref fTo) = true)
    (lTo : K.lookup fTo = some ⟨ocTo, odTo, .func (PySem.W.fnOf "travels_on" "Travel.travels_on" (defArgs sTo) (defBody sTo) (defScope sTo) .none kVTo dcTo pmTo anTo cdTo ctTo), slTo⟩)
    (cd_To : PySem.W.codeIn K cdTo "Travel.travels_on" = true)
    (kp_To : PySem.W.keepIn K (.ref fTo) = true)
    (atSx : PySem.W.findIn K (.ref ST) "__init__" = some (some (.ref fSx)))
    (ifSx : PySem.W.isFn K (.ref fSx) = true)
    (lSx : K.lookup fSx = some ⟨ocSx, odSx, .func (PySem.W.fnOf "__init__" "Stretch.__init__" (defArgs sStI) (defBody sStI) (defScope sStI) .none kVSx dcSx pmSx anSx cdSx ctSx), slSx⟩)
    (cd_Sx : PySem.W.codeIn K cdSx "Stretch.__init__" = true)
    (kp_Sx : PySem.W.keepIn K (.ref fSx) = true)
    (atHol : PySem.W.findIn K (.ref ST) "holds" = some (some (.ref fHol)))
    (ifHol : PySem.W.isFn K (.ref fHol) = true)
    (lHol : K.lookup fHol = some ⟨ocHol, odHol, .func (PySem.W.fnOf "holds" "Stretch.holds" (defArgs sHol) (defBody sHol) (defScope sHol) .none kVHol dcHol pmHol anHol cdHol ctHol), slHol⟩)
    (cd_Hol : PySem.W.codeIn K cdHol "Stretch.holds" = true)
    (kp_Hol : PySem.W.keepIn K (.ref fHol) = true)
    (atVal : PySem.W.findIn K (.ref ST) "value" = some (some (.ref fVal)))
    (ifVal : PySem.W.isFn K (.ref fVal) = true)
    (lVal : K.lookup fVal = some ⟨ocVal, odVal, .func (PySem.W.fnOf "value" "Stretch.value" (defArgs sVal) (defBody sVal) (defScope sVal) .none kVVal dcVal pmVal anVal cdVal ctVal), slVal⟩)
    (cd_Val : PySem.W.codeIn K cdVal "Stretch.value" = true)
    (kp_Val : PySem.W.keepIn K (.ref fVal) = true)
    (atCvI : PySem.W.findIn K (.ref CC) "__init__" = some (some (.ref fCvI)))
    (ifCvI : PySem.W.isFn K (.ref fCvI) = true)
    (lCvI : K.lookup fCvI = some ⟨ocCvI, odCvI, .func (PySem.W.fnOf "__init__" "Curve.__init__" (defArgs sCvI) (defBody sCvI) (defScope sCvI) .none kVCvI dcCvI pmCvI anCvI cdCvI ctCvI), slCvI⟩)
    (cd_CvI : PySem.W.codeIn K cdCvI "Curve.__init__" = true)
    (kp_CvI : PySem.W.keepIn K (.ref fCvI) = true)
    (atOpn : PySem.W.findIn K (.ref CC) "open_stretch" = some (some (.ref fOpn)))
    (ifOpn : PySem.W.isFn K (.ref fOpn) = true)
    (lOpn : K.lookup fOpn = some ⟨ocOpn, odOpn, .func (PySem.W.fnOf "open_stretch" "Curve.open_stretch" (defArgs sOpn) (defBody sOpn) (defScope sOpn) .none kVOpn dcOpn pmOpn anOpn cdOpn ctOpn), slOpn⟩)
    (cd_Opn : PySem.W.codeIn K cdOpn "Curve.open_stretch" = true)
    (kp_Opn : PySem.W.keepIn K (.ref fOpn) = true)
    (atNot : PySem.W.findIn K (.ref CC) "note_state" = some (some (.ref fNot)))
    (ifNot : PySem.W.isFn K (.ref fNot) = true)
    (lNot : K.lookup fNot = some ⟨ocNot, odNot, .func (PySem.W.fnOf "note_state" "Curve.note_state" (defArgs sNot) (defBody sNot) (defScope sNot) .none kVNot dcNot pmNot anNot cdNot ctNot), slNot⟩)
    (cd_Not : PySem.W.codeIn K cdNot "Curve.note_state" = true)
    (kp_Not : PySem.W.keepIn K (.ref fNot) = true)
    (atAdd : PySem.W.findIn K (.ref CC) "add_day" = some (some (.ref fAdd)))
    (ifAdd : PySem.W.isFn K (.ref fAdd) = true)
    (lAdd : K.lookup fAdd = some ⟨ocAdd, odAdd, .func (PySem.W.fnOf "add_day" "Curve.add_day" (defArgs sAdd) (defBody sAdd) (defScope sAdd) .none kVAdd dcAdd pmAdd anAdd cdAdd ctAdd), slAdd⟩)
    (cd_Add : PySem.W.codeIn K cdAdd "Curve.add_day" = true)
    (kp_Add : PySem.W.keepIn K (.ref fAdd) = true)
    (atClo : PySem.W.findIn K (.ref CC) "close_stretch" = some (some (.ref fClo)))
    (ifClo : PySem.W.isFn K (.ref fClo) = true)
    (lClo : K.lookup fClo = some ⟨ocClo, odClo, .func (PySem.W.fnOf "close_stretch" "Curve.close_stretch" (defArgs sClo) (defBody sClo) (defScope sClo) .none kVClo dcClo pmClo anClo cdClo ctClo), slClo⟩)
    (cd_Clo : PySem.W.codeIn K cdClo "Curve.close_stretch" = true)
    (kp_Clo : PySem.W.keepIn K (.ref fClo) = true)
    (atKno : PySem.W.findIn K (.ref CC) "known" = some (some (.ref fKno)))
    (ifKno : PySem.W.isFn K (.ref fKno) = true)
    (lKno : K.lookup fKno = some ⟨ocKno, odKno, .func (PySem.W.fnOf "known" "Curve.known" (defArgs sKno) (defBody sKno) (defScope sKno) .none kVKno dcKno pmKno anKno cdKno ctKno), slKno⟩)
    (cd_Kno : PySem.W.codeIn K cdKno "Curve.known" = true)
    (kp_Kno : PySem.W.keepIn K (.ref fKno) = true)
    (atRch : PySem.W.findIn K (.ref CC) "reach_count" = some (some (.ref fRch)))
    (ifRch : PySem.W.isFn K (.ref fRch) = true)
    (lRch : K.lookup fRch = some ⟨ocRch, odRch, .func (PySem.W.fnOf "reach_count" "Curve.reach_count" (defArgs sRch) (defBody sRch) (defScope sRch) .none kVRch dcRch pmRch anRch cdRch ctRch), slRch⟩)
    (cd_Rch : PySem.W.codeIn K cdRch "Curve.reach_count" = true)
    (kp_Rch : PySem.W.keepIn K (.ref fRch) = true)
    (atCAt : PySem.W.findIn K (.ref CC) "at" = some (some (.ref fCAt)))
    (ifCAt : PySem.W.isFn K (.ref fCAt) = true)
    (lCAt : K.lookup fCAt = some ⟨ocCAt, odCAt, .func (PySem.W.fnOf "at" "Curve.at" (defArgs sCAt) (defBody sCAt) (defScope sCAt) .none kVCAt dcCAt pmCAt anCAt cdCAt ctCAt), slCAt⟩)
    (cd_CAt : PySem.W.codeIn K cdCAt "Curve.at" = true)
    (kp_CAt : PySem.W.keepIn K (.ref fCAt) = true)
    (atCom : PySem.W.findIn K (.ref CC) "complete" = some (some (.ref fCom)))
    (ifCom : PySem.W.isFn K (.ref fCom) = true)
    (lCom : K.lookup fCom = some ⟨ocCom, odCom, .func (PySem.W.fnOf "complete" "Curve.complete" (defArgs sCom) (defBody sCom) (defScope sCom) .none kVCom dcCom pmCom anCom cdCom ctCom), slCom⟩)
    (cd_Com : PySem.W.codeIn K cdCom "Curve.complete" = true)
    (kp_Com : PySem.W.keepIn K (.ref fCom) = true)
    (atCoI : PySem.W.findIn K (.ref CO) "__init__" = some (some (.ref fCoI)))
    (ifCoI : PySem.W.isFn K (.ref fCoI) = true)
    (lCoI : K.lookup fCoI = some ⟨ocCoI, odCoI, .func (PySem.W.fnOf "__init__" "Costs.__init__" (defArgs sCoI) (defBody sCoI) (defScope sCoI) .none kVCoI dcCoI pmCoI anCoI cdCoI ctCoI), slCoI⟩)
    (cd_CoI : PySem.W.codeIn K cdCoI "Costs.__init__" = true)
    (kp_CoI : PySem.W.keepIn K (.ref fCoI) = true)
    (atRep : PySem.W.findIn K (.ref CO) "repetition" = some (some (.ref pRep)))
    (geRep : PySem.W.specialIn K (.ref pRep) "__get__" = some (some (.builtin "property.__get__")))
    (taRep : PySem.W.takesIn K (.ref pRep) = some true)
    (rcRep : PySem.W.recIn K pRep "property" = some (.ref fRep :: reRep))
    (lRep : K.lookup fRep = some ⟨ocRep, odRep, .func (PySem.W.fnOf "repetition" "Costs.repetition" (defArgs sRep) (defBody sRep) (defScope sRep) .none kVRep dcRep pmRep anRep cdRep ctRep), slRep⟩)
    (cd_Rep : PySem.W.codeIn K cdRep "Costs.repetition" = true)
    (kp_Rep : PySem.W.keepIn K (.ref fRep) = true)
    (atCos : PySem.W.findIn K (.ref CO) "cost" = some (some (.ref fCos)))
    (ifCos : PySem.W.isFn K (.ref fCos) = true)
    (lCos : K.lookup fCos = some ⟨ocCos, odCos, .func (PySem.W.fnOf "cost" "Costs.cost" (defArgs sCos) (defBody sCos) (defScope sCos) .none kVCos dcCos pmCos anCos cdCos ctCos), slCos⟩)
    (cd_Cos : PySem.W.codeIn K cdCos "Costs.cost" = true)
    (kp_Cos : PySem.W.keepIn K (.ref fCos) = true)
    (atVN : PySem.W.nsIn K mainGlobals "validate_numbers" = some (some (.ref fVN)))
    (lVN : K.lookup fVN = some ⟨ocVN, odVN, .func (PySem.W.fnOf "validate_numbers" "validate_numbers" (defArgs sVN) (defBody sVN) (defScope sVN) .none kVVN dcVN pmVN anVN cdVN ctVN), slVN⟩)
    (cd_VN : PySem.W.codeIn K cdVN "validate_numbers" = true)
    (kp_VN : PySem.W.keepIn K (.ref fVN) = true)
    (atVP : PySem.W.nsIn K mainGlobals "validate_pass" = some (some (.ref fVP)))
    (lVP : K.lookup fVP = some ⟨ocVP, odVP, .func (PySem.W.fnOf "validate_pass" "validate_pass" (defArgs sValid) (defBody sValid) (defScope sValid) .none kVVP dcVP pmVP anVP cdVP ctVP), slVP⟩)
    (cd_VP : PySem.W.codeIn K cdVP "validate_pass" = true)
    (kp_VP : PySem.W.keepIn K (.ref fVP) = true)
    (atVC : PySem.W.nsIn K mainGlobals "validate_count" = some (some (.ref fVC)))
    (lVC : K.lookup fVC = some ⟨ocVC, odVC, .func (PySem.W.fnOf "validate_count" "validate_count" (defArgs sVC) (defBody sVC) (defScope sVC) .none kVVC dcVC pmVC anVC cdVC ctVC), slVC⟩)
    (cd_VC : PySem.W.codeIn K cdVC "validate_count" = true)
    (kp_VC : PySem.W.keepIn K (.ref fVC) = true)
    (atCut : PySem.W.nsIn K mainGlobals "cuts_of" = some (some (.ref fCut)))
    (lCut : K.lookup fCut = some ⟨ocCut, odCut, .func (PySem.W.fnOf "cuts_of" "cuts_of" (defArgs sCut) (defBody sCut) (defScope sCut) .none kVCut dcCut pmCut anCut cdCut ctCut), slCut⟩)
    (cd_Cut : PySem.W.codeIn K cdCut "cuts_of" = true)
    (kp_Cut : PySem.W.keepIn K (.ref fCut) = true)
    (atCd : PySem.W.nsIn K mainGlobals "common_divisor" = some (some (.ref fCd)))
    (lCd : K.lookup fCd = some ⟨ocCd, odCd, .func (PySem.W.fnOf "common_divisor" "common_divisor" (defArgs sCd) (defBody sCd) (defScope sCd) .none kVCd dcCd pmCd anCd cdCd ctCd), slCd⟩)
    (cd_Cd : PySem.W.codeIn K cdCd "common_divisor" = true)
    (kp_Cd : PySem.W.keepIn K (.ref fCd) = true)
    (atFr : PySem.W.nsIn K mainGlobals "fraction" = some (some (.ref fFr)))
    (lFr : K.lookup fFr = some ⟨ocFr, odFr, .func (PySem.W.fnOf "fraction" "fraction" (defArgs sFr) (defBody sFr) (defScope sFr) .none kVFr dcFr pmFr anFr cdFr ctFr), slFr⟩)
    (cd_Fr : PySem.W.codeIn K cdFr "fraction" = true)
    (kp_Fr : PySem.W.keepIn K (.ref fFr) = true)
    (atSp : PySem.W.nsIn K mainGlobals "spend" = some (some (.ref fSp)))
    (lSp : K.lookup fSp = some ⟨ocSp, odSp, .func (PySem.W.fnOf "spend" "spend" (defArgs sSpd) (defBody sSpd) (defScope sSpd) .none kVSp dcSp pmSp anSp cdSp ctSp), slSp⟩)
    (cd_Sp : PySem.W.codeIn K cdSp "spend" = true)
    (kp_Sp : PySem.W.keepIn K (.ref fSp) = true)
    (atPu : PySem.W.nsIn K mainGlobals "purchases_of" = some (some (.ref fPu)))
    (lPu : K.lookup fPu = some ⟨ocPu, odPu, .func (PySem.W.fnOf "purchases_of" "purchases_of" (defArgs sPu) (defBody sPu) (defScope sPu) .none kVPu dcPu pmPu anPu cdPu ctPu), slPu⟩)
    (cd_Pu : PySem.W.codeIn K cdPu "purchases_of" = true)
    (kp_Pu : PySem.W.keepIn K (.ref fPu) = true)
    (atSr : PySem.W.nsIn K mainGlobals "spent_per_round" = some (some (.ref fSr)))
    (lSr : K.lookup fSr = some ⟨ocSr, odSr, .func (PySem.W.fnOf "spent_per_round" "spent_per_round" (defArgs sSr) (defBody sSr) (defScope sSr) .none kVSr dcSr pmSr anSr cdSr ctSr), slSr⟩)
    (cd_Sr : PySem.W.codeIn K cdSr "spent_per_round" = true)
    (kp_Sr : PySem.W.keepIn K (.ref fSr) = true)
    (atFe : PySem.W.nsIn K mainGlobals "first_excess" = some (some (.ref fFe)))
    (lFe : K.lookup fFe = some ⟨ocFe, odFe, .func (PySem.W.fnOf "first_excess" "first_excess" (defArgs sFe) (defBody sFe) (defScope sFe) .none kVFe dcFe pmFe anFe cdFe ctFe), slFe⟩)
    (cd_Fe : PySem.W.codeIn K cdFe "first_excess" = true)
    (kp_Fe : PySem.W.keepIn K (.ref fFe) = true)
    (atBl : PySem.W.nsIn K mainGlobals "best_limit" = some (some (.ref fBl)))
    (lBl : K.lookup fBl = some ⟨ocBl, odBl, .func (PySem.W.fnOf "best_limit" "best_limit" (defArgs sBl) (defBody sBl) (defScope sBl) .none kVBl dcBl pmBl anBl cdBl ctBl), slBl⟩)
    (cd_Bl : PySem.W.codeIn K cdBl "best_limit" = true)
    (kp_Bl : PySem.W.keepIn K (.ref fBl) = true)
    (atSt : PySem.W.nsIn K mainGlobals "_law_start" = some (some (.ref fSt)))
    (lSt : K.lookup fSt = some ⟨ocSt, odSt, .func (PySem.W.fnOf "_law_start" "_law_start" (defArgs sStart) (defBody sStart) (defScope sStart) .none kVSt dcSt pmSt anSt cdSt ctSt), slSt⟩)
    (cd_St : PySem.W.codeIn K cdSt "_law_start" = true)
    (kp_St : PySem.W.keepIn K (.ref fSt) = true)
    (atD : PySem.W.nsIn K mainGlobals "_law_drawn" = some (some (.ref fD)))
    (lD : K.lookup fD = some ⟨ocD, odD, .func (PySem.W.fnOf "_law_drawn" "_law_drawn" (defArgs sDrawn) (defBody sDrawn) (defScope sDrawn) .none kVD dcD pmD anD cdD ctD), slD⟩)
    (cd_D : PySem.W.codeIn K cdD "_law_drawn" = true)
    (kp_D : PySem.W.keepIn K (.ref fD) = true)
    (atOth : PySem.W.nsIn K mainGlobals "_law_others" = some (some (.ref fOth)))
    (lOth : K.lookup fOth = some ⟨ocOth, odOth, .func (PySem.W.fnOf "_law_others" "_law_others" (defArgs sOth) (defBody sOth) (defScope sOth) .none kVOth dcOth pmOth anOth cdOth ctOth), slOth⟩)
    (cd_Oth : PySem.W.codeIn K cdOth "_law_others" = true)
    (kp_Oth : PySem.W.keepIn K (.ref fOth) = true)
    (atLaw : PySem.W.nsIn K mainGlobals "law" = some (some (.ref fLaw)))
    (lLaw : K.lookup fLaw = some ⟨ocLaw, odLaw, .func (PySem.W.fnOf "law" "law" (defArgs sLaw) (defBody sLaw) (defScope sLaw) .none kVLaw dcLaw pmLaw anLaw cdLaw ctLaw), slLaw⟩)
    (cd_Law : PySem.W.codeIn K cdLaw "law" = true)
    (kp_Law : PySem.W.keepIn K (.ref fLaw) = true),
    LawAtS l w K CX0 14 63 "_law_script" mg fa h
end Sea
section
local macro_rules
  | `(tactic| refine $f:ident $args*) => do
    unless f.getId.getString! == "holds_open" do Lean.Macro.throwUnsupported
    let hc := Lean.mkIdent `hc
    `(tactic| (refine ($f $args*); (case' $hc:ident => (have z := ‹Sea.AMT›; revert z))))
open PySem PySem.W PyProof.Rows in
set_option maxRecDepth 100000 in
set_option maxHeartbeats 0 in
theorem Sea.top_first (AM : Sea.AMT) : PySem.Challenge.rw_seasonpass_k48_known_buyers.Holds := by
  w_on; o_law; k_headL; (case hw => w_witness2)
  intro AM
  k_fill
  refine LamX.walk_ofTs (l := PySem.Challenge.rw_seasonpass_k48_known_buyers) (n := 63) (k := 14) (x := "_law_script") (CX := fun _ => L2.CX0) rfl (by decide) rfl ⟨rfl, by decide, by decide⟩ (fun w h Y => PySem.W.kIn_of Y) ?F (fun _ _ _ _ _ z => z)
  case F =>
    intro w mg fa h Y KX G hmg
    refine' AM KX G hmg ?aC ?aCV ?aDB ?aDF ?aDT ?aDS ?aS ?aP ?aI ?aV ?aU ?aN ?aCC ?aST ?aCO ?z_enumerate ?z_len ?z_tuple ?z_int ?z_range ?z_max ?z_min ?z_super ?pgC ?hdC ?poC ?saC ?mkC ?kpCC ?pgV ?hdV ?poV ?saV ?mkV ?kpCV ?pgF ?hdF ?poF ?saF ?mkF ?kpCF ?pgT ?hdT ?poT ?saT ?mkT ?kpCT ?pgW ?hdW ?poW ?saW ?mkW ?kpCW ?pgS ?hdS ?poS ?saS ?mkS ?kpCS ?pgQ ?hdQ ?poQ ?saQ ?mkQ ?kpCQ ?pgX ?hdX ?poX ?saX ?mkX ?kpCX ?pgO ?hdO ?poO ?saO ?mkO ?kpCO ?nO ?rd ?ga ?rdW ?gaW ?v0 ?v1 ?v2 ?vM ?nA0 ?nA1 ?nA2 ?nB0 ?nB1 ?nB2 ?nB3 ?nB4 ?nB5 ?nB6 ?nB7 ?nQ0 ?nQ1 ?nQ2 ?nQ3 ?nQ4 ?nQ5 ?nQ6 ?nX0 ?nX1 ?nX2 ?nX3 ?nX4 ?nX5 ?nP0 ?nP1 ?nP2 ?nP3 ?nS0 ?nS1 ?nS2 ?nS3 ?nS4 ?w0 ?w1 ?w2 ?w3 ?w4 ?xLI ?xrvI ?xsaI ?sI ?yI ?kpI ?nI_index ?iI ?tI ?egI ?ekI ?ehI ?xLV ?xrvV ?xsaV ?sV ?yV ?kpV ?nV_part ?nV_index ?iV ?tV ?egV ?ekV ?ehV ?prd ?pga ?pat ?qU ?kU ?sU ?yU ?qN ?kN ?sN ?yN ?atT ?ifT ?lT ?cd_T ?kp_T ?lI ?cd_I ?kp_I ?lXV ?cd_XV ?kp_XV ?atP ?geP ?taP ?rcP ?lP ?cd_P ?kp_P ?atL ?geL ?taL ?rcL ?lL ?cd_L ?kp_L ?atR ?geR ?taR ?rcR ?lR ?cd_R ?kp_R ?atTv ?ifTv ?lTv ?cd_Tv ?kp_Tv ?kx ?eTl ?atRl ?geRl ?taRl ?rcRl ?lRl ?cd_Rl ?kp_Rl ?atRd ?geRd ?taRd ?rcRd ?lRd ?cd_Rd ?kp_Rd ?atEx ?geEx ?taEx ?rcEx ?lEx ?cd_Ex ?kp_Ex ?atBt ?geBt ?taBt ?rcBt ?lBt ?cd_Bt ?kp_Bt ?atBtT ?atBtW ?atBb ?ifBb ?lBb ?cd_Bb ?kp_Bb ?atBbW ?ifBbW ?atBbT ?ifBbT ?lBbT ?cd_BbT ?kp_BbT ?atBcF ?ifBcF ?lBcF ?cd_BcF ?kp_BcF ?atBcT ?ifBcT ?lBcT ?cd_BcT ?kp_BcT ?atBcW ?ifBcW ?lBcW ?cd_BcW ?kp_BcW ?atBg ?ifBg ?lBg ?cd_Bg ?kp_Bg ?atBgT ?ifBgT ?atBgW ?ifBgW ?lBgW ?cd_BgW ?kp_BgW ?atSI ?ifSI ?lSI ?cd_SI ?kp_SI ?atSd ?ifSd ?lSd ?cd_Sd ?kp_Sd ?atTa ?ifTa ?lTa ?cd_Ta ?kp_Ta ?atBy ?lBy ?cd_By ?kp_By ?stop ?sopq ?sty ?sfi ?atF0 ?ifF0 ?lF0 ?cd_F0 ?kp_F0 ?scodeF0 ?sfilF0 ?smainF0 ?scellF0 ?sclassF0 ?smroF0 ?smethF0 ?atT0 ?ifT0 ?lT0 ?cd_T0 ?kp_T0 ?scodeT0 ?sfilT0 ?smainT0 ?scellT0 ?sclassT0 ?smroT0 ?smethT0 ?atW0 ?ifW0 ?lW0 ?cd_W0 ?kp_W0 ?scodeW0 ?sfilW0 ?smainW0 ?scellW0 ?sclassW0 ?smroW0 ?smethW0 ?atTo ?ifTo ?lTo ?cd_To ?kp_To ?atSx ?ifSx ?lSx ?cd_Sx ?kp_Sx ?atHol ?ifHol ?lHol ?cd_Hol ?kp_Hol ?atVal ?ifVal ?lVal ?cd_Val ?kp_Val ?atCvI ?ifCvI ?lCvI ?cd_CvI ?kp_CvI ?atOpn ?ifOpn ?lOpn ?cd_Opn ?kp_Opn ?atNot ?ifNot ?lNot ?cd_Not ?kp_Not ?atAdd ?ifAdd ?lAdd ?cd_Add ?kp_Add ?atClo ?ifClo ?lClo ?cd_Clo ?kp_Clo ?atKno ?ifKno ?lKno ?cd_Kno ?kp_Kno ?atRch ?ifRch ?lRch ?cd_Rch ?kp_Rch ?atCAt ?ifCAt ?lCAt ?cd_CAt ?kp_CAt ?atCom ?ifCom ?lCom ?cd_Com ?kp_Com ?atCoI ?ifCoI ?lCoI ?cd_CoI ?kp_CoI ?atRep ?geRep ?taRep ?rcRep ?lRep ?cd_Rep ?kp_Rep ?atCos ?ifCos ?lCos ?cd_Cos ?kp_Cos ?atVN ?lVN ?cd_VN ?kp_VN ?atVP ?lVP ?cd_VP ?kp_VP ?atVC ?lVC ?cd_VC ?kp_VC ?atCut ?lCut ?cd_Cut ?kp_Cut ?atCd ?lCd ?cd_Cd ?kp_Cd ?atFr ?lFr ?cd_Fr ?kp_Fr ?atSp ?lSp ?cd_Sp ?kp_Sp ?atPu ?lPu ?cd_Pu ?kp_Pu ?atSr ?lSr ?cd_Sr ?kp_Sr ?atFe ?lFe ?cd_Fe ?kp_Fe ?atBl ?lBl ?cd_Bl ?kp_Bl ?atSt ?lSt ?cd_St ?kp_St ?atD ?lD ?cd_D ?kp_D ?atOth ?lOth ?cd_Oth ?kp_Oth ?atLaw ?lLaw ?cd_Law ?kp_Law
    (case aC => k_is)
    (case aCV => k_is)
    (case aDB => k_is)
    (case aDF => k_is)
    (case aDT => k_is)
    (case aDS => k_is)
    (case aS => k_is)
    (case aP => k_is)
    (case aI => k_is)
    (case aV => k_is)
    (case aU => k_is)
    (case aN => k_is)
    (case aCC => k_is)
    (case aST => k_is)
    (case aCO => k_is)
    (case z_enumerate => k_is)
    (case z_len => k_is)
    (case z_tuple => k_is)
    (case z_int => k_is)
    (case z_range => k_is)
    (case z_max => k_is)
    (case z_min => k_is)
    (case z_super => k_is)
    (case pgC => k_is)
    (case hdC => k_is)
    (case poC => k_is)
    (case saC => k_is)
    (case mkC => k_is)
    (case kpCC => k_is)
    (case pgV => k_is)
    (case hdV => k_is)
    (case poV => k_is)
    (case saV => k_is)
    (case mkV => k_is)
    (case kpCV => k_is)
    (case pgF => k_is)
    (case hdF => k_is)
    (case poF => k_is)
    (case saF => k_is)
    (case mkF => k_is)
    (case kpCF => k_is)
    (case pgT => k_is)
    (case hdT => k_is)
    (case poT => k_is)
    (case saT => k_is)
    (case mkT => k_is)
    (case kpCT => k_is)
    (case pgW => k_is)
    (case hdW => k_is)
    (case poW => k_is)
    (case saW => k_is)
    (case mkW => k_is)
    (case kpCW => k_is)
    (case pgS => k_is)
    (case hdS => k_is)
    (case poS => k_is)
    (case saS => k_is)
    (case mkS => k_is)
    (case kpCS => k_is)
    (case pgQ => k_is)
    (case hdQ => k_is)
    (case poQ => k_is)
    (case saQ => k_is)
    (case mkQ => k_is)
    (case kpCQ => k_is)
    (case pgX => k_is)
    (case hdX => k_is)
    (case poX => k_is)
    (case saX => k_is)
    (case mkX => k_is)
    (case kpCX => k_is)
    (case pgO => k_is)
    (case hdO => k_is)
    (case poO => k_is)
    (case saO => k_is)
    (case mkO => k_is)
    (case kpCO => k_is)
    (case nO => k_is)
    (case rd => k_is)
    (case ga => k_is)
    (case rdW => k_is)
    (case gaW => k_is)
    (case v0 => k_is)
    (case v1 => k_is)
    (case v2 => k_is)
    (case vM => k_is)
    (case nA0 => k_is)
    (case nA1 => k_is)
    (case nA2 => k_is)
    (case nB0 => k_is)
    (case nB1 => k_is)
    (case nB2 => k_is)
    (case nB3 => k_is)
    (case nB4 => k_is)
    (case nB5 => k_is)
    (case nB6 => k_is)
    (case nB7 => k_is)
    (case nQ0 => k_is)
    (case nQ1 => k_is)
    (case nQ2 => k_is)
    (case nQ3 => k_is)
    (case nQ4 => k_is)
    (case nQ5 => k_is)
    (case nQ6 => k_is)
    (case nX0 => k_is)
    (case nX1 => k_is)
    (case nX2 => k_is)
    (case nX3 => k_is)
    (case nX4 => k_is)
    (case nX5 => k_is)
    (case nP0 => k_is)
    (case nP1 => k_is)
    (case nP2 => k_is)
    (case nP3 => k_is)
    (case nS0 => k_is)
    (case nS1 => k_is)
    (case nS2 => k_is)
    (case nS3 => k_is)
    (case nS4 => k_is)
    (case w0 => k_is)
    (case w1 => k_is)
    (case w2 => k_is)
    (case w3 => k_is)
    (case w4 => k_is)
    (case xLI => k_is)
    (case xrvI => first | rfl | decide +kernel)
    (case xsaI => k_is)
    (case sI => k_is)
    (case yI => k_is)
    (case kpI => k_is)
    (case nI_index => k_is)
    (case iI => k_is)
    (case tI => k_is)
    (case egI => k_is)
    (case ekI => k_is)
    (case ehI => k_is)
    (case xLV => k_is)
    (case xrvV => first | rfl | decide +kernel)
    (case xsaV => k_is)
    (case sV => k_is)
    (case yV => k_is)
    (case kpV => k_is)
    (case nV_part => k_is)
    (case nV_index => k_is)
    (case iV => k_is)
    (case tV => k_is)
    (case egV => k_is)
    (case ekV => k_is)
    (case ehV => k_is)
    (case prd => k_is)
    (case pga => k_is)
    (case pat => k_is)
    (case qU => first | k_is | kernel_rfl | rfl)
    (case kU => k_is)
    (case sU => k_is)
    (case yU => k_is)
    (case qN => first | k_is | kernel_rfl | rfl)
    (case kN => k_is)
    (case sN => k_is)
    (case yN => k_is)
    (case atT => k_is)
    (case ifT => k_is)
    (case lT => k_is)
    (case cd_T => k_is)
    (case kp_T => k_is)
    (case lI => k_is)
    (case cd_I => k_is)
    (case kp_I => k_is)
    (case lXV => k_is)
    (case cd_XV => k_is)
    (case kp_XV => k_is)
    (case atP => k_is)
    (case geP => k_is)
    (case taP => k_is)
    (case rcP => k_is)
    (case lP => k_is)
    (case cd_P => k_is)
    (case kp_P => k_is)
    (case atL => k_is)
    (case geL => k_is)
    (case taL => k_is)
    (case rcL => k_is)
    (case lL => k_is)
    (case cd_L => k_is)
    (case kp_L => k_is)
    (case atR => k_is)
    (case geR => k_is)
    (case taR => k_is)
    (case rcR => k_is)
    (case lR => k_is)
    (case cd_R => k_is)
    (case kp_R => k_is)
    (case atTv => k_is)
    (case ifTv => k_is)
    (case lTv => k_is)
    (case cd_Tv => k_is)
    (case kp_Tv => k_is)
    (case kx => first | k_is | kernel_rfl | rfl | decide +kernel)
    (case eTl => first | k_is | kernel_rfl | rfl | decide +kernel)
    (case atRl => k_is)
    (case geRl => k_is)
    (case taRl => k_is)
    (case rcRl => k_is)
    (case lRl => k_is)
    (case cd_Rl => k_is)
    (case kp_Rl => k_is)
    (case atRd => k_is)
    (case geRd => k_is)
    (case taRd => k_is)
    (case rcRd => k_is)
    (case lRd => k_is)
    (case cd_Rd => k_is)
    (case kp_Rd => k_is)
    (case atEx => k_is)
    (case geEx => k_is)
    (case taEx => k_is)
    (case rcEx => k_is)
    (case lEx => k_is)
    (case cd_Ex => k_is)
    (case kp_Ex => k_is)
    (case atBt => k_is)
    (case geBt => k_is)
    (case taBt => k_is)
    (case rcBt => k_is)
    (case lBt => k_is)
    (case cd_Bt => k_is)
    (case kp_Bt => k_is)
    (case atBtT => k_is)
    (case atBtW => k_is)
    (case atBb => k_is)
    (case ifBb => k_is)
    (case lBb => k_is)
    (case cd_Bb => k_is)
    (case kp_Bb => k_is)
    (case atBbW => k_is)
    (case ifBbW => k_is)
    (case atBbT => k_is)
    (case ifBbT => k_is)
    (case lBbT => k_is)
    (case cd_BbT => k_is)
    (case kp_BbT => k_is)
    (case atBcF => k_is)
    (case ifBcF => k_is)
    (case lBcF => k_is)
    (case cd_BcF => k_is)
    (case kp_BcF => k_is)
    (case atBcT => k_is)
    (case ifBcT => k_is)
    (case lBcT => k_is)
    (case cd_BcT => k_is)
    (case kp_BcT => k_is)
    (case atBcW => k_is)
    (case ifBcW => k_is)
    (case lBcW => k_is)
    (case cd_BcW => k_is)
    (case kp_BcW => k_is)
    (case atBg => k_is)
    (case ifBg => k_is)
    (case lBg => k_is)
    (case cd_Bg => k_is)
    (case kp_Bg => k_is)
    (case atBgT => k_is)
    (case ifBgT => k_is)
    (case atBgW => k_is)
    (case ifBgW => k_is)
    (case lBgW => k_is)
    (case cd_BgW => k_is)
    (case kp_BgW => k_is)
    (case atSI => k_is)
    (case ifSI => k_is)
    (case lSI => k_is)
    (case cd_SI => k_is)
    (case kp_SI => k_is)
    (case atSd => k_is)
    (case ifSd => k_is)
    (case lSd => k_is)
    (case cd_Sd => k_is)
    (case kp_Sd => k_is)
    (case atTa => k_is)
    (case ifTa => k_is)
    (case lTa => k_is)
    (case cd_Ta => k_is)
    (case kp_Ta => k_is)
    (case atBy => k_is)
    (case lBy => k_is)
    (case cd_By => k_is)
    (case kp_By => k_is)
    (case stop => first | rfl | kernel_rfl | decide +kernel)
    (case sopq => first | k_is | kernel_rfl | rfl | decide +kernel)
    (case sty => first | k_is | kernel_rfl | rfl | decide +kernel)
    (case sfi => first | k_is | kernel_rfl | rfl | decide +kernel)
    (case atF0 => k_is)
    (case ifF0 => k_is)
    (case lF0 => k_is)
    (case cd_F0 => k_is)
    (case kp_F0 => k_is)
    (case scodeF0 => first | k_is | kernel_rfl | rfl | decide +kernel)
    (case sfilF0 => first | rfl | kernel_rfl | decide +kernel)
    (case smainF0 => first | rfl | kernel_rfl | decide +kernel)
    (case scellF0 => first | k_is | kernel_rfl | rfl | decide +kernel)
    (case sclassF0 => first | k_is | kernel_rfl | rfl | decide +kernel)
    (case smroF0 => first | k_is | kernel_rfl | rfl | decide +kernel)
    (case smethF0 => first | k_is | kernel_rfl | rfl | decide +kernel)
    (case atT0 => k_is)
    (case ifT0 => k_is)
    (case lT0 => k_is)
    (case cd_T0 => k_is)
    (case kp_T0 => k_is)
    (case scodeT0 => first | k_is | kernel_rfl | rfl | decide +kernel)
    (case sfilT0 => first | rfl | kernel_rfl | decide +kernel)
    (case smainT0 => first | rfl | kernel_rfl | decide +kernel)
    (case scellT0 => first | k_is | kernel_rfl | rfl | decide +kernel)
    (case sclassT0 => first | k_is | kernel_rfl | rfl | decide +kernel)
    (case smroT0 => first | k_is | kernel_rfl | rfl | decide +kernel)
    (case smethT0 => first | k_is | kernel_rfl | rfl | decide +kernel)
    (case atW0 => k_is)
    (case ifW0 => k_is)
    (case lW0 => k_is)
    (case cd_W0 => k_is)
    (case kp_W0 => k_is)
    (case scodeW0 => first | k_is | kernel_rfl | rfl | decide +kernel)
    (case sfilW0 => first | rfl | kernel_rfl | decide +kernel)
    (case smainW0 => first | rfl | kernel_rfl | decide +kernel)
    (case scellW0 => first | k_is | kernel_rfl | rfl | decide +kernel)
    (case sclassW0 => first | k_is | kernel_rfl | rfl | decide +kernel)
    (case smroW0 => first | k_is | kernel_rfl | rfl | decide +kernel)
    (case smethW0 => first | k_is | kernel_rfl | rfl | decide +kernel)
    (case atTo => k_is)
    (case ifTo => k_is)
    (case lTo => k_is)
    (case cd_To => k_is)
    (case kp_To => k_is)
    (case atSx => k_is)
    (case ifSx => k_is)
    (case lSx => k_is)
    (case cd_Sx => k_is)
    (case kp_Sx => k_is)
    (case atHol => k_is)
    (case ifHol => k_is)
    (case lHol => k_is)
    (case cd_Hol => k_is)
    (case kp_Hol => k_is)
    (case atVal => k_is)
    (case ifVal => k_is)
    (case lVal => k_is)
    (case cd_Val => k_is)
    (case kp_Val => k_is)
    (case atCvI => k_is)
    (case ifCvI => k_is)
    (case lCvI => k_is)
    (case cd_CvI => k_is)
    (case kp_CvI => k_is)
    (case atOpn => k_is)
    (case ifOpn => k_is)
    (case lOpn => k_is)
    (case cd_Opn => k_is)
    (case kp_Opn => k_is)
    (case atNot => k_is)
    (case ifNot => k_is)
    (case lNot => k_is)
    (case cd_Not => k_is)
    (case kp_Not => k_is)
    (case atAdd => k_is)
    (case ifAdd => k_is)
    (case lAdd => k_is)
    (case cd_Add => k_is)
    (case kp_Add => k_is)
    (case atClo => k_is)
    (case ifClo => k_is)
    (case lClo => k_is)
    (case cd_Clo => k_is)
    (case kp_Clo => k_is)
    (case atKno => k_is)
    (case ifKno => k_is)
    (case lKno => k_is)
    (case cd_Kno => k_is)
    (case kp_Kno => k_is)
    (case atRch => k_is)
    (case ifRch => k_is)
    (case lRch => k_is)
    (case cd_Rch => k_is)
    (case kp_Rch => k_is)
    (case atCAt => k_is)
    (case ifCAt => k_is)
    (case lCAt => k_is)
    (case cd_CAt => k_is)
    (case kp_CAt => k_is)
    (case atCom => k_is)
    (case ifCom => k_is)
    (case lCom => k_is)
    (case cd_Com => k_is)
    (case kp_Com => k_is)
    (case atCoI => k_is)
    (case ifCoI => k_is)
    (case lCoI => k_is)
    (case cd_CoI => k_is)
    (case kp_CoI => k_is)
    (case atRep => k_is)
    (case geRep => k_is)
    (case taRep => k_is)
    (case rcRep => k_is)
    (case lRep => k_is)
    (case cd_Rep => k_is)
    (case kp_Rep => k_is)
    (case atCos => k_is)
    (case ifCos => k_is)
    (case lCos => k_is)
    (case cd_Cos => k_is)
    (case kp_Cos => k_is)
    (case atVN => k_is)
    (case lVN => k_is)
    (case cd_VN => k_is)
    (case kp_VN => k_is)
    (case atVP => k_is)
    (case lVP => k_is)
    (case cd_VP => k_is)
    (case kp_VP => k_is)
    (case atVC => k_is)
    (case lVC => k_is)
    (case cd_VC => k_is)
    (case kp_VC => k_is)
    (case atCut => k_is)
    (case lCut => k_is)
    (case cd_Cut => k_is)
    (case kp_Cut => k_is)
    (case atCd => k_is)
    (case lCd => k_is)
    (case cd_Cd => k_is)
    (case kp_Cd => k_is)
    (case atFr => k_is)
    (case lFr => k_is)
    (case cd_Fr => k_is)
    (case kp_Fr => k_is)
    (case atSp => k_is)
    (case lSp => k_is)
    (case cd_Sp => k_is)
    (case kp_Sp => k_is)
    (case atPu => k_is)
    (case lPu => k_is)
    (case cd_Pu => k_is)
    (case kp_Pu => k_is)
    (case atSr => k_is)
    (case lSr => k_is)
    (case cd_Sr => k_is)
    (case kp_Sr => k_is)
    (case atFe => k_is)
    (case lFe => k_is)
    (case cd_Fe => k_is)
    (case kp_Fe => k_is)
    (case atBl => k_is)
    (case lBl => k_is)
    (case cd_Bl => k_is)
    (case kp_Bl => k_is)
    (case atSt => k_is)
    (case lSt => k_is)
    (case cd_St => k_is)
    (case kp_St => k_is)
    (case atD => k_is)
    (case lD => k_is)
    (case cd_D => k_is)
    (case kp_D => k_is)
    (case atOth => k_is)
    (case lOth => k_is)
    (case cd_Oth => k_is)
    (case kp_Oth => k_is)
    (case atLaw => k_is)
    (case lLaw => k_is)
    (case cd_Law => k_is)
    (case kp_Law => k_is)
end
set_option Elab.async false
set_option linter.all false
set_option maxRecDepth 100000
set_option maxHeartbeats 4000000
/-! lambdas as tracked objects, called from anywhere -/
namespace Sea
open PySem PySem.Spec PyProof.Rows L2 LamX NdefX

/-- the words of a lambda, what it captured, its code object, its defaults -/
structure LF where
  qual : Str
  params : Arguments
  body : Expr
  scope : Scope
  cl : List (Str × Addr)
  c : Addr
  dV : Value
abbrev LF.fd (F : LF) (doc pm ctv : Value) : FuncData :=
  PySem.W.kdv_fn "<lambda>" F.qual F.params (.expr F.body) F.scope F.cl F.dV doc pm (.ref F.c) ctv
/-- what a lambda's object is: a function object with the words F, whatever its text, module and annotations are -/
inductive LamAs (F : LF) : Obj → Prop
  | mk (od : Option Addr) (sl : Array (Option Value)) (doc pm ctv : Value) : LamAs F ⟨.type "function", od, .func (F.fd doc pm ctv), sl⟩
/-- at f stands an object of which R holds -/
def Stands (R : Obj → Prop) (f : Addr) : HO := .ext fun h => ∃ o, R o ∧ h.get? f = some o
theorem Stands.ok {P : Program} {w : World} {H : Hp} {h : Heap} {f : Addr} {R : Obj → Prop} {o : Obj} (r : R o) (e : h.get? f = some o) : ObjOk P w H h f (Stands R f) :=
  ⟨⟨o, r, e⟩, ⟨o, e⟩, fun _ _ ⟨o, r, e⟩ stays => ⟨o, r, stays o e⟩⟩
theorem Stands.no_tbl {R : Obj → Prop} {f : Addr} (ps : Array Value) : Stands R f ≠ .tbl ps := nofun
theorem Stands.no_tup {R : Obj → Prop} {f : Addr} (xs : List V) : Stands R f ≠ .tup xs := nofun
/-- a new object is laid at the heap's end -/
theorem Stands.laid {X : Cx} {pins : List (Addr × Obj)} {σ : L2.St} {H : Hp} {s : Shared} {R : Obj → Prop} {o : Obj} {t : Nat} (I : Inv X pins σ H s) (r : R o) (nf : o.isFreed = false) :
    Inv X pins σ (upd H s.heap.objs.size (Stands R s.heap.objs.size)) { s with heap := s.heap.push o, toks := t } :=
  I.laid (fun _ _ e => Heap.get?_push_of_some _ e) (Nat.le_refl _) (Stands.ok r (Heap.get?_push_size _ nf))
abbrev LamO (f : Addr) (F : LF) : HO := Stands (LamAs F) f
theorem lamO_at {P : Program} {w : World} {H : Hp} {h : Heap} {f : Addr} {F : LF} (hok : HOk P w H h) (e : H f = some (LamO f F)) : ∃ o, LamAs F o ∧ h.get? f = some o :=
  (hok f _ e).1
theorem tabs_keep {T : List (Addr × Str)} {H : Hp} {a : Addr} {o : HO} (hT : Tabs T H) (n : H a = none) : Tabs T (upd H a o) :=
  hT.ext fun b u e => by rw [upd_ne (ne_of_none e n), e]
theorem extN_new {H : Hp} {a : Addr} {o : HO} (n : H a = none) : ExtN H (upd H a o) := .of fun b u e => by rw [upd_ne (ne_of_none e n), e]
theorem extN_tbl {H : Hp} {P : Addr} {ps qs : Array Value} (at_ : H P = some (.tbl ps)) : ExtN H (upd H P (.tbl qs)) := fun b o e n => (upd_ne fun z => n ps (by
  rw [z, at_] at e
  exact (Option.some.inj e).symm)).trans e
/-- all that a table's row tells bears the name q -/
def Told (H : Hp) (q : Str) (row : List Value) : Prop := ∀ (pos : Pos) (cv : Value), codeAmong pos row = some cv → ∃ d, cv = .ref d ∧ H d = some (CodeO d q)
theorem Told.one {H H' : Hp} {q : Str} {row : List Value} {pos : Pos} {c : Addr} (t : Told H q row) (ok : TriplesOk row) (keep : ∀ d, H d = some (CodeO d q) → H' d = some (CodeO d q)) (new : H' c = some (CodeO c q)) : Told H' q (row ++ [rawInt pos.line, rawInt pos.col, .ref c]) := fun pos cv h =>
  (among_app _ ok h).elim (fun old => (t pos cv old).imp fun d z => ⟨z.1, keep d z.2⟩) fun e => ⟨c, e, new⟩
/-- the maker's table has grown by one code object -/
theorem tabs_more {T : List (Addr × Str)} {H : Hp} {P c : Addr} {q : Str} {ps : Array Value} {pos : Pos} (hT : Tabs T H) (at_ : H P = some (.tbl ps)) (ok : TriplesOk ps.toList) (told : Told H q ps.toList) (hu : ∀ p ∈ T, p.1 = P → p.2 = q) (nC : H c = none) :
    Tabs T (upd (upd H P (.tbl (ps ++ #[rawInt pos.line, rawInt pos.col, .ref c]))) c (CodeO c q)) ∧ ExtN H (upd (upd H P (.tbl (ps ++ #[rawInt pos.line, rawInt pos.col, .ref c]))) c (CodeO c q)) := by
  have Pc : P ≠ c := ne_of_none at_ nC
  have ext := (extN_tbl (qs := ps ++ #[rawInt pos.line, rawInt pos.col, .ref c]) at_).trans (extN_new (o := CodeO c q) ((upd_ne Pc.symm).trans nC))
  have row : (ps ++ #[rawInt pos.line, rawInt pos.col, .ref c]).toList = ps.toList ++ [rawInt pos.line, rawInt pos.col, .ref c] := by simp
  have mine : TabS (upd (upd H P (.tbl (ps ++ #[rawInt pos.line, rawInt pos.col, .ref c]))) c (CodeO c q)) P q := by
    refine ⟨_, (upd_ne Pc).trans upd_same, ?_, ?_⟩ <;> rw [row]
    · exact PySem.TriplesOk_snoc _ _ _ _ ok
    · exact told.one ok (fun d e => ext d _ e codeO_ne) upd_same
  have other : ∀ p ∈ T, p.1 ≠ P → TabS (upd (upd H P (.tbl (ps ++ #[rawInt pos.line, rawInt pos.col, .ref c]))) c (CodeO c q)) p.1 p.2 := fun p hp n =>
    let ⟨qs, there, fine, names⟩ := hT p hp
    ⟨qs, (upd_ne (ne_of_none there nC)).trans ((upd_ne n).trans there), fine, fun x y h => (names x y h).imp fun d z => ⟨z.1, ext d _ z.2 codeO_ne⟩⟩
  exact ⟨fun p hp => if e : p.1 = P then by rw [e, hu p hp e]; exact mine else other p hp e, ext⟩

section
variable {X : Cx} {pins : List (Addr × Obj)} {σ : L2.St} {H : Hp} {s : Shared}
/-- the lambda's object is made -/
theorem lam_tr {T : List (Addr × Str)} {c P : Addr} {params : Arguments} {body : Expr} {scope : Scope} {pos : Pos} {dV : Value} {E : Value → Shared → Prop} {Q : Value → Shared → Prop} (I : Inv X pins σ H s) (TB : TabB X.base X.mg c P) (hcode : X.env.code = .ref c)
    (hm : (P, X.env.qual ++ "<lambda>") ∈ T) (hu : ∀ p ∈ T, p.1 = P → p.2 = X.env.qual ++ "<lambda>") (hT : Tabs T H) (hfree : ∀ y ∈ scope.names, y.2 = .free → ∃ c, X.env.cells.lookup y.1 = some c)
    (h : ∀ (f c' : Addr) (H1 : Hp) (s' : Shared), Inv X pins σ H1 s' → ExtN H H1 → Tabs T H1 → H f = none →
      H1 f = some (LamO f ⟨X.env.qual ++ "<lambda>", params, body, scope, cloFrom X.env.cells scope.names [], c', dV⟩) → H1 c' = some (CodeO c' (X.env.qual ++ "<lambda>")) → Q (.ref f) s') :
    wpAny (model X.prog X.w) X.A (makeTail "<lambda>" (X.env.qual ++ "<lambda>") params (.expr body) scope X.env dV .none none pos pos.line) Q E s := by
  obtain ⟨ps, table, triples, told⟩ := hT _ hm
  have main := TB.bm.keeps I.bk
  have glob := I.mod.glob.keeps I.bk
  have code := TB.code.keeps I.bk
  -- whichever way the code object was got: the function object is laid last
  have last : ∀ (c' : Addr) (H1 : Hp) (hp : Heap) (tk : Nat) (doc pm ctv : Value), Inv X pins σ H1 { s with heap := hp, toks := tk } → s.heap.objs.size ≤ hp.objs.size → ExtN H H1 → Tabs T H1 → H1 c' = some (CodeO c' (X.env.qual ++ "<lambda>")) →
      Q (.ref hp.objs.size) { s with heap := hp.push ⟨.type "function", none, .func ((LF.mk (X.env.qual ++ "<lambda>") params body scope (cloFrom X.env.cells scope.names []) c' dV).fd doc pm ctv), #[]⟩, toks := tk } := by
    intro c' H1 hp tk doc pm ctv J le ext tabs hc
    have fresh : H1 hp.objs.size = none := J.hok.fresh (Nat.le_refl _)
    exact h _ c' _ _ (Stands.laid J (LamAs.mk none #[] doc pm ctv) rfl) (ext.trans (extN_new fresh)) (tabs_keep tabs fresh) (I.hok.fresh le) upd_same ((upd_ne (ne_of_none hc fresh)).trans hc)
  match hk : codeAmong pos ps.toList with
  | some cv =>
    obtain ⟨c', rfl, known⟩ := told pos cv hk
    exact PySem.W.kdv_makeTailHit (closure_ok hfree) I.ok.glob glob hcode code (I.hok P _ table) triples hk main fun ctv doc hp tk old le => last c' H hp tk doc _ ctv (I.kept old) le (.refl H) hT known
  | none =>
    refine PySem.W.kdv_makeTail (closure_ok hfree) I.ok.glob glob hcode code (I.hok P _ table) triples hk TB.gP main ?_
    rintro c' ctv doc hp tk old ge lt ⟨_, oc, vs, t, z, rec⟩ row
    cases z
    have grown := tabs_more (pos := pos) hT table triples told hu (I.hok.fresh ge)
    exact last c' _ hp tk doc _ ctv (inv_table (t' := tk) I table (fun b o hb e => old b o hb e) row ge ⟨oc, vs, t, rec⟩) (Nat.le_trans ge (Nat.le_of_lt lt)) grown.2 grown.1 upd_same
end

/-- a lambda as a value: without defaults -/
def tLamV (T : List (Addr × Str)) (mk : Addr → LF) : TE := fun _ H Q => Tabs T H ∧ ∀ (f c' : Addr) (H1 : Hp), ExtN H H1 → Tabs T H1 → H f = none → H1 f = some (LamO f (mk c')) → H1 c' = some (CodeO c' (mk c').qual) → Q (.ref f) H1
/-- .. with one default, an int -/
def tLamD (T : List (Addr × Str)) (d : Int) (mk : Addr → Addr → LF) : TE := fun _ H Q => Tabs T H ∧ ∀ (f c' t : Addr) (H1 : Hp), ExtN H H1 → Tabs T H1 → H f = none → H t = none → H1 t = some (.tup [.int d]) → H1 f = some (LamO f (mk c' t)) → H1 c' = some (CodeO c' (mk c' t).qual) → Q (.ref f) H1
section
variable {X : Cx} {T : List (Addr × Str)} {c P : Addr} {params : Arguments} {body : Expr} {scope : Scope} {pos : Pos}
theorem free_has (hf : ∀ y ∈ scope.names, y.2 = .free → X.env.scope.names.lookup y.1 = some .cell ∨ X.env.scope.names.lookup y.1 = some .free) (ok : X.Ok) : ∀ y ∈ scope.names, y.2 = .free → ∃ c, X.env.cells.lookup y.1 = some c :=
  fun y hy e => (hf y hy e).elim (fun k => ok.has _ (.inl k)) (fun k => ok.has _ (.inr k))
theorem pe_lamV (TB : TabB X.base X.mg c P) (hcode : X.env.code = .ref c) (hm : (P, X.env.qual ++ "<lambda>") ∈ T) (hu : ∀ p ∈ T, p.1 = P → p.2 = X.env.qual ++ "<lambda>")
    (hf : ∀ y ∈ scope.names, y.2 = .free → X.env.scope.names.lookup y.1 = some .cell ∨ X.env.scope.names.lookup y.1 = some .free) (hdef : defaultsOf params X.env = ([], []) := by rfl) :
    PE X (.Lambda params body scope pos) (tLamV T fun c' => ⟨X.env.qual ++ "<lambda>", params, body, scope, cloFrom X.env.cells scope.names [], c', .none⟩) := by
  refine ⟨fun pins s σ H Q I h => ?_⟩
  obtain ⟨hT, h⟩ := h
  refine PySem.W.kla_eval hdef ?_
  rw [makeFunction_eq]
  simp only [List.zip_nil_right, List.filterMap_nil, List.isEmpty_nil, if_true, pure_bind]
  exact lam_tr I TB hcode hm hu hT (free_has hf I.ok) fun f c' H1 s' I1 eN T1 f0 f1 c1 => ⟨.ref f, H1, I1, rfl, h f c' H1 eN T1 f0 f1 c1⟩
theorem pe_lamD {d : Int} {j : Nat} {dp : Pos} (TB : TabB X.base X.mg c P) (hcode : X.env.code = .ref c) (hm : (P, X.env.qual ++ "<lambda>") ∈ T) (hu : ∀ p ∈ T, p.1 = P → p.2 = X.env.qual ++ "<lambda>")
    (hf : ∀ y ∈ scope.names, y.2 = .free → X.env.scope.names.lookup y.1 = some .cell ∨ X.env.scope.names.lookup y.1 = some .free) (hd : params.defaults = [.Constant (.int d) j dp]) (hk0 : params.kw_defaults = []) :
    PE X (.Lambda params body scope pos) (tLamD T d fun c' t => ⟨X.env.qual ++ "<lambda>", params, body, scope, cloFrom X.env.cells scope.names [], c', .ref t⟩) := by
  refine ⟨fun pins s σ H Q I h => ?_⟩
  obtain ⟨hT, h⟩ := h
  refine PySem.W.kdv_lam (by rw [hd]; rfl) hk0 ?_
  rw [hd]
  refine PySem.W.kdv_all1 (wpAny_Constant_int (PySem.W.kdv_all0 ?_))
  rw [makeFunction_eq]
  simp only [List.zip_nil_right, List.filterMap_nil, List.isEmpty_nil, if_true, pure_bind, List.isEmpty_cons, Bool.false_eq_true, if_false]
  refine wpAny_bind (wpAny_newTextTuple ?_)
  have nT : H s.heap.objs.size = none := I.hok.fresh (Nat.le_refl _)
  have I1 := I.laid (t' := s.toks + 1) (a := s.heap.objs.size) (o := .tup [.int d]) (h' := s.heap.push ({ cls := .type "tuple", data := .seq #[.int d s.toks] } : Obj)) (fun b u e => Heap.get?_push_of_some _ e) (Nat.le_refl _)
    ⟨(by show 1 ≤ sizeLine; decide), [.int d s.toks], .cons ⟨_, rfl⟩ .nil, ⟨_, Heap.get?_push_size _ rfl, rfl, _, rfl⟩⟩
  refine lam_tr I1 TB hcode hm hu (tabs_keep hT nT) (free_has hf I.ok) fun f c' H1 s' I2 eN T1 f0 f1 c1 => ⟨.ref f, H1, I2, rfl, ?_⟩
  have ft : f ≠ s.heap.objs.size := fun z => by
    rw [z, upd_same] at f0
    cases f0
  have f0' : H f = none := by
    rw [upd_ne ft] at f0
    exact f0
  exact h f c' s.heap.objs.size H1 ((extN_new nT).trans eN) T1 f0' nT (eN _ _ upd_same (fun ps z => by cases z)) f1 c1
end
end Sea

set_option Elab.async false
set_option linter.all false
set_option maxRecDepth 100000
set_option maxHeartbeats 4000000
namespace Sea
open PySem PySem.Spec PyProof.Rows L2 LamX NdefX
abbrev LF.nf (F : LF) : NF := ⟨"<lambda>", F.qual, F.params, [], F.scope, F.cl, F.c⟩
/-- the tuple of defaults, where there is one, holds one int -/
def DvOk (F : LF) (H : Hp) : Prop := ∀ t, F.dV = .ref t → ∃ d, H t = some (.tup [.int d])
/-- a thunk's reading: ws what its captured cells hold -/
abbrev TSp := List (Option V) → Hp → VK → XK → Prop
structure LOk (P : Program) (w : World) (K : PySem.W.Frag) (mg : Str → Option Value) (base : Heap) (CX : CXT) (k : Nat) (f : Addr) (F : LF) (fr : List Str) (sp : TSp) : Prop where
  run : ∀ (A : Around) (outer : List Env) (s : Shared) (H : Hp) (ws : List (Option V)) (Q : VK) (E : XK), Room k A → Env0 P w K mg base A outer s H → H f = some (LamO f F) → H F.c = some (CodeO F.c F.qual) → DvOk F H →
    CellsAt F.cl fr ws s.heap H → sp ws H Q E → codeAny (model P w) A (.call (.ref f) ⟨[], []⟩) (CR CX outer P w H s Q E) s
theorem LOk.mono {P : Program} {w : World} {K : PySem.W.Frag} {mg : Str → Option Value} {base : Heap} {CX : CXT} {k j : Nat} {f : Addr} {F : LF} {fr : List Str} {sp : TSp} (o : LOk P w K mg base CX j f F fr sp) (h : j ≤ k) : LOk P w K mg base CX k f F fr sp :=
  ⟨fun A outer s H ws Q E hr => o.run A outer s H ws Q E (hr.mono h)⟩
theorem LOk.imp {P : Program} {w : World} {K : PySem.W.Frag} {mg : Str → Option Value} {base : Heap} {CX : CXT} {k : Nat} {f : Addr} {F : LF} {fr : List Str} {sp sp' : TSp} (o : LOk P w K mg base CX k f F fr sp) (h : ∀ ws H Q E, sp' ws H Q E → sp ws H Q E) : LOk P w K mg base CX k f F fr sp' :=
  ⟨fun A outer s H ws Q E hr e0 a b c d q => o.run A outer s H ws Q E hr e0 a b c d (h _ _ _ _ q)⟩
section
variable {CX : CXT} {P : Program} {w : World} {K : PySem.W.Frag} {mg : Str → Option Value} {base : Heap} {N ps fr : List Str} {F : LF} {f : Addr} {k : Nat} {sp : TSp}
theorem lok_core {A : Around} {outer : List Env} {s : Shared} {H : Hp} {us : List Value} {vs : List V} {ws : List (Option V)} {Q : VK} {E : XK} (S : NScope N ps fr F.scope) (hr : Room (k + 1) A) (e0 : Env0 P w K mg base A outer s H)
    (hf : H f = some (LamO f F)) (hc : H F.c = some (CodeO F.c F.qual)) (C : CellsAt F.cl fr ws s.heap H) (r : Vals vs us) (hl : vs.length = ps.length)
    (hb : ∀ doc pm ctv : Value, BindsTo s (F.fd doc pm ctv) ⟨[], []⟩ (ps.zip us))
    (hbody : Room k (A.deeper (envF F.nf f s.heap.objs.size)) → ∃ t, PE (ncx CX P w K mg base N F.nf f A outer s H E) F.body t ∧ t (startF N vs ws) H Q) :
    codeAny (model P w) A (.call (.ref f) ⟨[], []⟩) (CR CX outer P w H s Q E) s := by
  have lim : s.heap.NoLimit := e0.mod.nolimit.keeps fun b o e => (e0.bs b o e).1
  obtain ⟨_, ⟨od, sl, doc, pm, ctv⟩, ho⟩ := lamO_at e0.hok hf
  refine PySem.W.kla_callFunE hr.depth ho rfl S.co S.gen rfl (codeO_at e0.hok hc) ?_
  refine hb doc pm ctv _ _ _ _ ?_
  refine wpAny_newFunctionEnv S.nocell (fun ⟨n, _⟩ hy => S.par n (List.of_mem_zip hy).1) (fun h1 hns hsb => ⟨lim.fresh _ hsb, ?_⟩) S.kind
  have kp : ∀ b o, s.heap.get? b = some o → h1.get? b = some o := fun b o e => hsb.extBut b o (Nat.ne_of_lt (Heap.lt_size e)) (Heap.get?_push_of_some _ e)
  obtain ⟨t, ht, hq⟩ := hbody (hr.deeper _)
  have I : Inv (ncx CX P w K mg base N F.nf f A outer s H E) [] (startF N vs ws) H { s with heap := h1, toks := s.toks + (ps.zip us).length } := inv_startN S hr.hd e0 hl r C hns kp
  show codeAny _ _ (.expr F.body (envF F.nf f s.heap.objs.size)) _ _
  refine PySem.W.kla_codeExpr (wpAny_mono (ht.run [] _ (startF N vs ws) H Q I hq) (fun v s' hs => ?_) fun e s' hs => hs)
  obtain ⟨x, H', J, rv, q⟩ := hs
  exact ⟨x, H', J.os, J.bare, J.base, J.hok, rv, q⟩
theorem lok_of0 (S : NScope N [] fr F.scope) (hb : ∀ doc pm ctv : Value, bindArgs (F.fd doc pm ctv) ⟨[], []⟩ = pure [])
    (hbody : ∀ (A : Around) (outer : List Env) (s : Shared) (H : Hp) (ws : List (Option V)) (Q : VK) (E : XK), Room k (A.deeper (envF F.nf f s.heap.objs.size)) → ws.length = fr.length → sp ws H Q E →
      ∃ t, PE (ncx CX P w K mg base N F.nf f A outer s H E) F.body t ∧ t (startF N [] ws) H Q) : LOk P w K mg base CX (k + 1) f F fr sp :=
  ⟨fun A outer s H ws Q E hr e0 hf hc hd C hq => lok_core (us := []) (vs := []) S hr e0 hf hc C .nil rfl (fun doc pm ctv => .of_eq (hb doc pm ctv)) fun hr' => hbody A outer s H ws Q E hr' C.len hq⟩
/-- with one default -/
theorem lok_ofD {a : Str} {t : Addr} (S : NScope N [a] fr F.scope) (hdv : F.dV = .ref t)
    (hb : ∀ doc pm ctv : Value, ∃ kk : Option (Array Value) → Sem (List (Str × Value)), bindArgs (F.fd doc pm ctv) ⟨[], []⟩ = seqItems? (F.fd doc pm ctv).defaults >>= kk ∧ ∀ u, kk (some #[u]) = pure [(a, u)])
    (hbody : ∀ (A : Around) (outer : List Env) (s : Shared) (H : Hp) (ws : List (Option V)) (Q : VK) (E : XK) (d : Int), Room k (A.deeper (envF F.nf f s.heap.objs.size)) → ws.length = fr.length → sp ws H Q E →
      ∃ t, PE (ncx CX P w K mg base N F.nf f A outer s H E) F.body t ∧ t (startF N [.int d] ws) H Q) : LOk P w K mg base CX (k + 1) f F fr sp := by
  refine ⟨fun A outer s H ws Q E hr e0 hf hc hd C hq => ?_⟩
  obtain ⟨d, ht⟩ := hd t hdv
  obtain ⟨_, its, rv, o, ho, hcl, n, hsq⟩ := (show ObjOk P w H s.heap t (.tup [.int d]) from e0.hok t _ ht)
  cases rv with
  | @cons _ u _ rest ru rr =>
    cases rr
    exact lok_core (us := [u]) (vs := [.int d]) S hr e0 hf hc C (.cons ru .nil) rfl (fun doc pm ctv => by
      obtain ⟨kk, e1, e2⟩ := hb doc pm ctv
      exact BindsTo.of_defaults hdv ho hsq e1 (e2 u)) fun hr' => hbody A outer s H ws Q E d hr' C.len hq
end

/-- what a caller hands on with a thunk: tl is its reading -/
structure Thunk (P : Program) (w : World) (K : PySem.W.Frag) (mg : Str → Option Value) (base : Heap) (CX : CXT) (k : Nat) (outer : List Env) (s : Shared) (H : Hp) (f : Addr) (tl : Hp → VK → XK → Prop) : Prop where
  ex : ∃ (F : LF) (fr : List Str) (ws : List (Option V)) (sp : TSp), LOk P w K mg base CX k f F fr sp ∧ H f = some (LamO f F) ∧ H F.c = some (CodeO F.c F.qual) ∧ DvOk F H ∧ CellsAt F.cl fr ws s.heap H ∧ (∀ y c, F.cl.lookup y = some c → c ∉ frs outer) ∧ tl = sp ws
/-- a def that takes a thunk, its promise told of the state -/
def FnS (P : Program) (w : World) (K : PySem.W.Frag) (mg : Str → Option Value) (base : Heap) (CX CXl : CXT) (k j : Nat) (g : Addr) (sp : (Hp → VK → XK → Prop) → Hp → VK → XK → Prop) : Prop :=
  ∀ (A : Around) (outer : List Env) (s : Shared) (H : Hp) (f : Addr) (tl : Hp → VK → XK → Prop) (Q : VK) (E : XK), Room k A → Env0 P w K mg base A outer s H → Thunk P w K mg base CXl j outer s H f tl → sp tl H Q E →
    codeAny (model P w) A (.call (.ref g) ⟨[.ref f], []⟩) (CR CX outer P w H s Q E) s
section
variable {X : Cx} {CX CXl : CXT} {i k j : Nat} {x : Str} {p pos : Pos} {E : L2.St → XK}
/-- a local name is read: the value that its slot holds, nothing moved -/
theorem name_at {pins : List (Addr × Obj)} {σ : L2.St} {H : Hp} {s : Shared} {v : V} {Qv : Value → Shared → Prop} (hN : X.N[i]? = some x) (hv : Vis X.env.scope x) (hd : (x == ("__debug__" : Str)) = false) (hcd : (x == ("__classdict__" : Str)) = false)
    (I : Inv X pins σ H s) (slot : σ[i]? = some (some v)) (next : ∀ u s', RelV v u → Inv X pins σ H s' → Qv u s') : wpAny (model X.prog X.w) X.A (eval (.Name x p) X.env) Qv X.xe s := by
  have read := (pe_var (pos := p) hN hv hd hcd).run pins s σ H (fun y H' => (y, H') = (v, H)) I ⟨v, slot, rfl⟩
  refine thn read ?_
  rintro u s' ⟨_, _, J, r, e⟩
  cases e
  exact next u s' r J
/-- x(), x the thunk that this def was handed -/
def tAct (X : Cx) (CXl : CXT) (j i : Nat) (E : L2.St → XK) : TE := fun σ H Q => ∃ (f : Addr) (tl : Hp → VK → XK → Prop), σ[i]? = some (some (.ref f)) ∧ H = X.H_0 ∧ Thunk X.prog X.w X.K X.mg X.base CXl j X.outer X.s_0 X.H_0 f tl ∧ tl H Q (E σ)
theorem pe_actT (hr : Room j X.A) (hex : X.ex = []) (hx : ∀ σ, PassesAt CXl X σ (E σ)) (hN : X.N[i]? = some x) (hv : Vis X.env.scope x)
    (hd : (x == ("__debug__" : Str)) = false := by decide) (hcd : (x == ("__classdict__" : Str)) = false := by decide) : PE X (.Call (.Name x p) [] [] pos) (tAct X CXl j i E) := by
  constructor
  rintro pins s σ _ Q I ⟨f, _, slot, rfl, ⟨F, fr, ws, sp, L, hf, hc, hdv, C, nf, rfl⟩, ht⟩
  refine wpAny_Call_Name_kw (name_at hN hv hd hcd I slot ?_)
  rintro u s1 (rfl : u = .ref f) I1
  obtain ⟨_, ⟨od, sl, doc, pm, ctv⟩, ho⟩ := lamO_at I1.hok hf
  have cells := C.later nf (fun y c e z => by rw [hex] at z; cases z) I1
  have ran := L.run X.A X.stack s1 X.H_0 ws Q (E σ) hr I1.env0 hf hc hdv cells ht
  refine PySem.W.callWith_F0 (first := []) ⟨_, od, _, sl, ho⟩ (wpAny_call (codeAny_mono ran ?_))
  intro r s' back
  match r, back with
  | .error e, back => exact hx σ pins X.H_0 s1 e s' I1 back
  | .ok (.ret _), back => exact I1.after back
  | .ok .next, back => exact back.elim
  | .ok .brk, back => exact back.elim
  | .ok .cont, back => exact back.elim
/-- from the running frame: the cells that a thunk captured here -/
theorem thunk_here {pins : List (Addr × Obj)} {σ : L2.St} {H : Hp} {s : Shared} {f : Addr} {F : LF} {fr : List Str} {js : List Nat} {sp : TSp} (I : Inv X pins σ H s) (hfn : X.fn = fun _ => true) (L : LOk X.prog X.w X.K X.mg X.base CXl j f F fr sp) (hf : H f = some (LamO f F)) (hc : H F.c = some (CodeO F.c F.qual)) (hd : DvOk F H)
    (cp : Caps X F.cl fr js) : Thunk X.prog X.w X.K X.mg X.base CXl j X.stack s H f (sp (js.map (slotAt σ))) := by
  refine ⟨F, fr, _, sp, L, hf, hc, hd, cells_of I cp, fun y c e z => ?_, rfl⟩
  have e' := cp.sub y c e
  rcases List.mem_cons.mp (I.stkSub c z) with z | z
  · exact I.cne y c e' z
  · have h1 := I.ok.cab y c (by rw [hfn]) e'
    obtain ⟨_, o, ho, _⟩ := I.ok.funs.mem z
    exact absurd (Nat.lt_of_lt_of_le (Heap.lt_size ho) h1) (Nat.lt_irrefl _)
/-- g(e), e a lambda made in this def -/
def tGive (X : Cx) (CXl : CXT) (j : Nat) (sp : (Hp → VK → XK → Prop) → Hp → VK → XK → Prop) (te : TE) : TE := fun σ H Q => te σ H fun v H1 => ∃ (f : Addr) (F : LF) (fr : List Str) (js : List Nat) (lsp : TSp), v = .ref f ∧ LOk X.prog X.w X.K X.mg X.base CXl j f F fr lsp ∧
  H1 f = some (LamO f F) ∧ H1 F.c = some (CodeO F.c F.qual) ∧ DvOk F H1 ∧ (X.Ok → Caps X F.cl fr js) ∧ sp (lsp (js.map (slotAt σ))) H1 Q fun _ _ _ => False
theorem pe_give {g : Addr} {sp : (Hp → VK → XK → Prop) → Hp → VK → XK → Prop} {e : Expr} {te : TE} (G : FnS X.prog X.w X.K X.mg X.base CX0 CXl k j g sp) (hfn : X.fn = fun _ => true) (hr : Room k X.A) (hg : Gl X x) (hm : X.mg x = some (.ref g)) (hk : PySem.W.keepIn X.K (.ref g) = true) (he : PE X e te)
    (hdb : (x == ("__debug__" : Str)) = false := by decide) (hs : starEach (e :: []) X.env = (false, eval e X.env) :: starEach [] X.env := by rfl) (hpl : (backTo pos (starEach [] X.env)).any (·.1) = false := by rfl) :
    PE X (.Call (.Name x p) [e] [] pos) (tGive X CXl j sp te) := by
  refine ⟨fun pins s σ H Q I h => ?_⟩
  refine wpAny_Call_Name_kw (ld_glob I hg hm ?_ hdb)
  refine PySem.W.callWith_K (h₀ := X.base) I.ok.mod.kin hk (thn ((pa_cons he pa_nil hs).run pos pins s σ H (fun vs H1 => ∃ v, vs = [v] ∧ ∃ (f : Addr) (F : LF) (fr : List Str) (js : List Nat) (lsp : TSp), v = .ref f ∧ LOk X.prog X.w X.K X.mg X.base CXl j f F fr lsp ∧
    H1 f = some (LamO f F) ∧ H1 F.c = some (CodeO F.c F.qual) ∧ DvOk F H1 ∧ (X.Ok → Caps X F.cl fr js) ∧ sp (lsp (js.map (slotAt σ))) H1 Q fun _ _ _ => False) I ?_) fun us s1 hh => ?_) hs hpl
  · show te σ H _
    refine Eq.mp ?_ h
    show te σ H _ = te σ H _
    congr 1
    funext v H1
    refine propext ⟨fun hh => ⟨v, rfl, hh⟩, fun ⟨v', e', hh⟩ => ?_⟩
    cases e'
    exact hh
  · obtain ⟨vs, H1, I1, r, v, ev, f, F, fr, js, lsp, ef, L, hf, hc, hd, cp, q⟩ := hh
    subst ev
    subst ef
    refine ⟨I1.kIn, ?_⟩
    cases r with
    | cons ru rr =>
      cases rr
      obtain rfl := (show _ = Value.ref f from ru)
      refine wpAny_call (codeAny_mono (G X.A X.stack s1 H1 f _ Q (fun _ _ _ => False) hr I1.env0 (thunk_here I1 hfn L hf hc hd (cp I1.ok)) q) fun r s' hq => ?_)
      cases r with
      | error e => exact False.elim hq
      | ok fl =>
        cases fl with
        | ret u => exact I1.after hq
        | next => exact False.elim hq
        | brk => exact False.elim hq
        | cont => exact False.elim hq
end
end Sea

set_option Elab.async false
set_option linter.all false
set_option maxRecDepth 100000
set_option maxHeartbeats 4000000
/-! [g(x) for x in xs], xs a list of lambdas that this def made, g a def that takes a thunk -/
namespace Sea
open PySem PySem.Spec PyProof.Rows L2 LamX NdefX
theorem vals_at {xs : List V} {us : List Value} {i : Nat} {u : Value} (r : Vals xs us) (h : us[i]? = some u) : ∃ x, xs[i]? = some x ∧ RelV x u := by
  cases e : xs[i]? with
  | none =>
    rw [r.none_of e] at h
    cases h
  | some x =>
    obtain ⟨u', h', ru⟩ := r.get e
    rw [h] at h'
    cases h'
    exact ⟨x, rfl, ru⟩
def listSt (it a : Addr) (xs : List V) (i : Nat) (h : Heap) : Prop := h.IsListIter it a i ∧ ∃ items : Array Value, h.IsList a items ∧ Vals xs items.toList
theorem goes_listV {prog : Program} {w : World} {A : Around} {target : Expr} (hh : A.handled = none) (it a : Addr) (hne : a ≠ it) (xs : List V) :
    Goes prog w A target it [it, a] [it] xs.length (fun i v _ => ∃ x, xs[i]? = some x ∧ RelV x v) (listSt it a xs) := by
  refine ⟨fun b hb => by simp at hb; simp [hb], ?_, ?_, ?_, ?_⟩
  · rintro i h h' ⟨⟨o, ho, ro⟩, items, ⟨o2, ho2, ro2⟩, rv⟩ hk
    exact ⟨⟨o, hk it (by simp) o ho, ro⟩, items, ⟨o2, hk a (by simp) o2 ho2, ro2⟩, rv⟩
  · rintro i s Q E hi ⟨hit, items, hl, rv⟩ hQ
    have sz : items.size = xs.length := by
      have := rv.length
      rw [Array.length_toList] at this
      exact this.symm
    refine (Goes.list (prog := prog) (w := w) (target := target) hh it a hne items).goes i s Q E (by rw [sz]; exact hi) ⟨hit, hl⟩ ?_
    intro v h' tk hY hSt hk htk
    exact hQ v h' tk (vals_at rv (by simpa using hY)) ⟨hSt.1, items, hSt.2, rv⟩ hk htk
  · rintro s Q E ⟨hit, items, hl, rv⟩ hQ
    have sz : items.size = xs.length := by
      have := rv.length
      rw [Array.length_toList] at this
      exact this.symm
    refine (Goes.list (prog := prog) (w := w) (target := target) hh it a hne items).stops s Q E ⟨by rw [sz]; exact hit, hl⟩ hQ
  · rintro i s Q E ⟨hit, items, hl, rv⟩ hQ
    exact (Goes.list (prog := prog) (w := w) (target := target) hh it a hne items).self i s Q E ⟨hit, hl⟩ hQ
theorem clo_none {cells : List (Str × Addr)} : ∀ {names : List (Str × NameKind)} {acc : List (Str × Addr)}, (∀ y ∈ names, y.2 ≠ .free) → cloFrom cells names acc = acc
  | [], acc, _ => rfl
  | (n, k) :: r, acc, h => by
    have hk : (k == NameKind.free) = false := by
      have := h (n, k) List.mem_cons_self
      cases k <;> first | rfl | exact absurd rfl this
    unfold cloFrom
    rw [hk]
    exact clo_none fun y hy => h y (List.mem_cons_of_mem _ hy)
/-- a block whose names are its own locals and globals -/
structure PlainBlk (scope : Scope) : Prop where
  kind : scope.kind = .function
  nm : ∀ y ∈ scope.names, y.2 = .local ∨ y.2 = .globalImplicit
  uq : ∀ y ∈ scope.names, y.2 = .local → scope.names.lookup y.1 = some .local
theorem PlainBlk.noFree {scope : Scope} (b : PlainBlk scope) : ∀ y ∈ scope.names, y.2 ≠ .free := fun y hy e => by
  rcases b.nm y hy with h | h <;> rw [h] at e <;> cases e
theorem PlainBlk.noCell {scope : Scope} (b : PlainBlk scope) : ∀ y ∈ scope.names, y.2 ≠ .cell := fun y hy e => by
  rcases b.nm y hy with h | h <;> rw [h] at e <;> cases e
def plainBlkB (scope : Scope) : Bool := decide (scope.kind = .function) && scope.names.all (fun y => decide (y.2 = .local) || decide (y.2 = .globalImplicit)) && scope.names.all fun y => !decide (y.2 = .local) || decide (scope.names.lookup y.1 = some .local)
theorem plainBlk_by {scope : Scope} (h : plainBlkB scope = true) : PlainBlk scope := by
  unfold plainBlkB at h
  simp only [Bool.and_eq_true, Bool.or_eq_true, Bool.not_eq_true', decide_eq_true_eq, decide_eq_false_iff_not, List.all_eq_true] at h
  exact ⟨h.1.1, h.1.2, fun y hy e => (h.2 y hy).elim (fun z => absurd e z) id⟩
section
variable {X : Cx} {pins : List (Addr × Obj)} {σ : L2.St} {H : Hp} {s : Shared}
theorem PlainBlk.kindOf {scope : Scope} {C : Addr} (b : PlainBlk scope) {y : Str} {k : NameKind} (h : (compEnvC scope [] C X.env).kindOf y = some k) : k = .local ∨ k = .globalImplicit := by
  have h' : (relS scope X.env.scope).names.lookup y = some k := h
  obtain ⟨k', e, r⟩ := lookup_relS h'
  have hk := b.nm _ (PySem.mem_of_lookup e)
  rcases r with rfl | ⟨rfl, _⟩
  · exact hk
  · rcases hk with z | z <;> cases z
theorem blk_inv {scope : Scope} {C : Addr} {h3 : Heap} {tk : Nat} (I : Inv X pins σ H s) (hc : X.calm = true) (b : PlainBlk scope) (nC : s.heap.objs.size ≤ C) (kp : ∀ b o, s.heap.get? b = some o → h3.get? b = some o) (hns : h3.Ns C fun _ => none) :
    Inv (X.blk s H scope (compEnvC scope [] C X.env) []) [] (List.replicate X.N.length none) H { s with heap := h3, toks := tk } := by
  have nocell : ∀ x c, ([] : List (Str × Addr)).lookup x = some c → False := fun x c e => by simp at e
  have okB : (X.blk s H scope (compEnvC scope [] C X.env) []).Ok := by
    refine ⟨I.ok.mod, b.kind, I.ok.glob, I.ok.blt, nC, fun x y c e _ => (nocell x c e).elim, fun y hy => ?_, fun y c _ e => (nocell y c e).elim, I.ok.hd, I.ok.frames, .inl rfl, fun q hq => absurd hq (by simp), I.bs, Nat.le_trans I.ok.bsz I.sz, fun _ _ _ => by simp, fun q hq => absurd hq (by simp), I.stack, I.stkFree⟩
    exfalso
    rcases hy with hy | hy
    · rcases b.kindOf (X := X) hy with z | z <;> cases z
    · rcases b.kindOf (X := X) hy with z | z <;> cases z
  refine ⟨okB, rfl, I.bare, Un.kept kp, ⟨_, hns, fun i x v _ e _ => ?_⟩, fun x c e => (nocell x c e).elim, I.hok.fresh nC, fun x c e => (nocell x c e).elim, fun p hp => absurd (show p ∈ ([] : List (Addr × Obj)) ++ [] from hp) (by simp), I.hok.kept kp, by simp⟩
  exfalso
  have : (List.replicate X.N.length (none : Option V))[i]? = some (some v) := e
  rw [List.getElem?_replicate] at this
  split at this <;> cases this
end
/-- the reading of the rest r of the list, acc made so far; the list of lambdas stands at a throughout -/
def gAll (X : Cx) (CXl : CXT) (j : Nat) (sp : (Hp → VK → XK → Prop) → Hp → VK → XK → Prop) (σ : L2.St) (a : Addr) (xs : List V) (Q : VK) : List V → List V → Hp → Prop
  | [], acc, H => SqL X.K H a xs ∧ ∀ D, H D = none → Q (.ref D) (upd H D (.lst acc))
  | v :: r, acc, H => SqL X.K H a xs ∧ ∃ (f : Addr) (F : LF) (fr : List Str) (js : List Nat) (lsp : TSp), v = .ref f ∧ LOk X.prog X.w X.K X.mg X.base CXl j f F fr lsp ∧
    H f = some (LamO f F) ∧ H F.c = some (CodeO F.c F.qual) ∧ DvOk F H ∧ (X.Ok → Caps X F.cl fr js) ∧ sp (lsp (js.map (slotAt σ))) H (fun y H2 => gAll X CXl j sp σ a xs Q r (acc ++ [y]) H2) fun _ _ _ => False
theorem gAll_list {X : Cx} {CXl : CXT} {j : Nat} {sp : (Hp → VK → XK → Prop) → Hp → VK → XK → Prop} {σ : L2.St} {a : Addr} {xs : List V} {Q : VK} {r acc : List V} {H : Hp} (h : gAll X CXl j sp σ a xs Q r acc H) : SqL X.K H a xs := by
  cases r with
  | nil => exact h.1
  | cons v r => exact h.1
def tLcT (X : Cx) (CXl : CXT) (j : Nat) (sp : (Hp → VK → XK → Prop) → Hp → VK → XK → Prop) (te : TE) : TE := fun σ H Q => te σ H fun v H1 => ∃ (a : Addr) (xs : List V), v = .ref a ∧ xs.length ≤ 1000 ∧ gAll X CXl j sp σ a xs Q xs [] H1
section
variable {X : Cx} {CXl : CXT} {i k j : Nat} {x g : Str} {gA : Addr} {sp : (Hp → VK → XK → Prop) → Hp → VK → XK → Prop} {scope : Scope} {iter : Expr} {te : TE} {px px2 pg pp pos : Pos}
theorem pe_lcT (G : FnS X.prog X.w X.K X.mg X.base CX0 CXl k j gA sp) (hc : X.calm = true) (hfn : X.fn = fun _ => true) (hN : X.N.Nodup) (hi : X.N[i]? = some x) (b : PlainBlk scope) (hx : scope.names.lookup x = some .local) (hg : scope.names.lookup g = some .globalImplicit)
    (hm : X.mg g = some (.ref gA)) (hk : PySem.W.keepIn X.K (.ref gA) = true) (hr : Room k X.A) (he : PE X iter te) (hdb : (g == ("__debug__" : Str)) = false := by decide) (hdx : (x == ("__debug__" : Str)) = false := by decide)
    (hs : ∀ y, foldedSetIterable iter X.env y = pure y := by intro _; rfl) :
    PE X (.ListComp (.Call (.Name g pg) [.Name x px] [] pp) [⟨.Name x px2, iter, [], 0⟩] scope pos) (tLcT X CXl j sp te) := by
  refine ⟨fun pins s σ H Q I h => ?_⟩
  have hclos : closureFor scope X.env = pure [] := by
    rw [closure_ok (fun y hy e => absurd e (b.noFree y hy)), clo_none b.noFree]
  refine ListComp_goes hclos b.noCell b.kind b.uq ?_ hs
  refine thn (he.run pins s σ H _ I h) fun u s1 hh => ?_
  obtain ⟨v, H1, I1, rv, a, xs, ev, hlen, hga⟩ := hh
  subst ev
  obtain rfl : u = Value.ref a := rv
  obtain ⟨its, ri, ⟨o, n, ho, hcl, _, hd⟩, _⟩ := I1.list (gAll_list hga)
  refine wpAny_pyIter_list (items := its.toArray) ⟨o, ho, hcl, n, hd⟩ ?_
  have hit : a ≠ s1.heap.objs.size := Nat.ne_of_lt (Heap.lt_size ho)
  generalize hsi : s1.heap.objs.size = it at hit ⊢
  refine ⟨it, [it, a], [it], xs.length, _, _, rfl, goes_listV (I1.ok.hd hc) it a hit xs, Nat.le_trans hlen (by decide), ?_, ?_, ?_⟩
  · refine ⟨⟨({ cls := .type "list_iterator", data := .fields #[.ref a, .int 0 0] } : Obj), ?_, rfl, rfl⟩, its.toArray, ⟨o, Heap.get?_push_of_some _ ho, hcl, n, hd⟩, by simpa using ri⟩
    rw [← hsi]
    exact Heap.get?_push_size _ rfl
  · intro q hq
    show q < (s1.heap.push _).objs.size
    rw [Heap.size_push, hsi]
    rcases List.mem_cons.mp hq with rfl | hq
    · exact Nat.lt_succ_self _
    · rw [List.mem_singleton.mp hq, ← hsi]
      exact Nat.lt_succ_of_lt (Heap.lt_size ho)
  · intro D C s3 hB
    obtain ⟨⟨h3, tk3, rfl⟩, old, nD, nC, hDC, hnm⟩ := hB
    have nD' : it + 1 ≤ D := by
      have z : (s1.heap.push ({ cls := .type "list_iterator", data := .fields #[.ref a, .int 0 0] } : Obj)).objs.size ≤ D := nD
      rw [Heap.size_push, hsi] at z
      exact z
    have nC' : it + 1 ≤ C := by
      have z : (s1.heap.push ({ cls := .type "list_iterator", data := .fields #[.ref a, .int 0 0] } : Obj)).objs.size ≤ C := nC
      rw [Heap.size_push, hsi] at z
      exact z
    have sD : s1.heap.objs.size ≤ D := by rw [hsi]; exact Nat.le_of_succ_le nD'
    have sC : s1.heap.objs.size ≤ C := by rw [hsi]; exact Nat.le_of_succ_le nC'
    have sI : s1.heap.objs.size ≤ it := Nat.le_of_eq hsi
    have hDI : D ≠ it := Nat.ne_of_gt nD'
    have hCI : C ≠ it := Nat.ne_of_gt nC'
    have kp : ∀ q u, s1.heap.get? q = some u → h3.get? q = some u := fun q u e => old q u (Heap.get?_push_of_some _ e)
    have fsN : ∀ {q : Addr}, s1.heap.objs.size ≤ q → q ∉ frs X.stack := fun {q} hq z => by
      rcases List.mem_cons.mp (I1.stkSub q z) with z | z
      · exact absurd (Nat.lt_of_lt_of_le I1.lt (z ▸ hq)) (Nat.lt_irrefl _)
      · exact I1.nofs hq z
    generalize hXb : X.blk s1 H1 scope (compEnvC scope [] C X.env) [] = Xb
    have I3 : Inv Xb [] (List.replicate X.N.length none) H1 { s1 with heap := h3, toks := tk3 } := by
      rw [← hXb]
      exact blk_inv I1 hc b sC kp hnm
    have nfree : H1 D = none ∧ H1 it = none := ⟨I1.hok.fresh sD, I1.hok.fresh sI⟩
    have eN : Xb.N = X.N := by rw [← hXb]
    have eL : Xb.env.locals = C := by rw [← hXb]; rfl
    have eS : Xb.s_0 = s1 := by rw [← hXb]
    have eCl : Xb.env.cells = [] := by rw [← hXb]; rfl
    have eFs : Xb.fs = frs X.stack := by rw [← hXb]
    have ePn : Xb.pn = [] := by rw [← hXb]
    refine ⟨fun m ys s4 => ∃ (H4 : Hp) (acc : List V), Inv Xb [] (List.replicate X.N.length none) H4 s4 ∧ Vals acc ys ∧ acc.length = m ∧ H4 D = none ∧ H4 it = none ∧ gAll X CXl j sp σ a xs Q (xs.drop m) acc H4,
      ⟨H1, [], I3, .nil, rfl, nfree.1, nfree.2, hga⟩, ?_, ?_, ?_⟩
    · -- D and the iterator may change
      rintro m ys s4 h' tk ⟨H4, acc, I4, ra, la, fD, fI, q4⟩ hk' _
      refine ⟨H4, acc, ?_, ra, la, fD, fI, q4⟩
      have ne : ∀ {c : Addr} {u : HO}, H4 c = some u → c ∉ [D, it] := fun {c u} e z => by
        rcases List.mem_cons.mp z with z | z
        · rw [z, fD] at e; cases e
        · rw [List.mem_singleton.mp z, fI] at e; cases e
      have nC4 : C ∉ [D, it] := fun z => by
        rcases List.mem_cons.mp z with z | z
        · exact hDC z.symm
        · exact hCI (List.mem_singleton.mp z)
      refine I4.step (g' := s4.gens) (d' := s4.drawn) (t' := tk) (ch := [D, it]) (fun q hq => ⟨.inr ?_, ?_, fun y c e => ?_, fun p hp => ?_⟩) (fun q o _ _ hq e _ => hk' q o hq e) (fun q o _ _ hq e _ => ⟨o.slots, hk' q o hq e⟩) (fun _ _ _ _ z => z) (fun q o hq e => ⟨o, hk' q o hq e⟩)
        (fun _ _ e => e) (fun _ _ _ e => e) (fun q ps e => ⟨#[], by rw [e]; simp⟩) (fun mm hm4 => ?_) (fun q u e => (I4.hok q u e).stay (fun c v hc2 z => hk' c v (by
          rcases hc2 with hc2 | hc2
          · rw [hc2]
            exact ne e
          · exact ne hc2) z) (fun _ z => z) fun _ _ z => z) I4.bare
      · rw [eS]
        rcases List.mem_cons.mp hq with z | z
        · rw [z]; exact sD
        · rw [List.mem_singleton.mp z]; exact sI
      · rw [eL]
        exact fun z => nC4 (z ▸ hq)
      · rw [eCl] at e
        simp at e
      · rw [ePn] at hp
        simp at hp
      · obtain ⟨o5, es, ep, e5, r5⟩ := hm4
        rw [eL] at e5 ⊢
        exact ⟨o5, es, ep, hk' C o5 nC4 e5, r5⟩
    · -- one turn
      rintro m u ys s4 hm4 ⟨xv, hxv, rxv⟩ hSt ⟨H4, acc, I4, ra, la, fD, fI, q4⟩ hPL
      have hdrop : xs.drop m = xv :: xs.drop (m + 1) := by
        obtain ⟨hlt, e⟩ := List.getElem?_eq_some_iff.mp hxv
        rw [List.drop_eq_getElem_cons hlt, e]
      rw [hdrop] at q4
      obtain ⟨_, f, F, fr, js, lsp, ef, L, hf, hco, hdv, cp, q5⟩ := q4
      subst ef
      obtain rfl : u = Value.ref f := rxv
      obtain ⟨⟨oi, hoi, hoc, hod⟩, _⟩ := hSt
      obtain ⟨nD4, hoD⟩ := hPL
      have Ip : Inv Xb [(it, oi), (D, ({ cls := .type "list", data := .seq ys.toArray nD4 } : Obj))] (List.replicate X.N.length none) H4 s4 := by
        refine I4.pins_of fun p hp => ?_
        rcases List.mem_cons.mp hp with rfl | hp
        · refine ⟨hoi, fI, by rw [eL]; exact Ne.symm hCI, by rw [eFs]; exact fsN sI, fun v z => ?_⟩
          rw [hod] at z
          cases z
        · rw [List.mem_singleton.mp hp]
          exact ⟨hoD, fD, by rw [eL]; exact hDC, by rw [eFs]; exact fsN sD, fun v z => by cases z⟩
      have hlocB : Xb.env.scope.names.lookup x = some .local := by rw [← hXb]; exact lookup_relabel_local hx
      have hEnv : compEnvC scope [] C X.env = Xb.env := by rw [← hXb]
      have hprog : Xb.prog = X.prog := by rw [← hXb]
      have hw : Xb.w = X.w := by rw [← hXb]
      have hAA : Xb.A = X.A := by rw [← hXb]
      have hst : Xb.stack = X.stack := by rw [← hXb]
      have hmgB : Xb.mg = X.mg := by rw [← hXb]
      have hKB : Xb.K = X.K := by rw [← hXb]
      have hbB : Xb.base = X.base := by rw [← hXb]
      have hglB : Gl Xb g := by
        have key := lookup_relS_keep (sc := X.env.scope) (by intro z; cases z) hg
        rw [← hXb]
        exact key
      have eX : Xb.ex = [] := by rw [← hXb]
      have eH : Xb.H_0 = H1 := by rw [← hXb]
      have cpX := cp I.ok
      have C0 : CellsAt F.cl fr (js.map (slotAt σ)) Xb.s_0.heap Xb.H_0 := by
        rw [eS, eH]
        exact cells_of I1 cpX
      have nf : ∀ y c, F.cl.lookup y = some c → c ∉ frs X.stack := fun y c e z => by
        have e' := cpX.sub y c e
        rcases List.mem_cons.mp (I1.stkSub c z) with z | z
        · exact I1.cne y c e' z
        · have h1 := I1.ok.cab y c (by rw [hfn]) e'
          obtain ⟨_, ob, hob, _⟩ := I1.ok.funs.mem z
          exact absurd (Nat.lt_of_lt_of_le (Heap.lt_size hob) h1) (Nat.lt_irrefl _)
      rw [hEnv, ← hAA, ← hprog, ← hw]
      refine wpAny_assign_Name (store_ok Ip (by rw [eN]; exact hN) (by rw [eN]; exact hi) (.inl hlocB) (v := V.ref f) rfl (fun s5 I5 => ?_) (.inr hlocB))
      refine wpAny_tests_nil ?_
      rw [if_pos rfl]
      have hsl : (List.replicate X.N.length (none : Option V)).set i (some (.ref f)) = (List.replicate X.N.length (none : Option V)).set i (some (.ref f)) := rfl
      have hiN : i < X.N.length := (List.getElem?_eq_some_iff.mp hi).1
      have hget : ((List.replicate X.N.length (none : Option V)).set i (some (.ref f)))[i]? = some (some (.ref f)) := List.getElem?_set_self (by simpa using hiN)
      refine wpAny_Call_Name_kw (ld_glob (X := Xb) I5 hglB (by rw [hmgB]; exact hm) ?_ hdb)
      have hkB : PySem.W.keepIn Xb.K (.ref gA) = true := by rw [hKB]; exact hk
      obtain ⟨mm, hnsB, hlk⟩ := I5.loc
      obtain ⟨uu, ru, lk⟩ := hlk i x (.ref f) (by rw [eN]; exact hi) hget (.inl hlocB)
      obtain rfl : uu = Value.ref f := ru
      have hmm : mm x = some (.ref f) := by
        rcases lk with ⟨_, z⟩ | ⟨z, _⟩
        · exact z
        · have z' : Xb.env.scope.names.lookup x = some .cell ∨ Xb.env.scope.names.lookup x = some .free := z
          rw [hlocB] at z'
          rcases z' with z' | z' <;> cases z'
      refine PySem.W.callWith_K (h₀ := Xb.base) I5.ok.mod.kin hkB (Calls.spliced_cons (wpAny_Name (wpAny_loadName_local I5.ok.kind hlocB hnsB hmm (Calls.spliced_nil ⟨I5.kIn, ?_⟩)) hdx)) rfl rfl
      show wpAny _ _ (call (.ref gA) [.ref f]) _ _ _
      have C5 : CellsAt F.cl fr (js.map (slotAt σ)) s5.heap H4 := C0.later (fun y c e => by rw [eFs]; exact nf y c e) (fun y c e z => by rw [eX] at z; cases z) I5
      have TH : Thunk X.prog X.w X.K X.mg X.base CXl j X.stack s5 H4 f (lsp (js.map (slotAt σ))) := ⟨F, fr, _, lsp, L, hf, hco, hdv, C5, nf, rfl⟩
      have e5 := I5.env0
      rw [hprog, hw, hKB, hmgB, hbB, hAA, hst] at e5
      refine wpAny_call (codeAny_mono (hprog ▸ hw ▸ hAA ▸ G X.A X.stack s5 H4 f _ _ (fun _ _ _ => False) hr e5 TH q5) fun r s6 hq => ?_)
      cases r with
      | error e => exact False.elim hq
      | ok fl =>
        cases fl with
        | next => exact False.elim hq
        | brk => exact False.elim hq
        | cont => exact False.elim hq
        | ret z =>
          have hq' : CE Xb.stack Xb.prog Xb.w H4 s5 (fun y H2 => gAll X CXl j sp σ a xs Q (xs.drop (m + 1)) (acc ++ [y]) H2) z s6 := by rw [hst]; exact hq
          obtain ⟨y, H6, I6, ry, q6⟩ := I5.after hq'
          have p1 := I6.pin (it, oi) (List.mem_append_right _ List.mem_cons_self)
          have p2 := I6.pin (D, ({ cls := .type "list", data := .seq ys.toArray nD4 } : Obj)) (List.mem_append_right _ (List.mem_cons_of_mem _ List.mem_cons_self))
          obtain ⟨its6, ri6, ⟨o6, n6, ho6, hc6, _, hd6⟩, _⟩ := I6.list (by rw [hKB]; exact gAll_list q6)
          refine ⟨⟨H6, acc ++ [y], ?_, ra.append (.cons ry .nil), by rw [List.length_append, la]; rfl, p2.2.1, p1.2.1, q6⟩, ⟨⟨oi, p1.1, hoc, hod⟩, its6.toArray, ⟨o6, ho6, hc6, n6, hd6⟩, by simpa using ri6⟩, ⟨nD4, p2.1⟩⟩
          refine (I6.pins_of (pins' := []) (fun p hp => absurd hp (by simp))).weak (by simp) fun ii v e => ?_
          rw [List.getElem?_replicate] at e
          split at e <;> cases e
    · -- the end
      rintro ys s4 ⟨H4, acc, I4, ra, la, fD, fI, q4⟩ ⟨nD4, hoD⟩
      obtain ⟨mC, hnC, _⟩ := I4.loc
      rw [eL] at hnC
      refine ⟨mC, hnC, fun h5 sb => ?_⟩
      rw [List.drop_length] at q4
      have hgt : ∀ q u, q ≠ C → s4.heap.get? q = some u → h5.get? q = some u := fun q u hq e => (sb.2 q hq).trans e
      have fC : H4 C = none := by have z := I4.free; rw [eL] at z; exact z
      have ub := I4.base
      have uo := I4.os
      have hk4 := I4.hok
      rw [eFs, eS] at ub
      have eH : Xb.H_0 = H1 := by rw [← hXb]
      have eX : Xb.ex = [] := by rw [← hXb]
      rw [eH, eX] at ub
      rw [eS] at uo
      have hprog : Xb.prog = X.prog := by rw [← hXb]
      have hw : Xb.w = X.w := by rw [← hXb]
      rw [hprog, hw] at hk4
      have neS : ∀ {q : Addr} {u : Obj}, s1.heap.get? q = some u → q ≠ C ∧ q ≠ D := fun {q u} e => ⟨Nat.ne_of_lt (Nat.lt_of_lt_of_le (Heap.lt_size e) sC), Nat.ne_of_lt (Nat.lt_of_lt_of_le (Heap.lt_size e) sD)⟩
      have lenA : acc.length ≤ 1000 := by rw [la]; exact hlen
      have U : Un (frs X.stack) [] H1 (upd H4 D (.lst acc)) s1.heap h5 := {
        keep := fun q u e nq hf hx2 => hgt q u (neS e).1 (ub.keep q u e nq hf hx2)
        slot := fun q u e nq hf hx2 => by
          obtain ⟨sl, z⟩ := ub.slot q u e nq hf hx2
          exact ⟨sl, hgt q _ (neS e).1 z⟩
        free := fun q u e nq hx2 => by rw [upd_ne (neS e).2]; exact ub.free q u e nq hx2
        there := fun q u e hx2 => by
          obtain ⟨u', z⟩ := ub.there q u e hx2
          exact ⟨u', hgt q _ (neS e).1 z⟩
        tups := fun q ys2 e => by
          have z := ub.tups q ys2 e
          rw [upd_ne (ne_of_none z fD)]
          exact z
        frzs := fun q o2 u e => by
          have z := ub.frzs q o2 u e
          rw [upd_ne (ne_of_none z fD)]
          exact z
        tbls := fun q ps e => by
          obtain ⟨more, z⟩ := ub.tbls q ps e
          exact ⟨more, by rw [upd_ne (ne_of_none z fD)]; exact z⟩ }
      have hok5 : HOk X.prog X.w (upd H4 D (.lst acc)) h5 := fun q u e => by
        by_cases hq : q = D
        · subst hq
          rw [upd_same] at e
          cases e
          exact ⟨Nat.le_trans lenA (by decide), ys, nD4, ra, hgt q _ hDC hoD⟩
        · rw [upd_ne hq] at e
          refine (hk4 q u e).stay (fun c v hc2 z => hgt c v (fun zc => ?_) z) (fun c z => by rw [upd_ne (ne_of_none z fD)]; exact z) fun c zs z => by rw [upd_ne (ne_of_none z fD)]; exact z
          rcases hc2 with hc2 | hc2
          · rw [← hc2, zc, fC] at e
            cases e
          · rw [zc, fC] at hc2
            cases hc2
      have J : Inv X pins σ (upd H4 D (.lst acc)) { s4 with heap := h5 } := I1.call' (ch := []) uo U hok5 I4.bare fun q hq => absurd hq (by simp)
      exact ⟨.ref D, _, J, rfl, q4.2 D fD⟩
end
end Sea

set_option Elab.async false
set_option linter.all false
set_option maxRecDepth 100000
set_option maxHeartbeats 4000000
/-! an own exception class called with keywords alone: C(k = v, ..) -/
namespace Sea
open PySem PySem.Spec PyProof.Rows PySem.HandSPX
/-- in h the class C is one of errors over ValueError: what it inherits, by the built-in names -/
structure ErrAt (h : Heap) (C : Addr) : Prop where
  ex : ∃ nm q N bs bm sn sub ab col dd k0 k1 k2 k3 k5, h.get? C = some (excClassObj nm q C N bs bm true sn sub ab col dd k0 k1 k2 k3 k5 "ValueError.__new__") ∧ refsVE bm = true
theorem ErrAt.over {bm : List Value} (C : Addr) (h : refsVE bm = true) (X : String) : (Value.ref C :: bm).contains (.type X) = veTail.contains (.type X) :=
  (List.contains_cons).trans ((Bool.false_or _).trans (refsVE_contains X bm h))
/-- the heap in which the error stands, its arguments empty -/
abbrev born (C : Addr) (h : Heap) : Heap := (h.push (W.kdv_tup [])).push (excO C h.objs.size)
theorem born_old {C : Addr} {h : Heap} : ∀ b o, h.get? b = some o → (born C h).get? b = some o := fun _ _ z => Heap.get?_push_of_some _ (Heap.get?_push_of_some _ z)
theorem born_new {C : Addr} {h : Heap} : (born C h).get? (h.objs.size + 1) = some (excO C h.objs.size) := by
  rw [← Heap.size_push h (o := W.kdv_tup [])]
  exact Heap.get?_push_size _ rfl
section
variable {prog : Program} {w : World} {A : Around} {R : Result → Shared → Prop} {s : Shared} {C : Addr} {kw : List (Str × Value)}
/-- ValueError.__new__(C, k = v, ..) -/
theorem err_born (T : ErrAt s.heap C) (q : R (.ok (.ret (.ref (s.heap.objs.size + 1)))) { s with heap := born C s.heap }) : codeAny (model prog w) A (.call (.builtin "ValueError.__new__") ⟨[.ref C], kw⟩) R s := by
  obtain ⟨nm, qn, N, bs, bm, sn, sub, ab, col, dd, k0, k1, k2, k3, k5, at_, ve⟩ := T.ex
  have V := F.excBase_ValueError
  have yes : (Value.ref C :: bm).contains (.type "ValueError") = true := ErrAt.over C ve _
  have no1 : (Value.ref C :: bm).contains (.type "AttributeError") = false := ErrAt.over C ve _
  have no2 : (Value.ref C :: bm).contains (.type "NameError") = false := ErrAt.over C ve _
  have tail := V.ends
  have star := V.noStar
  obtain ⟨hp, g, d, t, os⟩ := s
  apply codeAny_call_builtin_code (Code.quiet_builtin _ V.quiet)
  simp only [checkBuiltinCall, V.newKind, V.newSplit, V.newRow]
  repeat (first
    | (refine wpAny_isSubtype_exc at_ ?_; rw [yes])
    | refine wpAny_loadPart_at at_ ?_
    | refine wpAny_madeBy_exc at_ ?_
    | refine wpAny_staticBase_exc at_ ?_
    | simp only [bne_self_eq_false, Bool.false_eq_true, if_false]
    | wp_step)
  apply codeAny_builtinAt V.entry
  unfold Builtin.«BaseException.__new__»
  refine PySem.wpAt_bind ?_
  refine PySem.wpAt_bind (m := stack) (PySem.wpAt_stack ?_)
  intro p below
  refine PySem.wpAt_of_wpAny ?_
  wp_walk
  refine PySem.wpAt_of_wpAny ?_
  rw [V.owner]
  repeat (first
    | (with_reducible refine wpAny_isSubtype_exc at_ ?_; simp only [yes, no1, no2])
    | with_reducible refine wpAny_loadPart_at at_ ?_
    | with_reducible refine wpAny_madeHere_exc V.canon at_ ?_
    | wp_step)
  exact (Heap.size_push hp (o := W.kdv_tup [])).symm ▸ q
/-- C(k = v, ..): the error is born, then its class's def __init__ has it -/
theorem err_call {fI : Addr} (T : ErrAt s.heap C) (ini : W.Looks (model prog w) s.heap (typeLookup (.ref C) "__init__") (some (.ref fI))) (bnd : ∀ self, W.Looks (model prog w) s.heap (bindSpecial (.ref fI) self) (.ref fI, [self]))
    (q : codeAny (model prog w) (A.under (.builtin "type.__call__" ⟨[.ref C], kw⟩)) (.call (.ref fI) ⟨[.ref (s.heap.objs.size + 1)], kw⟩) (W.InitBack (s.heap.objs.size + 1) R) { s with heap := born C s.heap }) :
    codeAny (model prog w) A (.call (.ref C) ⟨[], kw⟩) R s := by
  have ⟨nm, qn, N, bs, bm, sn, sub, ab, col, dd, k0, k1, k2, k3, k5, at_, ve⟩ := T.ex
  have isC : (Value.ref C :: bm).contains (.ref C) = true := by simp
  have isTy : s.TypeIs (.ref C) "type" := ⟨_, at_, rfl⟩
  have dunder := tc_lookup
  have bound := tc_bind (.ref C)
  have tsub := tc_sub
  have ini' := ini.keeps (born_old (C := C))
  have bnd' := (bnd (.ref (s.heap.objs.size + 1))).keeps (born_old (C := C))
  have at2 := born_old (C := C) _ _ at_
  have new2 := born_new (C := C) (h := s.heap)
  obtain ⟨hp, g, d, t, os⟩ := s
  dsimp only at at_ at2 new2 ini' bnd' q
  have quiet := Code.quiet_builtin (id := "type.__call__") ⟨[.ref C], kw⟩ (by decide +kernel)
  apply codeAny_of_tree
  show wpAny _ _ (callAny (.ref C) _) _ _ _
  repeat (any_goals (first | assumption | with_reducible refine wpAny_loadPart_at at_ ?_ | wp_step))
  refine ⟨rfl, codeAny_call_builtin_at quiet entry_typeCall ?_⟩
  simp only [checkBuiltinCall, tc_kind, tc_split]
  unfold Builtin.«type.__call__»
  repeat (any_goals (first
    | assumption
    | with_reducible refine wpAny_loadPart_at at_ ?_
    | with_reducible refine wpAny_onRaise ?_
    | with_reducible refine wpAny_map ?_
    | with_reducible refine wpAny_madeBy_exc at_ ?_
    | wp_step))
  refine err_born (s := ⟨hp, g, d, t, os⟩) T ?_
  show wpAny _ _ _ _ _ _
  have i1 : (born C hp).get? (hp.objs.size + 1) = some (excO C hp.objs.size) := new2
  unfold isInstance
  repeat (first
    | with_reducible refine wpAny_loadPart_at new2 ?_
    | (with_reducible refine wpAny_isSubtype_exc at2 ?_; rw [isC])
    | wp_step)
  show wpAny _ _ (typeLookup (.ref C) "__init__") _ _ ⟨born C hp, g, d, t, os⟩
  refine ini'.at ?_
  refine wpAny_holding (wpAny_bind (bnd'.at (wpAny_bind (wpAny_call ?_))))
  refine codeAny_mono q fun r s2 z => ?_
  match r, z with
  | .error _, z => exact z
  | .ok (.ret _), ⟨e, z⟩ =>
    subst e
    exact wpAny_pure (wpAny_pure z)
  | .ok .next, z => exact z.elim
  | .ok .brk, z => exact z.elim
  | .ok .cont, z => exact z.elim
end
end Sea

set_option Elab.async false
set_option linter.all false
set_option maxRecDepth 100000
set_option maxHeartbeats 4000000
/-! raise C(k = v, ..), C an own exception class over another own one whose __init__ says P.__init__(self, text) and stores its keywords -/
namespace Sea
open PySem PySem.Spec PyProof.Rows L2 LamX NdefX ClX
/-- C(k = v, ..) -/
def tMkK (C : Addr) (n : Nat) (sp : Sp) (gV : List V → List V → List V) (tk : TA) : L2.St → Hp → XK → Prop := fun σ H Q => tk σ H fun zs H1 => zs.length = n ∧ ∀ a, H1 a = none → sp (gV [.ref a] zs) (upd H1 a (exo a C none))
  (fun v H2 => v = .non ∧ ∃ (d : Addr) (fs : List (Str × V)), H2 a = some (exo a C (some d)) ∧ H2 d = some (exd d fs) ∧ H1 d = none ∧ Q (.ref C) (some d) (upd (del H2 a) d (.xd fs))) (fun _ _ _ => False)
section
variable {X : Cx} {e : Expr} {es : List Expr} {ta : TA} {p p1 p2 pos : Pos} {kws : List Keyword} {tk : TA} {ks : List Str} {g : List Value → List Value → List Value} {gV : List V → List V → List V}
theorem pe_pinit {x : Str} {B : Addr} {mc : Value} {pl : Sem Bool} (hg : Gl X x) (hm : X.mg x = some (.ref B)) (rd : PySem.W.readsIn X.K B mc = true) (ga : PySem.W.specialIn X.K (.ref B) "__getattribute__" = some (some (.builtin "type.__getattribute__")))
    (hat : PySem.W.findCls X.K (.ref B) mc "__init__" = some (.val (.builtin "ValueError.__init__"))) (ha : PA X (e :: es) ta) (hdb : (x == ("__debug__" : Str)) = false := by decide)
    (hc : eval (.Call (.Attribute (.Name x p1) "__init__" p2) (e :: es) [] pos) X.env = (do
      let ov ← eval (.Name x p1) X.env
      standAt p2.atName
      let (f, first) ← holding [ov] (getMethod ov "__init__" pl)
      callWith pos f first (backTo pos (starEach (e :: es) X.env)) (backToKw pos (keywordEach [] X.env))) := by rfl)
    (he : starEach (e :: es) X.env = (false, eval e X.env) :: starEach es X.env := by rfl) (hpl : (backTo pos (starEach es X.env)).any (·.1) = false := by rfl) :
    PE X (.Call (.Attribute (.Name x p1) "__init__" p2) (e :: es) [] pos) (tVeI X.K ta) := by
  constructor
  intro pins s σ H Q I h
  apply PySem.W.methodCall_KW (ld_glob I hg hm (PySem.W.method_cls I.kIn ga (PySem.W.cls_value I.kIn rd hat (by decide +kernel) ?_)) hdb) hc
  have args := ha.run pos pins _ σ H _ (I.tok (s.toks + 1)) h
  show wpAny _ _ (callWith pos (Value.builtin "ValueError.__init__") [] (backTo pos (starEach (e :: es) X.env)) []) _ _ _
  refine PyProof.Rows.callWith_method1 (thn args ?_) he hpl
  rintro us s1 ⟨_, H1, J, rel, a, C, ws, rfl, few, T, ea, q⟩
  match us, rel with
  | u :: ur, .cons ra rr =>
    rw [show u = .ref a from ra]
    have short : ur.length ≤ sizeLine := by
      rw [sizeLine_eq, ← Paired.length rr]
      omega
    exact oinit_ok T J ea short fun s' L => ⟨.non, H1, L, rfl, q⟩
theorem pmk_kw {CX : CXT} {x : Str} {C fI : Addr} {k : Nat} {fd : FuncData} {ps : List Str} {sp : Sp} (T : OexC X.K C) (iC : PySem.W.findIn X.K (.ref C) "__init__" = some (some (.ref fI))) (tI : PySem.W.typeIn X.K (.ref fI) = some (.type "function"))
    (F1 : FnOk X.prog X.w X.K X.mg X.base CX k fI fd ps sp) (hr : Room (k + 1) X.A) (hb : KBn X.K fd ps 1 ks g gV) (hx : Passes CX X (fun _ _ _ => False)) (hg : Gl X x) (hm : X.mg x = some (.ref C)) (hkw : PK X kws tk)
    (hall : (backToKw pos (keywordEach kws X.env)).all (·.1.isSome) = true := by rfl) (hks : (backToKw pos (keywordEach kws X.env)).filterMap (·.1) = ks := by rfl) (hdb : (x == ("__debug__" : Str)) = false := by decide)
    (hpl : ((backTo pos (starEach [] X.env)).any (·.1) || (backToKw pos (keywordEach kws X.env)).any (·.1.isNone)) = false := by rfl) :
    PMk X (.Call (.Name x p) [] kws pos) (tMkK C ks.length sp gV tk) := by
  intro pins s σ H Q I h
  apply wpAny_Call_Name_kw
  apply ld_glob I hg hm ?_ hdb
  apply PySem.W.callWith_KW0 (h₀ := X.base) I.ok.mod.kin T.kC hall ?_ hpl
  refine thn (hkw.run pos pins s σ H _ I h) ?_
  rintro ws ⟨hp, g1, dr, tk', os⟩ ⟨zs, H1, J, rel, many, q⟩
  have err : ErrAt hp C := by
    obtain ⟨nm, qn, N, bs, bm, sn, sub, ab, col, dd, k0, k1, k2, k3, k5, at_, ve⟩ := T.cls
    exact ⟨nm, qn, N, bs, bm, sn, sub, ab, col, dd, k0, k1, k2, k3, k5, J.kIn _ _ at_, ve⟩
  have above : hp.objs.size ≤ hp.objs.size + 1 := Nat.le_succ _
  -- the invariant once the error stands in the heap
  have L : Inv X pins σ (upd H1 (hp.objs.size + 1) (exo (hp.objs.size + 1) C none)) ⟨born C hp, g1, dr, tk', os⟩ := J.laid (t' := tk') born_old above (exo_ok born_new)
  have ini := F1.run _ X.stack _ _ ⟨[.ref (hp.objs.size + 1)], ks.zip ws⟩ (g [.ref (hp.objs.size + 1)] ws) _ _ (fun _ _ _ => False) (hr.make C [] (ks.zip ws)) (L.env0.make C [] (ks.zip ws))
    (hb.to _ [.ref (hp.objs.size + 1)] ws L.kIn rfl (rel.length.symm.trans many)) (hb.rel (us := [.ref (hp.objs.size + 1)]) (vs := [.ref (hp.objs.size + 1)]) (.cons rfl .nil) rel) (q (hp.objs.size + 1) (J.hok.fresh above))
  rw [hks]
  refine ⟨J.kIn, wpAny_call (err_call err (PySem.W.looks_findIn J.kIn iC) (fun self => PySem.W.bind_fn J.kIn self tI) (codeAny_mono ini ?_))⟩
  intro r s' back
  match r, back with
  | .error er, back => exact hx pins σ _ _ er s' L back
  | .ok .next, back => exact back.elim
  | .ok .brk, back => exact back.elim
  | .ok .cont, back => exact back.elim
  | .ok (.ret _), ⟨_, H2, os2, bare, un, hok, rv, e, d, fs, ea, ed, hd1, q2⟩ =>
    subst e
    obtain ⟨h2, g2, d2, t2, os3⟩ := s'
    exact ⟨rv, mk_end (raises_own T.exC T.tyC) J above born_old un hok os2 bare ea ed hd1 q2⟩
end

/-! ### the __init__ of such a class: one keyword, two keywords -/
/-- the class facts that the body asks: its parent's __init__ is ValueError's -/
structure PIn (K : PySem.W.Frag) (mg : Str → Option Value) (x : Str) (B : Addr) (mc : Value) : Prop where
  gB : mg x = some (.ref B)
  rd : PySem.W.readsIn K B mc = true
  ga : PySem.W.specialIn K (.ref B) "__getattribute__" = some (some (.builtin "type.__getattribute__"))
  at_ : PySem.W.findCls K (.ref B) mc "__init__" = some (.val (.builtin "ValueError.__init__"))
def spX1 (K : PySem.W.Frag) (f : Str) : Sp := fun vs H Q _ => ∃ (a C : Addr) (y : V), vs = [.ref a, y] ∧ OexC K C ∧ PySem.W.findIn K (.ref C) f = some none ∧ H a = some (exo a C none) ∧
  ∀ dx, H dx = none → dx ≠ a → Q .non (upd (upd H dx (exd dx [(f, y)])) a (exo a C (some dx)))
def spX2 (K : PySem.W.Frag) (f g : Str) : Sp := fun vs H Q _ => ∃ (a C : Addr) (y z : V), vs = [.ref a, y, z] ∧ OexC K C ∧ PySem.W.findIn K (.ref C) f = some none ∧ PySem.W.findIn K (.ref C) g = some none ∧ H a = some (exo a C none) ∧
  ∀ dx, H dx = none → dx ≠ a → Q .non (upd (upd (upd H dx (exd dx [(f, y)])) a (exo a C (some dx))) dx (exd dx [(g, z), (f, y)]))
theorem gone_eq {H : Hp} {a d : Addr} {o : HO} {u w v : HO} (ha : H a = none) (hd : d ≠ a) : upd (del (upd (upd H d u) a o) a) d v = upd H d v := by
  funext b
  by_cases hb : b = d
  · subst hb
    rw [upd_same, upd_same]
  · rw [upd_ne hb, upd_ne hb]
    by_cases hba : b = a
    · subst hba
      rw [del_same, ha]
    · rw [del_ne hba, upd_ne hba, upd_ne hb]
theorem gone_eq2 {H : Hp} {a d : Addr} {o : HO} {u w v : HO} (ha : H a = none) (hd : d ≠ a) : upd (del (upd (upd (upd H d u) a o) d w) a) d v = upd H d v := by
  funext b
  by_cases hb : b = d
  · subst hb
    rw [upd_same, upd_same]
  · rw [upd_ne hb, upd_ne hb]
    by_cases hba : b = a
    · subst hba
      rw [del_same, ha]
    · rw [del_ne hba, upd_ne hb, upd_ne hba, upd_ne hb]
end Sea

set_option Elab.async false
set_option linter.all false
set_option maxRecDepth 100000
set_option maxHeartbeats 4000000
/-! enumerate over a tuple -/
namespace Sea
open PySem PySem.Spec PyProof.Rows L2
/-- enumerate(t), t the tuple at a: a new iterator over it, and a new cell that counts -/
structure EnumMade (a : Addr) (h h2 : Heap) : Prop where
  cell : IsEnum h2 (h.objs.size + 1) h.objs.size 0 .none
  iter : h2.IsTupleIter h.objs.size a 0
  old : ∀ b o, h.get? b = some o → h2.get? b = some o
theorem enumMade (a : Addr) (h : Heap) :
    EnumMade a h ((h.push { cls := .type "tuple_iterator", data := .fields #[.ref a, .int 0 0] }).push { cls := .type "enumerate", data := .fields #[.none, .bool false, .ref h.objs.size, rawInt 0, .none, .none] }) where
  cell := by
    show Heap.get? _ _ = _
    rw [← Heap.size_push h (o := { cls := .type "tuple_iterator", data := .fields #[.ref a, .int 0 0] })]
    exact Heap.get?_push_size _ rfl
  iter := ⟨_, Heap.get?_push_of_some _ (Heap.get?_push_size h rfl), rfl, rfl⟩
  old := fun _ _ z => Heap.get?_push_of_some _ (Heap.get?_push_of_some _ z)
theorem Sem_any {α : Type} {M : Model} {A : Around} {E : Value → Shared → Prop} {s : Shared} {v : α} {Q : α → Shared → Prop} (q : ∀ x, Q x s) : wpAny M A (pure v) Q E s := wpAny_pure (q v)
theorem new_enumT (a : Addr) (its : Array Value) :
    Meets (Builtin.«enumerate.__new__» ⟨[.type "enumerate", .ref a], []⟩) (fun _ R s => s.heap.IsTuple a its ∧ ∀ h2, EnumMade a s.heap h2 → R (.ok (.ret (.ref (s.heap.objs.size + 1)))) { s with heap := h2 }) := by
  apply Meets.of_wp
  intro prog w A R s z
  have ht := z.1
  have made := z.2
  have ready := sub_enumerate
  have got := made _ (enumMade a s.heap)
  rw [← Heap.size_push s.heap (o := { cls := .type "tuple_iterator", data := .fields #[.ref a, .int 0 0] })] at got
  have it : ∀ {B : Around} {Er T : Value → Shared → Prop}, T (.ref s.heap.objs.size) { s with heap := s.heap.push _ } → wpAny (model prog w) B (pyIter (.ref a)) T Er s := fun r => (begins_tuple a its).iter prog w _ _ s _ ht r
  wp_walk using it
  refine wpAny_stack_any fun stk => Sem_any fun short => ?_
  cases short <;> wp_walk using it <;> exact ⟨_, rfl, got⟩
theorem call_enumT {prog : Program} {w : World} {A : Around} {E Q : Value → Shared → Prop} {s : Shared} {a : Addr} {its : Array Value} (ht : s.heap.IsTuple a its) (h : ∀ h2, EnumMade a s.heap h2 → Q (.ref (s.heap.objs.size + 1)) { s with heap := h2 }) :
    wpAny (model prog w) A (call (.type "enumerate") [.ref a]) Q E s :=
  callType_new F.called_enumerate (by decide) (F.typeCall_enumerate_1 _) (F.newCall_enumerate_1 _) (fun obj => F.args_object_init_2 obj _) F.entry_enumerate_new (new_enumT a its)
    ⟨ht, fun h2 m => ⟨⟨_, m.cell, rfl⟩, h h2 m⟩⟩
/-- the turns over a tuple that is known to hold xs: while there are items, a new pair of the place and the item -/
def IteT (K : PySem.W.Frag) (a : Addr) (xs : List V) : It where
  go i H := i < xs.length ∧ SqT K H a xs
  yld i H v H' := ∃ x pair, xs[i]? = some x ∧ H pair = none ∧ v = .ref pair ∧ H' = upd H pair (.tup [.int (i : Nat), x])
  stop i H := i = xs.length ∧ SqT K H a xs
/-- the walk over enumerate, as the library's WalksT.enumFrom tells it, read as turns of IteT -/
theorem turn_enumT {P : Program} {w : World} {K : PySem.W.Frag} {elts : List Expr} {kk : Nat} {tpos : Pos} (a e it : Addr) (xs : List V) (hei : e ≠ it) (hai : a ≠ it) (hae : a ≠ e) :
    Turn P w K (.Tuple elts kk tpos) (IteT K a xs) [e, it] e (fun i h => (∃ old, IsEnum h e it (0 + (i : Int)) old) ∧ h.IsTupleIter it a i) := by
  have walk := fun (A : Around) (hh : A.handled = none) (its : Array Value) =>
    WalksT.enumFrom (prog := P) (w := w) (A := A) 0 (Draws.tuple (A := A.in1) hh it a hai its) e hei (by simp [hei, Ne.symm hae]) (by simp)
  refine { mem := List.mem_cons_self .., obj := ?_, keep := ?_, item := ?_, done := ?_, self := ?_ }
  · rintro i h ⟨⟨old, he⟩, o, ho, _, hd⟩ b hb
    simp only [List.mem_cons, List.not_mem_nil, or_false] at hb
    cases hb with
    | inl hb => subst hb; exact ⟨_, he, by intro v; simp⟩
    | inr hb => subst hb; exact ⟨o, ho, by intro v; rw [hd]; simp⟩
  · rintro i h h2 ⟨⟨old, he⟩, hi⟩ k
    exact ⟨⟨old, k e (by simp) _ he⟩, hi.at fun o q => k it (by simp) o q⟩
  · rintro X rfl rfl rfl hc i pins s σ H Ex I hf ⟨en, hi⟩ ⟨lt, hq⟩
    obtain ⟨its, rv, pt, _⟩ := I.tuple hq
    have hx : xs[i]? = some xs[i] := List.getElem?_eq_getElem lt
    generalize xs[i] = x at hx
    obtain ⟨y, hy, ry⟩ := rv.get hx
    have W := walk X.A (I.ok.hd hc) its.toArray
    refine W.item i s _ _ (by simpa using (List.getElem?_eq_some_iff.mp hy).1) ⟨en, hi, pt⟩ ?_
    rintro T vals h2 tk ⟨t, z, hz, rfl⟩ hle hT hmid hk
    obtain rfl : z = y := Option.some.inj (Eq.trans (by simpa using hz.symm) hy)
    refine ⟨_, rfl, W.go elts kk tpos i T _ _ _ hmid fun h3 st3 hk3 => ?_⟩
    have keeps : ∀ b o, b ∉ [e, it] → s.heap.get? b = some o → h3.get? b = some o := fun b o hb q => hk3 b o hb (hk b o hb q)
    have pair : ObjOk X.prog X.w (upd H T (.tup [.int (i : Nat), x])) h3 T (.tup [.int (i : Nat), x]) :=
      ⟨by show 2 ≤ sizeLine; decide, [.int (0 + (i : Int)) t, z], .cons ⟨t, by rw [Int.zero_add]⟩ (.cons ry .nil), hT.at fun o q => hk3 T o (W.apart i T h2 hmid) q⟩
    have nT : H T = none := I.hok.fresh hle
    refine ⟨.ref T, _, I.turnedNew (t' := tk) keeps hf hle pair, rfl, ⟨x, T, hx, nT, rfl, rfl⟩, ⟨st3.1, st3.2.1⟩, fun b hb => ?_⟩
    rw [upd_ne (show b ≠ T from fun z => W.apart i T h2 hmid (z ▸ hb))]
    exact (hf b hb).1
  · rintro X rfl rfl rfl hc i pins s σ H Ex I hf ⟨en, hi⟩ ⟨rfl, hq⟩
    obtain ⟨its, rv, pt, _⟩ := I.tuple hq
    have W := walk X.A (I.ok.hd hc) its.toArray
    have hn : its.toArray.size = xs.length := by simpa using rv.length.symm
    exact W.done s _ _ (by rw [hn]; exact ⟨en, hi, pt⟩) fun h2 tk hk => ⟨rfl, I.turnedL (t' := tk) hk hf⟩
  · exact fun A i s Q Ex st h => wpAny_pyIter_enum st.1.choose_spec h
def iEnumT (K : PySem.W.Frag) (ta : TA) : TI := fun σ H R => ta σ H fun vs H1 => ∃ a xs, vs = [.ref a] ∧ SqT K H1 a xs ∧ R (IteT K a xs) H1
theorem pi_enumT {X : Cx} {e : Expr} {ta : TA} {p pos tpos : Pos} {elts : List Expr} {kk : Nat} (hg : Gl X "enumerate") (hm : X.mg "enumerate" = none) (ha : PA X [e] ta) (hs : starEach [e] X.env = [(false, eval e X.env)] := by rfl) :
    PI X (.Tuple elts kk tpos) (.Call (.Name "enumerate" p) [e] [] pos) (iEnumT X.K ta) where
  run pins s σ H R I h := by
    refine Call_ (ld_blt I hg hm boot_enumerate (PyProof.Rows.callWith_type1 (thn (ha.run pos pins s σ H _ I h) ?_) hs rfl))
    rintro us s1 ⟨_, H1, I1, r1, a, xs, rfl, hq, q⟩
    obtain ⟨u, rfl, ru⟩ := r1.one
    obtain rfl : u = .ref a := ru
    obtain ⟨its, rv, pt, _⟩ := I1.tuple hq
    have below : a < s1.heap.objs.size := by
      obtain ⟨_, z, _⟩ := (show s1.heap.IsTuple a its.toArray from pt)
      exact Heap.lt_size z
    refine call_enumT pt fun h2 m => wpAny_pyIter_enum m.cell ⟨_, _, _, _, H1, rfl, I1.kept (t' := s1.toks) m.old, turn_enumT a (s1.heap.objs.size + 1) s1.heap.objs.size xs (Nat.succ_ne_self _) (Nat.ne_of_lt below) (Nat.ne_of_lt (Nat.lt_succ_of_lt below)), ⟨⟨_, m.cell⟩, m.iter⟩, ?_, q⟩
    have fresh : ∀ b, s1.heap.objs.size ≤ b → FpOk X pins H1 b := fun b hb => I1.fpOk hb (I1.hok.fresh hb)
    simpa using And.intro (fresh (s1.heap.objs.size + 1) (Nat.le_succ _)) (fresh s1.heap.objs.size (Nat.le_refl _))
end Sea

set_option Elab.async false
set_option linter.all false
set_option maxRecDepth 100000
set_option maxHeartbeats 4000000
/-! isinstance of a caught error that has a dict; list.count of flat items -/
namespace Sea
open PySem PySem.Spec PyProof.Rows L2
/-- the caught error, seen in the heap: an instance of its class, its dict (if it has one) beside it -/
theorem held_inst {X : Cx} {pins : List (Addr × Obj)} {σ : L2.St} {H : Hp} {s : Shared} {a D : Addr} {d : Option Addr} {oe : Obj} {pn : List (Addr × Obj)} (I : Inv (X.suite a ((a, oe) :: pn)) pins σ H s) (hz : Zc (.ref D) d oe) (hf : ∃ vs, oe.data = .fields vs)
    (hd : ∀ dx, d = some dx → ∃ fs, H dx = some (.xd fs)) : ∃ od, PySem.W.InstAt s.heap a oe D od := by
  have there := (I.pin (a, oe) (by simp)).1
  have plain : PySem.W.notCls oe := by
    obtain ⟨vs, hv⟩ := hf
    rw [PySem.W.notCls, hv]
  match d, hz, hd with
  | none, hz, _ => exact ⟨none, there, hz.1, plain, by rw [hz.2]; trivial⟩
  | some dx, hz, hd =>
    obtain ⟨fs, hx⟩ := hd dx rfl
    have ⟨mA, ns, _⟩ : ObjOk X.prog X.w H s.heap dx (.xd fs) := I.hok dx _ hx
    have ⟨od, ho, _⟩ := lookIn_ns ns
    exact ⟨some od, there, hz.1, plain, by rw [hz.2]; exact ho⟩
/-- isinstance(e, c), e the exception that the suite holds, with its dict (tracked) or without; D its class -/
def rIsX (K : PySem.W.Frag) (a : Addr) (cls : Value) (d : Option Addr) : List V → Hp → VK → Prop := fun xs H Q => ∃ (D : Addr) (c : V) (cv : Value) (b : Bool), cls = .ref D ∧ ExcC K D ∧ xs = [.ref a, c] ∧ (∀ u, RelV c u → u = cv) ∧ PySem.W.kitOne K (.ref D) cv = some b ∧ (∀ dx, d = some dx → ∃ fs, H dx = some (.xd fs)) ∧ Q (.bl b) H
theorem call_isX {X : Cx} {a : Addr} {cls : Value} {d : Option Addr} {oe : Obj} {pn : List (Addr × Obj)} (K : PySem.W.Frag) (hK : X.K = K) (hz : Zc cls d oe) (hf : ∃ vs, oe.data = .fields vs) : CallR (X.suite a ((a, oe) :: pn)) (.builtin "isinstance") (rIsX K a cls d) := by
  subst hK
  rintro pins s σ H _ us Q I r ⟨D, c, cv, b, rfl, C, rfl, told, one, hd, q⟩
  obtain ⟨x, t, rfl, rx, rt⟩ : ∃ x t, us = [x, t] ∧ RelV (.ref a) x ∧ RelV c t := match us, r with
    | _, .cons rx (.cons rt .nil) => ⟨_, _, rfl, rx, rt⟩
  obtain ⟨od, inst⟩ := held_inst I hz hf hd
  have dict : (PySem.W.clsIn X.K D).isSome := by
    obtain ⟨cd, z, _⟩ := PySem.W.any_some C.hd
    rw [z]
    rfl
  have kit := PySem.W.kitx_exc (x := a) (ox := oe) (od := od) dict C.hg C.hk C.hs C.ha C.hn C.ht C.hm
  rw [show x = .ref a from rx, told t rt]
  exact PySem.W.kia_one kit I.kIn inst one nofun fun tk => ⟨.bl b, H, I.kept (t' := tk) fun _ _ z => z, rfl, q⟩
/-- xs.count(y), flat items -/
def rCntF (K : PySem.W.Frag) : V → List V → Hp → VK → Prop := fun x xs H Q => ∃ (a : Addr) (ys : List V) (y : V), x = V.ref a ∧ xs = [y] ∧ SqL K H a ys ∧ flatV y = true ∧ ys.all flatV = true ∧ Q (.int (ys.countP (fun z => eqV z y) : Nat)) H
theorem cnt_flat {y : V} : ∀ {ys : List V} {its : List Value}, Vals ys its → ys.all flatV = true → its.countP (eqU y) = ys.countP (fun z => eqV z y)
  | _, _, .nil, _ => rfl
  | _, _, .cons r rr, f => by
    rename_i v u vs us
    rw [List.all_cons, Bool.and_eq_true] at f
    rw [List.countP_cons, List.countP_cons, cnt_flat rr f.2, eqU_of r f.1]
theorem mt_countF {X : Cx} : MtR X "list.count" (rCntF X.K) := by
  rintro pins s σ H _ _ v us Q I rx rxs ⟨a, ys, y, rfl, rfl, hs, fy, fys, q⟩
  obtain rfl : v = .ref a := rx
  obtain ⟨u, rfl, ru⟩ := rxs.one
  obtain ⟨its, rv, ⟨o, n, ho, hc, _, hd⟩, _⟩ := I.list hs
  obtain ⟨cls, dd, data, sl⟩ := o
  obtain rfl : cls = _ := hc
  obtain rfl : data = _ := hd
  have many := cnt_flat (y := y) rv fys
  have law := SeqAt.list_countAt a its.toArray n dd sl u (eqU y)
  refine call_meets PySem.F.slot_list_count ⟨_, ho, rfl⟩ PySem.F.entry_list_count (PySem.F.args_list_count_2 _ _) law ⟨ho, fun z hz => mem_eqAt ru fy rv fys z (by simpa using hz), ?_⟩
  rw [List.toList_toArray, many]
  exact ⟨.int (ys.countP (fun z => eqV z y) : Nat), H, I.tok _, ⟨s.toks, rfl⟩, q⟩
end Sea

set_option Elab.async false
set_option linter.all false
set_option maxRecDepth 100000
set_option maxHeartbeats 4000000
namespace Sea
open PySem PySem.Spec PyProof.Rows L2 LamX NdefX Evl
/-! ### what a suite may ask of the caught error, whatever its class -/
/-- e.f, e the caught error: its class is told by the reading; the library's rule for that class does the rest -/
def tXf (K : PySem.W.Frag) (f : Str) (a : Addr) (cls : Value) (d : Option Addr) (te : TE) : TE := fun σ H Q => ∃ D : Addr, cls = .ref D ∧ XfC K D ∧ PySem.W.findIn K (.ref D) f = some none ∧ L2.tXf a cls d D f te σ H Q
theorem pe_xf {X : Cx} {f : Str} {a : Addr} {oe : Obj} {cls : Value} {d : Option Addr} {pn : List (Addr × Obj)} {e : Expr} {te : TE} {pos : Pos} (K : PySem.W.Frag) (hK : X.K = K) (hz : Zc cls d oe) (hf : ∃ vs, oe.data = .fields vs) (he : PE (X.suite a ((a, oe) :: pn)) e te)
    (hb : attributeBase e f X.env (eval e X.env) = eval e X.env := by rfl) : PE (X.suite a ((a, oe) :: pn)) (.Attribute e f pos) (tXf K f a cls d te) :=
  ⟨fun pins s σ H Q I ⟨_, _, T, no, h⟩ => (L2.pe_xf (hK ▸ T) (hK ▸ no) hz hf he hb).run pins s σ H Q I h⟩
/-! ### the handed thunk called, its promise weakened -/
theorem cx_le {P : Program} {w : World} {outer : List Env} {H : Hp} {s s' : Shared} {E E' : XK} {e : Value} (h : L2.CX P w outer H s E e s') (m : ∀ c d H', E c d H' → E' c d H') : L2.CX P w outer H s E' e s' := by
  obtain ⟨a, B, H', cls, d, h1, h2, h3, h4, h5, h6, h7, h8⟩ := h
  exact ⟨a, B, H', cls, d, h1, h2, h3, h4, h5, h6, h7, m _ _ _ h8⟩
section
variable {X : Cx} {i j : Nat} {x : Str} {p pos : Pos} {E : L2.St → XK}
def tActM (X : Cx) (j i : Nat) (E : L2.St → XK) : TE := fun σ H Q => ∃ (f : Addr) (tl : Hp → VK → XK → Prop) (Q' : VK) (E' : XK), σ[i]? = some (some (.ref f)) ∧ H = X.H_0 ∧ Thunk X.prog X.w X.K X.mg X.base (L2.CX X.prog X.w) j X.outer X.s_0 X.H_0 f tl ∧ tl H Q' E' ∧ (∀ v H1, Q' v H1 → Q v H1) ∧ (∀ c d H1, E' c d H1 → E σ c d H1)
theorem pe_actM (hr : Room j X.A) (hex : X.ex = []) (hx : ∀ σ, PassesAt (L2.CX X.prog X.w) X σ (E σ)) (hN : X.N[i]? = some x) (hv : Vis X.env.scope x)
    (hd : (x == ("__debug__" : Str)) = false := by decide) (hcd : (x == ("__classdict__" : Str)) = false := by decide) : PE X (.Call (.Name x p) [] [] pos) (tActM X j i E) := by
  refine ⟨fun pins s σ H Q I h => ?_⟩
  obtain ⟨f, tl, Q', E', hs, eH, hT, ht, mQ, mE⟩ := h
  have hx' : ∀ τ, PassesAt (L2.CX X.prog X.w) X τ (if τ = σ then E' else E τ) := fun τ => by
    by_cases hq : τ = σ
    · rw [if_pos hq]
      subst hq
      exact fun pins H s e s' J c => hx _ pins H s e s' J (cx_le c mE)
    · rw [if_neg hq]
      exact hx τ
  refine thn ((pe_actT (CXl := L2.CX X.prog X.w) (i := i) (p := p) (pos := pos) (E := fun τ => if τ = σ then E' else E τ) hr hex hx' hN hv hd hcd).run pins s σ H Q' I ⟨f, tl, hs, eH, hT, ?_⟩) fun u s1 hh => ?_
  · show tl H Q' (if σ = σ then E' else E σ)
    rw [if_pos rfl]
    exact ht
  · obtain ⟨v, H1, I1, r1, q1⟩ := hh
    exact ⟨v, H1, I1, r1, mQ _ _ q1⟩
end
theorem ev_isX {K : PySem.W.Frag} {a : Addr} {cls : Value} {d : Option Addr} {D : Addr} {c : V} {cv : Value} {b : Bool} {i : Nat} {σ : L2.St} {H : Hp} (h1 : cls = .ref D) (h2 : ExcC K D) (h3 : ∀ u, RelV c u → u = cv) (h4 : PySem.W.kitOne K (.ref D) cv = some b) (h5 : ∀ dx, d = some dx → ∃ fs, H dx = some (.xd fs)) (hs : σ[i]? = some (some (.ref a))) :
    Ev (tCB (rIsX K a cls d) (tCons (tVar i) (tCons (tC c) tNil))) σ H (.bl b) := fun H1 e Q q => ⟨_, hs, D, c, cv, b, h1, h2, rfl, h3, h4, fun dx hd => let ⟨fs, hx⟩ := h5 dx hd; ⟨fs, e _ _ hx⟩, q H1 (Ex.refl _)⟩
end Sea

set_option Elab.async false
set_option linter.all false
set_option maxRecDepth 100000
set_option maxHeartbeats 4000000
/-! rules with the written part K named: within a suite or a block the reading must not speak of the context -/
namespace Sea
open PySem PySem.Spec PyProof.Rows L2
section
variable {X : Cx} {T : String} {r : V → List V → Hp → VK → Prop} {e a b : Expr} {to ta tb : TE} {t : TA} {pos : Pos}
theorem pe_bmK (K : PySem.W.Frag) (hK : X.K = K) (h : PE X e (tBM X.K T r to t)) : PE X e (tBM K T r to t) := hK ▸ h
theorem pe_ixlK (K : PySem.W.Frag) (hK : X.K = K) (ha : PE X a ta) (hb : PE X b tb) (hs : PlainIx b := by exact fun _ _ => rfl) : PE X (.Subscript a b pos) (tOp (rIxL K) ta tb) := hK ▸ pe_ix ix_list ha hb hs
theorem mt_countK (K : PySem.W.Frag) (hK : X.K = K) : MtR X "list.count" (rCntF K) := hK ▸ mt_countF
theorem mt_indexK (K : PySem.W.Frag) (hK : X.K = K) : MtR X "list.index" (rIndex K) := hK ▸ mt_index
theorem op_inK (K : PySem.W.Frag) (hK : X.K = K) : OpR X (compareOp .In) (rIn K false) := hK ▸ op_in_seq
end
end Sea

set_option Elab.async false
set_option linter.all false
set_option maxRecDepth 100000
set_option maxHeartbeats 4000000
/-! what every law of this package leans on, no program in sight -/
namespace Sea
open PySem PySem.Spec PyProof.Rows L2 LamX NdefX ClX Evl StX
section
variable {X : Cx} {a b : Expr} {ta tb : TE} {pos : Pos}
theorem pe_ixl (ha : PE X a ta) (hb : PE X b tb) (hs : PlainIx b := by exact fun _ _ => rfl) : PE X (.Subscript a b pos) (tOp (rIxL X.K) ta tb) := pe_ix ix_list ha hb hs
theorem pe_ixt (ha : PE X a ta) (hb : PE X b tb) (hs : PlainIx b := by exact fun _ _ => rfl) : PE X (.Subscript a b pos) (tOp (rIxT X.K) ta tb) := pe_ix ix_tup ha hb hs
end
/-! ### draws -/
structure Dr (H : Hp) (h c : Addr) : Prop where
  ne : h ≠ c
  ex : ∃ (m k : Int) (ns : List Int), H h = some (.lst [.int m, .ref c, .int k]) ∧ H c = some (.lst (ns.map V.int)) ∧ ns.length ≤ 63
/-- all kept but h and c -/
def Kp (h c : Addr) (H H' : Hp) : Prop := ∀ b o, H b = some o → b ≠ h → b ≠ c → H' b = some o
theorem Kp.refl {h c : Addr} {H : Hp} : Kp h c H H := fun _ _ e _ _ => e
theorem Kp.trans {h c : Addr} {H H1 H2 : Hp} (a : Kp h c H H1) (b : Kp h c H1 H2) : Kp h c H H2 := fun x o e n1 n2 => b x o (a x o e n1 n2) n1 n2
theorem Kp.new {h c a : Addr} {H : Hp} {o : HO} (n : H a = none) : Kp h c H (upd H a o) := fun b o e _ _ => by
  rw [upd_ne (ne_of_none e n)]
  exact e
theorem Kp.same {h c : Addr} {H H' : Hp} (s : Same H H') : Kp h c H H' := fun b o e _ _ => s b o e
theorem Dr.same {H H' : Hp} {h c : Addr} (d : Dr H h c) (s : Same H H') : Dr H' h c := by
  obtain ⟨n, m, k, ns, e1, e2, l⟩ := d
  exact ⟨n, m, k, ns, s _ _ e1, s _ _ e2, l⟩
theorem Dr.new {H : Hp} {h c a : Addr} {o : HO} (d : Dr H h c) (n : H a = none) : Dr (upd H a o) h c := d.same fun b o e => by
  rw [upd_ne (ne_of_none e n)]
  exact e
theorem pick0 (ns : List Int) (i : Int) (h0 : 0 ≤ i) (h1 : i < (ns.length : Int) + 1) : ∃ u : Int, atI (ns.map V.int ++ [V.int 0]) i = some (.int u) := by
  obtain ⟨j, rfl⟩ := Int.eq_ofNat_of_zero_le h0
  have hj : j < (ns.map V.int ++ [V.int 0]).length := by
    rw [List.length_append, List.length_map]
    show j < ns.length + 1
    omega
  refine ⟨(ns ++ [0]).getD j 0, ?_⟩
  have e : ns.map V.int ++ [V.int 0] = (ns ++ [0]).map V.int := by rw [List.map_append]; rfl
  rw [e] at hj ⊢
  unfold atI ixN
  rw [if_pos (by omega), if_pos (by omega)]
  show ((ns ++ [0]).map V.int)[(j : Int).toNat]? = _
  rw [Int.toNat_natCast, List.getElem?_map]
  rw [List.length_map] at hj
  rw [List.getElem?_eq_getElem hj]
  rw [List.getD_eq_getElem?_getD, List.getElem?_eq_getElem hj]
  rfl
theorem pick_nil {i u : Int} (h : atI (([] : List Int).map V.int ++ [V.int 0]) i = some (.int u)) : u = 0 := by
  revert h
  unfold atI ixN
  show ((if 0 ≤ i then (if i < ((1 : Nat) : Int) then some i.toNat else none) else if -((1 : Nat) : Int) ≤ i then some (i + ((1 : Nat) : Int)).toNat else none).bind fun j => [V.int 0][j]?) = _ → _
  intro h
  split at h
  · split at h
    · have e : i.toNat = 0 := by omega
      rw [show (some i.toNat : Option Nat) = some 0 by rw [e]] at h
      cases h
      rfl
    · cases h
  · split at h
    · have e : (i + ((1 : Nat) : Int)).toNat = 0 := by omega
      rw [show (some (i + ((1 : Nat) : Int)).toNat : Option Nat) = some 0 by rw [e]] at h
      cases h
      rfl
    · cases h
theorem ixn_fmod {n : Nat} (k : Int) (h : (0 : Int) < (n : Int)) : ∃ j, ixN n (k.fmod (n : Int)) = some j := by
  refine ⟨(k.fmod (n : Int)).toNat, ?_⟩
  unfold ixN
  rw [if_pos (Int.fmod_nonneg_of_pos _ h), if_pos (Int.fmod_lt_of_pos _ h)]
def TK (K : PySem.W.Frag) (H H' : Hp) : Prop := ∀ a xs, SqT K H a xs → SqT K H' a xs
theorem TK.refl {K : PySem.W.Frag} {H : Hp} : TK K H H := fun _ _ h => h
theorem TK.trans {K : PySem.W.Frag} {H H1 H2 : Hp} (a : TK K H H1) (b : TK K H1 H2) : TK K H H2 := fun x y h => b x y (a x y h)
theorem sqT_keep {K : PySem.W.Frag} {H H' : Hp} {a : Addr} {xs : List V} (e : ∀ o, H a = some o → H' a = some o) (h : SqT K H a xs) : SqT K H' a xs := by
  rcases h with (h | ⟨o, h⟩) | h
  · exact .inl (.inl (e _ h))
  · exact .inl (.inr ⟨o, e _ h⟩)
  · exact .inr h
theorem TK.same {K : PySem.W.Frag} {H H' : Hp} (s : Same H H') : TK K H H' := fun a xs h => sqT_keep (fun o => s a o) h
theorem same_new {H : Hp} {p : Addr} {o : HO} (h : H p = none) : Same H (upd H p o) := fun b x e => by
  rw [upd_ne (ne_of_none e h)]
  exact e
theorem TK.new {K : PySem.W.Frag} {H : Hp} {a : Addr} {o : HO} (n : H a = none) : TK K H (upd H a o) := .same (same_new n)
theorem TK.but {K : PySem.W.Frag} {H H' : Hp} (D : Addr → Prop) (s : ∀ b o, H b = some o → ¬ D b → H' b = some o) (nt : ∀ b xs, D b → ¬ Rd H b (.tup xs)) : TK K H H' := fun a xs h => by
  rcases h with h | h
  · have nd : ¬ D a := fun z => nt a xs z h
    rcases h with h | ⟨o, h⟩
    · exact .inl (.inl (s _ _ h nd))
    · exact .inl (.inr ⟨o, s _ _ h nd⟩)
  · exact .inr h
theorem Rd.lst_no {H : Hp} {a : Addr} {xs ys : List V} (e : H a = some (.lst ys)) : ¬ Rd H a (.tup xs) := fun h => by
  rcases h with h | ⟨o, h⟩
  · rw [e] at h
    cases h
  · rw [e] at h
    cases h
theorem Rd.ins_no {H : Hp} {a C dx : Addr} {xs : List V} {fs : List (Str × V)} (e : H a = some (.ins C dx fs)) : ¬ Rd H a (.tup xs) := fun h => by
  rcases h with h | ⟨o, h⟩
  · rw [e] at h
    cases h
  · rw [e] at h
    cases h
theorem Dr.tk {K : PySem.W.Frag} {H H' : Hp} {h c : Addr} (d : Dr H h c) (k : Kp h c H H') : TK K H H' := by
  obtain ⟨_, m, kk, ns, e1, e2, _⟩ := d
  refine .but (fun b => b = h ∨ b = c) (fun b o e n => k b o e (fun z => n (.inl z)) (fun z => n (.inr z))) fun b xs z => ?_
  rcases z with z | z
  · rw [z]
    exact Rd.lst_no e1
  · rw [z]
    exact Rd.lst_no e2
section
variable {X : Cx} {C : Addr} {mc : Value} {x f : Str} {v : V} {p pos : Pos}
theorem pe_clc (hg : Gl X x) (hm : X.mg x = some (.ref C)) (cr : CRead X.K C mc) (cv : ∃ u, CVal X.K C mc f v u) (hd : (x == ("__debug__" : Str)) = false := by decide)
    (hb : attributeBase (.Name x p) f X.env (eval (.Name x p) X.env) = eval (.Name x p) X.env := by rfl) : PE X (.Attribute (.Name x p) f pos) (tC v) := by
  obtain ⟨u, cv⟩ := cv
  exact ⟨fun pins s σ H Q I h => (pe_cval (pe_glob (v := .ref C) hg hm rfl hd) hb).run pins s σ H Q I ⟨C, mc, v, u, rfl, cr, cv, h⟩⟩
end
theorem ev_chainI {ta tb tc : TE} {σ : L2.St} {H : Hp} {i j k : Int} {p q : Int → Int → Bool} (ha : Ev ta σ H (.int i)) (hb : Ev tb σ H (.int j)) (hc : Ev tc σ H (.int k)) :
    Ev (tChain (rI0 fun i j => .bl (p i j)) (rI0 fun i j => .bl (q i j)) ta tb tc) σ H (.bl (p i j && q j k)) := fun H1 e Q hq => ha H1 e _ fun H2 e2 => hb H2 (e.trans e2) _ fun H3 e3 => ⟨i, j, rfl, rfl, p i j, rfl, by
  cases hp : p i j with
  | true => exact iteT (hc H3 ((e.trans e2).trans e3) _ fun H4 e4 => ⟨j, k, rfl, rfl, by
      have z := hq H4 ((e2.trans e3).trans e4)
      rw [hp] at z
      exact z⟩)
  | false => exact iteF (by
      have z := hq H3 (e2.trans e3)
      rw [hp] at z
      exact z)⟩
/-- a loop of n rounds: what each round finds and leaves, and what stands when the source is dry -/
theorem for_rounds {I : It} {g : TG} {tb : TS} {D : Ends} {σ : L2.St} {H : Hp} (n : Nat) (Pv : Nat → L2.St → Hp → Prop) (start : Pv 0 σ H)
    (round : ∀ i σ H, i < n → Pv i σ H → I.go i H ∧ ∀ x H', I.yld i H x H' → g x σ H' fun σ2 H2 => tb { D with nx := Pv (i + 1), ct := Pv (i + 1), bk := D.nx } σ2 H2)
    (dry : ∀ σ H, Pv n σ H → I.stop n H ∧ D.nx σ H) :
    ∃ W : Nat → Nat → L2.St → Hp → Prop, (∃ m, W 0 m σ H) ∧ ∀ i m σ H, W i m σ H →
      (I.stop i H ∧ D.nx σ H) ∨ (I.go i H ∧ ∃ N : L2.St → Hp → Prop, (∀ σ' H', N σ' H' → ∃ m', m' < m ∧ W (i + 1) m' σ' H') ∧ ∀ x H', I.yld i H x H' → g x σ H' fun σ2 H2 => tb { D with nx := N, ct := N, bk := D.nx } σ2 H2) := by
  let W : Nat → Nat → L2.St → Hp → Prop := fun i m σ H => m + i = n ∧ Pv i σ H
  have more : ∀ i m σ H, W i (m + 1) σ H → (I.go i H ∧ ∃ N : L2.St → Hp → Prop, (∀ σ' H', N σ' H' → ∃ m', m' < m + 1 ∧ W (i + 1) m' σ' H') ∧ ∀ x H', I.yld i H x H' → g x σ H' fun σ2 H2 => tb { D with nx := N, ct := N, bk := D.nx } σ2 H2) := by
    rintro i m σ H ⟨e, p⟩
    have ⟨go, each⟩ := round i σ H (by omega) p
    exact ⟨go, Pv (i + 1), fun _ _ z => ⟨m, Nat.lt_succ_self m, by omega, z⟩, each⟩
  have last : ∀ i σ H, W i 0 σ H → I.stop i H ∧ D.nx σ H := by
    rintro i σ H ⟨e, p⟩
    rw [Nat.zero_add] at e
    exact e ▸ dry σ H (e ▸ p)
  exact ⟨W, ⟨n, rfl, start⟩, fun i m σ H w => match m, w with
    | 0, w => .inl (last i σ H w)
    | m + 1, w => .inr (more i m σ H w)⟩
section
variable {K : PySem.W.Frag}
theorem mk1_in {H1 : Hp} {Q : XK} {f : Str} {y : V} {c : Addr} (T : OexC K c) (n : PySem.W.findIn K (.ref c) f = some none) (h : ∀ d, H1 d = none → Q (.ref c) (some d) (upd H1 d (.xd [(f, y)]))) :
    [y].length = 1 ∧ ∀ a, H1 a = none → spX1 K f ([.ref a] ++ [y]) (upd H1 a (exo a c none)) (fun v H2 => v = .non ∧ ∃ (d : Addr) (fs : List (Str × V)), H2 a = some (exo a c (some d)) ∧ H2 d = some (exd d fs) ∧ H1 d = none ∧ Q (.ref c) (some d) (upd (del H2 a) d (.xd fs))) (fun _ _ _ => False) := by
  refine ⟨rfl, fun a ha => ⟨a, c, y, rfl, T, n, upd_same, fun dx h1 h2 => ?_⟩⟩
  rw [upd_ne h2] at h1
  refine ⟨rfl, dx, _, upd_same, by rw [upd_ne h2, upd_same], h1, ?_⟩
  have e : upd (del (upd (upd (upd H1 a (exo a c none)) dx (exd dx [(f, y)])) a (exo a c (some dx))) a) dx (.xd [(f, y)]) = upd H1 dx (.xd [(f, y)]) := by
    funext b
    by_cases hb : b = dx
    · subst hb
      rw [upd_same, upd_same]
    · rw [upd_ne hb, upd_ne hb]
      by_cases hba : b = a
      · subst hba
        rw [del_same, ha]
      · rw [del_ne hba, upd_ne hba, upd_ne hb, upd_ne hba]
  rw [e]
  exact h dx h1
end
theorem take_snoc {α : Type} {L : List α} {i : Nat} {x : α} (h : L[i]? = some x) : L.take (i + 1) = L.take i ++ [x] := by
  rw [List.take_add_one, h]
  rfl
def EvD (te : TE) (σ : L2.St) (H : Hp) (P : V → Hp → Prop) : Prop := ∀ H1, Ex H H1 → ∀ Q : VK, (∀ v H2, Ex H1 H2 → P v H2 → Q v H2) → te σ H1 Q
theorem EvD.mono {te : TE} {σ : L2.St} {H H' : Hp} {P : V → Hp → Prop} (e : Ex H H') (h : EvD te σ H P) : EvD te σ H' P := fun H1 a Q q => h H1 (e.trans a) Q q
theorem ed_of {te : TE} {σ : L2.St} {H : Hp} {v : V} {P : V → Hp → Prop} (h : Ev te σ H v) (hp : ∀ H2, Ex H H2 → P v H2) : EvD te σ H P := fun H1 e Q q => h H1 e _ fun H2 e2 => q v H2 e2 (hp H2 (e.trans e2))
def cutP {α : Type} (xs : List α) (lo hi : Option Int) : List α := (xs.drop (HT.sIx xs.length 0 lo)).take (HT.sIx xs.length xs.length hi - HT.sIx xs.length 0 lo)
theorem cutP_all {α : Type} (xs : List α) (lo hi : Option Int) (h : HT.sIx xs.length 0 lo = 0 ∧ HT.sIx xs.length xs.length hi = xs.length) : cutP xs lo hi = xs := by
  unfold cutP
  rw [h.1, h.2, List.drop_zero, Nat.sub_zero, List.take_length]
theorem cutP_to {α : Type} (xs : List α) (k : Nat) : cutP xs none (some ((k : Nat) : Int)) = xs.take k := by
  unfold cutP
  rw [HT.sIx_none, HT.sIx_nat, List.drop_zero, Nat.sub_zero]
  by_cases h : k ≤ xs.length
  · rw [Nat.min_eq_left h]
  · rw [Nat.min_eq_right (by omega), List.take_of_length_le (Nat.le_refl _), List.take_of_length_le (by omega)]
theorem cutP_from {α : Type} (xs : List α) (k : Nat) : cutP xs (some ((k : Nat) : Int)) none = xs.drop k := by
  unfold cutP
  rw [HT.sIx_none, HT.sIx_nat]
  by_cases h : k ≤ xs.length
  · rw [Nat.min_eq_left h, List.take_of_length_le (by rw [List.length_drop]; exact Nat.le_refl _)]
  · rw [Nat.min_eq_right (by omega), Nat.sub_self, List.take_zero, List.drop_eq_nil_of_le (by omega)]
section
variable {te : TE} {σ : L2.St} {H : Hp}
theorem q_asgD {tz : TS} {D : Ends} {i : Nat} {P : V → Hp → Prop} (h : EvD te σ H P) (k : ∀ v H1, Ex H H1 → P v H1 → tz D (σ.set i (some v)) H1) : tSeq (tAsg te (gName i)) tz D σ H := h H (Ex.refl H) _ fun v H1 e p => k v H1 e p
theorem s_retD {D : Ends} {P : V → Hp → Prop} (h : EvD te σ H P) (k : ∀ v H1, Ex H H1 → P v H1 → D.rt v H1) : tRet te D σ H := h H (Ex.refl H) _ k
end
theorem pe_ixtK {X : Cx} {a b : Expr} {ta tb : TE} {pos : Pos} (K : PySem.W.Frag) (hK : X.K = K) (ha : PE X a ta) (hb : PE X b tb) (hs : PlainIx b := by exact fun _ _ => rfl) : PE X (.Subscript a b pos) (tOp (rIxT K) ta tb) := by
  subst hK
  exact pe_ix ix_tup ha hb hs
theorem rv_eqD {K : PySem.W.Frag} {x y : V} {H : Hp} {d e : PyData} (h1 : ∀ H1, Ex H H1 → Dp K H1 x d) (h2 : ∀ H1, Ex H H1 → Dp K H1 y e) (s1 : SeqAt.shaped d = true) (s2 : SeqAt.shaped e = true) : RV (rEqD K) x y H (.bl (PyData.eqv d e)) := fun H1 a Q q => ⟨d, e, h1 H1 a, h2 H1 a, s1, s2, q H1 (Ex.refl _)⟩
theorem rv_neD {K : PySem.W.Frag} {x y : V} {H : Hp} {d e : PyData} (h1 : ∀ H1, Ex H H1 → Dp K H1 x d) (h2 : ∀ H1, Ex H H1 → Dp K H1 y e) (s1 : SeqAt.shaped d = true) (s2 : SeqAt.shaped e = true) : RV (rNeD K) x y H (.bl (!PyData.eqv d e)) := fun H1 a Q q => ⟨d, e, h1 H1 a, h2 H1 a, s1, s2, q H1 (Ex.refl _)⟩
theorem intsDp {K : PySem.W.Frag} {H : Hp} : ∀ ns : List Int, DpAll K H (ns.map V.int) (ns.map PyData.int)
  | [] => .nil
  | n :: r => .cons (.int n) (intsDp r)
theorem ints_lay : ∀ ns : List Int, PyData.canLayAll0 (ns.map PyData.int) = true
  | [] => rfl
  | n :: r => by
    show (true && PyData.canLayAll0 (r.map PyData.int)) = true
    rw [ints_lay r]
    rfl
theorem ints_dep : ∀ ns : List Int, PyData.depthAll (ns.map PyData.int) = 0
  | [] => rfl
  | n :: r => by
    show max 0 (PyData.depthAll (r.map PyData.int)) = 0
    rw [ints_dep r]
    rfl
theorem ints_sh (ns : List Int) : SeqAt.shaped (.list (ns.map PyData.int)) = true := by
  show (PyData.canLayAll0 (ns.map PyData.int) && decide (PyData.depthAll (ns.map PyData.int) + 1 ≤ 64)) = true
  rw [ints_lay, ints_dep]
  rfl
theorem pick3 (a b c v : Int) (h0 : 0 ≤ v) (h1 : v < 3) : ∃ w, atI [V.int a, V.int b, V.int c] v = some (.int w) ∧ (w = a ∨ w = b ∨ w = c) := by
  rcases (show v = 0 ∨ v = 1 ∨ v = 2 by omega) with rfl | rfl | rfl
  · exact ⟨a, rfl, .inl rfl⟩
  · exact ⟨b, rfl, .inr (.inl rfl)⟩
  · exact ⟨c, rfl, .inr (.inr rfl)⟩
theorem s_retIf {t : TT} {ta tb : TE} {D : Ends} {σ : L2.St} {H : Hp} {b : Bool} (h : EvT t σ H b) (h1 : b = true → ∀ H1, Ex H H1 → tRet ta D σ H1) (h2 : b = false → ∀ H1, Ex H H1 → tRet tb D σ H1) : tRet (tIf t ta tb) D σ H := h H (Ex.refl _) _ fun H1 e => by
  cases b with
  | true => exact iteT (h1 rfl H1 e)
  | false => exact iteF (h2 rfl H1 e)
theorem ev_lenT {K : PySem.W.Frag} {σ : L2.St} {H : Hp} {i : Nat} {p : Addr} {xs : List V} (hs : σ[i]? = some (some (.ref p))) (h : SqT K H p xs) : Ev (tCB (fun xs H Q => ∃ p ys, xs = [V.ref p] ∧ (SqL K H p ys ∨ SqT K H p ys) ∧ Q (.int ys.length) H) (tCons (tVar i) tNil)) σ H (.int (xs.length : Int)) := fun H1 e Q q =>
  ⟨_, hs, p, xs, rfl, .inr ((TK.same e) _ _ h), q H1 (Ex.refl _)⟩
theorem ev_cnt {K : PySem.W.Frag} {σ : L2.St} {H : Hp} {i : Nat} {D : Addr} {ys : List V} (hs : σ[i]? = some (some (.ref D))) (h : H D = some (.lst ys)) (hf : ys.all flatV = true) :
    Ev (tBM K "list" (rCntF K) (tVar i) (tCons (tC (.bl true)) tNil)) σ H (.int (ys.countP (fun z => eqV z (.bl true)) : Nat)) := fun H' e Q q => ⟨_, hs, .inl ⟨rfl, _, SqL.of (e _ _ h)⟩, D, ys, .bl true, rfl, rfl, SqL.of (e _ _ h), rfl, hf, q H' (Ex.refl _)⟩
theorem ev_idx {K : PySem.W.Frag} {σ : L2.St} {H : Hp} {i j : Nat} {D : Addr} {ys : List V} {z : V} (hs : σ[i]? = some (some (.ref D))) (h : H D = some (.lst ys)) (hf : ys.all flatV = true) (hz : ys[j]? = some z) (hq : eqV z (.bl true) = true) (ha : ∀ (m : Nat) (z' : V), m < j → ys[m]? = some z' → eqV z' (.bl true) = false) :
    Ev (tBM K "list" (rIndex K) (tVar i) (tCons (tC (.bl true)) tNil)) σ H (.int (j : Nat)) := fun H' e Q q => ⟨_, hs, .inl ⟨rfl, _, SqL.of (e _ _ h)⟩, D, ys, .bl true, j, z, rfl, rfl, SqL.of (e _ _ h), rfl, hf, hz, hq, ha, q H' (Ex.refl _)⟩
theorem pe_ixsK {X : Cx} {a b : Expr} {ta tb : TE} {pos : Pos} (K : PySem.W.Frag) (hK : X.K = K) (ha : PE X a ta) (hb : PE X b tb) (hs : PlainIx b := by exact fun _ _ => rfl) : PE X (.Subscript a b pos) (tOp (rIx K) ta tb) := by
  subst hK
  exact pe_ix ix_seq ha hb hs
mutual
theorem dp_ex {K : PySem.W.Frag} {H H' : Hp} (e : Ex H H') : ∀ {v : V} {d : PyData}, Dp K H v d → Dp K H' v d
  | _, _, .non => .non
  | _, _, .bl b => .bl b
  | _, _, .int i => .int i
  | _, _, .str x => .str x
  | _, _, .lst h a => .lst (ex_l e h) (dps_ex e a)
  | _, _, .tup h a => .tup (ex_t e h) (dps_ex e a)
theorem dps_ex {K : PySem.W.Frag} {H H' : Hp} (e : Ex H H') : ∀ {vs : List V} {ds : List PyData}, DpAll K H vs ds → DpAll K H' vs ds
  | _, _, .nil => .nil
  | _, _, .cons a b => .cons (dp_ex e a) (dps_ex e b)
end
theorem dps_len {K : PySem.W.Frag} {H : Hp} : ∀ {vs : List V} {ds : List PyData}, DpAll K H vs ds → vs.length = ds.length
  | _, _, .nil => rfl
  | _, _, .cons _ b => by rw [List.length_cons, List.length_cons, dps_len b]
theorem dps_get {K : PySem.W.Frag} {H : Hp} : ∀ {vs : List V} {ds : List PyData}, DpAll K H vs ds → ∀ {i : Nat}, i < ds.length → ∃ v d, vs[i]? = some v ∧ ds[i]? = some d ∧ Dp K H v d
  | _, _, .nil, i, hi => absurd hi (Nat.not_lt_zero _)
  | _, _, .cons (v := v) (d := d) a b, 0, _ => ⟨v, d, rfl, rfl, a⟩
  | _, _, .cons a b, i + 1, hi => by simpa using dps_get b (i := i) (by simpa using hi)
/-- whole numbers in lists and tuples -/
inductive IntD : Nat → PyData → Prop
  | int (n : Nat) (i : Int) : IntD n (.int i)
  | bool (n : Nat) (b : Bool) : IntD n (.bool b)
  | lst {n : Nat} {ds : List PyData} (h : ∀ (i : Nat) (d : PyData), ds[i]? = some d → IntD n d) (hl : ds.length ≤ 1000) : IntD (n + 1) (.list ds)
  | tup {n : Nat} {ds : List PyData} (h : ∀ (i : Nat) (d : PyData), ds[i]? = some d → IntD n d) (hl : ds.length ≤ 1000) : IntD (n + 1) (.tuple ds)
/-- equal data are alike -/
def spAl (K : PySem.W.Frag) (n : Nat) : Sp := fun vs H Q _ => ∃ (m : Nat) (x y : V) (d : PyData), m < n ∧ vs = [x, y] ∧ Dp K H x d ∧ Dp K H y d ∧ IntD m d ∧ ∀ H', Same H H' → Q (.bl true) H'
theorem ev_isi {K : PySem.W.Frag} {σ : L2.St} {H : Hp} {i : Nat} {x : V} {t : Value} {n : String} {b : Bool} (hs : σ[i]? = some (some x)) (ty : ∀ H1, Ex H H1 → TyX K H1 x t) (h : PySem.W.kitOne K t (.type n) = some b) : Ev (tCB (rIsi K) (tCons (tVar i) (tCons (tC (.ty n)) tNil))) σ H (.bl b) :=
  fun H1 e Q q => ⟨_, hs, x, .ty n, t, .type n, b, rfl, .ty n, ty H1 e, h, q H1 (Ex.refl _)⟩
theorem ev_isiT {K : PySem.W.Frag} {σ : L2.St} {H : Hp} {i : Nat} {x : V} {t : Value} {b : Bool} (hs : σ[i]? = some (some x)) (ty : ∀ H1, Ex H H1 → TyX K H1 x t) (h : PySem.W.kitAny K t [.type "tuple", .type "list"] = some b) :
    Ev (tCB (rIsiT K) (tCons (tVar i) (tCons (tTup (tCons (tC (.ty "tuple")) (tCons (tC (.ty "list")) tNil))) tNil))) σ H (.bl b) :=
  fun H1 e Q q => ⟨_, hs, Nat.le_of_lt (small1000 (show 2 ≤ 1000 by decide)), fun p np => ⟨x, p, _, t, _, b, rfl, upd_same, .cons (.ty _) (.cons (.ty _) .nil), ty _ (e.trans (Ex.new np)), h, q _ (Ex.new np)⟩⟩
theorem tyx_lst {K : PySem.W.Frag} {H : Hp} {a : Addr} {xs : List V} (h : SqL K H a xs) : TyX K H (.ref a) (.type "list") := by
  rcases h with (h | ⟨o, h⟩) | ⟨o, its, n, hk, hc, _⟩
  · exact .base (.lst h)
  · exact .base (.frz h)
  · exact .kList hk hc
theorem tyx_tup {K : PySem.W.Frag} {H : Hp} {a : Addr} {xs : List V} (h : SqT K H a xs) : TyX K H (.ref a) (.type "tuple") := by
  rcases h with (h | ⟨o, h⟩) | ⟨o, its, n, hk, hc, _⟩
  · exact .base (.tup h)
  · exact .fTuple h
  · exact .kTuple hk hc
theorem ka_list {K : PySem.W.Frag} : PySem.W.kitAny K (.type "list") [.type "tuple", .type "list"] = some true := kitAny_cons (b := false) (kit_ty (by decide +kernel)) (fun _ => kitAny_cons (b := true) (kit_ty (by decide +kernel)) (fun z => by cases z) fun _ => rfl) (fun z => by cases z)
theorem ka_tuple {K : PySem.W.Frag} : PySem.W.kitAny K (.type "tuple") [.type "tuple", .type "list"] = some true := kitAny_cons (b := true) (kit_ty (by decide +kernel)) (fun z => by cases z) fun _ => rfl
theorem ka_int {K : PySem.W.Frag} : PySem.W.kitAny K (.type "int") [.type "tuple", .type "list"] = some false := kitAny_cons (b := false) (kit_ty (by decide +kernel)) (fun _ => kitAny_cons (b := false) (kit_ty (by decide +kernel)) (fun _ => rfl) (fun z => by cases z)) (fun z => by cases z)
theorem ka_bool {K : PySem.W.Frag} : PySem.W.kitAny K (.type "bool") [.type "tuple", .type "list"] = some false := kitAny_cons (b := false) (kit_ty (by decide +kernel)) (fun _ => kitAny_cons (b := false) (kit_ty (by decide +kernel)) (fun _ => rfl) (fun z => by cases z)) (fun z => by cases z)
theorem ev_lenS {K : PySem.W.Frag} {σ : L2.St} {H : Hp} {i : Nat} {p : Addr} {xs : List V} (hs : σ[i]? = some (some (.ref p))) (h : SqL K H p xs ∨ SqT K H p xs) : Ev (tCB (fun xs H Q => ∃ p ys, xs = [V.ref p] ∧ (SqL K H p ys ∨ SqT K H p ys) ∧ Q (.int ys.length) H) (tCons (tVar i) tNil)) σ H (.int (xs.length : Int)) := fun H1 e Q q =>
  ⟨_, hs, p, xs, rfl, h.elim (fun h => .inl (ex_l e h)) (fun h => .inr (ex_t e h)), q H1 (Ex.refl _)⟩
theorem given_none (n : Nat) (v : Nat → V) : given n (fun _ => false) v = [] := by
  unfold given
  simp
theorem at_nat {α : Type} {xs : List α} {i : Nat} {v : α} (hi : i < xs.length) (h : xs[i]? = some v) : atI xs ((i : Nat) : Int) = some v := by
  unfold atI
  rw [ixN_nat hi]
  exact h
def noE : Expr := .Constant .none 0 ⟨0, 0, 0, 0⟩
def noS : Stmt := .Pass ⟨0, 0, 0, 0⟩
def forB : Stmt → List Stmt
  | .For _ _ b _ _ => b
  | _ => []
def ifB : Stmt → List Stmt
  | .If _ b _ _ => b
  | _ => []
def ifC : Stmt → Expr
  | .If c _ _ _ => c
  | _ => noE
def asgE : Stmt → Expr
  | .Assign _ e _ => e
  | .Expr e _ => e
  | _ => noE
def callA : Expr → Expr
  | .Call _ (a :: _) _ _ => a
  | _ => noE
def lisI (i : Nat) : Expr → Expr
  | .List es _ => es.getD i noE
  | _ => noE
def cmpL : Expr → Expr
  | .Compare l _ _ _ => l
  | _ => noE
def lamP : Expr → Arguments
  | .Lambda p _ _ _ => p
  | _ => ⟨[], [], none, [], [], none, []⟩
def lamB : Expr → Expr
  | .Lambda _ b _ _ => b
  | _ => noE
def lamS : Expr → Scope
  | .Lambda _ _ s _ => s
  | _ => ⟨.function, [], false, false, []⟩
def NoLI (o : HO) : Prop := (∀ xs, o ≠ .lst xs) ∧ ∀ C dx fs, o ≠ .ins C dx fs
theorem tabs_but {T : List (Addr × Str)} {H H' : Hp} (hT : Tabs T H) (k : ∀ b o, H b = some o → NoLI o → H' b = some o) : Tabs T H' := fun p hp => by
  obtain ⟨ps, h1, h2, h3⟩ := hT p hp
  refine ⟨ps, k _ _ h1 ⟨fun xs z => (by cases z), fun C dx fs z => (by cases z)⟩, h2, fun pos cv hc => ?_⟩
  obtain ⟨c, e1, e2⟩ := h3 pos cv hc
  exact ⟨c, e1, k _ _ e2 ⟨fun xs z => (by unfold CodeO at z; cases z), fun C dx fs z => (by unfold CodeO at z; cases z)⟩⟩
theorem tabs_same {T : List (Addr × Str)} {H H' : Hp} (hT : Tabs T H) (s : Same H H') : Tabs T H' := tabs_but hT fun b o e _ => s b o e
theorem tabs_kp {T : List (Addr × Str)} {H H' : Hp} {h c : Addr} (hT : Tabs T H) (d : Dr H h c) (k : Kp h c H H') : Tabs T H' := by
  obtain ⟨_, m, kk, ns, e1, e2, _⟩ := d
  refine tabs_but hT fun b o e n => k b o e (fun z => ?_) (fun z => ?_)
  · rw [z, e1] at e
    cases e
    exact n.1 _ rfl
  · rw [z, e2] at e
    cases e
    exact n.1 _ rfl
theorem Dr.extN {H H' : Hp} {h c : Addr} (d : Dr H h c) (s : ExtN H H') : Dr H' h c := by
  obtain ⟨n, m, k, ns, e1, e2, l⟩ := d
  exact ⟨n, m, k, ns, s _ _ e1 (fun ps z => (by cases z)), s _ _ e2 (fun ps z => (by cases z)), l⟩
theorem TK.extN {K : PySem.W.Frag} {H H' : Hp} (s : ExtN H H') : TK K H H' := fun a xs h => by
  rcases h with (h | ⟨o, h⟩) | h
  · exact .inl (.inl (s _ _ h fun ps z => by cases z))
  · exact .inl (.inr ⟨o, s _ _ h fun ps z => by cases z⟩)
  · exact .inr h
theorem Dr.nh {H : Hp} {h c b : Addr} (d : Dr H h c) (n : H b = none) : b ≠ h ∧ b ≠ c := by
  obtain ⟨_, m, kk, ns, e1, e2, _⟩ := d
  refine ⟨fun z => ?_, fun z => ?_⟩
  · rw [z, e1] at n
    cases n
  · rw [z, e2] at n
    cases n
def tI (i : Int) : TE := tC (.int i)
def tP (a b : TE) : TE := tTup (tCons a (tCons b tNil))
def rPw : R2 := rI CPow fun i j => .int (i ^ j.toNat)
def rAd : R2 := rI0 fun i j => .int (i + j)
def tMn (a : TE) : TE := tUn (rU fun i => .int (-i)) a
theorem ev_tI {σ : L2.St} {H : Hp} {i : Int} : Ev (tI i) σ H (.int i) := ev_c
theorem ev_pw {σ : L2.St} {H : Hp} {a b : TE} {i j : Int} (ha : Ev a σ H (.int i)) (hb : Ev b σ H (.int j)) (h : CPow i j) : Ev (tOp rPw a b) σ H (.int (i ^ j.toNat)) := ev_op ha hb (rv_I h)
theorem ev_ad {σ : L2.St} {H : Hp} {a b : TE} {i j : Int} (ha : Ev a σ H (.int i)) (hb : Ev b σ H (.int j)) : Ev (tOp rAd a b) σ H (.int (i + j)) := ev_op ha hb rv_I0
theorem ev_mn {σ : L2.St} {H : Hp} {a : TE} {i : Int} (ha : Ev a σ H (.int i)) : Ev (tMn a) σ H (.int (-i)) := ev_un ha ru_neg
theorem eu_ifT {t : TT} {ta tb : TE} {σ : L2.St} {H : Hp} {xs : List V} (h : EvT t σ H true) (h1 : EvU ta σ H xs) : EvU (tIf t ta tb) σ H xs := fun H1 e Q q => h H1 e _ fun H2 e2 => iteT (h1 H2 (e.trans e2) _ fun p H3 np e3 hp => q p H3 (fresh_back e2 np) (e2.trans e3) hp)
theorem eu_ifF {t : TT} {ta tb : TE} {σ : L2.St} {H : Hp} {xs : List V} (h : EvT t σ H false) (h1 : EvU tb σ H xs) : EvU (tIf t ta tb) σ H xs := fun H1 e Q q => h H1 e _ fun H2 e2 => iteF (h1 H2 (e.trans e2) _ fun p H3 np e3 hp => q p H3 (fresh_back e2 np) (e2.trans e3) hp)
theorem et_isN {σ : L2.St} {H : Hp} {i : Nat} {v : V} (hs : σ[i]? = some (some v)) : EvT (tTest (tOp (fun x y H Q => y = .non ∧ Q (.bl (decide (x = .non))) H) (tVar i) (tC .non))) σ H (decide (v = .non)) :=
  et_test (ev_op (ev_var hs) ev_c (fun H3 _ Q3 q3 => ⟨rfl, q3 H3 (Ex.refl _)⟩))
theorem eqv_self (d : PyData) (h : SeqAt.shaped d = true) : PyData.eqv d d = true := SeqAt.eqv_refl d (SeqAt.canLay_of_shaped h)
/-! ### expressions that give data, all kept -/
def EvDp (K : PySem.W.Frag) (te : TE) (σ : L2.St) (H : Hp) (d : PyData) : Prop := EvD te σ H fun v H => Dp K H v d
def EvDpA (K : PySem.W.Frag) (ta : TA) (σ : L2.St) (H : Hp) (ds : List PyData) : Prop := ∀ H1, Ex H H1 → ∀ Q : List V → Hp → Prop, (∀ vs H2, Ex H1 H2 → DpAll K H2 vs ds → Q vs H2) → ta σ H1 Q
section
variable {K : PySem.W.Frag} {te tb tx : TE} {ta tr : TA} {σ : L2.St} {H : Hp} {d e : PyData} {ds : List PyData}
theorem edp_ev {v : V} (h : Ev te σ H v) (hd : ∀ H2, Ex H H2 → Dp K H2 v d) : EvDp K te σ H d := ed_of h hd
theorem edp_int {i : Int} (h : Ev te σ H (.int i)) : EvDp K te σ H (.int i) := edp_ev h fun _ _ => .int i
theorem edp_str {x : Str} : EvDp K (tC (.str x)) σ H (.str x) := edp_ev ev_c fun _ _ => .str x
theorem eda_nil : EvDpA K tNil σ H [] := fun H1 _ Q q => q [] H1 (Ex.refl _) .nil
theorem eda_cons (h : EvDp K tx σ H d) (hr : EvDpA K tr σ H ds) : EvDpA K (tCons tx tr) σ H (d :: ds) := fun H1 e Q q =>
  h H1 e _ fun v H2 e2 hv => hr H2 (e.trans e2) _ fun vs H3 e3 hvs => q _ _ (e2.trans e3) (.cons (dp_ex e3 hv) hvs)
theorem edp_lst (h : EvDpA K ta σ H ds) (hl : ds.length ≤ 1000) : EvDp K (tLst ta) σ H (.list ds) := fun H1 e Q q => h H1 e _ fun vs H2 e2 hvs => ⟨Nat.le_of_lt (small1000 (by rw [dps_len hvs]; exact hl)), fun p np => q _ _ (e2.trans (Ex.new np)) (.lst (.of upd_same) (dps_ex (Ex.new np) hvs))⟩
theorem edp_tup (h : EvDpA K ta σ H ds) (hl : ds.length ≤ 1000) : EvDp K (tTup ta) σ H (.tuple ds) := fun H1 e Q q => h H1 e _ fun vs H2 e2 hvs => ⟨Nat.le_of_lt (small1000 (by rw [dps_len hvs]; exact hl)), fun p np => q _ _ (e2.trans (Ex.new np)) (.tup (.of upd_same) (dps_ex (Ex.new np) hvs))⟩
theorem et_neD (h1 : EvDp K te σ H d) (h2 : EvDp K tb σ H e) (s1 : SeqAt.shaped d = true) (s2 : SeqAt.shaped e = true) : EvT (tTest (tOp (rNeD K) te tb)) σ H (!PyData.eqv d e) := fun H1 a Q q =>
  h1 H1 a _ fun v H2 e2 hv => h2 H2 (a.trans e2) _ fun u H3 e3 hu => ⟨d, e, dp_ex e3 hv, hu, s1, s2, _, rfl, q H3 (e2.trans e3)⟩
theorem et_same (h1 : EvDp K te σ H d) (h2 : EvDp K tb σ H d) (s1 : SeqAt.shaped d = true) : EvT (tTest (tOp (rNeD K) te tb)) σ H false := et_is (et_neD h1 h2 s1 s1) (by rw [eqv_self d s1]; rfl)
end
theorem et_al {K : PySem.W.Frag} {ta : TA} {σ : L2.St} {H : Hp} {d : PyData} (hA : EvDpA K ta σ H [d, d]) (hd : IntD 3 d) : EvT (tNot (tB (tCall (spAl K 4) [] E0 ta))) σ H false := fun H1 e Q q =>
  hA H1 e (fun vs H2 => spAl K 4 (vs ++ []) H2 (fun x H3 => ∃ c, x = .bl c ∧ Q (!c) H3) E0) fun vs H2 e2 hvs => by
    cases hvs with
    | cons h1 hr =>
      cases hr with
      | cons h2 hr2 =>
        cases hr2
        exact ⟨3, _, _, d, by decide, rfl, h1, h2, hd, fun H5 s5 => ⟨true, rfl, q H5 (e2.trans s5)⟩⟩
theorem pick2 (a b v : Int) (h0 : 0 ≤ v) (h1 : v < 2) : ∃ w, atI [V.int a, V.int b] v = some (.int w) ∧ (w = a ∨ w = b) := by
  rcases (show v = 0 ∨ v = 1 by omega) with rfl | rfl
  · exact ⟨a, rfl, .inl rfl⟩
  · exact ⟨b, rfl, .inr rfl⟩
theorem ev_eqD {K : PySem.W.Frag} {te tb : TE} {σ : L2.St} {H : Hp} {d : PyData} (h1 : EvDp K te σ H d) (h2 : EvDp K tb σ H d) (s1 : SeqAt.shaped d = true) : Ev (tOp (rEqD K) te tb) σ H (.bl true) := fun H1 a Q q =>
  h1 H1 a _ fun v H2 e2 hv => h2 H2 (a.trans e2) _ fun u H3 e3 hu => ⟨d, d, dp_ex e3 hv, hu, s1, s1, by
    rw [eqv_self d s1]
    exact q H3 (e2.trans e3)⟩
theorem lam_ne {f : Addr} {F : LF} : ∀ ps, LamO f F ≠ .tbl ps := Stands.no_tbl
theorem code_ne {c : Addr} {q : Str} : ∀ ps, CodeO c q ≠ .tbl ps := fun ps z => by
  unfold CodeO at z
  cases z
theorem at_int {α : Type} {xs : List α} {i : Nat} (hi : i < xs.length) : atI xs ((i : Nat) : Int) = some xs[i] := at_nat hi (List.getElem?_eq_getElem hi)
end Sea

set_option Elab.async false
set_option linter.all false
set_option maxRecDepth 100000
set_option maxHeartbeats 4000000
/-! several except clauses, each with a name for the error or without one -/
namespace Sea
open PySem PySem.Spec PyProof.Rows L2
/-- a clause: its class, the slot of its name (if it has one), its suite -/
structure Cla where
  c : Value
  slot : Option Nat
  ts : Addr → Value → Option Addr → TS
def namd (o : Option Nat) (v : Option V) (σ : L2.St) : L2.St := match o with
  | none => σ
  | some i => σ.set i v
/-- behind the suite the name is gone -/
def past (D : Ends) (o : Option Nat) : Ends := { nx := fun σ H => D.nx (namd o none σ) H, rt := D.rt, bk := fun σ H => D.bk (namd o none σ) H, ct := fun σ H => D.ct (namd o none σ) H }
/-- what clauses, tried in turn, wish of the error that the body lets out -/
def wCla (K : PySem.W.Frag) (Wout : WX) (D : Ends) : List Cla → WX
  | [] => Wout
  | x :: r => fun cls d σ H => ∃ b, PySem.W.exmOne K cls x.c = some b ∧ match b with
    | true => ∀ a, H a = none → x.ts a cls d (past D x.slot) (namd x.slot (some (.ref a)) σ) H
    | false => wCla K Wout D r cls d σ H
inductive ClaOk (X : Cx) : ExceptHandler → Cla → Prop
  | bare {x : Str} {c : Value} {ts : Addr → Value → Option Addr → TS} {b₀ : Stmt} {suite : List Stmt} {np pos : Pos} (hc : Names X x c)
      (hsu : ∀ (a : Addr) (oe : Obj) (cls : Value) (d : Option Addr) (pn : List (Addr × Obj)), Zc cls d oe → (∃ vs, oe.data = .fields vs) → PSs (X.suite a ((a, oe) :: pn)) (b₀ :: suite) (ts a cls d)) :
      ClaOk X (.ExceptHandler (some (.Name x np)) none (b₀ :: suite) pos) ⟨c, none, ts⟩
  | named {x n : Str} {i : Nat} {c : Value} {ts : Addr → Value → Option Addr → TS} {b₀ : Stmt} {suite : List Stmt} {np pos : Pos} (hN : X.N.Nodup) (hi : X.N[i]? = some n) (hl : X.env.kindOf n = some .local) (hc : Names X x c)
      (hsu : ∀ (a : Addr) (oe : Obj) (cls : Value) (d : Option Addr) (pn : List (Addr × Obj)), Zc cls d oe → (∃ vs, oe.data = .fields vs) → PSs (X.suite a ((a, oe) :: pn)) (b₀ :: suite) (ts a cls d)) :
      ClaOk X (.ExceptHandler (some (.Name x np)) (some n) (b₀ :: suite) pos) ⟨c, some i, ts⟩
inductive ClasOk (X : Cx) : List ExceptHandler → List Cla → Prop
  | nil : ClasOk X [] []
  | cons {h : ExceptHandler} {x : Cla} {hs : List ExceptHandler} {xs : List Cla} (a : ClaOk X h x) (r : ClasOk X hs xs) : ClasOk X (h :: hs) (x :: xs)
/-- the error at a is caught: s is the state in which the clauses are tried; what it was without the error's own objects is told by src -/
structure Caught (X : Cx) (pins : List (Addr × Obj)) (σ : L2.St) (H : Hp) (a : Addr) (cls : Value) (d : Option Addr) (s : Shared) : Prop where
  free : H a = none
  src : ∃ (B : Heap) (s0 : Shared), Inv X pins σ H s0 ∧ (∀ b o, s0.heap.get? b = some o → b ∉ frs X.stack → B.get? b = some o) ∧ s0.heap.UpToSlots s.heap ∧ HandSPX.FlyingZ B X.stack a (Zc cls d) s.heap ∧ s.os = s0.os ∧ AllBare s.gens
section
variable {X : Cx} {pins : List (Addr × Obj)} {σ : L2.St} {H : Hp} {a : Addr} {cls : Value} {d : Option Addr} {s : Shared} {W : WX} {D : Ends}
theorem Caught.inv (c : Caught X pins σ H a cls d s) : Inv X pins σ H s :=
  let ⟨_, _, I, nb, up, fl, os, ag⟩ := c.src
  I.landed nb fl.1 up os ag
/-- its object is none of the frames' -/
theorem Caught.obj (c : Caught X pins σ H a cls d s) : ∃ oe, s.heap.get? a = some oe ∧ Zc cls d oe ∧ (∃ vs, oe.data = .fields vs) ∧ a ∉ frs X.stack := by
  obtain ⟨B, s0, _, _, _, ⟨_, _, frames, oe, vs, _, _, _, there, z, rec, _⟩, _⟩ := c.src
  refine ⟨oe, there, z, ⟨vs, rec⟩, fun m => ?_⟩
  obtain ⟨_, o, at_, other⟩ := frames.mem m
  cases there.symm.trans at_
  exact other vs rec
/-- the flight is set to none once more -/
theorem Caught.land {M : Model} {A : Around} {E : Value → Shared → Prop} {Q : Unit → Shared → Prop} (c : Caught X pins σ H a cls d s) (k : ∀ s', Caught X pins σ H a cls d s' → Q () s') : wpAny M A (setFlight (.ref a) none) Q E s :=
  let ⟨B, s0, I, nb, up, fl, os, ag⟩ := c.src
  HandSPX.lands_againZ fl fun h fl' more => k { s with heap := h } ⟨c.free, B, s0, I, nb, up.trans more, fl', os, ag⟩
/-- within a suite -/
theorem Caught.within (hs : X.stack = X.env :: X.outer) (hf : X.env.frame = some X.env.locals) (c : Caught X pins σ H a cls d s) : ∃ oe, Zc cls d oe ∧ (∃ vs, oe.data = .fields vs) ∧ s.heap.get? a = some oe ∧ Inv (X.suite a ((a, oe) :: (X.pn ++ pins))) [] σ H s := by
  obtain ⟨oe, there, z, ⟨vs, rec⟩, nf⟩ := c.obj
  rw [hs] at nf
  have n1 : a ≠ X.env.locals := fun e => nf (List.mem_filterMap.mpr ⟨X.env, List.mem_cons_self, by rw [hf, e]⟩)
  have n2 : a ∉ X.fs := fun m => nf (let ⟨e, he, q⟩ := List.mem_filterMap.mp m; List.mem_filterMap.mpr ⟨e, List.mem_cons_of_mem _ he, q⟩)
  exact ⟨oe, z, ⟨vs, rec⟩, there, c.inv.suite there rec c.free n1 n2⟩
/-- the class that a clause names is read -/
theorem Caught.test (hs : X.stack = X.env :: X.outer) (hf : X.env.frame = some X.env.locals) (c : Caught X pins σ H a cls d s) {x : Str} {v : Value} {p : Pos} (nm : Names X x v) {Q E : Value → Shared → Prop} (q : Q v s) :
    wpAny (model X.prog X.w) (X.A.mark (some (.ref a))) (eval (.Name x p) X.env) Q E s :=
  let ⟨_, _, _, _, S⟩ := c.within hs hf
  match nm with
  | ⟨g, dbg, .inl m⟩ => ld_glob S g m q dbg
  | ⟨g, dbg, .inr ⟨m, b, n⟩⟩ => ld_blt S g m b q n dbg
/-- one clause is tried -/
theorem Caught.clause (hs : X.stack = X.env :: X.outer) (hf : X.env.frame = some X.env.locals) (c : Caught X pins σ H a cls d s) {h : ExceptHandler} {x : Cla} {rest : List ExceptHandler} (ok : ClaOk X h x) {b : Bool} (one : PySem.W.exmOne X.K cls x.c = some b)
    (yes : b = true → x.ts a cls d (past D x.slot) (namd x.slot (some (.ref a)) σ) H) (no : b = false → wpAny (model X.prog X.w) X.A (handleBy (.ref a) X.env rest) (SP X pins D) X.xe s) :
    wpAny (model X.prog X.w) X.A (handleBy (.ref a) X.env (h :: rest)) (SP X pins D) X.xe s := by
  have frame := c.inv.ok
  have ty : PySem.W.Looks (model X.prog X.w) s.heap (typeOf (.ref a)) cls := by
    obtain ⟨oe, there, z, _⟩ := c.obj
    exact fun A Q E s' keep q => wpAny_typeOf_ref (keep _ _ there) (z.1.symm ▸ q)
  have match_ := PySem.W.exm_one c.inv.kIn ty one
  cases ok with
  | bare nm su =>
    refine wpAny_handleBy_cons (codeAny_handlers_test (c.test hs hf nm (match_.here ?_))) nofun
    cases b with
    | false => exact no rfl
    | true =>
      refine codeAny_handlers_suite (c.land fun s2 c2 => ?_)
      obtain ⟨oe, z, rec, _, S⟩ := c2.within hs hf
      refine wpAny_mono ((su a oe cls d _ z rec).run [] s2 _ H _ S (yes rfl)) (fun f s3 out => ?_) fun _ _ z => z.elim
      match f, out with
      | .next, ⟨_, _, S3, q⟩ => exact ⟨_, _, S3.unsuite frame, q⟩
      | .brk, ⟨_, _, S3, q⟩ => exact ⟨_, _, S3.unsuite frame, q⟩
      | .cont, ⟨_, _, S3, q⟩ => exact ⟨_, _, S3.unsuite frame, q⟩
      | .ret _, ⟨_, _, _, S3, r, q⟩ => exact ⟨_, _, _, S3.unsuite frame, r, q⟩
  | named nd hi hl nm su =>
    refine wpAny_handleBy_cons (codeAny_handlers_test (c.test hs hf nm (match_.here ?_))) nofun
    cases b with
    | false => exact no rfl
    | true =>
      refine codeAny_handlers_suite_as (c.land fun s2 c2 => ?_)
      obtain ⟨oe, z, rec, _, S⟩ := c2.within hs hf
      refine store_ok (X := X.suite a ((a, oe) :: (X.pn ++ pins))) (v := .ref a) S nd hi (.inl hl) rfl (fun s3 S3 => ?_) (.inr hl)
      refine wpAny_mono ((su a oe cls d _ z rec).run [] s3 _ H _ S3 (yes rfl)) (fun f s4 out => ?_) fun _ _ z => z.elim
      match f, out with
      | .next, ⟨_, _, S4, q⟩ => exact gone_ok (S4.unsuite frame) nd hi hl fun _ J => ⟨_, _, J, q⟩
      | .brk, ⟨_, _, S4, q⟩ => exact gone_ok (S4.unsuite frame) nd hi hl fun _ J => ⟨_, _, J, q⟩
      | .cont, ⟨_, _, S4, q⟩ => exact gone_ok (S4.unsuite frame) nd hi hl fun _ J => ⟨_, _, J, q⟩
      | .ret _, ⟨_, _, _, S4, r, q⟩ => exact gone_ok (S4.unsuite frame) nd hi hl fun _ J => ⟨_, _, _, J, r, q⟩
/-- no clause is left: it goes on from here -/
theorem Caught.out (hs : X.stack = X.env :: X.outer) (hf : X.env.frame = some X.env.locals) (tk : Takes X W) (c : Caught X pins σ H a cls d s) (w : W cls d σ H) {Q : Flow → Shared → Prop} : wpAny (model X.prog X.w) X.A (handleBy (.ref a) X.env []) Q X.xe s := by
  obtain ⟨na, B, s0, I, nb, up, fl, os, ag⟩ := c
  obtain ⟨oe, vs, T, _, _, there, _, rec, trace, _⟩ := id fl.2.2.2
  have leaves : wpAny (model X.prog X.w) X.A (setFlight (.ref a) X.env.frame) (fun _ s1 => wpAny (model X.prog X.w) X.A (throw (.ref a) : Sem Flow) Q X.xe s1) X.xe s :=
    hf ▸ HandSPX.setFlight_upZ fl fun h held more => wpAny_throw (tk (.ref a) _ ⟨a, B, s0, pins, σ, H, cls, d, rfl, I, nb, up.trans more, .inr (.inr held), na, os, ag, w⟩)
  have has : (Value.ref T == Value.none) = false := rfl
  refine wpAny_handleBy_nil (wpAny_bind (wpAny_field there rec trace ?_))
  simp only [has, Bool.false_eq_true, if_false]
  first
    | exact wpAny_bind leaves
    | exact wpAny_bind (wpAny_pure (wpAny_bind leaves))
/-- clauses, tried in turn -/
theorem Caught.turns (hs : X.stack = X.env :: X.outer) (hf : X.env.frame = some X.env.locals) (tk : Takes X W) (c : Caught X pins σ H a cls d s) : ∀ {l : List ExceptHandler} {xs : List Cla}, ClasOk X l xs → wCla X.K W D xs cls d σ H →
    wpAny (model X.prog X.w) X.A (handleBy (.ref a) X.env l) (SP X pins D) X.xe s
  | _, _, .nil, w => c.out hs hf tk w
  | _, _, .cons ok r, ⟨true, one, w⟩ => c.clause hs hf ok one (fun _ => w a c.free) nofun
  | _, _, .cons ok r, ⟨false, one, w⟩ => c.clause hs hf ok one nofun fun _ => c.turns hs hf tk r w
/-- try: body, several except clauses -/
theorem ps_try_cls {body : List Stmt} {h₀ : ExceptHandler} {l : List ExceptHandler} {xs : List Cla} {pos : Pos} {tb : WX → TS} (hs : X.stack = X.env :: X.outer) (hf : X.env.frame = some X.env.locals) (tk : Takes X W)
    (hb : ∀ (U : WX) (pn : List (Addr × Obj)) (xe : Value → Shared → Prop), Takes (X.tr pn xe) U → PassesOwn (model X.prog X.w) X.A X.env xe → PSs (X.tr pn xe) body (tb U)) (hl : ClasOk X (h₀ :: l) xs) :
    PS X (.Try body (h₀ :: l) [] [] pos) (fun D σ H => tb (wCla X.K W D xs) D σ H) := by
  constructor
  intro pins s σ H D I h
  have frame := I.ok
  have top : X.A.frames = some (X.env :: X.outer) := hs ▸ frame.frames
  apply wpAny_Try_except
  refine wpAny_mono ((hb (wCla X.K W D xs) (X.pn ++ pins) _ ?_ PassesOwn.looking).run [] s σ H D (I.toTry _) h) ?_ fun _ _ z => z
  · rintro u s' ⟨a, B, s0, pn, σ', H', cls, d, rfl, J, nb, up, sky, na, os, ag, w⟩
    exact Sky.land Zc.steady top hf (hs ▸ sky) fun hp fl more => Caught.turns hs hf tk (s := { s' with heap := hp }) ⟨na, B, s0, J.ofTry frame, nb, up.trans more, hs ▸ fl, os, ag⟩ hl w
  · rintro f s1 out
    match f, out with
    | .next, ⟨_, _, J, q⟩ => exact wpAny_execs_nil ⟨_, _, J.ofTry frame, q⟩
    | .brk, ⟨_, _, J, q⟩ => exact ⟨_, _, J.ofTry frame, q⟩
    | .cont, ⟨_, _, J, q⟩ => exact ⟨_, _, J.ofTry frame, q⟩
    | .ret _, ⟨_, _, _, J, r, q⟩ => exact ⟨_, _, _, J.ofTry frame, r, q⟩
end
end Sea

set_option Elab.async false
set_option linter.all false
set_option maxRecDepth 100000
set_option maxHeartbeats 4000000
/-! dicts whose keys are (a whole number, a whole number, a tuple of whole numbers) and whose values are whole numbers: k not in d, d[k], d[k] = v -/
namespace Sea
open PySem PySem.Spec PyProof.Rows L2 LamX NdefX ClX Evl StX
abbrev NK := Int × Int × List Int
def nk (k : NK) : NestedKey := .tup [.num k.1, .num k.2.1, .tup (k.2.2.map .num)]
theorem num_inj : ∀ {xs ys : List Int}, xs.map NestedKey.num = ys.map NestedKey.num → xs = ys
  | [], [], _ => rfl
  | [], _ :: _, e => by cases e
  | _ :: _, [], e => by cases e
  | x :: xs, y :: ys, e => by
    rw [List.map_cons, List.map_cons] at e
    injection e with e1 e2
    injection e1 with e1
    rw [e1, num_inj e2]
theorem nk_inj {k j : NK} (e : nk k = nk j) : k = j := by
  obtain ⟨a, b, c⟩ := k
  obtain ⟨a', b', c'⟩ := j
  unfold nk at e
  injection e with e
  injection e with e1 e
  injection e with e2 e
  injection e with e3 _
  injection e1 with e1
  injection e2 with e2
  injection e3 with e3
  rw [show a = a' from e1, show b = b' from e2, show c = c' from num_inj e3]
theorem nk_dep (k : NK) : (nk k).depth ≤ 8 := by
  have h : ∀ xs : List Int, NestedKey.depthAll (xs.map .num) = 0 := fun xs => by
    induction xs with
    | nil => rfl
    | cons x r ih =>
      show max 0 (NestedKey.depthAll (r.map .num)) = 0
      rw [ih]
      rfl
  show max 0 (max 0 (max (NestedKey.depthAll (k.2.2.map .num) + 1) 0)) + 1 ≤ 8
  rw [h]
  decide
/-- the value y in H is the key k -/
def KeyAt (K : PySem.W.Frag) (H : Hp) (y : V) (k : NK) : Prop := ∃ b m, y = .ref b ∧ SqT K H b [.int k.1, .int k.2.1, .ref m] ∧ SqT K H m (k.2.2.map V.int)
theorem KeyAt.tk {K : PySem.W.Frag} {H H' : Hp} {y : V} {k : NK} (t : TK K H H') (h : KeyAt K H y k) : KeyAt K H' y k := by
  obtain ⟨b, m, e, h1, h2⟩ := h
  exact ⟨b, m, e, t _ _ h1, t _ _ h2⟩
theorem nums_all {h : Heap} : ∀ {xs : List Int} {us : List Value}, Vals (xs.map V.int) us → NestedAll h (xs.map .num) us
  | [], _, r => by cases r; exact .nil
  | x :: xs, _, r => by
    rw [List.map_cons] at r
    cases r with
    | cons a b =>
      obtain ⟨t, rfl⟩ := a
      exact .cons (.int x t) (nums_all b)
section
variable {X : Cx} {pins : List (Addr × Obj)} {σ : L2.St} {H : Hp} {s : Shared}
theorem tup_nested {a : Addr} {xs : List V} {ks : List NestedKey} (I : Inv X pins σ H s) (h : SqT X.K H a xs) (hk : ∀ us, Vals xs us → NestedAll s.heap ks us) : NestedIs s.heap (.tup ks) (.ref a) := by
  obtain ⟨its, r, ⟨o, h1, h2, n, h3⟩, _⟩ := I.tuple h
  exact .tup h1 h2 h3 (by simpa using hk its r)
theorem key_nested {y : V} {u : Value} {k : NK} (I : Inv X pins σ H s) (h : KeyAt X.K H y k) (ry : RelV y u) : ∃ b, u = .ref b ∧ y = .ref b ∧ (nestedKind X.prog X.w).is s.heap (nk k) b := by
  obtain ⟨b, m, rfl, h1, h2⟩ := h
  refine ⟨b, ry, rfl, tup_nested I h1 fun us r => ?_, nk_dep k⟩
  match us, r with
  | _, .cons ⟨t1, e1⟩ (.cons ⟨t2, e2⟩ (.cons e3 .nil)) =>
    subst e1 e2 e3
    exact .cons (.int _ _) (.cons (.int _ _) (.cons (tup_nested I h2 fun us r => nums_all r) .nil))
end
/-- an entry: the key, where it stands, the number -/
abbrev NE := NK × Addr × Int
def NEr : NE → (NestedKey × Addr × Value) → Prop := fun p q => q.1 = nk p.1 ∧ q.2.1 = p.2.1 ∧ ∃ t, q.2.2 = Value.int p.2.2 t
/-- the dict at a with the entries ks -/
def NdO (P : Program) (w : World) (a : Addr) (ks : List NE) : HO := .ext fun h => ks.length ≤ sizeLine ∧ (a == sysModules) = false ∧ ∃ xs, Paired NEr ks xs ∧
  ∃ o es ep, h.get? a = some o ∧ o.ExactDict ∧ o.data = .dict es ep ∧ es.toList = xs.map (entryOfKey (nestedKind P w)) ∧ (xs.map (·.1)).Nodup
def fnd (ks : List NE) (k : NK) : Option Int := (ks.find? fun p => decide (p.1 = k)).map (·.2.2)
def KeysIn (K : PySem.W.Frag) (H : Hp) (ks : List NE) : Prop := ∀ p ∈ ks, KeyAt K H (.ref p.2.1) p.1
theorem KeysIn.tk {K : PySem.W.Frag} {H H' : Hp} {ks : List NE} (t : TK K H H') (h : KeysIn K H ks) : KeysIn K H' ks := fun p hp => (h p hp).tk t
theorem KeysIn.snoc {K : PySem.W.Frag} {H : Hp} {ks : List NE} {k : NK} {b : Addr} {n : Int} (h : KeysIn K H ks) (g : KeyAt K H (.ref b) k) : KeysIn K H (ks ++ [(k, b, n)]) := fun p hp => by
  rcases List.mem_append.mp hp with hp | hp
  · exact h p hp
  · rw [List.mem_singleton] at hp
    subst hp
    exact g
theorem at_fnd {ks : List NE} {xs : List (NestedKey × Addr × Value)} (r : Paired NEr ks xs) (k : NK) :
    (fnd ks k = none ∧ atKey xs (nk k) = none) ∨ ∃ n b t, fnd ks k = some n ∧ atKey xs (nk k) = some (b, Value.int n t) := by
  induction r with
  | nil => exact .inl ⟨rfl, rfl⟩
  | @cons p q ps qs h r ih =>
    obtain ⟨e1, e2, t, e3⟩ := h
    by_cases e : p.1 = k
    · refine .inr ⟨p.2.2, q.2.1, t, ?_, ?_⟩
      · unfold fnd
        rw [List.find?_cons, decide_eq_true e]
        rfl
      · unfold atKey
        rw [List.find?_cons, decide_eq_true (by rw [e1, e])]
        show some (q.2.1, q.2.2) = _
        rw [e3]
    · have e' : ¬ q.1 = nk k := fun z => e (nk_inj (e1.symm.trans z))
      unfold fnd atKey at ih ⊢
      rw [List.find?_cons, decide_eq_false e, List.find?_cons, decide_eq_false e']
      exact ih
theorem pair_mem {α β : Type} {F : α → β → Prop} {x : β} : ∀ {l : List α} {m : List β}, Paired F l m → x ∈ m → ∃ p ∈ l, F p x
  | _, _, .nil, h => nomatch h
  | p :: _, _, .cons f _, .head _ => ⟨p, .head _, f⟩
  | _, _, .cons _ r, .tail _ h => let ⟨p, hp, f⟩ := pair_mem r h; ⟨p, .tail _ hp, f⟩
section
variable {P : Program} {w : World}
theorem nd_no {K : PySem.W.Frag} {H : Hp} {a : Addr} {ks : List NE} (e : H a = some (NdO P w a ks)) (xs : List V) : ¬ Rd H a (.tup xs) := by
  rintro (z | ⟨o, z⟩)
  · rw [e] at z
    cases z
  · rw [e] at z
    cases z
theorem nd_ok {H : Hp} {h : Heap} {a : Addr} {ks : List NE} (x : ObjOk P w H h a (NdO P w a ks)) (hk : ∀ p ∈ ks, (nestedKind P w).is h (nk p.1) p.2.1) : ks.length ≤ sizeLine ∧ (a == sysModules) = false ∧ ∃ xs, Paired NEr ks xs ∧ h.DictOfH (nestedKind P w) a xs := by
  obtain ⟨⟨few, low, xs, r, o, es, ep, at_, ex, dat, ents, nd⟩, _⟩ := x
  exact ⟨few, low, xs, r, o, es, ep, at_, ex, dat, ents, fun x hx => let ⟨p, hp, e1, e2, _⟩ := pair_mem r hx; e1 ▸ e2 ▸ hk p hp, nd⟩
theorem nd_mk {H : Hp} {h : Heap} {a : Addr} {ks : List NE} {xs : List (NestedKey × Addr × Value)} (z : ks.length ≤ sizeLine) (hd : (a == sysModules) = false) (r : Paired NEr ks xs) (d : h.DictOfH (nestedKind P w) a xs) : ObjOk P w H h a (NdO P w a ks) := by
  obtain ⟨o, es, ep, h1, h2, h3, h4, _, h5⟩ := d
  exact ⟨⟨z, hd, xs, r, o, es, ep, h1, h2, h3, h4, h5⟩, ⟨o, h1⟩, fun h1 h2 ⟨z, hd, xs, r, o, es, ep, g1, g2⟩ st => ⟨z, hd, xs, r, o, es, ep, st _ g1, g2⟩⟩
end
section
variable {X : Cx} {pins : List (Addr × Obj)} {σ : L2.St} {H : Hp} {s : Shared} {pos : Pos}
theorem nd_at {a : Addr} {ks : List NE} (I : Inv X pins σ H s) (e : H a = some (NdO X.prog X.w a ks)) (k : KeysIn X.K H ks) : ks.length ≤ sizeLine ∧ (a == sysModules) = false ∧ ∃ xs, Paired NEr ks xs ∧ s.heap.DictOfH (nestedKind X.prog X.w) a xs :=
  nd_ok (I.hok a _ e) fun p hp => by
    obtain ⟨b, _, e, h⟩ := key_nested I (k p hp) rfl
    cases e
    exact h
/-- {}, to be such a dict -/
def tNd (P : Program) (w : World) : TE := fun _ H Q => ∀ p, H p = none → Q (.ref p) (upd H p (NdO P w p []))
theorem pe_nd : PE X (.Dict [] [] pos) (tNd X.prog X.w) := ⟨fun pins s σ H Q I h =>
  wpAny_Dict_empty ⟨.ref s.heap.objs.size, _, I.laid (a := s.heap.objs.size) (o := NdO X.prog X.w s.heap.objs.size []) (t' := s.toks) (fun _ _ q => Heap.get?_push_of_some _ q) (Nat.le_refl _)
    (nd_mk (Nat.zero_le _) (beq_eq_false_iff_ne.mpr (Ne.symm (Nat.ne_of_lt I.big))) .nil (.new s.heap)), rfl, h _ (I.hok.fresh (Nat.le_refl _))⟩⟩
def rNdNot (P : Program) (w : World) (K : PySem.W.Frag) : R2 := fun y d H Q => ∃ a ks k, d = .ref a ∧ H a = some (NdO P w a ks) ∧ KeysIn K H ks ∧ KeyAt K H y k ∧ Q (.bl (!(fnd ks k).isSome)) H
theorem op_ndNot (hu : X.A.units + 9 < cLine) : OpR X (compareOp .NotIn) (rNdNot X.prog X.w X.K) := by
  intro pins s σ H x y v u Q I rx ry h
  obtain ⟨a, ks, k, rfl, e, hk, hy, q⟩ := h
  obtain ⟨b, rfl, _, hb⟩ := key_nested I hy rx
  obtain rfl : u = Value.ref a := ry
  obtain ⟨_, hd, xs, r, dd⟩ := nd_at I e hk
  have es : (fnd ks k).isSome = (atKey xs (nk k)).isSome := by
    rcases at_fnd r k with ⟨e1, e2⟩ | ⟨n, b', t, e1, e2⟩
    · rw [e1, e2]
      rfl
    · rw [e1, e2]
      rfl
  rw [es] at q
  exact wpAny_notIn_heap (knd := nestedKind X.prog X.w) (by show X.A.in1.units + 8 < cLine; rw [Around.in1_units]; omega) hb hd dd ⟨.bl (!(atKey xs (nk k)).isSome), H, I.tok _, rfl, q⟩
def rNdIx (P : Program) (w : World) (K : PySem.W.Frag) : R2 := fun d y H Q => ∃ a ks k n, d = .ref a ∧ H a = some (NdO P w a ks) ∧ KeysIn K H ks ∧ KeyAt K H y k ∧ fnd ks k = some n ∧ Q (.int n) H
theorem pe_ndIx {o i : Expr} {td ty : TE} (hu : X.A.units + 9 < cLine) (ho : PE X o td) (hi : PE X i ty) (hs : NoSl i) : PE X (.Subscript o i pos) (tOp (rNdIx X.prog X.w X.K) td ty) := by
  refine ⟨fun pins s σ H Q I h => ?_⟩
  refine subD_of PySem.F.slot_dict_getitem.lookup hs (thn (ho.run pins s σ H _ I h) fun u s1 ⟨x, H1, I1, rx, q1⟩ => thn (hi.run pins s1 σ H1 _ I1 q1) fun iv s2 ⟨y, H2, I2, ry, a, ks, k, n, ex, e, hk, hy, hn, q2⟩ => ?_)
  subst ex
  obtain rfl : u = Value.ref a := rx
  obtain ⟨b, rfl, _, hb⟩ := key_nested I2 hy ry
  obtain ⟨_, hd, xs, r, dd⟩ := nd_at I2 e hk
  refine ⟨dd.typeIs, ?_⟩
  rcases at_fnd r k with ⟨e1, _⟩ | ⟨n', b', t, e1, e2⟩
  · rw [hn] at e1
    cases e1
  · rw [hn] at e1
    cases e1
    exact wpAny_getItem_heap (knd := nestedKind X.prog X.w) (by show X.A.in1.units + 8 < cLine; rw [Around.in1_units]; omega) hb dd e2 ⟨.int n, H2, I2.tok _, ⟨t, rfl⟩, q2⟩
def rNdSet (P : Program) (w : World) (K : PySem.W.Frag) : TSet := fun o i v H Q => ∃ a ks k b n, o = .ref a ∧ i = .ref b ∧ v = .int n ∧ H a = some (NdO P w a ks) ∧ KeysIn K H ks ∧ KeyAt K H i k ∧ fnd ks k = none ∧ ks.length < sizeLine ∧ Q (upd H a (NdO P w a (ks ++ [(k, b, n)])))
theorem set_nd (hu : X.A.units + 9 < cLine) : PSet X (rNdSet X.prog X.w X.K) := by
  intro pins s σ H o i v ov iv u Q I ro ri rv h
  obtain ⟨a, ks, k, b, n, rfl, rfl, rfl, e, hk, hy, hn, hl, q⟩ := h
  obtain ⟨b', rfl, e2, hb⟩ := key_nested I hy ri
  cases e2
  obtain rfl : ov = Value.ref a := ro
  obtain ⟨t, rfl⟩ := rv
  obtain ⟨z, hd, xs, r, dd⟩ := nd_at I e hk
  have hz : xs.length ≤ sizeLine := by rw [← Paired.length r]; exact z
  refine wpAny_setItem_heap (hsz := hz) (knd := nestedKind X.prog X.w) (by show X.A.in1.units + 8 < cLine; rw [Around.in1_units]; omega) hb dd fun h' dd' sb => ⟨_, ?_, q⟩
  have e0 : atKey xs (nk k) = none := by
    rcases at_fnd r k with ⟨_, e2⟩ | ⟨n', b', t, e1, _⟩
    · exact e2
    · rw [hn] at e1
      cases e1
  rw [storedH_new e0] at dd'
  obtain ⟨ob, hob⟩ : ∃ ob, h'.get? a = some ob := let ⟨ob, _, _, g, _⟩ := dd'; ⟨ob, g⟩
  exact d_write I (by rw [e]; exact True.intro) sb ⟨ob, hob⟩ (nd_mk (by rw [List.length_append]; show ks.length + 1 ≤ _; omega) hd (Paired.snoc r ⟨rfl, rfl, t, rfl⟩) dd')
end
end Sea

set_option Elab.async false
set_option linter.all false
set_option maxRecDepth 100000
set_option maxHeartbeats 4000000
/-! a method whose first row is super().__init__(e) -/
namespace Sea
open PySem PySem.Spec PyProof.Rows L2 LamX NdefX ClX Evl StX
structure FunC (K : PySem.W.Frag) (x qual : Str) (st : Stmt) (cc cda f : Addr) (fd : FuncData) : Prop where
  ex : ∃ (oc : Value) (od : Option Addr) (kV doc pm : Value) (an : Option Addr) (ct : Value) (osl : Array (Option Value)),
    fd = PySem.W.fnX x qual (defArgs st) (defBody st) (defScope st) [("__class__", cc)] .none kV doc pm an (.ref cda) ct ∧ K.lookup f = some ⟨oc, od, .func fd, osl⟩
  cd : PySem.W.codeIn K (.ref cda) qual = true
  kp : PySem.W.keepIn K (.ref f) = true
/-- what super().m asks of the text, for an instance of D itself -/
structure SupT (P : Program) (K : PySem.W.Frag) (mg : Str → Option Value) (D cc cda f2 : Addr) (m : Str) : Prop where
  code : ∃ (ccl : Value) (cdd : Option Addr) (vs : Array Value) (ccs : Array (Option Value)) (file : Str) (tf : Tok), K.lookup cda = some ⟨ccl, cdd, .fields vs, ccs⟩ ∧ vs[2]? = some (.str file tf) ∧ ((P.main.file : Str) == file) = true
  cell : ∃ (cl : Value) (cld : Option Addr) (csl : Array (Option Value)), K.lookup cc = some ⟨cl, cld, .cell (some (.ref D)), csl⟩
  cls : ∃ cd, PySem.W.clsIn K D = some cd
  sub : PySem.W.mroIn K D (.ref D) = some true
  mS : mg "super" = none
  top : (P.main.scope.names.lookup ("super" : Str)).isSome = false
  opq : PySem.W.nsIn K cStatics "thirdparty.any" = some none
  meth : PySem.W.ks_superIn K D D m = some (some (.ref f2))
  ty : PySem.W.typeIn K (.ref f2) = some (.type "function")
  fi : PySem.W.fnIn K f2 = true
theorem boot_super : bootBuiltins "super" = some (.type "super") := by kernel_rfl
section
variable {P : Program} {w : World} {K : PySem.W.Frag} {mg : Str → Option Value} {base : Heap} {D cc cda f f2 : Addr} {x qual : Str} {st : Stmt} {fd fd2 : FuncData} {N ps ps2 : List Str} {sp sp2 : Sp} {k : Nat}
abbrev supF (x qual : Str) (st : Stmt) (cc cda : Addr) : NF := ⟨x, qual, defArgs st, defBody st, defScope st, [("__class__", cc)], cda⟩
theorem class_cell {H : Hp} {s : Shared} {A : Around} {outer : List Env} (e0 : Env0 P w K mg base A outer s H) (hc : ∃ (cl : Value) (cld : Option Addr) (csl : Array (Option Value)), K.lookup cc = some ⟨cl, cld, .cell (some (.ref D)), csl⟩) :
    CellsAt [("__class__", cc)] ["__class__"] [none] s.heap H := by
  obtain ⟨cl, cld, csl, hc⟩ := hc
  have hb := e0.bs _ _ (e0.mod.kin _ _ hc)
  have only : ∀ (y : Str) (c : Addr), ([("__class__", cc)] : List (Str × Addr)).lookup y = some c → y = "__class__" ∧ c = cc := fun y c e => by
    rw [List.lookup_cons] at e
    split at e
    · rename_i h
      cases e
      exact ⟨by simpa using h, rfl⟩
    · cases e
  refine ⟨rfl, fun y c e => ?_, fun x y c e1 e2 => ?_, fun i y e => ?_⟩
  · obtain ⟨_, rfl⟩ := only y c e
    exact ⟨hb.2, _, _, hb.1, rfl⟩
  · rw [(only x c e1).1, (only y c e2).1]
  · match i, e with
    | 0, e =>
      cases e
      exact ⟨cc, rfl, fun v z => by cases z⟩
/-- the end of the body is the end of the call -/
theorem body_end {F : NF} {A : Around} {outer : List Env} {s s' : Shared} {H : Hp} {E : XK} {Q : VK} {pins : List (Addr × Obj)} : ∀ (fl : Flow), SP (ncx (L2.CX P w) P w K mg base N F f A outer s H E) pins { nx := fun _ H' => Q .non H', rt := Q } fl s' →
    CR (L2.CX P w) outer P w H s Q E (.ok (.ret (match fl with | .ret v => v | _ => .none))) s'
  | .ret _, ⟨v, _, H', J, r, q⟩ => ⟨v, H', J.os, J.bare, J.base, J.hok, r, q⟩
  | .next, ⟨_, H', J, q⟩ => ⟨.non, H', J.os, J.bare, J.base, J.hok, rfl, q⟩
  | .brk, ⟨_, _, _, q⟩ => q.elim
  | .cont, ⟨_, _, _, q⟩ => q.elim
theorem sup_core {e : Expr} {rest : List Stmt} {p0 p1 p2 p3 p4 : Pos} {pl : Sem Bool} (S : NScope N ps ["__class__"] (defScope st)) (SU : SupT P K mg D cc cda f2 "__init__")
    (G : FnR P w K mg base CX0 k f2 sp2)
    (hst : defBody st = .Expr (.Call (.Attribute (.Call (.Name "super" p0) [] [] p1) "__init__" p2) [e] [] p3) p4 :: rest)
    (hself : ∃ ar, ((defArgs st).posonlyargs ++ (defArgs st).args).head? = some ar ∧ N[0]? = some ar.arg ∧ (defScope st).names.lookup ar.arg = some .local)
    (hks : (defScope st).names.lookup ("super" : Str) = some .globalImplicit) (hkc : (defScope st).names.lookup ("__class__" : Str) = some .free)
    (he : ∀ L, eval (.Call (.Attribute (.Call (.Name "super" p0) [] [] p1) "__init__" p2) [e] [] p3) (envF (supF x qual st cc cda) f L) = (do
      let ov ← attributeBase (.Call (.Name "super" p0) [] [] p1) "__init__" (envF (supF x qual st cc cda) f L) (eval (.Call (.Name "super" p0) [] [] p1) (envF (supF x qual st cc cda) f L))
      standAt p2.atName
      let (g, first) ← holding [ov] (getMethod ov "__init__" pl)
      callWith p3 g first (backTo p3 (starEach [e] (envF (supF x qual st cc cda) f L))) []))
    (hi : ∀ L, interactive (envF (supF x qual st cc cda) f L) = false)
    (hs : ∀ L, swapsWith (.Call (.Attribute (.Call (.Name "super" p0) [] [] p1) "__init__" p2) [e] [] p3) none p4.line (envF (supF x qual st cc cda) f L) = pure false)
    (hse : ∀ L, starEach [e] (envF (supF x qual st cc cda) f L) = (false, eval e (envF (supF x qual st cc cda) f L)) :: [])
    {A : Around} {outer : List Env} {s : Shared} {H : Hp} {vs : List V} {us : List Value} {Q : VK} {E : XK} {h₁ : Heap} {od oc kV doc pm : _} {an : Option Addr} {ct : Value} {osl : Array (Option Value)} {tk : Nat}
    (lk : K.lookup f = some ⟨oc, od, .func (PySem.W.fnX x qual (defArgs st) (defBody st) (defScope st) [("__class__", cc)] .none kV doc pm an (.ref cda) ct), osl⟩) (hr : Room (k + 1) A) (e0 : Env0 P w K mg base A outer s H) (r : Vals vs us) (hl : vs.length = ps.length) (hns : h₁.Ns s.heap.objs.size fun y => (ps.zip us).reverse.lookup y) (kp : ∀ b o, s.heap.get? b = some o → h₁.get? b = some o)
    (hbody : ∃ te t, PA (ncx (L2.CX P w) P w K mg base N (supF x qual st cc cda) f A outer s H E) [e] te ∧ PSs (ncx (L2.CX P w) P w K mg base N (supF x qual st cc cda) f A outer s H E) rest t ∧
        ∃ a dx fs, (startF N vs [none])[0]? = some (some (.ref a)) ∧ H a = some (.ins D dx fs) ∧ te (startF N vs [none]) H fun ys H1 => sp2 (.ref a :: ys) H1 (fun _ H2 => t { nx := fun _ H' => Q .non H', rt := Q } (startF N vs [none]) H2) (fun _ _ _ => False)) :
    _root_.PySem.wpAt (model P w) (A.deeper (envF (supF x qual st cc cda) f s.heap.objs.size)) (.func (defBody st) (envF (supF x qual st cc cda) f s.heap.objs.size)) (execs (defBody st) (envF (supF x qual st cc cda) f s.heap.objs.size)) (fun fl s' => CR (L2.CX P w) outer P w H s Q E (.ok (.ret (match fl with | .ret v => v | _ => .none))) s')
      (fun e s' => wpAny (model P w) (A.deeper (envF (supF x qual st cc cda) f s.heap.objs.size)) (leaving (envF (supF x qual st cc cda) f s.heap.objs.size) e) (fun _ s'' => CR (L2.CX P w) outer P w H s Q E (.error e) s'') (fun e' s'' => CR (L2.CX P w) outer P w H s Q E (.error e') s'') s') { s with heap := h₁, toks := tk } := by
  have KX : K.In s.heap := e0.mod.kin.keeps fun b o e => (e0.bs b o e).1
  have C := class_cell e0 SU.cell
  obtain ⟨te, t, hte, ht, a, dx, fs, ha0, hHa, hq⟩ := hbody
  have I : Inv (ncx (L2.CX P w) P w K mg base N (supF x qual st cc cda) f A outer s H E) [] (startF N vs [none]) H { s with heap := h₁, toks := tk } := inv_startN (ws := [none]) S hr.hd e0 hl r C hns kp
  rw [hst]
  obtain ⟨ar, har, hN0, hlo⟩ := hself
  obtain ⟨ccl, cdd, cvs, ccs, file, tf, hcode, hvs, hfile⟩ := SU.code
  obtain ⟨cl, cld, csl, hcell⟩ := SU.cell
  obtain ⟨cdD, hD⟩ := SU.cls
  have X1 : K.In h₁ := KX.keeps kp
  obtain ⟨oD, hD1, hD2⟩ : ∃ oD, h₁.get? D = some oD ∧ oD.data = .cls cdD := by
    unfold PySem.W.clsIn at hD
    split at hD
    · rename_i c d cd' sl ho
      cases hD
      exact ⟨_, X1 _ _ ho, rfl⟩
    · cases hD
  obtain ⟨mA, O, _, _, _, _⟩ := ins_get I.hok hHa
  obtain ⟨od2, J, _⟩ := O.look
  refine ks_wpAt_execs_cons (ks_wpAt_Expr_any (ks_wpAt_MethodCall (pl := pl) ?_ (he _)) (hi _) (hs _))
  refine ks_wpAt_super_base (env := envF (supF x qual st cc cda) f s.heap.objs.size) hks hkc rfl rfl (X1 _ _ lk) rfl har rfl (X1 _ _ hcode) rfl hvs hfile SU.top ?_
  obtain ⟨mb, b1, b2⟩ := I.mod.blt
  refine PySem.W.ks_loadName_global S.kind hks (Calls.loadGlobal_builtin (env := envF (supF x qual st cc cda) f s.heap.objs.size) (I.mod.glob.keeps I.bk) SU.mS (b1.keeps I.bk) ((b2 "super" (by decide)).trans boot_super) ⟨rfl, ?_⟩)
  refine wpAny_loadName_free S.kind hkc rfl ⟨_, X1 _ _ hcell, rfl⟩ ?_
  obtain ⟨m, hm1, hm2⟩ := I.loc
  obtain ⟨u, ru, lu⟩ := hm2 0 ar.arg (.ref a) hN0 ha0 (.inl hlo)
  obtain rfl : u = Value.ref a := ru
  have hma : m ar.arg = some (.ref a) := by
    rcases lu with ⟨_, z⟩ | ⟨z, _⟩
    · exact z
    · have z : (defScope st).names.lookup ar.arg = some .cell ∨ (defScope st).names.lookup ar.arg = some .free := z
      rw [hlo] at z
      rcases z with z | z <;> cases z
  refine wpAny_loadName_local S.kind hlo hm1 hma ?_
  refine ks_wpAny_isType_cls hD1 hD2 ⟨rfl, ?_⟩
  refine ks_wpAny_call_super hD1 hD2 J.at_ J.cls (fun c e => ?_) (PySem.W.looks_mroIn X1 SU.sub) (fun h' eN k => ?_)
  · have := J.no
    unfold PySem.W.notCls at this
    rw [e] at this
    exact Bool.noConfusion this
  have I2 := pin_new (t' := tk) I k (Nat.le_refl _) eN (fun v z => by cases z)
  have X2 : K.In h' := X1.keeps k
  obtain ⟨of, hof, hofc⟩ : ∃ of, h'.get? f2 = some of ∧ of.cls = .type "function" := by
    have ht' : (K.lookup f2).map (·.cls) = some (.type "function") := SU.ty
    cases z : K.lookup f2 with
    | none =>
      rw [z] at ht'
      cases ht'
    | some of =>
      rw [z] at ht'
      exact ⟨of, X2 _ _ z, Option.some.inj ht'⟩
  have hm := SU.meth
  unfold PySem.W.ks_superIn at hm
  rw [hD] at hm
  refine PySem.ks_wpAny_getMethod_super (pin_at I2) (PySem.W.looks_opaque X2 SU.opq) (l₀ := cdD.mro) (fun A Q E s k q => wpAny_bind ((PySem.W.looks_clsIn X2 hD) A _ E s k (wpAny_pure q))) rfl X2 hm hof hofc (PySem.W.ks_ne X1 J hD) rfl ?_
  have I3 := pin_new (t' := tk + 1) (o := PySem.W.methodObj (.ref f2) (.ref a)) I2 (fun b o e => Heap.get?_push_of_some _ e) (Nat.le_refl _) (Heap.get?_push_size _ rfl) (fun v z => by cases z)
  have hargs := hte.run p3 _ _ _ _ _ I3 hq
  have hse' := hse s.heap.objs.size
  have hargs : wpAny (model P w) (A.deeper (envF (supF x qual st cc cda) f s.heap.objs.size)) (spliced (backTo p3 (starEach [e] (envF (supF x qual st cc cda) f s.heap.objs.size)))) _ _ _ := hargs
  show wpAny (model P w) (A.deeper (envF (supF x qual st cc cda) f s.heap.objs.size)) (callWith p3 (.ref h'.objs.size) [] (backTo p3 (starEach [e] (envF (supF x qual st cc cda) f s.heap.objs.size))) []) _ _ _
  rw [hse'] at hargs ⊢
  refine PySem.W.callWith_of (P := PySem.W.MethP K h'.objs.size f2 (.ref a)) rfl (PySem.W.keeps_M SU.fi) (Calls.evalArgs_plain (thn hargs fun us s1 hh => ?_))
  obtain ⟨ys, H1, I4, r4, q4⟩ := hh
  refine ⟨⟨pin_at I4, I4.kIn⟩, wpAny_call (PySem.W.method_call (pin_at I4) ?_)⟩
  have run := run_fnR (us := Value.ref a :: us) (vs := V.ref a :: ys) G (hr.deeper _) pass0 I4 (.cons rfl r4) q4
  refine codeAny_mono run fun r s' hq => ?_
  match r, hq with
  | .error _, hq => exact hq
  | .ok (.ret _), ⟨_, H2, I5, _, q5⟩ => exact PySem.wpAt_of_wpAny (wpAny_mono (ht.run _ _ _ _ _ I5 q5) (fun fl _ hs => body_end fl hs) fun _ _ hs => hs)
theorem fn_sup {e : Expr} {rest : List Stmt} {p0 p1 p2 p3 p4 : Pos} {pl : Sem Bool} (FC : FunC K x qual st cc cda f fd) (S : NScope N ps ["__class__"] (defScope st)) (SU : SupT P K mg D cc cda f2 "__init__")
    (G : FnR P w K mg base CX0 k f2 sp2)
    (hst : defBody st = .Expr (.Call (.Attribute (.Call (.Name "super" p0) [] [] p1) "__init__" p2) [e] [] p3) p4 :: rest)
    (hself : ∃ ar, ((defArgs st).posonlyargs ++ (defArgs st).args).head? = some ar ∧ N[0]? = some ar.arg ∧ (defScope st).names.lookup ar.arg = some .local)
    (hks : (defScope st).names.lookup ("super" : Str) = some .globalImplicit) (hkc : (defScope st).names.lookup ("__class__" : Str) = some .free)
    (len : ∀ vs H Q E, sp vs H Q E → vs.length = ps.length)
    (he : ∀ L, eval (.Call (.Attribute (.Call (.Name "super" p0) [] [] p1) "__init__" p2) [e] [] p3) (envF (supF x qual st cc cda) f L) = (do
      let ov ← attributeBase (.Call (.Name "super" p0) [] [] p1) "__init__" (envF (supF x qual st cc cda) f L) (eval (.Call (.Name "super" p0) [] [] p1) (envF (supF x qual st cc cda) f L))
      standAt p2.atName
      let (g, first) ← holding [ov] (getMethod ov "__init__" pl)
      callWith p3 g first (backTo p3 (starEach [e] (envF (supF x qual st cc cda) f L))) []))
    (hi : ∀ L, interactive (envF (supF x qual st cc cda) f L) = false)
    (hs : ∀ L, swapsWith (.Call (.Attribute (.Call (.Name "super" p0) [] [] p1) "__init__" p2) [e] [] p3) none p4.line (envF (supF x qual st cc cda) f L) = pure false)
    (hse : ∀ L, starEach [e] (envF (supF x qual st cc cda) f L) = (false, eval e (envF (supF x qual st cc cda) f L)) :: [])
    (hbody : ∀ (A : Around) (outer : List Env) (s : Shared) (H : Hp) (vs : List V) (Q : VK) (E : XK), Room k (A.deeper (envF (supF x qual st cc cda) f s.heap.objs.size)) → sp vs H Q E →
      ∃ te t, PA (ncx (L2.CX P w) P w K mg base N (supF x qual st cc cda) f A outer s H E) [e] te ∧ PSs (ncx (L2.CX P w) P w K mg base N (supF x qual st cc cda) f A outer s H E) rest t ∧
        ∃ a dx fs, (startF N vs [none])[0]? = some (some (.ref a)) ∧ H a = some (.ins D dx fs) ∧ te (startF N vs [none]) H fun ys H1 => sp2 (.ref a :: ys) H1 (fun _ H2 => t { nx := fun _ H' => Q .non H', rt := Q } (startF N vs [none]) H2) (fun _ _ _ => False)) :
    FnOk P w K mg base (L2.CX P w) (k + 1) f fd ps sp := by
  obtain ⟨oc, od, kV, doc, pm, an, ct, osl, rfl, lk⟩ := FC.ex
  refine ⟨len, fun A outer s H args us vs Q E hr e0 hb r hsp => ?_⟩
  have KX : K.In s.heap := e0.mod.kin.keeps fun b o e => (e0.bs b o e).1
  have lim : s.heap.NoLimit := e0.mod.nolimit.keeps fun b o e => (e0.bs b o e).1
  exact ks_codeAny_call_defAt (binds := ps.zip us) hr.depth (KX _ _ lk) rfl lim (PySem.W.codeRec_of KX FC.cd) rfl hb S.nocell (fun ⟨n, _⟩ hy => S.par n (List.of_mem_zip hy).1) (fun h₁ hns kp => sup_core S SU G hst hself hks hkc he hi hs hse lk hr e0 r (len _ _ _ _ hsp) hns kp (hbody A outer s H vs Q E (hr.deeper _) hsp)) S.co S.gen S.kind
theorem fn_supS {pv : Str} {e : Expr} {rest : List Stmt} {p0 p1 p2 p3 p4 : Pos} {pl : Sem Bool} (FC : FunC K x qual st cc cda f fd) (S : NScope N (ps ++ [pv]) ["__class__"] (defScope st)) (SU : SupT P K mg D cc cda f2 "__init__")
    (G : FnR P w K mg base CX0 k f2 sp2)
    (hst : defBody st = .Expr (.Call (.Attribute (.Call (.Name "super" p0) [] [] p1) "__init__" p2) [e] [] p3) p4 :: rest)
    (hself : ∃ ar, ((defArgs st).posonlyargs ++ (defArgs st).args).head? = some ar ∧ N[0]? = some ar.arg ∧ (defScope st).names.lookup ar.arg = some .local)
    (hks : (defScope st).names.lookup ("super" : Str) = some .globalImplicit) (hkc : (defScope st).names.lookup ("__class__" : Str) = some .free)
    (hb : ∀ us rest : List Value, us.length = ps.length → bindArgs fd ⟨us ++ rest, []⟩ = (newTuple rest >>= fun t => pure (ps.zip us ++ [(pv, t)])))
    (len : ∀ vs H Q E, sp vs H Q E → vs.length = (ps ++ [pv]).length)
    (he : ∀ L, eval (.Call (.Attribute (.Call (.Name "super" p0) [] [] p1) "__init__" p2) [e] [] p3) (envF (supF x qual st cc cda) f L) = (do
      let ov ← attributeBase (.Call (.Name "super" p0) [] [] p1) "__init__" (envF (supF x qual st cc cda) f L) (eval (.Call (.Name "super" p0) [] [] p1) (envF (supF x qual st cc cda) f L))
      standAt p2.atName
      let (g, first) ← holding [ov] (getMethod ov "__init__" pl)
      callWith p3 g first (backTo p3 (starEach [e] (envF (supF x qual st cc cda) f L))) []))
    (hi : ∀ L, interactive (envF (supF x qual st cc cda) f L) = false)
    (hs : ∀ L, swapsWith (.Call (.Attribute (.Call (.Name "super" p0) [] [] p1) "__init__" p2) [e] [] p3) none p4.line (envF (supF x qual st cc cda) f L) = pure false)
    (hse : ∀ L, starEach [e] (envF (supF x qual st cc cda) f L) = (false, eval e (envF (supF x qual st cc cda) f L)) :: [])
    (hbody : ∀ (A : Around) (outer : List Env) (s : Shared) (H : Hp) (vs : List V) (Q : VK) (E : XK), Room k (A.deeper (envF (supF x qual st cc cda) f s.heap.objs.size)) → sp vs H Q E →
      ∃ te t, PA (ncx (L2.CX P w) P w K mg base N (supF x qual st cc cda) f A outer s H E) [e] te ∧ PSs (ncx (L2.CX P w) P w K mg base N (supF x qual st cc cda) f A outer s H E) rest t ∧
        ∃ a dx fs, (startF N vs [none])[0]? = some (some (.ref a)) ∧ H a = some (.ins D dx fs) ∧ te (startF N vs [none]) H fun ys H1 => sp2 (.ref a :: ys) H1 (fun _ H2 => t { nx := fun _ H' => Q .non H', rt := Q } (startF N vs [none]) H2) (fun _ _ _ => False)) :
    FnR P w K mg base (L2.CX P w) (k + 1) f (fun vs H Q E => ∃ ws rest, vs = ws ++ rest ∧ ws.length = ps.length ∧ rest.length ≤ sizeLine ∧ ∀ p, H p = Option.none → sp (ws ++ [V.ref p]) (upd H p (.tup rest)) Q E) := by
  obtain ⟨oc, od, kV, doc, pm, an, ct, osl, rfl, lk⟩ := FC.ex
  intro A outer s H us vs Q E hr e0 r hsp
  obtain ⟨ws, rest', ev, hl, hz, hq⟩ := hsp
  subst ev
  obtain ⟨u1, u2, eu, r1, r2⟩ := vals_split r
  subst eu
  have KX : K.In s.heap := e0.mod.kin.keeps fun b o e => (e0.bs b o e).1
  have hn : H s.heap.objs.size = Option.none := e0.hok.fresh (Nat.le_refl _)
  have hl1 : u1.length = ps.length := by rw [← r1.length]; exact hl
  have hl2 : u2.length ≤ sizeLine := by rw [← r2.length]; exact hz
  have new : ObjOk P w (upd H s.heap.objs.size (.tup rest')) (s.heap.push ({ cls := .type "tuple", data := .seq u2.toArray } : Obj)) s.heap.objs.size (.tup rest') := ⟨hz, u2, r2, ⟨_, Heap.get?_push_size _ rfl, rfl, _, rfl⟩⟩
  have un := un_laid (fs := frs outer) (s := s) (o := ({ cls := .type "tuple", data := .seq u2.toArray } : Obj)) (u := .tup rest') hn
  have e2 := env0_laid e0 new
  have lim2 : (s.heap.push ({ cls := .type "tuple", data := .seq u2.toArray } : Obj)).NoLimit := e0.mod.nolimit.keeps fun b o e => (e2.bs b o e).1
  have hsp := hq _ hn
  refine codeAny_call_function hr.depth (KX _ _ lk) rfl S.co S.gen rfl (PySem.W.codeRec_of KX FC.cd) ?_
  rw [hb u1 u2 hl1]
  refine wpAny_bind (wpAny_newTuple (wpAny_pure ?_) hl2)
  have r3 : Vals (ws ++ [V.ref s.heap.objs.size]) (u1 ++ [Value.ref s.heap.objs.size]) := r1.append (.cons rfl .nil)
  have zz : ps.zip u1 ++ [(pv, Value.ref s.heap.objs.size)] = (ps ++ [pv]).zip (u1 ++ [Value.ref s.heap.objs.size]) := by
    rw [List.zip_append hl1.symm]
    rfl
  rw [zz]
  refine wpAny_newFunctionEnv S.nocell (fun ⟨n, _⟩ hy => S.par n (List.of_mem_zip hy).1) (fun h₀ hns₀ hsb₀ => ⟨lim2.fresh _ hsb₀, ?_⟩) S.kind
  refine codeAny_mono (ks_codeAny_funcAt (R := CR (L2.CX P w) outer P w (upd H s.heap.objs.size (.tup rest')) { s with heap := s.heap.push ({ cls := .type "tuple", data := .seq u2.toArray } : Obj) } Q E) (sup_core S SU G hst hself hks hkc he hi hs hse lk hr e2 r3 (len _ _ _ _ hsp) hns₀ (fun b o e => hsb₀.extBut b o (Nat.ne_of_lt (Heap.lt_size e)) (Heap.get?_push_of_some _ e)) (hbody A outer _ _ _ Q E (hr.deeper _) hsp))) fun res s' h => ?_
  match res, h with
  | .error e, h => exact cxUp outer s H { s with heap := s.heap.push ({ cls := .type "tuple", data := .seq u2.toArray } : Obj) } _ E e s' un (fun b o q => Heap.get?_push_of_some _ q) rfl h
  | .ok (.ret u), ⟨v', H', a1, a2, a3, a4, a5, a6⟩ => exact ⟨v', H', a1, a2, un.trans a3, a4, a5, a6⟩
end
end Sea

set_option Elab.async false
set_option linter.all false
set_option maxRecDepth 100000
set_option maxHeartbeats 4000000
/-! set(list of ints), sorted(tuple of ints), t[::-1] -/
namespace Sea
open PySem PySem.Spec PyProof.Rows L2
section
variable {P : Program} {w : World} {A : Around} {E : Value → Shared → Prop} {s : Shared}
/-- a set just made -/
abbrev bareSet (w : World) : Obj := { cls := .type "set", dict := none, data := .set #[] 0 (.fresh 0 0 (!w.params.followText "set-order")) }
/-- the set made is filled from a walk over ints: set.__init__ at the list l -/
theorem fill_list {l : Addr} {items : Array Value} (ns : List Int) {R : Result → Shared → Prop} (hh : A.handled = none) (hl : s.heap.IsList l items) (hi : IntsAre items.toList ns) (few : ns.length + 1 < scanBound)
    (h : ∀ (h' : Heap) (tk c : Nat), SetR w h' s.heap.objs.size (fun j => decide (j ∈ ns)) c → c ≤ ns.length → (∀ b o, s.heap.get? b = some o → h'.get? b = some o) → R (.ok (.ret .none)) { s with heap := h', toks := tk }) :
    codeAny (model P w) A (.call (.builtin "set.__init__") ⟨[.ref s.heap.objs.size, .ref l], []⟩) R { s with heap := s.heap.push (bareSet w) } := by
  have many : items.size = ns.length := by rw [← Array.length_toList]; exact IntsAre.length hi
  have made : (s.heap.push (bareSet w)).get? s.heap.objs.size = some (bareSet w) := Heap.get?_push_size _ rfl
  have still : (s.heap.push (bareSet w)).IsList l items := hl.push _
  have below : l < s.heap.objs.size := hl.choose_spec.1 |> Heap.lt_size
  have grown : (s.heap.push (bareSet w)).objs.size = s.heap.objs.size + 1 := Heap.size_push ..
  obtain ⟨⟨ocls, odict, odata, oslots⟩, at_, oc, nl, od⟩ := id still
  obtain rfl : ocls = _ := oc
  obtain rfl : odata = _ := od
  have notSet := F.sub_list_set
  have notFrozen := F.sub_list_frozenset
  have notDict : (Value.type "list" == Value.type "dict") = false := by decide
  refine codeAny_call_builtin F.called_set.init.plain F.entry_set_init (check_set_init_1 ⟨_, made, rfl⟩ ?_)
  unfold Builtin.«set.__init__» noKeywords Builtin.Frozenset.updateFrom
  generalize hPI : pyIter = PI
  wp_walk
  subst hPI
  refine wpAny_pyIter_list still (wpAny_bind (wpAny_runValue ?_))
  have item : ∀ (i : Nat) (v : Value), items[i]? = some v → ∃ k t, ns[i]? = some k ∧ v = .int k t := by
    intro i v hv
    obtain ⟨t, e⟩ := IntsAre.int_at hi i v (by rwa [Array.getElem?_toList])
    have lt : i < ns.length := many ▸ (Array.getElem?_eq_some_iff.mp hv).1
    exact ⟨ns[i], t, List.getElem?_eq_getElem lt, by rw [e, List.getD_eq_getElem?_getD, List.getElem?_eq_getElem lt]; rfl⟩
  have walk := Walks.list (prog := P) (w := w) (A := A.in1.in1) (by exact hh) (s.heap.push (bareSet w)).objs.size l (by rw [grown]; exact Nat.ne_of_lt (Nat.lt_succ_of_lt below)) items
  refine set_update_ints walk.toS s.heap.objs.size ?_ ns many few item (items.size - 0) 0 _ rfl (Nat.zero_le _) ⟨⟨_, Heap.get?_push_size _ rfl, rfl, rfl⟩, still.push _⟩ ⟨0, Nat.le_refl 0, setR_new_at (Heap.get?_push_of_some _ made)⟩ ?_
  · simp only [grown, List.mem_cons, List.not_mem_nil, or_false, not_or]
    exact ⟨Nat.ne_of_lt (Nat.lt_succ_self _), Nat.ne_of_gt below⟩
  · rintro ⟨h', g2, d', tk', os'⟩ c moved le full
    obtain rfl : g2 = s.gens := moved.gens
    obtain rfl : d' = s.drawn := moved.drawn
    obtain rfl : os' = s.os := moved.os
    refine wpAny_pure (wpAny_pure (h h' tk' c full (many ▸ le) fun b o e => moved.heap b o ?_ (Heap.get?_push_of_some _ (Heap.get?_push_of_some _ e))))
    have old := Heap.lt_size e
    simp only [grown, List.mem_cons, List.not_mem_nil, or_false, not_or]
    exact ⟨Nat.ne_of_lt old, Nat.ne_of_lt (Nat.lt_succ_of_lt old)⟩
/-- set(l), l a list of ints -/
theorem set_listR {l : Addr} {items : Array Value} (ns : List Int) {Q : Value → Shared → Prop} (hh : A.handled = none) (hl : s.heap.IsList l items) (hi : IntsAre items.toList ns) (few : ns.length + 1 < scanBound)
    (h : ∀ (h' : Heap) (tk c : Nat), SetR w h' s.heap.objs.size (fun j => decide (j ∈ ns)) c → c ≤ ns.length → (∀ b o, s.heap.get? b = some o → h'.get? b = some o) → Q (.ref s.heap.objs.size) { s with heap := h', toks := tk }) :
    wpAny (model P w) A (call (.type "set") [.ref l]) Q E s := by
  have ⟨c, tl, hmro⟩ := F.called_set.mro
  have hmade := F.called_set.made
  have hsub := F.called_set.sub
  have h1 := F.called_set.notType
  have h2 := F.called_set.canCreate
  have hct := F.typeCall_set_1 (.ref l)
  have isSet : Shared.TypeIs { s with heap := s.heap.push (bareSet w) } (.ref s.heap.objs.size) "set" := ⟨_, Heap.get?_push_size _ rfl, rfl⟩
  have find := F.called_set.init.lookup
  have bind := F.called_set.init.bind (.ref s.heap.objs.size)
  apply wpAny_call
  apply codeAny_of_tree
  show wpAny _ _ (callAny (.type "set") _) _ _ _
  apply wpAny_pure
  refine ⟨Code.quiet_builtin _ (by decide +kernel), codeAny_builtin F.entry_type_call ?_⟩
  rw [Around.under_plain (weight_type_call_type "set" [.ref l] []) rfl]
  repeat (any_goals (first | assumption | wp_step))
  refine codeAny_mono (code_set_led1 (.ref l) (E := E) (Q₁ := fun obj s1 => obj = .ref s.heap.objs.size ∧ s1 = { s with heap := s.heap.push (bareSet w) }) ⟨rfl, rfl⟩) ?_
  intro r s1 z
  match r, z with
  | .error _, z => exact z
  | .ok .next, z => exact z.elim
  | .ok .brk, z => exact z.elim
  | .ok .cont, z => exact z.elim
  | .ok (.ret obj), ⟨e1, e2⟩ =>
    subst e1 e2
    repeat (any_goals (first | assumption | wp_step))
    refine codeAny_mono (fill_list (R := wants (fun r s2 => r = .none ∧ Q (.ref s.heap.objs.size) s2) E) ns hh hl hi few fun h' tk c full le old => ⟨rfl, h h' tk c full le old⟩) ?_
    intro r s2 z
    match r, z with
    | .error _, z => exact z
    | .ok .next, z => exact z.elim
    | .ok .brk, z => exact z.elim
    | .ok .cont, z => exact z.elim
    | .ok (.ret _), ⟨e, z⟩ =>
      subst e
      repeat (any_goals (first | assumption | wp_step))
end
end Sea

set_option Elab.async false
set_option linter.all false
set_option maxRecDepth 100000
set_option maxHeartbeats 4000000
/-! set(list of ints), sorted(tuple of ints), t[::-1] -/
namespace Sea
open PySem PySem.Spec PyProof.Rows L2
/-- sorted(t), t a tuple of ints -/
theorem sorted_tuple {P : Program} {w : World} {A : Around} {E : Value → Shared → Prop} {s : Shared} {t : Addr} {vs : List Value} (ns : List Int) {Q : Value → Shared → Prop} (ht : IsTup s.heap t vs.toArray) (hi : IntsAre vs ns) (few : vs.length ≤ 1000)
    (h : ∀ (h1 h' : Heap) (out : Array Value) (c : Nat) (ns' : List Int), (∀ b o, s.heap.get? b = some o → h1.get? b = some o) → (∀ b o, h1.get? b = some o → h'.get? b = some o) → h'.get? h1.objs.size = some (seqObj "list" out c) → IntsAre out.toList ns' → ns'.Perm ns → ns'.Pairwise (· ≤ ·) → Q (.ref h1.objs.size) { s with heap := h' }) :
    wpAny (model P w) A (call (.builtin "sorted") [.ref t]) Q E s := by
  have line : vs.length ≤ sizeLine := by rw [sizeLine_eq]; omega
  obtain ⟨o, at_, oc, n, od⟩ := id ht
  apply Calls.call_function_entry kind_sorted plain_sorted entry_sorted (args_sorted1 _)
  unfold Builtin.«sorted»
  refine wpAny_bind (m := checkCount "sorted" 1 1 _) (wpAny_pure (wpAny_bind (wpAny_collect_seq t (.inr rfl) at_ oc od (fun h1 old => ?_) (by rwa [List.size_toArray]))))
  rw [List.toList_toArray]
  refine wpAny_bind (wpAny_newList ?_ line)
  have made : (h1.push (seqObj "list" vs.toArray 0)).get? h1.objs.size = some (seqObj "list" vs.toArray 0) := Heap.get?_push_size _ rfl
  refine wpAny_bind (wpAny_holding (wpAny_call_entry slot_list_sort ⟨_, made, rfl⟩ entry_list_sort (list_sort_treeAny made hi line fun out ns' a b c => ⟨_, rfl, ?_⟩) (args_list_sort _)))
  obtain ⟨c', there⟩ := sortedHeap_at (vs := vs) (out := out) made
  refine wpAny_pure ⟨_, rfl, h h1 _ out c' ns' old (fun b o e => ?_) there a b c⟩
  have lt := Heap.lt_size e
  exact (sortedHeap_old (Nat.ne_of_lt lt) (by rw [size_push']; exact Nat.lt_succ_of_lt lt)).trans (Heap.get?_push_of_some _ e)
section
variable {X : Cx}
def rSortedT (K : PySem.W.Frag) : List V → Hp → VK → Prop := fun vs H Q => ∃ (a : Addr) (ns : List Int), vs = [.ref a] ∧ SqT K H a (ns.map V.int) ∧ ns.length ≤ 1000 ∧ ∀ (ns' : List Int) (p : Addr), ns'.Perm ns → ns'.Pairwise (· ≤ ·) → H p = none → Q (.ref p) (upd H p (.lst (ns'.map V.int)))
theorem cr_sortedT : CallR X (.builtin "sorted") (rSortedT X.K) := by
  rintro pins s σ H _ us Q I r ⟨a, ns, rfl, ht, few, q⟩
  obtain ⟨its, rv, pt, _⟩ := I.tuple ht
  rw [Vals.ref1 r]
  have many : its.length = ns.length := by rw [← rv.length, List.length_map]
  refine sorted_tuple ns pt rv.ints (by omega) ?_
  intro h1 h' out c ns' old new there whole perm rising
  have J : Inv X pins σ H { s with heap := h1, toks := s.toks } := I.kept (t' := s.toks) old
  have fits : (ns'.map V.int).length ≤ sizeLine := by rw [List.length_map, perm.length_eq, sizeLine_eq]; omega
  exact ⟨.ref h1.objs.size, _, J.laid (t' := s.toks) (o := .lst (ns'.map V.int)) new (Nat.le_refl _) ⟨fits, out.toList, c, vals_of_ints whole, there⟩, rfl, q ns' _ perm rising (J.hok.fresh (Nat.le_refl _))⟩
def rSetL (K : PySem.W.Frag) (w : World) : List V → Hp → VK → Prop := fun xs H Q => ∃ (p : Addr) (ns : List Int), xs = [.ref p] ∧ SqL K H p (ns.map V.int) ∧ ns.length ≤ 1000 ∧ ∀ (a : Addr) (c : Nat), H a = none → c ≤ ns.length → Q (.ref a) (upd H a (SetO w a (fun j => decide (j ∈ ns)) c))
theorem cr_setL (calm : X.calm = true) : CallR X (.type "set") (rSetL X.K X.w) := by
  rintro pins s σ H _ us Q I r ⟨p, ns, rfl, hl, few, q⟩
  obtain ⟨its, rv, there, _⟩ := I.list hl
  rw [Vals.ref1 r]
  refine set_listR (items := its.toArray) ns (I.ok.hd calm) there.isList (by simpa using rv.ints) (by unfold scanBound; omega) ?_
  intro h' tk c full le old
  exact ⟨.ref s.heap.objs.size, _, I.laid (t' := tk) (a := s.heap.objs.size) old (Nat.le_refl _) (setO_new full), rfl, q _ c (I.hok.fresh (Nat.le_refl _)) le⟩
/-! ### t[::-1] -/
theorem back_pick (xs : Array Value) : ((List.range xs.size).filterMap fun (k : Nat) => xs[(((xs.size : Int) - 1) + (k : Int) * (-1)).toNat]?) = xs.toList.reverse := by
  have each : ∀ k ∈ List.range xs.size, xs[(((xs.size : Int) - 1) + (k : Int) * (-1)).toNat]? = some (xs.toList.reverse.getD k .none) := by
    intro k hk
    have lt : k < xs.size := List.mem_range.mp hk
    have e : (((xs.size : Int) - 1) + (k : Int) * (-1)).toNat = xs.size - 1 - k := by omega
    rw [e, List.getD_eq_getElem?_getD, List.getElem?_reverse (by simpa using lt)]
    simp only [Array.length_toList, Array.getElem?_toList]
    rw [Array.getElem?_eq_getElem (by omega)]
    rfl
  have go : ∀ (l : List Nat) (f : Nat → Option Value) (g : Nat → Value), (∀ k ∈ l, f k = some (g k)) → l.filterMap f = l.map g := by
    intro l f g
    induction l with
    | nil => exact fun _ => rfl
    | cons k l ih =>
      intro hk
      rw [List.filterMap_cons, hk k List.mem_cons_self, List.map_cons, ih fun j hj => hk j (List.mem_cons_of_mem _ hj)]
  rw [go _ _ _ each]
  refine List.ext_getElem (by simp) fun i h1 h2 => ?_
  rw [List.getElem_map, List.getElem_range, List.getD_eq_getElem?_getD, List.getElem?_eq_getElem h2]
  rfl
theorem getItem_back {P : Program} {w : World} {A : Around} {E : Value → Shared → Prop} {s : Shared} {t sl : Addr} {items : Array Value} {u : Tok} {Q : Value → Shared → Prop} (ht : IsTup s.heap t items) (hs : s.heap.IsSliceOf sl .none .none (.int (-1) u)) (fits : items.size ≤ sizeLine)
    (h : Q (.ref s.heap.objs.size) { s with heap := s.heap.push { cls := .type "tuple", data := .seq items.toList.reverse.toArray } }) : wpAny (model P w) A (getItem (.ref t) (.ref sl)) Q E s := by
  have ⟨os, at_, oc, od⟩ := hs
  have isSl : s.TypeIs (.ref sl) "slice" := ⟨os, at_, oc⟩
  unfold getItem
  refine wpAny_holding (wpAny_bind (wpAny_sequenceKey ht.typeIs (by decide) ?_))
  refine wpAny_bind (wpAny_callSpecial?_slot (name := Str.ofString "__getitem__") ht.typeIs slot_tuple_getitem (wpAny_call_entry slot_tuple_getitem ht.typeIs PyProof.Rows.entry_tuple_getitem ?_ (PyProof.Rows.args_tuple_getitem _ _)))
  show wpAny _ _ (Builtin.Tuple.tupleItemsOf (.ref t) >>= _) _ _ s
  refine wpAny_bind (tupleItemsOf_ ht (wpAny_bind (wpAny_typeOf isSl ?_)))
  rw [if_pos (by decide)]
  have part : ∀ {A : Around} {E : Value → Shared → Prop} {Q : Option Int → Shared → Prop}, Q (some (-1)) s → wpAny (model P w) A (Builtin.Slice.slicePartIndex (.int (-1) u)) Q E s := fun q => slicePart_int q
  unfold Builtin.Slice.sliceApplied Builtin.Slice.sliceFields
  refine wpAny_bind (wpAny_bind (wpAny_bind (wpAny_field at_ od (x := .none) rfl (wpAny_bind (wpAny_field at_ od (x := .none) rfl (wpAny_bind (wpAny_field at_ od (x := .int (-1) u) rfl (wpAny_pure ?_))))))))
  refine wpAny_bind (part (show wpAny _ _ (if ((-1 : Int) == 0) = true then _ else _) _ _ s from ?_))
  rw [if_neg (by decide)]
  have nope : ∀ {A : Around} {E : Value → Shared → Prop} {Q : Option Int → Shared → Prop}, Q none s → wpAny (model P w) A (Builtin.Slice.slicePartIndex .none) Q E s := fun q => slicePart_none q
  have places : Builtin.Slice.slicePlaces ((items.size : Int) - 1) (-1) (-1) = items.size := by
    unfold Builtin.Slice.slicePlaces
    rw [if_neg (by decide)]
    rw [show (-(-1) : Int) = 1 by decide, Int.ediv_one]
    split <;> omega
  refine wpAny_bind (nope (wpAny_bind (nope (wpAny_bind (wpAny_pure ?_)))))
  show wpAny _ _ (pure (((items.size : Int) - 1), (-1 : Int), Builtin.Slice.slicePlaces ((items.size : Int) - 1) (-1) (-1))) _ _ s
  rw [places]
  refine wpAny_pure ?_
  have notAll : ¬ (((((items.size : Int) - 1) == 0) && ((-1 : Int) == 1) && (items.size == items.size)) = true) := by simp
  dsimp only
  rw [if_neg notAll, back_pick]
  have size : items.toList.reverse.toArray.size ≤ sizeLine := by simpa using fits
  exact wpAny_bind (m := Builtin.Tuple.tupleExact _) (wpAny_newObj_type (wpAny_pure ⟨_, rfl, wpAny_pure h⟩) size)
/-- t[::-1] -/
def tRevT (K : PySem.W.Frag) (te : TE) : TE := fun σ H Q => te σ H fun x H1 => ∃ a xs, x = .ref a ∧ SqT K H1 a xs ∧ ∀ p, H1 p = none → Q (.ref p) (upd H1 p (.tup xs.reverse))
theorem pe_revT {e : Expr} {te : TE} {k : Nat} {p1 p2 p3 pos : Pos} (he : PE X e te) : PE X (.Subscript e (.Slice none none (some (.UnaryOp .USub (.Constant (.int 1) k p1) p2)) p3) pos) (tRevT X.K te) := by
  constructor
  intro pins s σ H Q I h
  have step : PO X (some (.UnaryOp .USub (.Constant (.int 1) k p1) p2)) (tPart (tUn (rU fun i => .int (-i)) (tC (.int 1)))) := po_some (pe_un un_neg pe_int)
  refine Subscript_ (thn (he.run pins s σ H _ I h) ?_)
  rintro v s1 ⟨x, H1, I1, r1, a, xs, rfl, hx, q⟩
  obtain rfl : v = .ref a := r1
  apply wpAny_Slice
  refine thn (po_none.run pins s1 σ H1 (fun o H2 => (o, H2) = (none, H1)) I1 rfl) ?_
  rintro vl s2 ⟨_, _, I2, pl, e⟩
  cases e
  refine thn (po_none.run pins s2 σ H1 (fun o H2 => (o, H2) = (none, H1)) I2 rfl) ?_
  rintro vu s3 ⟨_, _, I3, pu, e⟩
  cases e
  refine thn (step.run pins s3 σ H1 (fun o H2 => (o, H2) = (some (-1), H1)) I3 ⟨1, rfl, -1, rfl, rfl⟩) ?_
  rintro vs s4 ⟨_, _, I4, ps, e⟩
  cases e
  cases pl
  cases pu
  cases ps
  rename_i u
  have I5 : Inv X pins σ H1 { s4 with heap := s4.heap.push { cls := .type "slice", data := .fields #[.none, .none, .int (-1) u] } } := I4.kept (t' := s4.toks) fun _ _ z => Heap.get?_push_of_some _ z
  obtain ⟨its, r, ht, hz⟩ := I5.tuple hx
  have many : its.toArray.size ≤ sizeLine := by rw [List.size_toArray, ← r.length]; exact hz
  refine tail_any (ops := [.ref a, .ref s4.heap.objs.size]) ht.typeIs slot_tuple_getitem.lookup ?_ (by with_unfolding_all rfl)
  refine getItem_back ht (Heap.IsSliceOf.new _ _ _ _) many ?_
  exact ⟨.ref _, _, I5.laid (t' := s4.toks) (o := .tup xs.reverse) (fun _ _ z => Heap.get?_push_of_some _ z) (Nat.le_refl _) ⟨by rw [List.length_reverse]; exact hz, _, r.reverse, (show IsTup _ _ _ from ⟨_, Heap.get?_push_size _ rfl, rfl, 0, rfl⟩)⟩, rfl, q _ (I5.hok.fresh (Nat.le_refl _))⟩
end
end Sea

set_option Elab.async false
set_option linter.all false
set_option maxRecDepth 100000
set_option maxHeartbeats 4000000
/-! generators: if and for within the body -/
namespace Sea
open PySem PySem.Spec PyProof.Rows L2
section
variable {X : Cx} {pos : Pos}
/-- if c: a else: b, either may hand out -/
def tGIf (c : TT) (t u : TGn) : TGn := fun D ys σ H => c σ H fun b H1 => match b with
  | true => t D ys σ H1
  | false => u D ys σ H1
theorem gs_if {c : Expr} {a b : List Stmt} {tc : TT} {t u : TGn} (hc : PT X c tc) (ha : GSs X a t) (hb : GSs X b u) : GS X (.If c a b pos) (tGIf tc t u) := by
  constructor
  intro A S ip R n ys s0 code fs K J gd lv s σ H D g hn k ⟨acc, cc, r, I⟩ ht
  rw [exec_If]
  apply seg_bind_wrap
  apply wpAny_standAt
  apply seg_bind_wrap
  rw [g.over]
  refine wpAny_mono (hc.run _ s σ H _ I ht) ?_ fun x s1 hx => k.exc n s0 x s1 hx
  rintro b s1 ⟨H1, I1, q⟩
  match b, q with
  | true, q => exact ha.run A S ip R n ys s0 code fs K J gd lv s1 σ H1 D g hn k ⟨acc, cc, r, I1⟩ q
  | false, q => exact hb.run A S ip R n ys s0 code fs K J gd lv s1 σ H1 D g hn k ⟨acc, cc, r, I1⟩ q
/-- for x in e: body, the body may hand out -/
def tGFor (wi : TI) (g : TG) (tb : TGn) : TGn := fun D ys σ H => wi σ H fun J H1 => ∃ W : Nat → Nat → List V → L2.St → Hp → Prop, (∃ m, W 0 m ys σ H1) ∧ ∀ i m ys σ H, W i m ys σ H →
  (J.stop i H ∧ D.nx ys σ H) ∨ (J.go i H ∧ ∃ N : List V → L2.St → Hp → Prop, (∀ ys σ H, N ys σ H → ∃ m', m' < m ∧ W (i + 1) m' ys σ H) ∧ ∀ x H1, J.yld i H x H1 → g x σ H1 fun σ2 H2 => tb { D with nx := N, ct := N, bk := D.nx } ys σ2 H2)
/-- the iterator of such a loop: its objects stand apart from the consumer's list and are the heap's alone -/
structure Own (X : Cx) (S : Addr) (ip : List (Addr × Obj)) (fp : List Addr) : Prop where
  no : ∀ b ∈ fp, b ≠ S
  fp : ∀ b ∈ fp, b ≠ X.env.locals ∧ b ∉ X.fs ∧ (b ∈ X.ex ∨ X.s_0.heap.objs.size ≤ b) ∧ (∀ x c, X.env.cells.lookup x = some c → c ≠ b) ∧ ∀ p ∈ X.pn ++ ip, p.1 ≠ b
theorem Own.at {S : Addr} {ip : List (Addr × Obj)} {fp : List Addr} (o : Own X S ip fp) {H : Hp} (hn : ∀ b ∈ fp, H b = none) (oS : Obj) : ∀ b ∈ fp, FpOk X ((S, oS) :: ip) H b := by
  intro b hb
  obtain ⟨a1, a2, a3, a4, a5⟩ := o.fp b hb
  refine ⟨hn b hb, a1, a2, a3, a4, fun p hp => ?_⟩
  rcases List.mem_append.mp hp with z | z
  · exact a5 p (List.mem_append_left _ z)
  · rcases List.mem_cons.mp z with z | z
    · rw [z]
      exact (o.no b hb).symm
    · exact a5 p (List.mem_append_right _ z)
theorem Own.of {S : Addr} {oS : Obj} {ip : List (Addr × Obj)} {fp : List Addr} {H : Hp} (h : ∀ b ∈ fp, FpOk X ((S, oS) :: ip) H b) : Own X S ip fp where
  no b hb := ((h b hb).2.2.2.2.2 (S, oS) (List.mem_append_right _ List.mem_cons_self)).symm
  fp b hb := by
    obtain ⟨_, a1, a2, a3, a4, a5⟩ := h b hb
    refine ⟨a1, a2, a3, a4, fun p hp => a5 p ?_⟩
    rcases List.mem_append.mp hp with z | z
    · exact List.mem_append_left _ z
    · exact List.mem_append_right _ (List.mem_cons_of_mem _ z)
theorem gs_for {tg iter : Expr} {body : List Stmt} {wi : TI} {gt : TG} {tb : TGn} (hp : PassesOwn (model X.prog X.w) X.A X.env X.xe) (calm : X.calm = true) (hi : PI X tg iter wi) (hg : PG X tg gt) (hb : GSs X body tb)
    (hs : ∀ x, foldedSetIterable iter X.env x = pure x := by intro _; rfl) : GS X (.For tg iter body [] pos) (tGFor wi gt tb) := by
  constructor
  intro A S ip R n ys s0 code fs K J gd lv s σ H D g hn k ⟨acc, cc, r, I⟩ ht
  rw [exec_For]
  apply seg_bind_wrap
  apply wpAny_standAt
  apply seg_bind_wrap
  rw [g.over]
  refine wpAny_mono (hi.run _ s σ H _ I ht) ?_ fun x s1 hx => k.exc n s0 x s1 hx
  intro v s1 made
  apply seg_bind_wrap
  rw [hs v]
  apply wpAny_pure
  apply seg_bind_wrap
  apply wpAny_standAt
  apply seg_bind_wrap
  rw [g.over]
  apply wpAny_holding
  refine wpAny_mono made ?_ fun x s2 hx => k.exc n s0 x s2 hx
  rintro _ s2 ⟨it, fp, tn, Jt, H2, rfl, I2, T, st2, f2, W, ⟨m0, w0⟩, turn⟩
  have own := Own.of f2
  apply seg_call
  intro p
  have leave : ∀ (n : Nat) (s0 : Shared) (x : Value) (s : Shared), X.xe x s → Seg (model X.prog X.w) A R (GY X S) n s0 (.forLoop tg (.ref it) body [] X.env) ((do noteFrame x X.env; theTreesLotGoes x : Sem Unit).wrap (fun _ => .raise x) .raise id id)
      (.ret (fun r => ((match r with | .ok f => (.pure f : Sem Flow) | .error e => .raise e).onRaise (cameBack X.env)).wrap K J gd lv) none (gd false) (lv []) code p [] :: fs) s := by
    intro n s0 x s hx
    have gl := gc_loop (k := fun r => ((match r with | .ok f => (.pure f : Sem Flow) | .error e => .raise e).onRaise (cameBack X.env)).wrap K J gd lv) (c' := .forLoop tg (.ref it) body [] X.env) (l := lv []) (kp := []) (p := p) g rfl rfl
    apply seg_wrap
    rw [gl.over]
    apply wpAny_bind
    refine wpAny_mono (hp x s hx) (fun _ s1 back => wpAny_theTreesLotGoes ?_) fun y s1 back => ?_
    · exact seg_leaf (.error x) (seg_cameBack g k back)
    · exact seg_leaf (.error y) (seg_cameBack g k back)
  have gl := gc_loop (k := fun r => ((match r with | .ok f => (.pure f : Sem Flow) | .error e => .raise e).onRaise (cameBack X.env)).wrap K J gd lv) (c' := .forLoop tg (.ref it) body [] X.env) (l := lv []) (kp := []) (p := p) g rfl rfl
  have loop : ∀ (m n i : Nat) (ys : List V) (s0 s : Shared) (σ : L2.St) (H : Hp), n + ys.length = sizeLine → tn i s.heap → (∀ b ∈ fp, H b = none) → W i m ys σ H → GI X S ip ys σ H s →
      Seg (model X.prog X.w) A R (GY X S) n s0 (.forLoop tg (.ref it) body [] X.env) ((model X.prog X.w).den (.forLoop tg (.ref it) body [] X.env))
        (.ret (fun r => ((match r with | .ok f => (.pure f : Sem Flow) | .error e => .raise e).onRaise (cameBack X.env)).wrap K J gd lv) none (gd false) (lv []) code p [] :: fs) s := by
    intro m
    induction m using Nat.strongRecOn with
    | ind m ih =>
    rintro n i ys s0 s σ H hn st free w ⟨acc, cc, r, I⟩
    show Seg _ _ _ _ _ _ _ ((forTurn tg (.ref it) body [] X.env).onRaise (fun x => do noteFrame x X.env; theTreesLotGoes x)) _ s
    rw [Sem.onRaise_eq_wrap]
    unfold forTurn
    apply seg_bind_wrap
    apply wpAny_standAt
    apply seg_bind_wrap
    rw [gl.over]
    apply wpAny_onRaise
    have gone : ∀ (n : Nat) (s0 : Shared) (x : Value) (s : Shared), X.xe x s → Seg (model X.prog X.w) A R (GY X S) n s0 (.forLoop tg (.ref it) body [] X.env) ((do noteFrame x X.env; theTreesLotGoes x : Sem Unit).bind (fun _ => .raise x))
      (.ret (fun r => ((match r with | .ok f => (.pure f : Sem Flow) | .error e => .raise e).onRaise (cameBack X.env)).wrap K J gd lv) none (gd false) (lv []) code p [] :: fs) s := fun n s0 x s hx => by
      rw [Sem.bind_eq_wrap]
      exact leave n s0 x s hx
    rcases turn i m ys σ H w with ⟨stop, q⟩ | ⟨go, N, less, each⟩
    · refine wpAny_mono (T.done X rfl rfl rfl calm i _ s σ H X.xe I (own.at free _) st stop) ?_ fun x s hx => wpAny_standAt (gone n s0 x s hx)
      rintro _ s1 ⟨rfl, I1⟩
      show Seg _ _ _ _ _ _ _ (.pure (.again (.block [] X.env))) _ s1
      apply seg_again rfl
      show Seg _ _ _ _ _ _ _ (leafOf (.ok .next)) _ s1
      exact seg_leaf (.ok .next) (k.ok n ys s0 s1 .next hn ⟨σ, H, ⟨acc, cc, r, I1⟩, q⟩)
    · refine wpAny_mono (T.item X rfl rfl rfl calm i _ s σ H X.xe I (own.at free _) st go) ?_ fun x s hx => wpAny_standAt (gone n s0 x s hx)
      rintro _ s1 ⟨u, rfl, h4⟩
      apply seg_bind_wrap
      rw [gl.over]
      refine wpAny_mono h4 ?_ fun x s hx => gone n s0 x s hx
      rintro _ s2 ⟨x, H5, I5, r5, y5, st5, free5⟩
      have pinned := I5.pinned (own.at free5 _) (T.obj _ _ st5)
      apply seg_bind_wrap
      rw [gl.over]
      refine wpAny_mono (hg.run _ s2 σ H5 x u _ pinned r5 (each x H5 y5)) ?_ fun x s hx => gone n s0 x s hx
      rintro _ s3 ⟨σ6, H6, I6, q6⟩
      have again : ∀ (ys' : List V) (s' : Shared) (σ7 : L2.St) (H7 : Hp) (n' : Nat) (s0' : Shared), n' + ys'.length = sizeLine → GI X S (ip ++ pinsAt fp s2.heap) ys' σ7 H7 s' → N ys' σ7 H7 → Seg (model X.prog X.w) A R (GY X S) n' s0' (.forLoop tg (.ref it) body [] X.env) (.pure (.again (.forLoop tg (.ref it) body [] X.env)))
          (.ret (fun r => ((match r with | .ok f => (.pure f : Sem Flow) | .error e => .raise e).onRaise (cameBack X.env)).wrap K J gd lv) none (gd false) (lv []) code p [] :: fs) s' := by
        rintro ys' s' σ7 H7 n' s0' hn' ⟨acc', cc', r', I7⟩ n7
        obtain ⟨m', lt, w7⟩ := less ys' σ7 H7 n7
        have stay : ∀ b ∈ fp, ∀ o, s2.heap.get? b = some o → s'.heap.get? b = some o ∧ H7 b = none := fun b hb o e => by
          have := I7.pin (b, o) (List.mem_append_right _ (List.mem_cons_of_mem _ (List.mem_append_right _ (mem_pinsAt hb e))))
          exact ⟨this.1, this.2.1⟩
        refine seg_again rfl (ih m' lt n' (i + 1) ys' s0' s' σ7 H7 hn' (T.keep _ _ _ st5 fun b hb o e => (stay b hb o e).1) (fun b hb => ?_) w7 ⟨acc', cc', r', I7.unpinned (pins := (S, lstObj acc' cc') :: ip) (pl := pinsAt fp s2.heap)⟩)
        obtain ⟨o, e, _⟩ := T.obj _ _ st5 b hb
        exact (stay b hb o e).2
      have inner : GC X S (ip ++ pinsAt fp s2.heap) A (.forLoop tg (.ref it) body [] X.env) (.ret (fun r => ((match r with | .ok f => (.pure f : Sem Flow) | .error e => .raise e).onRaise (cameBack X.env)).wrap K J gd lv) none (gd false) (lv []) code p [] :: fs) id :=
        { gl with ip := fun p hp => (List.mem_append.mp hp).elim (g.ip p) fun z => own.no _ (of_pinsAt z).1 }
      have weaker : ∀ {ys' σ7 H7 s'}, GI X S (ip ++ pinsAt fp s2.heap) ys' σ7 H7 s' → GI X S ip ys' σ7 H7 s' := fun ⟨acc', cc', r', I7⟩ => ⟨acc', cc', r', I7.unpinned (pins := (S, lstObj acc' cc') :: ip) (pl := pinsAt fp s2.heap)⟩
      rw [Sem.bind_eq_wrap', Sem.wrap_wrap]
      refine hb.run A S (ip ++ pinsAt fp s2.heap) R n ys s0 _ _ _ _ _ _ s3 σ6 H6 { D with nx := N, ct := N, bk := D.nx } inner hn ⟨?_, ?_⟩ ⟨acc, cc, r, I6⟩ q6
      · intro n' ys' s0' s' f hn' end_
        match f, end_ with
        | .next, ⟨σ7, H7, J7, n7⟩ => exact again ys' s' σ7 H7 n' s0' hn' J7 n7
        | .cont, ⟨σ7, H7, J7, n7⟩ => exact again ys' s' σ7 H7 n' s0' hn' J7 n7
        | .brk, ⟨σ7, H7, J7, q7⟩ => exact seg_leaf (.ok .next) (k.ok n' ys' s0' s' .next hn' ⟨σ7, H7, weaker J7, q7⟩)
        | .ret v, ⟨x7, σ7, H7, J7, r7, q7⟩ => exact seg_leaf (.ok (.ret v)) (k.ok n' ys' s0' s' (.ret v) hn' ⟨x7, σ7, H7, weaker J7, r7, q7⟩)
      · exact fun n' s0' x s' hx => gone n' s0' x s' hx
  exact loop m0 n 0 ys s0 s2 σ H2 hn st2 (fun b hb => (f2 b hb).1) w0 ⟨acc, cc, r, I2⟩
end
end Sea

set_option Elab.async false
set_option linter.all false
set_option maxRecDepth 100000
set_option maxHeartbeats 4000000
/-! generators whose consumer keeps a frame of its own: between two items it writes there, and fills a list. The rules stand for two objects: S the list, C the frame -/
namespace Sea
open PySem PySem.Spec PyProof.Rows L2 GenW
/-- a frame's names -/
def FrO (o : Obj) : Prop := ∃ es ep, o.data = .dict es ep ∧ StrKeys es
theorem FrO.noCell {o : Obj} (h : FrO o) : ∀ v, o.data ≠ .cell v := fun v q => by
  obtain ⟨es, ep, e, _⟩ := h
  rw [e] at q
  cases q
theorem FrO.ns {o : Obj} {h : Heap} {C : Addr} (f : FrO o) (e : h.get? C = some o) : ∃ m, h.Ns C m := by
  obtain ⟨es, ep, e1, e2⟩ := f
  exact ⟨_, o, es, ep, e, e1, e2, fun _ => rfl⟩
theorem frO_ns {h : Heap} {C : Addr} {m : Str → Option Value} (n : h.Ns C m) : ∃ o, h.get? C = some o ∧ FrO o := by
  obtain ⟨o, es, ep, e, e1, e2, _⟩ := n
  exact ⟨o, e, es, ep, e1, e2⟩
structure Duo where
  S : Addr
  C : Addr
  ne : S ≠ C
def CIv (X : Cx) (Z : Duo) (ip : List (Addr × Obj)) (ys : List V) (σ : L2.St) (H : Hp) (s : Shared) : Prop :=
  ∃ (acc : Array Value) (c : Nat) (o : Obj), Vals ys acc.toList ∧ FrO o ∧ Inv X ((Z.S, lstObj acc c) :: (Z.C, o) :: ip) σ H s
/-- what the consumer does while the generator sleeps -/
def Meal (Z : Duo) (v : Value) (s s' : Shared) : Prop := ∃ (h : Heap) (o : Obj), (∀ b u, b ≠ Z.C → s.heap.get? b = some u → h.get? b = some u) ∧ h.get? Z.C = some o ∧ FrO o ∧ Slept Z.S v { s with heap := h } s'
/-- where the generator's code stands, seen from either object -/
structure CC (X : Cx) (Z : Duo) (ip : List (Addr × Obj)) (A : Around) (c : Code) (fs : List Frame) (gd : Bool → Bool) : Prop where
  s : GC X Z.S ip A c fs gd
  c : GC X Z.C ip A c fs gd
theorem CIv.gi {X : Cx} {Z : Duo} {ip : List (Addr × Obj)} {ys : List V} {σ : L2.St} {H : Hp} {s : Shared} (h : CIv X Z ip ys σ H s) : GI X Z.S ip ys σ H s := by
  obtain ⟨acc, c, o, r, _, I⟩ := h
  refine ⟨acc, c, r, I.pins_of fun p hp => I.pin p ?_⟩
  rcases List.mem_cons.mp hp with z | z
  · exact List.mem_append_right _ (z ▸ List.mem_cons_self)
  · exact List.mem_append_right _ (List.mem_cons_of_mem _ (List.mem_cons_of_mem _ z))
theorem CIv.at {X : Cx} {Z : Duo} {ip : List (Addr × Obj)} {ys : List V} {σ : L2.St} {H : Hp} {s : Shared} (h : CIv X Z ip ys σ H s) :
    ∃ o, FrO o ∧ s.heap.get? Z.C = some o ∧ H Z.C = none ∧ Z.C ≠ X.env.locals ∧ Z.C ∉ X.fs := by
  obtain ⟨acc, c, o, r, f, I⟩ := h
  obtain ⟨h1, h2, h3, h4, _⟩ := I.pin (Z.C, o) (List.mem_append_right _ (List.mem_cons_of_mem _ List.mem_cons_self))
  exact ⟨o, f, h1, h2, h3, h4⟩
theorem CIv.woken {X : Cx} {Z : Duo} {ip : List (Addr × Obj)} {ys : List V} {x : V} {v : Value} {σ : L2.St} {H : Hp} {s s' : Shared} {A : Around} {c : Code} {fs : List Frame} {gd : Bool → Bool}
    (h : CIv X Z ip ys σ H s) (g : CC X Z ip A c fs gd) (rv : RelV x v) (z : Meal Z v s s') : CIv X Z ip (ys ++ [x]) σ H s' := by
  obtain ⟨hp, o, kp, eo, fo, sl⟩ := z
  obtain ⟨_, _, _, c2, c3, c4⟩ := h.at
  have own : Z.C ∈ X.ex ∨ X.s_0.heap.objs.size ≤ Z.C := .inr g.c.apart.1
  have mid : GI X Z.S ip ys σ H { s with heap := hp, toks := s.toks } := by
    obtain ⟨acc, cc, r, I⟩ := h.gi
    refine ⟨acc, cc, r, I.turned (it := Z.C) kp c2 c3 own g.c.apart.2.2 fun p m => ?_⟩
    rcases List.mem_append.mp m with m | m
    · exact g.c.pn p m
    · rcases List.mem_cons.mp m with m | m
      · rw [m]
        exact Z.ne
      · exact g.c.ip p m
  obtain ⟨acc, cc, r, I⟩ := mid.woken g.s.pn g.s.ip g.s.apart rv sl
  refine ⟨acc, cc, o, r, fo, I.pins_of fun p m => ?_⟩
  rcases List.mem_cons.mp m with m | m
  · exact I.pin p (List.mem_append_right _ (m ▸ List.mem_cons_self))
  rcases List.mem_cons.mp m with m | m
  · rw [m]
    exact ⟨sl.keep _ _ (Ne.symm Z.ne) eo, c2, c3, c4, fo.noCell⟩
  · exact I.pin p (List.mem_append_right _ (List.mem_cons_of_mem _ m))
/-! ### the rules -/
def CY (X : Cx) (Z : Duo) : Protocol := fun n s0 v s kap => ∃ ys x ip σ H, n + 1 + ys.length = sizeLine ∧ RelV x v ∧ CIv X Z ip ys σ H s ∧ ∀ s', Meal Z v s s' → kap (.send .none) s'
def CEd (X : Cx) (Z : Duo) (ip : List (Addr × Obj)) (D : GEnds) (ys : List V) : Flow → Shared → Prop
  | .next, s => ∃ σ H, CIv X Z ip ys σ H s ∧ D.nx ys σ H
  | .brk, s => ∃ σ H, CIv X Z ip ys σ H s ∧ D.bk ys σ H
  | .cont, s => ∃ σ H, CIv X Z ip ys σ H s ∧ D.ct ys σ H
  | .ret u, s => ∃ v σ H, CIv X Z ip ys σ H s ∧ RelV v u ∧ D.rt ys v H
/-- a run of m (a statement, a suite) reads as t -/
def CRun (X : Cx) (m : Sem Flow) (t : TGn) : Prop := ∀ (A : Around) (Z : Duo) (ip : List (Addr × Obj)) (R : GenEnd) (c : Code) (fs : List Frame) (K : Flow → Sem PySem.Fin) (J : Value → Sem PySem.Fin) (gd : Bool → Bool) (lv : List Value → List Value) (D : GEnds), CC X Z ip A c fs gd →
  (∀ n ys s0 s f, n + ys.length = sizeLine → CEd X Z ip D ys f s → Seg (model X.prog X.w) A R (CY X Z) n s0 c (K f) fs s) → (∀ n s0 e s, X.xe e s → Seg (model X.prog X.w) A R (CY X Z) n s0 c (J e) fs s) →
  ∀ n ys s0 s σ H, n + ys.length = sizeLine → CIv X Z ip ys σ H s → t D ys σ H → Seg (model X.prog X.w) A R (CY X Z) n s0 c (m.wrap K J gd lv) fs s
section
variable {X : Cx} {st : Stmt} {rest : List Stmt} {pos : Pos}
theorem cs_ps {t : TS} (h : PS X st t) : CRun X (exec st X.env) (tPlain t) := by
  intro A Z ip R c fs K J gd lv D g ok exc n ys s0 s σ H hn ⟨acc, cc, o, r, fo, I⟩ ht
  refine seg_wrap ?_
  rw [g.s.over]
  refine wpAny_mono (h.run _ s σ H (D.at ys) I ht) (fun f s1 q => ok n ys s0 s1 f hn ?_) fun x s1 hx => exc n s0 x s1 hx
  match f, q with
  | .next, ⟨σ1, H1, J1, q1⟩ => exact ⟨σ1, H1, ⟨acc, cc, o, r, fo, J1⟩, q1⟩
  | .brk, ⟨σ1, H1, J1, q1⟩ => exact ⟨σ1, H1, ⟨acc, cc, o, r, fo, J1⟩, q1⟩
  | .cont, ⟨σ1, H1, J1, q1⟩ => exact ⟨σ1, H1, ⟨acc, cc, o, r, fo, J1⟩, q1⟩
  | .ret u, ⟨v, σ1, H1, J1, r1, q1⟩ => exact ⟨v, σ1, H1, ⟨acc, cc, o, r, fo, J1⟩, r1, q1⟩
theorem css_nil : CRun X (execs [] X.env) tG0 := fun _ _ _ _ _ _ _ _ _ _ _ _ ok _ n ys s0 s σ H hn I ht => seg_execs_nil (ok n ys s0 s .next hn ⟨σ, H, I, ht⟩)
theorem css_cons {t u : TGn} (a : CRun X (exec st X.env) t) (b : CRun X (execs rest X.env) u) : CRun X (execs (st :: rest) X.env) (tGThen t u) := by
  intro A Z ip R c fs K J gd lv D g ok exc n ys s0 s σ H hn I ht
  refine seg_execs_cons (a A Z ip R c fs _ J gd lv { D with nx := fun ys' σ' H' => u D ys' σ' H' } g (fun n1 ys1 s1 s2 f e q => ?_) exc n ys s0 s σ H hn I ht)
  match f, q with
  | .next, ⟨σ2, H2, I2, q2⟩ => exact b A Z ip R c fs K J gd lv D g ok exc n1 ys1 s1 s2 σ2 H2 e I2 q2
  | .brk, q => exact ok n1 ys1 s1 s2 .brk e q
  | .cont, q => exact ok n1 ys1 s1 s2 .cont e q
  | .ret u, q => exact ok n1 ys1 s1 s2 (.ret u) e q
theorem cs_yield {e : Expr} {yp : Pos} {te : TE} (he : PE X e te) (hco : X.env.scope.isCoroutine = false := by rfl) (hi : interactive X.env = false := by rfl) : CRun X (exec (.Expr (.Yield (some e) yp) pos) X.env) (tGYield te) := by
  intro A Z ip R c fs K J gd lv D g ok exc n ys s0 s σ H hn ⟨acc, cc, o, r, fo, I⟩ ⟨few, ht⟩
  cases n with
  | zero => omega
  | succ n =>
    refine seg_Expr_Yield g.s.split g.s.gd g.s.guard ?_ hco hi
    rw [g.s.over]
    refine wpAny_mono (he.run _ s σ H _ I ht) ?_ fun x s1 hx => exc _ s0 x s1 hx
    rintro v s1 ⟨x, H1, I1, rv, q⟩ kap hk
    have c1 : CIv X Z ip ys σ H1 s1 := ⟨acc, cc, o, r, fo, I1⟩
    exact ⟨ys, x, ip, σ, H1, hn, rv, c1, fun s2 z => hk .none s2 (ok n (ys ++ [x]) s2 s2 .next (by rw [List.length_append]; show n + (ys.length + 1) = _; omega) ⟨σ, H1, c1.woken g rv z, q⟩)⟩
theorem cs_if {c : Expr} {a b : List Stmt} {tc : TT} {t u : TGn} (hc : PT X c tc) (ha : CRun X (execs a X.env) t) (hb : CRun X (execs b X.env) u) : CRun X (exec (.If c a b pos) X.env) (tGIf tc t u) := by
  intro A Z ip R cd fs K J gd lv D g ok exc n ys s0 s σ H hn ⟨acc, cc, o, r, fo, I⟩ ht
  rw [exec_If]
  apply seg_bind_wrap
  apply wpAny_standAt
  apply seg_bind_wrap
  rw [g.s.over]
  refine wpAny_mono (hc.run _ s σ H _ I ht) ?_ fun x s1 hx => exc n s0 x s1 hx
  rintro (_ | _) s1 ⟨H1, I1, q⟩
  · exact hb A Z ip R cd fs K J gd lv D g ok exc n ys s0 s1 σ H1 hn ⟨acc, cc, o, r, fo, I1⟩ q
  · exact ha A Z ip R cd fs K J gd lv D g ok exc n ys s0 s1 σ H1 hn ⟨acc, cc, o, r, fo, I1⟩ q
end
end Sea

set_option Elab.async false
set_option linter.all false
set_option maxRecDepth 100000
set_option maxHeartbeats 4000000
namespace Sea
open PySem PySem.Spec PyProof.Rows L2 GenW
section
variable {X : Cx} {pos : Pos}
theorem own_duo {Z : Duo} {ip : List (Addr × Obj)} {fp : List Addr} {H H' : Hp} {oS oC oS' oC' : Obj} (h : ∀ b ∈ fp, FpOk X ((Z.S, oS) :: (Z.C, oC) :: ip) H b) (hn : ∀ b ∈ fp, H' b = none) : ∀ b ∈ fp, FpOk X ((Z.S, oS') :: (Z.C, oC') :: ip) H' b := by
  intro b hb
  obtain ⟨_, a1, a2, a3, a4, a5⟩ := h b hb
  refine ⟨hn b hb, a1, a2, a3, a4, fun p hp => ?_⟩
  rcases List.mem_append.mp hp with z | z
  · exact a5 p (List.mem_append_left _ z)
  · rcases List.mem_cons.mp z with z | z
    · rw [z]
      exact a5 (Z.S, oS) (List.mem_append_right _ List.mem_cons_self)
    rcases List.mem_cons.mp z with z | z
    · rw [z]
      exact a5 (Z.C, oC) (List.mem_append_right _ (List.mem_cons_of_mem _ List.mem_cons_self))
    · exact a5 p (List.mem_append_right _ (List.mem_cons_of_mem _ (List.mem_cons_of_mem _ z)))
theorem CC.loop {Z : Duo} {ip : List (Addr × Obj)} {A : Around} {c c' : Code} {fs : List Frame} {gd : Bool → Bool} {k : Result → Sem PySem.Fin} {l kp : List Value} {p : Pos} (g : CC X Z ip A c fs gd) (hw : c'.weight = 0) (hu : c'.cUnits = 0) : CC X Z ip A c' (.ret k none (gd false) l c p kp :: fs) id := ⟨gc_loop g.s hw hu, gc_loop g.c hw hu⟩
theorem cs_for {tg iter : Expr} {body : List Stmt} {wi : TI} {gt : TG} {tb : TGn} (hp : PassesOwn (model X.prog X.w) X.A X.env X.xe) (calm : X.calm = true) (hi : PI X tg iter wi) (hg : PG X tg gt) (hb : CRun X (execs body X.env) tb)
    (hs : ∀ x, foldedSetIterable iter X.env x = pure x := by intro _; rfl) : CRun X (exec (.For tg iter body [] pos) X.env) (tGFor wi gt tb) := by
  intro A Z ip R c fs K J gd lv D g ok exc n ys s0 s σ H hn ⟨acc, cc, o, r, fo, I⟩ ht
  rw [exec_For]
  apply seg_bind_wrap
  apply wpAny_standAt
  apply seg_bind_wrap
  rw [g.s.over]
  refine wpAny_mono (hi.run _ s σ H _ I ht) ?_ fun x s1 hx => exc n s0 x s1 hx
  intro v s1 made
  apply seg_bind_wrap
  rw [hs v]
  apply wpAny_pure
  apply seg_bind_wrap
  apply wpAny_standAt
  apply seg_bind_wrap
  rw [g.s.over]
  apply wpAny_holding
  refine wpAny_mono made ?_ fun x s2 hx => exc n s0 x s2 hx
  rintro _ s2 ⟨it, fp, tn, Jt, H2, rfl, I2, T, st2, f2, W, ⟨m0, w0⟩, turn⟩
  apply seg_call
  intro p
  have back : ∀ (n : Nat) (s0 : Shared) (e : Value) (s : Shared), cameBackBy (model X.prog X.w) X.A X.env X.xe e s → Seg (model X.prog X.w) A R (CY X Z) n s0 c (((Sem.raise e : Sem Flow).onRaise (cameBack X.env)).wrap K J gd lv) fs s := by
    intro n s0 e s h
    show Seg _ _ _ _ _ _ _ (((cameBack X.env e).bind fun _ => (Sem.raise e : Sem Flow)).wrap K J gd lv) _ _
    rw [Sem.bind_eq_wrap, Sem.wrap_wrap]
    apply seg_wrap
    rw [g.s.over]
    exact wpAny_mono h (fun _ s' hx => exc n s0 e s' hx) fun x s' hx => exc n s0 x s' hx
  have gl := g.loop (k := fun r => ((match r with | .ok f => (.pure f : Sem Flow) | .error e => .raise e).onRaise (cameBack X.env)).wrap K J gd lv) (c' := .forLoop tg (.ref it) body [] X.env) (l := lv []) (kp := []) (p := p) rfl rfl
  have leave : ∀ (n : Nat) (s0 : Shared) (x : Value) (s : Shared), X.xe x s → Seg (model X.prog X.w) A R (CY X Z) n s0 (.forLoop tg (.ref it) body [] X.env) ((do noteFrame x X.env; theTreesLotGoes x : Sem Unit).wrap (fun _ => .raise x) .raise id id)
      (.ret (fun r => ((match r with | .ok f => (.pure f : Sem Flow) | .error e => .raise e).onRaise (cameBack X.env)).wrap K J gd lv) none (gd false) (lv []) c p [] :: fs) s := by
    intro n s0 x s hx
    apply seg_wrap
    rw [gl.s.over]
    apply wpAny_bind
    refine wpAny_mono (hp x s hx) (fun _ s1 b => wpAny_theTreesLotGoes ?_) fun y s1 b => ?_
    · exact seg_leaf (.error x) (back _ _ _ _ b)
    · exact seg_leaf (.error y) (back _ _ _ _ b)
  have loop : ∀ (m n i : Nat) (ys : List V) (s0 s : Shared) (σ : L2.St) (H : Hp), n + ys.length = sizeLine → tn i s.heap → (∀ b ∈ fp, H b = none) → W i m ys σ H → CIv X Z ip ys σ H s →
      Seg (model X.prog X.w) A R (CY X Z) n s0 (.forLoop tg (.ref it) body [] X.env) ((model X.prog X.w).den (.forLoop tg (.ref it) body [] X.env))
        (.ret (fun r => ((match r with | .ok f => (.pure f : Sem Flow) | .error e => .raise e).onRaise (cameBack X.env)).wrap K J gd lv) none (gd false) (lv []) c p [] :: fs) s := by
    intro m
    induction m using Nat.strongRecOn with
    | ind m ih =>
    rintro n i ys s0 s σ H hn st free w ⟨acc, cc, o, r, fo, I⟩
    show Seg _ _ _ _ _ _ _ ((forTurn tg (.ref it) body [] X.env).onRaise (fun x => do noteFrame x X.env; theTreesLotGoes x)) _ s
    rw [Sem.onRaise_eq_wrap]
    unfold forTurn
    apply seg_bind_wrap
    apply wpAny_standAt
    apply seg_bind_wrap
    rw [gl.s.over]
    apply wpAny_onRaise
    have gone : ∀ (n : Nat) (s0 : Shared) (x : Value) (s : Shared), X.xe x s → Seg (model X.prog X.w) A R (CY X Z) n s0 (.forLoop tg (.ref it) body [] X.env) ((do noteFrame x X.env; theTreesLotGoes x : Sem Unit).bind (fun _ => .raise x))
      (.ret (fun r => ((match r with | .ok f => (.pure f : Sem Flow) | .error e => .raise e).onRaise (cameBack X.env)).wrap K J gd lv) none (gd false) (lv []) c p [] :: fs) s := fun n s0 x s hx => by
      rw [Sem.bind_eq_wrap]
      exact leave n s0 x s hx
    rcases turn i m ys σ H w with ⟨stop, q⟩ | ⟨go, N, less, each⟩
    · refine wpAny_mono (T.done X rfl rfl rfl calm i _ s σ H X.xe I (own_duo f2 free) st stop) ?_ fun x s hx => wpAny_standAt (gone n s0 x s hx)
      rintro _ s1 ⟨rfl, I1⟩
      show Seg _ _ _ _ _ _ _ (.pure (.again (.block [] X.env))) _ s1
      apply seg_again rfl
      show Seg _ _ _ _ _ _ _ (leafOf (.ok .next)) _ s1
      exact seg_leaf (.ok .next) (ok n ys s0 s1 .next hn ⟨σ, H, ⟨acc, cc, o, r, fo, I1⟩, q⟩)
    · refine wpAny_mono (T.item X rfl rfl rfl calm i _ s σ H X.xe I (own_duo f2 free) st go) ?_ fun x s hx => wpAny_standAt (gone n s0 x s hx)
      rintro _ s1 ⟨u, rfl, h4⟩
      apply seg_bind_wrap
      rw [gl.s.over]
      refine wpAny_mono h4 ?_ fun x s hx => gone n s0 x s hx
      rintro _ s2 ⟨x, H5, I5, r5, y5, st5, free5⟩
      have I5p := I5.pinned (own_duo f2 free5) (T.obj _ _ st5)
      apply seg_bind_wrap
      rw [gl.s.over]
      refine wpAny_mono (hg.run _ s2 σ H5 x u _ I5p r5 (each x H5 y5)) ?_ fun x s hx => gone n s0 x s hx
      rintro _ s3 ⟨σ6, H6, I6, q6⟩
      have lose : ∀ {ys' σ7 H7 s'}, CIv X Z (ip ++ pinsAt fp s2.heap) ys' σ7 H7 s' → CIv X Z ip ys' σ7 H7 s' := fun {ys' σ7 H7 s'} ⟨acc', cc', o', r', f', I7⟩ => ⟨acc', cc', o', r', f', I7.pins_of fun p hp => I7.pin p (by
        rcases List.mem_cons.mp hp with z | z
        · exact List.mem_append_right _ (z ▸ List.mem_cons_self)
        rcases List.mem_cons.mp z with z | z
        · exact List.mem_append_right _ (List.mem_cons_of_mem _ (z ▸ List.mem_cons_self))
        · exact List.mem_append_right _ (List.mem_cons_of_mem _ (List.mem_cons_of_mem _ (List.mem_append_left _ z))))⟩
      have again : ∀ (ys' : List V) (s' : Shared) (σ7 : L2.St) (H7 : Hp) (n' : Nat) (s0' : Shared), n' + ys'.length = sizeLine → CIv X Z (ip ++ pinsAt fp s2.heap) ys' σ7 H7 s' → N ys' σ7 H7 → Seg (model X.prog X.w) A R (CY X Z) n' s0' (.forLoop tg (.ref it) body [] X.env) (.pure (.again (.forLoop tg (.ref it) body [] X.env)))
          (.ret (fun r => ((match r with | .ok f => (.pure f : Sem Flow) | .error e => .raise e).onRaise (cameBack X.env)).wrap K J gd lv) none (gd false) (lv []) c p [] :: fs) s' := by
        intro ys' s' σ7 H7 n' s0' hn' c7 n7
        obtain ⟨m', lt, w7⟩ := less ys' σ7 H7 n7
        have stay : ∀ b ∈ fp, ∀ o, s2.heap.get? b = some o → s'.heap.get? b = some o ∧ H7 b = none := fun b hb o e => by
          obtain ⟨_, _, _, _, _, I7⟩ := c7
          have := I7.pin (b, o) (List.mem_append_right _ (List.mem_cons_of_mem _ (List.mem_cons_of_mem _ (List.mem_append_right _ (mem_pinsAt hb e)))))
          exact ⟨this.1, this.2.1⟩
        refine seg_again rfl (ih m' lt n' (i + 1) ys' s0' s' σ7 H7 hn' (T.keep _ _ _ st5 fun b hb o e => (stay b hb o e).1) (fun b hb => ?_) w7 (lose c7))
        obtain ⟨o, e, _⟩ := T.obj _ _ st5 b hb
        exact (stay b hb o e).2
      have apart : ∀ q ∈ pinsAt fp s2.heap, q.1 ≠ Z.S ∧ q.1 ≠ Z.C := fun q hq => by
        obtain ⟨_, _, _, _, _, a5⟩ := f2 q.1 (of_pinsAt hq).1
        exact ⟨(a5 (Z.S, _) (List.mem_append_right _ List.mem_cons_self)).symm, (a5 (Z.C, _) (List.mem_append_right _ (List.mem_cons_of_mem _ List.mem_cons_self))).symm⟩
      have inner : CC X Z (ip ++ pinsAt fp s2.heap) A (.forLoop tg (.ref it) body [] X.env) (.ret (fun r => ((match r with | .ok f => (.pure f : Sem Flow) | .error e => .raise e).onRaise (cameBack X.env)).wrap K J gd lv) none (gd false) (lv []) c p [] :: fs) id :=
        ⟨{ gl.s with ip := fun q hq => (List.mem_append.mp hq).elim (g.s.ip q) fun z => (apart q z).1 }, { gl.c with ip := fun q hq => (List.mem_append.mp hq).elim (g.c.ip q) fun z => (apart q z).2 }⟩
      rw [Sem.bind_eq_wrap', Sem.wrap_wrap]
      refine hb A Z (ip ++ pinsAt fp s2.heap) R _ _ _ _ _ _ { D with nx := N, ct := N, bk := D.nx } inner ?_ ?_ n ys s0 s3 σ6 H6 hn ⟨acc, cc, o, r, fo, I6⟩ q6
      · intro n' ys' s0' s' f hn' end_
        match f, end_ with
        | .next, ⟨σ7, H7, J7, n7⟩ => exact again ys' s' σ7 H7 n' s0' hn' J7 n7
        | .cont, ⟨σ7, H7, J7, n7⟩ => exact again ys' s' σ7 H7 n' s0' hn' J7 n7
        | .brk, ⟨σ7, H7, J7, q7⟩ => exact seg_leaf (.ok .next) (ok n' ys' s0' s' .next hn' ⟨σ7, H7, lose J7, q7⟩)
        | .ret v, ⟨x7, σ7, H7, J7, r7, q7⟩ => exact seg_leaf (.ok (.ret v)) (ok n' ys' s0' s' (.ret v) hn' ⟨x7, σ7, H7, lose J7, r7, q7⟩)
      · exact fun n' s0' x s' hx => gone n' s0' x s' hx
  exact loop m0 n 0 ys s0 s2 σ H2 hn st2 (fun b hb => (f2 b hb).1) w0 ⟨acc, cc, o, r, fo, I2⟩
end
end Sea

set_option Elab.async false
set_option linter.all false
set_option maxRecDepth 100000
set_option maxHeartbeats 4000000
/-! calls of generator defs whose items a list comprehension takes -/
namespace Sea
open PySem PySem.Spec PyProof.Rows L2 GenW
def COut (P : Program) (w : World) (outer : List Env) (H : Hp) (s : Shared) (Z : Duo) (Q : List V → Hp → Prop) : Nat → Shared → Shared → Prop := fun _ _ s1 =>
  ∃ H' ys acc c o, s1.os = s.os ∧ AllBare s1.gens ∧ Un (frs outer) [] H H' s.heap s1.heap ∧ HOk P w H' s1.heap ∧ H' Z.S = none ∧ H' Z.C = none ∧ s1.heap.get? Z.S = some (lstObj acc c) ∧ s1.heap.get? Z.C = some o ∧ FrO o ∧ Vals ys acc.toList ∧ ys.length ≤ sizeLine ∧ Q ys H'
abbrev COff (P : Program) (w : World) (outer : List Env) (H : Hp) (s : Shared) (Z : Duo) (Q : List V → Hp → Prop) (E : XK) : GenEnd := fun n s0 r s1 => ((r = .ok (.ret .none) ∨ r = .ok .next) ∧ COut P w outer H s Z Q n s0 s1) ∨ ∃ e, r = .error e ∧ CX P w outer H s E e s1
def CItem (s : Shared) (Z : Duo) (a : Addr) (g : Nat) : Protocol := fun n s0 v s1 kap =>
  s1.os = s.os ∧ AllBare s1.gens ∧ s1.heap.NoLimit ∧ s1.heap.IsGen a g ∧ (∃ acc c, s1.heap.get? Z.S = some (lstObj acc c) ∧ n + 1 + acc.size = sizeLine) ∧ (∃ o, s1.heap.get? Z.C = some o ∧ FrO o) ∧ ∀ s', Meal Z v s1 s' → kap (.send .none) s'
def CMade (P : Program) (w : World) (k : Nat) (outer : List Env) (H : Hp) (s : Shared) (Q : List V → Hp → Prop) (E : XK) (u : Value) (s' : Shared) : Prop :=
  ∃ (a : Addr) (g : Nat) (c : Code), u = .ref a ∧ s.heap.objs.size ≤ a ∧ a < s'.heap.objs.size ∧ s'.heap.IsGen a g ∧ s'.gens[g]? = some (.fresh c) ∧ s'.os = s.os ∧ AllBare s'.gens ∧ s'.heap.NoLimit ∧ (∀ b o, s.heap.get? b = some o → s'.heap.get? b = some o) ∧
    ∀ (A : Around) (Z : Duo) (s2 : Shared), Room k A → A.frames = some outer → s'.heap.objs.size ≤ Z.S → s'.heap.objs.size ≤ Z.C → (∀ b o, s'.heap.get? b = some o → s2.heap.get? b = some o) → (∃ c, s2.heap.get? Z.S = some (lstObj #[] c)) → (∃ o, s2.heap.get? Z.C = some o ∧ FrO o) → s2.os = s.os → AllBare s2.gens →
      Seg (model P w) A (COff P w outer H s Z Q E) (CItem s Z a g) sizeLine s2 c ((model P w).den c) [] s2
structure CFn (P : Program) (w : World) (K : PySem.W.Frag) (mg : Str → Option Value) (base : Heap) (k : Nat) (f : Addr) (fd : FuncData) (ps : List Str) (sp : SpG) : Prop where
  len : ∀ vs H Q E, sp vs H Q E → vs.length = ps.length
  run : ∀ (A : Around) (outer : List Env) (s : Shared) (H : Hp) (args : Args) (us : List Value) (vs : List V) (Q : List V → Hp → Prop) (E : XK), Room k A → Env0 P w K mg base A outer s H → BindsTo s fd args (ps.zip us) → Vals vs us → sp vs H Q E →
    codeAny (model P w) A (.call (.ref f) args) (fun r s' => match r with | .ok (.ret u) => CMade P w k outer H s Q E u s' | _ => False) s
section
variable {P : Program} {w : World} {K : PySem.W.Frag} {mg : Str → Option Value} {base : Heap} {k : Nat} {f : Addr} {name qual : Str} {params : Arguments} {body : List Stmt} {scope : Scope} {dV kV doc pm cdv ct oc : Value} {an od : Option Addr} {osl : Array (Option Value)} {N ps : List Str} {sp : SpG}
/-- the body's run, from the moment of its first item's call -/
theorem c_begin {A : Around} {outer : List Env} {s s1 s2 : Shared} {H : Hp} {vs : List V} {Q : List V → Hp → Prop} {E : XK} {go : Obj} {t : TGn} {Z : Duo} {tk : Nat}
    (I1 : Inv (gcxOf P w K mg base N qual scope f cdv A outer s H E []) [] (start N vs) H s1) (gd : ∀ v, go.data ≠ .cell v) (hgen : ∀ h : Heap, h.get? s1.heap.objs.size = some go → h.IsGen s1.heap.objs.size s1.gens.size)
    (ht : CRun (gcxOf P w K mg base N qual scope f cdv A outer s H E [(s1.heap.objs.size, go)]) (execs body (envOfC qual scope s.heap.objs.size f cdv)) t)
    (hq : t { nx := fun ys _ H' => Q ys H', rt := fun ys v H' => v = .non ∧ Q ys H' } [] (start N vs) H)
    (hS : s1.heap.objs.size < Z.S) (hC : s1.heap.objs.size < Z.C) (hk : ∀ b o, s1.heap.get? b = some o → s2.heap.get? b = some o) (eg : s2.heap.get? s1.heap.objs.size = some go) (eS : ∃ c, s2.heap.get? Z.S = some (lstObj #[] c)) (eC : ∃ o, s2.heap.get? Z.C = some o ∧ FrO o) (os : s2.os = s.os) (ba : AllBare s2.gens) :
    Seg (model P w) A (COff P w outer H s Z Q E) (CItem s Z s1.heap.objs.size s1.gens.size) sizeLine s2 (.func body (envOfC qual scope s.heap.objs.size f cdv)) ((model P w).den (.func body (envOfC qual scope s.heap.objs.size f cdv))) [] s2 := by
  have os1 : s1.os = s.os := I1.os
  have I2 : Inv (gcxOf P w K mg base N qual scope f cdv A outer s H E []) [] (start N vs) H s2 := I1.call' (ch := []) (os.trans os1.symm) (Un.kept hk) (I1.hok.kept hk) ba fun b z => by simp at z
  have new : ∀ {b : Addr}, s1.heap.objs.size ≤ b → FpOk (gcxOf P w K mg base N qual scope f cdv A outer s H E []) [] H b := fun h => I1.fpOk h (I1.hok.fresh h)
  obtain ⟨cS, eS⟩ := eS
  obtain ⟨oC, eC, fC⟩ := eC
  have pin : ∀ {b : Addr} {o : Obj}, s1.heap.objs.size ≤ b → s2.heap.get? b = some o → (∀ v, o.data ≠ .cell v) → s2.heap.get? b = some o ∧ H b = none ∧ b ≠ (envOfC qual scope s.heap.objs.size f cdv).locals ∧ b ∉ frs outer ∧ ∀ v, o.data ≠ .cell v := fun h e n => by
    obtain ⟨a1, a2, a3, _⟩ := new h
    exact ⟨e, a1, a2, a3, n⟩
  have lS : ∀ v, (lstObj #[] cS).data ≠ .cell v := fun v q => by cases q
  have J : CIv (gcxOf P w K mg base N qual scope f cdv A outer s H E [(s1.heap.objs.size, go)]) Z [] [] (start N vs) H s2 := by
    refine ⟨#[], cS, oC, .nil, fC, Inv.pinnedG I2 fun p hp => ?_⟩
    rcases List.mem_append.mp hp with z | z
    · rw [List.mem_singleton.mp z]
      exact pin (Nat.le_refl _) eg gd
    rcases List.mem_cons.mp z with z | z
    · rw [z]
      exact pin (Nat.le_of_lt hS) eS lS
    · rw [List.mem_singleton.mp z]
      exact pin (Nat.le_of_lt hC) eC fC.noCell
  have place : ∀ b, s1.heap.objs.size < b → GC (gcxOf P w K mg base N qual scope f cdv A outer s H E [(s1.heap.objs.size, go)]) b [] A (.func body (envOfC qual scope s.heap.objs.size f cdv)) [] id := fun b hb => by
    obtain ⟨_, a2, _, a4, a5, _⟩ := new (Nat.le_of_lt hb)
    refine ⟨fun p hp => ?_, fun p hp => (by simp at hp), ⟨a4.resolve_left fun z => by simp [gcxOf, cxOf] at z, a2, a5⟩, over_func, rfl, rfl, rfl⟩
    rw [List.mem_singleton.mp hp]
    exact Nat.ne_of_lt hb
  refine seg_func (seg_imp (R := fun n s0 r s' => match r with
      | .ok (.ret u) => ∃ ys v ip σ H', n + ys.length = sizeLine ∧ CIv (gcxOf P w K mg base N qual scope f cdv A outer s H E [(s1.heap.objs.size, go)]) Z ip ys σ H' s' ∧ RelV v u ∧ v = .non ∧ Q ys H'
      | .ok _ => False
      | .error e => CX P w outer H s E e s') (Y := CY (gcxOf P w K mg base N qual scope f cdv A outer s H E [(s1.heap.objs.size, go)]) Z) (fun n s0 r s' hR => ?_) (fun n s0 v s' kap kap' hkk hY => ?_) sizeLine ?_)
  · match r, hR with
    | .error e, hR => exact .inr ⟨e, rfl, hR⟩
    | .ok (.ret u), ⟨ys, v, ip, σ, H', hn, c, rv, ev, q⟩ =>
      subst ev
      obtain rfl : u = Value.none := rv
      obtain ⟨o, fo, co, c0, _⟩ := c.at
      obtain ⟨s0', _, _, acc, cc, ra, ea⟩ := c.gi.at
      obtain ⟨_, _, _, _, _, I⟩ := c
      exact .inl ⟨.inl rfl, H', ys, acc, cc, o, I.os, I.bare, I.base, I.hok, s0', c0, ea, co, fo, ra, by omega, q⟩
  · obtain ⟨ys, x, ip, σ, H', hn, _, c, hs⟩ := hY
    obtain ⟨o, fo, co, _⟩ := c.at
    obtain ⟨_, _, _, acc, cc, ra, ea⟩ := c.gi.at
    obtain ⟨_, _, _, _, _, I⟩ := c
    have sz : acc.size = ys.length := by
      have e1 := ra.length
      have e2 : acc.toList.length = acc.size := by simp
      omega
    exact ⟨I.os, I.bare, I.nolimit, hgen _ (I.pin (s1.heap.objs.size, go) (List.mem_append_left _ (List.mem_singleton.mpr rfl))).1, ⟨acc, cc, ea, by rw [sz]; exact hn⟩, ⟨o, co, fo⟩, fun s'' z => hkk _ _ (hs s'' z)⟩
  · refine ht A Z [] _ _ [] _ _ id id _ ⟨place _ hS, place _ hC⟩ (fun n ys s0 s' fl hn e => ?_) (fun n s0 e s' hx => ?_) sizeLine [] s2 s2 _ H (Nat.add_zero _) J hq
    · match fl, e with
      | .next, ⟨σ, H', c, q⟩ => exact seg_end (.ok (.ret .none)) ⟨ys, .non, [], σ, H', hn, c, rfl, rfl, q⟩
      | .ret u, ⟨v, σ, H', c, rv, ev, q⟩ => exact seg_end (.ok (.ret u)) ⟨ys, v, [], σ, H', hn, c, rv, ev, q⟩
      | .brk, ⟨_, _, _, q⟩ => exact q.elim
      | .cont, ⟨_, _, _, q⟩ => exact q.elim
    · refine seg_wrap ?_
      rw [over_func]
      refine wpAny_mono (show wpAny (model P w) (A.deeper (envOfC qual scope s.heap.objs.size f cdv)) (leaving (envOfC qual scope s.heap.objs.size f cdv) e) (fun _ s'' => CX P w outer H s E e s'' ∧ ∀ p ∈ [(s1.heap.objs.size, go)], s''.heap.get? p.1 = some p.2) (fun _ _ => False) s' from hx) (fun _ s'' q => ?_) fun _ s'' q => q.elim
      exact seg_end (.error e) q.1
theorem cfn_of (lk : K.lookup f = some ⟨oc, od, .func (PySem.W.fnOf name qual params body scope dV kV doc pm an cdv ct), osl⟩) (hcd : PySem.W.codeIn K cdv qual = true) (S : GScope N ps scope) (len : ∀ vs H Q E, sp vs H Q E → vs.length = ps.length)
    (hbody : ∀ (A : Around) (outer : List Env) (s : Shared) (H : Hp) (vs : List V) (Q : List V → Hp → Prop) (E : XK) (pn : List (Addr × Obj)), Room k (A.deeper (envOfC qual scope s.heap.objs.size f cdv)) → sp vs H Q E →
      ∃ t, CRun (gcxOf P w K mg base N qual scope f cdv A outer s H E pn) (execs body (envOfC qual scope s.heap.objs.size f cdv)) t ∧ t { nx := fun ys _ H' => Q ys H', rt := fun ys v H' => v = .non ∧ Q ys H' } [] (start N vs) H) :
    CFn P w K mg base (k + 1) f (PySem.W.fnOf name qual params body scope dV kV doc pm an cdv ct) ps sp := by
  refine ⟨len, fun A outer s H args us vs Q E hr e0 hb r hsp => ?_⟩
  have KX : K.In s.heap := e0.mod.kin.keeps fun b o e => (e0.bs b o e).1
  have lim : s.heap.NoLimit := e0.mod.nolimit.keeps fun b o e => (e0.bs b o e).1
  refine codeAny_call_generator hr.depth (KX _ _ lk) rfl S.co S.gen rfl (PySem.W.codeRec_of KX hcd) (hb _ _ _ _ (wpAny_newFunctionEnv_cells S.kind (fun ⟨n, v⟩ hy => ?_) fun env he s1 x => ?_))
  · rcases S.par n (List.of_mem_zip hy).1 with q | q
    · exact .inl q
    · exact .inr ⟨q, PySem.W.cellsFrom_some _ _ _ (.inl q)⟩
  subst he
  have lim1 : s1.heap.NoLimit := lim.keeps x.toInCall.keep
  have sz1 : s.heap.objs.size ≤ s1.heap.objs.size := Nat.le_of_lt x.toInCall.ns.lt
  have kp1 := x.toInCall.keep
  have made := fun (A' : Around) (hd : A'.handled = none) (e' : Env0 P w K mg base A' outer s H) => inv_startG (f := f) (cd := cdv) (qual := qual) (E := E) S hd e' (len _ _ _ _ hsp) r x
  have I0 := made A hr.hd e0
  have os1 : s1.os = s.os := I0.os
  refine ⟨lim1, ?_⟩
  generalize hgo : ({ cls := .type "generator", data := .fields #[.int s1.gens.size 0, .str _ s1.toks, .str _ (s1.toks + 1)] } : Obj) = go
  have g1 : go.cls = .type "generator" := by rw [← hgo]
  have gd : ∀ v, go.data ≠ .cell v := fun v q => by
    rw [← hgo] at q
    cases q
  have hgen : ∀ h : Heap, h.get? s1.heap.objs.size = some go → h.IsGen s1.heap.objs.size s1.gens.size := fun h e => by
    exact ⟨go, _, _, e, g1, congrArg Obj.data hgo.symm, congrArg Obj.slots hgo.symm⟩
  have put : ∀ h : Heap, (h.push go).get? h.objs.size = some go := fun h => by
    rw [← hgo]
    exact Heap.get?_push_size _ rfl
  have keep : ∀ b o, s1.heap.get? b = some o → (s1.heap.push go).get? b = some o := fun b o e => Heap.get?_push_of_some _ e
  refine ⟨s1.heap.objs.size, s1.gens.size, _, rfl, sz1, ?_, hgen _ (put _), Array.getElem?_push_size .., os1, AllBare.push I0.bare rfl, lim1.keeps keep, fun b o e => keep b o (kp1 b o e), ?_⟩
  · show _ < (s1.heap.push _).objs.size
    rw [Heap.size_push]
    exact Nat.lt_succ_self _
  intro Aw Z s2 hrw hfr hS hC hk2 eS eC os2 ba2
  obtain ⟨t, ht, hq⟩ := hbody Aw outer s H vs Q E [(s1.heap.objs.size, go)] (hrw.deeper _) hsp
  have up : ∀ b, (s1.heap.push go).objs.size ≤ b → s1.heap.objs.size < b := fun b h => by
    rw [Heap.size_push] at h
    exact h
  exact c_begin (tk := 0) (made Aw hrw.hd ⟨hfr, e0.mod, e0.bs, e0.bsz, e0.funs, e0.frf, e0.hok, e0.bare⟩) gd hgen ht hq (up _ hS) (up _ hC) (fun b o e => hk2 b o (keep b o e)) (hk2 _ _ (put _)) eS eC os2 ba2
end
end Sea

set_option Elab.async false
set_option linter.all false
set_option maxRecDepth 100000
set_option maxHeartbeats 4000000
/-! [x for x in f(..)], f a generator def -/
namespace Sea
open PySem PySem.Spec PyProof.Rows L2 GenW
section
variable {X : Cx} {k : Nat} {f : Addr} {fd : FuncData} {ps : List Str} {sp : SpG} {dvs : List V} {ds : List Value} {x : Str} {p pos pos' : Pos}
/-- an expression whose value is such a generator, none of whose turns raises -/
structure PCGen (X : Cx) (k : Nat) (e : Expr) (tg : TGen) : Prop where
  run : ∀ (pins : List (Addr × Obj)) (s : Shared) (σ : L2.St) (H : Hp) (cont : List V → Hp → Prop), Inv X pins σ H s → tg σ H cont → wpAny (model X.prog X.w) X.A (eval e X.env)
    (fun u s' => ∃ H1 sc, Inv X pins σ H1 sc ∧ CMade X.prog X.w k X.stack H1 sc cont (fun _ _ _ => False) u s') X.xe s
theorem pcgen_call {e : Expr} {es : List Expr} {t : TA} (F : CFn X.prog X.w X.K X.mg X.base k f fd ps sp) (hr : Room k X.A) (hg : Gl X x) (hm : X.mg x = some (.ref f)) (hk : PySem.W.keepIn X.K (.ref f) = true) (hb : Binds X.K fd ps ds) (hd : Vals dvs ds)
    (ha : PA X (e :: es) t) (hdb : (x == ("__debug__" : Str)) = false := by decide) (he : starEach (e :: es) X.env = (false, eval e X.env) :: starEach es X.env := by rfl) (hpl : (backTo pos' (starEach es X.env)).any (·.1) = false := by rfl) :
    PCGen X k (.Call (.Name x p) (e :: es) [] pos') (tCallG sp dvs (fun _ _ _ => False) t) := by
  refine ⟨fun pins s σ H cont I h => ?_⟩
  refine wpAny_Call_Name_kw (ld_glob I hg hm ?_ hdb)
  refine PySem.W.callWith_K (h₀ := X.base) I.ok.mod.kin hk (thn (ha.run pos' pins s σ H _ I h) fun us s1 ⟨vs, H1, I1, r, q⟩ => ⟨I1.kIn, ?_⟩) he hpl
  have r2 : Vals (vs ++ dvs) (us ++ ds) := r.append hd
  have hl : (us ++ ds).length = ps.length := r2.length ▸ F.len _ _ _ _ q
  refine wpAny_call (codeAny_mono (F.run X.A X.stack s1 H1 ⟨us, []⟩ (us ++ ds) (vs ++ dvs) cont _ hr I1.env0 (hb s1 us I1.kIn hl) r2 q) fun r s2 z => ?_)
  match r, z with
  | .ok (.ret u), z => exact ⟨H1, s1, I1, z⟩
end
section
variable {P : Program} {w : World} {outer : List Env} {H : Hp} {sc : Shared} {Q : List V → Hp → Prop} {A : Around} {R : Result → Shared → Prop} {Z : Duo} {a : Addr} {g : Nat} {y : Str} {py py2 pos : Pos} {e : Expr} {scope : Scope} {ce : Env}
theorem lcG_loop (hh : A.handled = none) (hd : A.depth < recursionLimit) (cL : ce.locals = Z.C) (cK : ce.scope.kind = .function) (cY : ce.kindOf y = some .local) (hdb : (y == ("__debug__" : Str)) = false) (hSa : Z.S ≠ a) (hCa : Z.C ≠ a) (hSs : Z.S ≠ cStatics) (hCs : Z.C ≠ cStatics)
    (hend : ∀ s' acc c o H' ys, s'.heap.get? Z.S = some (lstObj acc c) → s'.heap.get? Z.C = some o → FrO o → Vals ys acc.toList → ys.length ≤ sizeLine → s'.os = sc.os → AllBare s'.gens → Un (frs outer) [] H H' sc.heap s'.heap → HOk P w H' s'.heap → H' Z.S = none → H' Z.C = none → Q ys H' → R (.ok .next) s')
    (m : Nat) (s : Shared) (hg : s.heap.IsGen a g) (hl : s.heap.NoLimit) (go : ∃ gs, s.gens[g]? = some gs ∧ gs.Goes (model P w) A.in1 (COff P w outer H sc Z Q fun _ _ _ => False) (CItem sc Z a g) m (.send .none) (s.setGen g .running)) :
    codeAny (model P w) A (.compLoop (.ListComp (.Name y py) [⟨.Name y py2, e, [], 0⟩] scope pos) 0 (.ref a) (.ref Z.S) ce) R s := by
  refine compLoop_any (fun n s => s.heap.IsGen a g ∧ s.heap.NoLimit ∧ ∃ gs, s.gens[g]? = some gs ∧ gs.Goes (model P w) A.in1 (COff P w outer H sc Z Q fun _ _ _ => False) (CItem sc Z a g) n (.send .none) (s.setGen g .running)) ?_ m ⟨hg, hl, go⟩
  rintro n s ⟨hg, hl, gs, hgs, hgo⟩
  have hgl : g < s.gens.size := (Array.getElem?_eq_some_iff.mp hgs).1
  refine wpAny_gsz (n := g + 1) hgl (next_genG (F := COut P w outer H sc Z Q) (Er := fun e s1 => CX P w outer H sc (fun _ _ _ => False) e s1) hh hl hd hg hgs hgo (fun v s1 gs' hbare hv => ?_) (fun s1 hp h' hk => ?_) fun e s1 he => ?_)
  · intro hsz
    obtain ⟨os1, hb1, hl1, hg1, ⟨acc, c, hS1, many⟩, ⟨o, hC1, fC⟩, wake⟩ := hv
    have room : acc.size < sizeLine := by omega
    have gsz : g < s1.gens.size := by
      have q : (s1.setGen g gs').gens.size = s1.gens.size := setGen_size _ _ _
      have hsz' : g + 1 ≤ (s1.setGen g gs').gens.size := hsz
      omega
    show wpAny _ A (.pure ()) _ _ _
    apply wpAny_pure
    obtain ⟨m0, hn0⟩ := fC.ns hC1
    refine wpAny_assign_Name (wpAny_storeName_local (m := m0) cY (by rw [cL]; exact hn0) (fun h1 hn1 sb1 => ?_) (by rw [cK]; rfl))
    apply wpAny_tests_nil
    rw [if_pos rfl]
    refine wpAny_Name (wpAny_loadName_local (v := v) cK cY hn1 (by simp) ?_) hdb
    rw [cL] at hn1 sb1
    obtain ⟨o2, hC2, f2⟩ := frO_ns hn1
    have hS2 : h1.get? Z.S = some (lstObj acc c) := (sb1.2 _ Z.ne).trans hS1
    refine append_at hS2 (fun h2 sb2 hS3 => ?_) (Nat.le_of_lt room)
    have meal : ∀ G : Array GenState, AllBare G → ∀ tk, Meal Z v s1 { s1 with heap := h2, gens := G, toks := tk } := fun G hG tk => by
      refine ⟨h1, o2, fun b u hb q => (sb1.2 b hb).trans q, hC2, f2, ⟨rfl, hG, fun b u hb q => (sb2.2 b hb).trans q, fun acc' c' q => ?_⟩⟩
      have q : h1.get? Z.S = some (lstObj acc' c') := q
      rw [hS2] at q
      cases q
      exact ⟨_, hS3⟩
    have bare2 : AllBare ((s1.setGen g gs').setGen g .running).gens := allBare_setGen (allBare_setGen hb1 hbare) rfl
    have next := wake _ (meal _ bare2 (s1.toks + 1))
    have keep : ∀ b u, b ≠ Z.S → b ≠ Z.C → s1.heap.get? b = some u → h2.get? b = some u := fun b u hS hC q => (sb2.2 b hS).trans ((sb1.2 b hC).trans q)
    cases n with
    | zero => exact next.elim
    | succ n =>
      refine ⟨n, Nat.lt_succ_self n, ?_, ?_, gs', setGen_at gsz, next⟩
      · obtain ⟨o, nm, qn, ho, r⟩ := hg1
        exact ⟨o, nm, qn, keep a o hSa.symm hCa.symm ho, r⟩
      · obtain ⟨mc, hns, hnn⟩ := hl1
        exact ⟨mc, hns.at' fun o e => keep _ o hSs.symm hCs.symm e, hnn⟩
  · intro hsz
    obtain ⟨H', ys, acc, c, o, os1, hb1, un, hok, hSn, hCn, hS1, hC1, fC, hv, hle, hQ⟩ := hp
    exact hend _ acc c o H' ys (hk _ _ hS1) (hk _ _ hC1) fC hv hle os1 (allBare_setGen hb1 rfl) (un.trans (Un.kept hk)) (hok.kept hk) hSn hCn hQ
  · obtain ⟨_, _, _, _, _, _, _, _, _, _, _, _, no⟩ := he
    exact no.elim
end
section
variable {X : Cx} {k : Nat} {p pos pos' : Pos}
theorem pe_lcG {e : Expr} {tg : TGen} {y : Str} {py py2 : Pos} {scope : Scope} {own : List (Str × Nat)} (h : PCGen X k e tg) (hr : Room (k + 1) X.A) (ok : BlkOk X.N X.env.scope scope own) (hy : scope.names.lookup y = some .local) (hd : (y == ("__debug__" : Str)) = false := by decide)
    (hs : ∀ z, foldedSetIterable e X.env z = pure z := by intro _; rfl) : PE X (.ListComp (.Name y py) [⟨.Name y py2, e, [], 0⟩] scope pos) (tListG tg) := by
  refine ⟨fun pins s σ H Q I hq => ?_⟩
  rw [eval_ListComp]
  have cells : ∀ y ∈ scope.names, y.2 = .free → ∃ c, X.env.cells.lookup y.1 = some c := fun y hy e => (ok.free y hy e).elim (fun z => I.ok.has _ (.inl z)) fun z => I.ok.has _ (.inr z)
  refine wpAny_comprehension_free (use := none) rfl hs (closure_ok cells) ok.kind (fun y hy e => by rw [ok.uniq y hy, e]) (thn (h.run pins s σ H _ I hq) fun u s1 ⟨H1, sc, I1, a, g, c, eu, ha1, ha2, hg, hgs, hos, hb, hl, hkp, wake⟩ => ?_)
  subst eu
  refine wpAny_pyIter_gen hg (wpAny_newObj_type (newEnv_comp ?_) (by show 0 ≤ sizeLine; decide))
  generalize hs3 : ({ s1 with heap := s1.heap.push { cls := .type "list", data := .seq ([] : List Value).toArray } } : Shared) = s3
  have h3 : s3.heap = s1.heap.push { cls := .type "list", data := .seq ([] : List Value).toArray } := by rw [← hs3]
  have g3 : s3.gens = s1.gens := by rw [← hs3]
  have o3 : s3.os = s1.os := by rw [← hs3]
  have z3 : s3.heap.objs.size = s1.heap.objs.size + 1 := by rw [h3, Heap.size_push]
  show codeAny _ _ (.compStart (.ListComp (.Name y py) [⟨.Name y py2, e, [], 0⟩] scope pos) 0 (.ref a) (.ref s1.heap.objs.size) (compEnvC scope (cellsFrom (s3.heap.objs.size + 1) scope.names (cloFrom X.env.cells scope.names [])) s3.heap.objs.size X.env)) (compPost (model X.prog X.w) X.A X.xe none _ (.ref s1.heap.objs.size) s3.heap.objs.size) { s3 with heap := pushCells (s3.heap.push { cls := .type "dict", data := .dict #[] }) scope.names }
  generalize hce : compEnvC scope (cellsFrom (s3.heap.objs.size + 1) scope.names (cloFrom X.env.cells scope.names [])) s3.heap.objs.size X.env = ce
  have cL : ce.locals = s3.heap.objs.size := by rw [← hce]; rfl
  have cK : ce.scope.kind = .function := by rw [← hce]; exact ok.kind
  have cY : ce.kindOf y = some .local := by
    rw [← hce]
    exact lookup_relS_keep (by decide) hy
  have kp4 : ∀ b o, s1.heap.get? b = some o → (pushCells (s3.heap.push { cls := .type "dict", data := .dict #[] }) scope.names).get? b = some o := fun b o q => pushCells_keeps _ _ _ _ (Heap.get?_push_of_some _ (by rw [h3]; exact Heap.get?_push_of_some _ q))
  have eS4 : (pushCells (s3.heap.push { cls := .type "dict", data := .dict #[] }) scope.names).get? s1.heap.objs.size = some (lstObj #[] 0) := pushCells_keeps _ _ _ _ (Heap.get?_push_of_some _ (by rw [h3]; exact Heap.get?_push_size _ rfl))
  have eC4 : (pushCells (s3.heap.push { cls := .type "dict", data := .dict #[] }) scope.names).Ns s3.heap.objs.size (fun _ => none) := Heap.Ns.keeps (Heap.Ns.new ..) fun b o q => pushCells_keeps _ _ _ _ q
  have ne : s1.heap.objs.size ≠ s3.heap.objs.size := by omega
  have eC4' := frO_ns eC4
  have lt3 : s1.heap.objs.size < s3.heap.objs.size := by rw [z3]; exact Nat.lt_succ_self _
  have kin : cStatics < s1.heap.objs.size := let ⟨_, hn, _⟩ := hl; hn.lt
  have loop : codeAny (model X.prog X.w) X.A (.compLoop (.ListComp (.Name y py) [⟨.Name y py2, e, [], 0⟩] scope pos) 0 (.ref a) (.ref s1.heap.objs.size) ce) (compPost (model X.prog X.w) X.A X.xe none (EP X pins σ Q) (.ref s1.heap.objs.size) s3.heap.objs.size) { s3 with heap := pushCells (s3.heap.push { cls := .type "dict", data := .dict #[] }) scope.names } := by
    refine lcG_loop (Z := ⟨s1.heap.objs.size, s3.heap.objs.size, ne⟩) (P := X.prog) (w := X.w) (outer := X.stack) (H := H1) (sc := sc) (Q := fun out H2 => ∀ p, H2 p = none → Q (.ref p) (upd H2 p (.lst out))) (g := g) hr.hd hr.depth cL cK cY hd ?_ ?_ ?_ ?_ (fun s' acc c o H' ys q1 q2 q3 q4 q5 q6 q7 q8 q9 q10 q11 q12 => ?_) sizeLine _ (hg.keeps kp4) (hl.keeps kp4) ⟨.fresh c, ?_, rfl, ?_⟩
    · exact Nat.ne_of_gt ha2
    · exact Nat.ne_of_gt (Nat.lt_trans ha2 lt3)
    · exact Nat.ne_of_gt kin
    · exact Nat.ne_of_gt (Nat.lt_trans kin lt3)
    · obtain ⟨m, hm⟩ := q3.ns q2
      refine ⟨m, hm, fun h' sb => ?_⟩
      have low : sc.heap.objs.size ≤ s1.heap.objs.size := Nat.le_trans ha1 (Nat.le_of_lt ha2)
      have J := I1.drained low q5 q1 q4 .nil q6 q7 q8 q9 q10
      obtain ⟨f0, f1, f2, f3, f4, f5⟩ := I1.fpOk (H' := upd H' s1.heap.objs.size (.lst ys)) (Nat.le_trans low (Nat.le_of_lt lt3)) (by rw [upd_ne (Ne.symm ne)]; exact q11)
      exact ⟨.ref s1.heap.objs.size, _, J.turned (t' := s'.toks) (fun b o hb e => (sb.2 b hb).trans e) f0 f1 f3 f4 f5, rfl, q12 _ q10⟩
    · show s3.gens[g]? = _
      rw [g3]
      exact hgs
    · refine wake X.A.in1 ⟨s1.heap.objs.size, s3.heap.objs.size, ne⟩ _ hr.in1 I1.ok.frames (Nat.le_refl _) (Nat.le_of_lt lt3) kp4 ⟨0, eS4⟩ eC4' ?_ ?_
      · show s3.os = _
        rw [o3]
        exact hos
      · exact allBare_setGen (s := { s3 with heap := _ }) (by show AllBare s3.gens; rw [g3]; exact hb) rfl
  exact codeAny_compStart_list loop (wpAny_pyIter_gen (hg.keeps kp4) loop)
end
end Sea

set_option Elab.async false
set_option linter.all false
set_option maxRecDepth 100000
set_option maxHeartbeats 4000000
/-! one derivation for both readings of a generator def: list(f(..)) and [x for x in f(..)] -/
namespace Sea
open PySem PySem.Spec PyProof.Rows L2 GenW
section
variable {X : Cx} {pos : Pos}
def Bo (X : Cx) (st : Stmt) (t : TGn) : Prop := GS X st t ∧ CRun X (exec st X.env) t
def Bos (X : Cx) (b : List Stmt) (t : TGn) : Prop := GSs X b t ∧ CRun X (execs b X.env) t
theorem b_ps {st : Stmt} {t : TS} (h : PS X st t) : Bo X st (tPlain t) := ⟨gs_ps h, cs_ps h⟩
theorem bs_nil : Bos X [] tG0 := ⟨gss_nil, css_nil⟩
theorem bs_cons {st : Stmt} {rest : List Stmt} {t u : TGn} (a : Bo X st t) (b : Bos X rest u) : Bos X (st :: rest) (tGThen t u) := ⟨gss_cons a.1 b.1, css_cons a.2 b.2⟩
theorem b_yield {e : Expr} {yp : Pos} {te : TE} (he : PE X e te) (hco : X.env.scope.isCoroutine = false := by rfl) (hi : interactive X.env = false := by rfl) : Bo X (.Expr (.Yield (some e) yp) pos) (tGYield te) := ⟨gs_yield he hco hi, cs_yield he hco hi⟩
theorem b_if {c : Expr} {a b : List Stmt} {tc : TT} {t u : TGn} (hc : PT X c tc) (ha : Bos X a t) (hb : Bos X b u) : Bo X (.If c a b pos) (tGIf tc t u) := ⟨gs_if hc ha.1 hb.1, cs_if hc ha.2 hb.2⟩
theorem b_for {tg iter : Expr} {body : List Stmt} {wi : TI} {gt : TG} {tb : TGn} (hp : PassesOwn (model X.prog X.w) X.A X.env X.xe) (calm : X.calm = true) (hi : PI X tg iter wi) (hg : PG X tg gt) (hb : Bos X body tb)
    (hs : ∀ x, foldedSetIterable iter X.env x = pure x := by intro _; rfl) : Bo X (.For tg iter body [] pos) (tGFor wi gt tb) := ⟨gs_for hp calm hi hg hb.1 hs, cs_for hp calm hi hg hb.2 hs⟩
end
section
variable {P : Program} {w : World} {K : PySem.W.Frag} {mg : Str → Option Value} {base : Heap} {k : Nat} {f : Addr} {name qual : Str} {params : Arguments} {body : List Stmt} {scope : Scope} {dV kV doc pm cdv ct oc : Value} {an od : Option Addr} {osl : Array (Option Value)} {N ps : List Str} {sp : SpG}
theorem both_of (lk : K.lookup f = some ⟨oc, od, .func (PySem.W.fnOf name qual params body scope dV kV doc pm an cdv ct), osl⟩) (hcd : PySem.W.codeIn K cdv qual = true) (S : GScope N ps scope) (len : ∀ vs H Q E, sp vs H Q E → vs.length = ps.length)
    (hbody : ∀ (A : Around) (outer : List Env) (s : Shared) (H : Hp) (vs : List V) (Q : List V → Hp → Prop) (E : XK) (pn : List (Addr × Obj)), Room k (A.deeper (envOfC qual scope s.heap.objs.size f cdv)) → sp vs H Q E →
      ∃ t, Bos (gcxOf P w K mg base N qual scope f cdv A outer s H E pn) body t ∧ t { nx := fun ys _ H' => Q ys H', rt := fun ys v H' => v = .non ∧ Q ys H' } [] (start N vs) H) :
    GFn P w K mg base (k + 1) f (PySem.W.fnOf name qual params body scope dV kV doc pm an cdv ct) ps sp ∧ CFn P w K mg base (k + 1) f (PySem.W.fnOf name qual params body scope dV kV doc pm an cdv ct) ps sp :=
  ⟨gfn_of lk hcd S len fun A o s H vs Q E pn hr h => let ⟨t, b, q⟩ := hbody A o s H vs Q E pn hr h; ⟨t, b.1, q⟩, cfn_of lk hcd S len fun A o s H vs Q E pn hr h => let ⟨t, b, q⟩ := hbody A o s H vs Q E pn hr h; ⟨t, b.2, q⟩⟩
end
theorem gfor_rounds {I : It} {g : TG} {tb : TGn} {D : GEnds} {ys : List V} {σ : L2.St} {H : Hp} (n : Nat) (Pv : Nat → List V → L2.St → Hp → Prop) (start : Pv 0 ys σ H)
    (round : ∀ i ys σ H, i < n → Pv i ys σ H → I.go i H ∧ ∀ x H', I.yld i H x H' → g x σ H' fun σ2 H2 => tb { D with nx := Pv (i + 1), ct := Pv (i + 1), bk := D.nx } ys σ2 H2)
    (dry : ∀ ys σ H, Pv n ys σ H → I.stop n H ∧ D.nx ys σ H) :
    ∃ W : Nat → Nat → List V → L2.St → Hp → Prop, (∃ m, W 0 m ys σ H) ∧ ∀ i m ys σ H, W i m ys σ H →
      (I.stop i H ∧ D.nx ys σ H) ∨ (I.go i H ∧ ∃ N : List V → L2.St → Hp → Prop, (∀ ys σ H, N ys σ H → ∃ m', m' < m ∧ W (i + 1) m' ys σ H) ∧ ∀ x H', I.yld i H x H' → g x σ H' fun σ2 H2 => tb { D with nx := N, ct := N, bk := D.nx } ys σ2 H2) := by
  refine ⟨fun i m ys σ H => m + i = n ∧ Pv i ys σ H, ⟨n, rfl, start⟩, ?_⟩
  rintro i (_ | m) ys σ H ⟨e, p⟩
  · rw [Nat.zero_add] at e
    exact .inl (e ▸ dry ys σ H (e ▸ p))
  · have ⟨go, each⟩ := round i ys σ H (by omega) p
    exact .inr ⟨go, Pv (i + 1), fun _ _ _ z => ⟨m, Nat.lt_succ_self m, by omega, z⟩, each⟩
end Sea

set_option Elab.async false
set_option linter.all false
set_option maxRecDepth 100000
set_option maxHeartbeats 4000000
/-! xs[::c] of a list, c a written number -/
namespace Sea
open PySem PySem.Spec PyProof.Rows L2
def every {α : Type} (xs : List α) (d : α) (c : Nat) : List α := (List.range ((xs.length + c - 1) / c)).map fun k => xs.getD (c * k) d
theorem every_lt {n c k : Nat} (hc : 0 < c) (h : k < (n + c - 1) / c) : c * k < n := by
  have h1 : (k + 1) * c ≤ n + c - 1 := (Nat.le_div_iff_mul_le hc).mp h
  rw [Nat.add_mul, Nat.one_mul, Nat.mul_comm] at h1
  omega
theorem step_range {n c : Nat} (hc : 0 < c) : sliceRange 0 (n : Int) (c : Int) = (List.range ((n + c - 1) / c)).map (c * ·) := by
  unfold sliceRange
  have e : (if (c : Int) > 0 then (if (0 : Int) < (n : Int) then ((n : Int) - 0 + (c : Int) - 1) / (c : Int) else 0) else (if (0 : Int) > (n : Int) then (0 - (n : Int) - (c : Int) - 1) / (-(c : Int)) else 0)).toNat = (n + c - 1) / c := by
    rw [if_pos (by omega)]
    by_cases h : 0 < n
    · rw [if_pos (by omega), show (n : Int) - 0 + (c : Int) - 1 = ((n + c - 1 : Nat) : Int) by omega]
      rfl
    · rw [if_neg (by omega)]
      obtain rfl : n = 0 := by omega
      rw [Nat.zero_add, Nat.div_eq_of_lt (by omega)]
      rfl
  show (List.range _).map _ = _
  rw [e]
  refine List.map_congr_left fun k _ => ?_
  rw [show (0 : Int) + (c : Int) * (k : Int) = ((c * k : Nat) : Int) by rw [Int.zero_add]; rfl]
  rfl
theorem pick_step (its : List Value) {c : Nat} (hc : 0 < c) : slicePick its.toArray none none (some (c : Int)) = (every its .none c).toArray := by
  have b : sliceBounds none none (some (c : Int)) its.toArray.size = (0, (its.length : Int), (c : Int)) := by
    unfold sliceBounds
    have h : (c : Int) > 0 := by omega
    have n0 : c ≠ 0 := by omega
    simp [h, n0]
  unfold slicePick
  rw [b, step_range hc]
  unfold every
  congr 1
  rw [List.filterMap_map]
  have go : ∀ l : List Nat, (∀ k ∈ l, c * k < its.length) → l.filterMap ((fun x => its.toArray[x]?) ∘ fun x => c * x) = l.map fun k => its.getD (c * k) .none := by
    intro l
    induction l with
    | nil => exact fun _ => rfl
    | cons k l ih =>
      intro h
      have hk := h k List.mem_cons_self
      have e : ((fun x => its.toArray[x]?) ∘ fun x => c * x) k = some (its.getD (c * k) .none) := by
        show its.toArray[c * k]? = _
        rw [List.getElem?_toArray, List.getD_eq_getElem?_getD, List.getElem?_eq_getElem hk]
        rfl
      rw [List.filterMap_cons_some e, List.map_cons, ih fun j hj => h j (List.mem_cons_of_mem _ hj)]
  exact go _ fun k hk => every_lt hc (List.mem_range.mp hk)
theorem vals_every {xs : List V} {its : List Value} (r : Vals xs its) {c : Nat} (hc : 0 < c) : Vals (every xs .non c) (every its .none c) := by
  unfold every
  rw [r.length]
  have go : ∀ l : List Nat, (∀ k ∈ l, c * k < xs.length) → Vals (l.map fun k => xs.getD (c * k) .non) (l.map fun k => its.getD (c * k) .none) := by
    intro l
    induction l with
    | nil => exact fun _ => .nil
    | cons k l ih =>
      intro h
      have hk := h k List.mem_cons_self
      have e := List.getElem?_eq_getElem hk
      obtain ⟨u, hu, ru⟩ := r.get e
      refine .cons ?_ (ih fun j hj => h j (List.mem_cons_of_mem _ hj))
      show RelV (xs.getD (c * k) .non) (its.getD (c * k) .none)
      rw [List.getD_eq_getElem?_getD, List.getD_eq_getElem?_getD, e, hu]
      exact ru
  exact go _ fun k hk => every_lt hc (by rw [r.length]; exact List.mem_range.mp hk)
def tStepL (K : PySem.W.Frag) (c : Nat) (te : TE) : TE := fun σ H Q => te σ H fun x H1 => ∃ a xs, x = .ref a ∧ SqL K H1 a xs ∧ ∀ p, H1 p = none → Q (.ref p) (upd H1 p (.lst (every xs .non c)))
theorem pe_stepL {X : Cx} {e : Expr} {te : TE} {k c : Nat} {p1 p3 pos : Pos} (he : PE X e te) (hc : 0 < c) (hd : PE X (.Constant (.int (c : Int)) k p1) (tC (.int (c : Int)))) : PE X (.Subscript e (.Slice none none (some (.Constant (.int (c : Int)) k p1)) p3) pos) (tStepL X.K c te) := by
  constructor
  intro pins s σ H Q I h
  have step : PO X (some (.Constant (.int (c : Int)) k p1)) (tPart (tC (.int (c : Int)))) := po_some hd
  refine Subscript_ (thn (he.run pins s σ H _ I h) ?_)
  rintro v s1 ⟨x, H1, I1, r1, a, xs, rfl, hx, q⟩
  obtain rfl : v = .ref a := r1
  apply wpAny_Slice
  refine thn (po_none.run pins s1 σ H1 (fun o H2 => (o, H2) = (none, H1)) I1 rfl) ?_
  rintro vl s2 ⟨_, _, I2, pl, e⟩
  cases e
  refine thn (po_none.run pins s2 σ H1 (fun o H2 => (o, H2) = (none, H1)) I2 rfl) ?_
  rintro vu s3 ⟨_, _, I3, pu, e⟩
  cases e
  refine thn (step.run pins s3 σ H1 (fun o H2 => (o, H2) = (some (c : Int), H1)) I3 ⟨_, rfl, rfl⟩) ?_
  rintro vs s4 ⟨_, _, I4, ps, e⟩
  cases e
  have I5 : Inv X pins σ H1 { s4 with heap := s4.heap.push { cls := .type "slice", data := .fields #[vl, vu, vs] } } := I4.kept (t' := s4.toks) fun _ _ z => Heap.get?_push_of_some _ z
  obtain ⟨its, r, ht, hz⟩ := I5.list hx
  have hlen := r.length
  refine tail_any (ops := [.ref a, .ref s4.heap.objs.size]) ht.isList.typeIs (PySem.slot_list_getitem.lookup) ?_ (by with_unfolding_all rfl)
  refine wpAny_getItem_list_slice ht.isList (Heap.IsSliceOf.new _ vl vu vs) pl pu ps (by intro z; injection z with z; omega) ?_ (by rw [List.size_toArray]; omega)
  rw [pick_step its hc]
  have many : (every xs .non c).length ≤ xs.length := by
    unfold every
    rw [List.length_map, List.length_range]
    rcases Nat.eq_zero_or_pos xs.length with z | z
    · rw [z, Nat.zero_add, Nat.div_eq_of_lt (by omega)]
      exact Nat.le_refl _
    · refine (Nat.div_le_iff_le_mul_add_pred hc).mpr ?_
      have : xs.length ≤ c * xs.length := Nat.le_mul_of_pos_left _ hc
      omega
  refine ⟨.ref _, _, I5.laid (t' := s4.toks) (o := .lst (every xs .non c)) (fun _ _ z => Heap.get?_push_of_some _ z) (Nat.le_refl _) ?_, rfl, q _ (I5.hok.fresh (Nat.le_refl _))⟩
  exact ⟨Nat.le_trans many hz, _, 0, vals_every r hc, Heap.get?_push_size _ rfl⟩
end Sea

set_option Elab.async false
set_option linter.all false
set_option maxRecDepth 100000
set_option maxHeartbeats 4000000
/-! sorted(d) of a dict whose keys are numbers, however many: what a dict gives when it is walked; a list of numbers sorted in its place; both together -/
namespace Sea
open PySem PySem.Spec PyProof.Rows L2
section
variable {P : Program} {w : World} {A : Around} {E : Value → Shared → Prop} {s : Shared}
/-- the walk over a dict of numbers gives its numbers, in a heap that keeps all -/
theorem days_of {a : Addr} {vs : List (Key × Value)} {ks : List Int} {R : List Value → Shared → Prop} (hh : A.handled = none) (lo : (a == sysModules) = false) (dd : Heap.DictOf (mixKind P w) s.heap a vs) (keys : vs.map (·.1) = ks.map Sum.inl) (few : ks.length ≤ sizeLine)
    (h : ∀ h' tk us, (∀ b o, s.heap.get? b = some o → h'.get? b = some o) → IntsAre us ks → R us { s with heap := h', toks := tk }) : wpAny (model P w) A (collect (.ref a)) R E s := by
  obtain ⟨ep, at_⟩ := dd.dictAt
  have len : ks.length = vs.length := by simpa using (congrArg List.length keys).symm
  refine PySem.W.kdu_collect (PySem.W.kdl_dict lo) hh at_ (len ▸ few) fun h' tk acc keep got => h h' tk _ keep ?_
  have key : ∀ (j : Nat) (k : Key) (x : Value), vs[j]? = some (k, x) → ∃ y : Int, ks[j]? = some y ∧ k = (Sum.inl y : Key) := fun j k x e => by
    have m := congrArg (fun l : List Key => l[j]?) keys
    simp only [List.getElem?_map, e, Option.map_some] at m
    obtain ⟨y, e1, e2⟩ := Option.map_eq_some_iff.mp m.symm
    exact ⟨y, e1, e2.symm⟩
  refine ints_each (by rw [Array.length_toList, got.1, len]) fun j v e => ?_
  obtain ⟨k, x, e1, e2⟩ := got.2 j v (Array.getElem?_toList.symm.trans e)
  obtain ⟨y, e3, rfl⟩ := key j k x e1
  rcases keyIs_shape (show keyIs (Sum.inl y) v = true from e2) with ⟨i, t, q, ev⟩ | ⟨z, t, q, _⟩
  · injection q with q
    exact ⟨y, t, e3, by rw [q]; exact ev⟩
  · cases q
/-- sorted(x): what x gives, in a new list, sorted there -/
theorem sorted_by {x : Value} {Q : Value → Shared → Prop}
    (h : wpAny (model P w) A.in1 (collect x) (fun us s1 => us.length ≤ sizeLine ∧ wpAny (model P w) A.in1 (call (.builtin "list.sort") [.ref s1.heap.objs.size]) (fun _ s2 => Q (.ref s1.heap.objs.size) s2) E { s1 with heap := s1.heap.push (seqObj "list" us.toArray 0) }) E s) :
    wpAny (model P w) A (call (.builtin "sorted") [x]) Q E s := by
  refine Calls.call_function_entry PyProof.Rows.kind_sorted PyProof.Rows.plain_sorted PyProof.Rows.entry_sorted (PyProof.Rows.args_sorted1 _) ?_
  rw [Builtin.«sorted»]
  refine wpAny_bind (m := checkCount "sorted" 1 1 _) (wpAny_pure (wpAny_bind (wpAny_mono h (fun us s1 q => ?_) fun _ _ e => e)))
  exact wpAny_bind (wpAny_newList (wpAny_bind (wpAny_holding (wpAny_mono q.2 (fun _ s2 z => wpAny_pure ⟨_, rfl, z⟩) fun _ _ e => e))) q.1)
/-- numbers in a list, sorted in their place -/
theorem sort_there {l : Addr} {us : List Value} {ks : List Int} {Q : Value → Shared → Prop} (at_ : s.heap.get? l = some (seqObj "list" us.toArray 0)) (are : IntsAre us ks) (few : ks.length ≤ sizeLine)
    (h : ∀ (out : List Value) (h' : Heap) (ep : Nat), IntsAre out (out.map SrtO.iv) → (out.map SrtO.iv).Perm ks → (out.map SrtO.iv).Pairwise (· ≤ ·) → h'.get? l = some (seqObj "list" out.toArray ep) → (∀ b o, b ≠ l → s.heap.get? b = some o → h'.get? b = some o) → Q .none { s with heap := h' }) :
    wpAny (model P w) A (call (.builtin "list.sort") [.ref l]) Q E s := by
  refine wpAny_call_entry PyProof.Rows.slot_list_sort ⟨_, at_, rfl⟩ PyProof.Rows.entry_list_sort (SrtO.list_sort_ord SrtO.swo_int at_ (are.length ▸ few) (SrtO.ints_sortable are) fun out g1 g2 => ⟨_, rfl, ?_⟩) (PyProof.Rows.args_list_sort _)
  obtain ⟨k1, k2, k3⟩ := SrtO.ints_out are g1 g2
  obtain ⟨ep, here⟩ := PyProof.Rows.sortedHeap_at (vs := us) (out := out.toArray) at_
  exact h out _ ep k1 k2 k3 here fun b o n e => (PyProof.Rows.sortedHeap_old n (Heap.lt_size e)).trans e
end
def rSortD : List V → Hp → VK → Prop := fun xs H Q => ∃ (a : Addr) (kvs : List (Key × V)) (ks : List Int), xs = [V.ref a] ∧ Rd H a (.dK kvs) ∧ kvs.map (·.1) = ks.map Sum.inl ∧ ks.length ≤ 100000 ∧
  ∀ (ys : List Int) (p : Addr), ys.Perm ks → ys.Pairwise (· ≤ ·) → H p = none → Q (.ref p) (upd H p (.lst (ys.map V.int)))
theorem cr_sortedDA {X : Cx} (calm : X.calm = true) : CallR X (.builtin "sorted") rSortD := by
  intro pins s σ H xs us Q I r ⟨a, kvs, ks, e, rd, keys, few, q⟩
  subst e
  rw [Vals.ref1 r]
  have fits : ks.length ≤ sizeLine := Nat.le_trans few (by decide)
  obtain ⟨_, lo, vs, rel, dd⟩ := dk_rd I.hok rd
  refine sorted_by (days_of (I.ok.hd calm) lo dd (rel.keys.symm.trans keys) fits fun h1 tk us keep are => ⟨are.length ▸ fits, ?_⟩)
  refine sort_there (Heap.get?_push_size _ rfl) are fits fun out h2 ep k1 k2 k3 here old => ?_
  have I1 : Inv X pins σ H { s with heap := h1, toks := tk } := I.kept keep
  have stay : ∀ b o, h1.get? b = some o → h2.get? b = some o := fun b o e => old b o (Nat.ne_of_lt (Heap.lt_size e)) (Heap.get?_push_of_some _ e)
  refine ⟨.ref h1.objs.size, _, I1.laid (t' := tk) (o := .lst ((out.map SrtO.iv).map V.int)) stay (Nat.le_refl _) ⟨?_, out, ep, vals_of_ints k1, here⟩, rfl, q _ _ k2 k3 (I1.hok.fresh (Nat.le_refl _))⟩
  rw [List.length_map, k2.length_eq]
  exact fits
end Sea

set_option Elab.async false
set_option linter.all false
set_option maxRecDepth 100000
set_option maxHeartbeats 4000000
namespace Sea
open PySem PySem.Spec PyProof.Rows L2 LamX NdefX ClX Evl StX
/-! ### draws, second kind: the state keeps the script, a place, a number of its own, the rest of a large cell -/
def Ds (K : PySem.W.Frag) (H : Hp) (h c : Addr) : Prop := ∃ (p m r : Int) (ns : List Int), 0 ≤ p ∧ H h = some (.lst [.ref c, .int p, .int m, .int r]) ∧ SqL K H c (ns.map V.int) ∧ ns.length ≤ 63
/-- all kept but one -/
def Kh (h : Addr) (H H' : Hp) : Prop := ∀ b o, H b = some o → b ≠ h → H' b = some o
theorem Kh.refl {h : Addr} {H : Hp} : Kh h H H := fun _ _ e _ => e
theorem Kh.trans {h : Addr} {H H1 H2 : Hp} (a : Kh h H H1) (b : Kh h H1 H2) : Kh h H H2 := fun x o e n => b x o (a x o e n) n
theorem Kh.same {h : Addr} {H H' : Hp} (s : Same H H') : Kh h H H' := fun b o e _ => s b o e
theorem Kh.at {h : Addr} {H : Hp} {o : HO} : Kh h H (upd H h o) := fun b x e n => by
  rw [upd_ne n]
  exact e
/-- the script is read on, whatever is written to the state -/
theorem scr_keep {K : PySem.W.Frag} {H H' : Hp} {h c : Addr} {p m r : Int} {ns : List Int} (e : H h = some (.lst [.ref c, .int p, .int m, .int r])) (s : SqL K H c (ns.map V.int)) (k : Kh h H H') : SqL K H' c (ns.map V.int) := by
  rcases s with s | s
  · have ne : c ≠ h := by
      rintro rfl
      rcases s with s | ⟨o, s⟩
      · rw [e] at s
        match ns, s with
        | [], s => cases s
        | n :: r, s => cases s
      · rw [e] at s
        cases s
    rcases s with s | ⟨o, s⟩
    · exact .inl (.inl (k _ _ s ne))
    · exact .inl (.inr ⟨o, k _ _ s ne⟩)
  · exact .inr s
theorem Ds.same {K : PySem.W.Frag} {H H' : Hp} {h c : Addr} (d : Ds K H h c) (s : Same H H') : Ds K H' h c := by
  obtain ⟨p, m, r, ns, h0, e1, e2, l⟩ := d
  exact ⟨p, m, r, ns, h0, s _ _ e1, ex_l s e2, l⟩
theorem Ds.tk {K : PySem.W.Frag} {H H' : Hp} {h c : Addr} (d : Ds K H h c) (k : Kh h H H') : TK K H H' := by
  obtain ⟨p, m, r, ns, _, e1, _, _⟩ := d
  refine .but (fun b => b = h) (fun b o e n => k b o e n) fun b xs z => ?_
  rw [z]
  exact Rd.lst_no e1
theorem Ds.nh {K : PySem.W.Frag} {H : Hp} {h c b : Addr} (d : Ds K H h c) (n : H b = none) : b ≠ h := by
  obtain ⟨p, m, r, ns, _, e1, _, _⟩ := d
  rintro rfl
  rw [e1] at n
  cases n
theorem Ds.new {K : PySem.W.Frag} {H : Hp} {h c a : Addr} {o : HO} (d : Ds K H h c) (n : H a = none) : Ds K (upd H a o) h c := d.same (same_new n)
/-- a list of one's own is written, made behind the heap H0: the draws stand -/
theorem Ds.put {K : PySem.W.Frag} {H0 H : Hp} {h c l : Addr} {o : HO} (d0 : Ds K H0 h c) (k : Kh h H0 (upd H l o)) (d : Ds K H h c) (n : l ≠ h) : Ds K (upd H l o) h c := by
  obtain ⟨_, _, _, ns, _, e1, e2, l2⟩ := d0
  obtain ⟨p, m, r, _, p0, f1, _, _⟩ := d
  exact ⟨p, m, r, ns, p0, by rw [upd_ne n.symm]; exact f1, scr_keep e1 e2 k, l2⟩
theorem scStart : FnScope ["_law_script", "_law_mixed", "_law_cell"] ["_law_script"] (defScope sStart) := ⟨rfl, rfl, rfl, by decide +kernel, rfl, by decide +kernel, by decide +kernel⟩
theorem scDrawn : FnScope ["_law_state", "_law_count", "_law_result", "_law_cell"] ["_law_state", "_law_count"] (defScope sDrawn) := ⟨rfl, rfl, rfl, by decide +kernel, rfl, by decide +kernel, by decide +kernel⟩
def spStart (K : PySem.W.Frag) : Sp := fun vs H Q _ => ∃ (a : Addr) (ns : List Int), vs = [.ref a] ∧ SqL K H a (ns.map V.int) ∧ ns.length ≤ 63 ∧ ∀ (h : Addr) (H' : Hp), Same H H' → H h = none → Ds K H' h a → Q (.ref h) H'
def spDrawn (K : PySem.W.Frag) : Sp := fun vs H Q _ => ∃ (h c : Addr) (lim : Int), vs = [.ref h, .int lim] ∧ 0 < lim ∧ lim.natAbs.log2 < 9000 ∧ Ds K H h c ∧ ∀ (v : Int) (H' : Hp), 0 ≤ v → v < lim → Ds K H' h c → Kh h H H' → Q (.int v) H'
section
variable {P : Program} {w : World} {K : PySem.W.Frag} {mg : Str → Option Value} {base : Heap}
theorem ok_start {f : Addr} {fd : FuncData} {k : Nat} (F : Fun K "_law_start" "_law_start" sStart f fd) : FnOk P w K mg base CX0 (k + 1) f fd ["_law_script"] (spStart K) := by
  refine F.ok scStart (fun vs H Q E h => ?_) (fun cdv A outer s H vs Q E hr h => ?_)
  · obtain ⟨a, ns, rfl, _⟩ := h
    rfl
  · obtain ⟨a, ns, rfl, hS, hlen, q⟩ := h
    refine ⟨_, pss_cons (ps_set (i := 1) scStart.nd rfl (.inl rfl) pe_int) (pss_cons (ps_for PassesOwn.never rfl (pi_list (pv 0)) (pg_name (i := 2) scStart.nd rfl (.inl rfl))
        (pss_one (ps_set (i := 1) scStart.nd rfl (.inl rfl) (pe_op op_modN (pe_op op_add (pe_op op_add (pe_op op_mul (pv 1) pe_int) (pv 2)) pe_int) pe_int))))
      (pss_one (ps_ret (pe_lst (pa_cons (pv 0) (pa_cons pe_int (pa_cons (pv 1) (pa_cons pe_int pa_nil)))))))), ?_⟩
    refine ⟨_, rfl, a, rfl, ⟨_, hS⟩, for_list (K := K) (a := a) (xs := ns.map V.int) (fun i σ H' => ∃ (m : Int) (v : Option V), σ = [some (.ref a), some (.int m), v] ∧ H' = H)
      ⟨1, none, rfl, rfl⟩ (fun i σ H' _ ⟨_, _, _, e⟩ => by rw [e]; exact hS) ?_ ?_⟩
    · rintro i y σ H' hi ⟨m, v, rfl, rfl⟩
      obtain ⟨u, rfl⟩ : ∃ u, y = V.int u := by
        rw [List.getElem?_map] at hi
        cases e : ns[i]? with
        | none => rw [e] at hi; cases hi
        | some u => rw [e] at hi; exact ⟨u, (Option.some.inj hi).symm⟩
      refine ⟨_, rfl, _, _, rfl, rfl, .inr ⟨by decide, by decide⟩, _, rfl, _, _, rfl, rfl, _, _, rfl, rfl, _, _, rfl, rfl, (by show (2147483647 : Int) ≠ 0; decide), ?_⟩
      exact ⟨_, _, rfl, rfl⟩
    · rintro σ H' ⟨m, v, rfl, rfl⟩
      refine ⟨_, rfl, _, rfl, Nat.le_of_lt (small1000 (show 4 ≤ 1000 by decide)), fun l nl => ?_⟩
      exact q l _ (same_new nl) nl ⟨0, m, 0, ns, Int.le_refl 0, upd_same, ex_l (Ex.new nl) hS, hlen⟩
theorem ok_drawn {f : Addr} {fd : FuncData} {k : Nat} (F : Fun K "_law_drawn" "_law_drawn" sDrawn f fd) (mN : mg "len" = none) : FnOk P w K mg base CX0 (k + 1) f fd ["_law_state", "_law_count"] (spDrawn K) := by
  refine F.ok scDrawn (fun vs H Q E h => ?_) (fun cdv A outer s H vs Q E hr h => ?_)
  · obtain ⟨h, c, lim, rfl, _⟩ := h
    rfl
  · obtain ⟨h, c, lim, rfl, l0, l1, ⟨p, m, r, ns, p0, e1, e2, hlen⟩, q⟩ := h
    refine ⟨_, pss_cons (ps_if (pt_cmpR op_gt (pe_ixl (pv 0) pe_int) pe_int (nomark _))
          (pss_cons (ps_set (i := 2) scDrawn.nd rfl (.inl rfl) (pe_op op_modN (pe_ixl (pv 0) pe_int) (pv 1)))
          (pss_cons (ps_asg (pe_op op_fdivW (pe_ixl (pv 0) pe_int) (pv 1)) (pg_sub (pv 0) pe_int set_list))
            (pss_one (ps_ret (pv 2))))) pss_nil)
      (pss_cons (ps_asg (pe_op op_add (pe_ixl (pv 0) pe_int) pe_int) (pg_sub (pv 0) pe_int set_list))
      (pss_cons (ps_if (pt_cmpR L2.op_le (pe_ixl (pv 0) pe_int) (pe_callB call_len_seq (by rfl) mN PySem.boot_len (pa_cons (pe_ixl (pv 0) pe_int) pa_nil)) (nomark _))
          (pss_cons (ps_set (i := 3) scDrawn.nd rfl (.inl rfl) (pe_ixl (pe_ixl (pv 0) pe_int) (pe_op op_sub (pe_ixl (pv 0) pe_int) pe_int)))
          (pss_cons (ps_asg (pe_ifExp (pt_cmpR op_ge (pv 3) (pe_op op_pow pe_int pe_int) (nomark _)) (pe_op op_fdivW (pv 3) (pv 1)) pe_int) (pg_sub (pv 0) pe_int set_list))
            (pss_one (ps_ret (pe_op op_modN (pv 3) (pv 1)))))) pss_nil)
      (pss_cons (ps_asg (pe_op op_modN (pe_op op_add (pe_op op_mul (pe_ixl (pv 0) pe_int) pe_int) pe_int) pe_int) (pg_sub (pv 0) pe_int set_list))
      (pss_one (ps_ret (pe_op op_modN (pe_op op_fdivN (pe_ixl (pv 0) pe_int) pe_int) (pv 1))))))), ?_⟩
    have n0 : lim ≠ 0 := Int.ne_of_gt l0
    have done : ∀ (v m' r' p' : Int) (H' : Hp), 0 ≤ p' → H' h = some (.lst [.ref c, .int p', .int m', .int r']) → Kh h H H' → Q (.int (v.fmod lim)) H' := fun v m' r' p' H' hp' e k =>
      q _ _ (Int.fmod_nonneg_of_pos _ l0) (Int.fmod_lt_of_pos _ l0) ⟨p', m', r', ns, hp', e, scr_keep e1 e2 k, hlen⟩ k
    refine ⟨_, rfl, h, _, 3, _, rfl, rfl, SqL.of e1, rfl, _, _, rfl, rfl, _, rfl, ?_⟩
    refine ite2 (fun hgt => ?_) (fun _ => ?_)
    · refine ⟨_, rfl, h, _, 3, _, rfl, rfl, SqL.of e1, rfl, _, rfl, _, _, rfl, rfl, n0, ?_⟩
      refine ⟨_, rfl, h, _, 3, _, rfl, rfl, SqL.of e1, rfl, _, rfl, _, _, rfl, rfl, ⟨l0, l1⟩, ?_⟩
      refine ⟨_, rfl, h, _, 3, 3, rfl, rfl, e1, rfl, ?_⟩
      refine ⟨_, rfl, ?_⟩
      exact done r m _ p _ p0 upd_same Kh.at
    · refine ⟨_, rfl, h, _, 1, _, rfl, rfl, SqL.of e1, rfl, _, _, rfl, rfl, ?_⟩
      refine ⟨_, rfl, h, _, 1, 1, rfl, rfl, e1, rfl, ?_⟩
      have f1 : upd H h (.lst [V.ref c, .int (p + 1), .int m, .int r]) h = some (.lst [V.ref c, .int (p + 1), .int m, .int r]) := upd_same
      have f2 : SqL K (upd H h (.lst [V.ref c, .int (p + 1), .int m, .int r])) c (ns.map V.int) := scr_keep e1 e2 Kh.at
      refine ⟨_, rfl, h, _, 1, _, rfl, rfl, SqL.of f1, rfl, ?_⟩
      refine ⟨_, rfl, h, _, 0, _, rfl, rfl, SqL.of f1, rfl, c, _, rfl, .inl (f2), _, _, rfl, rfl, _, rfl, ?_⟩
      refine ite2 (fun hle => ?_) (fun _ => ?_)
      · have hle := of_decide_eq_true hle
        rw [List.length_map] at hle
        obtain ⟨j, rfl⟩ := Int.eq_ofNat_of_zero_le p0
        have hj : j < ns.length := by omega
        have hat : atI (ns.map V.int) ((j : Int) + 1 - 1) = some (.int ns[j]) := by
          rw [Int.add_sub_cancel]
          refine at_nat (by rw [List.length_map]; exact hj) ?_
          rw [List.getElem?_map, List.getElem?_eq_getElem hj]
          rfl
        refine ⟨_, rfl, h, _, 0, _, rfl, rfl, SqL.of f1, rfl, _, rfl, h, _, 1, _, rfl, rfl, SqL.of f1, rfl, _, _, rfl, rfl, c, _, _, _, rfl, rfl, f2, hat, ?_⟩
        refine ⟨_, rfl, _, _, rfl, rfl, ⟨by decide, by decide, by decide⟩, _, _, rfl, rfl, _, rfl, ?_⟩
        refine ite2 (fun _ => ?_) (fun _ => ?_)
        · refine ⟨_, rfl, _, rfl, _, _, rfl, rfl, ⟨l0, l1⟩, ?_⟩
          refine ⟨_, rfl, h, _, 3, 3, rfl, rfl, f1, rfl, ?_⟩
          refine ⟨_, rfl, _, rfl, _, _, rfl, rfl, n0, ?_⟩
          exact done _ _ _ _ _ (by omega) upd_same (Kh.at.trans Kh.at)
        · refine ⟨_, rfl, h, _, 3, 3, rfl, rfl, f1, rfl, ?_⟩
          refine ⟨_, rfl, _, rfl, _, _, rfl, rfl, n0, ?_⟩
          exact done _ _ _ _ _ (by omega) upd_same (Kh.at.trans Kh.at)
      · refine ⟨_, rfl, h, _, 2, _, rfl, rfl, SqL.of f1, rfl, _, _, rfl, rfl, .inr ⟨by decide, by decide⟩, _, _, rfl, rfl, _, _, rfl, rfl, (by show (2147483647 : Int) ≠ 0; decide), ?_⟩
        refine ⟨_, rfl, h, _, 2, 2, rfl, rfl, f1, rfl, ?_⟩
        refine ⟨_, rfl, h, _, 2, _, rfl, rfl, SqL.of upd_same, rfl, _, _, rfl, rfl, ⟨by decide, by decide⟩, _, rfl, _, _, rfl, rfl, n0, ?_⟩
        exact done _ _ _ _ _ (by omega) upd_same (Kh.at.trans Kh.at)
end
end Sea

set_option Elab.async false
set_option linter.all false
set_option maxRecDepth 100000
set_option maxHeartbeats 4000000
namespace Sea
open PySem PySem.Spec PyProof.Rows L2 LamX NdefX ClX Evl StX
def PrV (K : PySem.W.Frag) (H : Hp) (v : V) (x : Int × Int) : Prop := ∃ b, v = .ref b ∧ SqT K H b [.int x.1, .int x.2]
inductive PsV (K : PySem.W.Frag) (H : Hp) : List V → List (Int × Int) → Prop
  | nil : PsV K H [] []
  | cons {v : V} {x : Int × Int} {vs : List V} {L : List (Int × Int)} : PrV K H v x → PsV K H vs L → PsV K H (v :: vs) (x :: L)
theorem PrV.tk {K : PySem.W.Frag} {H H' : Hp} {v : V} {x : Int × Int} (t : TK K H H') (h : PrV K H v x) : PrV K H' v x := by
  obtain ⟨b, e, h⟩ := h
  exact ⟨b, e, t _ _ h⟩
theorem PsV.tk {K : PySem.W.Frag} {H H' : Hp} {vs : List V} {L : List (Int × Int)} (t : TK K H H') (h : PsV K H vs L) : PsV K H' vs L := by
  induction h with
  | nil => exact .nil
  | cons a _ ih => exact .cons (a.tk t) ih
theorem PsV.len {K : PySem.W.Frag} {H : Hp} {vs : List V} {L : List (Int × Int)} (h : PsV K H vs L) : vs.length = L.length := by
  induction h with
  | nil => rfl
  | cons _ _ ih => rw [List.length_cons, List.length_cons, ih]
theorem PsV.get {K : PySem.W.Frag} {H : Hp} {vs : List V} {L : List (Int × Int)} (h : PsV K H vs L) : ∀ {i : Nat} {v : V}, vs[i]? = some v → ∃ x, L[i]? = some x ∧ PrV K H v x := by
  induction h with
  | nil =>
    intro i v e
    simp at e
  | @cons v0 x0 vs0 L0 a _ ih =>
    intro i v e
    cases i with
    | zero =>
      have e' : v0 = v := by simpa using e
      exact ⟨x0, by simp, e' ▸ a⟩
    | succ j => simpa using ih (i := j) (v := v) (by simpa using e)
theorem PsV.app {K : PySem.W.Frag} {H : Hp} {vs ws : List V} {L M : List (Int × Int)} (h : PsV K H vs L) (g : PsV K H ws M) : PsV K H (vs ++ ws) (L ++ M) := by
  induction h with
  | nil => exact g
  | cons a _ ih => exact .cons a ih
theorem PsV.take {K : PySem.W.Frag} {H : Hp} {vs : List V} {L : List (Int × Int)} (h : PsV K H vs L) : ∀ n, PsV K H (vs.take n) (L.take n) := by
  induction h with
  | nil =>
    intro n
    simp
    exact .nil
  | cons a _ ih =>
    intro n
    cases n with
    | zero => exact .nil
    | succ m => exact .cons a (ih m)
theorem PsV.drop {K : PySem.W.Frag} {H : Hp} {vs : List V} {L : List (Int × Int)} (h : PsV K H vs L) : ∀ n, PsV K H (vs.drop n) (L.drop n) := by
  induction h with
  | nil =>
    intro n
    simp
    exact .nil
  | cons a b ih =>
    intro n
    cases n with
    | zero => exact .cons a b
    | succ m => exact ih m
def psD (L : List (Int × Int)) : PyData := .tuple (L.map fun x => .tuple [.int x.1, .int x.2])
theorem PsV.dp {K : PySem.W.Frag} {H : Hp} {vs : List V} {L : List (Int × Int)} (h : PsV K H vs L) : DpAll K H vs (L.map fun x => .tuple [.int x.1, .int x.2]) := by
  induction h with
  | nil => exact .nil
  | cons a _ ih =>
    obtain ⟨b, rfl, hb⟩ := a
    exact .cons (.tup hb (.cons (.int _) (.cons (.int _) .nil))) ih
/-- a tuple of passes at v -/
def PsA (K : PySem.W.Frag) (H : Hp) (v : V) (L : List (Int × Int)) : Prop := ∃ a vs, v = .ref a ∧ SqT K H a vs ∧ PsV K H vs L
theorem PsA.tk {K : PySem.W.Frag} {H H' : Hp} {v : V} {L : List (Int × Int)} (t : TK K H H') (h : PsA K H v L) : PsA K H' v L := by
  obtain ⟨a, vs, e, h1, h2⟩ := h
  exact ⟨a, vs, e, t _ _ h1, h2.tk t⟩
theorem PsA.dp {K : PySem.W.Frag} {H : Hp} {v : V} {L : List (Int × Int)} (h : PsA K H v L) : Dp K H v (psD L) := by
  obtain ⟨a, vs, rfl, h1, h2⟩ := h
  exact .tup h1 h2.dp
theorem psD_lay : ∀ L : List (Int × Int), PyData.canLayAll0 (L.map fun x => PyData.tuple [.int x.1, .int x.2]) = true
  | [] => rfl
  | x :: L => by
    show ((true && (true && true)) && PyData.canLayAll0 (L.map fun x => PyData.tuple [.int x.1, .int x.2])) = true
    rw [psD_lay L]
    rfl
theorem psD_eqv : ∀ L M : List (Int × Int), PyData.eqvAll (L.map fun x => .tuple [.int x.1, .int x.2]) (M.map fun x => .tuple [.int x.1, .int x.2]) = decide (L = M)
  | [], [] => rfl
  | [], _ :: _ => rfl
  | _ :: _, [] => rfl
  | x :: L, y :: M => by
    show (((x.1 == y.1) && ((x.2 == y.2) && true)) && PyData.eqvAll (L.map fun x => .tuple [.int x.1, .int x.2]) (M.map fun x => .tuple [.int x.1, .int x.2])) = _
    rw [psD_eqv L M, Bool.eq_iff_iff]
    obtain ⟨x1, x2⟩ := x
    obtain ⟨y1, y2⟩ := y
    simp
theorem psD_eq (L M : List (Int × Int)) : PyData.eqv (psD L) (psD M) = decide (L = M) := psD_eqv L M
theorem scIT : FnScope ["self", "index"] ["self", "index"] (defScope sIT) := ⟨rfl, rfl, rfl, by decide +kernel, rfl, by decide +kernel, by decide +kernel⟩
theorem scInit : FnScope ["self", "passes", "index", "length", "price", "is_good"] ["self", "passes"] (defScope sInit) := ⟨rfl, rfl, rfl, by decide +kernel, rfl, by decide +kernel, by decide +kernel⟩
theorem scValid : FnScope ["tariff", "index"] ["tariff", "index"] (defScope sValid) := ⟨rfl, rfl, rfl, by decide +kernel, rfl, by decide +kernel, by decide +kernel⟩
/-- the text's facts -/
structure TX (K : PySem.W.Frag) (mg : Str → Option Value) (C cI cU cP fI : Addr) (mc mp : Value) : Prop where
  cl : Cls K C
  no : NoAttr K C "offers"
  gC : mg "Tariff" = some (.ref C)
  cr : CRead K C mc
  v1 : ∃ u, CVal K C mc "MAX_LENGTH" (.int 28) u
  v2 : ∃ u, CVal K C mc "MAX_PRICE" (.int 1000000) u
  v3 : ∃ u, CVal K C mc "MAX_PASSES" (.int 6) u
  mE : mg "enumerate" = none
  mN : mg "len" = none
  mT : mg "tuple" = none
  xI : OexC K cI
  nI : PySem.W.findIn K (.ref cI) "index" = some none
  gI : mg "InvalidTariff" = some (.ref cI)
  iI : PySem.W.findIn K (.ref cI) "__init__" = some (some (.ref fI))
  tI : PySem.W.typeIn K (.ref fI) = some (.type "function")
  pI : PIn K mg "PassError" cP mp
  qU : PySem.W.excIn K cU [.type "ValueError", .type "Exception", .type "BaseException", .type "object"] "ValueError.__new__" = true
  gU : mg "UnknownPass" = some (.ref cU)
  kU : PySem.W.keepIn K (.ref cU) = true
  sU : PySem.W.subIn K (.ref cU) (.type "BaseException") = some true
  yU : PySem.W.typeIn K (.ref cU) = some (.type "type")
section
variable {P : Program} {w : World} {K : PySem.W.Frag} {mg : Str → Option Value} {base : Heap} {C cI cU cP fI : Addr} {mc mp : Value}
theorem ok_IT {k : Nat} {fd : FuncData} (F : Fun K "__init__" "InvalidTariff.__init__" sIT fI fd) (T : TX K mg C cI cU cP fI mc mp) : FnOk P w K mg base CX0 (k + 1) fI fd ["self", "index"] (spX1 K "index") := by
  refine F.ok scIT (fun vs H Q E h => ?_) (fun cdv A outer s H vs Q E hr h => ?_)
  · obtain ⟨a, C', y, rfl, _⟩ := h
    rfl
  · obtain ⟨a, C', y, rfl, hx, hf, ha, q⟩ := h
    refine ⟨_, pss_cons (ps_expr (pe_pinit (by rfl) T.pI.gB T.pI.rd T.pI.ga T.pI.at_ (pa_cons (pv 0) (pa_cons pe_str pa_nil)))) (pss_one (ps_ost (pv 0) (pv 1))), ?_⟩
    refine ⟨_, rfl, a, C', _, rfl, by decide, hx, ha, _, rfl, _, rfl, a, C', rfl, hx, hf, .inl ⟨ha, fun dx h1 h2 => q dx h1 h2⟩⟩
theorem kb_IT {fd : FuncData} (F : Fun K "__init__" "InvalidTariff.__init__" sIT fI fd) : KBn K fd ["self", "index"] 1 ["index"] (fun us ws => us ++ ws) (fun vs zs => vs ++ zs) := by
  obtain ⟨oc, od, kV, doc, pm, an, cdv, ct, osl, rfl, lk, hcd⟩ := F.ex
  refine ⟨fun s us ws _ h1 h2 => ?_, fun a b => a.append b⟩
  match us, ws, h1, h2 with
  | [u], [x], _, _ => exact .of_eq rfl
end
theorem scPasses : FnScope ["self"] ["self"] (defScope sPasses) := ⟨rfl, rfl, rfl, by decide +kernel, rfl, by decide +kernel, by decide +kernel⟩
/-- a tariff at a, its tuple of passes at p -/
def Tar (K : PySem.W.Frag) (C : Addr) (H : Hp) (a p : Addr) (L : List (Int × Int)) : Prop := (∃ dx, H a = some (.ins C dx [("offers", .ref p)])) ∧ PsA K H (.ref p) L
theorem Tar.len_eq {K : PySem.W.Frag} {C : Addr} {H : Hp} {a p : Addr} {L : List (Int × Int)} (t : Tar K C H a p L) : ∃ vs, SqT K H p vs ∧ vs.length = L.length ∧ PsV K H vs L := by
  obtain ⟨_, q, vs, e, h1, h2⟩ := t
  cases e
  exact ⟨vs, h1, h2.len, h2⟩
/-- the getter of passes -/
structure TP (K : PySem.W.Frag) (C fP pP : Addr) (fdP : FuncData) : Prop where
  pr : PropOf K C "passes" pP fP
  fu : Fun K "passes" "Tariff.passes" sPasses fP fdP
section
variable {P : Program} {w : World} {K : PySem.W.Frag} {mg : Str → Option Value} {base : Heap} {C cI cU cP fI fP pP : Addr} {mc mp : Value} {fdP : FuncData}
theorem ok_passes (F : Fun K "passes" "Tariff.passes" sPasses fP fdP) (c : Cls K C) (n : NoAttr K C "offers") {k : Nat} : FnOk P w K mg base CX0 (k + 1) fP fdP ["self"] (getSp C "offers") := by
  obtain ⟨oc, od, kV, doc, pm, an, cdv, ct, osl, rfl, lk, hcd⟩ := F.ex
  exact fn_getter lk hcd scPasses rfl rfl c n
theorem b_passes (F : Fun K "passes" "Tariff.passes" sPasses fP fdP) : Binds K fdP ["self"] [] := F.binds (ps := ["self"]) fun _ _ _ _ _ _ us hl => match us, hl with | [_], _ => rfl
/-- e.passes, e a tariff -/
theorem pe_passes {X : Cx} {e : Expr} {te : TE} {pos : Pos} (T : TP X.K C fP pP fdP) (c : Cls X.K C) (n : NoAttr X.K C "offers") (hr : Room 2 X.A) (he : PE X e te) (hab : attributeBase e "passes" X.env (eval e X.env) = eval e X.env := by rfl) :
    PE X (.Attribute e "passes" pos) (tProp C (getSp C "offers") [] E0 te) :=
  pe_prop he c T.pr (ok_passes (k := 0) T.fu c n) hr (b_passes T.fu) .nil pass0 hab
def spValid (K : PySem.W.Frag) (C cU : Addr) : Sp := fun vs H Q E => ∃ (a p : Addr) (i : Int) (L : List (Int × Int)), vs = [.ref a, .int i] ∧ Tar K C H a p L ∧ (0 ≤ i ∧ i < L.length → Q .non H) ∧ (¬ (0 ≤ i ∧ i < L.length) → E (.ref cU) none H)
theorem ok_valid {f : Addr} {fd : FuncData} {k : Nat} (F : Fun K "validate_pass" "validate_pass" sValid f fd) (T : TX K mg C cI cU cP fI mc mp) (TQ : TP K C fP pP fdP) : FnOk P w K mg base (L2.CX P w) (k + 3) f fd ["tariff", "index"] (spValid K C cU) := by
  refine F.okX scValid (fun vs H Q E h => ?_) (fun cdv A outer s H vs Q E hr h => ?_)
  · obtain ⟨a, p, i, L, rfl, _⟩ := h
    rfl
  · obtain ⟨a, p, i, L, rfl, ht, q1, q2⟩ := h
    refine ⟨_, pss_one (ps_if (pt_not (pt_chain op_le op_lt pe_int (pv 1) (pe_callB call_len_seq (by rfl) T.mN PySem.boot_len (pa_cons (pe_passes TQ T.cl T.no (hr.mono (by omega)) (pv 0)) pa_nil))))
      (pss_one (ps_raise rfl (takes_of rfl rfl rfl rfl) (pmk_own PySem.F.excBase_ValueError T.qU T.gU T.kU (raises_own T.sU T.yU) (by rfl)))) pss_nil), ?_⟩
    obtain ⟨vs, h1, hl, _⟩ := ht.len_eq
    obtain ⟨⟨dx, ha⟩, _⟩ := ht
    refine ⟨_, rfl, _, _, rfl, rfl, _, rfl, ?_⟩
    refine ite2 (fun h0 => ?_) (fun h0 => ?_)
    · have g0 : (0 : Int) ≤ i := of_decide_eq_true h0
      refine ⟨.ref a, rfl, a, dx, _, rfl, ha, a, dx, _, .ref p, rfl, ha, rfl, p, vs, rfl, .inr h1, _, _, rfl, rfl, _, rfl, ?_⟩
      refine ite2 (fun hb => ?_) (fun hb => ?_)
      · refine q2 fun hc => ?_
        have h2 : i < ((vs.length : Nat) : Int) := by
          rw [hl]
          exact hc.2
        rw [decide_eq_true h2] at hb
        cases hb
      · refine q1 ⟨g0, ?_⟩
        rw [← hl]
        by_cases h2 : i < ((vs.length : Nat) : Int)
        · exact h2
        · rw [decide_eq_false h2] at hb
          exact absurd rfl hb
    · refine ⟨_, rfl, q2 fun hc => ?_⟩
      rw [decide_eq_true hc.1] at h0
      exact h0 rfl
end
/-! ### what is wrong with passes -/
def okP (x : Int × Int) : Bool := (decide (1 ≤ x.1) && decide (x.1 ≤ 28)) && (decide (1 ≤ x.2) && decide (x.2 ≤ 1000000))
def badI (i : Nat) (x : Int × Int) : Bool := decide (V.int ((i : Nat) : Int) = V.int 6) || !okP x
def fb : Nat → List (Int × Int) → Option Nat
  | _, [] => none
  | i, x :: r => if badI i x = true then some i else fb (i + 1) r
def bad (L : List (Int × Int)) : Option Nat := if L = [] then some 0 else fb 0 L
theorem fb_all : ∀ (L : List (Int × Int)) (k : Nat), (∀ j x, L[j]? = some x → badI (k + j) x = false) → fb k L = none
  | [], _, _ => rfl
  | x :: r, k, h => by
    have h0 := h 0 x rfl
    unfold fb
    rw [if_neg (by rw [show badI k x = false from h0]; decide)]
    refine fb_all r (k + 1) fun j y hy => ?_
    have := h (j + 1) y (by simpa using hy)
    rwa [show k + (j + 1) = k + 1 + j by omega] at this
theorem fb_at : ∀ (L : List (Int × Int)) (k i : Nat) (x : Int × Int), L[i]? = some x → badI (k + i) x = true → (∀ j y, j < i → L[j]? = some y → badI (k + j) y = false) → fb k L = some (k + i)
  | [], _, i, _, h, _, _ => by simp at h
  | y :: r, k, 0, x, h, hb, _ => by
    obtain rfl : y = x := by simpa using h
    unfold fb
    rw [if_pos (show badI k y = true from hb)]
    rfl
  | y :: r, k, i + 1, x, h, hb, hn => by
    unfold fb
    rw [if_neg (by rw [show badI k y = false from hn 0 y (Nat.succ_pos _) rfl]; decide)]
    rw [fb_at r (k + 1) i x (by simpa using h) (by rwa [show k + 1 + i = k + (i + 1) by omega]) (fun j z hj hz => by
      have := hn (j + 1) z (by omega) (by simpa using hz)
      rwa [show k + (j + 1) = k + 1 + j by omega] at this)]
    rw [show k + 1 + i = k + (i + 1) by omega]
section
variable {P : Program} {w : World} {K : PySem.W.Frag} {mg : Str → Option Value} {base : Heap} {C cI cU cP fI fP pP : Addr} {mc mp : Value} {fdP fdI : FuncData}
theorem psD_dep : ∀ L : List (Int × Int), PyData.depthAll (L.map fun x => PyData.tuple [.int x.1, .int x.2]) ≤ 1
  | [] => Nat.zero_le _
  | x :: L => by
    show max (max 0 (max 0 0) + 1) (PyData.depthAll (L.map fun x => PyData.tuple [.int x.1, .int x.2])) ≤ 1
    have := psD_dep L
    omega
theorem psD_sh (L : List (Int × Int)) : SeqAt.shaped (psD L) = true := by
  show (PyData.canLayAll0 (L.map fun x => PyData.tuple [.int x.1, .int x.2]) && decide (PyData.depthAll (L.map fun x => PyData.tuple [.int x.1, .int x.2]) + 1 ≤ 64)) = true
  rw [psD_lay, decide_eq_true (by have := psD_dep L; omega)]
  rfl
/-- Tariff.__init__ at the tuple p -/
def spInit (K : PySem.W.Frag) (C cI : Addr) : Sp := fun vs H Q E => ∃ (a p dx : Addr) (L : List (Int × Int)), vs = [.ref a, .ref p] ∧ H a = some (.ins C dx []) ∧ PsA K H (.ref p) L ∧ L.length ≤ 1000 ∧
  (bad L = none → ∀ H', (∀ b o, H b = some o → b ≠ a → H' b = some o) → H' a = some (.ins C dx [("offers", .ref p)]) → Q .non H') ∧
  (∀ i d H', bad L = some i → Same H H' → H' d = some (.xd [("index", .int i)]) → E (.ref cI) (some d) H')
theorem ok_init_body {k : Nat} {X : Cx} (hX : X.K = K) (FI : Fun K "__init__" "InvalidTariff.__init__" sIT fI fdI) (T : TX K mg C cI cU cP fI mc mp) {f : Addr} {cdv : Value} {A : Around} {outer : List Env} {s : Shared} {H : Hp} {vs : List V} {Q : VK} {E : XK}
    (hr : Room (k + 3) (A.deeper (envOfC "Tariff.__init__" (defScope sInit) s.heap.objs.size f cdv))) (h : spInit K C cI vs H Q E) :
    ∃ t, PSs (cxOf (L2.CX P w) P w K mg base ["self", "passes", "index", "length", "price", "is_good"] "Tariff.__init__" (defScope sInit) f cdv A outer s H E) (defBody sInit) t ∧ t { nx := fun _ H' => Q .non H', rt := Q } (start ["self", "passes", "index", "length", "price", "is_good"] vs) H := by
  obtain ⟨a, p, dx, L, rfl, ha, hL, hlen, q1, q2⟩ := h
  have GI : FnOk P w K mg base CX0 1 fI fdI ["self", "index"] (spX1 K "index") := ok_IT FI T
  have kb := kb_IT FI
  refine ⟨_, pss_cons (ps_if (pt_cmpR (op_eqD hr.units) (pv 1) (pe_tup pa_nil) (nomark _)) (pss_one (ps_raise rfl (takes_of rfl rfl rfl rfl) (pmk_kw T.xI T.iI T.tI GI (hr.mono (by omega)) kb pass0 (by rfl) T.gI (pk_cons pe_int pk_nil)))) pss_nil)
    (pss_cons (ps_for (passes_of rfl) rfl (pi_enumT (by rfl) T.mE (pa_cons (pv 1) pa_nil)) (pg_tup rfl (pgs_cons (pg_name (i := 2) scInit.nd rfl (.inl rfl)) (pgs_cons (pg_tup rfl (pgs_cons (pg_name (i := 3) scInit.nd rfl (.inl rfl)) (pgs_cons (pg_name (i := 4) scInit.nd rfl (.inl rfl)) pgs_nil))) pgs_nil)))
      (pss_cons (ps_set (i := 5) scInit.nd rfl (.inl rfl) (pe_and (pe_chain op_le op_le pe_int (pv 3) (pe_clc (by rfl) T.gC T.cr T.v1)) (pe_one (pe_chain op_le op_le pe_int (pv 4) (pe_clc (by rfl) T.gC T.cr T.v2)))))
        (pss_one (ps_if (PW.pt (pw_or (pt_cmpR op_eq (pv 2) (pe_clc (by rfl) T.gC T.cr T.v3) (nomark _)) (pw_or1 (pt_not (pt_val (pv 5))))))
          (pss_one (ps_raise rfl (takes_of rfl rfl rfl rfl) (pmk_kw T.xI T.iI T.tI GI (hr.mono (by omega)) kb pass0 (by rfl) T.gI (pk_cons (pv 2) pk_nil)))) pss_nil))))
    (pss_one (ps_fld (pv 0) (pv 1) rfl))), ?_⟩
  have hps := hL
  obtain ⟨_, vs, e, h1, h2⟩ := hL
  cases e
  have hlen2 := h2.len
  refine ⟨.ref p, rfl, Nat.zero_le _, fun z nz => ?_⟩
  have s0 : Same H (upd H z (.tup [])) := same_new nz
  refine ⟨psD L, psD [], (hps.tk (.same s0)).dp, .tup (xs := []) (.of upd_same) .nil, psD_sh L, psD_sh [], _, rfl, ?_⟩
  refine ite2 (fun hb => ?_) (fun hb => ?_)
  · have eL : L = [] := by
      rw [psD_eq] at hb
      exact of_decide_eq_true hb
    refine mk1_in T.xI T.nI fun d hd => q2 0 d _ ?_ (s0.trans (same_new hd)) upd_same
    unfold bad
    rw [if_pos eL]
  have nL : L ≠ [] := fun z => by
    rw [psD_eq, decide_eq_true z] at hb
    exact hb rfl
  refine ⟨_, rfl, p, vs, rfl, (TK.same s0) _ _ h1, for_rounds (I := IteT K p vs) vs.length (fun i σ H' => ∃ v2 v3 v4 v5, σ = [some (.ref a), some (.ref p), v2, v3, v4, v5] ∧ Same H H' ∧ ∀ j x, j < i → L[j]? = some x → badI j x = false)
    ⟨none, none, none, none, rfl, s0, fun j x hj => absurd hj (Nat.not_lt_zero _)⟩ ?_ ?_⟩
  · rintro i σ H' hi ⟨v2, v3, v4, v5, rfl, sm, hall⟩
    have hvs : SqT K H' p vs := (TK.same sm) _ _ h1
    refine ⟨⟨hi, hvs⟩, ?_⟩
    rintro y HT ⟨x, TT, hx, nT, rfl, rfl⟩
    obtain ⟨⟨l, pr⟩, hLi, b, rfl, hb2⟩ := h2.get hx
    have sT : Same H' (upd H' TT (.tup [.int (i : Nat), .ref b])) := same_new nT
    have hb3 : SqT K (upd H' TT (.tup [.int (i : Nat), .ref b])) b [.int l, .int pr] := (TK.same (sm.trans sT)) _ _ hb2
    have hi6 : i < 1000 := by
      have := (List.getElem?_eq_some_iff.mp hLi).1
      omega
    refine ⟨TT, _, rfl, .of upd_same, rfl, _, _, rfl, _, _, rfl, b, _, rfl, hb3, rfl, _, _, rfl, _, _, rfl, rfl, rfl, ?_⟩
    refine q_asg (v := .bl (okP (l, pr))) (ev_andV (ev_chainI (p := fun i j => decide (i ≤ j)) (q := fun i j => decide (i ≤ j)) ev_c (ev_var rfl) ev_c) fun _ => ev_chainI (p := fun i j => decide (i ≤ j)) (q := fun i j => decide (i ≤ j)) ev_c (ev_var rfl) ev_c) fun H2 e2 => ?_
    refine s_if (b := badI i (l, pr)) (et_or (et_test (ev_op (ev_var rfl) ev_c (rv_eq rfl))) fun _ => et_not (et_B (ev_var rfl))) (fun hb3 H3 e3 => ?_) (fun hb3 H3 e3 => ?_)
    · refine ⟨_, rfl, mk1_in T.xI T.nI fun d hd => q2 i d _ ?_ (((sm.trans sT).trans (e2.trans e3)).trans (same_new hd)) upd_same⟩
      unfold bad
      rw [if_neg nL]
      have := fb_at L 0 i (l, pr) hLi (by rw [Nat.zero_add]; exact hb3) (fun j y hj hy => by
        rw [Nat.zero_add]
        exact hall j y hj hy)
      rwa [Nat.zero_add] at this
    · refine ⟨_, _, _, _, rfl, (sm.trans sT).trans (e2.trans e3), fun j x hj hxx => ?_⟩
      by_cases hji : j < i
      · exact hall j x hji hxx
      · obtain rfl : j = i := by omega
        rw [Option.some.inj (hxx.symm.trans hLi)]
        exact hb3
  · rintro σ H' ⟨v2, v3, v4, v5, rfl, sm, hall⟩
    refine ⟨⟨rfl, (TK.same sm) _ _ h1⟩, ?_⟩
    refine ⟨_, rfl, _, rfl, a, C, dx, [], rfl, sm _ _ ha, T.cl, T.no, by decide, ?_⟩
    refine q1 ?_ _ (fun b o e n => ?_) upd_same
    · unfold bad
      rw [if_neg nL]
      refine fb_all L 0 fun j x hx => ?_
      rw [Nat.zero_add]
      refine hall j x ?_ hx
      rw [hlen2]
      exact (List.getElem?_eq_some_iff.mp hx).1
    · rw [upd_ne n]
      exact sm _ _ e
end
structure TMk (K : PySem.W.Frag) (C fI fT : Addr) (fdI fdT : FuncData) : Prop where
  mkf : Mk K C fT
  fT : Fun K "__init__" "Tariff.__init__" sInit fT fdT
  fI : Fun K "__init__" "InvalidTariff.__init__" sIT fI fdI
/-- Tariff(..) of the passes vs -/
def spMk (K : PySem.W.Frag) (C cI : Addr) : Sp := fun vs H Q E => ∃ L : List (Int × Int), PsV K H vs L ∧ L.length ≤ 1000 ∧ (bad L = none → ∀ a p H', Same H H' → H a = none → Tar K C H' a p L → Q (.ref a) H') ∧
  (∀ i d H', bad L = some i → Same H H' → H' d = some (.xd [("index", .int (i : Nat))]) → E (.ref cI) (some d) H')
section
variable {P : Program} {w : World} {K : PySem.W.Frag} {mg : Str → Option Value} {base : Heap} {C cI cU cP fI fT fP pP : Addr} {mc mp : Value} {fdP fdI fdT : FuncData}
theorem ok_init (T : TX K mg C cI cU cP fI mc mp) (I : TMk K C fI fT fdI fdT) : FnR P w K mg base (L2.CX P w) 4 fT (fun vs H Q E => ∃ ws rest, vs = ws ++ rest ∧ ws.length = ["self"].length ∧ rest.length ≤ sizeLine ∧ ∀ p, H p = Option.none → spInit K C cI (ws ++ [V.ref p]) (upd H p (.tup rest)) Q E) := by
  obtain ⟨oc, od, kV, doc, pm, an, cdv, ct, osl, rfl, lk, hcd⟩ := I.fT.ex
  refine fn_star (ps := ["self"]) (pv := "passes") lk hcd scInit cxUp (fun us rest hl => ?_) fun A outer s H vs Q E hr h => ok_init_body (X := cxOf (L2.CX P w) P w K mg base ["self"] "Tariff.__init__" (defScope sInit) fT cdv A outer s H E) rfl I.fI T hr h
  match us, hl with
  | [u], _ =>
    unfold bindArgs
    have e : ∀ b : Bool, (b && (defArgs sInit).vararg.isNone) = false := fun b => by
      rw [show (defArgs sInit).vararg.isNone = false from rfl, Bool.and_false]
    show _ = _
    simp only [PySem.W.fnOf, e]
    rfl
theorem mk_in {vs : List V} {H : Hp} {Q : VK} {E : XK} (h : spMk K C cI vs H Q E) : ∀ x dx, H x = Option.none → H dx = Option.none → dx ≠ x → (fun vs H Q E => ∃ ws rest, vs = ws ++ rest ∧ ws.length = ["self"].length ∧ rest.length ≤ sizeLine ∧ ∀ p, H p = Option.none → spInit K C cI (ws ++ [V.ref p]) (upd H p (.tup rest)) Q E)
    (V.ref x :: vs) (upd (upd H dx (.own x)) x (.ins C dx [])) (fun v H2 => v = .non ∧ Q (.ref x) H2) E := by
  obtain ⟨L, hL, hlen, q1, q2⟩ := h
  intro x dx nx ndx nex
  have s0 : Same H (upd (upd H dx (.own x)) x (.ins C dx [])) := fun b o e => by
    rw [upd_ne (ne_of_none e nx), upd_ne (ne_of_none e ndx)]
    exact e
  refine ⟨[.ref x], vs, rfl, rfl, Nat.le_of_lt (small1000 (by rw [hL.len]; exact hlen)), fun p np => ?_⟩
  have npx : x ≠ p := fun e => by
    rw [← e, upd_same] at np
    cases np
  have s1 := s0.trans (same_new (o := .tup vs) np)
  have hp : SqT K (upd (upd (upd H dx (.own x)) x (.ins C dx [])) p (.tup vs)) p vs := .of upd_same
  refine ⟨x, p, dx, L, rfl, by rw [upd_ne npx, upd_same], ⟨p, vs, rfl, hp, hL.tk (.same s1)⟩, hlen, fun hb H' hk hx => ⟨rfl, q1 hb x p H' (fun b o e => hk b o (s1 b o e) (ne_of_none e nx)) nx ⟨⟨dx, hx⟩, p, vs, rfl, ?_, (hL.tk (.same s1)).tk ?_⟩⟩, fun i d H' hb sm hd => q2 i d H' hb (s1.trans sm) hd⟩
  · exact .of (hk _ _ upd_same npx.symm)
  · exact .but (fun b => b = x) (fun b o e n => hk b o e n) fun b xs z => by
      rw [z]
      refine Rd.ins_no (C := C) (dx := dx) (fs := []) ?_
      rw [upd_ne npx, upd_same]
section
variable {X : Cx} {e : Expr} {es : List Expr} {te : TE} {t : TA} {E : XK} {p pos spos : Pos}
theorem pe_tar (T : TX X.K X.mg C cI cU cP fI mc mp) (I : TMk X.K C fI fT fdI fdT) (hr : Room 5 X.A) (hx : Passes (L2.CX X.prog X.w) X E) (hg : Gl X "Tariff") (ha : PA X (e :: es) t)
    (he : starEach (e :: es) X.env = (false, eval e X.env) :: starEach es X.env := by rfl) (hpl : (backTo pos (starEach es X.env)).any (·.1) = false := by rfl) :
    PE X (.Call (.Name "Tariff" p) (e :: es) [] pos) (fun σ H Q => t σ H fun vs H1 => spMk X.K C cI vs H1 Q E) := by
  refine ⟨fun pins s σ H Q J h => ?_⟩
  refine wpAny_Call_Name_kw (ld_glob J hg T.gC ?_ (by decide))
  exact PySem.W.callWith_K (h₀ := X.base) J.ok.mod.kin I.mkf.kp (thn (ha.run pos pins s σ H _ J h) fun us s1 ⟨vs, H1, I1, r, q⟩ => ⟨I1.kIn, run_makeR I.mkf (ok_init T I) hr hx I1 r (mk_in q)⟩) he hpl
theorem pe_tarS (T : TX X.K X.mg C cI cU cP fI mc mp) (I : TMk X.K C fI fT fdI fdT) (hr : Room 5 X.A) (hx : Passes (L2.CX X.prog X.w) X E) (hg : Gl X "Tariff") (he : PE X e te)
    (hst : starEach [.Starred e spos] X.env = [(true, eval e X.env)] := by rfl) :
    PE X (.Call (.Name "Tariff" p) [.Starred e spos] [] pos) (fun σ H Q => te σ H fun y H1 => ∃ a xs, y = V.ref a ∧ SqT X.K H1 a xs ∧ spMk X.K C cI xs H1 Q E) := by
  refine ⟨fun pins s σ H Q J h => ?_⟩
  refine wpAny_Call_Name_kw (ld_glob J hg T.gC ?_ (by decide))
  refine PySem.W.callWith_S (h₀ := X.base) J.ok.mod.kin I.mkf.kp (thn (he.run pins s σ H _ J h) fun v s1 hh => ?_) hst
  obtain ⟨y, H1, I1, ry, a, xs, ey, hxs, q⟩ := hh
  subst ey
  obtain rfl : v = Value.ref a := ry
  exact star_any I1 (.inl hxs) fun us s2 I2 rv => ⟨I2.kIn, run_makeR I.mkf (ok_init T I) hr hx I2 rv (mk_in q)⟩
end
end
end Sea

set_option Elab.async false
set_option linter.all false
set_option maxRecDepth 100000
set_option maxHeartbeats 4000000
namespace Sea
open PySem PySem.Spec PyProof.Rows L2 LamX NdefX ClX Evl StX
theorem scIV : FnScope ["self", "part", "index"] ["self", "part", "index"] (defScope sIV) := ⟨rfl, rfl, rfl, by decide +kernel, rfl, by decide +kernel, by decide +kernel⟩
theorem scVN : FnScope ["part", "numbers", "largest", "most", "index", "number"] ["part", "numbers", "largest", "most"] (defScope sVN) := ⟨rfl, rfl, rfl, by decide +kernel, rfl, by decide +kernel, by decide +kernel⟩
/-- errors of the package, as the travel's code raises them -/
structure TEv (K : PySem.W.Frag) (mg : Str → Option Value) (cV cP fV : Addr) (fdV : FuncData) (mp : Value) : Prop where
  xV : OexC K cV
  nP : PySem.W.findIn K (.ref cV) "part" = some none
  nI : PySem.W.findIn K (.ref cV) "index" = some none
  gV : mg "InvalidTravel" = some (.ref cV)
  iV : PySem.W.findIn K (.ref cV) "__init__" = some (some (.ref fV))
  tV : PySem.W.typeIn K (.ref fV) = some (.type "function")
  fu : Fun K "__init__" "InvalidTravel.__init__" sIV fV fdV
  pI : PIn K mg "PassError" cP mp
/-- a tuple of whole numbers -/
def TiA (K : PySem.W.Frag) (H : Hp) (v : V) (ns : List Int) : Prop := ∃ a, v = .ref a ∧ SqT K H a (ns.map V.int)
theorem TiA.tk {K : PySem.W.Frag} {H H' : Hp} {v : V} {ns : List Int} (t : TK K H H') (h : TiA K H v ns) : TiA K H' v ns := by
  obtain ⟨a, e, h⟩ := h
  exact ⟨a, e, t _ _ h⟩
theorem mk2_in {K : PySem.W.Frag} {H1 : Hp} {Q : XK} {f g : Str} {y z : V} {c : Addr} (T : OexC K c) (n : PySem.W.findIn K (.ref c) f = some none) (n2 : PySem.W.findIn K (.ref c) g = some none) (h : ∀ d, H1 d = none → Q (.ref c) (some d) (upd H1 d (.xd [(g, z), (f, y)]))) :
    [y, z].length = 2 ∧ ∀ a, H1 a = none → spX2 K f g ([.ref a] ++ [y, z]) (upd H1 a (exo a c none)) (fun v H2 => v = .non ∧ ∃ (d : Addr) (fs : List (Str × V)), H2 a = some (exo a c (some d)) ∧ H2 d = some (exd d fs) ∧ H1 d = none ∧ Q (.ref c) (some d) (upd (del H2 a) d (.xd fs))) (fun _ _ _ => False) := by
  refine ⟨rfl, fun a ha => ⟨a, c, y, z, rfl, T, n, n2, upd_same, fun dx h1 h2 => ?_⟩⟩
  rw [upd_ne h2] at h1
  refine ⟨rfl, dx, _, by rw [upd_ne h2.symm, upd_same], upd_same, h1, ?_⟩
  have e : upd (del (upd (upd (upd (upd H1 a (exo a c none)) dx (exd dx [(f, y)])) a (exo a c (some dx))) dx (exd dx [(g, z), (f, y)])) a) dx (.xd [(g, z), (f, y)]) = upd H1 dx (.xd [(g, z), (f, y)]) := by
    funext b
    by_cases hb : b = dx
    · subst hb
      rw [upd_same, upd_same]
    · rw [upd_ne hb, upd_ne hb]
      by_cases hba : b = a
      · subst hba
        rw [del_same, ha]
      · rw [del_ne hba, upd_ne hb, upd_ne hba, upd_ne hb, upd_ne hba]
  rw [e]
  exact h dx h1
/-- the first of 0 .. n - 1 of which p holds -/
def first (p : Nat → Bool) (n : Nat) : Option Nat := (List.range n).find? p
theorem first_succ (p : Nat → Bool) (n : Nat) : first p (n + 1) = (first p n).or (if p n = true then some n else none) := by
  unfold first
  rw [List.range_succ, List.find?_append, List.find?_cons]
  cases p n <;> rfl
theorem first_none {p : Nat → Bool} : ∀ {n : Nat}, (∀ j, j < n → p j = false) → first p n = none
  | 0, _ => rfl
  | n + 1, h => by
    rw [first_succ, first_none fun j hj => h j (by omega), h n (by omega)]
    rfl
theorem first_at {p : Nat → Bool} {i : Nat} (hp : p i = true) (hb : ∀ j, j < i → p j = false) : ∀ {n : Nat}, i < n → first p n = some i
  | 0, h => absurd h (Nat.not_lt_zero _)
  | n + 1, h => by
    rw [first_succ]
    by_cases e : i < n
    · rw [first_at hp hb e]
      rfl
    · obtain rfl : i = n := by omega
      rw [first_none hb, hp]
      rfl
/-- what is wrong with the i-th number -/
def nbad (ns : List Int) (lg mo : Int) (i : Nat) : Bool := decide (V.int ((i : Nat) : Int) = V.int mo) || (!(decide (0 ≤ ns.getD i 0) && decide (ns.getD i 0 ≤ lg)) || (decide ((0 : Int) < (i : Nat)) && decide (ns.getD i 0 ≤ ns.getD (i - 1) 0)))
def vbad (ns : List Int) (lg mo : Int) : Option Nat := first (nbad ns lg mo) ns.length
def spVN (K : PySem.W.Frag) (cV : Addr) : Sp := fun vs H Q E => ∃ (pt : Str) (v : V) (ns : List Int) (lg mo : Int), vs = [.str pt, v, .int lg, .int mo] ∧ TiA K H v ns ∧ ns.length ≤ 1000 ∧ (vbad ns lg mo = none → ∀ H', Same H H' → Q .non H') ∧
  (∀ i d H', vbad ns lg mo = some i → Same H H' → H' d = some (.xd [("index", .int (i : Nat)), ("part", .str pt)]) → E (.ref cV) (some d) H')
section
variable {P : Program} {w : World} {K : PySem.W.Frag} {mg : Str → Option Value} {base : Heap} {cV cN cP fV : Addr} {fdV : FuncData} {mp : Value}
theorem ok_IV {k : Nat} (T : TEv K mg cV cP fV fdV mp) : FnOk P w K mg base CX0 (k + 1) fV fdV ["self", "part", "index"] (spX2 K "part" "index") := by
  refine T.fu.ok scIV (fun vs H Q E h => ?_) (fun cdv A outer s H vs Q E hr h => ?_)
  · obtain ⟨a, C', y, z, rfl, _⟩ := h
    rfl
  · obtain ⟨a, C', y, z, rfl, hx, hf, hg, ha, q⟩ := h
    refine ⟨_, pss_cons (ps_expr (pe_pinit (by rfl) T.pI.gB T.pI.rd T.pI.ga T.pI.at_ (pa_cons (pv 0) (pa_cons pe_str pa_nil)))) (pss_cons (ps_ost (pv 0) (pv 1)) (pss_one (ps_ost (pv 0) (pv 2)))), ?_⟩
    refine ⟨_, rfl, a, C', _, rfl, show 1 ≤ 1000 by decide, hx, ha, _, rfl, _, rfl, a, C', rfl, hx, hf, .inl ⟨ha, fun dx h1 h2 => ⟨_, rfl, _, rfl, a, C', rfl, hx, hg, .inr ⟨dx, [("part", y)], upd_same, by rw [upd_ne h2, upd_same], show 1 ≤ 900 by decide, ?_⟩⟩⟩⟩
    exact q dx h1 h2
theorem kb_IV (T : TEv K mg cV cP fV fdV mp) : KBn K fdV ["self", "part", "index"] 1 ["part", "index"] (fun us ws => us ++ ws) (fun vs zs => vs ++ zs) := by
  obtain ⟨oc, od, kV, doc, pm, an, cdv, ct, osl, rfl, lk, hcd⟩ := T.fu.ex
  refine ⟨fun s us ws _ h1 h2 => ?_, fun a b => a.append b⟩
  match us, ws, h1, h2 with
  | [u], [x, y], _, _ => exact .of_eq rfl
theorem ok_vn {f : Addr} {fd : FuncData} {k : Nat} (F : Fun K "validate_numbers" "validate_numbers" sVN f fd) (T : TEv K mg cV cP fV fdV mp) (mE : mg "enumerate" = none) : FnOk P w K mg base (L2.CX P w) (k + 4) f fd ["part", "numbers", "largest", "most"] (spVN K cV) := by
  have GI : FnOk P w K mg base CX0 1 fV fdV ["self", "part", "index"] (spX2 K "part" "index") := ok_IV T
  have kb := kb_IV T
  refine F.okX scVN (fun vs H Q E h => ?_) (fun cdv A outer s H vs Q E hr h => ?_)
  · obtain ⟨pt, v, ns, lg, mo, rfl, _⟩ := h
    rfl
  · obtain ⟨pt, v, ns, lg, mo, rfl, ⟨p, rfl, hp⟩, hlen, q1, q2⟩ := h
    refine ⟨_, pss_one (ps_for (passes_of rfl) rfl (pi_enumT (by rfl) mE (pa_cons (pv 1) pa_nil)) (pg_tup rfl (pgs_cons (pg_name (i := 4) scVN.nd rfl (.inl rfl)) (pgs_cons (pg_name (i := 5) scVN.nd rfl (.inl rfl)) pgs_nil)))
      (pss_one (ps_if (PW.pt (pw_or (pt_cmpR op_eq (pv 4) (pv 3) (nomark _)) (pw_or (pt_not (pt_chain op_le op_le pe_int (pv 5) (pv 2))) (pw_or1 (PW.pt (pw_and (pt_cmpR op_gt (pv 4) pe_int (nomark _)) (pw_and1 (pt_cmpR op_le (pv 5) (pe_ixt (pv 1) (pe_op op_sub (pv 4) pe_int)) (nomark _)))))))))
        (pss_one (ps_raise rfl (takes_of rfl rfl rfl rfl) (pmk_kw T.xV T.iV T.tV GI (hr.mono (by omega)) kb pass0 (by rfl) T.gV (pk_cons (pv 0) (pk_cons (pv 4) pk_nil))))) pss_nil))), ?_⟩
    have hll : (ns.map V.int).length = ns.length := List.length_map ..
    refine ⟨_, rfl, p, _, rfl, hp, for_rounds (I := IteT K p (ns.map V.int)) (ns.map V.int).length (fun i σ H' => ∃ v4 v5, σ = [some (.str pt), some (.ref p), some (.int lg), some (.int mo), v4, v5] ∧ Same H H' ∧ ∀ j, j < i → nbad ns lg mo j = false)
      ⟨none, none, rfl, Same.refl H, fun j hj => absurd hj (Nat.not_lt_zero _)⟩ ?_ ?_⟩
    · rintro i σ H' hi ⟨v4, v5, rfl, sm, hall⟩
      refine ⟨⟨hi, (TK.same sm) _ _ hp⟩, ?_⟩
      rintro y HT ⟨x, TT, hx, nT, rfl, rfl⟩
      rw [hll] at hi
      obtain rfl : x = .int ns[i] := by
        rw [List.getElem?_map, List.getElem?_eq_getElem hi] at hx
        exact (Option.some.inj hx).symm
      have sT : Same H' (upd H' TT (.tup [.int (i : Nat), .int ns[i]])) := same_new nT
      have hp2 := (TK.same (sm.trans sT)) _ _ hp
      have gi : ns.getD i 0 = ns[i] := by rw [List.getD_eq_getElem?_getD, List.getElem?_eq_getElem hi]; rfl
      refine ⟨TT, _, rfl, .of upd_same, rfl, _, _, rfl, _, _, rfl, rfl, ?_⟩
      refine s_when (b := nbad ns lg mo i) ?_ (fun hb H2 e2 => ?_) (fun hb H2 e2 => ⟨_, _, rfl, (sm.trans sT).trans e2, fun j hj => ?_⟩)
      · unfold nbad
        rw [gi]
        refine et_or (et_test (ev_op (ev_var rfl) (ev_var rfl) (rv_eq rfl))) fun _ => et_or (et_not (et_test (ev_chainI (p := fun i j => decide (i ≤ j)) (q := fun i j => decide (i ≤ j)) ev_c (ev_var rfl) (ev_var rfl)))) fun _ => et_and (et_test (ev_op (ev_var rfl) ev_c rv_I0)) fun h0 => ?_
        have h0' : 0 < i := by
          have := of_decide_eq_true h0
          omega
        have hi1 : i - 1 < ns.length := by omega
        have g1 : ns.getD (i - 1) 0 = ns[i - 1] := by rw [List.getD_eq_getElem?_getD, List.getElem?_eq_getElem hi1]; rfl
        rw [g1]
        have ha : atI (ns.map V.int) (((i : Nat) : Int) - 1) = some (.int ns[i - 1]) := by
          rw [show ((i : Nat) : Int) - 1 = ((i - 1 : Nat) : Int) by omega]
          refine at_nat (by rw [hll]; exact hi1) ?_
          rw [List.getElem?_map, List.getElem?_eq_getElem hi1]
          rfl
        exact et_test (ev_op (ev_var rfl) (ev_op (ev_var rfl) (ev_op (ev_var rfl) ev_c rv_I0) (rv_ixT hp2 ha)) rv_I0)
      · refine ⟨_, rfl, _, rfl, mk2_in T.xV T.nP T.nI fun d hd => q2 i d _ ?_ (((sm.trans sT).trans e2).trans (same_new hd)) upd_same⟩
        exact first_at hb hall hi
      · by_cases hji : j < i
        · exact hall j hji
        · obtain rfl : j = i := by omega
          exact hb
    · rintro σ H' ⟨v4, v5, rfl, sm, hall⟩
      refine ⟨⟨rfl, (TK.same sm) _ _ hp⟩, ?_⟩
      rw [hll] at hall
      exact q1 (first_none hall) H' sm
end
def Good (ns : List Int) (lg : Int) : Prop := ∀ j, j < ns.length → 0 ≤ ns.getD j 0 ∧ ns.getD j 0 ≤ lg ∧ (0 < j → ns.getD (j - 1) 0 < ns.getD j 0)
theorem Good.mono {ns : List Int} {l m : Int} (h : Good ns l) (e : l ≤ m) : Good ns m := fun j hj => ⟨(h j hj).1, Int.le_trans (h j hj).2.1 e, (h j hj).2.2⟩
theorem getD_app1 {ns : List Int} {x : Int} {j : Nat} (h : j < ns.length) : (ns ++ [x]).getD j 0 = ns.getD j 0 := by
  rw [List.getD_eq_getElem?_getD, List.getD_eq_getElem?_getD, List.getElem?_append_left h]
theorem getD_app2 {ns : List Int} {x : Int} : (ns ++ [x]).getD ns.length 0 = x := by
  rw [List.getD_eq_getElem?_getD, List.getElem?_append_right (Nat.le_refl _), Nat.sub_self]
  rfl
theorem Good.snoc {ns : List Int} {x : Int} (h : Good ns (x - 1)) (h0 : 0 ≤ x) : Good (ns ++ [x]) x := fun j hj => by
  rw [List.length_append, List.length_singleton] at hj
  by_cases e : j < ns.length
  · rw [getD_app1 e]
    obtain ⟨a, b, c⟩ := h j e
    refine ⟨a, by omega, fun hp => ?_⟩
    rw [getD_app1 (by omega)]
    exact c hp
  · obtain rfl : j = ns.length := by omega
    rw [getD_app2]
    refine ⟨h0, Int.le_refl _, fun hp => ?_⟩
    rw [getD_app1 (by omega)]
    have := (h (ns.length - 1) (by omega)).2.1
    omega
theorem vbad_good {ns : List Int} {lg mo : Int} (h : Good ns lg) (hl : (ns.length : Int) ≤ mo) : vbad ns lg mo = none := first_none fun j hj => by
  obtain ⟨a, b, c⟩ := h j hj
  unfold nbad
  rw [decide_eq_true a, decide_eq_true b, show decide (V.int ((j : Nat) : Int) = V.int mo) = false from by rw [dec_int]; simp; omega]
  by_cases hp : 0 < j
  · have := c hp
    rw [show decide (ns.getD j 0 ≤ ns.getD (j - 1) 0) = false from decide_eq_false (by omega)]
    simp
  · rw [show decide ((0 : Int) < (j : Nat)) = false from decide_eq_false (by omega)]
    rfl
theorem scTvI : FnScope ["self", "length", "days", "exceptions"] ["self", "length", "days", "exceptions"] (defScope sTvI) := ⟨rfl, rfl, rfl, by decide +kernel, rfl, by decide +kernel, by decide +kernel⟩
/-- what is wrong with a travel -/
def tbad (ln : Int) (ds os : List Int) : Option (Str × Nat) :=
  if 1 ≤ ln ∧ ln ≤ 14 then (match vbad ds (ln - 1) 14 with
    | some i => some ("days", i)
    | none => match vbad os 1000000000000000000 6 with
      | some i => some ("exceptions", i)
      | none => none) else some ("length", 0)
/-- the travel's class and its constants -/
structure TTv (K : PySem.W.Frag) (mg : Str → Option Value) (C fVN : Addr) (dVN : FuncData) : Prop where
  cl : Cls K C
  nS : NoAttr K C "size"
  nP : NoAttr K C "pattern"
  nO : NoAttr K C "odd_days"
  gC : mg "Travel" = some (.ref C)
  mR : ∃ u, mg "MAX_ROUND" = some u ∧ RelV (.int 14) u
  mX : ∃ u, mg "MAX_EXCEPTIONS" = some u ∧ RelV (.int 6) u
  mD : ∃ u, mg "MAX_DAYS" = some u ∧ RelV (.int 1000000000000000000) u
  mE : mg "enumerate" = none
  gVN : mg "validate_numbers" = some (.ref fVN)
  kVN : PySem.W.keepIn K (.ref fVN) = true
  uVN : Fun K "validate_numbers" "validate_numbers" sVN fVN dVN
theorem TTv.bVN {K : PySem.W.Frag} {mg : Str → Option Value} {C fVN : Addr} {dVN : FuncData} (T : TTv K mg C fVN dVN) : Binds K dVN ["part", "numbers", "largest", "most"] [] := T.uVN.binds (ps := ["part", "numbers", "largest", "most"]) fun _ _ _ _ _ _ us hl => match us, hl with | [_, _, _, _], _ => rfl
theorem putF_len (f : Str) (v : V) : ∀ fs : List (Str × V), (putF f v fs).length ≤ fs.length + 1
  | [] => Nat.le_refl _
  | (g, u) :: r => by
    show (if g = f then (g, v) :: r else (g, u) :: putF f v r).length ≤ r.length + 1 + 1
    by_cases e : g = f
    · rw [if_pos e]
      exact Nat.le_succ _
    · rw [if_neg e]
      exact Nat.succ_le_succ (putF_len f v r)
/-- the fields of a travel -/
abbrev tvF (ln : Int) (d o : V) : List (Str × V) := putF "odd_days" o (putF "pattern" d (putF "size" (.int ln) []))
def spTvI (K : PySem.W.Frag) (C cV : Addr) : Sp := fun vs H Q E => ∃ (a dx : Addr) (ln : Int) (d o : V) (ds os : List Int), vs = [.ref a, .int ln, d, o] ∧ H a = some (.ins C dx []) ∧ TiA K H d ds ∧ TiA K H o os ∧ ds.length ≤ 1000 ∧ os.length ≤ 1000 ∧
  (tbad ln ds os = none → ∀ H', (∀ b o, H b = some o → b ≠ a → H' b = some o) → H' a = some (.ins C dx (tvF ln d o)) → Q .non H') ∧
  (∀ pt i dd H', tbad ln ds os = some (pt, i) → Same H H' → H' dd = some (.xd [("index", .int (i : Nat)), ("part", .str pt)]) → E (.ref cV) (some dd) H')
section
variable {P : Program} {w : World} {K : PySem.W.Frag} {mg : Str → Option Value} {base : Heap} {cV cP fV C fVN : Addr} {fdV dVN : FuncData} {mp : Value}
theorem ok_tvI {f : Addr} {fd : FuncData} (F : Fun K "__init__" "Travel.__init__" sTvI f fd) (T : TEv K mg cV cP fV fdV mp) (W : TTv K mg C fVN dVN) : FnOk P w K mg base (L2.CX P w) 5 f fd ["self", "length", "days", "exceptions"] (spTvI K C cV) := by
  have GI : FnOk P w K mg base CX0 1 fV fdV ["self", "part", "index"] (spX2 K "part" "index") := ok_IV T
  have kb := kb_IV T
  refine F.okX scTvI (fun vs H Q E h => ?_) (fun cdv A outer s H vs Q E hr h => ?_)
  · obtain ⟨a, dx, ln, d, o, ds, os, rfl, _⟩ := h
    rfl
  · obtain ⟨a, dx, ln, d, o, ds, os, rfl, ha, hd, ho, ld, lo, q1, q2⟩ := h
    have PX : Passes (L2.CX P w) (cxOf (L2.CX P w) P w K mg base ["self", "length", "days", "exceptions"] "Travel.__init__" (defScope sTvI) f cdv A outer s H E) E := passes_call (takes_of rfl rfl rfl rfl) (fun _ _ _ _ h => h)
    have G : FnOk P w K mg base (L2.CX P w) 4 fVN dVN ["part", "numbers", "largest", "most"] (spVN K cV) := ok_vn (k := 0) W.uVN T W.mE
    refine ⟨_, pss_cons (ps_if (pt_not (pt_chain op_le op_le pe_int (pv 1) (C8.pe_gc (by rfl) W.mR))) (pss_one (ps_raise rfl (takes_of rfl rfl rfl rfl) (pmk_kw T.xV T.iV T.tV GI (hr.mono (by omega)) kb pass0 (by rfl) T.gV (pk_cons pe_str (pk_cons pe_int pk_nil))))) pss_nil)
      (pss_cons (ps_expr (pe_call (E := E) G hr (by rfl) W.gVN W.kVN W.bVN .nil PX (pa_cons pe_str (pa_cons (pv 2) (pa_cons (pe_op op_sub (pv 1) pe_int) (pa_cons (C8.pe_gc (by rfl) W.mR) pa_nil))))))
      (pss_cons (ps_expr (pe_call (E := E) G hr (by rfl) W.gVN W.kVN W.bVN .nil PX (pa_cons pe_str (pa_cons (pv 3) (pa_cons (C8.pe_gc (by rfl) W.mD) (pa_cons (C8.pe_gc (by rfl) W.mX) pa_nil))))))
      (pss_cons (ps_fld (pv 0) (pv 1) rfl) (pss_cons (ps_fld (pv 0) (pv 2) rfl) (pss_one (ps_fld (pv 0) (pv 3) rfl)))))), ?_⟩
    refine q_when (b := !(decide (1 ≤ ln) && decide (ln ≤ 14))) (et_not (et_test (ev_chainI (p := fun i j => decide (i ≤ j)) (q := fun i j => decide (i ≤ j)) ev_c (ev_var rfl) ev_c))) (fun hb H1 e1 => ?_) (fun hb H1 e1 => ?_)
    · refine mk2_in T.xV T.nP T.nI fun dd hdd => q2 "length" 0 dd _ ?_ (Same.trans e1 (same_new hdd)) upd_same
      unfold tbad
      rw [if_neg fun hc => by
        rw [decide_eq_true hc.1, decide_eq_true hc.2] at hb
        cases hb]
    · have hc : 1 ≤ ln ∧ ln ≤ 14 := by
        have : (decide (1 ≤ ln) && decide (ln ≤ 14)) = true := by
          cases h : (decide (1 ≤ ln) && decide (ln ≤ 14)) with
          | true => rfl
          | false =>
            rw [h] at hb
            cases hb
        rw [Bool.and_eq_true] at this
        exact ⟨of_decide_eq_true this.1, of_decide_eq_true this.2⟩
      have hd1 := hd.tk (.same e1)
      refine ⟨_, rfl, _, rfl, _, _, rfl, rfl, "days", d, ds, ln - 1, 14, rfl, hd1, ld, fun hv H2 s2 => ?_, fun i dd H2 hv s2 hx => q2 "days" i dd H2 ?_ (Same.trans e1 s2) hx⟩
      · have ho2 := (ho.tk (.same e1)).tk (.same s2)
        refine ⟨_, rfl, "exceptions", o, os, 1000000000000000000, 6, rfl, ho2, lo, fun hv2 H3 s3 => ?_, fun i dd H3 hv2 s3 hx => q2 "exceptions" i dd H3 ?_ (Same.trans (Same.trans e1 s2) s3) hx⟩
        · have ha3 := s3 _ _ (s2 _ _ (e1 _ _ ha))
          refine ⟨_, rfl, _, rfl, a, C, dx, [], rfl, ha3, W.cl, W.nS, by decide, ?_⟩
          refine ⟨_, rfl, _, rfl, a, C, dx, _, rfl, upd_same, W.cl, W.nP, (show 1 < 1000 by decide), ?_⟩
          refine ⟨_, rfl, _, rfl, a, C, dx, _, rfl, upd_same, W.cl, W.nO, Nat.lt_of_le_of_lt (putF_len _ _ _) (show 2 < 1000 by decide), ?_⟩
          refine q1 ?_ _ (fun b x e n => ?_) upd_same
          · unfold tbad
            rw [if_pos hc, hv, hv2]
          · rw [upd_ne n, upd_ne n, upd_ne n]
            exact s3 _ _ (s2 _ _ (e1 _ _ e))
        · unfold tbad
          rw [if_pos hc, hv, hv2]
      · unfold tbad
        rw [if_pos hc, hv]
end
theorem tvF_size (ln : Int) (d o : V) : (tvF ln d o).lookup ("size" : Str) = some (.int ln) := by
  unfold tvF
  rw [lookup_putF, if_neg (by decide +kernel), lookup_putF, if_neg (by decide +kernel), lookup_putF, if_pos rfl]
theorem tvF_pat (ln : Int) (d o : V) : (tvF ln d o).lookup ("pattern" : Str) = some d := by
  unfold tvF
  rw [lookup_putF, if_neg (by decide +kernel), lookup_putF, if_pos rfl]
theorem tvF_odd (ln : Int) (d o : V) : (tvF ln d o).lookup ("odd_days" : Str) = some o := by
  unfold tvF
  rw [lookup_putF, if_pos rfl]
theorem tvF_no (ln : Int) (d o : V) {m : Str} (h1 : ¬ m = "odd_days") (h2 : ¬ m = "pattern") (h3 : ¬ m = "size") : (tvF ln d o).lookup m = none := by
  unfold tvF
  rw [lookup_putF, if_neg h1, lookup_putF, if_neg h2, lookup_putF, if_neg h3]
  rfl
def Tv (K : PySem.W.Frag) (C : Addr) (H : Hp) (a : Addr) (ln : Int) (d o : V) (ds os : List Int) : Prop := (∃ dx, H a = some (.ins C dx (tvF ln d o))) ∧ TiA K H d ds ∧ TiA K H o os
theorem Tv.same {K : PySem.W.Frag} {C : Addr} {H H' : Hp} {a : Addr} {ln : Int} {d o : V} {ds os : List Int} (t : Tv K C H a ln d o ds os) (s : Same H H') : Tv K C H' a ln d o ds os := by
  obtain ⟨⟨dx, h⟩, h1, h2⟩ := t
  exact ⟨⟨dx, s _ _ h⟩, h1.tk (.same s), h2.tk (.same s)⟩
theorem scRl : FnScope ["self"] ["self"] (defScope sRl) := ⟨rfl, rfl, rfl, by decide +kernel, rfl, by decide +kernel, by decide +kernel⟩
theorem scRd : FnScope ["self"] ["self"] (defScope sRd) := ⟨rfl, rfl, rfl, by decide +kernel, rfl, by decide +kernel, by decide +kernel⟩
theorem scEx : FnScope ["self"] ["self"] (defScope sEx) := ⟨rfl, rfl, rfl, by decide +kernel, rfl, by decide +kernel, by decide +kernel⟩
/-! ### the getters -/
structure TPr (K : PySem.W.Frag) (C fRl pRl fRd pRd fEx pEx : Addr) (dRl dRd dEx : FuncData) : Prop where
  pL : PropOf K C "round_length" pRl fRl
  uL : Fun K "round_length" "Travel.round_length" sRl fRl dRl
  pD : PropOf K C "round_days" pRd fRd
  uD : Fun K "round_days" "Travel.round_days" sRd fRd dRd
  pE : PropOf K C "exceptions" pEx fEx
  uE : Fun K "exceptions" "Travel.exceptions" sEx fEx dEx
section
variable {X : Cx} {C fRl pRl fRd pRd fEx pEx fVN : Addr} {dRl dRd dEx dVN : FuncData} {e : Expr} {te : TE} {pos : Pos}
theorem pe_rl (T : TPr X.K C fRl pRl fRd pRd fEx pEx dRl dRd dEx) (W : TTv X.K X.mg C fVN dVN) (hr : Room 2 X.A) (he : PE X e te) (hab : attributeBase e "round_length" X.env (eval e X.env) = eval e X.env := by rfl) : PE X (.Attribute e "round_length" pos) (tProp C (getSp C "size") [] E0 te) := by
  obtain ⟨oc, od, kV, doc, pm, an, cdv, ct, osl, rfl, lk, hcd⟩ := T.uL.ex
  exact pe_prop he W.cl T.pL (fn_getter (k := 0) lk hcd scRl rfl rfl W.cl W.nS) hr (T.uL.binds (ps := ["self"]) fun _ _ _ _ _ _ us hl => match us, hl with | [_], _ => rfl) .nil pass0 hab
theorem pe_rd (T : TPr X.K C fRl pRl fRd pRd fEx pEx dRl dRd dEx) (W : TTv X.K X.mg C fVN dVN) (hr : Room 2 X.A) (he : PE X e te) (hab : attributeBase e "round_days" X.env (eval e X.env) = eval e X.env := by rfl) : PE X (.Attribute e "round_days" pos) (tProp C (getSp C "pattern") [] E0 te) := by
  obtain ⟨oc, od, kV, doc, pm, an, cdv, ct, osl, rfl, lk, hcd⟩ := T.uD.ex
  exact pe_prop he W.cl T.pD (fn_getter (k := 0) lk hcd scRd rfl rfl W.cl W.nP) hr (T.uD.binds (ps := ["self"]) fun _ _ _ _ _ _ us hl => match us, hl with | [_], _ => rfl) .nil pass0 hab
theorem pe_ex (T : TPr X.K C fRl pRl fRd pRd fEx pEx dRl dRd dEx) (W : TTv X.K X.mg C fVN dVN) (hr : Room 2 X.A) (he : PE X e te) (hab : attributeBase e "exceptions" X.env (eval e X.env) = eval e X.env := by rfl) : PE X (.Attribute e "exceptions" pos) (tProp C (getSp C "odd_days") [] E0 te) := by
  obtain ⟨oc, od, kV, doc, pm, an, cdv, ct, osl, rfl, lk, hcd⟩ := T.uE.ex
  exact pe_prop he W.cl T.pE (fn_getter (k := 0) lk hcd scEx rfl rfl W.cl W.nO) hr (T.uE.binds (ps := ["self"]) fun _ _ _ _ _ _ us hl => match us, hl with | [_], _ => rfl) .nil pass0 hab
end
end Sea

set_option Elab.async false
set_option linter.all false
set_option maxRecDepth 100000
set_option maxHeartbeats 4000000
namespace Sea
open PySem PySem.Spec PyProof.Rows L2 LamX NdefX ClX Evl StX
structure TDn (K : PySem.W.Frag) (mg : Str → Option Value) (fD : Addr) (fdD : FuncData) : Prop where
  g : mg "_law_drawn" = some (.ref fD)
  kp : PySem.W.keepIn K (.ref fD) = true
  fu : Fun K "_law_drawn" "_law_drawn" sDrawn fD fdD
  mN : mg "len" = none
theorem TDn.b {K : PySem.W.Frag} {mg : Str → Option Value} {fD : Addr} {fdD : FuncData} (T : TDn K mg fD fdD) : Binds K fdD ["_law_state", "_law_count"] [] := T.fu.binds (ps := ["_law_state", "_law_count"]) fun _ _ _ _ _ _ us hl => match us, hl with | [_, _], _ => rfl
section
variable {X : Cx} {a b : Expr} {ta tb : TE} {p pos : Pos} {fD : Addr} {fdD : FuncData}
/-- _law_drawn(a, b) -/
theorem pe_dr {K : PySem.W.Frag} (T : TDn K X.mg fD fdD) (hr : Room 1 X.A) (hg : Gl X "_law_drawn") (ha : PE X a ta) (hb : PE X b tb) (he : starEach (a :: [b]) X.env = (false, eval a X.env) :: starEach [b] X.env := by rfl) (he2 : starEach (b :: []) X.env = (false, eval b X.env) :: starEach [] X.env := by rfl) (hpl : (backTo pos (starEach [b] X.env)).any (·.1) = false := by rfl) (hK : X.K = K := by rfl) :
    PE X (.Call (.Name "_law_drawn" p) [a, b] [] pos) (tCall (spDrawn K) [] E0 (tCons ta (tCons tb tNil))) := by
  subst hK
  exact pe_call (ok_drawn (k := 0) T.fu T.mN) hr hg T.g T.kp T.b .nil pass0 (pa_cons ha (pa_cons hb pa_nil he2) he) (by decide) he hpl
end
/-! ### expressions that draw -/
def EvS (K : PySem.W.Frag) (te : TE) (σ : L2.St) (H : Hp) (h c : Addr) (P : Int → Prop) : Prop := ∀ H1, Kh h H H1 → Ds K H1 h c → ∀ Q : VK, (∀ v H2, P v → Ds K H2 h c → Kh h H1 H2 → Q (.int v) H2) → te σ H1 Q
section
variable {K : PySem.W.Frag} {te ta tb tl : TE} {σ : L2.St} {H : Hp} {h c : Addr} {P P1 P2 : Int → Prop}
theorem es_of {k : Int} (e : ∀ H1, Kh h H H1 → Ev te σ H1 (.int k)) : EvS K te σ H h c (fun v => v = k) := fun H1 k1 d Q q => e H1 k1 H1 (Ex.refl _) _ fun H2 e2 => q k H2 rfl (d.same e2) (Kh.same e2)
theorem es_c {k : Int} : EvS K (tC (.int k)) σ H h c (fun v => v = k) := es_of fun _ _ => ev_c
theorem es_var {i : Nat} {k : Int} (hs : σ[i]? = some (some (.int k))) : EvS K (tVar i) σ H h c (fun v => v = k) := es_of fun _ _ => ev_var hs
theorem EvS.imp (e : EvS K te σ H h c P1) (i : ∀ v, P1 v → P2 v) : EvS K te σ H h c P2 := fun H1 k1 d Q q => e H1 k1 d Q fun v H2 hv => q v H2 (i v hv)
theorem EvS.later {H' : Hp} (e : EvS K te σ H h c P) (k : Kh h H H') : EvS K te σ H' h c P := fun H1 k1 d Q q => e H1 (k.trans k1) d Q q
theorem es_add (ea : EvS K ta σ H h c P1) (eb : EvS K tb σ H h c P2) : EvS K (tOp rAd ta tb) σ H h c (fun v => ∃ x y, P1 x ∧ P2 y ∧ v = x + y) := fun H1 k1 d Q q =>
  ea H1 k1 d _ fun x H2 px d2 k2 => eb H2 (k1.trans k2) d2 _ fun y H3 py d3 k3 => ⟨x, y, rfl, rfl, q _ H3 ⟨x, y, px, py, rfl⟩ d3 (k2.trans k3)⟩
theorem es_dr {i : Nat} (hs : σ[i]? = some (some (.ref h))) (eb : EvS K tb σ H h c P1) (ok : ∀ m, P1 m → 0 < m ∧ m.natAbs.log2 < 9000 ∧ ∀ v, 0 ≤ v → v < m → P v) : EvS K (tCall (spDrawn K) [] E0 (tCons (tVar i) (tCons tb tNil))) σ H h c P := fun H1 k1 d Q q =>
  ⟨_, hs, eb H1 k1 d _ fun m H2 pm d2 k2 => ⟨h, c, m, rfl, (ok m pm).1, (ok m pm).2.1, d2, fun v H3 v0 v1 d3 k3 => q v H3 ((ok m pm).2.2 v v0 v1) d3 (k2.trans k3)⟩⟩
theorem es_pick {xs : List Int} (el : ∀ H1, EvL tl σ H1 (xs.map V.int)) (eb : EvS K tb σ H h c (fun v => 0 ≤ v ∧ v < xs.length)) : EvS K (tOp (rIxL K) tl tb) σ H h c (fun v => v ∈ xs) := fun H1 k1 d Q q =>
  el H1 H1 (Ex.refl _) _ fun p H2 np e2 hp => eb H2 (k1.trans (Kh.same e2)) (d.same e2) _ fun v H3 hv d3 k3 => by
    obtain ⟨j, rfl⟩ := Int.eq_ofNat_of_zero_le hv.1
    have hj : j < xs.length := by omega
    have at_ : (xs.map V.int)[j]? = some (.int xs[j]) := by
      rw [List.getElem?_map, List.getElem?_eq_getElem hj]
      rfl
    exact ⟨p, _, _, _, rfl, rfl, .of (k3 _ _ hp ((d.nh np))), at_nat (by rw [List.length_map]; exact hj) at_, q _ H3 (List.getElem_mem hj) d3 ((Kh.same e2).trans k3)⟩
/-- a draw below a number of a small table, itself drawn -/
theorem es_tab {i : Nat} {a b d : Int} (hs : σ[i]? = some (some (.ref h))) (el : ∀ H1, EvL tl σ H1 ([a, b, d].map V.int)) (ok : ∀ m, m = a ∨ m = b ∨ m = d → 0 < m ∧ m.natAbs.log2 < 9000 ∧ ∀ v, 0 ≤ v → v < m → P v) :
    EvS K (tCall (spDrawn K) [] E0 (tCons (tVar i) (tCons (tOp (rIxL K) tl (tCall (spDrawn K) [] E0 (tCons (tVar i) (tCons (tC (.int 3)) tNil)))) tNil))) σ H h c P :=
  es_dr hs (es_pick el (es_dr hs es_c fun m e => by
    subst e
    exact ⟨by decide, by decide +kernel, fun v v0 v1 => ⟨v0, v1⟩⟩)) fun m hm => ok m (by simpa using hm)
end
theorem bad_ok {L : List (Int × Int)} (h1 : 1 ≤ L.length) (h2 : L.length ≤ 6) (h : ∀ x ∈ L, okP x = true) : bad L = none := by
  unfold bad
  rw [if_neg fun e => by rw [e] at h1; cases h1]
  refine fb_all L 0 fun j x hx => ?_
  have hj := (List.getElem?_eq_some_iff.mp hx).1
  unfold badI
  rw [h x (List.mem_of_getElem? hx), dec_int, beq_eq_false_iff_ne.mpr (by omega)]
  rfl
end Sea

set_option Elab.async false
set_option linter.all false
set_option maxRecDepth 100000
set_option maxHeartbeats 4000000
namespace Sea
open PySem PySem.Spec PyProof.Rows L2 LamX NdefX ClX Evl StX
theorem scLengths : FnScope ["self", "length", "price"] ["self"] (defScope sLengths) := ⟨rfl, rfl, rfl, by decide +kernel, rfl, by decide +kernel, by decide +kernel⟩
theorem scPrices : FnScope ["self", "length", "price"] ["self"] (defScope sPrices) := ⟨rfl, rfl, rfl, by decide +kernel, rfl, by decide +kernel, by decide +kernel⟩
/-- a new tuple of one number of each pass -/
def spCol (K : PySem.W.Frag) (C : Addr) (f : Int × Int → Int) : Sp := fun vs H Q _ => ∃ (a p : Addr) (L : List (Int × Int)), vs = [.ref a] ∧ Tar K C H a p L ∧ L.length ≤ 1000 ∧ ∀ q H', Same H H' → H' q = some (.tup (L.map fun x => .int (f x))) → Q (.ref q) H'
section
variable {P : Program} {w : World} {K : PySem.W.Frag} {mg : Str → Option Value} {base : Heap} {C cI cU cP fI fT fP pP : Addr} {mc mp : Value} {fdP fdI fdT : FuncData}
theorem ok_lengths {f : Addr} {fd : FuncData} {k : Nat} (F : Fun K "lengths" "Tariff.lengths" sLengths f fd) (T : TX K mg C cI cU cP fI mc mp) : FnOk P w K mg base CX0 (k + 1) f fd ["self"] (spCol K C Prod.fst) := by
  refine F.ok scLengths (fun vs H Q E h => ?_) (fun cdv A outer s H vs Q E hr h => ?_)
  · obtain ⟨a, p, L, rfl, _⟩ := h
    rfl
  · obtain ⟨a, p, L, rfl, ht, hlen, q⟩ := h
    refine ⟨_, pss_one (ps_ret (pe_callTy call_tuple_of (by rfl) T.mT (by rfl) (pa_cons (pe_lc (own := [("length", 1), ("price", 2)]) (g := gTup K 2 (gCons (gName 1) (gCons (gName 2) gNil))) (by rfl) scLengths.nd (pi_tup (pe_fld (pv 0) rfl))
      (blkOk_by (own := [("length", 1), ("price", 2)]) (N := ["self", "length", "price"]) (sc := defScope sLengths) (by decide +kernel))
      (fun _ _ _ _ _ => pg_tup rfl (pgs_cons (pg_name (i := 1) scLengths.nd rfl (Or.inl rfl)) (pgs_cons (pg_name (i := 2) scLengths.nd rfl (Or.inl rfl)) pgs_nil))) (fun _ _ _ _ _ => pts_nil) (fun _ _ _ _ _ => pv 1)) pa_nil))), ?_⟩
    obtain ⟨vs, h1, hl, hv⟩ := ht.len_eq
    obtain ⟨⟨dx, ha⟩, _⟩ := ht
    refine ⟨_, rfl, a, C, dx, _, _, rfl, ha, T.cl, T.no, rfl, p, rfl, ?_⟩
    refine ⟨⟨vs, h1⟩, fun D nD => ?_⟩
    have nDb : ∀ {b : Addr} {o : HO}, H b = some o → b ≠ D := fun e => ne_of_none e nD
    refine lc_tup (K := K) (a := p) (xs := vs) (fun i H' => Same H H' ∧ H' D = some (.lst ((L.take i).map fun x => V.int x.1))) ⟨same_new nD, upd_same⟩ (fun i H' _ z => (TK.same z.1) _ _ h1) ?_ ?_
    · rintro i x H' hx ⟨sm, hD⟩
      obtain ⟨⟨l, pr⟩, hLi, b, rfl, hb⟩ := hv.get hx
      refine ⟨b, _, rfl, (TK.same sm) _ _ hb, rfl, _, _, rfl, _, _, rfl, rfl, rfl, ?_⟩
      refine iteT (B := True) ?_
      refine ⟨_, rfl, _, hD, ?_, ?_, ?_⟩
      · rw [List.length_map, List.length_take]
        exact Nat.lt_of_le_of_lt (Nat.min_le_right _ _) (small1000 hlen)
      · intro c o e
        rw [upd_ne (nDb e)]
        exact sm _ _ e
      · rw [upd_same, take_snoc hLi, List.map_append]
        rfl
    · rintro H' ⟨sm, hD⟩
      refine ⟨D, _, rfl, .inl ⟨.of hD, fun l nl => q l _ (sm.trans (same_new nl)) ?_⟩⟩
      rw [upd_same, hl, List.take_length]
theorem ok_prices {f : Addr} {fd : FuncData} {k : Nat} (F : Fun K "prices" "Tariff.prices" sPrices f fd) (T : TX K mg C cI cU cP fI mc mp) : FnOk P w K mg base CX0 (k + 1) f fd ["self"] (spCol K C Prod.snd) := by
  refine F.ok scPrices (fun vs H Q E h => ?_) (fun cdv A outer s H vs Q E hr h => ?_)
  · obtain ⟨a, p, L, rfl, _⟩ := h
    rfl
  · obtain ⟨a, p, L, rfl, ht, hlen, q⟩ := h
    refine ⟨_, pss_one (ps_ret (pe_callTy call_tuple_of (by rfl) T.mT (by rfl) (pa_cons (pe_lc (own := [("length", 1), ("price", 2)]) (g := gTup K 2 (gCons (gName 1) (gCons (gName 2) gNil))) (by rfl) scPrices.nd (pi_tup (pe_fld (pv 0) rfl))
      (blkOk_by (own := [("length", 1), ("price", 2)]) (N := ["self", "length", "price"]) (sc := defScope sPrices) (by decide +kernel))
      (fun _ _ _ _ _ => pg_tup rfl (pgs_cons (pg_name (i := 1) scPrices.nd rfl (Or.inl rfl)) (pgs_cons (pg_name (i := 2) scPrices.nd rfl (Or.inl rfl)) pgs_nil))) (fun _ _ _ _ _ => pts_nil) (fun _ _ _ _ _ => pv 2)) pa_nil))), ?_⟩
    obtain ⟨vs, h1, hl, hv⟩ := ht.len_eq
    obtain ⟨⟨dx, ha⟩, _⟩ := ht
    refine ⟨_, rfl, a, C, dx, _, _, rfl, ha, T.cl, T.no, rfl, p, rfl, ?_⟩
    refine ⟨⟨vs, h1⟩, fun D nD => ?_⟩
    have nDb : ∀ {b : Addr} {o : HO}, H b = some o → b ≠ D := fun e => ne_of_none e nD
    refine lc_tup (K := K) (a := p) (xs := vs) (fun i H' => Same H H' ∧ H' D = some (.lst ((L.take i).map fun x => V.int x.2))) ⟨same_new nD, upd_same⟩ (fun i H' _ z => (TK.same z.1) _ _ h1) ?_ ?_
    · rintro i x H' hx ⟨sm, hD⟩
      obtain ⟨⟨l, pr⟩, hLi, b, rfl, hb⟩ := hv.get hx
      refine ⟨b, _, rfl, (TK.same sm) _ _ hb, rfl, _, _, rfl, _, _, rfl, rfl, rfl, ?_⟩
      refine iteT (B := True) ?_
      refine ⟨_, rfl, _, hD, ?_, ?_, ?_⟩
      · rw [List.length_map, List.length_take]
        exact Nat.lt_of_le_of_lt (Nat.min_le_right _ _) (small1000 hlen)
      · intro c o e
        rw [upd_ne (nDb e)]
        exact sm _ _ e
      · rw [upd_same, take_snoc hLi, List.map_append]
        rfl
    · rintro H' ⟨sm, hD⟩
      refine ⟨D, _, rfl, .inl ⟨.of hD, fun l nl => q l _ (sm.trans (same_new nl)) ?_⟩⟩
      rw [upd_same, hl, List.take_length]
end
end Sea

set_option Elab.async false
set_option linter.all false
set_option maxRecDepth 100000
set_option maxHeartbeats 4000000
namespace Sea
open PySem PySem.Spec PyProof.Rows L2 LamX NdefX ClX Evl StX
/-! ### a, *b = a list -/
def gStar (K : PySem.W.Frag) (t : TGs) : TG := fun v σ H Q => ∃ (a : Addr) (x : V) (xs : List V), v = .ref a ∧ SqL K H a (x :: xs) ∧ ∀ p, H p = none → t [x, .ref p] σ (upd H p (.lst xs)) Q
/-- what a, *b takes from a list: the first item, a new list of the others -/
theorem star_items {prog : Program} {w : World} {A : Around} {E : Value → Shared → Prop} {s : Shared} {l : Addr} {u : Value} {us : List Value} {Q : List Value → Shared → Prop}
    (hh : A.handled = none) (hl : s.heap.IsList l (u :: us).toArray) (hz : us.length < sizeLine)
    (h : ∀ (h1 : Heap) (tk : Tok), (∀ b o, s.heap.get? b = some o → h1.get? b = some o) → Q [u, .ref h1.objs.size] { s with heap := h1.push { cls := .type "list", data := .seq us.toArray }, toks := tk }) :
    wpAny (model prog w) A (unpackItems (.ref l) 2 (some 1)) Q E s := by
  have below : l < s.heap.objs.size := match hl with | ⟨_, e, _⟩ => Heap.lt_size e
  have apart : l ≠ s.heap.objs.size := Nat.ne_of_lt below
  have can : wpAny (model prog w) A (notIterableAtAll (.ref l)) (fun b s' => b = false ∧ s' = s) E s := by
    unfold notIterableAtAll
    exact wpAny_bind (wpAny_specialOf hl.typeIs slot_list_iter.lookup (wpAny_pure ⟨rfl, rfl⟩))
  unfold unpackItems
  refine wpAny_bind (thn can fun b s' z => ?_)
  obtain ⟨rfl, rfl⟩ := z
  refine wpAny_bind (wpAny_holding (wpAny_pyIter_list hl ?_))
  refine wpAny_bind (wpAny_holding (PySem.W.kun_draw apart 1 0 _ _ ⟨_, Heap.get?_push_size _ rfl, rfl, rfl⟩ (hl.push _) (by simp) fun g it1 same1 => ?_))
  have lg : g.IsList l (u :: us).toArray := (hl.push _).extBut same1.extBut apart
  have old : ∀ b o, s'.heap.get? b = some o → b ≠ s'.heap.objs.size ∧ g.get? b = some o := fun b o e =>
    have n : b ≠ s'.heap.objs.size := Nat.ne_of_lt (Heap.lt_size e)
    ⟨n, same1.extBut b o n (Heap.get?_push_of_some _ e)⟩
  have itIn : s'.heap.objs.size < g.objs.size := match it1 with | ⟨_, e, _⟩ => Heap.lt_size e
  have W := Walks.list (prog := prog) (w := w) (A := A.in1) hh s'.heap.objs.size l apart (u :: us).toArray
  refine wpAny_bind (wpAny_holding (wpAny_collect_iter (s := { s' with heap := g }) (T := "list_iterator") (.inr (.inr (.inl rfl))) (PySem.W.kun_shift W (show 1 ≤ (u :: us).toArray.size by simp)).toS (fun j v st => st.1.typeIs) ⟨it1, lg⟩
    (fun b hb => ?_) (List.mem_cons_self ..) (fun z acc mv got => ?_) (by simp; omega)))
  · rcases List.mem_cons.mp hb with rfl | hb
    · exact itIn
    · rw [List.mem_singleton.mp hb]
      exact match lg with | ⟨_, e, _⟩ => Heap.lt_size e
  · obtain ⟨g2, ga, dr, tk, os2⟩ := z
    obtain ⟨kept, same2, same3, same4, same5⟩ := mv
    cases same2
    cases same3
    cases same4
    have ea : acc.toList = us := PySem.W.kun_acc (items := (u :: us).toArray) (k := 1) (by simp) got
    rw [ea]
    refine wpAny_bind (wpAny_newList (wpAny_pure ?_) (by simp; omega))
    have q := h g2 tk (fun b o e => kept b o (by simpa using (old b o e).1) (old b o e).2)
    simp
    exact q
section
variable {X : Cx} {pos : Pos}
theorem pgs_starN {x : Str} {px p : Pos} {es : List Expr} {t : TGs} (h : PGs X (.Name x px :: es) t) : PGs X (.Starred (.Name x px) p :: es) t := ⟨h.run⟩
theorem pg_star {es : List Expr} {k : Nat} {t : TGs} (hc : X.calm = true) (h : PGs X es t)
    (hn : (assignEach es X.env).length = 2 := by rfl) (hst : (assignEach es X.env).findIdx? (·.1) = some 1 := by rfl) : PG X (.Tuple es k pos) (gStar X.K t) := ⟨by
  rintro pins s σ H v u Q I r ⟨a, x, xs, rfl, hq, hw⟩
  cases r
  obtain ⟨its, rv, ⟨o, n, e1, e2, e3, e4⟩, hz⟩ := I.list hq
  cases rv with
  | cons r0 rs =>
    rw [PyProof.Rows.assign_Tuple]
    refine wpAny_bind (wpAny_standAt ?_)
    unfold unpack
    rw [hn, hst]
    refine wpAny_bind (wpAny_holding (star_items (I.ok.hd hc) ⟨o, e1, e2, n, e4⟩ (by rw [List.length_cons] at hz; rw [← rs.length]; omega) fun h1 tk keep => ?_))
    have I1 : Inv X pins σ H { s with heap := h1, toks := tk } := I.kept (t' := tk) keep
    have hp := I1.hok.fresh (Nat.le_refl _)
    refine h.run pins _ σ _ [x, .ref h1.objs.size] _ Q (I1.laid (o := .lst xs) (t' := tk) (fun b o e => Heap.get?_push_of_some _ e) (Nat.le_refl _) ⟨?_, _, 0, rs, Heap.get?_push_size _ rfl⟩) (.cons r0 (.cons rfl .nil)) (hw _ hp)
    rw [List.length_cons] at hz
    omega⟩
end
end Sea

set_option Elab.async false
set_option linter.all false
set_option maxRecDepth 100000
set_option maxHeartbeats 4000000
/-! texts: what the layer's lemmas on evaluation lack, no program in sight -/
namespace Sea
open PySem PySem.Spec PyProof.Rows L2 LamX NdefX ClX Evl StX
section
variable {K : PySem.W.Frag} {te ta tb : TE} {t : TT} {σ : L2.St} {H : Hp}
theorem given_all (n : Nat) (v : Nat → V) : given n (fun _ => true) v = (List.range n).map v := by
  unfold given
  rw [List.filter_eq_self.mpr fun _ _ => rfl]
/-- a comprehension over a text -/
theorem el_lcSt {z : Str} {j : Nat} {vs : List Nat} (f : Nat → Bool) (v : Nat → V) (h : Ev te σ H (.str z)) (hz : z.length ≤ 40000) (hw : ∀ x, wipe ((wipe σ vs).set j (some x)) vs = wipe σ vs)
    (ht : ∀ i c H1, Ex H H1 → z.cps[i]? = some c → EvT t ((wipe σ vs).set j (some (.str ⟨#[c]⟩))) H1 (f i)) (he : ∀ i c H1, Ex H H1 → z.cps[i]? = some c → f i = true → Ev tb ((wipe σ vs).set j (some (.str ⟨#[c]⟩))) H1 (v i)) :
    EvL (tLc (iStr te) (gName j) t tb vs) σ H (given z.cps.size f v) := fun H0 e Q q => h H0 e _ fun H1 e1 => ⟨z, rfl, fun Dl hD =>
  lc_it walk_str (Cw H1 f v Dl) ⟨hD, Ex.new hD, upd_same⟩ (fun _ _ _ _ => trivial) (fun i x G G' hi p y => by
    obtain ⟨rfl, c, hc, rfl⟩ := y
    exact ⟨hw _, cw_turn p (Nat.lt_of_lt_of_le hi (Nat.le_trans (show z.cps.size ≤ 40000 from hz) (by decide))) (ht i c H1 (e.trans e1) hc) (fun hf => he i c H1 (e.trans e1) hc hf)⟩) (fun H' p => q Dl H' (fresh_back e1 p.1) (e1.trans p.2.1) p.2.2)⟩
theorem ev_allL {bs : List Bool} (h : EvL te σ H (bs.map V.bl)) : Ev (tCB (rAll K) (tCons te tNil)) σ H (.bl (bs.all id)) := fun H1 e Q q =>
  h H1 e _ fun p H2 _ e2 hx => ⟨p, bs, rfl, sq_of hx, q H2 e2⟩
theorem ev_lenZ {z : Str} (h : Ev te σ H (.str z)) (hz : z.length ≤ 100000) : Ev (tCB (fun xs H Q => ∃ z, xs = [.str z] ∧ z.length ≤ sizeLine ∧ Q (.int z.length) H) (tCons te tNil)) σ H (.int (z.length : Int)) := fun H1 e Q q =>
  h H1 e _ fun H2 e2 => ⟨z, rfl, sz_of hz, q H2 e2⟩
theorem ev_inSign {c : Nat} {z : Str} (h : Ev ta σ H (.str ⟨#[c]⟩)) (g : Ev tb σ H (.str z)) : Ev (tOp (fun x y H Q => ∃ (c : Nat) (z : Str), x = .str ⟨#[c]⟩ ∧ y = .str z ∧ Q (.bl (decide (c ∈ z.cps.toList))) H) ta tb) σ H (.bl (decide (c ∈ z.cps.toList))) :=
  ev_op h g fun H1 _ Q q => ⟨c, z, rfl, rfl, q H1 (Ex.refl _)⟩
theorem ev_intS {z : Str} {n : Int} (h : Ev te σ H (.str z)) (hn : PySem.intText? z = some n) (hz : z.length ≤ 640) : Ev (tCB (fun xs H Q => ∃ a n, xs = [.str a] ∧ PySem.intText? a = some n ∧ a.length ≤ 640 ∧ Q (.int n) H) (tCons te tNil)) σ H (.int n) := fun H1 e Q q =>
  h H1 e _ fun H2 e2 => ⟨z, n, rfl, hn, hz, q H2 e2⟩
theorem ev_strI {i : Int} (h : Ev te σ H (.int i)) (hi : i.natAbs.log2 < 1920) : Ev (tCB (fun xs H Q => ∃ i, xs = [.int i] ∧ i.natAbs.log2 < 1920 ∧ Q (.str (toString i)) H) (tCons te tNil)) σ H (.str (toString i)) := fun H1 e Q q =>
  h H1 e _ fun H2 e2 => ⟨i, rfl, hi, q H2 e2⟩
end
section
variable {K : PySem.W.Frag} {te ta tb tl : TE} {t : TT} {tr : TA} {σ : L2.St} {H : Hp}
theorem el_lcTup {K : PySem.W.Frag} {σ : L2.St} {H : Hp} {a : Addr} {xs : List V} {tl te : TE} {t : TT} {j : Nat} {vs : List Nat} (f : Nat → Bool) (v : Nat → V) (h : Ev tl σ H (.ref a)) (hx : SqT K H a xs) (hz : xs.length ≤ 40000) (hw : ∀ x, wipe ((wipe σ vs).set j (some x)) vs = wipe σ vs)
    (ht : ∀ (i : Nat) (x : V) H1, Ex H H1 → xs[i]? = some x → EvT t ((wipe σ vs).set j (some x)) H1 (f i)) (he : ∀ (i : Nat) (x : V) H1, Ex H H1 → xs[i]? = some x → f i = true → Ev te ((wipe σ vs).set j (some x)) H1 (v i)) : EvL (tLc (iTup K tl) (gName j) t te vs) σ H (given xs.length f v) := by
  rintro H0 e Q q
  refine h H0 e _ fun H1 e1 => ?_
  have stays : ∀ {H2}, Ex H1 H2 → SqT K H2 a xs := fun e2 => ex_t (e.trans (e1.trans e2)) hx
  refine ⟨a, rfl, ⟨xs, stays (Ex.refl _)⟩, fun D new => ?_⟩
  refine lc_tup (xs := xs) (Cw H1 f v D) ⟨new, Ex.new new, upd_same⟩ (fun _ _ _ w => stays w.2.1) ?_ fun H2 w => q D H2 (fresh_back e1 w.1) (e1.trans w.2.1) w.2.2
  intro i x H2 at_ w
  have few := (List.getElem?_eq_some_iff.mp at_).1
  exact ⟨hw x, cw_turn w (by omega) (ht i x H1 (e.trans e1) at_) (he i x H1 (e.trans e1) at_)⟩
/-- a list that is walked, or a tuple -/
def iSeq (K : PySem.W.Frag) (te : TE) : TI := fun σ H R => iList K te σ H R ∨ iTup K te σ H R
theorem pi_seq {X : Cx} {tg l : Expr} (hl : PE X l tl) : PI X tg l (iSeq X.K tl) := ⟨fun pins s σ H R I h => h.elim ((pi_list hl).run pins s σ H R I) ((pi_tup hl).run pins s σ H R I)⟩
theorem el_lcSeq {a : Addr} {xs : List V} {j : Nat} {vs : List Nat} (f : Nat → Bool) (v : Nat → V) (h : Ev tl σ H (.ref a)) (hx : SqL K H a xs ∨ SqT K H a xs) (hz : xs.length ≤ 40000) (hw : ∀ x, wipe ((wipe σ vs).set j (some x)) vs = wipe σ vs)
    (ht : ∀ (i : Nat) (x : V) H1, Ex H H1 → xs[i]? = some x → EvT t ((wipe σ vs).set j (some x)) H1 (f i)) (he : ∀ (i : Nat) (x : V) H1, Ex H H1 → xs[i]? = some x → f i = true → Ev te ((wipe σ vs).set j (some x)) H1 (v i)) :
    EvL (tLc (iSeq K tl) (gName j) t te vs) σ H (given xs.length f v) := fun H1 e Q q => hx.elim (fun hx => .inl (el_lcL f v h hx hz hw ht he H1 e Q q)) (fun hx => .inr (el_lcTup f v h hx hz hw ht he H1 e Q q))
theorem eu_tupL {p : Addr} {xs : List V} (h : Ev te σ H (.ref p)) (hx : H p = some (.lst xs)) : EvU (tCB (fun xs H Q => ∃ p ys, xs = [.ref p] ∧ ((SqL K H p ys ∧ ∀ l, H l = none → Q (.ref l) (upd H l (.tup ys))) ∨ (SqT K H p ys ∧ Q (.ref p) H))) (tCons te tNil)) σ H xs := fun H1 e Q q =>
  h H1 e _ fun H2 e2 => ⟨p, xs, rfl, .inl ⟨sq_of (e2 _ _ (e _ _ hx)), fun l nl => q l _ (fresh_back e2 nl) (e2.trans (Ex.new nl)) upd_same⟩⟩
theorem et_isV {i : Nat} {v : V} (hs : σ[i]? = some (some v)) : EvT (tTest (tOp (fun x y H Q => y = .non ∧ Q (.bl (decide (x = .non))) H) (tVar i) (tC .non))) σ H (decide (v = .non)) := et_isN hs
theorem ea_star {xs ys : List V} (h : EvL tl σ H xs) (hr : EvA tr σ H ys) : EvA (tStar K tl tr) σ H (xs ++ ys) := fun H1 e Q q =>
  h H1 e _ fun p H2 _ e2 hx => ⟨p, xs, rfl, .inr (sq_of hx), hr H2 (e.trans e2) _ fun H3 e3 => q H3 (e2.trans e3)⟩
theorem ea_star1 {xs : List V} (h : EvL tl σ H xs) : EvA (tStar K tl tNil) σ H xs := by
  have z := ea_star (K := K) h (ea_nil (σ := σ) (H := H))
  rw [List.append_nil] at z
  exact z
theorem sum_le {ys : List Str} {m : Nat} (h : ∀ y ∈ ys, y.length ≤ m) : (ys.map (·.length)).sum ≤ ys.length * m := by
  induction ys with
  | nil => simp
  | cons y r ih =>
    rw [List.map_cons, List.sum_cons, List.length_cons, Nat.succ_mul]
    have h1 := h y (List.mem_cons_self ..)
    have h2 := ih fun z hz => h z (List.mem_cons_of_mem _ hz)
    omega
theorem ev_join {sp : Str} {ys : List Str} (h : Ev ta σ H (.str sp)) (g : EvL tb σ H (ys.map V.str)) (hz : (ys.map (·.length)).sum + ys.length * sp.length ≤ 16777216) :
    Ev (tM1 (fun x xs H Q => ∃ a p, ∃ ys : List Str, x = .str a ∧ xs = [.ref p] ∧ (SqL K H p (ys.map V.str) ∨ SqT K H p (ys.map V.str)) ∧ (ys.map (·.length)).sum + ys.length * a.length ≤ 16777216 ∧ Q (.str (Txt.join a ys)) H) ta tb) σ H (.str (Txt.join sp ys)) := fun H1 e Q q =>
  h H1 e _ fun H2 e2 => ⟨⟨sp, rfl⟩, g H2 (e.trans e2) _ fun p H3 _ e3 hx => ⟨sp, p, ys, rfl, rfl, .inl (sq_of hx), hz, q H3 (e2.trans e3)⟩⟩
/-- a split into a new list -/
theorem el_split {z sp : Str} (h : Ev ta σ H (.str z)) (g : Ev tb σ H (.str sp)) (hs : (sp.length == 0) = false) (hz : z.length ≤ 100000) :
    EvL (tM1 (fun x xs H Q => ∃ a b, x = .str a ∧ xs = [.str b] ∧ (b.length == 0) = false ∧ a.length + 2 ≤ sizeLine ∧ rNewStrs (Txt.split a b) H Q) ta tb) σ H ((Txt.split z sp).map V.str) := fun H1 e Q q =>
  h H1 e _ fun H2 e2 => ⟨⟨z, rfl⟩, g H2 (e.trans e2) _ fun H3 e3 => ⟨z, sp, rfl, rfl, hs, Nat.le_trans (Nat.add_le_add_right hz 2) (by decide), fun p hp => q p _ (fresh_back (e2.trans e3) hp) ((e2.trans e3).trans (Ex.new hp)) upd_same⟩⟩
end
theorem map_getD {α β : Type} (f : α → β) (d : α) (xs : List α) : (List.range xs.length).map (fun i => f (xs.getD i d)) = xs.map f := by
  refine List.ext_getElem? fun i => ?_
  rw [List.getElem?_map, List.getElem?_map]
  by_cases h : i < xs.length
  · rw [List.getElem?_range h, List.getElem?_eq_getElem h]
    show some (f (xs.getD i d)) = some (f xs[i])
    rw [List.getD_eq_getElem?_getD, List.getElem?_eq_getElem h]
    rfl
  · rw [List.getElem?_eq_none (by rw [List.length_range]; omega), List.getElem?_eq_none (by omega)]
    rfl
theorem map_at {α β : Type} {f : α → β} {xs : List α} {i : Nat} {y : β} (h : (xs.map f)[i]? = some y) : ∃ x, xs[i]? = some x ∧ y = f x := by
  rw [List.getElem?_map] at h
  cases e : xs[i]? with
  | none => rw [e] at h; cases h
  | some x => rw [e] at h; exact ⟨x, rfl, (Option.some.inj h).symm⟩
theorem el_is {te : TE} {σ : L2.St} {H : Hp} {xs ys : List V} (h : EvL te σ H xs) (e : xs = ys) : EvL te σ H ys := e ▸ h
theorem et_yes {σ : L2.St} {H : Hp} : EvT (fun _ H Q => Q true H) σ H true := fun H1 _ Q q => q H1 (Ex.refl _)
theorem sgn_eq (c d : Nat) : decide (V.str ⟨#[c]⟩ = V.str ⟨#[d]⟩) = decide (c = d) := by
  by_cases h : c = d
  · rw [h, decide_eq_true rfl, decide_eq_true rfl]
  · rw [decide_eq_false h, decide_eq_false fun e => h (by simpa using e)]
/-- a sign of a number -/
def digC (c : Nat) : Bool := decide (c ∈ ("0123456789" : Str).cps.toList)
theorem digC_iff {c : Nat} (h : digC c = true) : 48 ≤ c ∧ c ≤ 57 := by
  have m : c ∈ ("0123456789" : Str).cps.toList := of_decide_eq_true h
  have e : ("0123456789" : Str).cps.toList = [48, 49, 50, 51, 52, 53, 54, 55, 56, 57] := by decide +kernel
  rw [e] at m
  simp at m
  omega
/-- a word that is no number -/
def badW (z : Str) : Bool := decide (V.str z = V.str "") || (!(((List.range z.cps.size).map fun i => digC (z.cps.getD i 0)).all id) || (decide ((1 : Int) < (z.length : Int)) && decide (z.cps.getD 0 0 = 48)))
def valW (z : Str) : Int := (PySem.intText? z).getD 0
theorem badW_val {z : Str} (h : badW z = false) (hz : z.length ≤ 640) : PySem.intText? z = some (valW z) ∧ 0 ≤ valW z := by
  unfold badW at h
  rw [Bool.or_eq_false_iff, Bool.or_eq_false_iff, Bool.not_eq_false'] at h
  obtain ⟨h1, h2, _⟩ := h
  have dig : NumText.AllDigits z.cps.toList := fun c hc => by
    obtain ⟨i, hi, rfl⟩ := List.mem_iff_getElem.mp hc
    rw [Array.length_toList] at hi
    have := List.all_eq_true.mp h2 (digC (z.cps.getD i 0)) (List.mem_map.mpr ⟨i, List.mem_range.mpr hi, rfl⟩)
    have := digC_iff this
    simpa [Array.getD, hi] using this
  have ne : z.cps.toList ≠ [] := fun e => by
    have : z = "" := by
      cases z with
      | mk a =>
        have : a = #[] := by simpa using e
        rw [this]
        rfl
    rw [this] at h1
    simp at h1
  have e := intText_digits dig ne (Nat.le_trans hz (by decide))
  unfold valW
  rw [e]
  exact ⟨rfl, Int.natCast_nonneg _⟩
def numsW (ws : List Str) : Option (List Int) := if ws.all (fun z => !badW z) = true then some (ws.map valW) else none
end Sea

set_option Elab.async false
set_option linter.all false
set_option maxRecDepth 100000
set_option maxHeartbeats 4000000
namespace Sea
open PySem PySem.Spec PyProof.Rows L2 LamX NdefX ClX Evl StX
theorem scVC : FnScope ["count", "smallest", "largest"] ["count", "smallest", "largest"] (defScope sVC) := ⟨rfl, rfl, rfl, by decide +kernel, rfl, by decide +kernel, by decide +kernel⟩
/-- InvalidCount as the code raises it -/
structure TNc (K : PySem.W.Frag) (mg : Str → Option Value) (cN : Addr) : Prop where
  qN : PySem.W.excIn K cN [.type "ValueError", .type "Exception", .type "BaseException", .type "object"] "ValueError.__new__" = true
  gN : mg "InvalidCount" = some (.ref cN)
  kN : PySem.W.keepIn K (.ref cN) = true
  sN : PySem.W.subIn K (.ref cN) (.type "BaseException") = some true
  yN : PySem.W.typeIn K (.ref cN) = some (.type "type")
def spVC (cN : Addr) : Sp := fun vs H Q E => ∃ c x l : Int, vs = [.int c, .int x, .int l] ∧ (x ≤ c ∧ c ≤ l → ∀ H', Same H H' → Q .non H') ∧ (¬ (x ≤ c ∧ c ≤ l) → ∀ H', Same H H' → E (.ref cN) none H')
section
variable {P : Program} {w : World} {K : PySem.W.Frag} {mg : Str → Option Value} {base : Heap} {cN : Addr}
theorem ok_vc {f : Addr} {fd : FuncData} {k : Nat} (F : Fun K "validate_count" "validate_count" sVC f fd) (T : TNc K mg cN) : FnOk P w K mg base (L2.CX P w) (k + 1) f fd ["count", "smallest", "largest"] (spVC cN) := by
  refine F.okX scVC (fun vs H Q E h => ?_) (fun cdv A outer s H vs Q E hr h => ?_)
  · obtain ⟨c, x, l, rfl, _⟩ := h
    rfl
  · obtain ⟨c, x, l, rfl, q1, q2⟩ := h
    refine ⟨_, pss_one (ps_if (pt_not (pt_chain op_le op_le (pv 1) (pv 0) (pv 2))) (pss_one (ps_raise rfl (takes_of rfl rfl rfl rfl) (pmk_own PySem.F.excBase_ValueError T.qN T.gN T.kN (raises_own T.sN T.yN) (by rfl)))) pss_nil), ?_⟩
    refine s_when (b := !(decide (x ≤ c) && decide (c ≤ l))) (et_not (et_test (ev_chainI (p := fun i j => decide (i ≤ j)) (q := fun i j => decide (i ≤ j)) (ev_var rfl) (ev_var rfl) (ev_var rfl)))) (fun hb H1 e1 => q2 (fun hc => ?_) H1 e1) (fun hb H1 e1 => q1 ?_ H1 e1)
    · rw [decide_eq_true hc.1, decide_eq_true hc.2] at hb
      cases hb
    · have : (decide (x ≤ c) && decide (c ≤ l)) = true := by
        cases h : (decide (x ≤ c) && decide (c ≤ l)) with
        | true => rfl
        | false =>
          rw [h] at hb
          cases hb
      rw [Bool.and_eq_true] at this
      exact ⟨of_decide_eq_true this.1, of_decide_eq_true this.2⟩
end
end Sea

set_option Elab.async false
set_option linter.all false
set_option maxRecDepth 100000
set_option maxHeartbeats 4000000
/-! the simulation in plain words, for any buyer -/
namespace Sea
open PySem PySem.Spec PyProof.Rows L2 LamX NdefX ClX Evl StX
/-- a buyer: its first memory, its choice (the pass, the memory), how a memory ages -/
structure By where
  beg : List Int
  ch : List Int → Int × List Int
  gr : List Int → List Int
  tag : List Int := []
structure Par where
  ln : Int
  ds : List Int
  L : List (Int × Int)
  b : By
abbrev Q3 := Int × List Int × Int
def max0 (k : Int) : Int := if k > 0 then k else 0
def goes (g : Par) (d : Nat) : Bool := inV (.int ((d : Int).fmod g.ln)) (g.ds.map V.int)
def pas (L : List (Int × Int)) (i : Int) : Int × Int := (atI L i).getD (1, 1)
/-- ahead of a day's ageing -/
def pre (g : Par) (d : Nat) (s : Q3) : Q3 := if s.1 = 0 ∧ goes g d = true then ((pas g.L (g.b.ch s.2.1).1).1, (g.b.ch s.2.1).2, s.2.2 + (pas g.L (g.b.ch s.2.1).1).2) else s
def stp (g : Par) (d : Nat) (s : Q3) : Q3 := (max0 ((pre g d s).1 - 1), g.b.gr (pre g d s).2.1, (pre g d s).2.2)
def sim (g : Par) : Nat → Q3
  | 0 => (0, g.b.beg, 0)
  | d + 1 => stp g d (sim g d)
def key (g : Par) (d : Nat) : NK := ((d : Int).fmod g.ln, (sim g d).1, (sim g d).2.1)
def InP (L : List (Int × Int)) (i : Int) : Prop := 0 ≤ i ∧ i < L.length
theorem InP.at {L : List (Int × Int)} {i : Int} (h : InP L i) : ∃ x, atI L i = some x ∧ x ∈ L := by
  obtain ⟨h0, h1⟩ := h
  obtain ⟨n, rfl⟩ := Int.eq_ofNat_of_zero_le h0
  have hn : n < L.length := by omega
  exact ⟨L[n], at_nat hn (List.getElem?_eq_getElem hn), List.getElem_mem hn⟩
theorem InP.pas {L : List (Int × Int)} {i : Int} (h : InP L i) : atI L i = some (Sea.pas L i) ∧ Sea.pas L i ∈ L := by
  obtain ⟨x, e, hx⟩ := h.at
  unfold Sea.pas
  rw [e]
  exact ⟨rfl, hx⟩
def PassOk (z : Int × Int) : Prop := 1 ≤ z.1 ∧ z.1 ≤ 28 ∧ 1 ≤ z.2 ∧ z.2 ≤ 1000000
/-- what holds of all memories -/
structure By.Ok (b : By) (L : List (Int × Int)) (I : List Int → Prop) : Prop where
  beg : I b.beg
  ch : ∀ m, I m → InP L (b.ch m).1 ∧ I (b.gr (b.ch m).2)
  gr : ∀ m, I m → I (b.gr m)
  len : ∀ m, I m → m.length ≤ 800 ∧ (b.ch m).2.length ≤ 800
structure Par.Ok (g : Par) (I : List Int → Prop) : Prop where
  l1 : 1 ≤ g.ln
  l2 : g.ln ≤ 14
  ok : ∀ z ∈ g.L, PassOk z
  b : g.b.Ok g.L I
theorem max0_le {k n : Int} (h : k ≤ n) (h0 : 0 ≤ n) : 0 ≤ max0 k ∧ max0 k ≤ n := by
  unfold max0
  split <;> omega
theorem pre_yes {g : Par} {d : Nat} {s : Q3} (h : s.1 = 0 ∧ goes g d = true) : pre g d s = ((pas g.L (g.b.ch s.2.1).1).1, (g.b.ch s.2.1).2, s.2.2 + (pas g.L (g.b.ch s.2.1).1).2) := if_pos h
theorem pre_no {g : Par} {d : Nat} {s : Q3} (h : ¬ (s.1 = 0 ∧ goes g d = true)) : pre g d s = s := if_neg h
theorem sim_ok {g : Par} {I : List Int → Prop} (o : g.Ok I) : ∀ d, I (sim g d).2.1 ∧ 0 ≤ (sim g d).1 ∧ (sim g d).1 ≤ 27
  | 0 => ⟨o.b.beg, show (0 : Int) ≤ 0 by decide, show (0 : Int) ≤ 27 by decide⟩
  | d + 1 => by
    obtain ⟨h1, h2, h3⟩ := sim_ok o d
    show I (stp g d (sim g d)).2.1 ∧ 0 ≤ (stp g d (sim g d)).1 ∧ (stp g d (sim g d)).1 ≤ 27
    unfold stp
    by_cases c : (sim g d).1 = 0 ∧ goes g d = true
    · rw [pre_yes c]
      obtain ⟨i1, i2⟩ := o.b.ch _ h1
      have p := o.ok _ i1.pas.2
      exact ⟨i2, max0_le (by have := p.2.1; omega) (by decide)⟩
    · rw [pre_no c]
      exact ⟨o.b.gr _ h1, max0_le (by omega) (by decide)⟩
theorem pre_len {g : Par} {I : List Int → Prop} (o : g.Ok I) (d : Nat) : (pre g d (sim g d)).2.1.length ≤ 800 := by
  have h := (sim_ok o d).1
  by_cases c : (sim g d).1 = 0 ∧ goes g d = true
  · rw [pre_yes c]
    exact (o.b.len _ h).2
  · rw [pre_no c]
    exact (o.b.len _ h).1
theorem stp_up {g : Par} {I : List Int → Prop} (o : g.Ok I) (d : Nat) : (sim g d).2.2 ≤ (sim g (d + 1)).2.2 ∧ (sim g (d + 1)).2.2 ≤ (sim g d).2.2 + 1000000 := by
  show (sim g d).2.2 ≤ (pre g d (sim g d)).2.2 ∧ (pre g d (sim g d)).2.2 ≤ (sim g d).2.2 + 1000000
  by_cases c : (sim g d).1 = 0 ∧ goes g d = true
  · rw [pre_yes c]
    have p := o.ok _ (o.b.ch _ (sim_ok o d).1).1.pas.2
    have p3 := p.2.2.1
    have p4 := p.2.2.2
    exact ⟨by show _ ≤ (sim g d).2.2 + _; omega, by show (sim g d).2.2 + _ ≤ _; omega⟩
  · rw [pre_no c]
    omega
theorem sim_up {g : Par} {I : List Int → Prop} (o : g.Ok I) (d : Nat) : ∀ n, (sim g d).2.2 ≤ (sim g (d + n)).2.2
  | 0 => Int.le_refl _
  | n + 1 => Int.le_trans (sim_up o d n) (stp_up o (d + n)).1
/-- no key of the first d days stands twice -/
def Fresh (g : Par) (d : Nat) : Prop := ∀ i j, i < j → j < d → key g i ≠ key g j
def IsRep (g : Par) (d j : Nat) : Prop := Fresh g d ∧ j < d ∧ key g j = key g d
/-! ### behind the first repetition -/
theorem goes_eq {g : Par} {i j : Nat} (h : (i : Int).fmod g.ln = (j : Int).fmod g.ln) : goes g i = goes g j := by
  unfold goes
  rw [h]
theorem mod_succ {i j : Nat} {n : Int} (h0 : 0 < n) (h : (i : Int).fmod n = (j : Int).fmod n) : ((i + 1 : Nat) : Int).fmod n = ((j + 1 : Nat) : Int).fmod n := by
  have e : ∀ k : Nat, ((k + 1 : Nat) : Int).fmod n = ((k : Int).fmod n + 1).fmod n := fun k => by
    rw [show ((k + 1 : Nat) : Int) = (k : Int) + 1 by omega, Int.fmod_eq_emod_of_nonneg _ (Int.le_of_lt h0), Int.fmod_eq_emod_of_nonneg _ (Int.le_of_lt h0), Int.fmod_eq_emod_of_nonneg _ (Int.le_of_lt h0), Int.emod_add_emod]
  rw [e i, e j, h]
/-- like days go on alike; what they spend more is the same -/
theorem key_next {g : Par} {I : List Int → Prop} (o : g.Ok I) {i j : Nat} (h : key g i = key g j) : key g (i + 1) = key g (j + 1) ∧ (sim g (i + 1)).2.2 - (sim g i).2.2 = (sim g (j + 1)).2.2 - (sim g j).2.2 := by
  have l1 := o.l1
  injection h with e1 h
  injection h with e2 e3
  have eg := goes_eq e1
  have a : ∀ k, sim g (k + 1) = stp g k (sim g k) := fun _ => rfl
  unfold key
  rw [a i, a j]
  unfold stp
  by_cases c : (sim g i).1 = 0 ∧ goes g i = true
  · have c' : (sim g j).1 = 0 ∧ goes g j = true := by rw [← e2, ← eg]; exact c
    rw [pre_yes c, pre_yes c', e3, mod_succ (by omega) e1]
    exact ⟨rfl, by show (sim g i).2.2 + _ - (sim g i).2.2 = (sim g j).2.2 + _ - (sim g j).2.2; omega⟩
  · have c' : ¬ ((sim g j).1 = 0 ∧ goes g j = true) := by rw [← e2, ← eg]; exact c
    rw [pre_no c, pre_no c', e2, e3, mod_succ (by omega) e1]
    exact ⟨rfl, by show (sim g i).2.2 - (sim g i).2.2 = (sim g j).2.2 - (sim g j).2.2; omega⟩
theorem key_far {g : Par} {I : List Int → Prop} (o : g.Ok I) {i j : Nat} (h : key g i = key g j) : ∀ n, key g (i + n) = key g (j + n) ∧ (sim g (i + n)).2.2 - (sim g i).2.2 = (sim g (j + n)).2.2 - (sim g j).2.2
  | 0 => ⟨h, by show (sim g i).2.2 - _ = (sim g j).2.2 - _; omega⟩
  | n + 1 => by
    obtain ⟨k1, k2⟩ := key_far o h n
    obtain ⟨k3, k4⟩ := key_next o k1
    exact ⟨k3, by show (sim g (i + n + 1)).2.2 - _ = (sim g (j + n + 1)).2.2 - _; omega⟩
end Sea

set_option Elab.async false
set_option linter.all false
set_option maxRecDepth 100000
set_option maxHeartbeats 4000000
/-! a buyer of any of the classes, as Spending takes it -/
namespace Sea
open PySem PySem.Spec PyProof.Rows L2 LamX NdefX ClX Evl StX
/-- all that stood is kept but a -/
def KA (a : Addr) (H H' : Hp) : Prop := ∀ b o, H b = some o → b ≠ a → H' b = some o
/-- «the buyer at b has the passes L and does what .. says» -/
abbrev BuyP := Hp → Addr → List (Int × Int) → By → Prop
def spBegK (K : PySem.W.Frag) (B : BuyP) : Sp := fun vs H Q _ => ∃ (a : Addr) (L : List (Int × Int)) (b : By), vs = [.ref a] ∧ B H a L b ∧ ∀ v H', Same H H' → TiA K H' v b.beg → Q v H'
def spChK (K : PySem.W.Frag) (B : BuyP) (I : By → List Int → Prop) : Sp := fun vs H Q _ => ∃ (a : Addr) (L : List (Int × Int)) (b : By) (v : V) (m : List Int), vs = [.ref a, v] ∧ B H a L b ∧ L.length ≤ 1000 ∧ TiA K H v m ∧ I b m ∧ b.Ok L (I b) ∧
  ∀ (r : Addr) (v' : V) H', Same H H' → SqT K H' r [.int (b.ch m).1, v'] → TiA K H' v' (b.ch m).2 → Q (.ref r) H'
def spGrK (K : PySem.W.Frag) (B : BuyP) : Sp := fun vs H Q _ => ∃ (a : Addr) (L : List (Int × Int)) (b : By) (v : V) (m : List Int), vs = [.ref a, v] ∧ B H a L b ∧ L.length ≤ 1000 ∧ TiA K H v m ∧ m.length ≤ 900 ∧ ∀ (v' : V) H', Same H H' → TiA K H' v' (b.gr m) → Q v' H'
structure Kind (P : Program) (w : World) (K : PySem.W.Frag) (mg : Str → Option Value) (base : Heap) (C D : Addr) where
  B : BuyP
  I : By → List Int → Prop
  pT : Addr
  fT : Addr
  fB : Addr
  fC : Addr
  fG : Addr
  dT : FuncData
  dB : FuncData
  dC : FuncData
  dG : FuncData
  cl : Cls K D
  prT : PropOf K D "tariff" pT fT
  oT : FnOk P w K mg base CX0 1 fT dT ["self"] (getSp D "offer")
  bT : Binds K dT ["self"] []
  mB : Meth K D "beginning" fB
  oB : FnOk P w K mg base CX0 3 fB dB ["self"] (spBegK K B)
  bB : Binds K dB ["self"] []
  mC : Meth K D "choose" fC
  oC : FnOk P w K mg base CX0 3 fC dC ["self", "memory"] (spChK K B I)
  bC : Binds K dC ["self", "memory"] []
  mG : Meth K D "grow_older" fG
  oG : FnOk P w K mg base CX0 3 fG dG ["self", "memory"] (spGrK K B)
  bG : Binds K dG ["self", "memory"] []
  at_ : ∀ {H a L b}, B H a L b → ∃ dx fs t p, H a = some (.ins D dx fs) ∧ fs ≠ [] ∧ fs.lookup ("offer" : Str) = some (V.ref t) ∧ fs.lookup ("beginning" : Str) = none ∧ fs.lookup ("choose" : Str) = none ∧ fs.lookup ("grow_older" : Str) = none ∧ Tar K C H t p L
  move : ∀ {H H' a L b z S dx}, B H a L b → H z = some (.ins S dx []) → KA z H H' → B H' a L b
  same : ∀ {H H' a L b}, B H a L b → Same H H' → B H' a L b
end Sea

set_option Elab.async false
set_option linter.all false
set_option maxRecDepth 100000
set_option maxHeartbeats 4000000
namespace Sea
open PySem PySem.Spec PyProof.Rows L2 LamX NdefX ClX Evl StX
abbrev NSp : List Str := ["self", "buyer", "travel", "day", "left", "memory", "seen", "total", "index", "price"]
theorem scSpI : FnScope NSp ["self", "buyer", "travel"] (defScope sSpI) := ⟨rfl, rfl, rfl, by decide +kernel, rfl, by decide +kernel, by decide +kernel⟩
/-- (e).f = v as one of several targets -/
def gAt (K : PySem.W.Frag) (ta : TE) (f : Str) : TG := fun v σ H Q => ta σ H fun x H1 => ∃ a C dx fs, x = .ref a ∧ H1 a = some (.ins C dx fs) ∧ Cls K C ∧ NoAttr K C f ∧ fs.length < 1000 ∧ Q σ (upd H1 a (.ins C dx (putF f v fs)))
theorem pg_at {X : Cx} {o : Expr} {ta : TE} {f : Str} {pos : Pos} (ho : PE X o ta) : PG X (.Attribute o f pos) (gAt X.K ta f) := by
  refine ⟨fun pins s σ H v u Q I r h => ?_⟩
  rw [assign_Attribute]
  refine wpAny_bind (wpAny_holding (thn (ho.run pins s σ H _ I h) fun ov s1 ⟨x, H1, I1, rx, a, C, dx, fs, ex, ea, c, n, l, q⟩ => ?_))
  subst ex
  obtain rfl : ov = Value.ref a := rx
  refine wpAny_bind (wpAny_standAt (wpAny_bind (wpAny_holding (setattr_ok I1 ea c n l r fun s3 I3 => ?_))))
  exact wpAny_release ⟨σ, _, I3, q⟩
theorem ev_int1 {te : TE} {σ : L2.St} {H : Hp} {n : Int} (h : Ev te σ H (.int n)) : Ev (tCB (fun xs H Q => (∃ n, xs = [V.int n] ∧ Q (.int n) H) ∨ ∃ b : Bool, xs = [V.bl b] ∧ Q (.int (if b then 1 else 0)) H) (tCons te tNil)) σ H (.int n) := fun H1 e Q q => h H1 e _ fun H2 e2 => .inl ⟨n, rfl, q H2 e2⟩
/-- the class Spending -/
structure TSg (K : PySem.W.Frag) (mg : Str → Option Value) (S : Addr) : Prop where
  cl : Cls K S
  nT : NoAttr K S "totals"
  nB : NoAttr K S "bought"
  nS : NoAttr K S "start"
  nP : NoAttr K S "period"
  nG : NoAttr K S "gain"
  gS : mg "Spending" = some (.ref S)
  mI : mg "int" = none
  mX : mg "max" = none
/-- its fields at the end -/
abbrev spF (tl bd : Addr) (a b c : Int) : List (Str × V) := putF "gain" (.int c) (putF "period" (.int b) (putF "start" (.int a) (putF "bought" (.ref bd) (putF "totals" (.ref tl) []))))
end Sea

set_option Elab.async false
set_option linter.all false
set_option maxRecDepth 100000
set_option maxHeartbeats 4000000
/-! the loop of Spending: its states -/
namespace Sea
open PySem PySem.Spec PyProof.Rows L2 LamX NdefX ClX Evl StX
theorem KA.same {a : Addr} {H H1 H2 : Hp} (k : KA a H H1) (s : Same H1 H2) : KA a H H2 := fun b o e n => s _ _ (k b o e n)
theorem KA.put {a z : Addr} {H H1 : Hp} {o : HO} (k : KA a H H1) (n : H z = none ∨ z = a) : KA a H (upd H1 z o) := fun b u e nb => by
  rw [upd_ne ?_]
  · exact k b u e nb
  · rintro rfl
    rcases n with n | n
    · rw [e] at n
      cases n
    · exact nb n
section
variable {K : PySem.W.Frag} {C D S CV : Addr} {H H' : Hp} {a dx : Addr}
theorem KA.tk (k : KA a H H') (ha : H a = some (.ins S dx [])) : TK K H H' := .but (fun b => b = a) (fun b o e n => k b o e n) fun b xs z => by
  rw [z]
  exact Rd.ins_no ha
theorem ins_apart {b C' dx' : Addr} {fs : List (Str × V)} (ha : H a = some (.ins S dx [])) (hb : H b = some (.ins C' dx' fs)) (n : fs ≠ []) : b ≠ a := by
  rintro rfl
  rw [ha] at hb
  injection hb with hb
  injection hb with _ _ hb
  exact n hb.symm
theorem KA.tar {t p : Addr} {L : List (Int × Int)} (k : KA a H H') (ha : H a = some (.ins S dx [])) (h : Tar K C H t p L) : Tar K C H' t p L := by
  obtain ⟨⟨d1, h1⟩, h2⟩ := h
  exact ⟨⟨d1, k _ _ h1 (ins_apart ha h1 (by simp))⟩, h2.tk (k.tk ha)⟩
theorem KA.tv {b : Addr} {ln : Int} {d o : V} {ds os : List Int} (k : KA a H H') (ha : H a = some (.ins S dx [])) (h : Tv K CV H b ln d o ds os) : Tv K CV H' b ln d o ds os := by
  obtain ⟨⟨d1, h1⟩, h2, h3⟩ := h
  exact ⟨⟨d1, k _ _ h1 (ins_apart ha h1 fun z => by have : (tvF ln d o).length = 3 := rfl; rw [z] at this; cases this)⟩, h2.tk (k.tk ha), h3.tk (k.tk ha)⟩
end
theorem tk_lst {K : PySem.W.Frag} {H : Hp} {z : Addr} {xs : List V} {o : HO} (e : H z = some (.lst xs)) : TK K H (upd H z o) := .but (fun b => b = z) (fun b u q n => by rw [upd_ne n]; exact q) fun b ys q => by
  rw [q]
  exact Rd.lst_no e
theorem tk_ins {K : PySem.W.Frag} {H : Hp} {z C dx : Addr} {fs : List (Str × V)} {o : HO} (e : H z = some (.ins C dx fs)) : TK K H (upd H z o) := .but (fun b => b = z) (fun b u q n => by rw [upd_ne n]; exact q) fun b ys q => by
  rw [q]
  exact Rd.ins_no e
theorem tk_dk {K : PySem.W.Frag} {H : Hp} {z : Addr} {kvs : List (Key × V)} {o : HO} (e : H z = some (.dK kvs)) : TK K H (upd H z o) := .but (fun b => b = z) (fun b u q n => by rw [upd_ne n]; exact q) fun b ys q => by
  rw [q]
  rintro (h | ⟨o, h⟩)
  · rw [e] at h
    cases h
  · rw [e] at h
    cases h
theorem tk_nd {P : Program} {w : World} {K : PySem.W.Frag} {H : Hp} {z : Addr} {ks : List NE} {o : HO} (e : H z = some (NdO P w z ks)) : TK K H (upd H z o) := .but (fun b => b = z) (fun b u q n => by rw [upd_ne n]; exact q) fun b ys q => by
  rw [q]
  exact nd_no (K := K) e ys
/-! ### readings -/
theorem eqv_nil (os : List Int) : PyData.eqv (.tuple (os.map PyData.int)) (.tuple []) = decide (os = []) := by
  cases os with
  | nil => rfl
  | cons a r => rfl
theorem ints_shT (ns : List Int) : SeqAt.shaped (.tuple (ns.map PyData.int)) = true := ints_sh ns
section
variable {K : PySem.W.Frag} {σ : L2.St} {H : Hp} {C : Addr}
theorem ev_prop {i : Nat} {a dx : Addr} {fs : List (Str × V)} {f : Str} {v : V} (hs : σ[i]? = some (some (.ref a))) (ha : H a = some (.ins C dx fs)) (hf : fs.lookup f = some v) : Ev (tProp C (getSp C f) [] E0 (tVar i)) σ H v := fun H1 e Q q =>
  ⟨_, hs, a, dx, fs, rfl, e _ _ ha, a, dx, fs, v, rfl, e _ _ ha, hf, q H1 (Ex.refl _)⟩
theorem tv_get {a : Addr} {ln : Int} {d o v : V} {ds os : List Int} {fn : Str} {i : Nat} (hs : σ[i]? = some (some (.ref a))) (t : Tv K C H a ln d o ds os) (hl : (tvF ln d o).lookup fn = some v) : Ev (tProp C (getSp C fn) [] E0 (tVar i)) σ H v := by
  obtain ⟨⟨dx, ha⟩, _⟩ := t
  exact ev_prop hs ha hl
end
abbrev tInt (te : TE) : TE := tCB (fun xs H Q => (∃ n, xs = [V.int n] ∧ Q (.int n) H) ∨ ∃ b : Bool, xs = [V.bl b] ∧ Q (.int (if b then 1 else 0)) H) (tCons te tNil)
section
variable {K : PySem.W.Frag} {σ : L2.St} {H : Hp} {CV tv : Addr} {dv ov : V} {os : List Int} {g : Par}
/-- int(day) % travel.round_length -/
theorem mod_run {d : Nat} (o : 1 ≤ g.ln) (h2 : σ[2]? = some (some (.ref tv))) (h3 : σ[3]? = some (some (.int d))) (ht : Tv K CV H tv g.ln dv ov g.ds os) : Ev (tOp (rI (fun _ j => j ≠ 0) fun i j => .int (i.fmod j)) (tInt (tVar 3)) (tProp CV (getSp CV "size") [] E0 (tVar 2))) σ H (.int ((d : Int).fmod g.ln)) :=
  ev_op (ev_int1 (ev_var h3)) (tv_get h2 ht (tvF_size ..)) (rv_I (C := fun _ j => j ≠ 0) (g := fun i j => .int (i.fmod j)) (i := (d : Int)) (j := g.ln) (by omega))
theorem key_run {d : Nat} {l : Int} {vm : V} {m : List Int} (o : 1 ≤ g.ln) (h2 : σ[2]? = some (some (.ref tv))) (h3 : σ[3]? = some (some (.int d))) (h4 : σ[4]? = some (some (.int l))) (h5 : σ[5]? = some (some vm)) (ht : Tv K CV H tv g.ln dv ov g.ds os) (hm : TiA K H vm m) :
    EvD (tTup (tCons (tOp (rI (fun _ j => j ≠ 0) fun i j => .int (i.fmod j)) (tInt (tVar 3)) (tProp CV (getSp CV "size") [] E0 (tVar 2))) (tCons (tVar 4) (tCons (tVar 5) tNil)))) σ H fun v H' => KeyAt K H' v ((d : Int).fmod g.ln, l, m) := fun H1 e Q q =>
  mod_run o h2 h3 ht H1 e _ fun H2 e2 => by
    obtain ⟨pm, rfl, hm⟩ := hm
    refine ⟨_, h4, _, h5, Nat.le_of_lt (small1000 (show 3 ≤ 1000 by decide)), fun r nr => q (.ref r) _ (e2.trans (same_new nr)) ⟨r, pm, rfl, .of upd_same, ?_⟩⟩
    exact (TK.new nr) _ _ (ex_t (e.trans e2) hm)
end
/-! ### the dict of the days that were seen -/
def SeenIs (g : Par) (d : Nat) (ks : List NE) : Prop := ks.map (fun p => (p.1, p.2.2)) = (List.range d).map fun k => (key g k, (k : Int))
theorem fnd_map (ks : List NE) (k : NK) : fnd ks k = ((ks.map fun p => (p.1, p.2.2)).find? fun p => decide (p.1 = k)).map (·.2) := by
  unfold fnd
  induction ks with
  | nil => rfl
  | cons p r ih =>
    rw [List.map_cons, List.find?_cons, List.find?_cons]
    by_cases e : p.1 = k
    · rw [decide_eq_true e]
      rfl
    · rw [decide_eq_false e]
      exact ih
theorem SeenIs.len {g : Par} {d : Nat} {ks : List NE} (h : SeenIs g d ks) : ks.length = d := by
  have := congrArg List.length h
  rw [List.length_map, List.length_map, List.length_range] at this
  exact this
theorem SeenIs.some {g : Par} {d : Nat} {ks : List NE} {k : NK} {n : Int} (h : SeenIs g d ks) (e : fnd ks k = some n) : ∃ j, j < d ∧ n = (j : Int) ∧ key g j = k := by
  rw [fnd_map, show ks.map (fun p => (p.1, p.2.2)) = _ from h] at e
  obtain ⟨p, hp, rfl⟩ := Option.map_eq_some_iff.mp e
  have h1 := List.find?_some hp
  obtain ⟨j, hj, rfl⟩ := List.mem_map.mp (List.mem_of_find?_eq_some hp)
  exact ⟨j, List.mem_range.mp hj, rfl, of_decide_eq_true h1⟩
theorem SeenIs.none {g : Par} {d : Nat} {ks : List NE} {k : NK} (h : SeenIs g d ks) (e : fnd ks k = none) : ∀ j, j < d → key g j ≠ k := fun j hj z => by
  rw [fnd_map, show ks.map (fun p => (p.1, p.2.2)) = _ from h, Option.map_eq_none_iff, List.find?_eq_none] at e
  exact e (key g j, (j : Int)) (List.mem_map.mpr ⟨j, List.mem_range.mpr hj, rfl⟩) (decide_eq_true z)
theorem SeenIs.snoc {g : Par} {d : Nat} {ks : List NE} {b : Addr} (h : SeenIs g d ks) : SeenIs g (d + 1) (ks ++ [(key g d, b, (d : Int))]) := by
  unfold SeenIs at *
  rw [List.map_append, h, List.range_succ, List.map_append]
  rfl
theorem Fresh.snoc {g : Par} {d : Nat} (h : Fresh g d) (n : ∀ j, j < d → key g j ≠ key g d) : Fresh g (d + 1) := fun i j hi hj => by
  by_cases e : j < d
  · exact h i j hi e
  · obtain rfl : j = d := by omega
    exact n i hi
/-! ### totals -/
def tots (g : Par) (d : Nat) : List V := (List.range (d + 1)).map fun k => V.int (sim g k).2.2
theorem tots_len (g : Par) (d : Nat) : (tots g d).length = d + 1 := by
  unfold tots
  rw [List.length_map, List.length_range]
theorem tots_at (g : Par) {d k : Nat} (h : k ≤ d) : atI (tots g d) (k : Int) = some (.int (sim g k).2.2) := by
  refine at_nat (by rw [tots_len]; omega) ?_
  unfold tots
  rw [List.getElem?_map, List.getElem?_range (by omega)]
  rfl
theorem tots_last (g : Par) (d : Nat) : atI (tots g d) (-1) = some (.int (sim g d).2.2) := by
  unfold atI
  rw [tots_len]
  have e : ixN (d + 1) (-1) = some d := by
    unfold ixN
    rw [if_neg (by decide), if_pos (by omega)]
    congr 1
    omega
  rw [e]
  show (tots g d)[d]? = _
  unfold tots
  rw [List.getElem?_map, List.getElem?_range (by omega)]
  rfl
theorem tots_snoc (g : Par) (d : Nat) : tots g (d + 1) = tots g d ++ [.int (sim g (d + 1)).2.2] := by
  unfold tots
  rw [List.range_succ, List.map_append]
  rfl
/-- what is bought on a day -/
def bat (g : Par) (d : Nat) : Option Int := if (sim g d).1 = 0 ∧ goes g d = true then some (g.b.ch (sim g d).2.1).1 else none
def Bought (g : Par) (d : Nat) (kvs : List (Key × V)) : Prop := ∀ k : Nat, valV kvs (.inl (k : Int)) = if k < d then (bat g k).map V.int else none
theorem Bought.none {g : Par} {d : Nat} {kvs : List (Key × V)} (h : Bought g d kvs) (n : bat g d = Option.none) : Bought g (d + 1) kvs := fun k => by
  rw [h k]
  by_cases e : k < d
  · rw [if_pos e, if_pos (by omega)]
  · rw [if_neg e]
    by_cases e2 : k < d + 1
    · obtain rfl : k = d := by omega
      rw [if_pos e2, n]
      rfl
    · rw [if_neg e2]
theorem Bought.put {g : Par} {d : Nat} {kvs : List (Key × V)} {i : Int} (h : Bought g d kvs) (n : bat g d = some i) : Bought g (d + 1) (putK kvs (.inl (d : Int)) (.int i)) := fun k => by
  rw [valV_put, h k]
  by_cases e : k = d
  · subst e
    rw [if_pos rfl, if_pos (Nat.lt_succ_self k), n]
    rfl
  · rw [if_neg (fun z => e (by injection z with z; omega))]
    by_cases e2 : k < d
    · rw [if_pos e2, if_pos (by omega)]
    · rw [if_neg e2, if_neg (by omega)]
end Sea

set_option Elab.async false
set_option linter.all false
set_option maxRecDepth 100000
set_option maxHeartbeats 4000000
namespace Sea
open PySem PySem.Spec PyProof.Rows L2 LamX NdefX ClX Evl StX
/-- what the loop stands on: the heap H0 ahead of it, the new objects -/
structure Lp (P : Program) (w : World) (K : PySem.W.Frag) (g : Par) (S a dx tl bd sd : Addr) (H0 : Hp) (d : Nat) (vm : V) (kvs : List (Key × V)) (ks : List NE) (H : Hp) : Prop where
  me : TiA K H vm (sim g d).2.1
  ka : KA a H0 H
  ia : H a = some (.ins S dx (putF "bought" (.ref bd) (putF "totals" (.ref tl) [])))
  it : H tl = some (.lst (tots g d))
  ib : H bd = some (.dK kvs)
  lb : kvs.length ≤ d
  bo : Bought g d kvs
  is : H sd = some (NdO P w sd ks)
  ki : KeysIn K H ks
  si : SeenIs g d ks
  fr : Fresh g d
theorem Lp.same {P : Program} {w : World} {K : PySem.W.Frag} {g : Par} {S a dx tl bd sd : Addr} {H0 : Hp} {d : Nat} {vm : V} {kvs : List (Key × V)} {ks : List NE} {H H' : Hp} (l : Lp P w K g S a dx tl bd sd H0 d vm kvs ks H) (s : Same H H') : Lp P w K g S a dx tl bd sd H0 d vm kvs ks H' :=
  ⟨l.me.tk (.same s), l.ka.same s, s _ _ l.ia, s _ _ l.it, s _ _ l.ib, l.lb, l.bo, s _ _ l.is, l.ki.tk (.same s), l.si, l.fr⟩
theorem flat_ints (ns : List Int) : (ns.map V.int).all flatV = true := by
  rw [List.all_map]
  exact List.all_eq_true.mpr fun _ _ => rfl
theorem rd_test {r : R2} {ta tb : TE} {σ : L2.St} {H : Hp} {Q : Bool → Hp → Prop} {P : V → Hp → Prop} (h : EvD ta σ H P) (k : ∀ v H1, Ex H H1 → P v H1 → tb σ H1 fun y H2 => r v y H2 fun x H' => ∃ k, x = .bl k ∧ Q k H') : tTest (tOp r ta tb) σ H Q := h H (Ex.refl _) _ k
/-- .. within a day, behind the choice -/
structure Mp (P : Program) (w : World) (K : PySem.W.Frag) (g : Par) (S a dx tl bd sd : Addr) (H0 : Hp) (d : Nat) (vm : V) (kvs : List (Key × V)) (ks : List NE) (H : Hp) : Prop where
  me : TiA K H vm (pre g d (sim g d)).2.1
  ka : KA a H0 H
  ia : H a = some (.ins S dx (putF "bought" (.ref bd) (putF "totals" (.ref tl) [])))
  it : H tl = some (.lst (tots g d))
  ib : H bd = some (.dK kvs)
  lb : kvs.length ≤ d + 1
  bo : Bought g (d + 1) kvs
  is : H sd = some (NdO P w sd ks)
  ki : KeysIn K H ks
theorem Mp.same {P : Program} {w : World} {K : PySem.W.Frag} {g : Par} {S a dx tl bd sd : Addr} {H0 : Hp} {d : Nat} {vm : V} {kvs : List (Key × V)} {ks : List NE} {H H' : Hp} (l : Mp P w K g S a dx tl bd sd H0 d vm kvs ks H) (s : Same H H') : Mp P w K g S a dx tl bd sd H0 d vm kvs ks H' :=
  ⟨l.me.tk (.same s), l.ka.same s, s _ _ l.ia, s _ _ l.it, s _ _ l.ib, l.lb, l.bo, s _ _ l.is, l.ki.tk (.same s)⟩
theorem PsV.atI {K : PySem.W.Frag} {H : Hp} {vs : List V} {L : List (Int × Int)} (h : PsV K H vs L) {i : Int} {x : Int × Int} (e : L2.atI L i = some x) : ∃ v, L2.atI vs i = some v ∧ PrV K H v x := by
  unfold L2.atI at e ⊢
  rw [h.len]
  cases ei : ixN L.length i with
  | none =>
    rw [ei] at e
    cases e
  | some j =>
    rw [ei] at e
    have e : L[j]? = some x := e
    have hj : j < vs.length := by
      rw [h.len]
      exact (List.getElem?_eq_some_iff.mp e).1
    obtain ⟨y, hy, hp⟩ := h.get (List.getElem?_eq_getElem hj)
    rw [e] at hy
    cases hy
    exact ⟨_, List.getElem?_eq_getElem hj, hp⟩
/-- what Spending has found: the first day that comes back, the totals, the purchases -/
structure Found (g : Par) (S : Addr) (H : Hp) (a : Addr) (dx tl bd : Addr) (d k : Nat) (kvs : List (Key × V)) : Prop where
  rep : IsRep g d k
  few : d ≤ 12000000
  ia : H a = some (.ins S dx (spF tl bd k ((d : Int) - k) ((sim g d).2.2 - (sim g k).2.2)))
  it : H tl = some (.lst (tots g d))
  ib : H bd = some (.dK kvs)
  bo : Bought g d kvs
def spSpI (K : PySem.W.Frag) (S CV cV : Addr) (B : BuyP) (I : By → List Int → Prop) : Sp := fun vs H Q E => ∃ (a b tv dx : Addr) (dv ov : V) (os : List Int) (g : Par), vs = [.ref a, .ref b, .ref tv] ∧ H a = some (.ins S dx []) ∧ B H b g.L g.b ∧ g.L.length ≤ 1000 ∧
  Tv K CV H tv g.ln dv ov g.ds os ∧ os.length ≤ 1000 ∧ g.Ok (I g.b) ∧ (∀ d, Fresh g d → d ≤ 12000000) ∧
  (os = [] → ∀ tl bd d k kvs H', (∀ b o, H b = some o → b ≠ a → H' b = some o) → Found g S H' a dx tl bd d k kvs → Q .non H') ∧
  (os ≠ [] → ∀ dd H', Same H H' → H' dd = some (.xd [("index", .int 0), ("part", .str "exceptions")]) → E (.ref cV) (some dd) H')
section
variable {P : Program} {w : World} {K : PySem.W.Frag} {mg : Str → Option Value} {base : Heap}
variable {C D S CV cV cI cU cP cN fV fI fP pP fVN fRl pRl fRd pRd fEx pEx : Addr} {mc mp md : Value} {fdV fdP dVN dRl dRd dEx : FuncData}
theorem ok_spI {f : Addr} {fd : FuncData} (F : Fun K "__init__" "Spending.__init__" sSpI f fd) (SP : TSg K mg S) (T : TX K mg C cI cU cP fI mc mp) (TQ : TP K C fP pP fdP) (N : Kind P w K mg base C D)
    (TV : TTv K mg CV fVN dVN) (R : TPr K CV fRl pRl fRd pRd fEx pEx dRl dRd dEx) (EV : TEv K mg cV cP fV fdV mp) : FnOk P w K mg base (L2.CX P w) 5 f fd ["self", "buyer", "travel"] (spSpI K S CV cV N.B N.I) := by
  have GI : FnOk P w K mg base CX0 1 fV fdV ["self", "part", "index"] (spX2 K "part" "index") := ok_IV EV
  have kb := kb_IV EV
  refine F.okX scSpI (fun vs H Q E h => ?_) (fun cdv A outer s H vs Q E hr h => ?_)
  · obtain ⟨a, b, tv, dx, dv, ov, os, g, rfl, _⟩ := h
    rfl
  · obtain ⟨a, b, tv, dx, dv, ov, os, g, rfl, ha, hb, hL, ht, hos, ok, fewH, q1, q2⟩ := h
    have h2 := hr.mono (show 2 ≤ 4 by omega)
    have hu : (A.deeper (envOfC "Spending.__init__" (defScope sSpI) s.heap.objs.size f cdv)).units + 9 < cLine := Nat.lt_of_le_of_lt (Nat.add_le_add_left (by decide : 9 ≤ 64) _) hr.units
    have hu1 : (A.deeper (envOfC "Spending.__init__" (defScope sSpI) s.heap.objs.size f cdv)).units + 1 < cLine := Nat.lt_of_le_of_lt (Nat.add_le_add_left (by decide : 1 ≤ 64) _) hr.units
    refine ⟨_, pss_cut (ps_if (pt_cmpR (op_neD hr.units) (pe_ex R TV h2 (pv 2)) (pe_tup pa_nil) (nomark _)) (pss_one (ps_raise rfl (takes_of rfl rfl rfl rfl) (pmk_kw EV.xV EV.iV EV.tV GI (hr.mono (by omega)) kb pass0 (by rfl) EV.gV (pk_cons pe_str (pk_cons pe_int pk_nil))))) pss_nil)
      (pss_cons (ps_asg (pe_tup (pa_cons (pe_lst (pa_cons pe_int pa_nil)) (pa_cons pe_dnewK pa_nil))) (pg_tup rfl (pgs_cons (pg_at (pv 0)) (pgs_cons (pg_at (pv 0)) pgs_nil))))
      (pss_cons (ps_par3 (i := 3) (j := 4) (l := 5) rfl scSpI.nd rfl rfl rfl (by decide) (by decide) (by decide) rfl rfl rfl (pa_cons pe_int (pa_cons pe_int (pa_cons (pe_meth0 (pv 1) N.cl N.mB N.oB (hr.mono (by omega)) N.bB .nil pass0) pa_nil))) (by rfl))
      (pss_cons (ps_set (i := 6) scSpI.nd rfl (.inl rfl) pe_nd)
      (pss_cut (ps_while (passes_of rfl) (pt_cmpR (op_ndNot hu) (pe_tup (pa_cons (pe_op op_modN (pe_callTy call_int1 (by rfl) SP.mI (by rfl) (pa_cons (pv 3) pa_nil)) (pe_rl R TV h2 (pv 2))) (pa_cons (pv 4) (pa_cons (pv 5) pa_nil)))) (pv 6) (by rfl))
        (pss_cons (ps_asg (pv 3) (pg_sub (pv 6) (pe_tup (pa_cons (pe_op op_modN (pe_callTy call_int1 (by rfl) SP.mI (by rfl) (pa_cons (pv 3) pa_nil)) (pe_rl R TV h2 (pv 2))) (pa_cons (pv 4) (pa_cons (pv 5) pa_nil)))) (set_nd hu)))
        (pss_cons (ps_set (i := 7) scSpI.nd rfl (.inl rfl) (pe_ixl (pe_fld (pv 0) rfl) (pe_un un_neg pe_int)))
        (pss_cut (ps_if (PW.pt (pw_and (pt_cmpR op_eq (pv 4) pe_int (nomark _)) (pw_and1 (pt_cmpR op_in_seq (pe_op op_modN (pe_callTy call_int1 (by rfl) SP.mI (by rfl) (pa_cons (pv 3) pa_nil)) (pe_rl R TV h2 (pv 2))) (pe_rd R TV h2 (pv 2)) (by rfl)))))
          (pss_cons (ps_asg (pe_meth (pv 1) N.cl N.mC N.oC (hr.mono (by omega)) N.bC .nil pass0 (pa_cons (pv 5) pa_nil)) (pg_tup rfl (pgs_cons (pg_name (i := 8) scSpI.nd rfl (.inl rfl)) (pgs_cons (pg_name (i := 5) scSpI.nd rfl (.inl rfl)) pgs_nil))))
          (pss_cons (ps_asg (pe_ixt (pe_passes TQ T.cl T.no h2 (pe_prop (pv 1) N.cl N.prT N.oT h2 N.bT .nil pass0 rfl)) (pv 8)) (pg_tup rfl (pgs_cons (pg_name (i := 4) scSpI.nd rfl (.inl rfl)) (pgs_cons (pg_name (i := 9) scSpI.nd rfl (.inl rfl)) pgs_nil))))
          (pss_cons (ps_asg (pv 8) (pg_sub (pe_fld (pv 0) rfl) (pv 3) (set_dict hu1)))
          (pss_one (ps_aug (i := 7) scSpI.nd rfl (.inl rfl) (pv 9) ip_add))))) pss_nil)
        (pss_cons (ps_expr (pe_bm PySem.F.plainAttrs_list PySem.F.slot_list_append PySem.F.type_list_append mt_append (pe_fld (pv 0) rfl) (pa_cons (pv 7) pa_nil)))
        (pss_cons (ps_par (i := 4) (j := 5) rfl scSpI.nd rfl rfl (by decide) rfl rfl (pa_cons (pe_callB (call_max2 rfl) (by rfl) SP.mX (by decide +kernel) (pa_cons pe_int (pa_cons (pe_op op_sub (pv 4) pe_int) pa_nil))) (pa_cons (pe_meth (pv 1) N.cl N.mG N.oG (hr.mono (by omega)) N.bG .nil pass0 (pa_cons (pv 5) pa_nil)) pa_nil)) (by rfl))
        (pss_one (ps_aug (i := 3) scSpI.nd rfl (.inl rfl) pe_int ip_add))))))))
      (pss_cons (ps_fld (pv 0) (pe_ndIx hu (pv 6) (pe_tup (pa_cons (pe_op op_modN (pe_callTy call_int1 (by rfl) SP.mI (by rfl) (pa_cons (pv 3) pa_nil)) (pe_rl R TV h2 (pv 2))) (pa_cons (pv 4) (pa_cons (pv 5) pa_nil)))) (fun _ _ => rfl)) rfl)
      (pss_cons (ps_fld (pv 0) (pe_op op_sub (pv 3) (pe_fld (pv 0) rfl)) rfl)
      (pss_one (ps_fld (pv 0) (pe_op op_sub (pe_ixl (pe_fld (pv 0) rfl) (pv 3)) (pe_ixl (pe_fld (pv 0) rfl) (pe_fld (pv 0) rfl))) rfl)))))))), ?_⟩
    have s1000 : ∀ {n : Nat}, n ≤ 1000 → n ≤ sizeLine := fun h => Nat.le_of_lt (small1000 h)
    obtain ⟨⟨dxt, hti⟩, ⟨pd, rfl, hpd⟩, ⟨po, rfl, hpo⟩⟩ := id ht
    refine ⟨fun σ H' => σ = [some (.ref a), some (.ref b), some (.ref tv), none, none, none, none, none, none, none] ∧ Same H H' ∧ os = [], ?_, ?_⟩
    · refine s_when (b := !decide (os = [])) (et_is (et_neD (edp_ev (tv_get rfl ht (tvF_odd ..)) fun H2 x2 => .tup (ex_t x2 hpo) (intsDp os)) (edp_tup eda_nil (by decide)) (ints_shT os) (by decide +kernel)) (by rw [eqv_nil])) (fun hb' H1 e1 => ?_) (fun hb' H1 e1 => ⟨rfl, e1, by simpa using hb'⟩)
      exact mk2_in EV.xV EV.nP EV.nI fun dd hd => q2 (by simpa using hb') dd _ (e1.trans (same_new hd)) upd_same
    rintro σ H1 ⟨rfl, s1, os0⟩
    have ha1 := s1 _ _ ha
    refine ⟨s1000 (show 1 ≤ 1000 by decide), fun tl ntl bd nbd => ⟨s1000 (show 2 ≤ 1000 by decide), fun tp ntp => ⟨tp, _, rfl, .of upd_same, rfl, _, _, rfl, ?_⟩⟩⟩
    have sa : Same H1 (upd (upd (upd H1 tl (.lst [.int 0])) bd (.dK [])) tp (.tup [.ref tl, .ref bd])) := ((same_new ntl).trans (same_new nbd)).trans (same_new ntp)
    refine ⟨_, rfl, a, S, dx, [], rfl, sa _ _ ha1, SP.cl, SP.nT, by decide, _, _, rfl, ⟨_, rfl, a, S, dx, _, rfl, upd_same, SP.cl, SP.nB, show 1 < 1000 by decide, rfl, ?_⟩⟩
    have nta : tl ≠ a := fun z => by rw [z, ha1] at ntl; cases ntl
    have nba : bd ≠ a := fun z => by rw [z, (same_new ntl) _ _ ha1] at nbd; cases nbd
    have nbt : bd ≠ tl := fun z => by rw [z, upd_same] at nbd; cases nbd
    have tt : (upd (upd H1 tl (.lst [.int 0])) bd (.dK [])) tl = some (.lst [.int 0]) := by rw [upd_ne nbt.symm, upd_same]
    generalize hH2 : upd (upd (upd (upd (upd H1 tl (.lst [.int 0])) bd (.dK [])) tp (.tup [.ref tl, .ref bd])) a (.ins S dx (putF "totals" (.ref tl) []))) a (.ins S dx (putF "bought" (.ref bd) (putF "totals" (.ref tl) []))) = H2
    have k2 : KA a H H2 := by
      rw [← hH2]
      refine KA.put (KA.put (KA.same (H1 := H1) (fun b o e n => s1 _ _ e) sa) (.inr rfl)) (.inr rfl)
    have a2 : H2 a = some (.ins S dx (putF "bought" (.ref bd) (putF "totals" (.ref tl) []))) := by rw [← hH2, upd_same]
    have t2 : H2 tl = some (.lst [.int 0]) := by
      rw [← hH2, upd_ne nta, upd_ne nta]
      exact (same_new ntp) _ _ tt
    have b2 : H2 bd = some (.dK []) := by
      rw [← hH2, upd_ne nba, upd_ne nba]
      exact (same_new ntp) _ _ upd_same
    have nt0 : H tl = none := fresh_back s1 ntl
    have nb0 : H bd = none := fresh_back (s1.trans (same_new ntl)) nbd
    have hb2 := N.move hb ha k2
    obtain ⟨dxb, fsb, tb, pb, hbi, _, _, lkB, _, _, _⟩ := N.at_ hb2
    refine ⟨_, rfl, b, dxb, _, rfl, hbi, lkB, b, g.L, g.b, rfl, hb2, fun vm H3 s3 hm => ⟨_, _, _, rfl, fun sd nsd => ?_⟩⟩
    have ns0 : H sd = none := by
      cases e : H sd with
      | none => rfl
      | some o =>
        by_cases z : sd = a
        · rw [z, s3 _ _ a2] at nsd
          cases nsd
        · rw [s3 _ _ (k2 _ _ e z)] at nsd
          cases nsd
    have L0 : Lp P w K g S a dx tl bd sd H 0 vm [] [] (upd H3 sd (NdO P w sd [])) := by
      have s4 := s3.trans (same_new (o := NdO P w sd []) nsd)
      exact ⟨hm.tk (TK.new nsd), k2.same s4, s4 _ _ a2, s4 _ _ t2, s4 _ _ b2, Nat.le_refl _, (fun k => rfl), upd_same, (fun p hp => nomatch hp), rfl, fun i j _ hj => absurd hj (Nat.not_lt_zero _)⟩
    refine ⟨fun σ' H' => ∃ (d : Nat) (vm : V) (v7 v8 v9 : Option V) (kvs : List (Key × V)) (ks : List NE) (n : Int), σ' = [some (.ref a), some (.ref b), some (.ref tv), some (.int d), some (.int (sim g d).1), some vm, some (.ref sd), v7, v8, v9] ∧ Lp P w K g S a dx tl bd sd H d vm kvs ks H' ∧ fnd ks (key g d) = some n, ?_, ?_⟩
    · refine ⟨fun n σ' H' => ∃ (d : Nat) (vm : V) (v7 v8 v9 : Option V) (kvs : List (Key × V)) (ks : List NE), n + d = 12000001 ∧ σ' = [some (.ref a), some (.ref b), some (.ref tv), some (.int d), some (.int (sim g d).1), some vm, some (.ref sd), v7, v8, v9] ∧ Lp P w K g S a dx tl bd sd H d vm kvs ks H', ⟨12000001, 0, _, _, _, _, _, _, rfl, rfl, L0⟩, ?_⟩
      rintro n σ' H' ⟨d, vm, v7, v8, v9, kvs, ks, hn, rfl, lp⟩
      refine rd_test (key_run (σ := [some (.ref a), some (.ref b), some (.ref tv), some (.int d), some (.int (sim g d).1), some vm, some (.ref sd), v7, v8, v9]) (g := g) ok.l1 rfl rfl rfl rfl (lp.ka.tv ha ht) lp.me) fun v H5 e5 hkey => ?_
      have l5 := lp.same e5
      refine ⟨_, rfl, sd, ks, key g d, rfl, l5.is, l5.ki, hkey, ⟨_, rfl, ?_⟩⟩
      refine ite2 (fun hb' => ?_) (fun hb' => ?_)
      rotate_left
      · cases hf : fnd ks (key g d) with
        | none =>
          rw [hf] at hb'
          exact absurd rfl hb'
        | some n => exact ⟨d, vm, v7, v8, v9, kvs, ks, n, rfl, l5, hf⟩
      have hf : fnd ks (key g d) = none := by
        cases hf : fnd ks (key g d) with
        | none => rfl
        | some n =>
          rw [hf] at hb'
          cases hb'
      have fr1 := l5.fr.snoc (l5.si.none hf)
      have few := fewH _ fr1
      have fits : ∀ {n : Nat}, n ≤ 12000010 → n < sizeLine := fun h => by
        rw [sizeLine_eq]
        omega
      refine ⟨fun σ2 H2 => ∃ m', m' < n ∧ ∃ (d : Nat) (vm : V) (v7 v8 v9 : Option V) (kvs : List (Key × V)) (ks : List NE), m' + d = 12000001 ∧ σ2 = [some (.ref a), some (.ref b), some (.ref tv), some (.int d), some (.int (sim g d).1), some vm, some (.ref sd), v7, v8, v9] ∧ Lp P w K g S a dx tl bd sd H d vm kvs ks H2, fun σ2 H2 h => h, ?_⟩
      refine ⟨_, rfl, _, rfl, ?_⟩
      refine (key_run (σ := [some (.ref a), some (.ref b), some (.ref tv), some (.int d), some (.int (sim g d).1), some vm, some (.ref sd), v7, v8, v9]) (g := g) ok.l1 rfl rfl rfl rfl (l5.ka.tv ha ht) l5.me) H5 (Ex.refl _) _ fun v2 H6 e6 hk2 => ?_
      have l6 := l5.same e6
      obtain ⟨r, rfl⟩ : ∃ r, v2 = .ref r := let ⟨b, _, e, _⟩ := hk2; ⟨b, e⟩
      refine ⟨sd, ks, key g d, r, (d : Int), rfl, rfl, rfl, l6.is, l6.ki, hk2, hf, fits (by rw [l6.si.len]; omega), ?_⟩
      have nst : tl ≠ sd := ne_of l6.it l6.is (fun z => nomatch z)
      have nsb : bd ≠ sd := ne_of l6.ib l6.is (fun z => nomatch z)
      have nsa : a ≠ sd := ne_of l6.ia l6.is (fun z => nomatch z)
      skip
      have tk6 : TK K H6 (upd H6 sd (NdO P w sd (ks ++ [(key g d, r, (d : Int))]))) := tk_nd l6.is
      have m7 : ∀ {vm' : V}, TiA K H6 vm' (sim g d).2.1 → TiA K (upd H6 sd (NdO P w sd (ks ++ [(key g d, r, (d : Int))]))) vm' (sim g d).2.1 := fun h => h.tk tk6
      have ka7 : KA a H (upd H6 sd (NdO P w sd (ks ++ [(key g d, r, (d : Int))]))) := l6.ka.put (.inl ns0)
      have ia7 : (upd H6 sd (NdO P w sd (ks ++ [(key g d, r, (d : Int))]))) a = some (.ins S dx (putF "bought" (.ref bd) (putF "totals" (.ref tl) []))) := by
        rw [upd_ne nsa]
        exact l6.ia
      have it7 : (upd H6 sd (NdO P w sd (ks ++ [(key g d, r, (d : Int))]))) tl = some (.lst (tots g d)) := by
        rw [upd_ne nst]
        exact l6.it
      have ib7 : (upd H6 sd (NdO P w sd (ks ++ [(key g d, r, (d : Int))]))) bd = some (.dK kvs) := by
        rw [upd_ne nsb]
        exact l6.ib
      have ki7 : KeysIn K (upd H6 sd (NdO P w sd (ks ++ [(key g d, r, (d : Int))]))) (ks ++ [(key g d, r, (d : Int))]) := (l6.ki.snoc hk2).tk tk6
      have is7 : (upd H6 sd (NdO P w sd (ks ++ [(key g d, r, (d : Int))]))) sd = some (NdO P w sd (ks ++ [(key g d, r, (d : Int))])) := upd_same
      have me7 := m7 l6.me
      have lb7 := l6.lb
      refine ⟨_, rfl, a, S, dx, _, _, rfl, ia7, SP.cl, SP.nT, rfl, ⟨1, rfl, tl, tots g d, -1, _, rfl, rfl, .inl (.inl it7), tots_last g d, ?_⟩⟩
      refine ⟨fun σ' H' => ∃ (vm' : V) (v8' v9' : Option V) (kvs' : List (Key × V)), σ' = [some (.ref a), some (.ref b), some (.ref tv), some (.int d), some (.int (pre g d (sim g d)).1), some vm', some (.ref sd), some (.int (pre g d (sim g d)).2.2), v8', v9'] ∧ Mp P w K g S a dx tl bd sd H d vm' kvs' (ks ++ [(key g d, r, (d : Int))]) H', ?_, ?_⟩
      · refine s_when (b := decide (V.int (sim g d).1 = V.int 0) && goes g d) (et_and (et_test (ev_op (ev_var rfl) ev_c (rv_eq rfl))) fun _ => et_test (ev_op (mod_run (σ := [some (.ref a), some (.ref b), some (.ref tv), some (.int d), some (.int (sim g d).1), some vm, some (.ref sd), some (.int (sim g d).2.2), v8, v9]) (g := g) (d := d) ok.l1 rfl rfl (ka7.tv ha ht)) (tv_get rfl (ka7.tv ha ht) (tvF_pat ..)) (rv_isT ((ka7.tk ha) _ _ hpd) rfl (flat_ints _)))) (fun hc H8 e8 => ?_) (fun hc H8 e8 => ?_)
        · have hc' : (sim g d).1 = 0 ∧ goes g d = true := by
            rw [Bool.and_eq_true] at hc
            have := of_decide_eq_true hc.1
            exact ⟨by injection this, hc.2⟩
          have hin := (ok.b.ch _ (sim_ok ok d).1).1
          have hz := hin.pas.1
          have hpre := pre_yes hc'
          have k8 : KA a H H8 := KA.same ka7 e8
          have hb8 := N.move hb ha k8
          obtain ⟨dxb8, fsb8, tb8, pb8, hbi8, _, _, _, lkC8, _, _⟩ := N.at_ hb8
          refine ⟨_, rfl, b, dxb8, _, rfl, hbi8, lkC8, _, rfl, ⟨b, g.L, g.b, vm, (sim g d).2.1, rfl, hb8, hL, me7.tk (.same e8), (sim_ok ok d).1, ok.b, fun r2 v' H9 s9 hr2 hv => ⟨r2, _, rfl, hr2, rfl, _, _, rfl, _, _, rfl, rfl, ?_⟩⟩⟩
          have k9 : KA a H H9 := KA.same k8 s9
          have hb9 := N.move hb ha k9
          obtain ⟨dxb9, fsb9, t9, p9, hbi9, _, lko9, _, _, _, tar9⟩ := N.at_ hb9
          obtain ⟨⟨dxt9, hti9⟩, htp9⟩ := id tar9
          obtain ⟨pvs, hpv, _, hps⟩ := tar9.len_eq
          obtain ⟨_, hat, q, rfl, hq⟩ := hps.atI hz
          refine ⟨_, rfl, b, dxb9, _, rfl, hbi9, b, dxb9, _, .ref t9, rfl, hbi9, lko9, t9, dxt9, _, rfl, hti9, t9, dxt9, _, .ref p9, rfl, hti9, rfl, _, rfl, ⟨p9, pvs, _, .ref q, rfl, rfl, hpv, hat, ⟨q, _, rfl, hq, rfl, _, _, rfl, _, _, rfl, rfl, ?_⟩⟩⟩
          have s79 := e8.trans s9
          have ib9 := s79 _ _ ib7
          refine ⟨_, rfl, _, rfl, a, S, dx, _, _, rfl, s79 _ _ ia7, SP.cl, SP.nB, rfl, _, rfl, bd, _, rfl, DPut.k (k := .inl (d : Int)) ib9 (fits (by omega)), ?_⟩
          refine ⟨_, rfl, _, rfl, _, _, rfl, rfl, ?_⟩
          have nba9 : a ≠ bd := ne_of (s79 _ _ ia7) ib9 (fun z => nomatch z)
          have nbt9 : tl ≠ bd := ne_of (s79 _ _ it7) ib9 (fun z => nomatch z)
          have nbs9 : sd ≠ bd := ne_of (s79 _ _ is7) ib9 (fun z => nomatch z)
          refine ⟨v', some (.int (g.b.ch (sim g d).2.1).1), some (.int (pas g.L (g.b.ch (sim g d).2.1).1).2), putK kvs (.inl (d : Int)) (.int (g.b.ch (sim g d).2.1).1), ?_, Mp.mk (by rw [hpre]; exact hv.tk (tk_dk ib9)) (k9.put (.inl nb0)) (by rw [upd_ne nba9]; exact s79 _ _ ia7) (by rw [upd_ne nbt9]; exact s79 _ _ it7) upd_same (by have := length_putK kvs (.inl (d : Int)) (V.int (g.b.ch (sim g d).2.1).1); omega) (l6.bo.put (by unfold bat; rw [if_pos hc'])) (by rw [upd_ne nbs9]; exact s79 _ _ is7) ((ki7.tk (.same s79)).tk (tk_dk ib9))⟩
          rw [hpre]
          rfl
        · have pe : pre g d (sim g d) = sim g d := by
            unfold pre
            rw [if_neg fun z => by rw [z.1, z.2] at hc; cases hc]
          rw [pe]
          exact ⟨vm, v8, v9, kvs, rfl, (Mp.mk (by rw [pe]; exact me7) ka7 ia7 it7 ib7 (by omega) (l6.bo.none (by unfold bat; rw [if_neg fun z => by rw [z.1, z.2] at hc; cases hc])) is7 ki7 : Mp P w K g S a dx tl bd sd H d vm kvs _ _).same e8⟩
      rintro σ' H9 ⟨vm', v8', v9', kvs', rfl, mp⟩
      refine ⟨_, rfl, a, S, dx, _, _, rfl, mp.ia, SP.cl, SP.nT, rfl, .inl ⟨rfl, _, .of mp.it⟩, _, rfl, tl, tots g d, _, rfl, rfl, mp.it, fits (by rw [tots_len]; omega), ?_⟩
      have nta : a ≠ tl := ne_of mp.ia mp.it (fun z => nomatch z)
      have ntb : bd ≠ tl := ne_of mp.ib mp.it (fun z => nomatch z)
      have nts : sd ≠ tl := ne_of mp.is mp.it (fun z => nomatch z)
      have tkl : TK K H9 (upd H9 tl (.lst (tots g d ++ [.int (pre g d (sim g d)).2.2]))) := tk_lst mp.it
      have ka10 : KA a H (upd H9 tl (.lst (tots g d ++ [.int (pre g d (sim g d)).2.2]))) := mp.ka.put (.inl nt0)
      have hb10 := N.move hb ha ka10
      obtain ⟨dxb10, fsb10, tb10, pb10, hbi10, _, _, _, _, lkG10, _⟩ := N.at_ hb10
      have pl := pre_len ok d
      have me10 := mp.me.tk tkl
      refine ⟨_, rfl, _, _, rfl, rfl, _, _, rfl, _, rfl, b, dxb10, _, rfl, hbi10, lkG10, _, rfl, ⟨b, g.L, g.b, vm', (pre g d (sim g d)).2.1, rfl, hb10, hL, me10, by omega, fun v' H11 s11 hv => ⟨_, _, rfl, ?_⟩⟩⟩
      refine ⟨_, rfl, _, _, rfl, rfl, ?_⟩
      have e1 : sim g (d + 1) = (max0 ((pre g d (sim g d)).1 - 1), g.b.gr (pre g d (sim g d)).2.1, (pre g d (sim g d)).2.2) := rfl
      refine ⟨12000001 - (d + 1), by omega, d + 1, v', some (.int (pre g d (sim g d)).2.2), v8', v9', kvs', _, by omega, ?_, ⟨by rw [e1]; exact hv, ka10.same s11, s11 _ _ (by rw [upd_ne nta]; exact mp.ia), ?_, s11 _ _ (by rw [upd_ne ntb]; exact mp.ib), mp.lb, mp.bo, s11 _ _ (by rw [upd_ne nts]; exact mp.is), (mp.ki.tk tkl).tk (.same s11), l6.si.snoc, fr1⟩⟩
      · rw [e1]
        rfl
      · rw [tots_snoc, e1]
        exact s11 _ _ upd_same
    rintro σ' H' ⟨d, vm, v7, v8, v9, kvs, ks, n, rfl, lp, hf⟩
    obtain ⟨k, hk, rfl, hkk⟩ := lp.si.some hf
    have few := fewH _ lp.fr
    refine ⟨_, rfl, ?_⟩
    refine (key_run (σ := [some (.ref a), some (.ref b), some (.ref tv), some (.int d), some (.int (sim g d).1), some vm, some (.ref sd), v7, v8, v9]) (g := g) ok.l1 rfl rfl rfl rfl (lp.ka.tv ha ht) lp.me) H' (Ex.refl _) _ fun v H5 e5 hkey => ?_
    have l5 := lp.same e5
    refine ⟨sd, ks, key g d, (k : Int), rfl, l5.is, l5.ki, hkey, hf, ⟨_, rfl, a, S, dx, _, rfl, l5.ia, SP.cl, SP.nS, Nat.lt_of_le_of_lt (putF_len _ _ _) (show 1 + 1 < 1000 by decide), ?_⟩⟩
    have nta : tl ≠ a := ne_of l5.it l5.ia (fun z => nomatch z)
    refine ⟨_, rfl, _, rfl, a, S, dx, _, _, rfl, upd_same, SP.cl, SP.nS, rfl, _, _, rfl, rfl, ⟨_, rfl, a, S, dx, _, rfl, upd_same, SP.cl, SP.nP, Nat.lt_of_le_of_lt (putF_len _ _ _) (Nat.succ_lt_succ (Nat.lt_of_le_of_lt (putF_len _ _ _) (show 1 + 1 < 999 by decide))), ?_⟩⟩
    rw [upd_upd]
    have t6 : ∀ o, (upd H5 a o) tl = some (.lst (tots g d)) := fun o => by
      rw [upd_ne nta]
      exact l5.it
    refine ⟨_, rfl, a, S, dx, _, _, rfl, upd_same, SP.cl, SP.nT, rfl, ⟨_, rfl, tl, tots g d, (d : Int), _, rfl, rfl, .inl (.inl (t6 _)), tots_at g (Nat.le_refl d), ?_⟩⟩
    refine ⟨_, rfl, a, S, dx, _, _, rfl, upd_same, SP.cl, SP.nT, rfl, ⟨_, rfl, a, S, dx, _, _, rfl, upd_same, SP.cl, SP.nS, rfl, tl, tots g d, (k : Int), _, rfl, rfl, .inl (.inl (t6 _)), tots_at g (Nat.le_of_lt hk), _, _, rfl, rfl, ?_⟩⟩
    refine ⟨_, rfl, a, S, dx, _, rfl, upd_same, SP.cl, SP.nG, Nat.lt_of_le_of_lt (putF_len _ _ _) (Nat.succ_lt_succ (Nat.lt_of_le_of_lt (putF_len _ _ _) (Nat.succ_lt_succ (Nat.lt_of_le_of_lt (putF_len _ _ _) (show 1 + 1 < 998 by decide))))), ?_⟩
    rw [upd_upd]
    exact q1 os0 tl bd d k kvs _ (fun b o e n => by rw [upd_ne n]; exact l5.ka _ _ e n) ⟨⟨lp.fr, hk, hkk⟩, few, upd_same, by rw [upd_ne nta]; exact l5.it, by rw [upd_ne (ne_of l5.ib l5.ia (fun z => nomatch z))]; exact l5.ib, lp.bo⟩
end
end Sea

set_option Elab.async false
set_option linter.all false
set_option maxRecDepth 100000
set_option maxHeartbeats 4000000
namespace Sea
open PySem PySem.Spec PyProof.Rows L2 LamX NdefX ClX Evl StX
/-- m days behind the first day that comes back, t rounds later -/
theorem far_turns {g : Par} {I : List Int → Prop} (o : g.Ok I) {d k : Nat} (r : IsRep g d k) (m : Nat) : ∀ t : Nat, key g (k + m + t * (d - k)) = key g (k + m) ∧ (sim g (k + m + t * (d - k))).2.2 = (sim g (k + m)).2.2 + (t : Int) * ((sim g d).2.2 - (sim g k).2.2)
  | 0 => by
    rw [Nat.zero_mul, Nat.add_zero]
    exact ⟨rfl, by rw [show ((0 : Nat) : Int) = 0 from rfl, Int.zero_mul, Int.add_zero]⟩
  | t + 1 => by
    obtain ⟨h1, h2⟩ := far_turns o r m t
    obtain ⟨k1, k2⟩ := key_far o r.2.2 (m + t * (d - k))
    have lt := r.2.1
    have e : k + m + (t + 1) * (d - k) = d + (m + t * (d - k)) := by
      rw [Nat.succ_mul]
      omega
    have e2 : k + m + t * (d - k) = k + (m + t * (d - k)) := by omega
    rw [e2] at h1 h2
    rw [e]
    refine ⟨k1.symm.trans h1, ?_⟩
    have : ((t + 1 : Nat) : Int) * ((sim g d).2.2 - (sim g k).2.2) = (t : Int) * ((sim g d).2.2 - (sim g k).2.2) + ((sim g d).2.2 - (sim g k).2.2) := by
      rw [show ((t + 1 : Nat) : Int) = (t : Int) + 1 by omega, Int.add_mul, Int.one_mul]
    omega
/-- the day that n is like, and how many rounds lie between -/
def lkT (d k n : Nat) : Nat := if n < k then 0 else (n - k) / (d - k)
def lkD (d k n : Nat) : Nat := n - lkT d k n * (d - k)
theorem like_day {g : Par} {I : List Int → Prop} (o : g.Ok I) {d k : Nat} (r : IsRep g d k) (n : Nat) : lkT d k n * (d - k) ≤ n ∧ lkD d k n < d ∧ key g n = key g (lkD d k n) ∧ (sim g n).2.2 = (sim g (lkD d k n)).2.2 + (lkT d k n : Int) * ((sim g d).2.2 - (sim g k).2.2) := by
  have lt := r.2.1
  unfold lkD lkT
  by_cases h : n < k
  · rw [if_pos h, Nat.zero_mul]
    exact ⟨Nat.zero_le _, by omega, rfl, by rw [show ((0 : Nat) : Int) = 0 from rfl, Int.zero_mul, Int.add_zero]; rfl⟩
  · rw [if_neg h]
    have p : 0 < d - k := by omega
    have e := Nat.mod_add_div (n - k) (d - k)
    have b := Nat.mod_lt (n - k) p
    rw [Nat.mul_comm] at e
    obtain ⟨h1, h2⟩ := far_turns o r ((n - k) % (d - k)) ((n - k) / (d - k))
    have e1 : k + (n - k) % (d - k) + (n - k) / (d - k) * (d - k) = n := by omega
    rw [e1] at h1 h2
    have e2 : n - (n - k) / (d - k) * (d - k) = k + (n - k) % (d - k) := by omega
    rw [e2]
    exact ⟨by omega, by omega, h1, h2⟩
theorem scSd : FnScope ["self", "day", "turns"] ["self", "day"] (defScope sSd) := ⟨rfl, rfl, rfl, by decide +kernel, rfl, by decide +kernel, by decide +kernel⟩
theorem scTa : FnScope ["self", "count", "day", "turns"] ["self", "count"] (defScope sTa) := ⟨rfl, rfl, rfl, by decide +kernel, rfl, by decide +kernel, by decide +kernel⟩
theorem Found.same {g : Par} {S : Addr} {H H' : Hp} {a dx tl bd : Addr} {d k : Nat} {kvs : List (Key × V)} (f : Found g S H a dx tl bd d k kvs) (s : Same H H') : Found g S H' a dx tl bd d k kvs := ⟨f.rep, f.few, s _ _ f.ia, s _ _ f.it, s _ _ f.ib, f.bo⟩
def spSd (S : Addr) : Sp := fun vs H Q _ => ∃ (g : Par) (a dx tl bd : Addr) (d k n : Nat) (kvs : List (Key × V)), vs = [.ref a, .int n] ∧ Found g S H a dx tl bd d k kvs ∧ ∀ r H', Same H H' → H' r = some (.tup [.int (lkD d k n), .int (lkT d k n)]) → Q (.ref r) H'
section
variable {P : Program} {w : World} {K : PySem.W.Frag} {mg : Str → Option Value} {base : Heap} {S : Addr}
theorem ok_sd {f : Addr} {fd : FuncData} {j : Nat} (F : Fun K "same_day" "Spending.same_day" sSd f fd) (SP : TSg K mg S) : FnOk P w K mg base CX0 (j + 1) f fd ["self", "day"] (spSd S) := by
  refine F.ok scSd (fun vs H Q E h => ?_) (fun cdv A outer s H vs Q E hr h => ?_)
  · obtain ⟨g, a, dx, tl, bd, d, k, n, kvs, rfl, _⟩ := h
    rfl
  · obtain ⟨g, a, dx, tl, bd, d, k, n, kvs, rfl, fo, q⟩ := h
    refine ⟨_, pss_cons (ps_set (i := 2) scSd.nd rfl (.inl rfl) (pe_op op_fdivW (pe_callB (call_max2 rfl) (by rfl) SP.mX (by decide +kernel) (pa_cons pe_int (pa_cons (pe_op op_sub (pv 1) (pe_fld (pv 0) rfl)) pa_nil))) (pe_fld (pv 0) rfl)))
      (pss_one (ps_ret (pe_tup (pa_cons (pe_op op_sub (pv 1) (pe_op op_mul (pv 2) (pe_fld (pv 0) rfl))) (pa_cons (pv 2) pa_nil))))), ?_⟩
    have lt := fo.rep.2.1
    have few := fo.few
    have p0 : (0 : Int) < (d : Int) - k := by omega
    have p1 : ((d : Int) - k).natAbs.log2 < 9000 := Nat.lt_trans ((Nat.log2_lt (show ((d : Int) - k).natAbs ≠ 0 by omega)).mpr (show _ < 2 ^ 24 by omega)) (show 24 < 9000 by decide)
    refine ⟨_, rfl, _, rfl, a, S, dx, _, _, rfl, fo.ia, SP.cl, SP.nS, rfl, _, _, rfl, rfl, _, _, rfl, _, rfl, a, S, dx, _, _, rfl, fo.ia, SP.cl, SP.nP, rfl, _, _, rfl, rfl, ⟨p0, p1⟩, ?_⟩
    have eT : (if (n : Int) - (k : Int) > 0 then (n : Int) - (k : Int) else 0) / ((d : Int) - k) = (lkT d k n : Int) := by
      unfold lkT
      by_cases h : n < k
      · rw [if_neg (by omega), if_pos h, Int.zero_ediv]
        rfl
      · rw [if_neg h]
        have e : (if (n : Int) - (k : Int) > 0 then (n : Int) - (k : Int) else 0) = ((n - k : Nat) : Int) := by
          split <;> omega
        rw [e, show (d : Int) - k = ((d - k : Nat) : Int) by omega]
        rfl
    have le : lkT d k n * (d - k) ≤ n := by
      unfold lkT
      split
      · rw [Nat.zero_mul]
        exact Nat.zero_le _
      · exact Nat.le_trans (Nat.div_mul_le_self _ _) (Nat.sub_le _ _)
    have eD : (n : Int) - (lkT d k n : Int) * ((d : Int) - k) = (lkD d k n : Int) := by
      have e : ((d - k : Nat) : Int) = (d : Int) - k := by omega
      unfold lkD
      rw [← e, ← Int.natCast_mul]
      omega
    refine ⟨_, rfl, _, rfl, _, rfl, a, S, dx, _, _, rfl, fo.ia, SP.cl, SP.nP, rfl, _, _, rfl, rfl, .inr ⟨by omega, by omega⟩, _, _, rfl, rfl, _, rfl, Nat.le_of_lt (small1000 (show 2 ≤ 1000 by decide)), fun r nr => q r _ (same_new nr) ?_⟩
    rw [upd_same, ← eD, ← eT]
end
end Sea

set_option Elab.async false
set_option linter.all false
set_option maxRecDepth 100000
set_option maxHeartbeats 4000000
namespace Sea
open PySem PySem.Spec PyProof.Rows L2 LamX NdefX ClX Evl StX
def spTa (S : Addr) : Sp := fun vs H Q _ => ∃ (g : Par) (I : List Int → Prop) (a dx tl bd : Addr) (d k n : Nat) (kvs : List (Key × V)), vs = [.ref a, .int n] ∧ g.Ok I ∧ n ≤ 1000000000000000000 ∧ Found g S H a dx tl bd d k kvs ∧ ∀ H', Same H H' → Q (.int (sim g n).2.2) H'
section
variable {P : Program} {w : World} {K : PySem.W.Frag} {mg : Str → Option Value} {base : Heap} {S fSd : Addr} {dSd : FuncData}
theorem ok_ta {f : Addr} {fd : FuncData} {j : Nat} (F : Fun K "total_after" "Spending.total_after" sTa f fd) (SP : TSg K mg S) (M : Meth K S "same_day" fSd) (U : Fun K "same_day" "Spending.same_day" sSd fSd dSd) : FnOk P w K mg base CX0 (j + 2) f fd ["self", "count"] (spTa S) := by
  refine F.ok scTa (fun vs H Q E h => ?_) (fun cdv A outer s H vs Q E hr h => ?_)
  · obtain ⟨g, I, a, dx, tl, bd, d, k, n, kvs, rfl, _⟩ := h
    rfl
  · obtain ⟨g, I, a, dx, tl, bd, d, k, n, kvs, rfl, ok, n18, fo, q⟩ := h
    refine ⟨_, pss_cons (ps_asg (pe_meth (pv 0) SP.cl M (ok_sd (j := 0) U SP) (hr.mono (by omega)) (U.binds (ps := ["self", "day"]) fun _ _ _ _ _ _ us hl => match us, hl with | [_, _], _ => rfl) .nil pass0 (pa_cons (pv 1) pa_nil)) (pg_tup rfl (pgs_cons (pg_name (i := 2) scTa.nd rfl (.inl rfl)) (pgs_cons (pg_name (i := 3) scTa.nd rfl (.inl rfl)) pgs_nil))))
      (pss_one (ps_ret (pe_op op_add (pe_ixl (pe_fld (pv 0) rfl) (pv 2)) (pe_op op_mul (pv 3) (pe_fld (pv 0) rfl))))), ?_⟩
    obtain ⟨h1, h2, h3, h4⟩ := like_day ok fo.rep n
    have tle : lkT d k n ≤ n := by
      unfold lkT
      split
      · exact Nat.zero_le _
      · exact Nat.le_trans (Nat.div_le_self _ _) (Nat.sub_le _ _)
    refine ⟨_, rfl, a, dx, _, rfl, fo.ia, rfl, _, rfl, ⟨g, a, dx, tl, bd, d, k, n, kvs, rfl, fo, fun r H1 s1 hr1 => ⟨r, _, rfl, .of hr1, rfl, _, _, rfl, _, _, rfl, rfl, ?_⟩⟩⟩
    have fo1 := fo.same s1
    refine ⟨_, rfl, a, S, dx, _, _, rfl, fo1.ia, SP.cl, SP.nT, rfl, _, rfl, tl, tots g d, ((lkD d k n : Nat) : Int), _, rfl, rfl, .inl (.inl fo1.it), tots_at g (Nat.le_of_lt h2), _, rfl, _, rfl, a, S, dx, _, _, rfl, fo1.ia, SP.cl, SP.nG, rfl, _, _, rfl, rfl, .inl ⟨by omega, by omega⟩, _, _, rfl, rfl, ?_⟩
    have := q H1 s1
    rw [h4] at this
    exact this
end
end Sea

set_option Elab.async false
set_option linter.all false
set_option maxRecDepth 100000
set_option maxHeartbeats 4000000
namespace Sea
open PySem PySem.Spec PyProof.Rows L2 LamX NdefX ClX Evl StX
theorem scSpd : FnScope ["buyer", "travel", "count", "spending"] ["buyer", "travel", "count"] (defScope sSpd) := ⟨rfl, rfl, rfl, by decide +kernel, rfl, by decide +kernel, by decide +kernel⟩
/-- a buyer and its travel -/
structure Deal (K : PySem.W.Frag) (CV : Addr) (B : BuyP) (I : By → List Int → Prop) (g : Par) (os : List Int) (H : Hp) (b tv : Addr) : Prop where
  bu : B H b g.L g.b
  lL : g.L.length ≤ 1000
  tv : ∃ dv ov, Tv K CV H tv g.ln dv ov g.ds os
  lo : os.length ≤ 1000
  ok : g.Ok (I g.b)
  few : ∀ d, Fresh g d → d ≤ 12000000
/-- Spending and its methods -/
structure TSd (K : PySem.W.Frag) (mg : Str → Option Value) (S fSI fSd fTa fVC cN : Addr) (dSI dSd dTa dVC : FuncData) : Prop where
  mkS : Mk K S fSI
  uSI : Fun K "__init__" "Spending.__init__" sSpI fSI dSI
  mSd : Meth K S "same_day" fSd
  uSd : Fun K "same_day" "Spending.same_day" sSd fSd dSd
  mTa : Meth K S "total_after" fTa
  uTa : Fun K "total_after" "Spending.total_after" sTa fTa dTa
  gVC : mg "validate_count" = some (.ref fVC)
  kVC : PySem.W.keepIn K (.ref fVC) = true
  uVC : Fun K "validate_count" "validate_count" sVC fVC dVC
  nc : TNc K mg cN
  mD : ∃ u, mg "MAX_DAYS" = some u ∧ RelV (.int 1000000000000000000) u
/-- Spending(b, tv): what a caller shows -/
theorem mkS_in {K : PySem.W.Frag} {P : Program} {w : World} {mg : Str → Option Value} {base : Heap} {C D S CV cV : Addr} (N : Kind P w K mg base C D) {b tv x dx : Addr} {g : Par} {os : List Int} {H : Hp} {Q : VK} {E : XK} (dl : Deal K CV N.B N.I g os H b tv) (nx : H x = none) (ndx : H dx = none)
    (q1 : os = [] → ∀ tl bd d k kvs H', Same H H' → Found g S H' x dx tl bd d k kvs → Q .non H') (q2 : os ≠ [] → ∀ dd H', Same H H' → H' dd = some (.xd [("index", .int 0), ("part", .str "exceptions")]) → E (.ref cV) (some dd) H') :
    spSpI K S CV cV N.B N.I [V.ref x, .ref b, .ref tv] (upd (upd H dx (.own x)) x (.ins S dx [])) Q E := by
  have s0 : Same H (upd (upd H dx (.own x)) x (.ins S dx [])) := fun b u e => by
    rw [upd_ne (ne_of_none e nx), upd_ne (ne_of_none e ndx)]
    exact e
  obtain ⟨dv, ov, htv⟩ := dl.tv
  refine ⟨x, b, tv, dx, dv, ov, os, g, rfl, upd_same, N.same dl.bu s0, dl.lL, htv.same s0, dl.lo, dl.ok, dl.few, fun o tl bd d k kvs H' ka fo => ?_, fun o dd H' sm hd => q2 o dd H' (Same.trans s0 sm) hd⟩
  exact q1 o tl bd d k kvs H' (fun c u e => ka _ _ (s0 _ _ e) (ne_of_none e nx)) fo
def spSpd (K : PySem.W.Frag) (CV cV cN : Addr) (B : BuyP) (I : By → List Int → Prop) : Sp := fun vs H Q E => ∃ (b tv : Addr) (c : Int) (g : Par) (os : List Int), vs = [.ref b, .ref tv, .int c] ∧ Deal K CV B I g os H b tv ∧
  (os = [] → 0 ≤ c ∧ c ≤ 1000000000000000000 → ∀ H', Same H H' → Q (.int (sim g c.toNat).2.2) H') ∧ (os = [] → ¬ (0 ≤ c ∧ c ≤ 1000000000000000000) → ∀ H', Same H H' → E (.ref cN) none H') ∧
  (os ≠ [] → ∀ dd H', Same H H' → H' dd = some (.xd [("index", .int 0), ("part", .str "exceptions")]) → E (.ref cV) (some dd) H')
section
variable {P : Program} {w : World} {K : PySem.W.Frag} {mg : Str → Option Value} {base : Heap} {C D S CV cV cI cU cP cN fV fI fP pP fVN fRl pRl fRd pRd fEx pEx fSI fSd fTa fVC : Addr} {mc mp : Value} {fdV fdP dVN dRl dRd dEx dSI dSd dTa dVC : FuncData}
theorem ok_spd {f : Addr} {fd : FuncData} (F : Fun K "spend" "spend" sSpd f fd) (SP : TSg K mg S) (T : TX K mg C cI cU cP fI mc mp) (TQ : TP K C fP pP fdP) (N : Kind P w K mg base C D)
    (TV : TTv K mg CV fVN dVN) (R : TPr K CV fRl pRl fRd pRd fEx pEx dRl dRd dEx) (EV : TEv K mg cV cP fV fdV mp) (Y : TSd K mg S fSI fSd fTa fVC cN dSI dSd dTa dVC) : FnOk P w K mg base (L2.CX P w) 7 f fd ["buyer", "travel", "count"] (spSpd K CV cV cN N.B N.I) := by
  have G1 : FnOk P w K mg base (L2.CX P w) 5 fSI dSI ["self", "buyer", "travel"] (spSpI K S CV cV N.B N.I) := ok_spI Y.uSI SP T TQ N TV R EV
  have b1 : Binds K dSI ["self", "buyer", "travel"] [] := Y.uSI.binds (ps := ["self", "buyer", "travel"]) fun _ _ _ _ _ _ us hl => match us, hl with | [_, _, _], _ => rfl
  have b2 : Binds K dVC ["count", "smallest", "largest"] [] := Y.uVC.binds (ps := ["count", "smallest", "largest"]) fun _ _ _ _ _ _ us hl => match us, hl with | [_, _, _], _ => rfl
  have b3 : Binds K dTa ["self", "count"] [] := Y.uTa.binds (ps := ["self", "count"]) fun _ _ _ _ _ _ us hl => match us, hl with | [_, _], _ => rfl
  refine F.okX scSpd (fun vs H Q E h => ?_) (fun cdv A outer s H vs Q E hr h => ?_)
  · obtain ⟨b, tv, c, g, os, rfl, _⟩ := h
    rfl
  · obtain ⟨b, tv, c, g, os, rfl, dl, q1, q2, q3⟩ := h
    have PX : Passes (L2.CX P w) (cxOf (L2.CX P w) P w K mg base ["buyer", "travel", "count", "spending"] "spend" (defScope sSpd) f cdv A outer s H E) E := passes_call (takes_of rfl rfl rfl rfl) (fun _ _ _ _ h => h)
    refine ⟨_, pss_cons (ps_set (i := 3) scSpd.nd rfl (.inl rfl) (pe_make (E := E) Y.mkS G1 hr (by rfl) SP.gS b1 .nil PX (pa_cons (pv 0) (pa_cons (pv 1) pa_nil))))
      (pss_cons (ps_expr (pe_call (E := E) (ok_vc (k := 0) Y.uVC Y.nc) (hr.mono (by omega)) (by rfl) Y.gVC Y.kVC b2 .nil PX (pa_cons (pv 2) (pa_cons pe_int (pa_cons (C8.pe_gc (by rfl) Y.mD) pa_nil)))))
      (pss_one (ps_ret (pe_meth (pv 3) SP.cl Y.mTa (ok_ta (j := 0) Y.uTa SP Y.mSd Y.uSd) (hr.mono (by omega)) b3 .nil pass0 (pa_cons (pv 2) pa_nil))))), ?_⟩
    refine ⟨_, rfl, _, rfl, fun a dxa nx ndx _ => ?_⟩
    refine mkS_in N dl nx ndx (fun o tl bd d k kvs H1 s1 fo => ⟨rfl, ?_⟩) q3
    refine ⟨_, rfl, c, 0, 1000000000000000000, rfl, fun hc H2 s2 => ?_, fun hc H2 s2 => q2 o hc H2 (Same.trans s1 s2)⟩
    have fo2 := fo.same s2
    obtain ⟨n, hn⟩ := Int.eq_ofNat_of_zero_le hc.1
    have hn' : c = (n : Int) := hn
    subst hn'
    refine ⟨_, rfl, a, dxa, _, rfl, fo2.ia, rfl, _, rfl, ⟨g, N.I g.b, a, dxa, tl, bd, d, k, n, kvs, rfl, dl.ok, by omega, fo2, fun H3 s3 => ?_⟩⟩
    exact q1 o hc H3 (Same.trans (Same.trans s1 s2) s3)
end
end Sea

set_option Elab.async false
set_option linter.all false
set_option maxRecDepth 100000
set_option maxHeartbeats 4000000
namespace Sea
open PySem PySem.Spec PyProof.Rows L2 LamX NdefX ClX Evl StX
abbrev NPu : List Str := ["buyer", "travel", "first", "last", "spending", "day", "like"]
theorem scPu : GScope NPu ["buyer", "travel", "first", "last"] (defScope sPu) := ⟨rfl, rfl, rfl, by decide +kernel, rfl, by decide +kernel, by decide +kernel⟩
/-- the purchases of n days from fi on -/
def pus (g : Par) (fi n : Nat) : List (Int × Int) := (List.range n).filterMap fun i => (bat g (fi + i)).map fun j => (((fi + i : Nat) : Int), j)
theorem pus_succ (g : Par) (fi n : Nat) : pus g fi (n + 1) = pus g fi n ++ (match bat g (fi + n) with
    | some j => [(((fi + n : Nat) : Int), j)]
    | none => []) := by
  unfold pus
  rw [List.range_succ, List.filterMap_append]
  congr 1
  cases e : bat g (fi + n) with
  | none => rw [List.filterMap_cons_none (by rw [e]; rfl)]; rfl
  | some j => rw [List.filterMap_cons_some (by rw [e]; rfl)]; rfl
theorem pus_len (g : Par) (fi n : Nat) : (pus g fi n).length ≤ n := Nat.le_trans (List.length_filterMap_le ..) (Nat.le_of_eq List.length_range)
theorem bat_like {g : Par} {i j : Nat} (h : key g i = key g j) : bat g i = bat g j := by
  injection h with e1 h
  injection h with e2 e3
  unfold bat
  rw [goes_eq e1, e2, e3]
def puOk (fi la : Int) : Prop := (0 ≤ fi ∧ fi ≤ 1000000000000000000) ∧ fi ≤ la ∧ la ≤ (if fi + 10000 - 1 < 1000000000000000000 then fi + 10000 - 1 else 1000000000000000000)
def spPu (K : PySem.W.Frag) (CV cV cN : Addr) (B : BuyP) (I : By → List Int → Prop) : SpG := fun vs H Q E => ∃ (b tv : Addr) (fi la : Int) (g : Par) (os : List Int), vs = [.ref b, .ref tv, .int fi, .int la] ∧ Deal K CV B I g os H b tv ∧
  (os = [] → puOk fi la → ∀ ys H', Same H H' → PsV K H' ys (pus g fi.toNat (la + 1 - fi).toNat) → Q ys H') ∧ (os = [] → ¬ puOk fi la → ∀ H', Same H H' → E (.ref cN) none H') ∧
  (os ≠ [] → ∀ dd H', Same H H' → H' dd = some (.xd [("index", .int 0), ("part", .str "exceptions")]) → E (.ref cV) (some dd) H')
structure TPu (K : PySem.W.Frag) (mg : Str → Option Value) : Prop where
  mY : ∃ u, mg "MAX_YIELDED" = some u ∧ RelV (.int 10000) u
  mM : mg "min" = none
  mR : mg "range" = none
theorem fits1 {n : Nat} (h : n ≤ 10000) : n < sizeLine := by rw [sizeLine_eq]; omega
section
variable {P : Program} {w : World} {K : PySem.W.Frag} {mg : Str → Option Value} {base : Heap} {C D S CV cV cI cU cP cN fV fI fP pP fVN fRl pRl fRd pRd fEx pEx fSI fSd fTa fVC : Addr} {mc mp : Value} {fdV fdP dVN dRl dRd dEx dSI dSd dTa dVC : FuncData}
theorem ok_pu {f : Addr} {fd : FuncData} (F : Fun K "purchases_of" "purchases_of" sPu f fd) (SP : TSg K mg S) (T : TX K mg C cI cU cP fI mc mp) (TQ : TP K C fP pP fdP) (N : Kind P w K mg base C D)
    (TV : TTv K mg CV fVN dVN) (R : TPr K CV fRl pRl fRd pRd fEx pEx dRl dRd dEx) (EV : TEv K mg cV cP fV fdV mp) (Y : TSd K mg S fSI fSd fTa fVC cN dSI dSd dTa dVC) (Z : TPu K mg) :
    GFn P w K mg base 7 f fd ["buyer", "travel", "first", "last"] (spPu K CV cV cN N.B N.I) ∧ CFn P w K mg base 7 f fd ["buyer", "travel", "first", "last"] (spPu K CV cV cN N.B N.I) := by
  have G1 : FnOk P w K mg base (L2.CX P w) 5 fSI dSI ["self", "buyer", "travel"] (spSpI K S CV cV N.B N.I) := ok_spI Y.uSI SP T TQ N TV R EV
  have b1 : Binds K dSI ["self", "buyer", "travel"] [] := Y.uSI.binds (ps := ["self", "buyer", "travel"]) fun _ _ _ _ _ _ us hl => match us, hl with | [_, _, _], _ => rfl
  have b2 : Binds K dVC ["count", "smallest", "largest"] [] := Y.uVC.binds (ps := ["count", "smallest", "largest"]) fun _ _ _ _ _ _ us hl => match us, hl with | [_, _, _], _ => rfl
  have b3 : Binds K dSd ["self", "day"] [] := Y.uSd.binds (ps := ["self", "day"]) fun _ _ _ _ _ _ us hl => match us, hl with | [_, _], _ => rfl
  obtain ⟨oc, od, kV, doc, pm, an, cdv, ct, osl, rfl, lk, hcd⟩ := F.ex
  refine both_of (N := NPu) lk hcd scPu ?_ fun A outer s H vs Q E pn hr h => ?_
  · rintro vs H Q E ⟨b, tv, fi, la, g, os, rfl, _⟩
    rfl
  · obtain ⟨b, tv, fi, la, g, os, rfl, dl, q1, q2, q3⟩ := h
    have hu1 : (A.deeper (envOfC "purchases_of" (defScope sPu) s.heap.objs.size f cdv)).units + 1 < cLine := Nat.lt_of_le_of_lt (Nat.add_le_add_left (by decide : 1 ≤ 64) _) hr.units
    refine ⟨_, bs_cons (b_ps (ps_set (i := 4) scPu.nd rfl (.inl rfl) (pe_make (E := E) Y.mkS G1 hr (by rfl) SP.gS b1 .nil (passes_call takes_gcx (fun _ _ _ _ h => h)) (pa_cons (pv 0) (pa_cons (pv 1) pa_nil)))))
      (bs_cons (b_ps (ps_expr (pe_call (E := E) (ok_vc (k := 0) Y.uVC Y.nc) (hr.mono (by omega)) (by rfl) Y.gVC Y.kVC b2 .nil (passes_call takes_gcx (fun _ _ _ _ h => h)) (pa_cons (pv 2) (pa_cons pe_int (pa_cons (C8.pe_gc (by rfl) Y.mD) pa_nil))))))
      (bs_cons (b_ps (ps_expr (pe_call (E := E) (ok_vc (k := 0) Y.uVC Y.nc) (hr.mono (by omega)) (by rfl) Y.gVC Y.kVC b2 .nil (passes_call takes_gcx (fun _ _ _ _ h => h)) (pa_cons (pv 3) (pa_cons (pv 2) (pa_cons (pe_callB (call_min2 rfl) (by rfl) Z.mM (by decide +kernel) (pa_cons (C8.pe_gc (by rfl) Y.mD) (pa_cons (pe_op op_sub (pe_op op_add (pv 2) (C8.pe_gc (by rfl) Z.mY)) pe_int) pa_nil))) pa_nil))))))
      (bs_cons (b_for owns_gcx rfl (pi_range2 (by rfl) Z.mR (pa_cons (pv 2) (pa_cons (pe_op op_add (pv 3) pe_int) pa_nil))) (pg_name (i := 5) scPu.nd rfl (.inl rfl))
        (bs_cons (b_ps (ps_set (i := 6) scPu.nd rfl (.inl rfl) (pe_ixt (pe_meth (pv 4) SP.cl Y.mSd (ok_sd (j := 0) Y.uSd SP) (hr.mono (by omega)) b3 .nil pass0 (pa_cons (pv 5) pa_nil)) pe_int)))
        (bs_cons (b_if (pt_cmp (pc_din hu1 (pv 6) (pe_fld (pv 4) rfl))) (bs_cons (b_yield (pe_tup (pa_cons (pv 5) (pa_cons (pe_dget hu1 (pe_fld (pv 4) rfl) (pv 6) (fun _ _ => rfl)) pa_nil)))) bs_nil) bs_nil) bs_nil))) bs_nil))), ?_⟩
    refine ⟨_, rfl, _, rfl, fun a dxa nx ndx _ => ?_⟩
    refine mkS_in N dl nx ndx (fun o tl bd d k kvs H1 s1 fo => ⟨rfl, ?_⟩) q3
    refine ⟨_, rfl, fi, 0, 1000000000000000000, rfl, fun hb H2 s2 => ?_, fun nb H2 s2 => q2 o (fun z => nb z.1) H2 (Same.trans s1 s2)⟩
    refine ⟨_, rfl, _, rfl, _, rfl, _, _, rfl, rfl, _, _, rfl, rfl, _, _, rfl, la, fi, _, rfl, fun hb2 H3 s3 => ?_, fun nb H3 s3 => q2 o (fun z => nb z.2) H3 (Same.trans (Same.trans s1 s2) s3)⟩
    have ok : puOk fi la := ⟨hb, hb2⟩
    have la1 : la ≤ 1000000000000000000 := by
      have := ok.2.2
      split at this <;> omega
    have many : (la + 1 - fi).toNat ≤ 10000 := by
      have := ok.2.2
      split at this <;> omega
    have s03 := Same.trans (Same.trans s1 s2) s3
    have fo3 := (fo.same s2).same s3
    obtain ⟨n0, hn0⟩ := Int.eq_ofNat_of_zero_le hb.1
    have hn0' : fi = (n0 : Int) := hn0
    subst hn0'
    refine ⟨_, rfl, _, rfl, _, _, rfl, rfl, _, la + 1, rfl, ⟨by omega, by omega, by omega, by omega⟩, ?_⟩
    refine gfor_rounds (I := Itr (n0 : Int) (la + 1 - (n0 : Int)).toNat) (la + 1 - (n0 : Int)).toNat (fun i ys σ H' => PsV K H' ys (pus g n0 i) ∧ (∃ v5 v6, σ = [some (.ref b), some (.ref tv), some (.int n0), some (.int la), some (.ref a), v5, v6]) ∧ Same H3 H') ⟨.nil, ⟨none, none, rfl⟩, Same.refl _⟩ ?_ ?_
    · rintro i ys σ H4 hi ⟨py, ⟨v5, v6, rfl⟩, sm⟩
      refine ⟨hi, ?_⟩
      rintro x H5 ⟨rfl, rfl⟩
      have e0 : (n0 : Int) + (i : Int) = ((n0 + i : Nat) : Int) := by omega
      rw [e0]
      have f5 := fo3.same sm
      refine ⟨_, rfl, a, dxa, _, rfl, f5.ia, rfl, _, rfl, ⟨g, a, dxa, tl, bd, d, k, n0 + i, kvs, rfl, f5, fun r H6 s6 hr6 => ?_⟩⟩
      obtain ⟨_, lt, keq, _⟩ := like_day dl.ok fo.rep (n0 + i)
      have f6 := f5.same s6
      have s36 := Same.trans sm s6
      have bo6 := f6.bo (lkD d k (n0 + i))
      rw [if_pos lt, ← bat_like keq] at bo6
      refine ⟨r, _, 0, _, rfl, rfl, .of hr6, rfl, ?_⟩
      refine ⟨_, rfl, _, rfl, a, S, dxa, _, _, rfl, f6.ia, SP.cl, SP.nB, rfl, bd, _, rfl, .k (k := .inl ((lkD d k (n0 + i) : Nat) : Int)) f6.ib, _, rfl, ?_⟩
      rw [bo6]
      cases e : bat g (n0 + i) with
      | none =>
        refine ⟨?_, ⟨_, _, rfl⟩, s36⟩
        rw [pus_succ, e]
        show PsV K H6 ys (pus g n0 i ++ [])
        rw [List.append_nil]
        exact PsV.tk (.same s6) py
      | some j =>
        rw [e] at bo6
        refine ⟨?_, _, rfl, _, rfl, a, S, dxa, _, _, rfl, f6.ia, SP.cl, SP.nB, rfl, _, rfl, bd, .int j, rfl, ?_, Nat.le_of_lt (small1000 (show 2 ≤ 1000 by decide)), fun z nz => ⟨?_, ⟨_, _, rfl⟩, Same.trans s36 (same_new nz)⟩⟩
        · rw [py.len]
          exact fits1 (Nat.le_trans (pus_len ..) (by omega))
        · have := DGet.k (k := .inl ((lkD d k (n0 + i) : Nat) : Int)) f6.ib
          rw [bo6] at this
          exact this
        · rw [pus_succ, e]
          exact ((PsV.tk (.same s6) py).tk (TK.new nz)).app (.cons ⟨z, rfl, .of upd_same⟩ .nil)
    · rintro ys σ H4 ⟨py, _, sm⟩
      exact ⟨Nat.le_refl _, q1 o ok ys H4 (Same.trans s03 sm) py⟩
end
end Sea

set_option Elab.async false
set_option linter.all false
set_option maxRecDepth 100000
set_option maxHeartbeats 4000000
/-! how buyers are made -/
namespace Sea
open PySem PySem.Spec PyProof.Rows L2 LamX NdefX ClX Evl StX
theorem scByI : FnScope ["self", "tariff"] ["self", "tariff"] (defScope sByI) := ⟨rfl, rfl, rfl, by decide +kernel, rfl, by decide +kernel, by decide +kernel⟩
abbrev NFx : List Str := ["self", "tariff", "index", "__class__"]
theorem scFxI : NScope NFx ["self", "tariff", "index"] ["__class__"] (defScope sFxI) := nscope_by (by decide +kernel)
abbrev NTn : List Str := ["self", "tariff", "indexes", "__class__", "index"]
theorem scTnI : NScope NTn ((["self", "tariff"] : List Str) ++ (["indexes"] : List Str)) ["__class__"] (defScope sTnI) := nscope_by (by decide +kernel)
abbrev NSw : List Str := ["self", "tariff", "short", "long", "limit", "__class__"]
theorem scSwI : NScope NSw ["self", "tariff", "short", "long", "limit"] ["__class__"] (defScope sSwI) := nscope_by (by decide +kernel)
abbrev fxF (t : Addr) (i : Int) : List (Str × V) := putF "favorite" (.int i) (putF "offer" (.ref t) [])
abbrev tnF (t : Addr) (sq : V) : List (Str × V) := putF "sequence" sq (putF "offer" (.ref t) [])
abbrev swF (t : Addr) (i j lim : Int) : List (Str × V) := putF "limit" (.int lim) (putF "long" (.int j) (putF "short" (.int i) (putF "offer" (.ref t) [])))
def spByI (K : PySem.W.Frag) (D : Addr) : Sp := fun vs H Q _ => ∃ (a dx : Addr) (v : V), vs = [.ref a, v] ∧ H a = some (.ins D dx []) ∧ Q .non (upd H a (.ins D dx (putF "offer" v [])))
/-- the two checks -/
structure TVl (K : PySem.W.Frag) (mg : Str → Option Value) (fVP fVC cN : Addr) (dVP dVC : FuncData) : Prop where
  gVP : mg "validate_pass" = some (.ref fVP)
  kVP : PySem.W.keepIn K (.ref fVP) = true
  uVP : Fun K "validate_pass" "validate_pass" sValid fVP dVP
  gVC : mg "validate_count" = some (.ref fVC)
  kVC : PySem.W.keepIn K (.ref fVC) = true
  uVC : Fun K "validate_count" "validate_count" sVC fVC dVC
  nc : TNc K mg cN
section
variable {K : PySem.W.Frag} {C D : Addr} {H H1 H' : Hp} {a dx t p : Addr} {L : List (Int × Int)} {v : V}
theorem ka_off (ha : H a = some (.ins D dx [])) {fs : List (Str × V)} : KA a H (upd H a (.ins D dx fs)) := fun b o e n => by
  rw [upd_ne n]
  exact e
theorem KA.trans {H2 : Hp} (k : KA a H H1) (l : KA a H1 H2) : KA a H H2 := fun b o e n => l b o (k b o e n) n
end
theorem et_eqD {K : PySem.W.Frag} {σ : L2.St} {H : Hp} {te tf : TE} {d e : PyData} (h1 : EvDp K te σ H d) (h2 : EvDp K tf σ H e) (s1 : SeqAt.shaped d = true) (s2 : SeqAt.shaped e = true) : EvT (tTest (tOp (rEqD K) te tf)) σ H (PyData.eqv d e) := fun H1 a Q q =>
  h1 H1 a _ fun v H2 e2 hv => h2 H2 (a.trans e2) _ fun u H3 e3 hu => ⟨d, e, dp_ex e3 hv, hu, s1, s2, _, rfl, q H3 (e2.trans e3)⟩
section
variable {P : Program} {w : World} {K : PySem.W.Frag} {mg : Str → Option Value} {base : Heap} {C D cI cU cP cN fI fP pP fVP fVC cc cda fBy : Addr} {mc mp md : Value} {fdP dVP dVC dBy : FuncData}
theorem ok_byI (F : Fun K "__init__" "Buyer.__init__" sByI fBy dBy) (cl : Cls K D) (nO : NoAttr K D "offer") {k : Nat} : FnOk P w K mg base CX0 (k + 1) fBy dBy ["self", "tariff"] (spByI K D) := by
  refine F.ok scByI (fun vs H Q E h => ?_) (fun cdv A outer s H vs Q E hr h => ?_)
  · obtain ⟨a, dx, v, rfl, _⟩ := h
    rfl
  · obtain ⟨a, dx, v, rfl, ha, q⟩ := h
    refine ⟨_, pss_one (ps_fld (pv 0) (pv 1) rfl), ?_⟩
    exact ⟨_, rfl, _, rfl, a, D, dx, [], rfl, ha, cl, nO, by decide, q⟩
def spFxI (K : PySem.W.Frag) (C D cU : Addr) : Sp := fun vs H Q E => ∃ (a dx t p : Addr) (L : List (Int × Int)) (i : Int), vs = [.ref a, .ref t, .int i] ∧ H a = some (.ins D dx []) ∧ Tar K C H t p L ∧
  (InP L i → ∀ H', KA a H H' → H' a = some (.ins D dx (fxF t i)) → Q .non H') ∧ (¬ InP L i → ∀ H', KA a H H' → E (.ref cU) none H')
theorem ok_fxI {f : Addr} {fd : FuncData} (F : FunC K "__init__" "FixedBuyer.__init__" sFxI cc cda f fd) (SU : SupT P K mg D cc cda fBy "__init__") (FB : Fun K "__init__" "Buyer.__init__" sByI fBy dBy)
    (T : TX K mg C cI cU cP fI mc mp) (TQ : TP K C fP pP fdP) (W : TVl K mg fVP fVC cN dVP dVC) (cl : Cls K D) (nO : NoAttr K D "offer") (nF : NoAttr K D "favorite") : FnOk P w K mg base (L2.CX P w) 5 f fd ["self", "tariff", "index"] (spFxI K C D cU) := by
  have GB : FnR P w K mg base CX0 4 fBy (fun vs H Q E => spByI K D (vs ++ []) H Q E) := (ok_byI (k := 3) FB cl nO).raw (FB.binds (ps := ["self", "tariff"]) fun _ _ _ _ _ _ us hl => match us, hl with | [_, _], _ => rfl) .nil
  have GV : FnOk P w K mg base (L2.CX P w) 3 fVP dVP ["tariff", "index"] (spValid K C cU) := ok_valid (k := 0) W.uVP T TQ
  have bVP : Binds K dVP ["tariff", "index"] [] := W.uVP.binds (ps := ["tariff", "index"]) fun _ _ _ _ _ _ us hl => match us, hl with | [_, _], _ => rfl
  refine fn_sup F scFxI SU GB rfl ⟨_, rfl, rfl, rfl⟩ rfl rfl (fun vs H Q E h => ?_) (fun _ => rfl) (fun _ => rfl) (fun _ => rfl) (fun _ => rfl) (fun A outer s H vs Q E hr h => ?_)
  · obtain ⟨a, dx, t, p, L, i, rfl, _⟩ := h
    rfl
  · obtain ⟨a, dx, t, p, L, i, rfl, ha, ht, q1, q2⟩ := h
    have PX : Passes (L2.CX P w) (ncx (L2.CX P w) P w K mg base NFx (supF "__init__" "FixedBuyer.__init__" sFxI cc cda) f A outer s H E) E := passes_call (takes_of rfl rfl rfl rfl) (fun _ _ _ _ h => h)
    refine ⟨_, _, pa_cons (pv 1) pa_nil, pss_cons (ps_expr (pe_call (E := E) GV (hr.mono (by omega)) (by rfl) W.gVP W.kVP bVP .nil PX (pa_cons (pv 1) (pa_cons (pv 2) pa_nil))))
      (pss_one (ps_fld (pv 0) (pv 2) rfl)), a, dx, [], rfl, ha, ?_⟩
    have k1 : KA a H (upd H a (.ins D dx (putF "offer" (.ref t) []))) := ka_off ha
    refine ⟨_, rfl, a, dx, .ref t, rfl, ha, ?_⟩
    refine ⟨_, rfl, _, rfl, t, p, i, L, rfl, k1.tar ha ht, fun hi => ?_, fun h => q2 h _ k1⟩
    refine ⟨_, rfl, _, rfl, a, D, dx, _, rfl, upd_same, cl, nF, show 1 < 1000 by decide, ?_⟩
    exact q1 hi _ (k1.put (.inr rfl)) upd_same
def spSwI (K : PySem.W.Frag) (C D cU cN : Addr) : Sp := fun vs H Q E => ∃ (a dx t p : Addr) (L : List (Int × Int)) (i j lim : Int), vs = [.ref a, .ref t, .int i, .int j, .int lim] ∧ H a = some (.ins D dx []) ∧ Tar K C H t p L ∧
  (InP L i → InP L j → 0 ≤ lim ∧ lim ≤ 1000000000 → ∀ H', KA a H H' → H' a = some (.ins D dx (swF t i j lim)) → Q .non H') ∧ (¬ (InP L i ∧ InP L j) → ∀ H', KA a H H' → E (.ref cU) none H') ∧
  (InP L i → InP L j → ¬ (0 ≤ lim ∧ lim ≤ 1000000000) → ∀ H', KA a H H' → E (.ref cN) none H')
theorem ok_swI {f : Addr} {fd : FuncData} (F : FunC K "__init__" "SwitchBuyer.__init__" sSwI cc cda f fd) (SU : SupT P K mg D cc cda fBy "__init__") (FB : Fun K "__init__" "Buyer.__init__" sByI fBy dBy)
    (T : TX K mg C cI cU cP fI mc mp) (TQ : TP K C fP pP fdP) (W : TVl K mg fVP fVC cN dVP dVC) (cl : Cls K D) (nO : NoAttr K D "offer") (nS : NoAttr K D "short") (nL : NoAttr K D "long") (nM : NoAttr K D "limit")
    (gD : mg "SwitchBuyer" = some (.ref D)) (cr : CRead K D md) (vM : ∃ u, CVal K D md "MAX_LIMIT" (.int 1000000000) u) : FnOk P w K mg base (L2.CX P w) 5 f fd ["self", "tariff", "short", "long", "limit"] (spSwI K C D cU cN) := by
  have GB : FnR P w K mg base CX0 4 fBy (fun vs H Q E => spByI K D (vs ++ []) H Q E) := (ok_byI (k := 3) FB cl nO).raw (FB.binds (ps := ["self", "tariff"]) fun _ _ _ _ _ _ us hl => match us, hl with | [_, _], _ => rfl) .nil
  have GV : FnOk P w K mg base (L2.CX P w) 3 fVP dVP ["tariff", "index"] (spValid K C cU) := ok_valid (k := 0) W.uVP T TQ
  have GC : FnOk P w K mg base (L2.CX P w) 1 fVC dVC ["count", "smallest", "largest"] (spVC cN) := ok_vc (k := 0) W.uVC W.nc
  have bVP : Binds K dVP ["tariff", "index"] [] := W.uVP.binds (ps := ["tariff", "index"]) fun _ _ _ _ _ _ us hl => match us, hl with | [_, _], _ => rfl
  have bVC : Binds K dVC ["count", "smallest", "largest"] [] := W.uVC.binds (ps := ["count", "smallest", "largest"]) fun _ _ _ _ _ _ us hl => match us, hl with | [_, _, _], _ => rfl
  refine fn_sup F scSwI SU GB rfl ⟨_, rfl, rfl, rfl⟩ rfl rfl (fun vs H Q E h => ?_) (fun _ => rfl) (fun _ => rfl) (fun _ => rfl) (fun _ => rfl) (fun A outer s H vs Q E hr h => ?_)
  · obtain ⟨a, dx, t, p, L, i, j, lim, rfl, _⟩ := h
    rfl
  · obtain ⟨a, dx, t, p, L, i, j, lim, rfl, ha, ht, q1, q2, q3⟩ := h
    have PX : Passes (L2.CX P w) (ncx (L2.CX P w) P w K mg base NSw (supF "__init__" "SwitchBuyer.__init__" sSwI cc cda) f A outer s H E) E := passes_call (takes_of rfl rfl rfl rfl) (fun _ _ _ _ h => h)
    refine ⟨_, _, pa_cons (pv 1) pa_nil, pss_cons (ps_expr (pe_call (E := E) GV (hr.mono (by omega)) (by rfl) W.gVP W.kVP bVP .nil PX (pa_cons (pv 1) (pa_cons (pv 2) pa_nil))))
      (pss_cons (ps_expr (pe_call (E := E) GV (hr.mono (by omega)) (by rfl) W.gVP W.kVP bVP .nil PX (pa_cons (pv 1) (pa_cons (pv 3) pa_nil))))
      (pss_cons (ps_expr (pe_call (E := E) GC (hr.mono (by omega)) (by rfl) W.gVC W.kVC bVC .nil PX (pa_cons (pv 4) (pa_cons pe_int (pa_cons (pe_clc (by rfl) gD cr vM) pa_nil)))))
      (pss_cons (ps_fld (pv 0) (pv 2) rfl) (pss_cons (ps_fld (pv 0) (pv 3) rfl) (pss_one (ps_fld (pv 0) (pv 4) rfl)))))), a, dx, [], rfl, ha, ?_⟩
    have k1 : KA a H (upd H a (.ins D dx (putF "offer" (.ref t) []))) := ka_off ha
    have tar := k1.tar ha ht
    refine ⟨_, rfl, a, dx, .ref t, rfl, ha, ?_⟩
    refine ⟨_, rfl, _, rfl, t, p, i, L, rfl, tar, fun hi => ?_, fun h => q2 (fun z => h z.1) _ k1⟩
    refine ⟨_, rfl, _, rfl, t, p, j, L, rfl, tar, fun hj => ?_, fun h => q2 (fun z => h z.2) _ k1⟩
    refine ⟨_, rfl, lim, 0, 1000000000, rfl, fun hl H1 s1 => ?_, fun h H1 s1 => q3 hi hj h _ (k1.same s1)⟩
    have a1 : H1 a = some (.ins D dx (putF "offer" (.ref t) [])) := s1 _ _ upd_same
    refine ⟨_, rfl, _, rfl, a, D, dx, _, rfl, a1, cl, nS, show 1 < 1000 by decide, ?_⟩
    refine ⟨_, rfl, _, rfl, a, D, dx, _, rfl, upd_same, cl, nL, Nat.lt_of_le_of_lt (putF_len _ _ _) (show 1 + 1 < 1000 by decide), ?_⟩
    refine ⟨_, rfl, _, rfl, a, D, dx, _, rfl, upd_same, cl, nM, Nat.lt_of_le_of_lt (Nat.le_trans (putF_len _ _ _) (Nat.succ_le_succ (putF_len _ _ _))) (show 1 + 1 + 1 < 1000 by decide), ?_⟩
    exact q1 hi hj hl _ ((((k1.same s1).put (.inr rfl)).put (.inr rfl)).put (.inr rfl)) upd_same
/-- *indexes: a tuple at sq -/
def spTnI (K : PySem.W.Frag) (C D cU cN : Addr) : Sp := fun vs H Q E => ∃ (a dx t p sq : Addr) (L : List (Int × Int)) (is : List Int), vs = [.ref a, .ref t, .ref sq] ∧ H a = some (.ins D dx []) ∧ Tar K C H t p L ∧ SqT K H sq (is.map V.int) ∧ is.length ≤ 1000 ∧
  (is ≠ [] → (∀ i ∈ is, InP L i) → ∀ H', KA a H H' → H' a = some (.ins D dx (tnF t (.ref sq))) → Q .non H') ∧ (is = [] → ∀ H', KA a H H' → E (.ref cN) none H') ∧ ((∃ i ∈ is, ¬ InP L i) → ∀ H', KA a H H' → E (.ref cU) none H')
theorem ok_tnI {f : Addr} {fd : FuncData} (F : FunC K "__init__" "TurnBuyer.__init__" sTnI cc cda f fd) (SU : SupT P K mg D cc cda fBy "__init__") (FB : Fun K "__init__" "Buyer.__init__" sByI fBy dBy)
    (T : TX K mg C cI cU cP fI mc mp) (TQ : TP K C fP pP fdP) (W : TVl K mg fVP fVC cN dVP dVC) (cl : Cls K D) (nO : NoAttr K D "offer") (nF : NoAttr K D "sequence") :
    FnR P w K mg base (L2.CX P w) 5 f (fun vs H Q E => ∃ ws rest, vs = ws ++ rest ∧ ws.length = ["self", "tariff"].length ∧ rest.length ≤ sizeLine ∧ ∀ p, H p = Option.none → spTnI K C D cU cN (ws ++ [V.ref p]) (upd H p (.tup rest)) Q E) := by
  have GB : FnR P w K mg base CX0 4 fBy (fun vs H Q E => spByI K D (vs ++ []) H Q E) := (ok_byI (k := 3) FB cl nO).raw (FB.binds (ps := ["self", "tariff"]) fun _ _ _ _ _ _ us hl => match us, hl with | [_, _], _ => rfl) .nil
  have GV : FnOk P w K mg base (L2.CX P w) 3 fVP dVP ["tariff", "index"] (spValid K C cU) := ok_valid (k := 0) W.uVP T TQ
  have bVP : Binds K dVP ["tariff", "index"] [] := W.uVP.binds (ps := ["tariff", "index"]) fun _ _ _ _ _ _ us hl => match us, hl with | [_, _], _ => rfl
  refine fn_supS F scTnI SU GB rfl ⟨_, rfl, rfl, rfl⟩ rfl rfl (fun us rest hl => ?_) (fun vs H Q E h => ?_) (fun _ => rfl) (fun _ => rfl) (fun _ => rfl) (fun _ => rfl) (fun A outer s H vs Q E hr h => ?_)
  · obtain ⟨oc, od, kV, doc, pm, an, ct, osl, rfl, lk⟩ := F.ex
    match us, hl with
    | [u, v], _ =>
      unfold bindArgs
      have e : ∀ b : Bool, (b && (defArgs sTnI).vararg.isNone) = false := fun b => by
        rw [show (defArgs sTnI).vararg.isNone = false from rfl, Bool.and_false]
      show _ = _
      simp only [PySem.W.fnX, e]
      rfl
  · obtain ⟨a, dx, t, p, sq, L, is, rfl, _⟩ := h
    rfl
  · obtain ⟨a, dx, t, p, sq, L, is, rfl, ha, ht, hs, hl, q1, q2, q3⟩ := h
    have PX : Passes (L2.CX P w) (ncx (L2.CX P w) P w K mg base NTn (supF "__init__" "TurnBuyer.__init__" sTnI cc cda) f A outer s H E) E := passes_call (takes_of rfl rfl rfl rfl) (fun _ _ _ _ h => h)
    refine ⟨_, _, pa_cons (pv 1) pa_nil, pss_cons (ps_if (pt_cmpR (op_eqD hr.units) (pv 2) (pe_tup pa_nil) (nomark _)) (pss_one (ps_raise rfl (takes_of rfl rfl rfl rfl) (pmk_own PySem.F.excBase_ValueError W.nc.qN W.nc.gN W.nc.kN (raises_own W.nc.sN W.nc.yN) (by rfl)))) pss_nil)
      (pss_cons (ps_for (passes_of rfl) rfl (pi_tup (pv 2)) (pg_name (i := 4) scTnI.nd rfl (.inl rfl)) (pss_one (ps_expr (pe_call (E := E) GV (hr.mono (by omega)) (by rfl) W.gVP W.kVP bVP .nil PX (pa_cons (pv 1) (pa_cons (pv 4) pa_nil))))))
      (pss_one (ps_fld (pv 0) (pv 2) rfl))), a, dx, [], rfl, ha, ?_⟩
    have k1 : KA a H (upd H a (.ins D dx (putF "offer" (.ref t) []))) := ka_off ha
    refine ⟨_, rfl, a, dx, .ref t, rfl, ha, ?_⟩
    have sq1 : SqT K (upd H a (.ins D dx (putF "offer" (.ref t) []))) sq (is.map V.int) := (k1.tk ha) _ _ hs
    refine s_when (b := decide (is = [])) (et_is (et_eqD (K := K) (edp_ev (v := .ref sq) (ev_var rfl) fun H2 x2 => .tup (ex_t x2 sq1) (intsDp is)) (edp_tup eda_nil (by decide)) (ints_shT is) (by decide +kernel)) (eqv_nil is)) (fun hb H1 e1 => q2 (of_decide_eq_true hb) H1 (k1.same e1)) (fun hb H1 e1 => ?_)
    have nil := of_decide_eq_false hb
    have sq2 := ex_t e1 sq1
    refine ⟨_, rfl, sq, rfl, ⟨_, sq2⟩, for_rounds (I := Itt K sq) is.length (fun i σ H' => (∃ v4, σ = [some (.ref a), some (.ref t), some (.ref sq), none, v4]) ∧ Same H1 H' ∧ ∀ j z, j < i → is[j]? = some z → InP L z) ⟨⟨none, rfl⟩, Same.refl _, fun j z hj => absurd hj (Nat.not_lt_zero _)⟩ ?_ ?_⟩
    · rintro i σ H' hi ⟨⟨v4, rfl⟩, sm, hall⟩
      have sq3 := (TK.same (K := K) sm) _ _ sq2
      have hx : is[i]? = some is[i] := List.getElem?_eq_getElem hi
      have hx2 : (is.map V.int)[i]? = some (.int is[i]) := by rw [List.getElem?_map, hx]; rfl
      refine ⟨⟨_, _, sq3, hx2⟩, ?_⟩
      rintro x H2 ⟨rfl, at_⟩
      have ex := at_ _ sq3
      rw [hx2] at ex
      cases ex
      have k2 := (k1.same e1).same sm
      refine ⟨_, rfl, _, rfl, t, p, is[i], L, rfl, k2.tar ha ht, fun ok => ⟨⟨_, rfl⟩, sm, fun j z hj hz => ?_⟩, fun no => q3 ⟨is[i], List.getElem_mem hi, no⟩ _ k2⟩
      by_cases hji : j < i
      · exact hall j z hji hz
      · obtain rfl : j = i := by omega
        rw [hx] at hz
        cases hz
        exact ok
    · rintro σ H' ⟨⟨v4, rfl⟩, sm, hall⟩
      have k2 := (k1.same e1).same sm
      refine ⟨⟨_, (TK.same (K := K) sm) _ _ sq2, by rw [List.length_map]; exact Nat.le_refl _⟩, ?_⟩
      have a2 : H' a = some (.ins D dx (putF "offer" (.ref t) [])) := sm _ _ (e1 _ _ upd_same)
      refine ⟨_, rfl, _, rfl, a, D, dx, _, rfl, a2, cl, nF, show 1 < 1000 by decide, ?_⟩
      refine q1 nil (fun z hz => ?_) _ (k2.put (.inr rfl)) upd_same
      obtain ⟨j, hj, rfl⟩ := List.getElem_of_mem hz
      exact hall j _ hj (List.getElem?_eq_getElem hj)
end
end Sea

set_option Elab.async false
set_option linter.all false
set_option maxRecDepth 100000
set_option maxHeartbeats 4000000
/-! the buyers' methods; the three kinds -/
namespace Sea
open PySem PySem.Spec PyProof.Rows L2 LamX NdefX ClX Evl StX
theorem scByT : FnScope ["self"] ["self"] (defScope sByT) := ⟨rfl, rfl, rfl, by decide +kernel, rfl, by decide +kernel, by decide +kernel⟩
theorem scByB : FnScope ["self"] ["self"] (defScope sByB) := ⟨rfl, rfl, rfl, by decide +kernel, rfl, by decide +kernel, by decide +kernel⟩
theorem scByG : FnScope ["self", "memory"] ["self", "memory"] (defScope sByG) := ⟨rfl, rfl, rfl, by decide +kernel, rfl, by decide +kernel, by decide +kernel⟩
theorem scFxC : FnScope ["self", "memory"] ["self", "memory"] (defScope sFxC) := ⟨rfl, rfl, rfl, by decide +kernel, rfl, by decide +kernel, by decide +kernel⟩
theorem scTnB : FnScope ["self"] ["self"] (defScope sTnB) := ⟨rfl, rfl, rfl, by decide +kernel, rfl, by decide +kernel, by decide +kernel⟩
theorem scTnC : FnScope ["self", "memory", "turn"] ["self", "memory"] (defScope sTnC) := ⟨rfl, rfl, rfl, by decide +kernel, rfl, by decide +kernel, by decide +kernel⟩
theorem scSwC : FnScope ["self", "memory"] ["self", "memory"] (defScope sSwC) := ⟨rfl, rfl, rfl, by decide +kernel, rfl, by decide +kernel, by decide +kernel⟩
theorem scSwG : FnScope ["self", "memory", "age"] ["self", "memory"] (defScope sSwG) := ⟨rfl, rfl, rfl, by decide +kernel, rfl, by decide +kernel, by decide +kernel⟩
/-! ### what they do, in plain words -/
def byFix (i : Int) : By := ⟨[], fun m => (i, m), id, []⟩
def byTurn (is : List Int) : By := ⟨[0], fun m => ((atI is (m.headD 0)).getD 0, [(m.headD 0 + 1).fmod is.length]), id, is⟩
def chM (ps lim : Int) (m : List Int) : Option (List Int) := if lim < ((m.length : Int) + 1) * ps then none else some (m ++ [0])
def grM (ll : Int) (m : List Int) : List Int := (m.filter fun x => decide (x + 1 < ll)).map (· + 1)
def chI (i j ps lim : Int) (m : List Int) : Int × List Int := match chM ps lim m with
  | none => (j, [])
  | some m' => (i, m')
def bySw (L : List (Int × Int)) (i j lim : Int) : By := ⟨[], chI i j (pas L i).2 lim, grM (pas L j).1, []⟩
/-! ### the objects -/
def FixB (K : PySem.W.Frag) (C D : Addr) : BuyP := fun H a L b => ∃ (t p : Addr) (i : Int), (∃ dx, H a = some (.ins D dx (fxF t i))) ∧ Tar K C H t p L ∧ InP L i ∧ b = byFix i
def TurnB (K : PySem.W.Frag) (C D : Addr) : BuyP := fun H a L b => ∃ (t p sq : Addr) (is : List Int), (∃ dx, H a = some (.ins D dx (tnF t (.ref sq)))) ∧ Tar K C H t p L ∧ SqT K H sq (is.map V.int) ∧ is ≠ [] ∧ is.length ≤ 1000 ∧ (∀ i ∈ is, InP L i) ∧ b = byTurn is
def SwB (K : PySem.W.Frag) (C D : Addr) : BuyP := fun H a L b => ∃ (t p : Addr) (i j lim : Int), (∃ dx, H a = some (.ins D dx (swF t i j lim))) ∧ Tar K C H t p L ∧ InP L i ∧ InP L j ∧ b = bySw L i j lim
theorem Tar.same {K : PySem.W.Frag} {C : Addr} {H H' : Hp} {a p : Addr} {L : List (Int × Int)} (t : Tar K C H a p L) (s : Same H H') : Tar K C H' a p L := by
  obtain ⟨⟨dx, h⟩, h2⟩ := t
  exact ⟨⟨dx, s _ _ h⟩, h2.tk (.same s)⟩
section
variable {K : PySem.W.Frag} {C D : Addr} {H H' : Hp} {a z S dx : Addr} {L : List (Int × Int)} {b : By}
theorem FixB.same (h : FixB K C D H a L b) (s : Same H H') : FixB K C D H' a L b := by
  obtain ⟨t, p, i, ⟨dx, h1⟩, h2, h3⟩ := h
  exact ⟨t, p, i, ⟨dx, s _ _ h1⟩, h2.same s, h3⟩
theorem TurnB.same (h : TurnB K C D H a L b) (s : Same H H') : TurnB K C D H' a L b := by
  obtain ⟨t, p, sq, is, ⟨dx, h1⟩, h2, h3, h4⟩ := h
  exact ⟨t, p, sq, is, ⟨dx, s _ _ h1⟩, h2.same s, (TK.same s) _ _ h3, h4⟩
theorem SwB.same (h : SwB K C D H a L b) (s : Same H H') : SwB K C D H' a L b := by
  obtain ⟨t, p, i, j, lim, ⟨dx, h1⟩, h2, h3⟩ := h
  exact ⟨t, p, i, j, lim, ⟨dx, s _ _ h1⟩, h2.same s, h3⟩
theorem FixB.move (h : FixB K C D H a L b) (hz : H z = some (.ins S dx [])) (k : KA z H H') : FixB K C D H' a L b := by
  obtain ⟨t, p, i, ⟨d1, h1⟩, h2, h3⟩ := h
  exact ⟨t, p, i, ⟨d1, k _ _ h1 (ins_apart hz h1 (fun q => by have e : (fxF t i).length = 2 := rfl; rw [q] at e; cases e))⟩, k.tar hz h2, h3⟩
theorem TurnB.move (h : TurnB K C D H a L b) (hz : H z = some (.ins S dx [])) (k : KA z H H') : TurnB K C D H' a L b := by
  obtain ⟨t, p, sq, is, ⟨d1, h1⟩, h2, h3, h4⟩ := h
  exact ⟨t, p, sq, is, ⟨d1, k _ _ h1 (ins_apart hz h1 (fun q => by have e : (tnF t (.ref sq)).length = 2 := rfl; rw [q] at e; cases e))⟩, k.tar hz h2, (k.tk hz) _ _ h3, h4⟩
theorem SwB.move (h : SwB K C D H a L b) (hz : H z = some (.ins S dx [])) (k : KA z H H') : SwB K C D H' a L b := by
  obtain ⟨t, p, i, j, lim, ⟨d1, h1⟩, h2, h3⟩ := h
  exact ⟨t, p, i, j, lim, ⟨d1, k _ _ h1 (ins_apart hz h1 (fun q => by have e : (swF t i j lim).length = 4 := rfl; rw [q] at e; cases e))⟩, k.tar hz h2, h3⟩
end
/-! ### what holds of memories -/
def IFix : By → List Int → Prop := fun _ m => m = []
def ITurn (is : List Int) : List Int → Prop := fun m => ∃ k : Nat, m = [(k : Int)] ∧ k < is.length
/-- a memory: ages, the older ahead -/
def MOk (ll : Int) (m : List Int) : Prop := m.Pairwise (· > ·) ∧ ∀ z ∈ m, 1 ≤ z ∧ z < ll
theorem grM_ok {ll : Int} {m : List Int} (h : m.Pairwise (· > ·)) (h0 : ∀ z ∈ m, 0 ≤ z) : MOk ll (grM ll m) := by
  unfold grM
  refine ⟨List.pairwise_map.mpr ((h.filter _).imp fun h => by omega), fun z hz => ?_⟩
  obtain ⟨a, ha, rfl⟩ := List.mem_map.mp hz
  obtain ⟨h1, h2⟩ := List.mem_filter.mp ha
  have := of_decide_eq_true h2
  have := h0 a h1
  omega
theorem snoc_ok {ll : Int} {m : List Int} (h : MOk ll m) : (m ++ [0]).Pairwise (· > ·) ∧ ∀ z ∈ m ++ [0], 0 ≤ z := by
  refine ⟨List.pairwise_append.mpr ⟨h.1, List.pairwise_singleton .., fun a ha b hb => ?_⟩, fun z hz => ?_⟩
  · rw [List.mem_singleton.mp hb]
    have := (h.2 a ha).1
    omega
  · rcases List.mem_append.mp hz with hz | hz
    · have := (h.2 z hz).1
      omega
    · rw [List.mem_singleton.mp hz]
      decide
theorem MOk.up {l l' : Int} {m : List Int} (h : MOk l m) (e : l ≤ l') : MOk l' m := ⟨h.1, fun z hz => ⟨(h.2 z hz).1, Int.lt_of_lt_of_le (h.2 z hz).2 e⟩⟩
theorem mok_len : ∀ (n : Nat) (m : List Int), m.Pairwise (· > ·) → (∀ z ∈ m, 1 ≤ z ∧ z ≤ n) → m.length ≤ n
  | _, [], _, _ => Nat.zero_le _
  | 0, z :: r, _, h => by
    have := h z List.mem_cons_self
    omega
  | n + 1, z :: r, hp, h => by
    have hz := h z List.mem_cons_self
    obtain ⟨p1, p2⟩ := List.pairwise_cons.mp hp
    have := mok_len n r p2 fun u hu => by
      have := p1 u hu
      have := h u (List.mem_cons_of_mem _ hu)
      omega
    rw [List.length_cons]
    omega
theorem MOk.len28 {m : List Int} (h : MOk 28 m) : m.length ≤ 27 := mok_len 27 m h.1 fun z hz => by
  have := h.2 z hz
  omega
theorem chI_snd (i j ps lim : Int) (m : List Int) : (chI i j ps lim m).2 = [] ∨ (chI i j ps lim m).2 = m ++ [0] := by
  unfold chI chM
  by_cases h : lim < ((m.length : Int) + 1) * ps
  · rw [if_pos h]
    exact .inl rfl
  · rw [if_neg h]
    exact .inr rfl
theorem chI_fst (i j ps lim : Int) (m : List Int) : (chI i j ps lim m).1 = i ∨ (chI i j ps lim m).1 = j := by
  unfold chI chM
  by_cases h : lim < ((m.length : Int) + 1) * ps
  · rw [if_pos h]
    exact .inr rfl
  · rw [if_neg h]
    exact .inl rfl
theorem fix_ok {L : List (Int × Int)} {i : Int} (h : InP L i) : (byFix i).Ok L (IFix (byFix i)) := ⟨rfl, fun m hm => ⟨h, hm⟩, fun m hm => hm, fun m hm => by
  have hm : m = [] := hm
  subst hm
  exact ⟨Nat.zero_le _, Nat.zero_le _⟩⟩
theorem turn_ok {L : List (Int × Int)} {is : List Int} (h : ∀ i ∈ is, InP L i) (n : is ≠ []) : (byTurn is).Ok L (ITurn is) := by
  have pos : 0 < is.length := List.length_pos_iff.mpr n
  refine ⟨⟨0, rfl, pos⟩, ?_, fun m hm => hm, ?_⟩
  · rintro m ⟨k, rfl, hk⟩
    have at_ : atI is (k : Int) = some is[k] := at_nat hk (List.getElem?_eq_getElem hk)
    refine ⟨?_, ((k + 1) % is.length), ?_, Nat.mod_lt _ pos⟩
    · show InP L ((atI is (k : Int)).getD 0)
      rw [at_]
      exact h _ (List.getElem_mem hk)
    · show [((k : Int) + 1).fmod is.length] = _
      rw [Int.fmod_eq_emod_of_nonneg _ (by omega)]
      rfl
  · rintro m ⟨k, rfl, hk⟩
    exact ⟨show 1 ≤ 800 by decide, show 1 ≤ 800 by decide⟩
theorem sw_ok {L : List (Int × Int)} {i j lim : Int} (hi : InP L i) (hj : InP L j) (hl : (pas L j).1 ≤ 28) : (bySw L i j lim).Ok L (MOk 28) := by
  have gr : ∀ m : List Int, m.Pairwise (· > ·) → (∀ z ∈ m, 0 ≤ z) → MOk 28 (grM (pas L j).1 m) := fun m h1 h2 => (grM_ok h1 h2).up hl
  refine ⟨⟨.nil, fun z hz => nomatch hz⟩, fun m hm => ⟨?_, ?_⟩, fun m hm => gr m hm.1 fun z hz => by have := (hm.2 z hz).1; omega, fun m hm => ⟨by have := hm.len28; omega, ?_⟩⟩
  · show InP L (chI i j (pas L i).2 lim m).1
    rcases chI_fst i j (pas L i).2 lim m with e | e
    · rw [e]; exact hi
    · rw [e]; exact hj
  · show MOk 28 (grM (pas L j).1 (chI i j (pas L i).2 lim m).2)
    rcases chI_snd i j (pas L i).2 lim m with e | e
    · rw [e]; exact gr [] .nil fun z hz => nomatch hz
    · rw [e]
      obtain ⟨h1, h2⟩ := snoc_ok hm
      exact gr _ h1 h2
  · show (chI i j (pas L i).2 lim m).2.length ≤ 800
    have := hm.len28
    rcases chI_snd i j (pas L i).2 lim m with e | e
    · rw [e]; exact Nat.zero_le _
    · rw [e, List.length_append]
      show m.length + 1 ≤ 800
      omega
end Sea

set_option Elab.async false
set_option linter.all false
set_option maxRecDepth 100000
set_option maxHeartbeats 4000000
/-! the buyers' methods -/
namespace Sea
open PySem PySem.Spec PyProof.Rows L2 LamX NdefX ClX Evl StX
/-- the properties lengths and prices -/
structure TLp (K : PySem.W.Frag) (C fL pL fR pR : Addr) (dL dR : FuncData) : Prop where
  pL : PropOf K C "lengths" pL fL
  uL : Fun K "lengths" "Tariff.lengths" sLengths fL dL
  pR : PropOf K C "prices" pR fR
  uR : Fun K "prices" "Tariff.prices" sPrices fR dR
section
variable {X : Cx} {C cI cU cP fI fL pL fR pR : Addr} {mc mp : Value} {dL dR : FuncData} {e : Expr} {te : TE} {pos : Pos}
theorem pe_lens (K : PySem.W.Frag) (hK : X.K = K) (T : TLp K C fL pL fR pR dL dR) (TT : TX K X.mg C cI cU cP fI mc mp) (hr : Room 2 X.A) (he : PE X e te) (hab : attributeBase e "lengths" X.env (eval e X.env) = eval e X.env := by rfl) : PE X (.Attribute e "lengths" pos) (tProp C (spCol K C Prod.fst) [] E0 te) := by
  subst hK
  exact pe_prop he TT.cl T.pL (ok_lengths (k := 0) T.uL TT) hr (T.uL.binds (ps := ["self"]) fun _ _ _ _ _ _ us hl => match us, hl with | [_], _ => rfl) .nil pass0 hab
theorem pe_pris (K : PySem.W.Frag) (hK : X.K = K) (T : TLp K C fL pL fR pR dL dR) (TT : TX K X.mg C cI cU cP fI mc mp) (hr : Room 2 X.A) (he : PE X e te) (hab : attributeBase e "prices" X.env (eval e X.env) = eval e X.env := by rfl) : PE X (.Attribute e "prices" pos) (tProp C (spCol K C Prod.snd) [] E0 te) := by
  subst hK
  exact pe_prop he TT.cl T.pR (ok_prices (k := 0) T.uR TT) hr (T.uR.binds (ps := ["self"]) fun _ _ _ _ _ _ us hl => match us, hl with | [_], _ => rfl) .nil pass0 hab
end
theorem pe_fldK {X : Cx} {e : Expr} {ta : TE} {f : Str} {pos : Pos} (K : PySem.W.Frag) (hK : X.K = K) (he : PE X e ta) (hb : attributeBase e f X.env (eval e X.env) = eval e X.env) : PE X (.Attribute e f pos) (tFld K ta f) := hK ▸ pe_fld he hb
section
variable {K : PySem.W.Frag} {C D : Addr} {σ : L2.St} {H : Hp}
/-- e.lengths or e.prices, at i -/
theorem ev_col {te ti : TE} {t p : Addr} {L : List (Int × Int)} {i : Int} {x : Int × Int} {f : Int × Int → Int} (h : Ev te σ H (.ref t)) (ht : Tar K C H t p L) (hL : L.length ≤ 1000) (hi : Ev ti σ H (.int i)) (hx : atI L i = some x) :
    Ev (tOp (rIxT K) (tProp C (spCol K C f) [] E0 te) ti) σ H (.int (f x)) := fun H1 e Q q =>
  h H1 e _ fun H2 e2 => by
    obtain ⟨⟨dx, hd⟩, hp⟩ := ht.same (e.trans e2)
    refine ⟨t, dx, _, rfl, hd, t, p, L, rfl, ⟨⟨dx, hd⟩, hp⟩, hL, fun r H3 s3 hr => ?_⟩
    refine hi H3 (e.trans (e2.trans s3)) _ fun H4 e4 => ⟨r, _, i, _, rfl, rfl, .of (e4 _ _ hr), ?_, q H4 (e2.trans (Ex.trans s3 e4))⟩
    unfold atI at hx ⊢
    rw [List.length_map]
    cases e : ixN L.length i with
    | none =>
      rw [e] at hx
      cases hx
    | some j =>
      rw [e] at hx
      show (L.map fun x => V.int (f x))[j]? = _
      rw [List.getElem?_map, show L[j]? = some x from hx]
      rfl
theorem swF_o (t : Addr) (i j lim : Int) : (swF t i j lim).lookup ("offer" : Str) = some (.ref t) := rfl
theorem swF_s (t : Addr) (i j lim : Int) : (swF t i j lim).lookup ("short" : Str) = some (.int i) := rfl
theorem swF_l (t : Addr) (i j lim : Int) : (swF t i j lim).lookup ("long" : Str) = some (.int j) := rfl
theorem swF_m (t : Addr) (i j lim : Int) : (swF t i j lim).lookup ("limit" : Str) = some (.int lim) := rfl
/-- self.f -/
theorem ev_own {k : Nat} {a dx : Addr} {fs : List (Str × V)} {f : Str} {v : V} (ha : H a = some (.ins D dx fs)) (c : Cls K D) (n : NoAttr K D f) (hs : σ[k]? = some (some (.ref a))) (h : fs.lookup f = some v) : Ev (tFld K (tVar k) f) σ H v := fun H1 e Q q =>
  ⟨.ref a, hs, a, D, dx, _, v, rfl, e _ _ ha, c, n, h, q H1 (Ex.refl H1)⟩
end
theorem eu_ofL {K : PySem.W.Frag} {σ : L2.St} {H : Hp} {te : TE} {xs : List V} (h : EvL te σ H xs) : EvU (tCB (fun xs H Q => ∃ p ys, xs = [.ref p] ∧ ((SqL K H p ys ∧ ∀ l, H l = none → Q (.ref l) (upd H l (.tup ys))) ∨ (SqT K H p ys ∧ Q (.ref p) H))) (tCons te tNil)) σ H xs := fun H1 e Q q =>
  h H1 e _ fun p H2 np e2 hp => ⟨p, xs, rfl, .inl ⟨.of hp, fun l nl => q l _ (fresh_back e2 nl) (e2.trans (Ex.new nl)) upd_same⟩⟩
theorem given_map (os : List Int) (f : Int → Bool) (g : Int → Int) : ∀ n, n ≤ os.length → given n (fun i => f (os.getD i 0)) (fun i => .int (g (os.getD i 0))) = (((os.take n).filter f).map g).map V.int
  | 0, _ => rfl
  | n + 1, h => by
    have at_ : os[n]? = some os[n] := List.getElem?_eq_getElem (by omega)
    have gd : os.getD n 0 = os[n] := by rw [List.getD_eq_getElem?_getD, at_]; rfl
    rw [take_snoc at_, List.filter_append, List.map_append, List.map_append, ← given_map os f g n (by omega)]
    cases e : f os[n] with
    | true => rw [given_yes (by rw [gd, e]), gd, List.filter_cons_of_pos e]; rfl
    | false => rw [given_no (by rw [gd, e]), List.filter_cons_of_neg (by rw [e]; decide), List.filter_nil, List.map_nil, List.map_nil, List.append_nil]
theorem ev_lenE {K : PySem.W.Frag} {σ : L2.St} {H : Hp} {te : TE} {p : Addr} {xs : List V} (h : Ev te σ H (.ref p)) (hx : SqT K H p xs) : Ev (tCB (fun xs H Q => ∃ p ys, xs = [V.ref p] ∧ (SqL K H p ys ∨ SqT K H p ys) ∧ Q (.int ys.length) H) (tCons te tNil)) σ H (.int (xs.length : Int)) := fun H1 e Q q =>
  h H1 e _ fun H2 e2 => ⟨p, xs, rfl, .inr ((TK.same (e.trans e2)) _ _ hx), q H2 e2⟩
/-- the names that instances of the classes hold -/
structure TNm (K : PySem.W.Frag) (mg : Str → Option Value) (DF DT DS : Addr) : Prop where
  cF : Cls K DF
  cT : Cls K DT
  cS : Cls K DS
  fO : NoAttr K DF "offer"
  tO : NoAttr K DT "offer"
  sO : NoAttr K DS "offer"
  fF : NoAttr K DF "favorite"
  tS : NoAttr K DT "sequence"
  sS : NoAttr K DS "short"
  sL : NoAttr K DS "long"
  sM : NoAttr K DS "limit"
  mI : mg "int" = none
section
variable {P : Program} {w : World} {K : PySem.W.Frag} {mg : Str → Option Value} {base : Heap} {C D DF DT DS cI cU cP cN fI fP pP fVP fVC fL pL fR pR : Addr} {mc mp md : Value} {fdP dVP dVC dL dR : FuncData}
/-- () -/
theorem ok_beg {f : Addr} {fd : FuncData} {k : Nat} {B : BuyP} (F : Fun K "beginning" "Buyer.beginning" sByB f fd) (hB : ∀ {H a L b}, B H a L b → b.beg = []) : FnOk P w K mg base CX0 (k + 1) f fd ["self"] (spBegK K B) := by
  refine F.ok scByB (fun vs H Q E h => ?_) (fun cdv A outer s H vs Q E hr h => ?_)
  · obtain ⟨a, L, b, rfl, _⟩ := h
    rfl
  · obtain ⟨a, L, b, rfl, hb, q⟩ := h
    refine ⟨_, pss_one (ps_ret (pe_tup pa_nil)), ?_⟩
    refine ⟨Nat.zero_le _, fun r nr => q (.ref r) _ (same_new nr) ?_⟩
    rw [hB hb]
    exact ⟨r, rfl, .of upd_same⟩
theorem ok_stay {f : Addr} {fd : FuncData} {k : Nat} {B : BuyP} (F : Fun K "grow_older" "Buyer.grow_older" sByG f fd) (hB : ∀ {H a L b}, B H a L b → b.gr = id) : FnOk P w K mg base CX0 (k + 1) f fd ["self", "memory"] (spGrK K B) := by
  refine F.ok scByG (fun vs H Q E h => ?_) (fun cdv A outer s H vs Q E hr h => ?_)
  · obtain ⟨a, L, b, v, m, rfl, _⟩ := h
    rfl
  · obtain ⟨a, L, b, v, m, rfl, hb, _, hm, _, q⟩ := h
    refine ⟨_, pss_one (ps_ret (pv 1)), ?_⟩
    refine ⟨_, rfl, q v H (Same.refl H) ?_⟩
    rw [hB hb]
    exact hm
theorem ok_byT {fT : Addr} {dT : FuncData} (F : Fun K "tariff" "Buyer.tariff" sByT fT dT) (c : Cls K D) (n : NoAttr K D "offer") {k : Nat} : FnOk P w K mg base CX0 (k + 1) fT dT ["self"] (getSp D "offer") := by
  obtain ⟨oc, od, kV, doc, pm, an, cdv, ct, osl, rfl, lk, hcd⟩ := F.ex
  exact fn_getter lk hcd scByT rfl rfl c n
theorem ok_fxC {f : Addr} {fd : FuncData} {k : Nat} (F : Fun K "choose" "FixedBuyer.choose" sFxC f fd) (W : TNm K mg DF DT DS) : FnOk P w K mg base CX0 (k + 1) f fd ["self", "memory"] (spChK K (FixB K C DF) IFix) := by
  refine F.ok scFxC (fun vs H Q E h => ?_) (fun cdv A outer s H vs Q E hr h => ?_)
  · obtain ⟨a, L, b, v, m, rfl, _⟩ := h
    rfl
  · obtain ⟨a, L, b, v, m, rfl, ⟨t, p, i, ⟨dx, ha⟩, ht, hi, rfl⟩, _, hm, _, _, q⟩ := h
    refine ⟨_, pss_one (ps_ret (pe_tup (pa_cons (pe_fld (pv 0) rfl) (pa_cons (pv 1) pa_nil)))), ?_⟩
    refine ⟨_, rfl, a, DF, dx, _, _, rfl, ha, W.cF, W.fF, rfl, _, rfl, Nat.le_of_lt (small1000 (show 2 ≤ 1000 by decide)), fun r nr => q r v _ (same_new nr) (.of upd_same) (hm.tk (TK.new nr))⟩
theorem ok_tnB {f : Addr} {fd : FuncData} {k : Nat} (F : Fun K "beginning" "TurnBuyer.beginning" sTnB f fd) : FnOk P w K mg base CX0 (k + 1) f fd ["self"] (spBegK K (TurnB K C D)) := by
  refine F.ok scTnB (fun vs H Q E h => ?_) (fun cdv A outer s H vs Q E hr h => ?_)
  · obtain ⟨a, L, b, rfl, _⟩ := h
    rfl
  · obtain ⟨a, L, b, rfl, ⟨t, p, sq, is, _, _, _, _, _, _, rfl⟩, q⟩ := h
    refine ⟨_, pss_one (ps_ret (pe_tup (pa_cons pe_int pa_nil))), ?_⟩
    exact ⟨Nat.le_of_lt (small1000 (show 1 ≤ 1000 by decide)), fun r nr => q (.ref r) _ (same_new nr) ⟨r, rfl, .of upd_same⟩⟩
abbrev ITn : By → List Int → Prop := fun b m => ITurn b.tag m
theorem ok_tnC {f : Addr} {fd : FuncData} {k : Nat} (F : Fun K "choose" "TurnBuyer.choose" sTnC f fd) (T : TX K mg C cI cU cP fI mc mp) (W : TNm K mg DF DT DS) : FnOk P w K mg base CX0 (k + 1) f fd ["self", "memory"] (spChK K (TurnB K C DT) ITn) := by
  refine F.ok scTnC (fun vs H Q E h => ?_) (fun cdv A outer s H vs Q E hr h => ?_)
  · obtain ⟨a, L, b, v, m, rfl, _⟩ := h
    rfl
  · obtain ⟨a, L, b, v, m, rfl, ⟨t, p, sq, is, ⟨dx, ha⟩, ht, hs, n0, n1, hi, rfl⟩, _, ⟨pm, rfl, hm⟩, ⟨j, rfl, hj⟩, _, q⟩ := h
    have hj : j < is.length := hj
    refine ⟨_, pss_cons (ps_set (i := 2) scTnC.nd rfl (.inl rfl) (pe_ixt (pv 1) pe_int))
      (pss_one (ps_ret (pe_tup (pa_cons (pe_ixt (pe_fld (pv 0) rfl) (pv 2)) (pa_cons (pe_tup (pa_cons (pe_op op_modN (pe_callTy call_int1 (by rfl) W.mI (by rfl) (pa_cons (pe_op op_add (pv 2) pe_int) pa_nil)) (pe_callB call_len_seq (by rfl) T.mN PySem.boot_len (pa_cons (pe_fld (pv 0) rfl) pa_nil))) pa_nil)) pa_nil))))), ?_⟩
    have at_ : atI is (j : Int) = some is[j] := at_nat hj (List.getElem?_eq_getElem hj)
    have at2 : atI (is.map V.int) (j : Int) = some (.int is[j]) := at_nat (by rw [List.length_map]; exact hj) (by rw [List.getElem?_map, List.getElem?_eq_getElem hj]; rfl)
    have eA : (byTurn is).ch [(j : Int)] = (is[j], [((j : Int) + 1).fmod is.length]) := by
      show ((atI is (j : Int)).getD 0, _) = _
      rw [at_]
      rfl
    have s1k : ∀ {n : Nat}, n ≤ 1000 → n ≤ sizeLine := fun h => Nat.le_of_lt (small1000 h)
    refine q_asg (v := .int (j : Int)) (ev_op (ev_var rfl) ev_c (rv_ixT hm rfl)) fun H1 e1 => ?_
    have s1 : Same H H1 := e1
    unfold tRet tTup tCons
    refine (ev_op (ev_own (s1 _ _ ha) W.cT W.tS rfl rfl) (ev_var rfl) (rv_ixT ((TK.same s1) _ _ hs) at2) : Ev _ [some (.ref a), some (.ref pm), some (.int (j : Int))] H1 (.int is[j])) H1 (Ex.refl H1) _ fun H2 e2 => ?_
    have s2 := Same.trans s1 e2
    refine (ev_op (ev_int1 (ev_op (ev_var rfl) ev_c rv_I0)) (ev_is (ev_lenE (ev_own (s2 _ _ ha) W.cT W.tS rfl rfl) ((TK.same s2) _ _ hs)) (by rw [List.length_map])) (rv_I (C := fun _ j => j ≠ 0) (g := fun i j => .int (i.fmod j)) (i := (j : Int) + 1) (j := (is.length : Int)) (by omega)) : Ev _ [some (.ref a), some (.ref pm), some (.int (j : Int))] H2 (.int (((j : Int) + 1).fmod is.length))) H2 (Ex.refl H2) _ fun H3 e3 => ?_
    have s3 := Same.trans s2 e3
    refine ⟨s1k (show 1 ≤ 1000 by decide), fun z nz => ⟨s1k (show 2 ≤ 1000 by decide), fun r nr => ?_⟩⟩
    refine q r (.ref z) _ (Same.trans (Same.trans s3 (same_new nz)) (same_new nr)) ?_ ?_
    · rw [eA]
      exact .of upd_same
    · rw [eA]
      exact ⟨z, rfl, .of (same_new nr _ _ upd_same)⟩
theorem ok_swC {f : Addr} {fd : FuncData} (F : Fun K "choose" "SwitchBuyer.choose" sSwC f fd) (T : TX K mg C cI cU cP fI mc mp) (LP : TLp K C fL pL fR pR dL dR) (W : TNm K mg DF DT DS) : FnOk P w K mg base CX0 3 f fd ["self", "memory"] (spChK K (SwB K C DS) fun _ => MOk 28) := by
  refine F.ok scSwC (fun vs H Q E h => ?_) (fun cdv A outer s H vs Q E hr h => ?_)
  · obtain ⟨a, L, b, v, m, rfl, _⟩ := h
    rfl
  · obtain ⟨a, L, b, v, m, rfl, ⟨t, p, i, j, lim, ⟨dx, ha⟩, ht, hi, hj, rfl⟩, hL, hm, hI, hOk, q⟩ := h
    have l9 : m.length ≤ 800 := (hOk.len m hI).1
    have hx := hi.pas.1
    have q : ∀ (r : Addr) (v' : V) H', Same H H' → SqT K H' r [.int (chI i j (pas L i).2 lim m).1, v'] → TiA K H' v' (chI i j (pas L i).2 lim m).2 → Q (.ref r) H' := q
    generalize pas L i = x at hx q
    refine ⟨_, pss_cons (ps_if (pt_cmpR op_gt (pe_op op_mul (pe_op op_add (pe_callB call_len_seq (by rfl) T.mN PySem.boot_len (pa_cons (pv 1) pa_nil)) pe_int) (pe_ixt (pe_pris K rfl LP T hr (pe_fld (pv 0) rfl)) (pe_fld (pv 0) rfl))) (pe_fld (pv 0) rfl) (nomark _))
        (pss_one (ps_ret (pe_tup (pa_cons (pe_fld (pv 0) rfl) (pa_cons (pe_tup pa_nil) pa_nil))))) pss_nil)
      (pss_one (ps_ret (pe_tup (pa_cons (pe_fld (pv 0) rfl) (pa_cons (pe_op op_catA (pv 1) (pe_tup (pa_cons pe_int pa_nil))) pa_nil))))), ?_⟩
    obtain ⟨pm, rfl, hm⟩ := hm
    have hlen : (m.map V.int).length = m.length := List.length_map ..
    have ch : (chI i j x.2 lim m) = if lim < ((m.length : Int) + 1) * x.2 then (j, []) else (i, m ++ [0]) := by
      unfold chI chM
      by_cases h : lim < ((m.length : Int) + 1) * x.2
      · rw [if_pos h, if_pos h]
      · rw [if_neg h, if_neg h]
    refine q_when (b := decide (lim < ((m.length : Int) + 1) * x.2)) (et_test (ev_op (ev_op (ev_op (ev_is (ev_lenT rfl hm) (by rw [hlen])) ev_c rv_I0) (ev_col (ev_own ha W.cS W.sO rfl (swF_o ..)) ht hL (ev_own ha W.cS W.sS rfl (swF_s ..)) hx) (rv_I (.inl ⟨by omega, by omega⟩))) (ev_own ha W.cS W.sM rfl (swF_m ..)) (rv_I0 (g := fun i j => .bl (decide (j < i)))))) (fun hc H1 e1 => ?_) (fun hc H1 e1 => ?_)
    · rw [if_pos (of_decide_eq_true hc)] at ch
      unfold tRet tTup tCons
      refine (ev_own (k := 0) (σ := [some (.ref a), some (.ref pm)]) ha W.cS W.sL rfl (swF_l t i j lim)) H1 e1 _ fun H2 e2 => ?_
      refine ⟨Nat.zero_le _, fun z nz => ⟨Nat.le_of_lt (small1000 (show 2 ≤ 1000 by decide)), fun r nr => ?_⟩⟩
      refine q r (.ref z) _ (((e1.trans e2).trans (same_new nz)).trans (same_new nr)) ?_ ⟨z, ?_⟩
      · rw [ch]
        exact .of upd_same
      · rw [ch]
        exact ⟨rfl, .of (same_new nr _ _ upd_same)⟩
    · rw [if_neg (of_decide_eq_false hc)] at ch
      unfold tRet tTup tCons
      refine (ev_own (k := 0) (σ := [some (.ref a), some (.ref pm)]) ha W.cS W.sS rfl (swF_s t i j lim)) H1 e1 _ fun H2 e2 => ?_
      refine ⟨.ref pm, rfl, Nat.le_of_lt (small1000 (show 1 ≤ 1000 by decide)), fun y ny => ?_⟩
      have s2 : Same H (upd H2 y (.tup [.int 0])) := (e1.trans e2).trans (same_new ny)
      have hm2 := (TK.same s2) _ _ hm
      have fin : ∀ (z : Addr) (H3 : Hp), Same H H3 → SqT K H3 z ((m ++ [0]).map V.int) → ∀ r, H3 r = none → Q (V.ref r) (upd H3 r (.tup [V.int i, V.ref z])) := fun z H3 s3 hz r nr => by
        refine q r (V.ref z) _ (s3.trans (same_new nr)) ?_ ⟨z, ?_⟩
        · rw [ch]
          exact .of upd_same
        · rw [ch]
          exact ⟨rfl, (TK.new nr) _ _ hz⟩
      have l2 : 2 ≤ sizeLine := Nat.le_of_lt (small1000 (show 2 ≤ 1000 by decide))
      refine ⟨pm, y, _, _, rfl, rfl, hm2, .of upd_same, Nat.le_of_lt (small1000 ?_), fun he => ?_, fun _ he => absurd he (by simp), fun _ _ z nz => ?_⟩
      · rw [hlen]
        show m.length + 1 ≤ 1000
        omega
      · refine ⟨l2, fin y _ s2 ?_⟩
        have : m = [] := by
          cases m with
          | nil => rfl
          | cons _ _ => cases he
        rw [this]
        exact .of upd_same
      · refine ⟨l2, fin z _ (s2.trans (same_new nz)) ?_⟩
        rw [List.map_append]
        exact .of upd_same
theorem ok_swG {f : Addr} {fd : FuncData} (F : Fun K "grow_older" "SwitchBuyer.grow_older" sSwG f fd) (T : TX K mg C cI cU cP fI mc mp) (LP : TLp K C fL pL fR pR dL dR) (W : TNm K mg DF DT DS) : FnOk P w K mg base CX0 3 f fd ["self", "memory"] (spGrK K (SwB K C DS)) := by
  refine F.ok scSwG (fun vs H Q E h => ?_) (fun cdv A outer s H vs Q E hr h => ?_)
  · obtain ⟨a, L, b, v, m, rfl, _⟩ := h
    rfl
  · obtain ⟨a, L, b, v, m, rfl, ⟨t, p, i, j, lim, ⟨dx, ha⟩, ht, hi, hj, rfl⟩, hL, hm, l9, q⟩ := h
    have hx := hj.pas.1
    have q : ∀ (v' : V) H', Same H H' → TiA K H' v' (grM (pas L j).1 m) → Q v' H' := q
    generalize pas L j = x at hx q
    refine ⟨_, pss_one (ps_ret (pe_callTy call_tuple_of (by rfl) T.mT (by rfl) (pa_cons (pe_lc (own := [("age", 2)]) (g := gName 2) (by rfl) scSwG.nd (pi_tup (pv 1)) (blkOk_by (own := [("age", 2)]) (N := ["self", "memory", "age"]) (sc := defScope sSwG) (by decide +kernel))
        (fun _ _ _ _ _ => pg_name (i := 2) scSwG.nd rfl (Or.inl rfl))
        (fun _ _ _ hrb _ => pts_one (pt_cmpR op_lt (pe_op op_add (pv 2) pe_int) (pe_ixtK K rfl (pe_lens K rfl LP T hr (pe_fldK K rfl (pv 0) rfl)) (pe_fldK K rfl (pv 0) rfl)) (nomark _))) (fun _ _ _ _ _ => pe_op op_add (pv 2) pe_int)) pa_nil))), ?_⟩
    obtain ⟨pm, rfl, hm⟩ := hm
    have hlen : (m.map V.int).length = m.length := List.length_map ..
    have item : ∀ (i : Nat) (y : V), (m.map V.int)[i]? = some y → y = .int (m.getD i 0) := fun i y hy => by
      rw [List.getElem?_map] at hy
      cases hi : m[i]? with
      | none =>
        rw [hi] at hy
        cases hy
      | some z =>
        rw [hi] at hy
        cases hy
        rw [List.getD_eq_getElem?_getD, hi]
        rfl
    refine s_retU (eu_ofL (el_lcTup (K := K) (j := 2) (vs := [2]) (fun i => decide (m.getD i 0 + 1 < x.1)) (fun i => .int (m.getD i 0 + 1)) (ev_var rfl) hm (by rw [hlen]; omega) (fun _ => rfl) (fun n y H1 e1 hy => ?_) (fun n y H1 e1 hy _ => ?_))) (fun r H1 _ e1 h1 => ?_)
    · rw [item n y hy]
      have t1 := ht.same e1
      exact et_test (ev_op (ev_op (ev_var rfl) ev_c rv_I0) (ev_col (ev_own (e1 _ _ ha) W.cS W.sO rfl (swF_o ..)) t1 hL (ev_own (e1 _ _ ha) W.cS W.sL rfl (swF_l ..)) hx) (rv_I0 (g := fun i j => .bl (decide (i < j)))))
    · rw [item n y hy]
      exact ev_op (ev_var rfl) ev_c rv_I0
    · rw [hlen, given_map m (fun z => decide (z + 1 < x.1)) (· + 1) m.length (Nat.le_refl _), List.take_length] at h1
      exact q (.ref r) H1 e1 ⟨r, rfl, .of h1⟩

end
end Sea

set_option Elab.async false
set_option linter.all false
set_option maxRecDepth 100000
set_option maxHeartbeats 4000000
/-! that every simulation of the law comes back in time -/
namespace Sea
open PySem PySem.Spec PyProof.Rows L2 LamX NdefX ClX Evl StX
def mems : Nat → Nat → List (List Int)
  | 0, _ => [[]]
  | _ + 1, 0 => [[]]
  | n + 1, k + 1 => mems n (k + 1) ++ (mems n k).map fun m => ((n : Int) + 1) :: m
def cnt : Nat → Nat → Nat
  | 0, _ => 1
  | _ + 1, 0 => 1
  | n + 1, k + 1 => cnt n (k + 1) + cnt n k
theorem mems_len : ∀ n k, (mems n k).length = cnt n k
  | 0, _ => by unfold mems cnt; rfl
  | _ + 1, 0 => by unfold mems cnt; rfl
  | n + 1, k + 1 => by
    unfold mems cnt
    rw [List.length_append, List.length_map, mems_len n (k + 1), mems_len n k]
theorem cnt_27 : cnt 27 6 = 397594 := by decide +kernel
theorem in_mems : ∀ (n k : Nat) (m : List Int), m.Pairwise (· > ·) → (∀ z ∈ m, 1 ≤ z ∧ z ≤ n) → m.length ≤ k → m ∈ mems n k
  | 0, _, [], _, _, _ => by unfold mems; exact List.mem_singleton.mpr rfl
  | 0, _, z :: r, _, h, _ => by
    have := h z List.mem_cons_self
    omega
  | n + 1, 0, [], _, _, _ => by unfold mems; exact List.mem_singleton.mpr rfl
  | n + 1, 0, z :: r, _, _, h => by
    rw [List.length_cons] at h
    omega
  | n + 1, k + 1, [], _, _, _ => by
    unfold mems
    exact List.mem_append_left _ (in_mems n (k + 1) [] .nil (fun z hz => nomatch hz) (Nat.zero_le _))
  | n + 1, k + 1, z :: r, hp, h, hk => by
    have hz := h z List.mem_cons_self
    obtain ⟨p1, p2⟩ := List.pairwise_cons.mp hp
    have small : ∀ u ∈ r, 1 ≤ u ∧ u < z := fun u hu => ⟨(h u (List.mem_cons_of_mem _ hu)).1, p1 u hu⟩
    unfold mems
    by_cases e : z = (n : Int) + 1
    · subst e
      rw [List.length_cons] at hk
      exact List.mem_append_right _ (List.mem_map.mpr ⟨r, in_mems n k r p2 (fun u hu => by have := small u hu; omega) (by omega), rfl⟩)
    · refine List.mem_append_left _ (in_mems n (k + 1) (z :: r) hp (fun u hu => ?_) hk)
      rcases List.mem_cons.mp hu with rfl | hu
      · omega
      · have := small u hu
        omega
theorem nodup_len {α : Type} [DecidableEq α] : ∀ (l m : List α), l.Nodup → (∀ x ∈ l, x ∈ m) → l.length ≤ m.length
  | [], _, _, _ => Nat.zero_le _
  | a :: r, m, hn, h => by
    obtain ⟨n1, n2⟩ := List.nodup_cons.mp hn
    have ha := h a List.mem_cons_self
    have := nodup_len r (m.erase a) n2 fun x hx => (List.mem_erase_of_ne (fun e => n1 (by rw [← e]; exact hx))).mpr (h x (List.mem_cons_of_mem _ hx))
    rw [List.length_erase_of_mem ha] at this
    have : 0 < m.length := List.length_pos_of_mem ha
    rw [List.length_cons]
    omega
theorem flat_len {α β : Type} {f : α → List β} {k : Nat} (h : ∀ a, (f a).length = k) : ∀ l : List α, (l.flatMap f).length = l.length * k
  | [] => by simp
  | a :: r => by
    rw [List.flatMap_cons, List.length_append, h, flat_len h r, List.length_cons, Nat.succ_mul]
    omega
/-- few states, few days -/
theorem few_of {g : Par} {I : List Int → Prop} (o : g.Ok I) (sts : List (Int × List Int)) (n : Nat) (hn : 14 * sts.length ≤ n) (h : ∀ d, ((sim g d).1, (sim g d).2.1) ∈ sts) {d : Nat} (f : Fresh g d) : d ≤ n := by
  have univ : ((List.range 14).flatMap fun (p : Nat) => sts.map fun s => (((p : Int), s.1, s.2) : NK)).length = 14 * sts.length := by
    rw [flat_len (k := sts.length) fun p => List.length_map .., List.length_range]
  have := nodup_len ((List.range d).map (key g)) ((List.range 14).flatMap fun (p : Nat) => sts.map fun s => (((p : Int), s.1, s.2) : NK)) ?_ fun x hx => ?_
  · rw [List.length_map, List.length_range, univ] at this
    omega
  · exact List.pairwise_map.mpr (List.pairwise_lt_range.imp_of_mem fun {i j} _ hj h1 => f i j h1 (List.mem_range.mp hj))
  · obtain ⟨i, _, rfl⟩ := List.mem_map.mp hx
    have f0 := Int.fmod_nonneg_of_pos (i : Int) (show 0 < g.ln by have := o.l1; omega)
    have f1 := Int.fmod_lt_of_pos (i : Int) (show 0 < g.ln by have := o.l1; omega)
    obtain ⟨p, hp⟩ := Int.eq_ofNat_of_zero_le f0
    refine List.mem_flatMap.mpr ⟨p, List.mem_range.mpr (by have := o.l2; omega), List.mem_map.mpr ⟨_, h i, ?_⟩⟩
    unfold key
    rw [hp]
def lefts : List Int := (List.range 28).map fun (l : Nat) => (l : Int)
theorem in_lefts {l : Int} (h0 : 0 ≤ l) (h1 : l ≤ 27) : l ∈ lefts := by
  obtain ⟨n, rfl⟩ := Int.eq_ofNat_of_zero_le h0
  exact List.mem_map.mpr ⟨n, List.mem_range.mpr (by omega), rfl⟩
theorem fix_few {g : Par} {i : Int} (e : g.b = byFix i) (o : g.Ok (IFix g.b)) {d : Nat} (f : Fresh g d) : d ≤ 12000000 := by
  refine few_of o (lefts.map fun l => (l, [])) 12000000 (by decide +kernel) (fun d => ?_) f
  obtain ⟨h1, h2, h3⟩ := sim_ok o d
  have h1 : (sim g d).2.1 = [] := h1
  rw [h1]
  exact List.mem_map.mpr ⟨_, in_lefts h2 h3, rfl⟩
theorem turn_few {g : Par} {i j : Int} (e : g.b = byTurn [i, j]) (o : g.Ok (ITn g.b)) {d : Nat} (f : Fresh g d) : d ≤ 12000000 := by
  refine few_of o (lefts.map (fun l => (l, [0])) ++ lefts.map fun l => (l, [1])) 12000000 (by decide +kernel) (fun d => ?_) f
  obtain ⟨⟨k, h1, h4⟩, h2, h3⟩ := sim_ok o d
  rw [e] at h4
  have h4 : k < 2 := h4
  rw [h1]
  match k, h4 with
  | 0, _ => exact List.mem_append_left _ (List.mem_map.mpr ⟨_, in_lefts h2 h3, rfl⟩)
  | 1, _ => exact List.mem_append_right _ (List.mem_map.mpr ⟨_, in_lefts h2 h3, rfl⟩)
/-! ### a buyer with limits -/
/-- while a short pass lasts, its age says how long it still does -/
def SwOk (x1 : Int) (l : Int) (m : List Int) : Prop := m.length ≤ 6 ∧ (0 < l → m = [] ∨ ∃ r, m = r ++ [x1 - l])
theorem grM_snoc {ll : Int} (r : List Int) (z : Int) : grM ll (r ++ [z]) = grM ll r ++ (if z + 1 < ll then [z + 1] else []) := by
  unfold grM
  rw [List.filter_append, List.map_append]
  by_cases h : z + 1 < ll
  · rw [if_pos h, List.filter_cons_of_pos (p := fun x => decide (x + 1 < ll)) (by exact decide_eq_true h)]
    rfl
  · rw [if_neg h, List.filter_cons_of_neg (p := fun x => decide (x + 1 < ll)) (by rw [decide_eq_false h]; decide)]
    rfl
theorem grM_nil {ll : Int} {r : List Int} (h : ∀ u ∈ r, ll ≤ u + 1) : grM ll r = [] := by
  unfold grM
  rw [List.filter_eq_nil_iff.mpr fun u hu => ?_]
  · rfl
  · have := h u hu
    rw [decide_eq_false (by omega)]
    decide
theorem grM_len {ll : Int} (m : List Int) : (grM ll m).length ≤ m.length := by
  unfold grM
  rw [List.length_map]
  exact List.length_filter_le ..
/-- the youngest age, a day later -/
theorem grM_last {ll z : Int} {r : List Int} (h : (r ++ [z]).Pairwise (· > ·)) : grM ll (r ++ [z]) = [] ∨ ∃ r', grM ll (r ++ [z]) = r' ++ [z + 1] := by
  rw [grM_snoc]
  by_cases c : z + 1 < ll
  · rw [if_pos c]
    exact .inr ⟨_, rfl⟩
  · rw [if_neg c, List.append_nil]
    obtain ⟨_, _, h3⟩ := List.pairwise_append.mp h
    exact .inl (grM_nil fun u hu => by
      have := h3 u hu z (List.mem_singleton.mpr rfl)
      omega)
theorem chI_len {i j ps lim : Int} {m : List Int} (h0 : 0 < ps) (hl : lim ≤ 6 * ps) (hm : m.length ≤ 6) : (chI i j ps lim m).2.length ≤ 6 := by
  unfold chI chM
  by_cases h : lim < ((m.length : Int) + 1) * ps
  · rw [if_pos h]
    exact Nat.zero_le _
  · rw [if_neg h]
    show (m ++ [0]).length ≤ 6
    rw [List.length_append]
    show m.length + 1 ≤ 6
    have h2 : ((m.length : Int) + 1) * ps ≤ 6 * ps := by omega
    have := Int.le_of_mul_le_mul_right h2 h0
    omega
theorem sw_inv {g : Par} {i j lim : Int} (e : g.b = bySw g.L i j lim) (o : g.Ok (MOk 28)) (hi : InP g.L i) (hl : lim ≤ 6 * (pas g.L i).2) : ∀ d, SwOk (pas g.L i).1 (sim g d).1 (sim g d).2.1
  | 0 => by
    show SwOk _ 0 g.b.beg
    rw [e]
    exact ⟨Nat.zero_le _, fun h => absurd h (by decide)⟩
  | d + 1 => by
    obtain ⟨i1, i2⟩ := sw_inv e o hi hl d
    obtain ⟨h1, h2, h3⟩ := sim_ok o d
    have pi := o.ok _ hi.pas.2
    have pos : 0 < (pas g.L i).2 := by have := pi.2.2.1; omega
    show SwOk _ (stp g d (sim g d)).1 (stp g d (sim g d)).2.1
    unfold stp
    by_cases c : (sim g d).1 = 0 ∧ goes g d = true
    · rw [pre_yes c]
      have eg : g.b.gr = grM (pas g.L j).1 := by rw [e]; rfl
      have ec : g.b.ch (sim g d).2.1 = chI i j (pas g.L i).2 lim (sim g d).2.1 := by rw [e]; rfl
      rw [eg, ec]
      refine ⟨Nat.le_trans (grM_len _) (chI_len pos hl i1), fun hp => ?_⟩
      have hp : 0 < max0 ((pas g.L (chI i j (pas g.L i).2 lim (sim g d).2.1).1).1 - 1) := hp
      show grM (pas g.L j).1 (chI i j (pas g.L i).2 lim (sim g d).2.1).2 = [] ∨ ∃ r, grM (pas g.L j).1 (chI i j (pas g.L i).2 lim (sim g d).2.1).2 = r ++ [(pas g.L i).1 - max0 ((pas g.L (chI i j (pas g.L i).2 lim (sim g d).2.1).1).1 - 1)]
      unfold chI chM at hp ⊢
      by_cases hc : lim < (((sim g d).2.1.length : Int) + 1) * (pas g.L i).2
      · rw [if_pos hc]
        exact .inl rfl
      · rw [if_neg hc] at hp ⊢
        have hp : 0 < max0 ((pas g.L i).1 - 1) := hp
        have e1 : (pas g.L i).1 - max0 ((pas g.L i).1 - 1) = 0 + 1 := by
          unfold max0 at hp ⊢
          split at hp <;> split <;> omega
        show grM (pas g.L j).1 ((sim g d).2.1 ++ [0]) = [] ∨ ∃ r, grM (pas g.L j).1 ((sim g d).2.1 ++ [0]) = r ++ [(pas g.L i).1 - max0 ((pas g.L i).1 - 1)]
        rw [e1]
        exact grM_last (snoc_ok h1).1
    · rw [pre_no c]
      have eg : g.b.gr = grM (pas g.L j).1 := by rw [e]; rfl
      rw [eg]
      refine ⟨Nat.le_trans (grM_len _) i1, fun hp => ?_⟩
      have hp : 0 < max0 ((sim g d).1 - 1) := hp
      have l1 : max0 ((sim g d).1 - 1) = (sim g d).1 - 1 ∧ 0 < (sim g d).1 := by
        unfold max0 at hp ⊢
        split at hp <;> split <;> omega
      show grM (pas g.L j).1 (sim g d).2.1 = [] ∨ ∃ r, grM (pas g.L j).1 (sim g d).2.1 = r ++ [(pas g.L i).1 - max0 ((sim g d).1 - 1)]
      rw [l1.1]
      rcases i2 l1.2 with z | ⟨r, z⟩
      · rw [z]
        exact .inl rfl
      · have h1 := h1.1
        rw [z] at h1 ⊢
        have := grM_last (ll := (pas g.L j).1) h1
        rw [show (pas g.L i).1 - (sim g d).1 + 1 = (pas g.L i).1 - ((sim g d).1 - 1) by omega] at this
        exact this
theorem sw_few {g : Par} {i j lim : Int} (e : g.b = bySw g.L i j lim) (o : g.Ok (MOk 28)) (hi : InP g.L i) (hl : lim ≤ 6 * (pas g.L i).2) {d : Nat} (f : Fresh g d) : d ≤ 12000000 := by
  refine few_of o ((mems 27 6).map (fun m => ((0 : Int), m)) ++ (lefts.map (fun l => (l, [])) ++ (mems 27 6).map fun m => ((pas g.L i).1 - m.getLastD 0, m))) 12000000 ?_ (fun d => ?_) f
  · rw [List.length_append, List.length_append, List.length_map, List.length_map, List.length_map, mems_len, cnt_27]
    have : lefts.length = 28 := by decide +kernel
    rw [this]
    omega
  · obtain ⟨i1, i2⟩ := sw_inv e o hi hl d
    obtain ⟨h1, h2, h3⟩ := sim_ok o d
    have mem : (sim g d).2.1 ∈ mems 27 6 := in_mems 27 6 _ h1.1 (fun z hz => by have := h1.2 z hz; omega) i1
    by_cases z : (sim g d).1 = 0
    · rw [z]
      exact List.mem_append_left _ (List.mem_map.mpr ⟨_, mem, rfl⟩)
    · rcases i2 (by omega) with y | ⟨r, y⟩
      · rw [y]
        exact List.mem_append_right _ (List.mem_append_left _ (List.mem_map.mpr ⟨_, in_lefts h2 h3, rfl⟩))
      · refine List.mem_append_right _ (List.mem_append_right _ (List.mem_map.mpr ⟨_, mem, ?_⟩))
        rw [y, List.getLastD_concat]
        congr 1
        omega
end Sea

set_option Elab.async false
set_option linter.all false
set_option maxRecDepth 100000
set_option maxHeartbeats 4000000
/-! spend and purchases_of for a buyer of any of the three kinds -/
namespace Sea
open PySem PySem.Spec PyProof.Rows L2 LamX NdefX ClX Evl StX
/-- a class's members by their places -/
structure TKd (K : PySem.W.Frag) (D pT fT fB fC fG : Addr) (dT dB dC dG : FuncData) (stB stC stG : Stmt) (qB qC qG : Str) : Prop where
  pr : PropOf K D "tariff" pT fT
  uT : Fun K "tariff" "Buyer.tariff" sByT fT dT
  mB : Meth K D "beginning" fB
  uB : Fun K "beginning" qB stB fB dB
  mC : Meth K D "choose" fC
  uC : Fun K "choose" qC stC fC dC
  mG : Meth K D "grow_older" fG
  uG : Fun K "grow_older" qG stG fG dG
abbrev TKf (K : PySem.W.Frag) (D pT fT fB fC fG : Addr) (dT dB dC dG : FuncData) : Prop := TKd K D pT fT fB fC fG dT dB dC dG sByB sFxC sByG "Buyer.beginning" "FixedBuyer.choose" "Buyer.grow_older"
abbrev TKt (K : PySem.W.Frag) (D pT fT fB fC fG : Addr) (dT dB dC dG : FuncData) : Prop := TKd K D pT fT fB fC fG dT dB dC dG sTnB sTnC sByG "TurnBuyer.beginning" "TurnBuyer.choose" "Buyer.grow_older"
abbrev TKs (K : PySem.W.Frag) (D pT fT fB fC fG : Addr) (dT dB dC dG : FuncData) : Prop := TKd K D pT fT fB fC fG dT dB dC dG sByB sSwC sSwG "Buyer.beginning" "SwitchBuyer.choose" "SwitchBuyer.grow_older"
section
variable {P : Program} {w : World} {K : PySem.W.Frag} {mg : Str → Option Value} {base : Heap} {C DF DT DS cI cU cP fI fL pL fR pR pT fT fB fC fG : Addr} {mc mp : Value} {dL dR dT dB dC dG : FuncData}
theorem b1 {x q : Str} {st : Stmt} {f : Addr} {fd : FuncData} (F : Fun K x q st f fd) (h : ∀ (kV doc pm : Value) (an : Option Addr) (cdv ct : Value) (us : List Value), us.length = (["self"] : List Str).length → bindArgs (PySem.W.fnOf x q (defArgs st) (defBody st) (defScope st) .none kV doc pm an cdv ct) ⟨us, []⟩ = pure ((["self"] : List Str).zip us)) : Binds K fd ["self"] [] := F.binds h
def kFix (R : TKf K DF pT fT fB fC fG dT dB dC dG) (W : TNm K mg DF DT DS) : Kind P w K mg base C DF where
  B := FixB K C DF
  I := IFix
  pT := pT
  fT := fT
  fB := fB
  fC := fC
  fG := fG
  dT := dT
  dB := dB
  dC := dC
  dG := dG
  cl := W.cF
  prT := R.pr
  oT := ok_byT (k := 0) R.uT W.cF W.fO
  bT := R.uT.binds fun _ _ _ _ _ _ us hl => match us, hl with | [_], _ => rfl
  mB := R.mB
  oB := ok_beg (k := 2) R.uB fun h => by
    obtain ⟨_, _, _, _, _, _, rfl⟩ := h
    rfl
  bB := R.uB.binds fun _ _ _ _ _ _ us hl => match us, hl with | [_], _ => rfl
  mC := R.mC
  oC := ok_fxC (k := 2) R.uC W
  bC := R.uC.binds fun _ _ _ _ _ _ us hl => match us, hl with | [_, _], _ => rfl
  mG := R.mG
  oG := ok_stay (k := 2) R.uG fun h => by
    obtain ⟨_, _, _, _, _, _, rfl⟩ := h
    rfl
  bG := R.uG.binds fun _ _ _ _ _ _ us hl => match us, hl with | [_, _], _ => rfl
  at_ := fun h => by
    obtain ⟨t, p, i, ⟨dx, h1⟩, h2, _⟩ := h
    exact ⟨dx, _, t, p, h1, (fun q => by have e : (fxF t i).length = 2 := rfl; rw [q] at e; cases e), rfl, rfl, rfl, rfl, h2⟩
  move := fun h hz k => FixB.move h hz k
  same := fun h s => FixB.same h s
def kTurn (R : TKt K DT pT fT fB fC fG dT dB dC dG) (T : TX K mg C cI cU cP fI mc mp) (W : TNm K mg DF DT DS) : Kind P w K mg base C DT where
  B := TurnB K C DT
  I := ITn
  pT := pT
  fT := fT
  fB := fB
  fC := fC
  fG := fG
  dT := dT
  dB := dB
  dC := dC
  dG := dG
  cl := W.cT
  prT := R.pr
  oT := ok_byT (k := 0) R.uT W.cT W.tO
  bT := R.uT.binds fun _ _ _ _ _ _ us hl => match us, hl with | [_], _ => rfl
  mB := R.mB
  oB := ok_tnB (k := 2) R.uB
  bB := R.uB.binds fun _ _ _ _ _ _ us hl => match us, hl with | [_], _ => rfl
  mC := R.mC
  oC := ok_tnC (k := 2) R.uC T W
  bC := R.uC.binds fun _ _ _ _ _ _ us hl => match us, hl with | [_, _], _ => rfl
  mG := R.mG
  oG := ok_stay (k := 2) R.uG fun h => by
    obtain ⟨_, _, _, _, _, _, _, _, _, _, rfl⟩ := h
    rfl
  bG := R.uG.binds fun _ _ _ _ _ _ us hl => match us, hl with | [_, _], _ => rfl
  at_ := fun h => by
    obtain ⟨t, p, sq, is, ⟨dx, h1⟩, h2, _⟩ := h
    exact ⟨dx, _, t, p, h1, (fun q => by have e : (tnF t (.ref sq)).length = 2 := rfl; rw [q] at e; cases e), rfl, rfl, rfl, rfl, h2⟩
  move := fun h hz k => TurnB.move h hz k
  same := fun h s => TurnB.same h s
def kSw (R : TKs K DS pT fT fB fC fG dT dB dC dG) (T : TX K mg C cI cU cP fI mc mp) (LP : TLp K C fL pL fR pR dL dR) (W : TNm K mg DF DT DS) : Kind P w K mg base C DS where
  B := SwB K C DS
  I := fun _ => MOk 28
  pT := pT
  fT := fT
  fB := fB
  fC := fC
  fG := fG
  dT := dT
  dB := dB
  dC := dC
  dG := dG
  cl := W.cS
  prT := R.pr
  oT := ok_byT (k := 0) R.uT W.cS W.sO
  bT := R.uT.binds fun _ _ _ _ _ _ us hl => match us, hl with | [_], _ => rfl
  mB := R.mB
  oB := ok_beg (k := 2) R.uB fun h => by
    obtain ⟨_, _, _, _, _, _, _, _, _, rfl⟩ := h
    rfl
  bB := R.uB.binds fun _ _ _ _ _ _ us hl => match us, hl with | [_], _ => rfl
  mC := R.mC
  oC := ok_swC R.uC T LP W
  bC := R.uC.binds fun _ _ _ _ _ _ us hl => match us, hl with | [_, _], _ => rfl
  mG := R.mG
  oG := ok_swG R.uG T LP W
  bG := R.uG.binds fun _ _ _ _ _ _ us hl => match us, hl with | [_, _], _ => rfl
  at_ := fun h => by
    obtain ⟨t, p, i, j, lim, ⟨dx, h1⟩, h2, _⟩ := h
    exact ⟨dx, _, t, p, h1, (fun q => by have e : (swF t i j lim).length = 4 := rfl; rw [q] at e; cases e), rfl, rfl, rfl, rfl, h2⟩
  move := fun h hz k => SwB.move h hz k
  same := fun h s => SwB.same h s
/-- a deal with a buyer of any of the three -/
def Deal3 (K : PySem.W.Frag) (C CV DF DT DS : Addr) (g : Par) (os : List Int) (H : Hp) (b tv : Addr) : Prop := Deal K CV (FixB K C DF) IFix g os H b tv ∨ Deal K CV (TurnB K C DT) ITn g os H b tv ∨ Deal K CV (SwB K C DS) (fun _ => MOk 28) g os H b tv
def spSp3 (K : PySem.W.Frag) (C CV DF DT DS cV cN : Addr) : Sp := fun vs H Q E => ∃ (b tv : Addr) (c : Int) (g : Par) (os : List Int), vs = [.ref b, .ref tv, .int c] ∧ Deal3 K C CV DF DT DS g os H b tv ∧
  (os = [] → 0 ≤ c ∧ c ≤ 1000000000000000000 → ∀ H', Same H H' → Q (.int (sim g c.toNat).2.2) H') ∧ (os = [] → ¬ (0 ≤ c ∧ c ≤ 1000000000000000000) → ∀ H', Same H H' → E (.ref cN) none H') ∧
  (os ≠ [] → ∀ dd H', Same H H' → H' dd = some (.xd [("index", .int 0), ("part", .str "exceptions")]) → E (.ref cV) (some dd) H')
def spPu3 (K : PySem.W.Frag) (C CV DF DT DS cV cN : Addr) : SpG := fun vs H Q E => ∃ (b tv : Addr) (fi la : Int) (g : Par) (os : List Int), vs = [.ref b, .ref tv, .int fi, .int la] ∧ Deal3 K C CV DF DT DS g os H b tv ∧
  (os = [] → puOk fi la → ∀ ys H', Same H H' → PsV K H' ys (pus g fi.toNat (la + 1 - fi).toNat) → Q ys H') ∧ (os = [] → ¬ puOk fi la → ∀ H', Same H H' → E (.ref cN) none H') ∧
  (os ≠ [] → ∀ dd H', Same H H' → H' dd = some (.xd [("index", .int 0), ("part", .str "exceptions")]) → E (.ref cV) (some dd) H')
/-- spent_per_round of a travel with exceptions -/
def spSr3 (K : PySem.W.Frag) (C CV DF DT DS cV : Addr) : Sp := fun vs H Q E => ∃ (b tv : Addr) (g : Par) (os : List Int), vs = [.ref b, .ref tv] ∧ Deal3 K C CV DF DT DS g os H b tv ∧ os ≠ [] ∧ ∀ dd H', Same H H' → H' dd = some (.xd [("index", .int 0), ("part", .str "exceptions")]) → E (.ref cV) (some dd) H'
end
theorem fn_or {CX : CXT} {P : Program} {w : World} {K : PySem.W.Frag} {mg : Str → Option Value} {base : Heap} {k : Nat} {f : Addr} {fd : FuncData} {ps : List Str} {s1 s2 : Sp} (F1 : FnOk P w K mg base CX k f fd ps s1) (F2 : FnOk P w K mg base CX k f fd ps s2) : FnOk P w K mg base CX k f fd ps fun vs H Q E => s1 vs H Q E ∨ s2 vs H Q E :=
  ⟨fun vs H Q E h => h.elim (F1.len _ _ _ _) (F2.len _ _ _ _), fun A outer s H args us vs Q E hr e0 hb r h => h.elim (F1.run A outer s H args us vs Q E hr e0 hb r) (F2.run A outer s H args us vs Q E hr e0 hb r)⟩
theorem fn_imp {CX : CXT} {P : Program} {w : World} {K : PySem.W.Frag} {mg : Str → Option Value} {base : Heap} {k : Nat} {f : Addr} {fd : FuncData} {ps : List Str} {s1 s2 : Sp} (F1 : FnOk P w K mg base CX k f fd ps s1) (i : ∀ vs H Q E, s2 vs H Q E → s1 vs H Q E) : FnOk P w K mg base CX k f fd ps s2 :=
  ⟨fun vs H Q E h => F1.len _ _ _ _ (i _ _ _ _ h), fun A outer s H args us vs Q E hr e0 hb r h => F1.run A outer s H args us vs Q E hr e0 hb r (i _ _ _ _ h)⟩
theorem gfn_or {P : Program} {w : World} {K : PySem.W.Frag} {mg : Str → Option Value} {base : Heap} {k : Nat} {f : Addr} {fd : FuncData} {ps : List Str} {s1 s2 s3 s4 : SpG} (i : ∀ vs H Q E, s4 vs H Q E → s1 vs H Q E ∨ s2 vs H Q E ∨ s3 vs H Q E)
    (F1 : GFn P w K mg base k f fd ps s1 ∧ CFn P w K mg base k f fd ps s1) (F2 : GFn P w K mg base k f fd ps s2 ∧ CFn P w K mg base k f fd ps s2) (F3 : GFn P w K mg base k f fd ps s3 ∧ CFn P w K mg base k f fd ps s3) : GFn P w K mg base k f fd ps s4 ∧ CFn P w K mg base k f fd ps s4 := by
  refine ⟨⟨fun vs H Q E h => ?_, fun A outer s H args us vs Q E hr e0 hb r h => ?_⟩, ⟨fun vs H Q E h => ?_, fun A outer s H args us vs Q E hr e0 hb r h => ?_⟩⟩
  · rcases i _ _ _ _ h with h | h | h
    · exact F1.1.len _ _ _ _ h
    · exact F2.1.len _ _ _ _ h
    · exact F3.1.len _ _ _ _ h
  · rcases i _ _ _ _ h with h | h | h
    · exact F1.1.run A outer s H args us vs Q E hr e0 hb r h
    · exact F2.1.run A outer s H args us vs Q E hr e0 hb r h
    · exact F3.1.run A outer s H args us vs Q E hr e0 hb r h
  · rcases i _ _ _ _ h with h | h | h
    · exact F1.2.len _ _ _ _ h
    · exact F2.2.len _ _ _ _ h
    · exact F3.2.len _ _ _ _ h
  · rcases i _ _ _ _ h with h | h | h
    · exact F1.2.run A outer s H args us vs Q E hr e0 hb r h
    · exact F2.2.run A outer s H args us vs Q E hr e0 hb r h
    · exact F3.2.run A outer s H args us vs Q E hr e0 hb r h
theorem scSr : FnScope ["buyer", "travel", "spending"] ["buyer", "travel"] (defScope sSr) := ⟨rfl, rfl, rfl, by decide +kernel, rfl, by decide +kernel, by decide +kernel⟩
def spSrE (K : PySem.W.Frag) (CV cV : Addr) (B : BuyP) (I : By → List Int → Prop) : Sp := fun vs H Q E => ∃ (b tv : Addr) (g : Par) (os : List Int), vs = [.ref b, .ref tv] ∧ Deal K CV B I g os H b tv ∧ os ≠ [] ∧ ∀ dd H', Same H H' → H' dd = some (.xd [("index", .int 0), ("part", .str "exceptions")]) → E (.ref cV) (some dd) H'
structure TFr (K : PySem.W.Frag) (mg : Str → Option Value) (fFr : Addr) (dFr : FuncData) : Prop where
  gFr : mg "fraction" = some (.ref fFr)
  kFr : PySem.W.keepIn K (.ref fFr) = true
  uFr : Fun K "fraction" "fraction" sFr fFr dFr
section
variable {P : Program} {w : World} {K : PySem.W.Frag} {mg : Str → Option Value} {base : Heap} {C D S CV cV cI cU cP cN fV fI fP pP fVN fRl pRl fRd pRd fEx pEx fSI fSd fTa fVC fFr : Addr} {mc mp : Value} {fdV fdP dVN dRl dRd dEx dSI dSd dTa dVC dFr : FuncData}
theorem ok_srE {f : Addr} {fd : FuncData} (F : Fun K "spent_per_round" "spent_per_round" sSr f fd) (SP : TSg K mg S) (T : TX K mg C cI cU cP fI mc mp) (TQ : TP K C fP pP fdP) (N : Kind P w K mg base C D)
    (TV : TTv K mg CV fVN dVN) (R : TPr K CV fRl pRl fRd pRd fEx pEx dRl dRd dEx) (EV : TEv K mg cV cP fV fdV mp) (Y : TSd K mg S fSI fSd fTa fVC cN dSI dSd dTa dVC) (Z : TFr K mg fFr dFr) : FnOk P w K mg base (L2.CX P w) 7 f fd ["buyer", "travel"] (spSrE K CV cV N.B N.I) := by
  have G1 : FnOk P w K mg base (L2.CX P w) 5 fSI dSI ["self", "buyer", "travel"] (spSpI K S CV cV N.B N.I) := ok_spI Y.uSI SP T TQ N TV R EV
  have bb1 : Binds K dSI ["self", "buyer", "travel"] [] := Y.uSI.binds (ps := ["self", "buyer", "travel"]) fun _ _ _ _ _ _ us hl => match us, hl with | [_, _, _], _ => rfl
  have bb2 : Binds K dFr ["numerator", "denominator"] [] := Z.uFr.binds (ps := ["numerator", "denominator"]) fun _ _ _ _ _ _ us hl => match us, hl with | [_, _], _ => rfl
  have GF : FnOk P w K mg base CX0 1 fFr dFr ["numerator", "denominator"] (fun _ _ _ _ => False) := ⟨fun _ _ _ _ h => h.elim, fun _ _ _ _ _ _ _ _ _ _ _ _ _ h => h.elim⟩
  refine F.okX scSr (fun vs H Q E h => ?_) (fun cdv A outer s H vs Q E hr h => ?_)
  · obtain ⟨b, tv, g, os, rfl, _⟩ := h
    rfl
  · obtain ⟨b, tv, g, os, rfl, dl, hn, q⟩ := h
    have PX : Passes (L2.CX P w) (cxOf (L2.CX P w) P w K mg base ["buyer", "travel", "spending"] "spent_per_round" (defScope sSr) f cdv A outer s H E) E := passes_call (takes_of rfl rfl rfl rfl) (fun _ _ _ _ h => h)
    refine ⟨_, pss_cons (ps_set (i := 2) scSr.nd rfl (.inl rfl) (pe_make (E := E) Y.mkS G1 hr (by rfl) SP.gS bb1 .nil PX (pa_cons (pv 0) (pa_cons (pv 1) pa_nil))))
      (pss_one (ps_ret (pe_call (E := E0) GF (hr.mono (by omega)) (by rfl) Z.gFr Z.kFr bb2 .nil pass0 (pa_cons (pe_op op_mul (pe_fld (pv 2) rfl) (pe_rl R TV (hr.mono (by omega)) (pv 1))) (pa_cons (pe_fld (pv 2) rfl) pa_nil))))), ?_⟩
    refine ⟨_, rfl, _, rfl, fun a dxa nx ndx _ => ?_⟩
    exact mkS_in N dl nx ndx (fun o => absurd o hn) fun _ => q
/-- all that spending and buyers are made of -/
structure TB3 (P : Program) (w : World) (K : PySem.W.Frag) (mg : Str → Option Value) (base : Heap) (C CV DF DT DS : Addr) where
  nF : Kind P w K mg base C DF
  nT : Kind P w K mg base C DT
  nS : Kind P w K mg base C DS
  hF : nF.B = FixB K C DF ∧ nF.I = IFix
  hT : nT.B = TurnB K C DT ∧ nT.I = ITn
  hS : nS.B = SwB K C DS ∧ nS.I = fun _ => MOk 28
theorem ok_sp3 {DF DT DS : Addr} {f : Addr} {fd : FuncData} (M : TB3 P w K mg base C CV DF DT DS) (F : Fun K "spend" "spend" sSpd f fd) (SP : TSg K mg S) (T : TX K mg C cI cU cP fI mc mp) (TQ : TP K C fP pP fdP)
    (TV : TTv K mg CV fVN dVN) (R : TPr K CV fRl pRl fRd pRd fEx pEx dRl dRd dEx) (EV : TEv K mg cV cP fV fdV mp) (Y : TSd K mg S fSI fSd fTa fVC cN dSI dSd dTa dVC) : FnOk P w K mg base (L2.CX P w) 7 f fd ["buyer", "travel", "count"] (spSp3 K C CV DF DT DS cV cN) := by
  refine fn_imp (fn_or (ok_spd F SP T TQ M.nF TV R EV Y) (fn_or (ok_spd F SP T TQ M.nT TV R EV Y) (ok_spd F SP T TQ M.nS TV R EV Y))) fun vs H Q E h => ?_
  obtain ⟨b, tv, c, g, os, e, dl, q⟩ := h
  rw [M.hF.1, M.hF.2, M.hT.1, M.hT.2, M.hS.1, M.hS.2]
  rcases dl with dl | dl | dl
  · exact .inl ⟨b, tv, c, g, os, e, dl, q⟩
  · exact .inr (.inl ⟨b, tv, c, g, os, e, dl, q⟩)
  · exact .inr (.inr ⟨b, tv, c, g, os, e, dl, q⟩)
theorem ok_sr3 {DF DT DS : Addr} {f : Addr} {fd : FuncData} (M : TB3 P w K mg base C CV DF DT DS) (F : Fun K "spent_per_round" "spent_per_round" sSr f fd) (SP : TSg K mg S) (T : TX K mg C cI cU cP fI mc mp) (TQ : TP K C fP pP fdP)
    (TV : TTv K mg CV fVN dVN) (R : TPr K CV fRl pRl fRd pRd fEx pEx dRl dRd dEx) (EV : TEv K mg cV cP fV fdV mp) (Y : TSd K mg S fSI fSd fTa fVC cN dSI dSd dTa dVC) (Z : TFr K mg fFr dFr) : FnOk P w K mg base (L2.CX P w) 7 f fd ["buyer", "travel"] (spSr3 K C CV DF DT DS cV) := by
  refine fn_imp (fn_or (ok_srE F SP T TQ M.nF TV R EV Y Z) (fn_or (ok_srE F SP T TQ M.nT TV R EV Y Z) (ok_srE F SP T TQ M.nS TV R EV Y Z))) fun vs H Q E h => ?_
  obtain ⟨b, tv, g, os, e, dl, q⟩ := h
  rw [M.hF.1, M.hF.2, M.hT.1, M.hT.2, M.hS.1, M.hS.2]
  rcases dl with dl | dl | dl
  · exact .inl ⟨b, tv, g, os, e, dl, q⟩
  · exact .inr (.inl ⟨b, tv, g, os, e, dl, q⟩)
  · exact .inr (.inr ⟨b, tv, g, os, e, dl, q⟩)
theorem ok_pu3 {DF DT DS : Addr} {f : Addr} {fd : FuncData} (M : TB3 P w K mg base C CV DF DT DS) (F : Fun K "purchases_of" "purchases_of" sPu f fd) (SP : TSg K mg S) (T : TX K mg C cI cU cP fI mc mp) (TQ : TP K C fP pP fdP)
    (TV : TTv K mg CV fVN dVN) (R : TPr K CV fRl pRl fRd pRd fEx pEx dRl dRd dEx) (EV : TEv K mg cV cP fV fdV mp) (Y : TSd K mg S fSI fSd fTa fVC cN dSI dSd dTa dVC) (Z : TPu K mg) :
    GFn P w K mg base 7 f fd ["buyer", "travel", "first", "last"] (spPu3 K C CV DF DT DS cV cN) ∧ CFn P w K mg base 7 f fd ["buyer", "travel", "first", "last"] (spPu3 K C CV DF DT DS cV cN) := by
  refine gfn_or (fun vs H Q E h => ?_) (ok_pu F SP T TQ M.nF TV R EV Y Z) (ok_pu F SP T TQ M.nT TV R EV Y Z) (ok_pu F SP T TQ M.nS TV R EV Y Z)
  obtain ⟨b, tv, fi, la, g, os, e, dl, q⟩ := h
  rw [M.hF.1, M.hF.2, M.hT.1, M.hT.2, M.hS.1, M.hS.2]
  rcases dl with dl | dl | dl
  · exact .inl ⟨b, tv, fi, la, g, os, e, dl, q⟩
  · exact .inr (.inl ⟨b, tv, fi, la, g, os, e, dl, q⟩)
  · exact .inr (.inr ⟨b, tv, fi, la, g, os, e, dl, q⟩)
end
end Sea

set_option Elab.async false
set_option linter.all false
set_option maxRecDepth 100000
set_option maxHeartbeats 4000000
/-! spent_per_round -/
namespace Sea
open PySem PySem.Spec PyProof.Rows L2 LamX NdefX ClX Evl StX
theorem scCd : FnScope ["one", "other"] ["one", "other"] (defScope sCd) := ⟨rfl, rfl, rfl, by decide +kernel, rfl, by decide +kernel, by decide +kernel⟩
theorem scFr : FnScope ["numerator", "denominator", "divisor"] ["numerator", "denominator"] (defScope sFr) := ⟨rfl, rfl, rfl, by decide +kernel, rfl, by decide +kernel, by decide +kernel⟩
def frac (n d : Int) : Int × Int := (n / (Int.gcd n d : Nat), d / (Int.gcd n d : Nat))
theorem frac_pos {n d : Int} (h : 0 < d) : 0 < (frac n d).2 := by
  have g0 : Int.gcd n d ≠ 0 := fun e => by
    have := (Int.gcd_eq_zero_iff.mp e).2
    omega
  have g1 : (0 : Int) < (Int.gcd n d : Nat) := by omega
  obtain ⟨c, hc⟩ := Int.gcd_dvd_right n d
  show 0 < d / (Int.gcd n d : Nat)
  have c0 : 0 < c := by
    rcases Int.lt_trichotomy c 0 with z | z | z
    · have := Int.mul_neg_of_pos_of_neg g1 z
      omega
    · rw [z, Int.mul_zero] at hc
      omega
    · exact z
  have : d / (Int.gcd n d : Nat) = c := by
    have e := Int.mul_ediv_cancel_left c (show ((Int.gcd n d : Nat) : Int) ≠ 0 by omega)
    rw [← hc] at e
    exact e
  rw [this]
  exact c0
/-- what spent_per_round answers -/
def Res (g : Par) (x : Int × Int) : Prop := ∃ d j, IsRep g d j ∧ x = frac (((sim g d).2.2 - (sim g j).2.2) * g.ln) ((d : Int) - j)
theorem Res.pos {g : Par} {x : Int × Int} (h : Res g x) : 0 < x.2 := by
  obtain ⟨d, j, i, rfl⟩ := h
  have := i.2.1
  exact frac_pos (by omega)
def spCd : Sp := fun vs H Q _ => ∃ a b : Int, vs = [.int a, .int b] ∧ 0 ≤ a ∧ 0 ≤ b ∧ ∀ H', Same H H' → Q (.int (Int.gcd a b : Nat)) H'
def spFr : Sp := fun vs H Q _ => ∃ a b : Int, vs = [.int a, .int b] ∧ 0 ≤ a ∧ 0 < b ∧ b ≤ 100000000 ∧ ∀ r H', Same H H' → H' r = some (.tup [.int (frac a b).1, .int (frac a b).2]) → Q (.ref r) H'
theorem gcd_step {a b : Int} (h : 0 ≤ a) (h' : 0 < b) : Int.gcd b (a.fmod b) = Int.gcd a b := by
  obtain ⟨n, rfl⟩ := Int.eq_ofNat_of_zero_le h
  obtain ⟨m, rfl⟩ := Int.eq_ofNat_of_zero_le (Int.le_of_lt h')
  have e : (n : Int).fmod (m : Int) = ((n % m : Nat) : Int) := by
    rw [Int.fmod_eq_emod_of_nonneg _ (Int.natCast_nonneg m)]
    rfl
  rw [e]
  show Nat.gcd m (n % m) = Nat.gcd n m
  rw [Nat.gcd_comm n m, Nat.gcd_rec m n, Nat.gcd_comm]
section
variable {P : Program} {w : World} {K : PySem.W.Frag} {mg : Str → Option Value} {base : Heap}
theorem ok_cd {f : Addr} {fd : FuncData} {k : Nat} (F : Fun K "common_divisor" "common_divisor" sCd f fd) (mI : mg "int" = none) : FnOk P w K mg base CX0 (k + 1) f fd ["one", "other"] spCd := by
  refine F.ok scCd (fun vs H Q E h => ?_) (fun cdv A outer s H vs Q E hr h => ?_)
  · obtain ⟨a, b, rfl, _⟩ := h
    rfl
  · obtain ⟨a, b, rfl, a0, b0, q⟩ := h
    refine ⟨_, pss_cons (ps_while PassesOwn.never (pt_cmpR op_ne (pv 1) pe_int (nomark _))
        (pss_one (ps_par (i := 0) (j := 1) rfl scCd.nd rfl rfl (by decide) rfl rfl (pa_cons (pv 1) (pa_cons (pe_op op_modN (pe_callTy call_int1 (by rfl) mI (by rfl) (pa_cons (pv 0) pa_nil)) (pe_callTy call_int1 (by rfl) mI (by rfl) (pa_cons (pv 1) pa_nil))) pa_nil)) (by rfl))))
      (pss_one (ps_ret (pv 0))), ?_⟩
    refine q_while (fun m σ H' => ∃ x y : Int, σ = [some (.int x), some (.int y)] ∧ 0 ≤ x ∧ 0 ≤ y ∧ m = y.toNat ∧ Int.gcd x y = Int.gcd a b ∧ Same H H') b.toNat ⟨a, b, rfl, a0, b0, rfl, rfl, Same.refl H⟩ ?_
    rintro m σ' H' ⟨x, y, rfl, x0, y0, rfl, g, sm⟩
    refine ⟨!decide (V.int y = V.int 0), et_test (ev_op (ev_var rfl) ev_c (rv_ne rfl)), fun hb H1 e1 => ?_, fun hb H1 e1 => ?_⟩
    · have yn : 0 < y := by
        have : y ≠ 0 := fun z => by
          rw [z] at hb
          cases hb
        omega
      refine ⟨fun σ2 H2 => ∃ m', m' < y.toNat ∧ ∃ x y : Int, σ2 = [some (.int x), some (.int y)] ∧ 0 ≤ x ∧ 0 ≤ y ∧ m' = y.toNat ∧ Int.gcd x y = Int.gcd a b ∧ Same H H2, fun σ2 H2 h => h, ?_⟩
      have f0 := Int.fmod_nonneg_of_pos x yn
      have f1 := Int.fmod_lt_of_pos x yn
      refine ⟨_, rfl, (ev_op (ev_int1 (ev_var rfl)) (ev_int1 (ev_var rfl)) (rv_I (C := fun _ j => j ≠ 0) (g := fun i j => .int (i.fmod j)) (i := x) (j := y) (by omega))) H1 (Ex.refl H1) _ fun H2 e2 => ⟨_, _, rfl, _, ?_, y, x.fmod y, rfl, y0, f0, rfl, ?_, (sm.trans e1).trans e2⟩⟩
      · omega
      · rw [gcd_step x0 yn, g]
    · have y1 : y = 0 := by
        by_cases z : y = 0
        · exact z
        · rw [decide_eq_false (fun e => z (by injection e))] at hb
          cases hb
      subst y1
      refine ⟨_, rfl, ?_⟩
      have e : ((Int.gcd a b : Nat) : Int) = x := by
        rw [← g, Int.gcd_zero_right]
        omega
      have := q H1 (sm.trans e1)
      rw [e] at this
      exact this
theorem ok_fr {f fC : Addr} {fd dC : FuncData} {k : Nat} (F : Fun K "fraction" "fraction" sFr f fd) (FC : Fun K "common_divisor" "common_divisor" sCd fC dC) (gC : mg "common_divisor" = some (.ref fC)) (kC : PySem.W.keepIn K (.ref fC) = true) (mI : mg "int" = none) :
    FnOk P w K mg base CX0 (k + 2) f fd ["numerator", "denominator"] spFr := by
  refine F.ok scFr (fun vs H Q E h => ?_) (fun cdv A outer s H vs Q E hr h => ?_)
  · obtain ⟨a, b, rfl, _⟩ := h
    rfl
  · obtain ⟨a, b, rfl, a0, b0, b1, q⟩ := h
    refine ⟨_, pss_cons (ps_set (i := 2) scFr.nd rfl (.inl rfl) (pe_call (E := E0) (ok_cd (k := 0) FC mI) (hr.mono (by omega)) (by rfl) gC kC (FC.binds (ps := ["one", "other"]) fun _ _ _ _ _ _ us hl => match us, hl with | [_, _], _ => rfl) .nil pass0 (pa_cons (pv 0) (pa_cons (pv 1) pa_nil))))
      (pss_one (ps_ret (pe_tup (pa_cons (pe_op op_fdivW (pv 0) (pv 2)) (pa_cons (pe_op op_fdivW (pv 1) (pv 2)) pa_nil))))), ?_⟩
    have g0 : Int.gcd a b ≠ 0 := fun e => by
      have := (Int.gcd_eq_zero_iff.mp e).2
      omega
    have g1 : (0 : Int) < (Int.gcd a b : Nat) := by omega
    have g2 : ((Int.gcd a b : Nat) : Int) ≤ b := Int.le_of_dvd b0 (Int.gcd_dvd_right a b)
    have g3 : ((Int.gcd a b : Nat) : Int).natAbs.log2 < 9000 := Nat.lt_trans ((Nat.log2_lt (show ((Int.gcd a b : Nat) : Int).natAbs ≠ 0 by omega)).mpr (show _ < 2 ^ 27 by omega)) (show 27 < 9000 by decide)
    refine ⟨_, rfl, _, rfl, a, b, rfl, a0, Int.le_of_lt b0, fun H1 s1 => ?_⟩
    refine ⟨_, rfl, _, rfl, _, _, rfl, rfl, ⟨g1, g3⟩, _, rfl, _, rfl, _, _, rfl, rfl, ⟨g1, g3⟩, Nat.le_of_lt (small1000 (show 2 ≤ 1000 by decide)), fun r nr => ?_⟩
    exact q r _ (s1.trans (same_new nr)) upd_same
end
structure TCd (K : PySem.W.Frag) (mg : Str → Option Value) (fCd : Addr) (dCd : FuncData) : Prop where
  gCd : mg "common_divisor" = some (.ref fCd)
  kCd : PySem.W.keepIn K (.ref fCd) = true
  uCd : Fun K "common_divisor" "common_divisor" sCd fCd dCd
def spSrQ (K : PySem.W.Frag) (CV : Addr) (B : BuyP) (I : By → List Int → Prop) : Sp := fun vs H Q _ => ∃ (b tv : Addr) (g : Par), vs = [.ref b, .ref tv] ∧ Deal K CV B I g [] H b tv ∧ ∀ r x H', Same H H' → Res g x → x.2 ≤ 12000000 → H' r = some (.tup [.int x.1, .int x.2]) → Q (.ref r) H'
def spSr3Q (K : PySem.W.Frag) (C CV DF DT DS : Addr) : Sp := fun vs H Q _ => ∃ (b tv : Addr) (g : Par), vs = [.ref b, .ref tv] ∧ Deal3 K C CV DF DT DS g [] H b tv ∧ ∀ r x H', Same H H' → Res g x → x.2 ≤ 12000000 → H' r = some (.tup [.int x.1, .int x.2]) → Q (.ref r) H'
theorem frac_le {n d : Int} (h : 0 < d) : (frac n d).2 ≤ d := Int.ediv_le_self _ (by omega)
section
variable {P : Program} {w : World} {K : PySem.W.Frag} {mg : Str → Option Value} {base : Heap} {C D S CV cV cI cU cP cN fV fI fP pP fVN fRl pRl fRd pRd fEx pEx fSI fSd fTa fVC fFr fCd : Addr} {mc mp : Value} {fdV fdP dVN dRl dRd dEx dSI dSd dTa dVC dFr dCd : FuncData}
theorem ok_srQ {f : Addr} {fd : FuncData} (F : Fun K "spent_per_round" "spent_per_round" sSr f fd) (SP : TSg K mg S) (T : TX K mg C cI cU cP fI mc mp) (TQ : TP K C fP pP fdP) (N : Kind P w K mg base C D)
    (TV : TTv K mg CV fVN dVN) (R : TPr K CV fRl pRl fRd pRd fEx pEx dRl dRd dEx) (EV : TEv K mg cV cP fV fdV mp) (Y : TSd K mg S fSI fSd fTa fVC cN dSI dSd dTa dVC) (Z : TFr K mg fFr dFr) (ZC : TCd K mg fCd dCd) : FnOk P w K mg base (L2.CX P w) 7 f fd ["buyer", "travel"] (spSrQ K CV N.B N.I) := by
  have G1 : FnOk P w K mg base (L2.CX P w) 5 fSI dSI ["self", "buyer", "travel"] (spSpI K S CV cV N.B N.I) := ok_spI Y.uSI SP T TQ N TV R EV
  have bb1 : Binds K dSI ["self", "buyer", "travel"] [] := Y.uSI.binds (ps := ["self", "buyer", "travel"]) fun _ _ _ _ _ _ us hl => match us, hl with | [_, _, _], _ => rfl
  have bb2 : Binds K dFr ["numerator", "denominator"] [] := Z.uFr.binds (ps := ["numerator", "denominator"]) fun _ _ _ _ _ _ us hl => match us, hl with | [_, _], _ => rfl
  refine F.okX scSr (fun vs H Q E h => ?_) (fun cdv A outer s H vs Q E hr h => ?_)
  · obtain ⟨b, tv, g, rfl, _⟩ := h
    rfl
  · obtain ⟨b, tv, g, rfl, dl, q⟩ := h
    have PX : Passes (L2.CX P w) (cxOf (L2.CX P w) P w K mg base ["buyer", "travel", "spending"] "spent_per_round" (defScope sSr) f cdv A outer s H E) E := passes_call (takes_of rfl rfl rfl rfl) (fun _ _ _ _ h => h)
    refine ⟨_, pss_cons (ps_set (i := 2) scSr.nd rfl (.inl rfl) (pe_make (E := E) Y.mkS G1 hr (by rfl) SP.gS bb1 .nil PX (pa_cons (pv 0) (pa_cons (pv 1) pa_nil))))
      (pss_one (ps_ret (pe_call (E := E0) (ok_fr (k := 0) Z.uFr ZC.uCd ZC.gCd ZC.kCd SP.mI) (hr.mono (by omega)) (by rfl) Z.gFr Z.kFr bb2 .nil pass0 (pa_cons (pe_op op_mul (pe_fld (pv 2) rfl) (pe_rl R TV (hr.mono (by omega)) (pv 1))) (pa_cons (pe_fld (pv 2) rfl) pa_nil))))), ?_⟩
    refine ⟨_, rfl, _, rfl, fun a dxa nx ndx _ => ?_⟩
    refine mkS_in N dl nx ndx (fun _ tl bd d k kvs H1 s1 fo => ⟨rfl, ?_⟩) (fun n => absurd rfl n)
    obtain ⟨dv, ov, ht⟩ := dl.tv
    have few := fo.few
    have lt := fo.rep.2.1
    have ok := dl.ok
    refine ⟨_, rfl, a, S, dxa, _, _, rfl, fo.ia, SP.cl, SP.nG, rfl, (tv_get (σ := [some (.ref b), some (.ref tv), some (.ref a)]) (i := 1) rfl (ht.same s1) (tvF_size ..)) H1 (Ex.refl _) _ fun H2 e2 => ⟨_, _, rfl, rfl, .inr ⟨?_, ?_⟩, _, rfl, a, S, dxa, _, _, rfl, e2 _ _ fo.ia, SP.cl, SP.nP, rfl, _, _, rfl, ?_, ?_, ?_, fun r H3 s3 h3 => q r _ H3 ((s1.trans e2).trans s3) ⟨d, k, fo.rep, rfl⟩ (Int.le_trans (frac_le (by omega)) (by omega)) h3⟩⟩
    · have := ok.l1
      omega
    · have := ok.l2
      omega
    · have := sim_up ok k (d - k)
      rw [show k + (d - k) = d by omega] at this
      exact Int.mul_nonneg (by omega) (by have := ok.l1; omega)
    · omega
    · omega
theorem ok_sr3Q {DF DT DS : Addr} {f : Addr} {fd : FuncData} (M : TB3 P w K mg base C CV DF DT DS) (F : Fun K "spent_per_round" "spent_per_round" sSr f fd) (SP : TSg K mg S) (T : TX K mg C cI cU cP fI mc mp) (TQ : TP K C fP pP fdP)
    (TV : TTv K mg CV fVN dVN) (R : TPr K CV fRl pRl fRd pRd fEx pEx dRl dRd dEx) (EV : TEv K mg cV cP fV fdV mp) (Y : TSd K mg S fSI fSd fTa fVC cN dSI dSd dTa dVC) (Z : TFr K mg fFr dFr) (ZC : TCd K mg fCd dCd) : FnOk P w K mg base (L2.CX P w) 7 f fd ["buyer", "travel"] (spSr3Q K C CV DF DT DS) := by
  refine fn_imp (fn_or (ok_srQ F SP T TQ M.nF TV R EV Y Z ZC) (fn_or (ok_srQ F SP T TQ M.nT TV R EV Y Z ZC) (ok_srQ F SP T TQ M.nS TV R EV Y Z ZC))) fun vs H Q E h => ?_
  obtain ⟨b, tv, g, e, dl, q⟩ := h
  rw [M.hF.1, M.hF.2, M.hT.1, M.hT.2, M.hS.1, M.hS.2]
  rcases dl with dl | dl | dl
  · exact .inl ⟨b, tv, g, e, dl, q⟩
  · exact .inr (.inl ⟨b, tv, g, e, dl, q⟩)
  · exact .inr (.inr ⟨b, tv, g, e, dl, q⟩)
end
end Sea

set_option Elab.async false
set_option linter.all false
set_option maxRecDepth 100000
set_option maxHeartbeats 4000000
/-! least costs day by day, in plain words: travel without exceptions -/
namespace Sea
open PySem PySem.Spec PyProof.Rows L2 LamX NdefX ClX Evl StX
/-- the least of some numbers -/
def least : List Int → Int
  | [] => 0
  | x :: r => r.foldl min x
theorem foldl_min (r : List Int) : ∀ x : Int, (r.foldl min x = x ∨ r.foldl min x ∈ r) ∧ r.foldl min x ≤ x ∧ ∀ y ∈ r, r.foldl min x ≤ y := by
  induction r with
  | nil => exact fun x => ⟨.inl rfl, Int.le_refl x, fun y hy => nomatch hy⟩
  | cons a r ih =>
    intro x
    obtain ⟨h1, h2, h3⟩ := ih (min x a)
    refine ⟨?_, Int.le_trans h2 (Int.min_le_left x a), fun y hy => ?_⟩
    · rcases h1 with e | e
      · by_cases c : x ≤ a
        · exact .inl (e.trans (Int.min_eq_left c))
        · exact .inr (by rw [show List.foldl min x (a :: r) = a from e.trans (Int.min_eq_right (by omega))]; exact List.mem_cons_self)
      · exact .inr (List.mem_cons_of_mem _ e)
    · rcases List.mem_cons.mp hy with rfl | hy
      · exact Int.le_trans h2 (Int.min_le_right x y)
      · exact h3 y hy
theorem least_in {l : List Int} (n : l ≠ []) : least l ∈ l ∧ ∀ x ∈ l, least l ≤ x := by
  cases l with
  | nil => exact absurd rfl n
  | cons a r =>
    obtain ⟨h1, h2, h3⟩ := foldl_min r a
    refine ⟨?_, fun x hx => ?_⟩
    · rcases h1 with e | e
      · exact List.mem_cons.mpr (.inl e)
      · exact List.mem_cons_of_mem _ e
    · rcases List.mem_cons.mp hx with rfl | hx
      · exact h2
      · exact h3 x hx
theorem least_one {l : List Int} {m : Int} (h : m ∈ l) (h2 : ∀ x ∈ l, m ≤ x) : m = least l := by
  obtain ⟨a, b⟩ := least_in (List.ne_nil_of_mem h)
  have := h2 _ a
  have := b _ h
  omega
theorem least_add (l : List Int) (c : Int) (n : l ≠ []) : least (l.map (· + c)) = least l + c := by
  refine (least_one (l := l.map (· + c)) (m := least l + c) ?_ ?_).symm
  · exact List.mem_map.mpr ⟨_, (least_in n).1, rfl⟩
  · intro x hx
    obtain ⟨y, hy, rfl⟩ := List.mem_map.mp hx
    have := (least_in n).2 y hy
    show least l + c ≤ y + c
    omega
/-! ### the last costs -/
/-- the cost of one day more -/
def nxt (g : Par) (k : Nat) (r : List Int) : Int := if goes g k = true then least (g.L.map fun z => (atI r (0 - z.1)).getD 0 + z.2) else (atI r (-1)).getD 0
def recs (g : Par) (R : Nat) : Nat → List Int
  | 0 => List.replicate R 0
  | k + 1 => (recs g R k).drop 1 ++ [nxt g k (recs g R k)]
def cst (g : Par) (R k : Nat) : Int := (atI (recs g R k) (-1)).getD 0
/-- the differences that are noted -/
def stC (g : Par) (R k : Nat) : List Int := (recs g R k).map fun v => cst g R k - v
/-- the reach: the longest pass -/
structure Reach (g : Par) (R : Nat) : Prop where
  l1 : 1 ≤ g.ln
  l2 : g.ln ≤ 14
  ok : ∀ z ∈ g.L, PassOk z
  ne : g.L ≠ []
  le : ∀ z ∈ g.L, z.1 ≤ R
  r1 : 1 ≤ R
  r2 : R ≤ 28
section
variable {g : Par} {R : Nat}
theorem recs_len (h : 1 ≤ R) : ∀ k, (recs g R k).length = R
  | 0 => List.length_replicate ..
  | k + 1 => by
    show ((recs g R k).drop 1 ++ [_]).length = R
    rw [List.length_append, List.length_drop, recs_len h k, List.length_singleton]
    omega
theorem atI_back {α : Type} {xs : List α} {j : Nat} (h1 : 1 ≤ j) (h2 : j ≤ xs.length) : atI xs (-(j : Int)) = xs[xs.length - j]? := by
  unfold atI ixN
  rw [if_neg (by omega), if_pos (by omega)]
  show xs[(-(j : Int) + (xs.length : Int)).toNat]? = _
  congr 1
  omega
/-- the j-th cost from behind -/
theorem recs_back (h : 1 ≤ R) : ∀ k j : Nat, 1 ≤ j → j ≤ R → atI (recs g R k) (-(j : Int)) = some (if j ≤ k then cst g R (k + 1 - j) else 0)
  | 0, j, h1, h2 => by
    rw [atI_back h1 (by rw [recs_len h]; exact h2), if_neg (by omega), recs_len h]
    show (List.replicate R (0 : Int))[R - j]? = some 0
    rw [List.getElem?_replicate, if_pos (by omega)]
  | k + 1, j, h1, h2 => by
    have hl := recs_len (g := g) h (k + 1)
    have self : atI (recs g R (k + 1)) (-(j : Int)) = some ((atI (recs g R (k + 1)) (-(j : Int))).getD 0) := by
      rw [atI_back h1 (by rw [hl]; exact h2), hl, List.getElem?_eq_getElem (by omega)]
      rfl
    by_cases e : j = 1
    · subst e
      rw [if_pos (by omega), show k + 1 + 1 - 1 = k + 1 by omega]
      exact self
    · have ih := recs_back h k (j - 1) (by omega) (by omega)
      have hk := recs_len (g := g) h k
      rw [atI_back (by omega) (by rw [hk]; omega), hk] at ih
      rw [atI_back h1 (by rw [hl]; exact h2), hl]
      show ((recs g R k).drop 1 ++ [nxt g k (recs g R k)])[R - j]? = _
      rw [List.getElem?_append_left (by rw [List.length_drop, hk]; omega), List.getElem?_drop, show 1 + (R - j) = R - (j - 1) by omega, ih]
      by_cases c : j ≤ k + 1
      · rw [if_pos c, if_pos (by omega)]
        congr 2
        omega
      · rw [if_neg c, if_neg (by omega)]
theorem cst_0 (h : 1 ≤ R) : cst g R 0 = 0 := by
  unfold cst
  rw [show (-1 : Int) = -((1 : Nat) : Int) from rfl, recs_back h 0 1 (Nat.le_refl 1) h, if_neg (by omega)]
  rfl
/-- the cost of k days, from k on -/
def cAt (g : Par) (R : Nat) (k : Int) : Int := if 0 ≤ k then cst g R k.toNat else 0
theorem cst_next (h : Reach g R) (k : Nat) : cst g R (k + 1) = if goes g k = true then least (g.L.map fun z => cAt g R ((k : Int) + 1 - z.1) + z.2) else cst g R k := by
  have e : cst g R (k + 1) = nxt g k (recs g R k) := by
    unfold cst
    rw [show (-1 : Int) = -((1 : Nat) : Int) from rfl, atI_back (Nat.le_refl 1) (by rw [recs_len h.r1]; exact h.r1), recs_len h.r1]
    show (((recs g R k).drop 1 ++ [nxt g k (recs g R k)])[R - 1]?).getD 0 = _
    have := recs_len (g := g) h.r1 k
    have r1 := h.r1
    rw [List.getElem?_append_right (by rw [List.length_drop, this]; exact Nat.le_refl _), List.length_drop, this, Nat.sub_self]
    rfl
  rw [e]
  unfold nxt
  by_cases c : goes g k = true
  · rw [if_pos c, if_pos c]
    congr 1
    refine List.map_congr_left fun z hz => ?_
    have p := h.ok z hz
    have le := h.le z hz
    obtain ⟨j, hj⟩ := Int.eq_ofNat_of_zero_le (show 0 ≤ z.1 by have := p.1; omega)
    have p1 := p.1
    rw [show (0 : Int) - z.1 = -((j : Nat) : Int) by omega, recs_back h.r1 k j (by omega) (by omega)]
    congr 1
    unfold cAt
    by_cases cj : j ≤ k
    · rw [if_pos cj, if_pos (by omega)]
      show cst g R _ = _
      congr 1
      omega
    · rw [if_neg cj]
      by_cases c2 : 0 ≤ (k : Int) + 1 - z.1
      · rw [if_pos c2, show ((k : Int) + 1 - z.1).toNat = 0 by omega, cst_0 h.r1]
        rfl
      · rw [if_neg c2]
        rfl
  · rw [if_neg c, if_neg c]
    rfl
/-! ### what repeats -/
theorem map_shift {r s : List Int} {a b : Int} (h : r.map (fun v => a - v) = s.map fun v => b - v) : s = r.map (· + (b - a)) := by
  have h2 := congrArg (List.map fun v => b - v) h
  rw [List.map_map, List.map_map] at h2
  have e : s.map ((fun v => b - v) ∘ fun v => b - v) = s := by
    have : ((fun v : Int => b - v) ∘ fun v => b - v) = id := by
      funext v
      show b - (b - v) = v
      omega
    rw [this, List.map_id]
  rw [e] at h2
  rw [← h2]
  refine List.map_congr_left fun v _ => ?_
  show b - (a - v) = v + (b - a)
  omega
theorem atI_map {α β : Type} (f : α → β) (xs : List α) (i : Int) : atI (xs.map f) i = (atI xs i).map f := by
  unfold atI
  rw [List.length_map]
  cases ixN xs.length i with
  | none => rfl
  | some j => exact List.getElem?_map ..
theorem nxt_shift (h : Reach g R) {i j : Nat} (hg : goes g i = goes g j) (k : Nat) (c : Int) : nxt g j ((recs g R k).map (· + c)) = nxt g i (recs g R k) + c := by
  unfold nxt
  have one : atI (recs g R k) (-1) = some (cst g R k) := by
    unfold cst
    rw [show (-1 : Int) = -((1 : Nat) : Int) from rfl, recs_back h.r1 k 1 (Nat.le_refl 1) h.r1]
    rfl
  rw [← hg]
  by_cases e : goes g i = true
  · rw [if_pos e, if_pos e, ← least_add _ _ (by simp [h.ne]), List.map_map]
    congr 1
    refine List.map_congr_left fun z hz => ?_
    have p1 := (h.ok z hz).1
    have le := h.le z hz
    obtain ⟨j, hj⟩ := Int.eq_ofNat_of_zero_le (show 0 ≤ z.1 by omega)
    rw [atI_map, show (0 : Int) - z.1 = -((j : Nat) : Int) by omega]
    show _ = (atI (recs g R k) (0 - z.1)).getD 0 + z.2 + c
    rw [show (0 : Int) - z.1 = -((j : Nat) : Int) by omega, recs_back h.r1 k j (by omega) (by omega)]
    show _ + c + z.2 = _ + z.2 + c
    simp only [Option.getD_some]
    omega
  · rw [if_neg e, if_neg e, atI_map, one]
    rfl
theorem recs_far (h : Reach g R) {i j : Nat} (hs : stC g R i = stC g R j) (hm : (i : Int).fmod g.ln = (j : Int).fmod g.ln) : ∀ m, recs g R (j + m) = (recs g R (i + m)).map (· + (cst g R j - cst g R i))
  | 0 => map_shift hs
  | m + 1 => by
    have ih := recs_far h hs hm m
    show (recs g R (j + m)).drop 1 ++ [nxt g (j + m) (recs g R (j + m))] = ((recs g R (i + m)).drop 1 ++ [nxt g (i + m) (recs g R (i + m))]).map _
    have hg : goes g (i + m) = goes g (j + m) := by
      have go : ∀ n, ((i + n : Nat) : Int).fmod g.ln = ((j + n : Nat) : Int).fmod g.ln := fun n => by
        induction n with
        | zero => exact hm
        | succ n ih => exact mod_succ (by have := h.l1; omega) ih
      exact goes_eq (go m)
    rw [ih, List.map_append, nxt_shift h hg, List.map_drop]
    rfl
theorem cst_far (h : Reach g R) {i j : Nat} (hs : stC g R i = stC g R j) (hm : (i : Int).fmod g.ln = (j : Int).fmod g.ln) (m : Nat) : cst g R (j + m) = cst g R (i + m) + (cst g R j - cst g R i) := by
  have one : ∀ k, atI (recs g R k) (-1) = some (cst g R k) := fun k => by
    unfold cst
    rw [show (-1 : Int) = -((1 : Nat) : Int) from rfl, recs_back h.r1 k 1 (Nat.le_refl 1) h.r1]
    rfl
  have := one (j + m)
  rw [recs_far h hs hm m, atI_map, one (i + m)] at this
  injection this with this
  exact this.symm
/-- no whole number of rounds below d is noted twice -/
def FreshC (g : Par) (R d : Nat) : Prop := ∀ i j, i < j → j < d → (i : Int).fmod g.ln = 0 → (j : Int).fmod g.ln = 0 → stC g R i ≠ stC g R j
structure CRep (g : Par) (R d j : Nat) : Prop where
  lt : j < d
  mj : (j : Int).fmod g.ln = 0
  md : (d : Int).fmod g.ln = 0
  st : stC g R j = stC g R d
  fr : FreshC g R d
theorem CRep.next (r : CRep g R d j) (h : Reach g R) (m : Nat) : cst g R (d + m) = cst g R (j + m) + (cst g R d - cst g R j) := cst_far h r.st (by rw [r.mj, r.md]) m
theorem CRep.turns {d j : Nat} (r : CRep g R d j) (h : Reach g R) (m : Nat) : ∀ t : Nat, cst g R (j + m + t * (d - j)) = cst g R (j + m) + (t : Int) * (cst g R d - cst g R j)
  | 0 => by
    rw [Nat.zero_mul, Nat.add_zero]
    show _ = _ + (0 : Int) * _
    rw [Int.zero_mul, Int.add_zero]
  | t + 1 => by
    have ih := r.turns h m t
    have lt := r.lt
    have n := r.next h (m + t * (d - j))
    have e1 : j + m + (t + 1) * (d - j) = d + (m + t * (d - j)) := by rw [Nat.succ_mul]; omega
    rw [e1, n, ← Nat.add_assoc, ih, show ((t + 1 : Nat) : Int) = (t : Int) + 1 by omega, Int.add_mul, Int.one_mul]
    omega
end
end Sea

set_option Elab.async false
set_option linter.all false
set_option maxRecDepth 100000
set_option maxHeartbeats 4000000
/-! class Stretch; cuts_of -/
namespace Sea
open PySem PySem.Spec PyProof.Rows L2 LamX NdefX ClX Evl StX
theorem scStI : FnScope ["self", "begin", "end", "first"] ["self", "begin", "end", "first"] (defScope sStI) := ⟨rfl, rfl, rfl, by decide +kernel, rfl, by decide +kernel, by decide +kernel⟩
theorem scHol : FnScope ["self", "count"] ["self", "count"] (defScope sHol) := ⟨rfl, rfl, rfl, by decide +kernel, rfl, by decide +kernel, by decide +kernel⟩
theorem scVal : FnScope ["self", "count", "place", "extra"] ["self", "count"] (defScope sVal) := ⟨rfl, rfl, rfl, by decide +kernel, rfl, by decide +kernel, by decide +kernel⟩
theorem scCut : FnScope ["travel", "found", "begin", "day"] ["travel"] (defScope sCut) := ⟨rfl, rfl, rfl, by decide +kernel, rfl, by decide +kernel, by decide +kernel⟩
/-- a stretch's fields -/
abbrev stF (tl : Addr) (s d gn : Int) : List (Str × V) := [("begin", .int 0), ("end", .non), ("totals", .ref tl), ("start", .int s), ("days", .int d), ("gain", .int gn)]
structure TSt (K : PySem.W.Frag) (mg : Str → Option Value) (ST : Addr) : Prop where
  cl : Cls K ST
  nB : NoAttr K ST "begin"
  nE : NoAttr K ST "end"
  nT : NoAttr K ST "totals"
  nS : NoAttr K ST "start"
  nD : NoAttr K ST "days"
  nG : NoAttr K ST "gain"
  gS : mg "Stretch" = some (.ref ST)
  mN : mg "len" = none
  mI : mg "int" = none
def ctots (g : Par) (R d : Nat) : List V := (List.range (d + 1)).map fun k => V.int (cst g R k)
theorem ctots_len (g : Par) (R d : Nat) : (ctots g R d).length = d + 1 := by
  unfold ctots
  rw [List.length_map, List.length_range]
theorem ctots_at (g : Par) (R : Nat) {d k : Nat} (h : k ≤ d) : atI (ctots g R d) (k : Int) = some (.int (cst g R k)) := by
  refine at_nat (by rw [ctots_len]; omega) ?_
  unfold ctots
  rw [List.getElem?_map, List.getElem?_range (by omega)]
  rfl
theorem ctots_snoc (g : Par) (R d : Nat) : ctots g R (d + 1) = ctots g R d ++ [.int (cst g R (d + 1))] := by
  unfold ctots
  rw [List.range_succ, List.map_append]
  rfl
section
variable {P : Program} {w : World} {K : PySem.W.Frag} {mg : Str → Option Value} {base : Heap} {ST : Addr}
def spStI (ST : Addr) : Sp := fun vs H Q _ => ∃ (a dx : Addr) (f : Int), vs = [.ref a, .int 0, .non, .int f] ∧ H a = some (.ins ST dx []) ∧
  ∀ tl H', H tl = none → (∀ b o, H b = some o → b ≠ a → H' b = some o) → H' tl = some (.lst [.int f]) → H' a = some (.ins ST dx (stF tl 0 0 0)) → Q .non H'
theorem ok_stI {f : Addr} {fd : FuncData} {k : Nat} (F : Fun K "__init__" "Stretch.__init__" sStI f fd) (T : TSt K mg ST) : FnOk P w K mg base CX0 (k + 1) f fd ["self", "begin", "end", "first"] (spStI ST) := by
  refine F.ok scStI (fun vs H Q E h => ?_) (fun cdv A outer s H vs Q E hr h => ?_)
  · obtain ⟨a, dx, f, rfl, _⟩ := h
    rfl
  · obtain ⟨a, dx, f, rfl, ha, q⟩ := h
    refine ⟨_, pss_cons (ps_fld (pv 0) (pv 1) rfl) (pss_cons (ps_fld (pv 0) (pv 2) rfl) (pss_cons (ps_fld (pv 0) (pe_lst (pa_cons (pv 3) pa_nil)) rfl) (pss_cons (ps_fld (pv 0) pe_int rfl) (pss_cons (ps_fld (pv 0) pe_int rfl) (pss_one (ps_fld (pv 0) pe_int rfl)))))), ?_⟩
    refine ⟨_, rfl, _, rfl, a, ST, dx, [], rfl, ha, T.cl, T.nB, by decide, ?_⟩
    refine ⟨_, rfl, _, rfl, a, ST, dx, _, rfl, upd_same, T.cl, T.nE, show 1 < 1000 by decide, ?_⟩
    refine ⟨_, rfl, Nat.le_of_lt (small1000 (show 1 ≤ 1000 by decide)), fun tl ntl => ?_⟩
    generalize hH1 : upd (upd H a (.ins ST dx (putF "begin" (.int 0) []))) a (.ins ST dx (putF "end" .non (putF "begin" (.int 0) []))) = H1 at ntl
    have k1 : ∀ b o, H b = some o → b ≠ a → H1 b = some o := fun b o e n => by
      rw [← hH1, upd_ne n, upd_ne n]
      exact e
    have a1 : H1 a = some (.ins ST dx (putF "end" .non (putF "begin" (.int 0) []))) := by rw [← hH1, upd_same]
    have nta : tl ≠ a := fun z => by rw [z, a1] at ntl; cases ntl
    have nt0 : H tl = none := by
      cases e : H tl with
      | none => rfl
      | some o => rw [k1 _ _ e nta] at ntl; cases ntl
    refine ⟨_, rfl, a, ST, dx, _, rfl, (same_new ntl) _ _ a1, T.cl, T.nT, show 2 < 1000 by decide, ?_⟩
    refine ⟨_, rfl, a, ST, dx, _, rfl, upd_same, T.cl, T.nS, show 3 < 1000 by decide, ?_⟩
    refine ⟨_, rfl, a, ST, dx, _, rfl, upd_same, T.cl, T.nD, show 4 < 1000 by decide, ?_⟩
    refine ⟨_, rfl, a, ST, dx, _, rfl, upd_same, T.cl, T.nG, show 5 < 1000 by decide, ?_⟩
    refine q tl _ nt0 (fun b o e n => ?_) ?_ upd_same
    · rw [upd_ne n, upd_ne n, upd_ne n, upd_ne n]
      exact same_new ntl _ _ (k1 b o e n)
    · rw [upd_ne nta, upd_ne nta, upd_ne nta, upd_ne nta, upd_same]
def spHol (ST : Addr) : Sp := fun vs H Q _ => ∃ (a dx tl : Addr) (s d gn c : Int) (xs : List V), vs = [.ref a, .int c] ∧ H a = some (.ins ST dx (stF tl s d gn)) ∧ H tl = some (.lst xs) ∧ ∀ H', Same H H' → Q (.bl (decide (0 < d) || decide (c < (xs.length : Int)))) H'
theorem fld_ev {C a dx : Addr} {fs : List (Str × V)} {f : Str} {v : V} {σ : L2.St} {H : Hp} {i : Nat} (cl : Cls K C) (n : NoAttr K C f) (hs : σ[i]? = some (some (.ref a))) (ha : H a = some (.ins C dx fs)) (hf : fs.lookup f = some v) : Ev (tFld K (tVar i) f) σ H v := fun H1 e Q q =>
  ⟨.ref a, hs, a, C, dx, _, v, rfl, e _ _ ha, cl, n, hf, q H1 (Ex.refl _)⟩
theorem ok_hol {f : Addr} {fd : FuncData} {k : Nat} (F : Fun K "holds" "Stretch.holds" sHol f fd) (T : TSt K mg ST) : FnOk P w K mg base CX0 (k + 1) f fd ["self", "count"] (spHol ST) := by
  refine F.ok scHol (fun vs H Q E h => ?_) (fun cdv A outer s H vs Q E hr h => ?_)
  · obtain ⟨a, dx, tl, s, d, gn, c, xs, rfl, _⟩ := h
    rfl
  · obtain ⟨a, dx, tl, st, d, gn, c, xs, rfl, ha, ht, q⟩ := h
    refine ⟨_, pss_one (ps_ret (L2.pe_or (pe_cmpR op_gt (pe_fld (pv 0) rfl) pe_int (nomark _)) (pe_one (pe_cmpR op_lt (pe_op op_sub (pv 1) (pe_fld (pv 0) rfl)) (pe_callB call_len_seq (by rfl) T.mN PySem.boot_len (pa_cons (pe_fld (pv 0) rfl) pa_nil)) (nomark _))))), ?_⟩
    refine s_ret (v := .bl (decide (0 < d) || decide (c < (xs.length : Int)))) (ev_is (ev_orV (a := decide (0 < d)) (b := decide (c - 0 < (xs.length : Int))) (ev_op (fld_ev T.cl T.nD rfl ha rfl) ev_c (rv_I0 (g := fun i j => .bl (decide (j < i))))) fun _ => ev_op (ev_op (ev_var rfl) (fld_ev T.cl T.nB rfl ha rfl) rv_I0) (ev_len (fld_ev T.cl T.nT rfl ha rfl) (sq_of ht)) (rv_I0 (g := fun i j => .bl (decide (i < j))))) (by rw [Int.sub_zero])) fun H1 e1 => q H1 e1
def spVal (ST : Addr) : Sp := fun vs H Q _ => ∃ (a dx tl : Addr) (g : Par) (R d j n : Nat), vs = [.ref a, .int n] ∧ H a = some (.ins ST dx (stF tl j ((d : Int) - j) (cst g R d - cst g R j))) ∧ H tl = some (.lst (ctots g R d)) ∧ Reach g R ∧ CRep g R d j ∧ d ≤ 10000000 ∧ n ≤ 2000000000000000000 ∧ ∀ H', Same H H' → Q (.int (cst g R n)) H'
theorem ok_val {f : Addr} {fd : FuncData} {k : Nat} (F : Fun K "value" "Stretch.value" sVal f fd) (T : TSt K mg ST) : FnOk P w K mg base CX0 (k + 1) f fd ["self", "count"] (spVal ST) := by
  refine F.ok scVal (fun vs H Q E h => ?_) (fun cdv A outer s H vs Q E hr h => ?_)
  · obtain ⟨a, dx, tl, g, R, d, j, n, rfl, _⟩ := h
    rfl
  · obtain ⟨a, dx, tl, g, R, d, j, n, rfl, ha, ht, rc, rep, few, nb, q⟩ := h
    refine ⟨_, pss_cons (ps_set (i := 2) scVal.nd rfl (.inl rfl) (pe_op op_sub (pv 1) (pe_fld (pv 0) rfl)))
      (pss_cons (ps_if (pt_cmpR op_lt (pv 2) (pe_callB call_len_seq (by rfl) T.mN PySem.boot_len (pa_cons (pe_fld (pv 0) rfl) pa_nil)) (nomark _)) (pss_one (ps_ret (pe_ixl (pe_fld (pv 0) rfl) (pv 2)))) pss_nil)
      (pss_cons (ps_set (i := 3) scVal.nd rfl (.inl rfl) (pe_op op_sub (pv 2) (pe_fld (pv 0) rfl)))
      (pss_one (ps_ret (pe_op op_add (pe_ixl (pe_fld (pv 0) rfl) (pe_op op_add (pe_fld (pv 0) rfl) (pe_op op_modN (pe_callTy call_int1 (by rfl) T.mI (by rfl) (pa_cons (pv 3) pa_nil)) (pe_fld (pv 0) rfl)))) (pe_op op_mul (pe_op op_fdivN (pv 3) (pe_fld (pv 0) rfl)) (pe_fld (pv 0) rfl))))))), ?_⟩
    have lt := rep.lt
    refine q_asg (v := .int (n : Int)) (ev_is (ev_op (ev_var rfl) (fld_ev T.cl T.nB rfl ha rfl) (rv_I0 (g := fun i j => .int (i - j)) (i := (n : Int)) (j := 0))) (by rw [Int.sub_zero])) fun H1 e1 => ?_
    have ha1 := e1 _ _ ha
    have ht1 := e1 _ _ ht
    refine q_when (b := decide ((n : Int) < ((ctots g R d).length : Int))) (et_test (ev_op (ev_var rfl) (ev_len (fld_ev T.cl T.nT rfl ha1 rfl) (sq_of ht1)) (rv_I0 (g := fun i j => .bl (decide (i < j)))))) (fun hb H2 e2 => ?_) (fun hb H2 e2 => ?_)
    · have hn := of_decide_eq_true hb
      rw [ctots_len] at hn
      exact s_ret (ev_op (fld_ev T.cl T.nT rfl (e2 _ _ ha1) rfl) (ev_var rfl) (rv_ixL (.inl (.inl (e2 _ _ ht1))) (ctots_at g R (by omega)))) fun H3 e3 => q H3 (Same.trans (Same.trans e1 e2) e3)
    · have hn := of_decide_eq_false hb
      rw [ctots_len] at hn
      have ha2 := e2 _ _ ha1
      have ht2 := e2 _ _ ht1
      refine q_asg (v := .int ((n : Int) - (j : Int))) (ev_op (ev_var rfl) (fld_ev T.cl T.nS rfl ha2 rfl) rv_I0) fun H3 e3 => ?_
      have ha3 := e3 _ _ ha2
      have ht3 := e3 _ _ ht2
      -- the day of the first period that it is like
      have e1' : ((n : Int) - (j : Int)).fmod ((d : Int) - (j : Int)) = (((n - j) % (d - j) : Nat) : Int) := by
        rw [Int.fmod_eq_emod_of_nonneg _ (by omega), show (n : Int) - (j : Int) = ((n - j : Nat) : Int) by omega, show (d : Int) - (j : Int) = ((d - j : Nat) : Int) by omega]
        rfl
      have e2' : ((n : Int) - (j : Int)).fdiv ((d : Int) - (j : Int)) = (((n - j) / (d - j) : Nat) : Int) := by
        rw [Int.fdiv_eq_ediv_of_nonneg _ (by omega), show (n : Int) - (j : Int) = ((n - j : Nat) : Int) by omega, show (d : Int) - (j : Int) = ((d - j : Nat) : Int) by omega]
        rfl
      have ml := Nat.mod_lt (n - j) (show 0 < d - j by omega)
      have dl := Nat.div_le_self (n - j) (d - j)
      have at_ : atI (ctots g R d) ((j : Int) + ((n : Int) - (j : Int)).fmod ((d : Int) - (j : Int))) = some (.int (cst g R (j + (n - j) % (d - j)))) := by
        rw [e1', show (j : Int) + (((n - j) % (d - j) : Nat) : Int) = ((j + (n - j) % (d - j) : Nat) : Int) by omega]
        exact ctots_at g R (by omega)
      have fin : cst g R (j + (n - j) % (d - j)) + ((n : Int) - (j : Int)).fdiv ((d : Int) - (j : Int)) * (cst g R d - cst g R j) = cst g R n := by
        have t := rep.turns rc ((n - j) % (d - j)) ((n - j) / (d - j))
        have dm := Nat.div_add_mod (n - j) (d - j)
        rw [Nat.mul_comm] at dm
        rw [show j + (n - j) % (d - j) + (n - j) / (d - j) * (d - j) = n by omega] at t
        rw [e2', t]
      refine s_ret (v := .int (cst g R n)) (ev_is (ev_op (ev_op (fld_ev T.cl T.nT rfl ha3 rfl) (ev_op (fld_ev T.cl T.nS rfl ha3 rfl) (ev_op (ev_int1 (ev_var rfl)) (fld_ev T.cl T.nD rfl ha3 rfl) (rv_I (C := fun _ j => j ≠ 0) (g := fun i j => .int (i.fmod j)) (i := (n : Int) - (j : Int)) (j := (d : Int) - (j : Int)) (by omega))) (rv_I0 (g := fun i j => .int (i + j)))) (rv_ixL (.inl (.inl ht3)) at_)) (ev_op (ev_op (ev_var rfl) (fld_ev T.cl T.nD rfl ha3 rfl) (rv_I (g := fun i j => .int (i.fdiv j)) (i := (n : Int) - (j : Int)) (j := (d : Int) - (j : Int)) ⟨by omega, by omega⟩)) (fld_ev T.cl T.nG rfl ha3 rfl) (rv_I (g := fun i j => .int (i * j)) (.inl ⟨?_, ?_⟩))) (rv_I0 (g := fun i j => .int (i + j)))) (by rw [fin])) fun H4 e4 => q H4 (Same.trans (Same.trans (Same.trans e1 e2) e3) e4)
      · rw [e2']
        generalize (n - j) / (d - j) = z at dl
        omega
      · rw [e2']
        generalize (n - j) / (d - j) = z at dl
        omega
end
end Sea

set_option Elab.async false
set_option linter.all false
set_option maxRecDepth 100000
set_option maxHeartbeats 4000000
/-! cuts_of; class Curve: its words, __init__ -/
namespace Sea
open PySem PySem.Spec PyProof.Rows L2 LamX NdefX ClX Evl StX
theorem t_yes {σ : L2.St} {H : Hp} {Q : Bool → Hp → Prop} (h : Q true H) : tYes σ H Q := h
theorem pg_tupK {X : Cx} {K : PySem.W.Frag} (hK : X.K = K) {es : List Expr} {k : Nat} {t : TGs} {n : Nat} {pos : Pos} (hc : X.calm = true) (h : PGs X es t) (hn : (assignEach es X.env).length = n := by rfl) (hst : (assignEach es X.env).findIdx? (·.1) = none := by rfl) : PG X (.Tuple es k pos) (gTup K n t) := hK ▸ pg_tup hc h hn hst
/-- a comprehension over a tuple of pairs, all of them -/
theorem el_pairs {K : PySem.W.Frag} {σ : L2.St} {H : Hp} {tl te : TE} {i j : Nat} {vs : List Nat} {p : Addr} {ws : List V} {L : List (Int × Int)} (v : Int × Int → V) (h : Ev tl σ H (.ref p)) (hx : SqT K H p ws) (hp : PsV K H ws L) (few : L.length ≤ 40000)
    (hw : ∀ x y, wipe (((wipe σ vs).set i (some x)).set j (some y)) vs = wipe σ vs) (he : ∀ (z : Int × Int) H1, Ex H H1 → z ∈ L → Ev te (((wipe σ vs).set i (some (.int z.1))).set j (some (.int z.2))) H1 (v z)) :
    EvL (tLc (iTup K tl) (gTup K 2 (gCons (gName i) (gCons (gName j) gNil))) tYes te vs) σ H (L.map v) := fun H0 e Q q => h H0 e _ fun H1 e1 => by
  have len := hp.len
  refine ⟨p, rfl, ⟨ws, ex_t (e.trans e1) hx⟩, fun D nD => ?_⟩
  refine lc_tup (K := K) (xs := ws) (fun n H' => Ex H1 H' ∧ H' D = some (.lst ((L.take n).map v))) ⟨Ex.new nD, upd_same⟩ (fun n H' _ z => ex_t ((e.trans e1).trans z.1) hx) (fun n x H2 hn z => ?_) fun H2 z => ?_
  · obtain ⟨y, hy, b, rfl, hb⟩ := hp.get hn
    have e2 := (e.trans e1).trans z.1
    have lt := (List.getElem?_eq_some_iff.mp hn).1
    refine ⟨b, _, rfl, ex_t e2 hb, rfl, _, _, rfl, _, _, rfl, rfl, hw _ _, t_yes (Eq.mpr (if_pos rfl) ?_)⟩
    refine he y H2 e2 (List.mem_of_getElem? hy) H2 (Ex.refl _) _ fun H3 e3 => ⟨_, e3 _ _ z.2, sz_lt (by rw [List.length_map, List.length_take]; omega), ?_, ?_⟩
    · exact Ex.mut (z.1.trans e3) nD
    · rw [upd_same, take_snoc hy, List.map_append]
      rfl
  · have e2 := z.2
    rw [len, List.take_length] at e2
    exact q D H2 (fresh_back e1 nD) (e1.trans z.1) e2
section
variable {P : Program} {w : World} {K : PySem.W.Frag} {mg : Str → Option Value} {base : Heap} {CV fVN fRl pRl fRd pRd fEx pEx : Addr} {dVN dRl dRd dEx : FuncData}
def spCut (K : PySem.W.Frag) (CV : Addr) : Sp := fun vs H Q _ => ∃ (tv : Addr) (ln : Int) (dv ov : V) (ds : List Int), vs = [.ref tv] ∧ Tv K CV H tv ln dv ov ds [] ∧
  ∀ l p H', Same H H' → H l = none → H' l = some (.lst [.ref p]) → H' p = some (.tup [.int 0, .non]) → Q (.ref l) H'
theorem ok_cut {f : Addr} {fd : FuncData} {k : Nat} (F : Fun K "cuts_of" "cuts_of" sCut f fd) (TV : TTv K mg CV fVN dVN) (R : TPr K CV fRl pRl fRd pRd fEx pEx dRl dRd dEx) : FnOk P w K mg base CX0 (k + 3) f fd ["travel"] (spCut K CV) := by
  refine F.ok scCut (fun vs H Q E h => ?_) (fun cdv A outer s H vs Q E hr h => ?_)
  · obtain ⟨tv, ln, dv, ov, ds, rfl, _⟩ := h
    rfl
  · obtain ⟨tv, ln, dv, ov, ds, rfl, ht, q⟩ := h
    have h2 := hr.mono (show 2 ≤ k + 2 by omega)
    refine ⟨_, pss_cons (ps_par (i := 1) (j := 2) rfl scCut.nd rfl rfl (by decide) rfl rfl (pa_cons (pe_lst pa_nil) (pa_cons pe_int pa_nil)) (by rfl))
      (pss_cons (ps_for PassesOwn.never rfl (pi_tup (pe_ex R TV h2 (pv 0))) (pg_name (i := 3) scCut.nd rfl (.inl rfl))
        (pss_cons (ps_if (pt_cmpR op_lt (pv 2) (pv 3) (nomark _)) (pss_one (ps_expr (pe_bm PySem.F.plainAttrs_list PySem.F.slot_list_append PySem.F.type_list_append mt_append (pv 1) (pa_cons (pe_tup (pa_cons (pv 2) (pa_cons (pv 3) pa_nil))) pa_nil)))) pss_nil)
        (pss_cons (ps_expr (pe_bm PySem.F.plainAttrs_list PySem.F.slot_list_append PySem.F.type_list_append mt_append (pv 1) (pa_cons (pe_tup (pa_cons (pv 3) (pa_cons (pe_op op_add (pv 3) pe_int) pa_nil))) pa_nil)))
        (pss_one (ps_set (i := 2) scCut.nd rfl (.inl rfl) (pe_op op_add (pv 3) pe_int))))))
      (pss_one (ps_ret (pe_op op_cat (pv 1) (pe_lst (pa_cons (pe_tup (pa_cons (pv 2) (pa_cons pe_non pa_nil))) pa_nil)))))), ?_⟩
    have lt : ∀ {n : Nat}, n ≤ 1000 → n ≤ sizeLine := fun h => Nat.le_of_lt (small1000 h)
    refine ⟨lt (Nat.zero_le _), fun l0 n0 => ⟨_, _, rfl, ?_⟩⟩
    have s0 : Same H (upd H l0 (.lst [])) := same_new n0
    have ht0 := ht.same s0
    obtain ⟨_, _, ⟨po, rfl, hpo⟩⟩ := id ht0
    refine s_forT (K := K) (xs := []) (tv_get rfl ht0 (tvF_odd ..)) hpo (fun _ σ H' => σ = [some (.ref tv), some (.ref l0), some (.int 0), none] ∧ Same (upd H l0 (.lst [])) H') (fun H1 e1 => ⟨rfl, e1⟩) (fun _ _ H' _ z => (TK.same z.2) _ _ hpo) (fun n x σ' H' hn => nomatch hn) ?_
    rintro σ H1 ⟨rfl, s1⟩
    have l1 := s1 _ _ (upd_same (H := H) (a := l0) (o := .lst []))
    refine ⟨_, rfl, _, rfl, lt (show 2 ≤ 1000 by decide), fun p np => ⟨lt (show 1 ≤ 1000 by decide), fun l2 n2 => ?_⟩⟩
    have s2 : Same H1 (upd H1 p (.tup [V.int 0, .non])) := same_new np
    have s3 : Same H1 (upd (upd H1 p (.tup [V.int 0, .non])) l2 (.lst [.ref p])) := Same.trans s2 (same_new n2)
    refine ⟨l0, l2, [], [.ref p], rfl, rfl, s3 _ _ l1, upd_same, lt (show 0 + 1 ≤ 1000 by decide), fun l3 n3 => ?_⟩
    refine q l3 p _ (Same.trans (Same.trans (Same.trans s0 s1) s3) (same_new n3)) (fresh_back (Same.trans (Same.trans s0 s1) s3) n3) upd_same ?_
    exact same_new n3 _ _ (same_new n2 _ _ upd_same)
end
end Sea

set_option Elab.async false
set_option linter.all false
set_option maxRecDepth 100000
set_option maxHeartbeats 4000000
/-! class Curve: __init__, open_stretch -/
namespace Sea
open PySem PySem.Spec PyProof.Rows L2 LamX NdefX ClX Evl StX
theorem scCvI : FnScope ["self", "passes", "travel", "length", "price"] ["self", "passes", "travel"] (defScope sCvI) := ⟨rfl, rfl, rfl, by decide +kernel, rfl, by decide +kernel, by decide +kernel⟩
theorem scOpn : FnScope ["self", "begin", "end"] ["self"] (defScope sOpn) := ⟨rfl, rfl, rfl, by decide +kernel, rfl, by decide +kernel, by decide +kernel⟩
/-- a curve's fields -/
abbrev cvF (p tv : Addr) (R : Nat) (cu sts rec sn : Addr) : List (Str × V) := [("offers", .ref p), ("days_of_travel", .ref tv), ("reach", .int R), ("cuts", .ref cu), ("stretches", .ref sts), ("recent", .ref rec), ("seen", .ref sn)]
structure TCv (K : PySem.W.Frag) (mg : Str → Option Value) (CC : Addr) : Prop where
  cl : Cls K CC
  nO : NoAttr K CC "offers"
  nT : NoAttr K CC "days_of_travel"
  nR : NoAttr K CC "reach"
  nC : NoAttr K CC "cuts"
  nS : NoAttr K CC "stretches"
  nE : NoAttr K CC "recent"
  nN : NoAttr K CC "seen"
  gC : mg "Curve" = some (.ref CC)
  mX : mg "max" = none
  mM : mg "min" = none
  mN : mg "len" = none
  mI : mg "int" = none
  mT : mg "tuple" = none
theorem reach_of {g : Par} (l1 : 1 ≤ g.ln) (l2 : g.ln ≤ 14) (ok : ∀ z ∈ g.L, PassOk z) {m : Int} (h : m ∈ g.L.map Prod.fst) (h2 : ∀ x ∈ g.L.map Prod.fst, x ≤ m) : ∃ R : Nat, m = (R : Int) ∧ Reach g R := by
  obtain ⟨z, hz, rfl⟩ := List.mem_map.mp h
  have p := ok z hz
  obtain ⟨R, hR⟩ := Int.eq_ofNat_of_zero_le (show 0 ≤ z.1 by have := p.1; omega)
  have p1 := p.1
  have p2 := p.2.1
  exact ⟨R, hR, l1, l2, ok, List.ne_nil_of_mem hz, fun y hy => by rw [← show (z.1 : Int) = (R : Int) from hR]; exact h2 _ (List.mem_map.mpr ⟨y, hy, rfl⟩), by omega, by omega⟩
/-- the keys that are noted up to day n -/
def stK (g : Par) (R k : Nat) : List Key := (stC g R k).map Sum.inl
def kvC (g : Par) (R n : Nat) : List (List Key × V) := ((List.range n).filter fun k => decide (((k : Nat) : Int).fmod g.ln = 0)).map fun k => (stK g R k, V.int ((k : Nat) : Int))
/-- where a curve's parts lie -/
structure CvA where
  cv : Addr
  dx : Addr
  p : Addr
  tv : Addr
  cu : Addr
  pp : Addr
  sts : Addr
  st : Addr
  dxs : Addr
  tl : Addr
  sn : Addr
/-- what holds of a curve, behind the heap H0 in which its tariff and travel stand -/
structure Cvb (K : PySem.W.Frag) (CV CC ST : Addr) (g : Par) (R : Nat) (H0 H : Hp) (a : CvA) (rec : Addr) : Prop where
  same : Same H0 H
  ncv : H0 a.cv = none
  nst : H0 a.st = none
  ntl : H0 a.tl = none
  nsn : H0 a.sn = none
  icv : H a.cv = some (.ins CC a.dx (cvF a.p a.tv R a.cu a.sts rec a.sn))
  icu : H a.cu = some (.lst [.ref a.pp])
  ipp : H a.pp = some (.tup [.int 0, .non])
  ists : H a.sts = some (.lst [.ref a.st])
  tvl : ∃ dv ov, Tv K CV H0 a.tv g.ln dv ov g.ds []
  pas : ∃ ws, SqT K H0 a.p ws ∧ PsV K H0 ws g.L
  few : g.L.length ≤ 1000
  rc : Reach g R
/-- .. while costs are added: k of them, keys noted up to n -/
structure Cvr (K : PySem.W.Frag) (CV CC ST : Addr) (g : Par) (R : Nat) (H0 : Hp) (k n : Nat) (H : Hp) (a : CvA) (rec : Addr) : Prop where
  b : Cvb K CV CC ST g R H0 H a rec
  irec : H rec = some (.lst ((recs g R k).map V.int))
  ist : H a.st = some (.ins ST a.dxs (stF a.tl 0 0 0))
  itl : H a.tl = some (.lst (ctots g R k))
  isn : H a.sn = some (.dT (kvC g R n))
  nrt : rec ≠ a.tl
/-- .. when what repeats is found -/
structure Cvd (K : PySem.W.Frag) (CV CC ST : Addr) (g : Par) (R : Nat) (H0 : Hp) (d j : Nat) (H : Hp) (a : CvA) (rec : Addr) : Prop where
  b : Cvb K CV CC ST g R H0 H a rec
  rep : CRep g R d j
  big : d ≤ 10000000
  ist : H a.st = some (.ins ST a.dxs (stF a.tl j ((d : Int) - j) (cst g R d - cst g R j)))
  itl : H a.tl = some (.lst (ctots g R d))
section
variable {K : PySem.W.Frag} {σ : L2.St} {H : Hp} {te : TE} {D : Ends} {i : Nat} {a C dx : Addr} {fs : List (Str × V)} {f : Str} {v : V}
theorem s_fldE (h : Ev te σ H v) (hs : σ[i]? = some (some (.ref a))) (ha : H a = some (.ins C dx fs)) (cl : Cls K C) (n : NoAttr K C f) (l : fs.length < 1000) (k : ∀ H1, Ex H H1 → D.nx σ (upd H1 a (.ins C dx (putF f v fs)))) : sFld K (tVar i) te f D σ H :=
  h H (Ex.refl H) _ fun H1 e1 => ⟨_, hs, a, C, dx, fs, rfl, e1 _ _ ha, cl, n, l, k H1 e1⟩
theorem s_fldL {xs : List V} (h : EvL te σ H xs) (hs : σ[i]? = some (some (.ref a))) (ha : H a = some (.ins C dx fs)) (cl : Cls K C) (n : NoAttr K C f) (l : fs.length < 1000) (k : ∀ p H1, H p = none → Ex H H1 → H1 p = some (.lst xs) → D.nx σ (upd H1 a (.ins C dx (putF f (.ref p) fs)))) : sFld K (tVar i) te f D σ H :=
  h H (Ex.refl H) _ fun p H1 np e1 hp => ⟨_, hs, a, C, dx, fs, rfl, e1 _ _ ha, cl, n, l, k p H1 np e1 hp⟩
end
section
variable {P : Program} {w : World} {K : PySem.W.Frag} {mg : Str → Option Value} {base : Heap} {CV CC ST fVN fRl pRl fRd pRd fEx pEx fCut fSt : Addr} {dVN dRl dRd dEx dCut dSt : FuncData}
def spCvI (K : PySem.W.Frag) (CV CC : Addr) : Sp := fun vs H Q _ => ∃ (a dx p tv : Addr) (ws : List V) (g : Par) (dv ov : V), vs = [.ref a, .ref p, .ref tv] ∧ H a = some (.ins CC dx []) ∧ SqT K H p ws ∧ PsV K H ws g.L ∧ g.L.length ≤ 1000 ∧ g.L ≠ [] ∧ (∀ z ∈ g.L, PassOk z) ∧ 1 ≤ g.ln ∧ g.ln ≤ 14 ∧ Tv K CV H tv g.ln dv ov g.ds [] ∧
  ∀ (R : Nat) (cu pp sts rec sn : Addr) H', Reach g R → KA a H H' → H' a = some (.ins CC dx (cvF p tv R cu sts rec sn)) → H' cu = some (.lst [.ref pp]) → H' pp = some (.tup [.int 0, .non]) → H sts = none → H' sts = some (.lst []) → H' rec = some (.lst ((recs g R 0).map V.int)) → Q .non H'
theorem KA.ne {a b : Addr} {H H1 : Hp} {o : HO} (e : H b = some o) (n : H a = none) : b ≠ a := fun z => by
  rw [z, n] at e
  cases e
theorem ok_cvI {f : Addr} {fd : FuncData} {k : Nat} (F : Fun K "__init__" "Curve.__init__" sCvI f fd) (T : TCv K mg CC) (TV : TTv K mg CV fVN dVN) (R : TPr K CV fRl pRl fRd pRd fEx pEx dRl dRd dEx) (FC : Fun K "cuts_of" "cuts_of" sCut fCut dCut) (gC : mg "cuts_of" = some (.ref fCut)) (kC : PySem.W.keepIn K (.ref fCut) = true) : FnOk P w K mg base CX0 (k + 4) f fd ["self", "passes", "travel"] (spCvI K CV CC) := by
  have bC : Binds K dCut ["travel"] [] := FC.binds (ps := ["travel"]) fun _ _ _ _ _ _ us hl => match us, hl with | [_], _ => rfl
  refine F.ok scCvI (fun vs H Q E h => ?_) (fun cdv A outer s H vs Q E hr h => ?_)
  · obtain ⟨a, dx, p, tv, ws, g, dv, ov, rfl, _⟩ := h
    rfl
  · obtain ⟨a, dx, p, tv, ws, g, dv, ov, rfl, ha, hp, hps, few, ne, ok, l1, l2, ht, q⟩ := h
    have h3 := hr.mono (show 3 ≤ k + 3 by omega)
    refine ⟨_, pss_cons (ps_fld (pv 0) (pv 1) rfl) (pss_cons (ps_fld (pv 0) (pv 2) rfl)
      (pss_cut (ps_fld (pv 0) (pe_callB (cr_max rfl) (by rfl) T.mX (by decide +kernel) (pa_cons (pe_lc (own := [("length", 3), ("price", 4)]) (g := gTup K 2 (gCons (gName 3) (gCons (gName 4) gNil))) (by rfl) scCvI.nd (pi_tup (pv 1)) (blkOk_by (own := [("length", 3), ("price", 4)]) (N := ["self", "passes", "travel", "length", "price"]) (sc := defScope sCvI) (by decide +kernel)) (fun _ _ _ _ _ => pg_tupK rfl rfl (pgs_cons (pg_name (i := 3) scCvI.nd rfl (Or.inl rfl)) (pgs_cons (pg_name (i := 4) scCvI.nd rfl (Or.inl rfl)) pgs_nil))) (fun _ _ _ _ _ => pts_nil) (fun _ _ _ _ _ => pv 3)) pa_nil)) rfl)
      (pss_cut (ps_fld (pv 0) (pe_call (E := E0) (ok_cut (k := 0) FC TV R) h3 (by rfl) gC kC bC .nil pass0 (pa_cons (pv 2) pa_nil)) rfl)
      (pss_cut (ps_fld (pv 0) (pe_lst pa_nil) rfl)
      (pss_cut (ps_fld (pv 0) (pe_op op_rep (pe_lst (pa_cons pe_int pa_nil)) (pe_fld (pv 0) rfl)) rfl)
      (pss_one (ps_fld (pv 0) pe_dnewT rfl))))))), ?_⟩
    have lt : ∀ {n : Nat}, n ≤ 1000 → n ≤ sizeLine := fun h => Nat.le_of_lt (small1000 h)
    refine ⟨_, rfl, _, rfl, a, CC, dx, [], rfl, ha, T.cl, T.nO, by decide, _, rfl, _, rfl, a, CC, dx, _, rfl, upd_same, T.cl, T.nT, show 1 < 1000 by decide, ?_⟩
    have k0 : KA a H (upd (upd H a (.ins CC dx (putF "offers" (.ref p) []))) a (.ins CC dx (putF "days_of_travel" (.ref tv) (putF "offers" (.ref p) [])))) := KA.put (KA.put (fun b o e _ => e) (.inr rfl)) (.inr rfl)
    have a0 : (upd (upd H a (.ins CC dx (putF "offers" (.ref p) []))) a (.ins CC dx (putF "days_of_travel" (.ref tv) (putF "offers" (.ref p) [])))) a = some (.ins CC dx [("offers", .ref p), ("days_of_travel", .ref tv)]) := upd_same
    revert k0 a0
    generalize upd (upd H a (.ins CC dx (putF "offers" (.ref p) []))) a (.ins CC dx (putF "days_of_travel" (.ref tv) (putF "offers" (.ref p) []))) = H1
    intro k0 a0
    have tk : ∀ {H' : Hp}, KA a H H' → TK K H H' := fun k => k.tk ha
    -- the reach
    refine ⟨fun σ H' => σ = [some (.ref a), some (.ref p), some (.ref tv), none, none] ∧ ∃ R : Nat, Reach g R ∧ KA a H H' ∧ H' a = some (.ins CC dx [("offers", .ref p), ("days_of_travel", .ref tv), ("reach", .int R)]), ?_, ?_⟩
    · unfold sFld tCB tCons tNil
      refine (el_pairs (K := K) (σ := [some (.ref a), some (.ref p), some (.ref tv), none, none]) (te := tVar 3) (tl := tVar 1) (i := 3) (j := 4) (vs := [3, 4]) (fun z => .int z.1) (ev_var rfl) (tk k0 _ _ hp) (hps.tk (tk k0)) (by omega) (fun _ _ => rfl) (fun z H2 e2 hz => ev_var rfl)) H1 (Ex.refl _) _ fun D H2 nD e2 hD => ⟨D, g.L.map Prod.fst, rfl, .inl (.inl (by rw [hD, List.map_map]; rfl)), by rw [List.length_map]; exact List.length_pos_iff.mpr ne, fun m hm hle => ?_⟩
      obtain ⟨R, rfl, rc⟩ := reach_of l1 l2 ok hm hle
      exact ⟨_, rfl, a, CC, dx, _, rfl, e2 _ _ a0, T.cl, T.nR, show 2 < 1000 by decide, rfl, R, rc, KA.put (KA.same k0 e2) (.inr rfl), upd_same⟩
    clear k0 a0
    rintro σ H2 ⟨rfl, R', rc, k2, a2⟩
    -- the cuts
    refine ⟨fun σ H' => σ = [some (.ref a), some (.ref p), some (.ref tv), none, none] ∧ ∃ cu pp, KA a H H' ∧ H' cu = some (.lst [.ref pp]) ∧ H' pp = some (.tup [.int 0, .non]) ∧ H' a = some (.ins CC dx [("offers", .ref p), ("days_of_travel", .ref tv), ("reach", .int R'), ("cuts", .ref cu)]), ?_, ?_⟩
    · refine ⟨_, rfl, tv, g.ln, dv, ov, g.ds, rfl, k2.tv ha ht, fun cu pp H3 s3 ncu hcu hpp => ⟨_, rfl, a, CC, dx, _, rfl, s3 _ _ a2, T.cl, T.nC, show 3 < 1000 by decide, rfl, cu, pp, KA.put (KA.same k2 s3) (.inr rfl), ?_, ?_, upd_same⟩⟩
      · rw [upd_ne (ne_of hcu (s3 _ _ a2) (fun z => nomatch z))]
        exact hcu
      · rw [upd_ne (ne_of hpp (s3 _ _ a2) (fun z => nomatch z))]
        exact hpp
    clear k2 a2
    rintro σ H3 ⟨rfl, cu, pp, k3, hcu, hpp, a3⟩
    -- the stretches
    refine ⟨fun σ H' => σ = [some (.ref a), some (.ref p), some (.ref tv), none, none] ∧ ∃ sts, KA a H H' ∧ H' cu = some (.lst [.ref pp]) ∧ H' pp = some (.tup [.int 0, .non]) ∧ H sts = none ∧ H' sts = some (.lst []) ∧ H' a = some (.ins CC dx [("offers", .ref p), ("days_of_travel", .ref tv), ("reach", .int R'), ("cuts", .ref cu), ("stretches", .ref sts)]), ?_, ?_⟩
    · refine s_fldL (el_lst ea_nil (by decide)) rfl a3 T.cl T.nS (show 4 < 1000 by decide) fun sts H4 nst e4 hst => ⟨rfl, sts, KA.put (KA.same k3 e4) (.inr rfl), ?_, ?_, ?_, ?_, upd_same⟩
      · rw [upd_ne (ne_of (e4 _ _ hcu) (e4 _ _ a3) (fun z => nomatch z))]
        exact e4 _ _ hcu
      · rw [upd_ne (ne_of (e4 _ _ hpp) (e4 _ _ a3) (fun z => nomatch z))]
        exact e4 _ _ hpp
      · cases e : H sts with
        | none => rfl
        | some o =>
          have n : sts ≠ a := fun z => by
            rw [z, a3] at nst
            cases nst
          rw [k3 _ _ e n] at nst
          cases nst
      · rw [upd_ne (ne_of hst (e4 _ _ a3) (fun z => nomatch z))]
        exact hst
    clear k3 hcu hpp a3
    rintro σ H4 ⟨rfl, sts, k4, hcu, hpp, nst, hst, a4⟩
    -- the last costs
    refine ⟨fun σ H' => σ = [some (.ref a), some (.ref p), some (.ref tv), none, none] ∧ ∃ rec, KA a H H' ∧ H' cu = some (.lst [.ref pp]) ∧ H' pp = some (.tup [.int 0, .non]) ∧ H' sts = some (.lst []) ∧ H' rec = some (.lst ((recs g R' 0).map V.int)) ∧ H' a = some (.ins CC dx [("offers", .ref p), ("days_of_travel", .ref tv), ("reach", .int R'), ("cuts", .ref cu), ("stretches", .ref sts), ("recent", .ref rec)]), ?_, ?_⟩
    · refine ⟨lt (show 1 ≤ 1000 by decide), fun l0 nl0 => ?_⟩
      have e5 : Same H4 (upd H4 l0 (.lst [V.int 0])) := same_new nl0
      have r2 := rc.r2
      refine ⟨_, rfl, a, CC, dx, _, _, rfl, e5 _ _ a4, T.cl, T.nR, rfl, l0, (R' : Int), [.int 0], rfl, rfl, upd_same, by omega, by omega, lt (show 1 * ((R' : Int)).toNat ≤ 1000 by omega), fun rec nr => ?_⟩
      have e6 : Same H4 (upd (upd H4 l0 (.lst [V.int 0])) rec (.lst (List.replicate ((R' : Int)).toNat [V.int 0]).flatten)) := Same.trans e5 (same_new nr)
      have hr6 : (upd (upd H4 l0 (.lst [V.int 0])) rec (.lst (List.replicate ((R' : Int)).toNat [V.int 0]).flatten)) rec = some (.lst ((recs g R' 0).map V.int)) := by
        rw [upd_same]
        congr 2
        show (List.replicate R' [V.int 0]).flatten = (List.replicate R' (0 : Int)).map V.int
        rw [List.map_replicate]
        induction R' with
        | zero => rfl
        | succ n ih => exact congrArg (V.int 0 :: ·) (by
            have : ∀ m : Nat, (List.replicate m [V.int 0]).flatten = List.replicate m (V.int 0) := fun m => by
              induction m with
              | zero => rfl
              | succ m ih => exact congrArg (V.int 0 :: ·) ih
            exact this n)
      revert e6 hr6
      generalize upd (upd H4 l0 (.lst [V.int 0])) rec (.lst (List.replicate ((R' : Int)).toNat [V.int 0]).flatten) = H6
      intro e6 hr6
      refine ⟨_, rfl, a, CC, dx, _, rfl, e6 _ _ a4, T.cl, T.nE, show 5 < 1000 by decide, rfl, rec, KA.put (KA.same k4 e6) (.inr rfl), ?_, ?_, ?_, ?_, upd_same⟩
      · rw [upd_ne (ne_of (e6 _ _ hcu) (e6 _ _ a4) (fun z => nomatch z))]
        exact e6 _ _ hcu
      · rw [upd_ne (ne_of (e6 _ _ hpp) (e6 _ _ a4) (fun z => nomatch z))]
        exact e6 _ _ hpp
      · rw [upd_ne (ne_of (e6 _ _ hst) (e6 _ _ a4) (fun z => nomatch z))]
        exact e6 _ _ hst
      · rw [upd_ne (ne_of hr6 (e6 _ _ a4) (fun z => nomatch z))]
        exact hr6
    clear k4 hcu hpp hst a4
    rintro σ H5 ⟨rfl, rec, k5, hcu, hpp, hst, hr5, a5⟩
    -- no keys
    intro sn nsn
    have e6 : Same H5 (upd H5 sn (.dT [])) := same_new nsn
    refine ⟨_, rfl, a, CC, dx, _, rfl, e6 _ _ a5, T.cl, T.nN, show 6 < 1000 by decide, ?_⟩
    refine q R' cu pp sts rec sn _ rc (KA.put (KA.same k5 e6) (.inr rfl)) upd_same ?_ ?_ nst ?_ ?_
    · rw [upd_ne (ne_of (e6 _ _ hcu) (e6 _ _ a5) (fun z => nomatch z))]
      exact e6 _ _ hcu
    · rw [upd_ne (ne_of (e6 _ _ hpp) (e6 _ _ a5) (fun z => nomatch z))]
      exact e6 _ _ hpp
    · rw [upd_ne (ne_of (e6 _ _ hst) (e6 _ _ a5) (fun z => nomatch z))]
      exact e6 _ _ hst
    · rw [upd_ne (ne_of (e6 _ _ hr5) (e6 _ _ a5) (fun z => nomatch z))]
      exact e6 _ _ hr5
end
end Sea

set_option Elab.async false
set_option linter.all false
set_option maxRecDepth 100000
set_option maxHeartbeats 4000000
/-! class Curve: open_stretch, note_state -/
namespace Sea
open PySem PySem.Spec PyProof.Rows L2 LamX NdefX ClX Evl StX
/-- the function that makes a stretch -/
structure TMs (K : PySem.W.Frag) (ST fSt : Addr) (dSt : FuncData) : Prop where
  mkS : Mk K ST fSt
  fu : Fun K "__init__" "Stretch.__init__" sStI fSt dSt
theorem TMs.bi {K : PySem.W.Frag} {ST fSt : Addr} {dSt : FuncData} (T : TMs K ST fSt dSt) : Binds K dSt ["self", "begin", "end", "first"] [] := T.fu.binds (ps := ["self", "begin", "end", "first"]) fun _ _ _ _ _ _ us hl => match us, hl with | [_, _, _, _], _ => rfl
theorem ev_neg1 {σ : L2.St} {H : Hp} : Ev (tUn (rU fun i => .int (-i)) (tC (.int 1))) σ H (.int (-1)) := fun H1 e Q q => ⟨1, rfl, q H1 (Ex.refl _)⟩
theorem recs_last {g : Par} {R : Nat} (h : Reach g R) (k : Nat) : atI ((recs g R k).map V.int) (-1) = some (.int (cst g R k)) := by
  rw [atI_map]
  unfold cst
  rw [show (-1 : Int) = -((1 : Nat) : Int) from rfl, recs_back h.r1 k 1 (Nat.le_refl 1) h.r1]
  rfl
/-- a curve that is made, and nothing else -/
structure Cvi (K : PySem.W.Frag) (CV CC : Addr) (g : Par) (R : Nat) (H0 H : Hp) (cv dx p tv cu pp sts rec sn : Addr) : Prop where
  same : Same H0 H
  ncv : H0 cv = none
  nss : H0 sts = none
  icv : H cv = some (.ins CC dx (cvF p tv R cu sts rec sn))
  icu : H cu = some (.lst [.ref pp])
  ipp : H pp = some (.tup [.int 0, .non])
  ists : H sts = some (.lst [])
  irec : H rec = some (.lst ((recs g R 0).map V.int))
  tvl : ∃ dv ov, Tv K CV H0 tv g.ln dv ov g.ds []
  pas : ∃ ws, SqT K H0 p ws ∧ PsV K H0 ws g.L
  few : g.L.length ≤ 1000
  rc : Reach g R
theorem Cvi.s {K : PySem.W.Frag} {CV CC : Addr} {g : Par} {R : Nat} {H0 H H' : Hp} {cv dx p tv cu pp sts rec sn : Addr} (c : Cvi K CV CC g R H0 H cv dx p tv cu pp sts rec sn) (e : Same H H') : Cvi K CV CC g R H0 H' cv dx p tv cu pp sts rec sn :=
  ⟨c.same.trans e, c.ncv, c.nss, e _ _ c.icv, e _ _ c.icu, e _ _ c.ipp, e _ _ c.ists, e _ _ c.irec, c.tvl, c.pas, c.few, c.rc⟩
theorem Cvb.s {K : PySem.W.Frag} {CV CC ST : Addr} {g : Par} {R : Nat} {H0 H H' : Hp} {a : CvA} {rec : Addr} (c : Cvb K CV CC ST g R H0 H a rec) (e : Same H H') : Cvb K CV CC ST g R H0 H' a rec :=
  ⟨c.same.trans e, c.ncv, c.nst, c.ntl, c.nsn, e _ _ c.icv, e _ _ c.icu, e _ _ c.ipp, e _ _ c.ists, c.tvl, c.pas, c.few, c.rc⟩
theorem Cvr.s {K : PySem.W.Frag} {CV CC ST : Addr} {g : Par} {R : Nat} {H0 H H' : Hp} {k n : Nat} {a : CvA} {rec : Addr} (c : Cvr K CV CC ST g R H0 k n H a rec) (e : Same H H') : Cvr K CV CC ST g R H0 k n H' a rec :=
  ⟨c.b.s e, e _ _ c.irec, e _ _ c.ist, e _ _ c.itl, e _ _ c.isn, c.nrt⟩
theorem Cvd.s {K : PySem.W.Frag} {CV CC ST : Addr} {g : Par} {R : Nat} {H0 H H' : Hp} {d j : Nat} {a : CvA} {rec : Addr} (c : Cvd K CV CC ST g R H0 d j H a rec) (e : Same H H') : Cvd K CV CC ST g R H0 d j H' a rec :=
  ⟨c.b.s e, c.rep, c.big, e _ _ c.ist, e _ _ c.itl⟩
/-- something new is written, or what H0 does not know -/
theorem same_put {H0 H : Hp} {x : Addr} {o : HO} (s : Same H0 H) (n : H0 x = none) : Same H0 (upd H x o) := fun b u e => by
  rw [upd_ne (ne_of_none e n)]
  exact s b u e
section
variable {P : Program} {w : World} {K : PySem.W.Frag} {mg : Str → Option Value} {base : Heap} {CV CC ST fSt : Addr} {dSt : FuncData}
def spOpn (K : PySem.W.Frag) (CV CC ST : Addr) : Sp := fun vs H Q _ => ∃ (cv dx p tv cu pp sts rec sn : Addr) (g : Par) (R : Nat) (H0 : Hp), vs = [.ref cv] ∧ Cvi K CV CC g R H0 H cv dx p tv cu pp sts rec sn ∧
  ∀ (a : CvA) H', a.cv = cv → a.tv = tv ∧ a.p = p → Cvr K CV CC ST g R H0 0 0 H' a rec → Q .non H'
theorem ok_opn {f : Addr} {fd : FuncData} {k : Nat} (F : Fun K "open_stretch" "Curve.open_stretch" sOpn f fd) (T : TCv K mg CC) (TS : TSt K mg ST) (M : TMs K ST fSt dSt) : FnOk P w K mg base CX0 (k + 3) f fd ["self"] (spOpn K CV CC ST) := by
  refine F.ok scOpn (fun vs H Q E h => ?_) (fun cdv A outer s H vs Q E hr h => ?_)
  · obtain ⟨cv, dx, p, tv, cu, pp, sts, rec, sn, g, R, H0, rfl, _⟩ := h
    rfl
  · obtain ⟨cv, dx, p, tv, cu, pp, sts, rec, sn, g, R, H0, rfl, c, q⟩ := h
    have h2 := hr.mono (show 2 ≤ k + 2 by omega)
    refine ⟨_, pss_cut (ps_asg (pe_ixl (pe_fld (pv 0) rfl) (pe_callB call_len_seq (by rfl) T.mN PySem.boot_len (pa_cons (pe_fld (pv 0) rfl) pa_nil))) (pg_tup rfl (pgs_cons (pg_name (i := 1) scOpn.nd rfl (.inl rfl)) (pgs_cons (pg_name (i := 2) scOpn.nd rfl (.inl rfl)) pgs_nil))))
      (pss_cut (ps_expr (pe_bm PySem.F.plainAttrs_list PySem.F.slot_list_append PySem.F.type_list_append mt_append (pe_fld (pv 0) rfl) (pa_cons (pe_make (E := E0) M.mkS (ok_stI (k := 0) M.fu TS) h2 (by rfl) TS.gS M.bi .nil pass0 (pa_cons (pv 1) (pa_cons (pv 2) (pa_cons (pe_ixl (pe_fld (pv 0) rfl) (pe_un un_neg pe_int)) pa_nil)))) pa_nil)))
      (pss_one (ps_fld (pv 0) pe_dnewT rfl))), ?_⟩
    refine ⟨fun σ H' => σ = [some (.ref cv), some (.int 0), some .non] ∧ Cvi K CV CC g R H0 H' cv dx p tv cu pp sts rec sn, ?_, ?_⟩
    · exact ⟨.ref cv, rfl, cv, CC, dx, _, _, rfl, c.icv, T.cl, T.nC, rfl, .ref cv, rfl, cv, CC, dx, _, _, rfl, c.icv, T.cl, T.nS, rfl, sts, [], rfl, .inl (.inl (.inl c.ists)), cu, _, 0, .ref pp, rfl, rfl, .inl (.inl c.icu), rfl, pp, _, rfl, .of c.ipp, rfl, _, _, rfl, _, _, rfl, rfl, rfl, c⟩
    rintro σ H1 ⟨rfl, c1⟩
    refine ⟨fun σ H' => σ = [some (.ref cv), some (.int 0), some .non] ∧ ∃ st dxs tl, Same H0 H' ∧ H0 st = none ∧ H0 tl = none ∧ H' cv = some (.ins CC dx (cvF p tv R cu sts rec sn)) ∧ H' cu = some (.lst [.ref pp]) ∧ H' pp = some (.tup [.int 0, .non]) ∧ H' sts = some (.lst [.ref st]) ∧ H' rec = some (.lst ((recs g R 0).map V.int)) ∧ H' st = some (.ins ST dxs (stF tl 0 0 0)) ∧ H' tl = some (.lst [.int 0]) ∧ rec ≠ tl, ?_, ?_⟩
    · refine ⟨.ref cv, rfl, cv, CC, dx, _, _, rfl, c1.icv, T.cl, T.nS, rfl, .inl ⟨rfl, [], .of c1.ists⟩, _, rfl, _, rfl, .ref cv, rfl, cv, CC, dx, _, _, rfl, c1.icv, T.cl, T.nE, rfl, 1, rfl, rec, _, -1, .int (cst g R 0), rfl, rfl, .inl (.inl c1.irec), recs_last c1.rc 0, fun x dxs nx ndx nd => ?_⟩
      rw [cst_0 c1.rc.r1]
      refine ⟨x, dxs, 0, rfl, upd_same, fun tl H2 ntl keep htl hst => ⟨rfl, ?_⟩⟩
      have old : Same H1 H2 := fun b o e => keep b o (by rw [upd_ne (ne_of_none e nx), upd_ne (ne_of_none e ndx)]; exact e) (ne_of_none e nx)
      have n1 : H1 tl = none := by
        cases e : H1 tl with
        | none => rfl
        | some o => rw [upd_ne (ne_of_none e nx), upd_ne (ne_of_none e ndx), e] at ntl; cases ntl
      have s02 := c1.same.trans old
      refine ⟨sts, [], .ref x, rfl, rfl, old _ _ c1.ists, by decide, rfl, x, dxs, tl, same_put s02 c1.nss, fresh_back c1.same nx, fresh_back c1.same n1, ?_, ?_, ?_, ?_, ?_, ?_, ?_, fun z => ?_⟩
      · rw [upd_ne (ne_of c1.icv c1.ists (fun z => nomatch z))]
        exact old _ _ c1.icv
      · rw [upd_ne (ne_of c1.icu c1.ists (fun z => nomatch z))]
        exact old _ _ c1.icu
      · rw [upd_ne (ne_of c1.ipp c1.ists (fun z => nomatch z))]
        exact old _ _ c1.ipp
      · exact upd_same
      · rw [upd_ne (ne_of c1.irec c1.ists (fun z => by
          have := recs_len (g := g) c1.rc.r1 0
          have r1 := c1.rc.r1
          injection z with z
          have z := congrArg List.length z
          rw [List.length_map, this] at z
          have z : R = 0 := z
          omega))]
        exact old _ _ c1.irec
      · rw [upd_ne (ne_of hst (old _ _ c1.ists) (fun z => nomatch z))]
        exact hst
      · rw [upd_ne (ne_of htl (old _ _ c1.ists) (fun z => nomatch z))]
        exact htl
      · rw [← z, c1.irec] at n1
        cases n1
    rintro σ H2 ⟨rfl, st, dxs, tl, s2, n2, n3, hcv, hcu, hpp, hss, hre, hst, htl, nrt⟩
    -- no keys as yet
    intro sn2 nsn
    have e3 : Same H2 (upd H2 sn2 (.dT [])) := same_new nsn
    have ncc : ∀ {x : Addr} {o : HO}, H2 x = some o → o ≠ .ins CC dx (cvF p tv R cu sts rec sn) → (upd (upd H2 sn2 (.dT [])) cv (.ins CC dx (cvF p tv R cu sts rec sn2))) x = some o := fun {x o} e n => by
      rw [upd_ne (ne_of e hcv n)]
      exact e3 _ _ e
    refine ⟨.ref cv, rfl, cv, CC, dx, _, rfl, e3 _ _ hcv, T.cl, T.nN, show 7 < 1000 by decide, ?_⟩
    refine q ⟨cv, dx, p, tv, cu, pp, sts, st, dxs, tl, sn2⟩ _ rfl ⟨rfl, rfl⟩ ⟨⟨same_put (s2.trans e3) c.ncv, c.ncv, n2, n3, fresh_back s2 nsn, upd_same, ncc hcu (fun z => nomatch z), ncc hpp (fun z => nomatch z), ncc hss (fun z => nomatch z), c.tvl, c.pas, c.few, c.rc⟩, ncc hre (fun z => nomatch z), ncc hst (fun z => by injection z with _ _ z; have z := congrArg List.length z; cases z), ncc ?_ (fun z => nomatch z), ?_, nrt⟩
    · rw [htl, ← cst_0 (g := g) c.rc.r1]
      rfl
    · rw [upd_ne (fun z => by
        have z : sn2 = cv := z
        rw [z, hcv] at nsn
        cases nsn), upd_same]
      rfl
end
end Sea

set_option Elab.async false
set_option linter.all false
set_option maxRecDepth 100000
set_option maxHeartbeats 4000000
/-! class Curve: note_state -/
namespace Sea
open PySem PySem.Spec PyProof.Rows L2 LamX NdefX ClX Evl StX
abbrev NNo : List Str := ["self", "stretch", "place", "last", "state", "value"]
theorem scNot : FnScope NNo ["self", "stretch"] (defScope sNot) := ⟨rfl, rfl, rfl, by decide +kernel, rfl, by decide +kernel, by decide +kernel⟩
/-- a comprehension over a list of numbers, all of them -/
theorem el_mapI {K : PySem.W.Frag} {σ : L2.St} {H : Hp} {tl te : TE} {j : Nat} {vs : List Nat} {p : Addr} {ns : List Int} (φ : Int → V) (h : Ev tl σ H (.ref p)) (hx : H p = some (.lst (ns.map V.int))) (few : ns.length ≤ 40000)
    (hw : ∀ x, wipe ((wipe σ vs).set j (some x)) vs = wipe σ vs) (he : ∀ (z : Int) H1, Ex H H1 → Ev te ((wipe σ vs).set j (some (.int z))) H1 (φ z)) : EvL (tLc (iList K tl) (gName j) tYes te vs) σ H (ns.map φ) := fun H0 e Q q => h H0 e _ fun H1 e1 => by
  refine ⟨p, rfl, ⟨ns.map V.int, .inl (.inl (e1 _ _ (e _ _ hx)))⟩, fun D nD => ?_⟩
  refine lc_list (K := K) (xs := ns.map V.int) (fun n H' => Ex H1 H' ∧ H' D = some (.lst ((ns.take n).map φ))) ⟨Ex.new nD, upd_same⟩ (fun n H' _ z => .inl (.inl (z.1 _ _ (e1 _ _ (e _ _ hx))))) (fun n x H2 hn z => ?_) fun H2 z => ?_
  · rw [List.getElem?_map] at hn
    obtain ⟨y, hy, rfl⟩ := Option.map_eq_some_iff.mp hn
    have lt := (List.getElem?_eq_some_iff.mp hy).1
    refine ⟨hw _, t_yes (Eq.mpr (if_pos rfl) ?_)⟩
    refine he y H2 ((e.trans e1).trans z.1) H2 (Ex.refl _) _ fun H3 e3 => ⟨_, e3 _ _ z.2, sz_lt (by rw [List.length_map, List.length_take]; omega), Ex.mut (z.1.trans e3) nD, ?_⟩
    rw [upd_same, take_snoc hy, List.map_append]
    rfl
  · have e2 := z.2
    rw [List.length_map, List.take_length] at e2
    exact q D H2 (fresh_back e1 nD) (e1.trans z.1) e2
section
variable {g : Par} {R : Nat}
theorem stK_inj {i k : Nat} (h : stK g R i = stK g R k) : stC g R i = stC g R k := by
  unfold stK at h
  have inj : ∀ (a b : List Int), a.map (Sum.inl : Int → Key) = b.map Sum.inl → a = b := fun a => by
    induction a with
    | nil => intro b h; cases b with
      | nil => rfl
      | cons => cases h
    | cons x r ih => intro b h; cases b with
      | nil => cases h
      | cons y s =>
        injection h with h1 h2
        injection h1 with h1
        rw [h1, ih s h2]
  exact inj _ _ h
theorem stK_kV (k : Nat) : (stK g R k).map kV = (stC g R k).map V.int := by
  unfold stK
  rw [List.map_map]
  rfl
theorem kv_some {n k : Nat} {v : V} (h : valV (kvC g R n) (stK g R k) = some v) : ∃ j, j < n ∧ (j : Int).fmod g.ln = 0 ∧ stC g R j = stC g R k ∧ v = .int (j : Int) := by
  unfold valV at h
  obtain ⟨p, hp, rfl⟩ := Option.map_eq_some_iff.mp h
  have e0 : decide (p.1 = stK g R k) = true := List.find?_some (p := fun kv : List Key × V => decide (kv.1 = stK g R k)) hp
  have e1 := of_decide_eq_true e0
  obtain ⟨j, hj, rfl⟩ := List.mem_map.mp (List.mem_of_find?_eq_some hp)
  obtain ⟨h1, h2⟩ := List.mem_filter.mp hj
  exact ⟨j, List.mem_range.mp h1, of_decide_eq_true h2, stK_inj e1, rfl⟩
theorem kv_none {n k : Nat} (h : valV (kvC g R n) (stK g R k) = none) : ∀ j, j < n → (j : Int).fmod g.ln = 0 → stC g R j ≠ stC g R k := fun j hj hm e => by
  unfold valV at h
  rw [Option.map_eq_none_iff, List.find?_eq_none] at h
  refine h (stK g R j, V.int (j : Int)) (List.mem_map.mpr ⟨j, List.mem_filter.mpr ⟨List.mem_range.mpr hj, decide_eq_true hm⟩, rfl⟩) (decide_eq_true ?_)
  show stK g R j = stK g R k
  unfold stK
  rw [e]
theorem kvC_not {k : Nat} (h : (k : Int).fmod g.ln ≠ 0) : kvC g R (k + 1) = kvC g R k := by
  unfold kvC
  rw [List.range_succ, List.filter_append, List.filter_cons_of_neg (p := fun k : Nat => decide ((k : Int).fmod g.ln = 0)) (by rw [decide_eq_false h]; decide), List.filter_nil, List.append_nil]
theorem kvC_yes {k : Nat} (h : (k : Int).fmod g.ln = 0) : kvC g R (k + 1) = kvC g R k ++ [(stK g R k, V.int (k : Int))] := by
  unfold kvC
  rw [List.range_succ, List.filter_append, List.map_append, List.filter_cons_of_pos (p := fun k : Nat => decide ((k : Int).fmod g.ln = 0)) (by exact decide_eq_true h)]
  rfl
theorem kvC_len (n : Nat) : (kvC g R n).length ≤ n := by
  unfold kvC
  rw [List.length_map]
  have := List.length_filter_le (fun k => decide (((k : Nat) : Int).fmod g.ln = 0)) (List.range n)
  rw [List.length_range] at this
  exact this
theorem FreshC.not {k : Nat} (f : FreshC g R k) (h : (k : Int).fmod g.ln ≠ 0) : FreshC g R (k + 1) := fun i j hi hj h1 h2 => by
  by_cases e : j = k
  · rw [e] at h2
    exact absurd h2 h
  · exact f i j hi (by omega) h1 h2
theorem FreshC.yes {k : Nat} (f : FreshC g R k) (h : ∀ j, j < k → (j : Int).fmod g.ln = 0 → stC g R j ≠ stC g R k) : FreshC g R (k + 1) := fun i j hi hj h1 h2 => by
  by_cases e : j = k
  · rw [e] at hi ⊢
    exact h i hi h1
  · exact f i j hi (by omega) h1 h2
end
theorem ins_ne {C dx D dy : Addr} {fs gs : List (Str × V)} (n : fs.length ≠ gs.length) : HO.ins C dx fs ≠ .ins D dy gs := fun z => by
  injection z with _ _ z
  exact n (congrArg List.length z)
section
variable {K : PySem.W.Frag} {CV CC ST : Addr} {g : Par} {R : Nat} {H0 H : Hp} {a : CvA} {rec : Addr} {o : HO}
theorem Cvb.putSt (c : Cvb K CV CC ST g R H0 H a rec) {C dxs : Addr} {fs : List (Str × V)} (e : H a.st = some (.ins C dxs fs)) (l : fs.length = 6) : Cvb K CV CC ST g R H0 (upd H a.st o) a rec := by
  have n : ∀ {x : Addr} {u : HO}, H x = some u → u ≠ .ins C dxs fs → (upd H a.st o) x = some u := fun {x u} h ne => by
    rw [upd_ne (ne_of h e ne)]
    exact h
  exact ⟨same_put c.same c.nst, c.ncv, c.nst, c.ntl, c.nsn, n c.icv (ins_ne (by rw [l]; exact show (7 : Nat) ≠ 6 by decide)), n c.icu (fun z => nomatch z), n c.ipp (fun z => nomatch z), n c.ists (fun z => nomatch z), c.tvl, c.pas, c.few, c.rc⟩
theorem Cvb.putSn (c : Cvb K CV CC ST g R H0 H a rec) {kvs : List (List Key × V)} (e : H a.sn = some (.dT kvs)) : Cvb K CV CC ST g R H0 (upd H a.sn o) a rec := by
  have n : ∀ {x : Addr} {u : HO}, H x = some u → u ≠ .dT kvs → (upd H a.sn o) x = some u := fun {x u} h ne => by
    rw [upd_ne (ne_of h e ne)]
    exact h
  exact ⟨same_put c.same c.nsn, c.ncv, c.nst, c.ntl, c.nsn, n c.icv (fun z => nomatch z), n c.icu (fun z => nomatch z), n c.ipp (fun z => nomatch z), n c.ists (fun z => nomatch z), c.tvl, c.pas, c.few, c.rc⟩
end
section
variable {P : Program} {w : World} {K : PySem.W.Frag} {mg : Str → Option Value} {base : Heap} {CV CC ST fVN fRl pRl fRd pRd fEx pEx : Addr} {dVN dRl dRd dEx : FuncData}
def spNot (K : PySem.W.Frag) (CV CC ST : Addr) : Sp := fun vs H Q _ => ∃ (a : CvA) (rec : Addr) (g : Par) (R k : Nat) (H0 : Hp), vs = [.ref a.cv, .ref a.st] ∧ Cvr K CV CC ST g R H0 k k H a rec ∧ FreshC g R k ∧ (∀ d, FreshC g R d → d ≤ 10000000) ∧
  (∀ H', Cvr K CV CC ST g R H0 k (k + 1) H' a rec → FreshC g R (k + 1) → Q .non H') ∧ ∀ j H', Cvd K CV CC ST g R H0 k j H' a rec → Q .non H'
theorem ok_not {f : Addr} {fd : FuncData} {k : Nat} (F : Fun K "note_state" "Curve.note_state" sNot f fd) (T : TCv K mg CC) (TS : TSt K mg ST) (TV : TTv K mg CV fVN dVN) (RR : TPr K CV fRl pRl fRd pRd fEx pEx dRl dRd dEx) : FnOk P w K mg base CX0 (k + 3) f fd ["self", "stretch"] (spNot K CV CC ST) := by
  refine F.ok scNot (fun vs H Q E h => ?_) (fun cdv A outer s H vs Q E hr h => ?_)
  · obtain ⟨a, rec, g, R, k, H0, rfl, _⟩ := h
    rfl
  · obtain ⟨a, rec, g, R, k, H0, rfl, c, fr, few, q1, q2⟩ := h
    have h2 := hr.mono (show 2 ≤ _ + 2 by omega)
    have hu1 : (A.deeper (envOfC "Curve.note_state" (defScope sNot) s.heap.objs.size f cdv)).units + 1 < cLine := Nat.lt_of_le_of_lt (Nat.add_le_add_left (by decide : 1 ≤ 64) _) hr.units
    refine ⟨_, pss_cons (ps_set (i := 2) scNot.nd rfl (.inl rfl) (pe_op op_sub (pe_callB call_len_seq (by rfl) T.mN PySem.boot_len (pa_cons (pe_fld (pv 1) rfl) pa_nil)) pe_int))
      (pss_one (ps_if (pt_cmpR op_eq (pe_op op_modN (pe_callTy call_int1 (by rfl) T.mI (by rfl) (pa_cons (pv 2) pa_nil)) (pe_rl RR TV h2 (pe_fld (pv 0) rfl))) pe_int (nomark _))
        (pss_cons (ps_set (i := 3) scNot.nd rfl (.inr rfl) (pe_ixl (pe_fld (pv 0) rfl) (pe_un un_neg pe_int)))
        (pss_cut (ps_set (i := 4) scNot.nd rfl (.inl rfl) (pe_callTy call_tuple_of (by rfl) T.mT (by rfl) (pa_cons (pe_lc (own := [("value", 5)]) (g := gName 5) (by rfl) scNot.nd (pi_list (pe_fld (pv 0) rfl)) (blkOk_by (own := [("value", 5)]) (N := NNo) (sc := defScope sNot) (by decide +kernel)) (fun _ _ _ _ _ => pg_name (i := 5) scNot.nd rfl (Or.inl rfl)) (fun _ _ _ _ _ => pts_nil) (fun _ _ _ _ _ => pe_op op_sub (pv 3) (pv 5))) pa_nil)))
        (pss_cut (ps_if (pt_cmp (pc_din hu1 (pv 4) (pe_fld (pv 0) rfl)))
          (pss_cons (ps_fld (pv 1) (pe_dget hu1 (pe_fld (pv 0) rfl) (pv 4) (fun _ _ => rfl)) rfl)
          (pss_cons (ps_fld (pv 1) (pe_op op_sub (pv 2) (pe_fld (pv 1) rfl)) rfl)
          (pss_one (ps_fld (pv 1) (pe_op op_sub (pv 3) (pe_ixl (pe_fld (pv 1) rfl) (pe_fld (pv 1) rfl))) rfl)))) pss_nil)
        (pss_one (ps_asg (pv 2) (pg_sub (pe_fld (pv 0) rfl) (pv 4) (set_dict hu1))))))) pss_nil)), ?_⟩
    have lt : ∀ {n : Nat}, n ≤ 1000 → n ≤ sizeLine := fun h => Nat.le_of_lt (small1000 h)
    have few1 := few k fr
    obtain ⟨dv, ov, ht0⟩ := c.b.tvl
    have rc := c.b.rc
    have l1 := rc.l1
    refine q_asg (v := .int (k : Int)) (ev_is (ev_op (ev_len (fld_ev (σ := [some (.ref a.cv), some (.ref a.st), none, none, none, none]) (i := 1) TS.cl TS.nT rfl c.ist rfl) (sq_of c.itl)) ev_c (rv_I0 (g := fun i j => .int (i - j)) (i := ((ctots g R k).length : Int)) (j := 1))) (by rw [ctots_len]; congr 1; omega)) fun H1 e1 => ?_
    have c1 := c.s e1
    have eM : Ev (tOp (rI (fun _ j => j ≠ 0) fun i j => .int (i.fmod j)) (tInt (tVar 2)) (tProp CV (getSp CV "size") [] E0 (tFld K (tVar 0) "days_of_travel"))) [some (.ref a.cv), some (.ref a.st), some (.int (k : Int)), none, none, none] H1 (.int ((k : Int).fmod g.ln)) := ev_op (ev_int1 (ev_var rfl)) (fun H2 e2 Q2 q2 => by
      have ht2 := ht0.same (c1.b.same.trans e2)
      obtain ⟨⟨dxt, hti⟩, _⟩ := id ht2
      exact ⟨_, rfl, a.cv, CC, a.dx, _, _, rfl, e2 _ _ c1.b.icv, T.cl, T.nT, rfl, a.tv, dxt, _, rfl, hti, a.tv, dxt, _, _, rfl, hti, tvF_size .., q2 H2 (Ex.refl _)⟩) (rv_I (C := fun _ j => j ≠ 0) (g := fun i j => .int (i.fmod j)) (i := (k : Int)) (j := g.ln) (by omega))
    refine s_when (b := decide (V.int ((k : Int).fmod g.ln) = V.int 0)) (et_test (ev_op eM ev_c (rv_eq rfl))) (fun hb H2 e2 => ?_) (fun hb H2 e2 => ?_)
    rotate_left
    · have hm : (k : Int).fmod g.ln ≠ 0 := fun z => by
        rw [z] at hb
        exact absurd hb (by decide)
      have c2 := c1.s e2
      exact q1 H2 ⟨c2.b, c2.irec, c2.ist, c2.itl, by rw [kvC_not hm]; exact c2.isn, c2.nrt⟩ (fr.not hm)
    have hm : (k : Int).fmod g.ln = 0 := by
      have := of_decide_eq_true hb
      injection this
    have c2 := c1.s e2
    refine q_asg (v := .int (cst g R k)) (ev_op (fld_ev T.cl T.nE rfl c2.b.icv rfl) ev_neg1 (rv_ixL (.inl (.inl c2.irec)) (recs_last rc k))) fun H3 e3 => ?_
    have c3 := c2.s e3
    -- the key
    refine ⟨fun σ H' => ∃ st : Addr, σ = [some (.ref a.cv), some (.ref a.st), some (.int (k : Int)), some (.int (cst g R k)), some (.ref st), none] ∧ Cvr K CV CC ST g R H0 k k H' a rec ∧ H' st = some (.tup ((stK g R k).map kV)), ?_, ?_⟩
    · have r2 := rc.r2
      have eL : EvL (tLc (iList K (tFld K (tVar 0) "recent")) (gName 5) tYes (tOp (rI0 fun i j => .int (i - j)) (tVar 3) (tVar 5)) [5]) [some (.ref a.cv), some (.ref a.st), some (.int (k : Int)), some (.int (cst g R k)), none, none] H3 ((recs g R k).map fun z => V.int (cst g R k - z)) := el_mapI (K := K) (j := 5) (vs := [5]) (fun z => .int (cst g R k - z)) (fld_ev T.cl T.nE rfl c3.b.icv rfl) c3.irec (by rw [recs_len rc.r1]; omega) (fun _ => rfl) (fun z H4 e4 => ev_op (ev_var rfl) (ev_var rfl) rv_I0)
      unfold tAsg tCB tCons tNil
      refine eL H3 (Ex.refl _) _ fun l H4 nl e4 hl => ⟨l, _, rfl, .inl ⟨.of hl, fun st nst => ?_⟩⟩
      refine ⟨st, rfl, (c3.s e4).s (same_new nst), ?_⟩
      rw [upd_same, stK_kV]
      unfold stC
      rw [List.map_map]
      rfl
    clear eM c1 c2 c3
    rintro σ H4 ⟨st, rfl, c4, hst⟩
    have few2 := few1
    -- noted before?
    refine ⟨fun σ H' => σ = [some (.ref a.cv), some (.ref a.st), some (.int (k : Int)), some (.int (cst g R k)), some (.ref st), none] ∧ H' st = some (.tup ((stK g R k).map kV)) ∧ H' a.sn = some (.dT (kvC g R k)) ∧ H' a.cv = some (.ins CC a.dx (cvF a.p a.tv R a.cu a.sts rec a.sn)) ∧ ((Cvr K CV CC ST g R H0 k k H' a rec ∧ FreshC g R (k + 1) ∧ valV (kvC g R k) (stK g R k) = none) ∨ ∃ j, Cvd K CV CC ST g R H0 k j H' a rec), ?_, ?_⟩
    · refine ⟨_, rfl, _, rfl, a.cv, CC, a.dx, _, _, rfl, c4.b.icv, T.cl, T.nN, rfl, a.sn, _, rfl, .t c4.isn hst, _, rfl, ?_⟩
      cases hv : valV (kvC g R k) (stK g R k) with
      | none => exact ⟨rfl, hst, c4.isn, c4.b.icv, .inl ⟨c4, fr.yes (kv_none hv), rfl⟩⟩
      | some v =>
        obtain ⟨j, hj, hjm, hjs, rfl⟩ := kv_some hv
        have dg := DGet.t (k := stK g R k) c4.isn hst
        rw [hv] at dg
        have n1 : ∀ {x : Addr} {o : HO}, H4 x = some o → (∀ tl s d gn, o ≠ .ins ST a.dxs (stF tl s d gn)) → x ≠ a.st := fun {x o} e n => ne_of e c4.ist (n _ _ _ _)
        refine ⟨_, rfl, a.cv, CC, a.dx, _, _, rfl, c4.b.icv, T.cl, T.nN, rfl, _, rfl, a.sn, .int (j : Int), rfl, dg, _, rfl, a.st, ST, a.dxs, _, rfl, c4.ist, TS.cl, TS.nS, show 6 < 1000 by decide, ?_⟩
        have b5 : Cvb K CV CC ST g R H0 (upd H4 a.st (.ins ST a.dxs (putF "start" (.int (j : Int)) (stF a.tl 0 0 0)))) a rec := c4.b.putSt c4.ist rfl
        have ntl : a.tl ≠ a.st := n1 c4.itl fun _ _ _ _ z => nomatch z
        have nsn : a.sn ≠ a.st := n1 c4.isn fun _ _ _ _ z => nomatch z
        have nkey : st ≠ a.st := n1 hst fun _ _ _ _ z => nomatch z
        refine ⟨_, rfl, _, rfl, a.st, ST, a.dxs, _, _, rfl, upd_same, TS.cl, TS.nS, rfl, _, _, rfl, rfl, _, rfl, a.st, ST, a.dxs, _, rfl, upd_same, TS.cl, TS.nD, show 6 < 1000 by decide, ?_⟩
        have b6 := b5.putSt (o := .ins ST a.dxs (putF "days" (.int ((k : Int) - (j : Int))) (putF "start" (.int (j : Int)) (stF a.tl 0 0 0)))) (fs := putF "start" (.int (j : Int)) (stF a.tl 0 0 0)) upd_same rfl
        refine ⟨_, rfl, _, rfl, a.st, ST, a.dxs, _, _, rfl, upd_same, TS.cl, TS.nT, rfl, _, rfl, a.st, ST, a.dxs, _, _, rfl, upd_same, TS.cl, TS.nS, rfl, a.tl, _, (j : Int), _, rfl, rfl, .inl (.inl (by rw [upd_ne ntl, upd_ne ntl]; exact c4.itl)), ctots_at g R (Nat.le_of_lt hj), _, _, rfl, rfl, _, rfl, a.st, ST, a.dxs, _, rfl, upd_same, TS.cl, TS.nG, show 6 < 1000 by decide, ?_⟩
        have b7 := b6.putSt (o := .ins ST a.dxs (putF "gain" (.int (cst g R k - cst g R j)) (putF "days" (.int ((k : Int) - (j : Int))) (putF "start" (.int (j : Int)) (stF a.tl 0 0 0))))) (fs := putF "days" (.int ((k : Int) - (j : Int))) (putF "start" (.int (j : Int)) (stF a.tl 0 0 0))) upd_same rfl
        refine ⟨rfl, ?_, ?_, b7.icv, .inr ⟨j, b7, ⟨hj, hjm, hm, hjs, fr⟩, few1, upd_same, ?_⟩⟩
        · rw [upd_ne nkey, upd_ne nkey, upd_ne nkey]
          exact hst
        · rw [upd_ne nsn, upd_ne nsn, upd_ne nsn]
          exact c4.isn
        · rw [upd_ne ntl, upd_ne ntl, upd_ne ntl]
          exact c4.itl
    rintro σ H5 ⟨rfl, hst5, isn5, icv5, res⟩
    have fits : (kvC g R k).length < sizeLine := by
      have := kvC_len (g := g) (R := R) k
      rw [sizeLine_eq]
      omega
    refine ⟨_, rfl, _, rfl, a.cv, CC, a.dx, _, _, rfl, icv5, T.cl, T.nN, rfl, _, rfl, a.sn, _, rfl, DPut.t isn5 hst5 fits, ?_⟩
    rcases res with ⟨c5, fr5, nv⟩ | ⟨j, d5⟩
    · refine q1 _ ⟨c5.b.putSn c5.isn, ?_, ?_, ?_, ?_, c5.nrt⟩ fr5
      · rw [upd_ne (ne_of c5.irec c5.isn (fun z => nomatch z))]
        exact c5.irec
      · rw [upd_ne (ne_of c5.ist c5.isn (fun z => nomatch z))]
        exact c5.ist
      · rw [upd_ne (ne_of c5.itl c5.isn (fun z => nomatch z))]
        exact c5.itl
      · rw [upd_same, putK_new _ nv, kvC_yes hm]
    · refine q2 j _ ⟨d5.b.putSn isn5, d5.rep, d5.big, ?_, ?_⟩
      · rw [upd_ne (ne_of d5.ist isn5 (fun z => nomatch z))]
        exact d5.ist
      · rw [upd_ne (ne_of d5.itl isn5 (fun z => nomatch z))]
        exact d5.itl
end
end Sea

set_option Elab.async false
set_option linter.all false
set_option maxRecDepth 100000
set_option maxHeartbeats 4000000
/-! travels_on; class Curve: add_day -/
namespace Sea
open PySem PySem.Spec PyProof.Rows L2 LamX NdefX ClX Evl StX
theorem scTo : FnScope ["self", "day"] ["self", "day"] (defScope sTo) := ⟨rfl, rfl, rfl, by decide +kernel, rfl, by decide +kernel, by decide +kernel⟩
abbrev NAd : List Str := ["self", "stretch", "day", "cost", "length", "price"]
theorem scAdd : FnScope NAd ["self", "stretch"] (defScope sAdd) := ⟨rfl, rfl, rfl, by decide +kernel, rfl, by decide +kernel, by decide +kernel⟩
section
variable {K : PySem.W.Frag} {ta tb : TE} {σ : L2.St} {H : Hp}
theorem el_catN {xs zs : List V} (ha : EvL ta σ H xs) (hb : EvL tb σ H zs) (few : xs.length + zs.length ≤ 100000) : EvL (tOp rCat ta tb) σ H (xs ++ zs) := fun H1 e Q q =>
  ha H1 e _ fun l H2 _ e2 hx => hb H2 (e.trans e2) _ fun p H3 np e3 hp => ⟨l, p, xs, zs, rfl, rfl, e3 _ _ hx, hp, sz_of few, fun r nr => q r _ (fresh_back (e2.trans e3) nr) ((e2.trans e3).trans (Ex.new nr)) upd_same⟩
end
theorem cst_nxt {g : Par} {R : Nat} (h : Reach g R) (k : Nat) : cst g R (k + 1) = nxt g k (recs g R k) := by
  unfold cst
  rw [show (-1 : Int) = -((1 : Nat) : Int) from rfl, atI_back (Nat.le_refl 1) (by rw [recs_len h.r1]; exact h.r1), recs_len h.r1]
  show (((recs g R k).drop 1 ++ [nxt g k (recs g R k)])[R - 1]?).getD 0 = _
  have := recs_len (g := g) h.r1 k
  have r1 := h.r1
  rw [List.getElem?_append_right (by rw [List.length_drop, this]; exact Nat.le_refl _), List.length_drop, this, Nat.sub_self]
  rfl
section
variable {P : Program} {w : World} {K : PySem.W.Frag} {mg : Str → Option Value} {base : Heap} {CV CC ST fVN fRl pRl fRd pRd fEx pEx fNot fTo : Addr} {dVN dRl dRd dEx dNot dTo : FuncData}
def spTo (K : PySem.W.Frag) (CV : Addr) : Sp := fun vs H Q _ => ∃ (tv : Addr) (g : Par) (k : Nat) (dv ov : V), vs = [.ref tv, .int k] ∧ Tv K CV H tv g.ln dv ov g.ds [] ∧ 1 ≤ g.ln ∧ ∀ H', Same H H' → Q (.bl (goes g k)) H'
theorem ok_to {f : Addr} {fd : FuncData} {k : Nat} (F : Fun K "travels_on" "Travel.travels_on" sTo f fd) (TV : TTv K mg CV fVN dVN) (mI : mg "int" = none) : FnOk P w K mg base CX0 (k + 1) f fd ["self", "day"] (spTo K CV) := by
  refine F.ok scTo (fun vs H Q E h => ?_) (fun cdv A outer s H vs Q E hr h => ?_)
  · obtain ⟨tv, g, k, dv, ov, rfl, _⟩ := h
    rfl
  · obtain ⟨tv, g, k, dv, ov, rfl, ht, l1, q⟩ := h
    refine ⟨_, pss_one (ps_ret (pe_cmpR op_ne (pe_cmpR op_in_seq (pe_op op_modN (pe_callTy call_int1 (by rfl) mI (by rfl) (pa_cons (pv 1) pa_nil)) (pe_fld (pv 0) rfl)) (pe_fld (pv 0) rfl) (by rfl)) (pe_cmpR op_in_seq (pv 1) (pe_fld (pv 0) rfl) (by rfl)) (nomark _))), ?_⟩
    obtain ⟨⟨dx, ha⟩, ⟨pd, rfl, hd⟩, ⟨po, rfl, ho⟩⟩ := ht
    have e1 : Ev (tOp (rI (fun _ j => j ≠ 0) fun i j => .int (i.fmod j)) (tInt (tVar 1)) (tFld K (tVar 0) "size")) [some (.ref tv), some (.int (k : Int))] H (.int ((k : Int).fmod g.ln)) := ev_op (ev_int1 (ev_var rfl)) (fld_ev TV.cl TV.nS rfl ha (tvF_size ..)) (rv_I (C := fun _ j => j ≠ 0) (g := fun i j => .int (i.fmod j)) (i := (k : Int)) (j := g.ln) (by omega))
    refine s_ret (v := .bl (goes g k)) (ev_is (ev_op (ev_op e1 (fld_ev TV.cl TV.nP rfl ha (tvF_pat ..)) (rv_isT hd rfl (flat_ints _))) (ev_op (ev_var rfl) (fld_ev TV.cl TV.nO rfl ha (tvF_odd ..)) (rv_isT ho rfl (flat_ints []))) (rv_ne rfl)) ?_) fun H1 e1 => q H1 e1
    show V.bl (!decide (V.bl (goes g k) = V.bl false)) = V.bl (goes g k)
    cases goes g k <;> rfl
def spAdd (K : PySem.W.Frag) (CV CC ST : Addr) : Sp := fun vs H Q _ => ∃ (a : CvA) (rec : Addr) (g : Par) (R k : Nat) (H0 : Hp), vs = [.ref a.cv, .ref a.st] ∧ Cvr K CV CC ST g R H0 k k H a rec ∧ FreshC g R k ∧ (∀ d, FreshC g R d → d ≤ 10000000) ∧
  (∀ rec' H', Cvr K CV CC ST g R H0 (k + 1) (k + 1) H' a rec' → FreshC g R (k + 1) → Q .non H') ∧ ∀ j H', Cvd K CV CC ST g R H0 k j H' a rec → Q .non H'
structure TAd (K : PySem.W.Frag) (CV CC fNot fTo : Addr) (dNot dTo : FuncData) : Prop where
  mN : Meth K CC "note_state" fNot
  uN : Fun K "note_state" "Curve.note_state" sNot fNot dNot
  mT : Meth K CV "travels_on" fTo
  uT : Fun K "travels_on" "Travel.travels_on" sTo fTo dTo
theorem ok_add {f : Addr} {fd : FuncData} {k : Nat} (F : Fun K "add_day" "Curve.add_day" sAdd f fd) (T : TCv K mg CC) (TS : TSt K mg ST) (TV : TTv K mg CV fVN dVN) (RR : TPr K CV fRl pRl fRd pRd fEx pEx dRl dRd dEx) (M : TAd K CV CC fNot fTo dNot dTo) : FnOk P w K mg base CX0 (k + 5) f fd ["self", "stretch"] (spAdd K CV CC ST) := by
  have bN : Binds K dNot ["self", "stretch"] [] := M.uN.binds (ps := ["self", "stretch"]) fun _ _ _ _ _ _ us hl => match us, hl with | [_, _], _ => rfl
  have bT : Binds K dTo ["self", "day"] [] := M.uT.binds (ps := ["self", "day"]) fun _ _ _ _ _ _ us hl => match us, hl with | [_, _], _ => rfl
  refine F.ok scAdd (fun vs H Q E h => ?_) (fun cdv A outer s H vs Q E hr h => ?_)
  · obtain ⟨a, rec, g, R, k, H0, rfl, _⟩ := h
    rfl
  · obtain ⟨a, rec, g, R, k, H0, rfl, c, fr, few, q1, q2⟩ := h
    refine ⟨_, pss_cut (ps_expr (pe_meth (pv 0) T.cl M.mN (ok_not (k := 0) M.uN T TS TV RR) (hr.mono (by omega)) bN .nil pass0 (pa_cons (pv 1) pa_nil)))
      (pss_one (ps_if (pt_cmpR op_eq (pe_fld (pv 1) rfl) pe_int (nomark _))
        (pss_cut (ps_par (i := 2) (j := 3) rfl scAdd.nd rfl rfl (by decide) rfl rfl (pa_cons (pe_op op_sub (pe_op op_add (pe_fld (pv 1) rfl) (pe_callB call_len_seq (by rfl) T.mN PySem.boot_len (pa_cons (pe_fld (pv 1) rfl) pa_nil))) pe_int) (pa_cons (pe_ixl (pe_fld (pv 0) rfl) (pe_un un_neg pe_int)) pa_nil)) (by rfl))
        (pss_cut (ps_if (pt_val (pe_meth (pe_fld (pv 0) rfl) TV.cl M.mT (ok_to (k := 0) M.uT TV T.mI) (hr.mono (by omega)) bT .nil pass0 (pa_cons (pv 2) pa_nil)))
          (pss_one (ps_set (i := 3) scAdd.nd rfl (.inl rfl) (pe_callB (cr_min rfl) (by rfl) T.mM (by decide +kernel) (pa_cons (pe_lc (own := [("length", 4), ("price", 5)]) (g := gTup K 2 (gCons (gName 4) (gCons (gName 5) gNil))) (by rfl) scAdd.nd (pi_tup (pe_fld (pv 0) rfl)) (blkOk_by (own := [("length", 4), ("price", 5)]) (N := NAd) (sc := defScope sAdd) (by decide +kernel)) (fun _ _ _ _ _ => pg_tupK rfl rfl (pgs_cons (pg_name (i := 4) scAdd.nd rfl (Or.inl rfl)) (pgs_cons (pg_name (i := 5) scAdd.nd rfl (Or.inl rfl)) pgs_nil))) (fun _ _ _ _ _ => pts_nil)
            (fun _ _ _ _ _ => pe_op op_add (pe_ixlK K rfl (pe_fldK K rfl (pv 0) rfl) (pe_op op_sub pe_int (pv 4))) (pv 5))) pa_nil)))) pss_nil)
        (pss_cut (ps_fld (pv 0) (pe_op op_cat (pe_slice sl_list (pe_fld (pv 0) rfl) (po_some pe_int) po_none) (pe_lst (pa_cons (pv 3) pa_nil))) rfl)
        (pss_one (ps_expr (pe_bm PySem.F.plainAttrs_list PySem.F.slot_list_append PySem.F.type_list_append mt_append (pe_fld (pv 1) rfl) (pa_cons (pv 3) pa_nil))))))) pss_nil)), ?_⟩
    have lt : ∀ {n : Nat}, n ≤ 1000 → n ≤ sizeLine := fun h => Nat.le_of_lt (small1000 h)
    have rc := c.b.rc
    have l1 := rc.l1
    have few1 := few k fr
    refine ⟨fun σ H' => σ = [some (.ref a.cv), some (.ref a.st), none, none, none, none] ∧ ((Cvr K CV CC ST g R H0 k (k + 1) H' a rec ∧ FreshC g R (k + 1)) ∨ ∃ j, Cvd K CV CC ST g R H0 k j H' a rec), ?_, ?_⟩
    · exact ⟨_, rfl, a.cv, a.dx, _, rfl, c.b.icv, rfl, _, rfl, a, rec, g, R, k, H0, rfl, c, fr, few, fun H1 c1 f1 => ⟨rfl, .inl ⟨c1, f1⟩⟩, fun j H1 d1 => ⟨rfl, .inr ⟨j, d1⟩⟩⟩
    rintro σ H1 ⟨rfl, res⟩
    rcases res with ⟨c1, fr1⟩ | ⟨j, d1⟩
    rotate_left
    · have lt1 := d1.rep.lt
      exact s_when (b := decide (V.int ((k : Int) - (j : Int)) = V.int 0)) (et_test (ev_op (fld_ev (σ := [some (.ref a.cv), some (.ref a.st), none, none, none, none]) (i := 1) TS.cl TS.nD rfl d1.ist rfl) ev_c (rv_eq rfl))) (fun hb => by
        have := of_decide_eq_true hb
        injection this
        omega) (fun _ H2 e2 => q2 j H2 (d1.s e2))
    refine s_when (b := decide (V.int 0 = V.int 0)) (et_test (ev_op (fld_ev (σ := [some (.ref a.cv), some (.ref a.st), none, none, none, none]) (i := 1) TS.cl TS.nD rfl c1.ist rfl) ev_c (rv_eq rfl))) (fun _ H2 e2 => ?_) (fun hb => absurd hb (by decide))
    have c2 := c1.s e2
    -- the day, the cost so far
    obtain ⟨dv, ov, ht0⟩ := c2.b.tvl
    obtain ⟨ws, hp0, hps0⟩ := c2.b.pas
    refine ⟨fun σ H' => σ = [some (.ref a.cv), some (.ref a.st), some (.int (k : Int)), some (.int (cst g R k)), none, none] ∧ Cvr K CV CC ST g R H0 k (k + 1) H' a rec, ?_, ?_⟩
    · refine ⟨_, rfl, a.st, ST, a.dxs, _, _, rfl, c2.ist, TS.cl, TS.nB, rfl, _, rfl, a.st, ST, a.dxs, _, _, rfl, c2.ist, TS.cl, TS.nT, rfl, a.tl, _, rfl, .inl (.inl (.inl c2.itl)), _, _, rfl, rfl, _, _, rfl, rfl, _, rfl, a.cv, CC, a.dx, _, _, rfl, c2.b.icv, T.cl, T.nE, rfl, 1, rfl, rec, _, -1, _, rfl, rfl, .inl (.inl c2.irec), recs_last rc k, _, _, rfl, ?_, c2⟩
      have hd : (k : Int) = (0 : Int) + ((ctots g R k).length : Int) - 1 := by
        rw [ctots_len]
        omega
      rw [hd]
      rfl
    clear c2 c1
    rintro σ H2 ⟨rfl, c2⟩
    refine ⟨fun σ H' => σ = [some (.ref a.cv), some (.ref a.st), some (.int (k : Int)), some (.int (cst g R (k + 1))), none, none] ∧ Cvr K CV CC ST g R H0 k (k + 1) H' a rec, ?_, ?_⟩
    · have ht2 := ht0.same c2.b.same
      obtain ⟨⟨dxt, hti⟩, _⟩ := id ht2
      refine ⟨_, rfl, a.cv, CC, a.dx, _, _, rfl, c2.b.icv, T.cl, T.nT, rfl, a.tv, dxt, _, rfl, hti, rfl, _, rfl, a.tv, g, k, dv, ov, rfl, ht2, l1, fun H3 s3 => ⟨_, rfl, ?_⟩⟩
      have c3 := c2.s s3
      by_cases hg : goes g k = true
      · refine Eq.mpr (if_pos hg) ?_
        have eL : EvL (tLc (iTup K (tFld K (tVar 0) "offers")) (gTup K 2 (gCons (gName 4) (gCons (gName 5) gNil))) tYes (tOp (rI0 fun i j => .int (i + j)) (tOp (rIxL K) (tFld K (tVar 0) "recent") (tOp (rI0 fun i j => .int (i - j)) (tC (.int 0)) (tVar 4))) (tVar 5)) [4, 5]) [some (.ref a.cv), some (.ref a.st), some (.int (k : Int)), some (.int (cst g R k)), none, none] H3 (g.L.map fun z => V.int ((atI (recs g R k) (0 - z.1)).getD 0 + z.2)) := el_pairs (K := K) (i := 4) (j := 5) (vs := [4, 5]) (fun z => .int ((atI (recs g R k) (0 - z.1)).getD 0 + z.2)) (fld_ev T.cl T.nO rfl c3.b.icv rfl) ((TK.same c3.b.same) _ _ hp0) (hps0.tk (.same c3.b.same)) (by have := c3.b.few; omega) (fun _ _ => rfl) (fun z H4 e4 hz => ?_)
        · unfold tAsg tCB tCons tNil
          refine eL H3 (Ex.refl _) _ fun l H4 nl e4 hl => ⟨l, g.L.map fun z => (atI (recs g R k) (0 - z.1)).getD 0 + z.2, rfl, .inl (.inl (by rw [hl, List.map_map]; rfl)), by rw [List.length_map]; exact List.length_pos_iff.mpr rc.ne, fun m hm hle => ?_⟩
          have := least_one hm hle
          have e : m = cst g R (k + 1) := by
            rw [cst_nxt rc k]
            unfold nxt
            rw [if_pos hg]
            exact this
          rw [e]
          exact ⟨rfl, c3.s e4⟩
        · have c4 := c3.s e4
          have p1 := (rc.ok z hz).1
          have le := rc.le z hz
          obtain ⟨j, hj⟩ := Int.eq_ofNat_of_zero_le (show 0 ≤ z.1 by omega)
          have at_ : atI ((recs g R k).map V.int) (0 - z.1) = some (.int ((atI (recs g R k) (0 - z.1)).getD 0)) := by
            rw [atI_map, show (0 : Int) - z.1 = -((j : Nat) : Int) by omega, recs_back rc.r1 k j (by omega) (by omega)]
            rfl
          exact ev_op (ev_op (fld_ev T.cl T.nE rfl c4.b.icv rfl) (ev_op ev_c (ev_var rfl) (rv_I0 (g := fun i j => .int (i - j)))) (rv_ixL (.inl (.inl c4.irec)) at_)) (ev_var rfl) rv_I0
      · refine Eq.mpr (if_neg hg) ?_
        have e : cst g R (k + 1) = cst g R k := by
          rw [cst_nxt rc k]
          unfold nxt
          rw [if_neg hg]
          rfl
        rw [e]
        exact ⟨rfl, c3⟩
    clear c2
    rintro σ H3 ⟨rfl, c3⟩
    -- the last costs
    refine ⟨fun σ H' => ∃ rec', σ = [some (.ref a.cv), some (.ref a.st), some (.int (k : Int)), some (.int (cst g R (k + 1))), none, none] ∧ Cvb K CV CC ST g R H0 H' a rec' ∧ H' rec' = some (.lst ((recs g R (k + 1)).map V.int)) ∧ H' a.st = some (.ins ST a.dxs (stF a.tl 0 0 0)) ∧ H' a.tl = some (.lst (ctots g R k)) ∧ H' a.sn = some (.dT (kvC g R (k + 1))) ∧ rec' ≠ a.tl, ?_, ?_⟩
    · have r2 := rc.r2
      have eS : EvL (tOp rCat (tSl (rSlL K) (tFld K (tVar 0) "recent") (tPart (tC (.int 1))) tNoPart) (tLst (tCons (tVar 3) tNil))) [some (.ref a.cv), some (.ref a.st), some (.int (k : Int)), some (.int (cst g R (k + 1))), none, none] H3 (cutV ((recs g R k).map V.int) (some 1) none ++ [.int (cst g R (k + 1))]) := el_catN (el_sl (fld_ev T.cl T.nE rfl c3.b.icv rfl) (eo_some ev_c) eo_none (sq_of c3.irec)) (el_lst (ea_cons (ev_var rfl) ea_nil) (show 1 ≤ 100000 by decide)) (by have := cutV_length ((recs g R k).map V.int) (some 1) none; rw [List.length_map, recs_len rc.r1] at this; show _ + 1 ≤ 100000; omega)
      refine s_fldL eS rfl c3.b.icv T.cl T.nE (show 7 < 1000 by decide) fun r2 H4 nr e4 hr4 => ?_
      have c4 := c3.s e4
      have hcut : cutV ((recs g R k).map V.int) (some 1) none ++ [.int (cst g R (k + 1))] = (recs g R (k + 1)).map V.int := by
        rw [cst_nxt rc k]
        show _ = ((recs g R k).drop 1 ++ [nxt g k (recs g R k)]).map V.int
        rw [List.map_append, List.map_drop]
        congr 1
        unfold cutV
        rw [show (some (1 : Int)) = some ((1 : Nat) : Int) from rfl, HT.sIx_nat, HT.sIx_none, List.length_map, recs_len rc.r1, Nat.min_eq_left rc.r1, List.take_of_length_le (by rw [List.length_drop, List.length_map, recs_len rc.r1]; exact Nat.le_refl _)]
      rw [hcut] at hr4
      have n : ∀ {x : Addr} {u : HO}, H4 x = some u → u ≠ .ins CC a.dx (cvF a.p a.tv R a.cu a.sts rec a.sn) → ∀ o, (upd H4 a.cv o) x = some u := fun {x u} h ne o => by
        rw [upd_ne (ne_of h c4.b.icv ne)]
        exact h
      refine ⟨r2, rfl, ⟨same_put c4.b.same c4.b.ncv, c4.b.ncv, c4.b.nst, c4.b.ntl, c4.b.nsn, upd_same, n c4.b.icu (fun z => nomatch z) _, n c4.b.ipp (fun z => nomatch z) _, n c4.b.ists (fun z => nomatch z) _, c4.b.tvl, c4.b.pas, c4.b.few, rc⟩, n hr4 (fun z => nomatch z) _, n c4.ist (ins_ne (show (6 : Nat) ≠ 7 by decide)) _, n c4.itl (fun z => nomatch z) _, n c4.isn (fun z => nomatch z) _, fun z => ?_⟩
      rw [z, c3.itl] at nr
      cases nr
    clear c3
    rintro σ H4 ⟨rec', rfl, b4, hr4, hst4, htl4, hsn4, nrt⟩
    -- the row of costs
    have nt : ∀ {x : Addr} {u : HO}, H4 x = some u → u ≠ .lst (ctots g R k) → ∀ o, (upd H4 a.tl o) x = some u := fun {x u} h ne o => by
      rw [upd_ne (ne_of h htl4 ne)]
      exact h
    have rows : ∀ x : Addr, ∀ d, ([.ref x] : List V) ≠ ctots g R d := fun x d z => by
      have := ctots_at g R (Nat.zero_le d)
      rw [← z] at this
      cases this
    refine ⟨_, rfl, a.st, ST, a.dxs, _, _, rfl, hst4, TS.cl, TS.nT, rfl, .inl ⟨rfl, _, .of htl4⟩, _, rfl, a.tl, _, _, rfl, rfl, htl4, by rw [ctots_len, sizeLine_eq]; omega, ?_⟩
    refine q1 rec' _ ⟨⟨same_put b4.same b4.ntl, b4.ncv, b4.nst, b4.ntl, b4.nsn, nt b4.icv (fun z => nomatch z) _, nt b4.icu (fun z => by injection z with z; exact rows _ _ z) _, nt b4.ipp (fun z => nomatch z) _, nt b4.ists (fun z => by injection z with z; exact rows _ _ z) _, b4.tvl, b4.pas, b4.few, rc⟩, ?_, nt hst4 (fun z => nomatch z) _, ?_, nt hsn4 (fun z => nomatch z) _, nrt⟩ fr1
    · rw [upd_ne nrt]
      exact hr4
    · rw [upd_same, ctots_snoc]
end
end Sea

set_option Elab.async false
set_option linter.all false
set_option maxRecDepth 100000
set_option maxHeartbeats 4000000
/-! a list compared with an empty one; class Curve: reach_count -/
namespace Sea
open PySem PySem.Spec PyProof.Rows L2 LamX NdefX ClX Evl StX
/-- xs == [], whatever stands in xs -/
def rEqE (K : PySem.W.Frag) : R2 := fun x y H Q => ∃ a b xs, x = .ref a ∧ y = .ref b ∧ SqL K H a xs ∧ SqL K H b [] ∧ Q (.bl (decide (xs = []))) H
theorem op_eqE {X : Cx} (hu : X.A.units < cLine) : OpR X (compareOp .Eq) (rEqE X.K) := by
  intro pins s σ H x y v u Q I rx ry ⟨a, b, xs, ex, ey, h1, h2, q⟩
  subst ex
  subst ey
  obtain rfl : v = .ref a := rx
  obtain rfl : u = .ref b := ry
  obtain ⟨is, r1, l1, _⟩ := I.list h1
  obtain ⟨js, r2, l2, _⟩ := I.list h2
  cases r2
  cases r1 with
  | nil => exact SeqAt.eq_listAt (e := fun _ => true) l1.isList l2.isList rfl hu (fun j h _ => absurd h (Nat.not_lt_zero j)) ⟨.bl true, H, I, rfl, q⟩
  | cons z r => exact SeqAt.eq_list_lengthsAt l1.isList l2.isList rfl hu ⟨.bl false, H, I, rfl, q⟩
theorem scRch : FnScope ["self", "count", "stretch", "last"] ["self", "count"] (defScope sRch) := ⟨rfl, rfl, rfl, by decide +kernel, rfl, by decide +kernel, by decide +kernel⟩
theorem rv_isN {v : V} {H : Hp} : RV (fun x y H Q => y = .non ∧ Q (.bl (decide (x = .non))) H) v .non H (.bl (decide (v = V.non))) := fun H1 _ Q q => ⟨rfl, q H1 (Ex.refl _)⟩
theorem rv_eqE {K : PySem.W.Frag} {H : Hp} {a b : Addr} {xs : List V} (h1 : SqL K H a xs) (h2 : SqL K H b []) : RV (rEqE K) (.ref a) (.ref b) H (.bl (decide (xs = []))) := fun H1 e Q q => ⟨a, b, xs, rfl, rfl, ex_l e h1, ex_l e h2, q H1 (Ex.refl _)⟩
theorem et_eqE {K : PySem.W.Frag} {σ : L2.St} {H : Hp} {te : TE} {a : Addr} {xs : List V} (h : Ev te σ H (.ref a)) (hx : SqL K H a xs) : EvT (tTest (tOp (rEqE K) te (tLst tNil))) σ H (decide (xs = [])) := et_test fun H1 e Q q =>
  h H1 e _ fun H2 e2 => ⟨Nat.zero_le _, fun p np => ⟨a, p, xs, rfl, rfl, ex_l (e.trans (e2.trans (Ex.new np))) hx, .of upd_same, q _ (e2.trans (Ex.new np))⟩⟩
/-- the methods that reach_count calls -/
structure TRc (K : PySem.W.Frag) (CC ST fOpn fHol fAdd fClo : Addr) (dOpn dHol dAdd dClo : FuncData) : Prop where
  mO : Meth K CC "open_stretch" fOpn
  uO : Fun K "open_stretch" "Curve.open_stretch" sOpn fOpn dOpn
  mH : Meth K ST "holds" fHol
  uH : Fun K "holds" "Stretch.holds" sHol fHol dHol
  mA : Meth K CC "add_day" fAdd
  uA : Fun K "add_day" "Curve.add_day" sAdd fAdd dAdd
  mC : Meth K CC "close_stretch" fClo
  uC : Fun K "close_stretch" "Curve.close_stretch" sClo fClo dClo
section
variable {P : Program} {w : World} {K : PySem.W.Frag} {mg : Str → Option Value} {base : Heap} {CV CC ST fSt fVN fRl pRl fRd pRd fEx pEx fNot fTo fOpn fHol fAdd fClo : Addr} {dSt dVN dRl dRd dEx dNot dTo dOpn dHol dAdd dClo : FuncData}
def spRch (K : PySem.W.Frag) (CV CC ST : Addr) : Sp := fun vs H Q _ =>
  (∃ (cv dx p tv cu pp sts rec sn : Addr) (g : Par) (R : Nat) (H0 : Hp), vs = [.ref cv, .int 0] ∧ Cvi K CV CC g R H0 H cv dx p tv cu pp sts rec sn ∧ ∀ (a : CvA) H', a.cv = cv → a.tv = tv ∧ a.p = p → Cvr K CV CC ST g R H0 0 0 H' a rec → Q .non H') ∨
  ∃ (a : CvA) (rec : Addr) (g : Par) (R d j : Nat) (H0 : Hp) (n : Int), vs = [.ref a.cv, .int n] ∧ Cvd K CV CC ST g R H0 d j H a rec ∧ ∀ H', Same H H' → Q .non H'
/-- an open curve that knows the cost of n days -/
def Zop (CC ST cv : Addr) (n : Int) (Q : VK) (H : Hp) : Prop := ∃ (dx p tv cu sts rec sn st dxs tl : Addr) (R : Nat) (s d gn : Int) (xs : List V), H cv = some (.ins CC dx (cvF p tv R cu sts rec sn)) ∧ H sts = some (.lst [.ref st]) ∧ H st = some (.ins ST dxs (stF tl s d gn)) ∧ H tl = some (.lst xs) ∧ (decide (0 < d) || decide (n < (xs.length : Int))) = true ∧ ∀ H', Same H H' → Q .non H'
theorem Zop.s {CC ST cv : Addr} {n : Int} {Q : VK} {H H' : Hp} (z : Zop CC ST cv n Q H) (e : Same H H') : Zop CC ST cv n Q H' := by
  obtain ⟨dx, p, tv, cu, sts, rec, sn, st, dxs, tl, R, s, d, gn, xs, h1, h2, h3, h4, h5, h6⟩ := z
  exact ⟨dx, p, tv, cu, sts, rec, sn, st, dxs, tl, R, s, d, gn, xs, e _ _ h1, e _ _ h2, e _ _ h3, e _ _ h4, h5, fun H2 e2 => h6 H2 (e.trans e2)⟩
theorem ok_rch {f : Addr} {fd : FuncData} {k : Nat} (F : Fun K "reach_count" "Curve.reach_count" sRch f fd) (T : TCv K mg CC) (TS : TSt K mg ST) (MS : TMs K ST fSt dSt) (TV : TTv K mg CV fVN dVN) (RR : TPr K CV fRl pRl fRd pRd fEx pEx dRl dRd dEx) (M : TAd K CV CC fNot fTo dNot dTo) (N : TRc K CC ST fOpn fHol fAdd fClo dOpn dHol dAdd dClo) :
    FnOk P w K mg base CX0 (k + 7) f fd ["self", "count"] (spRch K CV CC ST) := by
  have bO : Binds K dOpn ["self"] [] := N.uO.binds (ps := ["self"]) fun _ _ _ _ _ _ us hl => match us, hl with | [_], _ => rfl
  have bH : Binds K dHol ["self", "count"] [] := N.uH.binds (ps := ["self", "count"]) fun _ _ _ _ _ _ us hl => match us, hl with | [_, _], _ => rfl
  have bA : Binds K dAdd ["self", "stretch"] [] := N.uA.binds (ps := ["self", "stretch"]) fun _ _ _ _ _ _ us hl => match us, hl with | [_, _], _ => rfl
  have bC : Binds K dClo ["self", "stretch"] [] := N.uC.binds (ps := ["self", "stretch"]) fun _ _ _ _ _ _ us hl => match us, hl with | [_, _], _ => rfl
  have GC : FnOk P w K mg base CX0 1 fClo dClo ["self", "stretch"] (fun _ _ _ _ => False) := ⟨fun _ _ _ _ h => h.elim, fun _ _ _ _ _ _ _ _ _ _ _ _ _ h => h.elim⟩
  refine F.ok scRch (fun vs H Q E h => ?_) (fun cdv A outer s H vs Q E hr h => ?_)
  · rcases h with ⟨cv, dx, p, tv, cu, pp, sts, rec, sn, g, R, H0, rfl, _⟩ | ⟨a, rec, g, R, d, j, H0, n, rfl, _⟩
    · rfl
    · rfl
  · have hu0 : (A.deeper (envOfC "Curve.reach_count" (defScope sRch) s.heap.objs.size f cdv)).units < cLine := Nat.lt_of_le_of_lt (Nat.le_add_right _ 64) hr.units
    refine ⟨_, pss_one (ps_while PassesOwn.never (pt_val pe_bl)
      (pss_cut (ps_if (pt_cmpR (op_eqE hu0) (pe_fld (pv 0) rfl) (pe_lst pa_nil) (nomark _)) (pss_one (ps_expr (pe_meth0 (pv 0) T.cl N.mO (ok_opn (CV := CV) (k := 0) N.uO T TS MS) (hr.mono (by omega)) bO .nil pass0))) pss_nil)
      (pss_cons (ps_set (i := 2) scRch.nd rfl (.inl rfl) (pe_ixl (pe_fld (pv 0) rfl) (pe_un un_neg pe_int)))
      (pss_cons (ps_set (i := 3) scRch.nd rfl (.inl rfl) (pe_ifExp (pt_cmpR op_isN (pe_fld (pv 2) rfl) pe_non (nomark _)) (pv 1) (pe_callB (call_min2 rfl) (by rfl) T.mM (by decide +kernel) (pa_cons (pv 1) (pa_cons (pe_fld (pv 2) rfl) pa_nil)))))
      (pss_cut (ps_while PassesOwn.never (pt_not (pt_val (pe_meth (pv 2) TS.cl N.mH (ok_hol (k := 0) N.uH TS) (hr.mono (by omega)) bH .nil pass0 (pa_cons (pv 3) pa_nil)))) (pss_one (ps_expr (pe_meth (pv 0) T.cl N.mA (ok_add (k := 0) N.uA T TS TV RR M) (hr.mono (by omega)) bA .nil pass0 (pa_cons (pv 2) pa_nil)))))
      (pss_cons (ps_if (PW.pt (pw_or (pt_cmpR op_isN (pe_fld (pv 2) rfl) pe_non (nomark _)) (pw_or1 (pt_cmpR op_lt (pv 1) (pe_fld (pv 2) rfl) (nomark _))))) (pss_one (ps_ret pe_non)) pss_nil)
      (pss_cons (ps_expr (pe_meth (pv 0) T.cl N.mC GC (hr.mono (by omega)) bC .nil pass0 (pa_cons (pv 2) pa_nil)))
      (pss_one (ps_expr (pe_meth0 (pv 0) T.cl N.mO (ok_opn (CV := CV) (k := 0) N.uO T TS MS) (hr.mono (by omega)) bO .nil pass0)))))))))), ?_⟩
    obtain ⟨cv, n, rfl, hz⟩ : ∃ (cv : Addr) (n : Int), vs = [.ref cv, .int n] ∧ ((∃ (dx p tv cu pp sts rec sn : Addr) (g : Par) (R : Nat) (H0 : Hp), Cvi K CV CC g R H0 H cv dx p tv cu pp sts rec sn ∧ ∀ (a : CvA) H', a.cv = cv → a.tv = tv ∧ a.p = p → Cvr K CV CC ST g R H0 0 0 H' a rec → Zop CC ST cv n Q H') ∨ Zop CC ST cv n Q H) := by
      rcases h with ⟨cv, dx, p, tv, cu, pp, sts, rec, sn, g, R, H0, e, c, q⟩ | ⟨a, rec, g, R, d, j, H0, n, e, c, q⟩
      · refine ⟨cv, 0, e, .inl ⟨dx, p, tv, cu, pp, sts, rec, sn, g, R, H0, c, fun a H' ea eb c' => ?_⟩⟩
        refine ⟨a.dx, a.p, a.tv, a.cu, a.sts, rec, a.sn, a.st, a.dxs, a.tl, R, 0, 0, 0, _, by rw [← ea]; exact c'.b.icv, c'.b.ists, c'.ist, c'.itl, ?_, fun H2 e2 => q a H2 ea eb (c'.s e2)⟩
        rw [ctots_len]
        rfl
      · have lt := c.rep.lt
        refine ⟨a.cv, n, e, .inr ⟨a.dx, a.p, a.tv, a.cu, a.sts, rec, a.sn, a.st, a.dxs, a.tl, R, _, _, _, _, c.b.icv, c.b.ists, c.ist, c.itl, ?_, fun H2 e2 => q H2 e2⟩⟩
        rw [decide_eq_true (by omega)]
        rfl
    clear h
    refine s_while (fun _ σ' H' => σ' = [some (.ref cv), some (.int n), none, none] ∧ H' = H) 0 ⟨rfl, rfl⟩ ?_
    rintro m σ' H' ⟨rfl, rfl⟩
    refine ⟨true, et_B ev_c, fun _ H1 e1 => ⟨fun _ _ => False, fun _ _ z => z.elim, ?_⟩, fun z => by cases z⟩
    refine ⟨fun σ H2 => σ = [some (.ref cv), some (.int n), none, none] ∧ Zop CC ST cv n Q H2, ?_, ?_⟩
    · rcases hz with ⟨dx, p, tv, cu, pp, sts, rec, sn, g, R, H0, c, q⟩ | z
      · have c1 := c.s e1
        refine s_when (b := decide (([] : List V) = [])) (et_eqE (K := K) (fld_ev (σ := [some (.ref cv), some (.int n), none, none]) (i := 0) T.cl T.nS rfl c1.icv rfl) (sq_of c1.ists)) (fun _ H2 e2 => ?_) (fun hb => absurd hb (by decide))
        have c2 := c1.s e2
        exact ⟨_, rfl, cv, dx, _, rfl, c2.icv, rfl, cv, dx, p, tv, cu, pp, sts, rec, sn, g, R, H0, rfl, c2, fun a H3 ea eb c3 => ⟨rfl, q a H3 ea eb c3⟩⟩
      · obtain ⟨dx, p, tv, cu, sts, rec, sn, st, dxs, tl, R, s0, d, gn, xs, g1, g2, g3⟩ := id (z.s e1)
        exact s_when (b := decide (([V.ref st] : List V) = [])) (et_eqE (K := K) (fld_ev (σ := [some (.ref cv), some (.int n), none, none]) (i := 0) T.cl T.nS rfl g1 rfl) (sq_of g2)) (fun hb => by
          have := of_decide_eq_true hb
          cases this) (fun _ H2 e2 => ⟨rfl, (z.s e1).s e2⟩)
    rintro σ H2 ⟨rfl, dx, p, tv, cu, sts, rec, sn, st, dxs, tl, R, s0, d, gn, xs, h1, h2, h3, h4, h5, h6⟩
    refine q_asg (v := .ref st) (ev_op (fld_ev (σ := [some (.ref cv), some (.int n), none, none]) (i := 0) T.cl T.nS rfl h1 rfl) ev_neg1 (rv_ixL (.inl (.inl h2)) rfl)) fun H3 e3 => ?_
    refine q_asg (v := .int n) (ev_if (b := decide (V.non = V.non)) (et_test (ev_op (fld_ev (σ := [some (.ref cv), some (.int n), some (.ref st), none]) (i := 2) TS.cl TS.nE rfl (e3 _ _ h3) rfl) ev_c rv_isN)) (fun _ => ev_var rfl) (fun hb => absurd hb (by decide))) fun H4 e4 => ?_
    have e34 := e3.trans e4
    refine ⟨fun σ H5 => σ = [some (.ref cv), some (.int n), some (.ref st), some (.int n)] ∧ Same H2 H5, ?_, ?_⟩
    · refine s_while (fun _ σ' H' => σ' = [some (.ref cv), some (.int n), some (.ref st), some (.int n)] ∧ H' = H4) 0 ⟨rfl, rfl⟩ ?_
      rintro m σ' H' ⟨rfl, rfl⟩
      refine ⟨false, fun H5 e5 Q1 q1 => ?_, (fun z => by cases z), fun _ H5 e5 => ⟨rfl, e34.trans e5⟩⟩
      have e25 := e34.trans e5
      refine ⟨_, rfl, st, dxs, _, rfl, e25 _ _ h3, rfl, _, rfl, st, dxs, tl, s0, d, gn, n, xs, rfl, e25 _ _ h3, e25 _ _ h4, fun H6 s6 => ⟨_, rfl, ?_⟩⟩
      rw [h5]
      exact q1 H6 s6
    rintro σ H5 ⟨rfl, s5⟩
    refine q_when (b := true) (et_is (et_or (a := decide (V.non = V.non)) (b := true) (et_test (ev_op (fld_ev (σ := [some (.ref cv), some (.int n), some (.ref st), some (.int n)]) (i := 2) TS.cl TS.nE rfl (s5 _ _ h3) rfl) ev_c rv_isN)) (fun z => absurd z (by decide))) (by decide)) (fun _ H6 e6 => ?_) (fun z => by cases z)
    exact h6 H6 (Same.trans s5 e6)
end
end Sea

set_option Elab.async false
set_option linter.all false
set_option maxRecDepth 100000
set_option maxHeartbeats 4000000
/-! class Curve: known, at, complete -/
namespace Sea
open PySem PySem.Spec PyProof.Rows L2 LamX NdefX ClX Evl StX
theorem scKno : FnScope ["self", "count", "stretch"] ["self", "count"] (defScope sKno) := ⟨rfl, rfl, rfl, by decide +kernel, rfl, by decide +kernel, by decide +kernel⟩
theorem scCAt : FnScope ["self", "count"] ["self", "count"] (defScope sCAt) := ⟨rfl, rfl, rfl, by decide +kernel, rfl, by decide +kernel, by decide +kernel⟩
theorem scCom : FnScope ["self", "stretch"] ["self"] (defScope sCom) := ⟨rfl, rfl, rfl, by decide +kernel, rfl, by decide +kernel, by decide +kernel⟩
/-- the methods behind cost -/
structure TAt (K : PySem.W.Frag) (CC ST fRch fKno fVal fCAt fCom : Addr) (dRch dKno dVal dCAt dCom : FuncData) : Prop where
  mR : Meth K CC "reach_count" fRch
  uR : Fun K "reach_count" "Curve.reach_count" sRch fRch dRch
  mK : Meth K CC "known" fKno
  uK : Fun K "known" "Curve.known" sKno fKno dKno
  mV : Meth K ST "value" fVal
  uV : Fun K "value" "Stretch.value" sVal fVal dVal
  mA : Meth K CC "at" fCAt
  uA : Fun K "at" "Curve.at" sCAt fCAt dCAt
  mC : Meth K CC "complete" fCom
  uC : Fun K "complete" "Curve.complete" sCom fCom dCom
/-- all of a curve's methods -/
structure TAll (K : PySem.W.Frag) (mg : Str → Option Value) (CV CC ST fSt fVN fRl pRl fRd pRd fEx pEx fNot fTo fOpn fHol fAdd fClo fRch fKno fVal fCAt fCom : Addr) (dSt dVN dRl dRd dEx dNot dTo dOpn dHol dAdd dClo dRch dKno dVal dCAt dCom : FuncData) : Prop where
  T : TCv K mg CC
  TS : TSt K mg ST
  MS : TMs K ST fSt dSt
  TV : TTv K mg CV fVN dVN
  RR : TPr K CV fRl pRl fRd pRd fEx pEx dRl dRd dEx
  M : TAd K CV CC fNot fTo dNot dTo
  N : TRc K CC ST fOpn fHol fAdd fClo dOpn dHol dAdd dClo
  A : TAt K CC ST fRch fKno fVal fCAt fCom dRch dKno dVal dCAt dCom
section
variable {P : Program} {w : World} {K : PySem.W.Frag} {mg : Str → Option Value} {base : Heap} {CV CC ST fSt fVN fRl pRl fRd pRd fEx pEx fNot fTo fOpn fHol fAdd fClo fRch fKno fVal fCAt fCom : Addr} {dSt dVN dRl dRd dEx dNot dTo dOpn dHol dAdd dClo dRch dKno dVal dCAt dCom : FuncData}
def spKno (K : PySem.W.Frag) (CV CC ST : Addr) : Sp := fun vs H Q _ => ∃ (a : CvA) (rec : Addr) (g : Par) (R d j n : Nat) (H0 : Hp), vs = [.ref a.cv, .int n] ∧ Cvd K CV CC ST g R H0 d j H a rec ∧ n ≤ 2000000000000000000 ∧ ∀ H', Same H H' → Q (.int (cst g R n)) H'
theorem ok_kno {k : Nat} (Z : TAll K mg CV CC ST fSt fVN fRl pRl fRd pRd fEx pEx fNot fTo fOpn fHol fAdd fClo fRch fKno fVal fCAt fCom dSt dVN dRl dRd dEx dNot dTo dOpn dHol dAdd dClo dRch dKno dVal dCAt dCom) : FnOk P w K mg base CX0 (k + 2) fKno dKno ["self", "count"] (spKno K CV CC ST) := by
  have T := Z.T
  have TS := Z.TS
  have bV : Binds K dVal ["self", "count"] [] := Z.A.uV.binds (ps := ["self", "count"]) fun _ _ _ _ _ _ us hl => match us, hl with | [_, _], _ => rfl
  refine Z.A.uK.ok scKno (fun vs H Q E h => ?_) (fun cdv A outer s H vs Q E hr h => ?_)
  · obtain ⟨a, rec, g, R, d, j, n, H0, rfl, _⟩ := h
    rfl
  · obtain ⟨a, rec, g, R, d, j, n, H0, rfl, c, nb, q⟩ := h
    refine ⟨_, pss_one (ps_ret (pe_meth (pe_ixl (pe_lc (own := [("stretch", 2)]) (g := gName 2) (by rfl) scKno.nd (pi_list (pe_fld (pv 0) rfl)) (blkOk_by (own := [("stretch", 2)]) (N := ["self", "count", "stretch"]) (sc := defScope sKno) (by decide +kernel)) (fun _ _ _ _ _ => pg_name (i := 2) scKno.nd rfl (Or.inl rfl)) (fun _ _ _ _ _ => pts_one (pt_cmpR op_le (pe_fldK K rfl (pv 2) rfl) (pv 1) (nomark _))) (fun _ _ _ _ _ => pv 2)) (pe_un un_neg pe_int)) TS.cl Z.A.mV (ok_val (k := 0) Z.A.uV TS) (hr.mono (by omega)) bV .nil pass0 (pa_cons (pv 1) pa_nil))), ?_⟩
    have eL : EvL (tLc (iList K (tFld K (tVar 0) "stretches")) (gName 2) (tTest (tOp (rI0 fun i j => .bl (decide (i ≤ j))) (tFld K (tVar 2) "begin") (tVar 1))) (tVar 2) [2]) [some (.ref a.cv), some (.int (n : Int)), none] H (given 1 (fun _ => true) fun _ => V.ref a.st) := el_lcL (K := K) (xs := [V.ref a.st]) (j := 2) (vs := [2]) (fun _ => true) (fun _ => V.ref a.st) (fld_ev T.cl T.nS rfl c.b.icv rfl) (sq_of c.b.ists) (show 1 ≤ 40000 by decide) (fun _ => rfl) (fun i x H1 e1 hx => ?_) (fun i x H1 e1 hx _ => ?_)
    · unfold tRet tMeth
      rw [tOp]
      refine eL H (Ex.refl _) _ fun l H1 nl e1 hl => ?_
      have c1 := c.s e1
      refine ⟨1, rfl, l, _, -1, .ref a.st, rfl, rfl, .inl (.inl hl), rfl, a.st, a.dxs, _, rfl, c1.ist, rfl, _, rfl, a.st, a.dxs, a.tl, g, R, d, j, n, rfl, c1.ist, c1.itl, c1.b.rc, c1.rep, c1.big, nb, fun H2 s2 => q H2 (Same.trans e1 s2)⟩
    all_goals
      have ex : x = .ref a.st := by
        cases i with
        | zero => cases hx; rfl
        | succ i => cases hx
      subst ex
    · exact et_is (et_test (ev_op (fld_ev (σ := [some (.ref a.cv), some (.int (n : Int)), some (.ref a.st)]) (i := 2) TS.cl TS.nB rfl (e1 _ _ c.ist) rfl) (ev_var rfl) (rv_I0 (g := fun i j => .bl (decide (i ≤ j))) (i := 0) (j := (n : Int))))) (decide_eq_true (by omega))
    · exact ev_var rfl
def spCAt (K : PySem.W.Frag) (CV CC ST : Addr) : Sp := spKno K CV CC ST
theorem ok_cAt {k : Nat} (Z : TAll K mg CV CC ST fSt fVN fRl pRl fRd pRd fEx pEx fNot fTo fOpn fHol fAdd fClo fRch fKno fVal fCAt fCom dSt dVN dRl dRd dEx dNot dTo dOpn dHol dAdd dClo dRch dKno dVal dCAt dCom) : FnOk P w K mg base CX0 (k + 8) fCAt dCAt ["self", "count"] (spCAt K CV CC ST) := by
  have T := Z.T
  have bR : Binds K dRch ["self", "count"] [] := Z.A.uR.binds (ps := ["self", "count"]) fun _ _ _ _ _ _ us hl => match us, hl with | [_, _], _ => rfl
  have bK : Binds K dKno ["self", "count"] [] := Z.A.uK.binds (ps := ["self", "count"]) fun _ _ _ _ _ _ us hl => match us, hl with | [_, _], _ => rfl
  refine Z.A.uA.ok scCAt (fun vs H Q E h => ?_) (fun cdv A outer s H vs Q E hr h => ?_)
  · obtain ⟨a, rec, g, R, d, j, n, H0, rfl, _⟩ := h
    rfl
  · obtain ⟨a, rec, g, R, d, j, n, H0, rfl, c, nb, q⟩ := h
    refine ⟨_, pss_cons (ps_expr (pe_meth (pv 0) T.cl Z.A.mR (ok_rch (k := 0) Z.A.uR T Z.TS Z.MS Z.TV Z.RR Z.M Z.N) (hr.mono (by omega)) bR .nil pass0 (pa_cons (pv 1) pa_nil)))
      (pss_one (ps_ret (pe_meth (pv 0) T.cl Z.A.mK (ok_kno (k := 0) Z) (hr.mono (by omega)) bK .nil pass0 (pa_cons (pv 1) pa_nil)))), ?_⟩
    refine ⟨_, rfl, a.cv, a.dx, _, rfl, c.b.icv, rfl, _, rfl, .inr ⟨a, rec, g, R, d, j, H0, (n : Int), rfl, c, fun H1 s1 => ?_⟩⟩
    have c1 := c.s s1
    exact ⟨_, rfl, a.cv, a.dx, _, rfl, c1.b.icv, rfl, _, rfl, a, rec, g, R, d, j, n, H0, rfl, c1, nb, fun H2 s2 => q H2 (Same.trans s1 s2)⟩
def spCom (K : PySem.W.Frag) (CV CC ST : Addr) : Sp := fun vs H Q _ => ∃ (cv dx p tv cu pp sts rec sn : Addr) (g : Par) (R : Nat) (H0 : Hp), vs = [.ref cv] ∧ Cvi K CV CC g R H0 H cv dx p tv cu pp sts rec sn ∧ (∀ d, FreshC g R d → d ≤ 10000000) ∧ ∀ (a : CvA) (rec' : Addr) (d j : Nat) H', a.cv = cv → a.tv = tv ∧ a.p = p → Cvd K CV CC ST g R H0 d j H' a rec' → Q (.ref a.st) H'
theorem ok_com {k : Nat} (Z : TAll K mg CV CC ST fSt fVN fRl pRl fRd pRd fEx pEx fNot fTo fOpn fHol fAdd fClo fRch fKno fVal fCAt fCom dSt dVN dRl dRd dEx dNot dTo dOpn dHol dAdd dClo dRch dKno dVal dCAt dCom) : FnOk P w K mg base CX0 (k + 8) fCom dCom ["self"] (spCom K CV CC ST) := by
  have T := Z.T
  have TS := Z.TS
  have bR : Binds K dRch ["self", "count"] [] := Z.A.uR.binds (ps := ["self", "count"]) fun _ _ _ _ _ _ us hl => match us, hl with | [_, _], _ => rfl
  have bA : Binds K dAdd ["self", "stretch"] [] := Z.N.uA.binds (ps := ["self", "stretch"]) fun _ _ _ _ _ _ us hl => match us, hl with | [_, _], _ => rfl
  refine Z.A.uC.ok scCom (fun vs H Q E h => ?_) (fun cdv A outer s H vs Q E hr h => ?_)
  · obtain ⟨cv, dx, p, tv, cu, pp, sts, rec, sn, g, R, H0, rfl, _⟩ := h
    rfl
  · obtain ⟨cv, dx, p, tv, cu, pp, sts, rec, sn, g, R, H0, rfl, c, few, q⟩ := h
    refine ⟨_, pss_cut (ps_expr (pe_meth (pv 0) T.cl Z.A.mR (ok_rch (k := 0) Z.A.uR T TS Z.MS Z.TV Z.RR Z.M Z.N) (hr.mono (by omega)) bR .nil pass0 (pa_cons (pe_ixt (pe_ixl (pe_fld (pv 0) rfl) (pe_un un_neg pe_int)) pe_int) pa_nil)))
      (pss_cons (ps_set (i := 1) scCom.nd rfl (.inl rfl) (pe_ixl (pe_fld (pv 0) rfl) (pe_un un_neg pe_int)))
      (pss_cons (ps_while PassesOwn.never (pt_cmpR op_eq (pe_fld (pv 1) rfl) pe_int (nomark _)) (pss_one (ps_expr (pe_meth (pv 0) T.cl Z.N.mA (ok_add (k := 0) Z.N.uA T TS Z.TV Z.RR Z.M) (hr.mono (by omega)) bA .nil pass0 (pa_cons (pv 1) pa_nil)))))
      (pss_one (ps_ret (pv 1))))), ?_⟩
    refine ⟨fun σ H' => σ = [some (.ref cv), none] ∧ ∃ a : CvA, a.cv = cv ∧ (a.tv = tv ∧ a.p = p) ∧ Cvr K CV CC ST g R H0 0 0 H' a rec, ?_, ?_⟩
    · exact ⟨_, rfl, cv, dx, _, rfl, c.icv, rfl, .ref cv, rfl, cv, CC, dx, _, _, rfl, c.icv, T.cl, T.nC, rfl, 1, rfl, cu, _, -1, .ref pp, rfl, rfl, .inl (.inl c.icu), rfl, pp, _, 0, .int 0, rfl, rfl, .of c.ipp, rfl, .inl ⟨cv, dx, p, tv, cu, pp, sts, rec, sn, g, R, H0, rfl, c, fun a H1 ea eb c1 => ⟨rfl, a, ea, eb, c1⟩⟩⟩
    rintro σ H1 ⟨rfl, a, rfl, eb, c1⟩
    refine q_asg (v := .ref a.st) (ev_op (fld_ev (σ := [some (.ref a.cv), none]) (i := 0) T.cl T.nS rfl c1.b.icv rfl) ev_neg1 (rv_ixL (.inl (.inl c1.b.ists)) rfl)) fun H2 e2 => ?_
    have c2 := c1.s e2
    refine q_while (fun m σ' H' => σ' = [some (.ref a.cv), some (.ref a.st)] ∧ ((∃ k rec', m + k = 10000001 ∧ Cvr K CV CC ST g R H0 k k H' a rec' ∧ FreshC g R k) ∨ ∃ d j rec', Cvd K CV CC ST g R H0 d j H' a rec')) 10000001 ⟨rfl, .inl ⟨0, rec, rfl, c2, fun i j _ h => absurd h (Nat.not_lt_zero j)⟩⟩ ?_
    rintro m σ' H' ⟨rfl, ⟨k, rec', hm, ck, fk⟩ | ⟨d, j, rec', cd⟩⟩
    · refine ⟨decide (V.int 0 = V.int 0), et_test (ev_op (fld_ev (σ := [some (.ref a.cv), some (.ref a.st)]) (i := 1) TS.cl TS.nD rfl ck.ist rfl) ev_c (rv_eq rfl)), fun _ H3 e3 => ⟨fun σ2 H2 => ∃ m', m' < m ∧ σ2 = [some (.ref a.cv), some (.ref a.st)] ∧ ((∃ k rec', m' + k = 10000001 ∧ Cvr K CV CC ST g R H0 k k H2 a rec' ∧ FreshC g R k) ∨ ∃ d j rec', Cvd K CV CC ST g R H0 d j H2 a rec'), fun σ2 H2 z => z, ?_⟩, fun hb => absurd hb (by decide)⟩
      have c3 := ck.s e3
      have fk1 := few k fk
      refine ⟨_, rfl, a.cv, a.dx, _, rfl, c3.b.icv, rfl, _, rfl, a, rec', g, R, k, H0, rfl, c3, fk, few, fun rec2 H4 c4 f4 => ?_, fun j H4 d4 => ⟨0, by omega, rfl, .inr ⟨k, j, rec', d4⟩⟩⟩
      have := few _ f4
      exact ⟨m - 1, by omega, rfl, .inl ⟨k + 1, rec2, by omega, c4, f4⟩⟩
    · have lt := cd.rep.lt
      refine ⟨decide (V.int ((d : Int) - (j : Int)) = V.int 0), et_test (ev_op (fld_ev (σ := [some (.ref a.cv), some (.ref a.st)]) (i := 1) TS.cl TS.nD rfl cd.ist rfl) ev_c (rv_eq rfl)), fun hb => ?_, fun _ H3 e3 => ?_⟩
      · have := of_decide_eq_true hb
        injection this
        omega
      · exact ⟨_, rfl, q a rec' d j H3 rfl eb (cd.s e3)⟩
end
end Sea

set_option Elab.async false
set_option linter.all false
set_option maxRecDepth 100000
set_option maxHeartbeats 4000000
/-! class Costs: __init__, repetition, cost -/
namespace Sea
open PySem PySem.Spec PyProof.Rows L2 LamX NdefX ClX Evl StX
theorem scCoI : FnScope ["self", "tariff", "travel"] ["self", "tariff", "travel"] (defScope sCoI) := ⟨rfl, rfl, rfl, by decide +kernel, rfl, by decide +kernel, by decide +kernel⟩
theorem scRep : FnScope ["self", "place"] ["self"] (defScope sRep) := ⟨rfl, rfl, rfl, by decide +kernel, rfl, by decide +kernel, by decide +kernel⟩
theorem scCos : FnScope ["self", "count"] ["self", "count"] (defScope sCos) := ⟨rfl, rfl, rfl, by decide +kernel, rfl, by decide +kernel, by decide +kernel⟩
abbrev coF (t tv cv st : Addr) : List (Str × V) := [("offer", .ref t), ("trips", .ref tv), ("curve", .ref cv), ("last", .ref st)]
structure TCo (K : PySem.W.Frag) (mg : Str → Option Value) (CO CC fCvI fCoI fRep pRep fCos fCut : Addr) (dCvI dCoI dRep dCos dCut : FuncData) : Prop where
  cl : Cls K CO
  nO : NoAttr K CO "offer"
  nT : NoAttr K CO "trips"
  nC : NoAttr K CO "curve"
  nL : NoAttr K CO "last"
  gC : mg "Costs" = some (.ref CO)
  mkV : Mk K CC fCvI
  uCv : Fun K "__init__" "Curve.__init__" sCvI fCvI dCvI
  mkO : Mk K CO fCoI
  uCo : Fun K "__init__" "Costs.__init__" sCoI fCoI dCoI
  pR : PropOf K CO "repetition" pRep fRep
  uR : Fun K "repetition" "Costs.repetition" sRep fRep dRep
  mC : Meth K CO "cost" fCos
  uC : Fun K "cost" "Costs.cost" sCos fCos dCos
  gCut : mg "cuts_of" = some (.ref fCut)
  kCut : PySem.W.keepIn K (.ref fCut) = true
  uCut : Fun K "cuts_of" "cuts_of" sCut fCut dCut
/-- costs of a tariff for a travel, behind H0 in which these stand -/
structure Cos (K : PySem.W.Frag) (CV CC ST CO : Addr) (g : Par) (R d j : Nat) (H0 H : Hp) (x dx t : Addr) (a : CvA) (rec : Addr) : Prop where
  ix : H x = some (.ins CO dx (coF t a.tv a.cv a.st))
  nx : H0 x = none
  d : Cvd K CV CC ST g R H0 d j H a rec
theorem Cos.s {K : PySem.W.Frag} {CV CC ST CO : Addr} {g : Par} {R d j : Nat} {H0 H H' : Hp} {x dx t : Addr} {a : CvA} {rec : Addr} (c : Cos K CV CC ST CO g R d j H0 H x dx t a rec) (e : Same H H') : Cos K CV CC ST CO g R d j H0 H' x dx t a rec := ⟨e _ _ c.ix, c.nx, c.d.s e⟩
section
variable {K : PySem.W.Frag} {H H1 H2 : Hp} {x dx D : Addr}
theorem born_ins (nx : H x = none) (ndx : H dx = none) : Same H (upd (upd H dx (.own x)) x (.ins D dx [])) := fun b u e => by
  rw [upd_ne (ne_of_none e nx), upd_ne (ne_of_none e ndx)]
  exact e
theorem KA.back (k : KA x H1 H2) (s : Same H H1) (nx : H x = none) : Same H H2 := fun b u e => k b u (s b u e) (ne_of_none e nx)
end
/-- H without what lies at a and b -/
def less2 (H : Hp) (a b : Addr) : Hp := fun c => if c = a ∨ c = b then none else H c
theorem less2_same {H : Hp} {a b : Addr} : Same (less2 H a b) H := fun c u e => by
  unfold less2 at e
  split at e
  · cases e
  · exact e
theorem same_less2 {H0 H : Hp} {a b : Addr} (s : Same H0 H) (na : H0 a = none) (nb : H0 b = none) : Same H0 (less2 H a b) := fun c u e => by
  unfold less2
  rw [if_neg (fun z => by rcases z with z | z <;> (rw [z] at e; first | (rw [na] at e; cases e) | (rw [nb] at e; cases e)))]
  exact s c u e
/-- the same, told of an older heap -/
theorem Cvd.older {K : PySem.W.Frag} {CV CC ST : Addr} {g : Par} {R : Nat} {H0 H0' H : Hp} {d j : Nat} {a : CvA} {rec : Addr} (c : Cvd K CV CC ST g R H0' d j H a rec) (s : Same H0 H0') (tv : ∃ dv ov, Tv K CV H0 a.tv g.ln dv ov g.ds []) (pa : ∃ ws, SqT K H0 a.p ws ∧ PsV K H0 ws g.L) : Cvd K CV CC ST g R H0 d j H a rec :=
  ⟨⟨s.trans c.b.same, fresh_back s c.b.ncv, fresh_back s c.b.nst, fresh_back s c.b.ntl, fresh_back s c.b.nsn, c.b.icv, c.b.icu, c.b.ipp, c.b.ists, tv, pa, c.b.few, c.b.rc⟩, c.rep, c.big, c.ist, c.itl⟩
/-- .. something else is written -/
theorem Cvd.put {K : PySem.W.Frag} {CV CC ST CO : Addr} {g : Par} {R : Nat} {H0 H : Hp} {d j : Nat} {a : CvA} {rec x dx : Addr} {fs : List (Str × V)} {o : HO} (c : Cvd K CV CC ST g R H0 d j H a rec) (nx : H0 x = none) (e : H x = some (.ins CO dx fs)) (l : fs.length < 6) : Cvd K CV CC ST g R H0 d j (upd H x o) a rec := by
  have n : ∀ {y : Addr} {u : HO}, H y = some u → u ≠ .ins CO dx fs → (upd H x o) y = some u := fun {y u} h ne => by
    rw [upd_ne (ne_of h e ne)]
    exact h
  exact ⟨⟨same_put c.b.same nx, c.b.ncv, c.b.nst, c.b.ntl, c.b.nsn, n c.b.icv (ins_ne (show (7 : Nat) ≠ fs.length by omega)), n c.b.icu (fun z => nomatch z), n c.b.ipp (fun z => nomatch z), n c.b.ists (fun z => nomatch z), c.b.tvl, c.b.pas, c.b.few, c.b.rc⟩, c.rep, c.big, n c.ist (ins_ne (show (6 : Nat) ≠ fs.length by omega)), n c.itl (fun z => nomatch z)⟩
theorem fld2_ev {K : PySem.W.Frag} {C D a b dx dy : Addr} {fs gs : List (Str × V)} {f h : Str} {v : V} {σ : L2.St} {H : Hp} {i : Nat} (cl : Cls K C) (n : NoAttr K C f) (cl2 : Cls K D) (n2 : NoAttr K D h) (hs : σ[i]? = some (some (.ref a))) (ha : H a = some (.ins C dx fs)) (hf : fs.lookup f = some (.ref b)) (hb : H b = some (.ins D dy gs)) (hg : gs.lookup h = some v) : Ev (tFld K (tFld K (tVar i) f) h) σ H v := fun H1 e Q q =>
  ⟨.ref a, hs, a, C, dx, _, _, rfl, e _ _ ha, cl, n, hf, b, D, dy, _, v, rfl, e _ _ hb, cl2, n2, hg, q H1 (Ex.refl _)⟩
section
variable {P : Program} {w : World} {K : PySem.W.Frag} {mg : Str → Option Value} {base : Heap} {C CV CC ST CO cI cU cP cN fI fP pP fSt fVN fVC fRl pRl fRd pRd fEx pEx fNot fTo fOpn fHol fAdd fClo fRch fKno fVal fCAt fCom fCvI fCoI fRep pRep fCos fCut : Addr} {mc mp : Value} {fdP dVC dSt dVN dRl dRd dEx dNot dTo dOpn dHol dAdd dClo dRch dKno dVal dCAt dCom dCvI dCoI dRep dCos dCut : FuncData}
def spCoI (K : PySem.W.Frag) (C CV CC ST CO : Addr) : Sp := fun vs H Q _ => ∃ (x dx t p tv : Addr) (g : Par) (dv ov : V) (H0 : Hp), vs = [.ref x, .ref t, .ref tv] ∧ H x = some (.ins CO dx []) ∧ H0 x = none ∧ Same H0 H ∧ Tar K C H0 t p g.L ∧ g.L ≠ [] ∧ g.L.length ≤ 1000 ∧ (∀ z ∈ g.L, PassOk z) ∧ 1 ≤ g.ln ∧ g.ln ≤ 14 ∧ Tv K CV H0 tv g.ln dv ov g.ds [] ∧ (∀ R, Reach g R → ∀ d, FreshC g R d → d ≤ 10000000) ∧
  ∀ (R d j : Nat) (a : CvA) (rec : Addr) H', a.tv = tv → Cos K CV CC ST CO g R d j H0 H' x dx t a rec → Q .non H'
theorem ok_coI {k : Nat} (Z : TAll K mg CV CC ST fSt fVN fRl pRl fRd pRd fEx pEx fNot fTo fOpn fHol fAdd fClo fRch fKno fVal fCAt fCom dSt dVN dRl dRd dEx dNot dTo dOpn dHol dAdd dClo dRch dKno dVal dCAt dCom) (TO : TCo K mg CO CC fCvI fCoI fRep pRep fCos fCut dCvI dCoI dRep dCos dCut) (T : TX K mg C cI cU cP fI mc mp) (TQ : TP K C fP pP fdP) :
    FnOk P w K mg base CX0 (k + 9) fCoI dCoI ["self", "tariff", "travel"] (spCoI K C CV CC ST CO) := by
  have bV : Binds K dCvI ["self", "passes", "travel"] [] := TO.uCv.binds (ps := ["self", "passes", "travel"]) fun _ _ _ _ _ _ us hl => match us, hl with | [_, _, _], _ => rfl
  have bC : Binds K dCom ["self"] [] := Z.A.uC.binds (ps := ["self"]) fun _ _ _ _ _ _ us hl => match us, hl with | [_], _ => rfl
  refine TO.uCo.ok scCoI (fun vs H Q E h => ?_) (fun cdv A outer s H vs Q E hr h => ?_)
  · obtain ⟨x, dx, t, p, tv, g, dv, ov, H0, rfl, _⟩ := h
    rfl
  · obtain ⟨x, dx, t, p, tv, g, dv, ov, H0, rfl, hx, nx, s0, ht, ne, fewL, ok, l1, l2, htv, few, q⟩ := h
    refine ⟨_, pss_cons (ps_fld (pv 0) (pv 1) rfl) (pss_cons (ps_fld (pv 0) (pv 2) rfl)
      (pss_cut (ps_fld (pv 0) (pe_make (E := E0) TO.mkV (ok_cvI (k := 0) TO.uCv Z.T Z.TV Z.RR TO.uCut TO.gCut TO.kCut) (hr.mono (by omega)) (by rfl) Z.T.gC bV .nil pass0 (pa_cons (pe_passes TQ T.cl T.no (hr.mono (by omega)) (pv 1)) (pa_cons (pv 2) pa_nil))) rfl)
      (pss_one (ps_fld (pv 0) (pe_meth0 (pe_fld (pv 0) rfl) Z.T.cl Z.A.mC (ok_com (k := 0) Z) (hr.mono (by omega)) bC .nil pass0) rfl)))), ?_⟩
    refine ⟨_, rfl, _, rfl, x, CO, dx, [], rfl, hx, TO.cl, TO.nO, by decide, _, rfl, _, rfl, x, CO, dx, _, rfl, upd_same, TO.cl, TO.nT, show 1 < 1000 by decide, ?_⟩
    have s1 : Same H0 (upd (upd H x (.ins CO dx (putF "offer" (.ref t) []))) x (.ins CO dx (putF "trips" (.ref tv) (putF "offer" (.ref t) [])))) := same_put (same_put s0 nx) nx
    have x1 : (upd (upd H x (.ins CO dx (putF "offer" (.ref t) []))) x (.ins CO dx (putF "trips" (.ref tv) (putF "offer" (.ref t) [])))) x = some (.ins CO dx [("offer", .ref t), ("trips", .ref tv)]) := upd_same
    revert s1 x1
    generalize upd (upd H x (.ins CO dx (putF "offer" (.ref t) []))) x (.ins CO dx (putF "trips" (.ref tv) (putF "offer" (.ref t) []))) = H1
    intro s1 x1
    refine ⟨fun σ H' => σ = [some (.ref x), some (.ref t), some (.ref tv)] ∧ ∃ (cv dxc cu pp sts rec sn : Addr) (R : Nat), H' x = some (.ins CO dx [("offer", .ref t), ("trips", .ref tv), ("curve", .ref cv)]) ∧ Cvi K CV CC g R H0 H' cv dxc p tv cu pp sts rec sn, ?_, ?_⟩
    · obtain ⟨⟨dxt, hti⟩, pa⟩ := id (ht.same s1)
      obtain ⟨p', ws, ep, hp, hps⟩ := id pa
      cases ep
      obtain ⟨p0, ws0, ep0, hp0, hps0⟩ := id ht.2
      cases ep0
      refine ⟨_, rfl, t, dxt, _, rfl, hti, t, dxt, _, .ref p, rfl, hti, rfl, _, rfl, fun cv dxc ncv ndx nd => ?_⟩
      have sb : Same H1 (upd (upd H1 dxc (.own cv)) cv (.ins CC dxc [])) := born_ins ncv ndx
      refine ⟨cv, dxc, p, tv, ws, g, dv, ov, rfl, upd_same, (TK.same (K := K) sb) _ _ hp, hps.tk (.same sb), fewL, ne, ok, l1, l2, (htv.same s1).same sb, fun R cu pp sts rec sn H2 rc ka hcv hcu hpp nss hst hre => ⟨rfl, _, rfl, x, CO, dx, [("offer", .ref t), ("trips", .ref tv)], rfl, ?_, TO.cl, TO.nC, show 2 < 1000 by decide, rfl, cv, dxc, cu, pp, sts, rec, sn, R, upd_same, ?_⟩⟩
      · exact ka.back sb ncv _ _ x1
      · have s2 : Same H1 H2 := ka.back sb ncv
        have n : ∀ {y : Addr} {o : HO}, H2 y = some o → (∀ fs, o ≠ .ins CO dx fs) → ∀ u, (upd H2 x u) y = some o := fun {y o} e ne u => by
          rw [upd_ne (ne_of e (s2 _ _ x1) (ne _))]
          exact e
        have ncx : cv ≠ x := fun z => by rw [z, x1] at ncv; cases ncv
        refine ⟨same_put (s1.trans s2) nx, fresh_back s1 ncv, fresh_back (s1.trans sb) nss, ?_, n hcu (fun _ z => nomatch z) _, n hpp (fun _ z => nomatch z) _, n hst (fun _ z => nomatch z) _, n hre (fun _ z => nomatch z) _, ⟨dv, ov, htv⟩, ⟨ws0, hp0, hps0⟩, fewL, rc⟩
        rw [upd_ne ncx]
        exact hcv
    rintro σ H2 ⟨rfl, cv, dxc, cu, pp, sts, rec, sn, R, x2, c⟩
    have ncx : x ≠ cv := ne_of x2 c.icv (ins_ne (show (3 : Nat) ≠ 7 by decide))
    have nsx : x ≠ sts := ne_of x2 c.ists (fun z => nomatch z)
    have sH : Same H0 (less2 H2 cv sts) := same_less2 c.same c.ncv c.nss
    obtain ⟨ws0, hp0, hps0⟩ := c.pas
    have c' : Cvi K CV CC g R (less2 H2 cv sts) H2 cv dxc p tv cu pp sts rec sn := ⟨less2_same, if_pos (.inl rfl), if_pos (.inr rfl), c.icv, c.icu, c.ipp, c.ists, c.irec, ⟨dv, ov, htv.same sH⟩, ⟨ws0, (TK.same (K := K) sH) _ _ hp0, hps0.tk (.same sH)⟩, c.few, c.rc⟩
    have xl : (less2 H2 cv sts) x = some (.ins CO dx [("offer", .ref t), ("trips", .ref tv), ("curve", .ref cv)]) := by
      unfold less2
      rw [if_neg (fun z => z.elim ncx nsx)]
      exact x2
    refine ⟨_, rfl, x, CO, dx, _, _, rfl, x2, TO.cl, TO.nC, rfl, cv, dxc, _, rfl, c.icv, rfl, cv, dxc, p, tv, cu, pp, sts, rec, sn, g, R, less2 H2 cv sts, rfl, c', few R c.rc, fun a rec' d j H3 ea etv cd => ?_⟩
    have x3 := cd.b.same _ _ xl
    obtain ⟨etv, ep⟩ := etv
    have cd2 := (cd.older sH ⟨dv, ov, by rw [etv]; exact htv⟩ ⟨ws0, by rw [ep]; exact hp0, hps0⟩).put (o := .ins CO dx (coF t tv cv a.st)) nx x3 (show 3 < 6 by decide)
    refine ⟨_, rfl, x, CO, dx, _, rfl, x3, TO.cl, TO.nL, show 3 < 1000 by decide, ?_⟩
    exact q R d j a rec' _ etv ⟨by rw [upd_same, etv, ea]; rfl, nx, cd2⟩
def spRep (K : PySem.W.Frag) (CV CC ST CO : Addr) : Sp := fun vs H Q _ => ∃ (x dx t : Addr) (a : CvA) (rec : Addr) (g : Par) (R d j : Nat) (H0 : Hp), vs = [.ref x] ∧ Cos K CV CC ST CO g R d j H0 H x dx t a rec ∧
  ∀ (f : Nat) (r : Addr) H', f ≤ j → (∀ k, f ≤ k → cst g R (k + (d - j)) = cst g R k + (cst g R d - cst g R j)) → Same H H' → H' r = some (.tup [.int f, .int ((d : Int) - j), .int (cst g R d - cst g R j)]) → Q (.ref r) H'
theorem ok_rep {k : Nat} (Z : TAll K mg CV CC ST fSt fVN fRl pRl fRd pRd fEx pEx fNot fTo fOpn fHol fAdd fClo fRch fKno fVal fCAt fCom dSt dVN dRl dRd dEx dNot dTo dOpn dHol dAdd dClo dRch dKno dVal dCAt dCom) (TO : TCo K mg CO CC fCvI fCoI fRep pRep fCos fCut dCvI dCoI dRep dCos dCut) : FnOk P w K mg base CX0 (k + 2) fRep dRep ["self"] (spRep K CV CC ST CO) := by
  have TS := Z.TS
  have bV : Binds K dVal ["self", "count"] [] := Z.A.uV.binds (ps := ["self", "count"]) fun _ _ _ _ _ _ us hl => match us, hl with | [_, _], _ => rfl
  refine TO.uR.ok scRep (fun vs H Q E h => ?_) (fun cdv A outer s H vs Q E hr h => ?_)
  · obtain ⟨x, dx, t, a, rec, g, R, d, j, H0, rfl, _⟩ := h
    rfl
  · obtain ⟨x, dx, t, a, rec, g, R, d, j, H0, rfl, c, q⟩ := h
    refine ⟨_, pss_cons (ps_set (i := 1) scRep.nd rfl (.inl rfl) (pe_fld (pe_fld (pv 0) rfl) rfl))
      (pss_cons (ps_while PassesOwn.never (PW.pt (pw_and (pt_cmpR op_gt (pv 1) pe_int (nomark _)) (pw_and1 (pt_cmpR op_eq (pe_meth (pe_fld (pv 0) rfl) TS.cl Z.A.mV (ok_val (k := 0) Z.A.uV TS) (hr.mono (by omega)) bV .nil pass0 (pa_cons (pe_op op_add (pe_op op_sub (pe_op op_add (pe_fld (pe_fld (pv 0) rfl) rfl) (pv 1)) pe_int) (pe_fld (pe_fld (pv 0) rfl) rfl)) pa_nil)) (pe_op op_add (pe_meth (pe_fld (pv 0) rfl) TS.cl Z.A.mV (ok_val (k := 0) Z.A.uV TS) (hr.mono (by omega)) bV .nil pass0 (pa_cons (pe_op op_sub (pe_op op_add (pe_fld (pe_fld (pv 0) rfl) rfl) (pv 1)) pe_int) pa_nil)) (pe_fld (pe_fld (pv 0) rfl) rfl)) (nomark _)))))
        (pss_one (ps_aug (i := 1) scRep.nd rfl (.inl rfl) pe_int ip_sub)))
      (pss_one (ps_ret (pe_tup (pa_cons (pe_op op_add (pe_fld (pe_fld (pv 0) rfl) rfl) (pv 1)) (pa_cons (pe_fld (pe_fld (pv 0) rfl) rfl) (pa_cons (pe_fld (pe_fld (pv 0) rfl) rfl) pa_nil))))))), ?_⟩
    have lt := c.d.rep.lt
    have rc := c.d.b.rc
    have big := c.d.big
    have fl : ∀ {σ : L2.St} {H' : Hp} {h : Str} {v : V}, Same H H' → σ[0]? = some (some (.ref x)) → NoAttr K ST h → (stF a.tl j ((d : Int) - j) (cst g R d - cst g R j)).lookup h = some v → Ev (tFld K (tFld K (tVar 0) "last") h) σ H' v := fun {σ H' h v} s hs n hv => fld2_ev TO.cl TO.nL TS.cl n hs (c.s s).ix rfl (c.s s).d.ist hv
    refine q_asg (v := .int (j : Int)) (fl (Same.refl H) rfl TS.nS rfl) fun H1 e1 => ?_
    refine q_while (fun m σ' H' => ∃ f : Nat, m = f ∧ σ' = [some (.ref x), some (.int (f : Int))] ∧ f ≤ j ∧ (∀ k, f ≤ k → cst g R (k + (d - j)) = cst g R k + (cst g R d - cst g R j)) ∧ Same H H') j ⟨j, rfl, rfl, Nat.le_refl j, fun k hk => ?_, e1⟩ ?_
    · have := c.d.rep.next rc (k - j)
      rw [show d + (k - j) = k + (d - j) by omega, show j + (k - j) = k by omega] at this
      exact this
    rintro f σ' H' ⟨_, rfl, rfl, hf, per, s1⟩
    have val : ∀ (n : Nat) (te : TE), n ≤ 20000000 → Ev te [some (.ref x), some (.int (f : Int))] H' (.int (n : Int)) → Ev (tMeth ST "value" (spVal ST) [] E0 (tFld K (tVar 0) "last") (tCons te tNil)) [some (.ref x), some (.int (f : Int))] H' (.int (cst g R n)) := fun n te hn he H2 e2 Q2 q2 => by
      have c2 := c.s (s1.trans e2)
      refine ⟨_, rfl, x, CO, dx, _, _, rfl, c2.ix, TO.cl, TO.nL, rfl, a.st, a.dxs, _, rfl, c2.d.ist, rfl, he H2 e2 _ fun H3 e3 => ?_⟩
      have c3 := c2.s e3
      exact ⟨a.st, a.dxs, a.tl, g, R, d, j, n, rfl, c3.d.ist, c3.d.itl, rc, c3.d.rep, big, by omega, fun H4 s4 => q2 H4 (e3.trans s4)⟩
    refine ⟨decide (0 < (f : Int)) && decide (V.int (cst g R (f - 1 + (d - j))) = V.int (cst g R (f - 1) + (cst g R d - cst g R j))), et_and (et_test (ev_op (ev_var rfl) ev_c (rv_I0 (g := fun i j => .bl (decide (j < i)))))) (fun hb => ?_), fun hb H2 e2 => ?_, fun hb H2 e2 => ?_⟩
    · have f0 := of_decide_eq_true hb
      have eP : Ev (tOp (rI0 fun i j => .int (i - j)) (tOp (rI0 fun i j => .int (i + j)) (tFld K (tFld K (tVar 0) "last") "begin") (tVar 1)) (tC (.int 1))) [some (.ref x), some (.int (f : Int))] H' (.int ((f - 1 : Nat) : Int)) := ev_is (ev_op (ev_op (fl s1 rfl TS.nB rfl) (ev_var rfl) (rv_I0 (g := fun i j => .int (i + j)) (i := 0) (j := (f : Int)))) ev_c (rv_I0 (g := fun i j => .int (i - j)))) (by congr 1; omega)
      exact et_test (ev_op (val (f - 1 + (d - j)) _ (by omega) (ev_is (ev_op eP (fl s1 rfl TS.nD rfl) (rv_I0 (g := fun i j => .int (i + j)))) (by congr 1; omega))) (ev_op (val (f - 1) _ (by omega) eP) (fl s1 rfl TS.nG rfl) (rv_I0 (g := fun i j => .int (i + j)))) (rv_eq rfl))
    · rw [Bool.and_eq_true, decide_eq_true_eq, decide_eq_true_eq] at hb
      obtain ⟨f0, eq⟩ := hb
      have eq : cst g R (f - 1 + (d - j)) = cst g R (f - 1) + (cst g R d - cst g R j) := by injection eq
      refine ⟨fun σ2 H2 => ∃ m', m' < f ∧ ∃ f' : Nat, m' = f' ∧ σ2 = [some (.ref x), some (.int (f' : Int))] ∧ f' ≤ j ∧ (∀ k, f' ≤ k → cst g R (k + (d - j)) = cst g R k + (cst g R d - cst g R j)) ∧ Same H H2, fun _ _ z => z, ?_⟩
      refine ⟨_, rfl, _, _, rfl, rfl, f - 1, by omega, f - 1, rfl, ?_, by omega, fun k hk => ?_, s1.trans e2⟩
      · show _ = ([some (V.ref x), some (V.int ((f - 1 : Nat) : Int))] : L2.St)
        rw [show ((f - 1 : Nat) : Int) = (f : Int) - 1 by omega]
        rfl
      · by_cases e : k = f - 1
        · rw [e]
          exact eq
        · exact per k (by omega)
    · have s2 := s1.trans e2
      unfold tRet tTup tCons tNil
      refine (ev_op (fl s2 rfl TS.nB rfl) (ev_var rfl) (rv_I0 (g := fun i j => .int (i + j)) (i := 0) (j := (f : Int))) : Ev _ [some (.ref x), some (.int (f : Int))] H2 (.int (0 + (f : Int)))) H2 (Ex.refl _) _ fun H3 e3 => ?_
      have s3 := s2.trans e3
      refine fl s3 rfl TS.nD rfl H3 (Ex.refl _) _ fun H4 e4 => ?_
      have s4 := s3.trans e4
      refine fl s4 rfl TS.nG rfl H4 (Ex.refl _) _ fun H5 e5 => ?_
      refine ⟨Nat.le_of_lt (small1000 (show 3 ≤ 1000 by decide)), fun r nr => q f r _ hf per ((s4.trans e5).trans (same_new nr)) ?_⟩
      rw [upd_same, Int.zero_add]
end
end Sea

set_option Elab.async false
set_option linter.all false
set_option maxRecDepth 100000
set_option maxHeartbeats 4000000
/-! first_excess: the plain law -/
namespace Sea
open PySem PySem.Spec PyProof.Rows L2 LamX NdefX ClX Evl StX
theorem turns_of {F : Nat → Int} {s p : Nat} {c : Int} (h : ∀ x, s ≤ x → F (x + p) = F x + c) (x : Nat) (hx : s ≤ x) : ∀ m : Nat, F (x + m * p) = F x + m * c
  | 0 => by
    rw [Nat.zero_mul, Nat.add_zero]
    show _ = _ + (0 : Int) * c
    rw [Int.zero_mul, Int.add_zero]
  | m + 1 => by
    rw [Nat.succ_mul, ← Nat.add_assoc, h (x + m * p) (by omega), turns_of h x hx m, show ((m + 1 : Nat) : Int) = (m : Int) + 1 by omega, Int.add_mul, Int.one_mul, Int.add_assoc]
/-- from s on F grows by gr in p steps -/
structure Gro (F : Nat → Int) (s p : Nat) (gr : Int) : Prop where
  p0 : 0 < p
  per : ∀ x, s ≤ x → F (x + p) = F x + gr
section
variable {F : Nat → Int} {s p : Nat} {gr : Int}
theorem Gro.at (h : Gro F s p gr) {k : Nat} (hk : s ≤ k) : F k = F (s + (k - s) % p) + (((k - s) / p : Nat) : Int) * gr := by
  have e := turns_of h.per (s + (k - s) % p) (by omega) ((k - s) / p)
  rw [← e]
  congr 1
  have := Nat.mod_add_div (k - s) p
  rw [Nat.mul_comm] at this
  omega
theorem Gro.none (h : Gro F s p gr) (low : ∀ k, k < s + p → F k ≤ 0) (g0 : ¬ 0 < gr) (k : Nat) : F k ≤ 0 := by
  by_cases c : k < s + p
  · exact low k c
  · rw [h.at (show s ≤ k by omega)]
    have h1 := low (s + (k - s) % p) (by have := Nat.mod_lt (k - s) h.p0; omega)
    have h2 := Int.mul_nonneg (Int.natCast_nonneg ((k - s) / p)) (show 0 ≤ -gr by omega)
    rw [Int.mul_neg] at h2
    omega
/-- the first time that a later day like x comes to more than nothing -/
def lat (F : Nat → Int) (p : Nat) (gr : Int) (x : Nat) : Int := (x : Int) + ((0 - F x) / gr + 1) * p
theorem Gro.pos (h : Gro F s p gr) (g0 : 0 < gr) {k : Nat} (hk : s ≤ k) : 0 < F k ↔ lat F p gr (s + (k - s) % p) ≤ k := by
  rw [h.at hk]
  unfold lat
  have p0 := h.p0
  have e := Nat.mod_add_div (k - s) p
  generalize (k - s) / p = t at *
  generalize (k - s) % p = i at *
  have a : 0 < F (s + i) + (t : Int) * gr ↔ (0 - F (s + i)) / gr < t := by
    rw [Int.ediv_lt_iff_lt_mul g0]
    omega
  rw [a]
  have ek : (k : Int) = ((s + i : Nat) : Int) + (t : Int) * p := by
    rw [show (t : Int) * (p : Int) = ((p * t : Nat) : Int) by rw [Nat.mul_comm]; exact (Int.natCast_mul t p).symm]
    omega
  rw [ek]
  have b : (0 - F (s + i)) / gr < t ↔ (0 - F (s + i)) / gr + 1 ≤ (t : Int) := by omega
  rw [b]
  have c : ((0 - F (s + i)) / gr + 1) * (p : Int) ≤ (t : Int) * (p : Int) ↔ (0 - F (s + i)) / gr + 1 ≤ (t : Int) := Int.mul_le_mul_iff_of_pos_right (by omega)
  rw [← c]
  omega
theorem Gro.least (h : Gro F s p gr) (low : ∀ k, k < s + p → F k ≤ 0) (g0 : 0 < gr) {m : Int} (hm : m ∈ (List.range p).map fun i => lat F p gr (s + i)) (hl : ∀ x ∈ (List.range p).map (fun i => lat F p gr (s + i)), m ≤ x) : ∃ n : Nat, m = n ∧ 0 < F n ∧ ∀ k, k < n → F k ≤ 0 := by
  obtain ⟨i, hi, rfl⟩ := List.mem_map.mp hm
  have hi := List.mem_range.mp hi
  have q0 : 0 ≤ (0 - F (s + i)) / gr := Int.ediv_nonneg (by have := low (s + i) (by omega); omega) (by omega)
  obtain ⟨q, hq⟩ := Int.eq_ofNat_of_zero_le q0
  have e : lat F p gr (s + i) = ((s + i + (q + 1) * p : Nat) : Int) := by
    show ((s + i : Nat) : Int) + ((0 - F (s + i)) / gr + 1) * p = _
    rw [hq]
    rw [Int.natCast_add (s + i), Int.natCast_mul]
    rfl
  refine ⟨s + i + (q + 1) * p, e, ?_, fun k hk => ?_⟩
  · rw [h.pos g0 (by omega)]
    have e2 : (s + i + (q + 1) * p - s) % p = i := by
      rw [show s + i + (q + 1) * p - s = i + (q + 1) * p by omega, Nat.add_mul_mod_self_right, Nat.mod_eq_of_lt hi]
    rw [e2, e]
    exact Int.le_refl _
  · by_cases c : k < s
    · exact low k (by omega)
    · by_cases z : 0 < F k
      · rw [h.pos g0 (by omega)] at z
        have := hl _ (List.mem_map.mpr ⟨(k - s) % p, List.mem_range.mpr (Nat.mod_lt _ h.p0), rfl⟩)
        rw [e] at this
        omega
      · omega
end
/-- what a buyer spends above a multiple of the least cost -/
def exs (g : Par) (R : Nat) (nu de : Int) (x : Nat) : Int := de * (sim g x).2.2 - nu * cst g R x
theorem cst_range {g : Par} {R : Nat} (h : Reach g R) : ∀ n k : Nat, k ≤ n → 0 ≤ cst g R k ∧ cst g R k ≤ 1000000 * (k : Int)
  | 0, k, hk => by
    obtain rfl : k = 0 := by omega
    rw [cst_0 h.r1]
    omega
  | n + 1, k, hk => by
    by_cases e : k ≤ n
    · exact cst_range h n k e
    obtain rfl : k = n + 1 := by omega
    rw [cst_next h]
    by_cases c : goes g n = true
    · rw [if_pos c]
      obtain ⟨hm, _⟩ := least_in (l := g.L.map fun z => cAt g R ((n : Int) + 1 - z.1) + z.2) (by simp [h.ne])
      obtain ⟨z, hz, e⟩ := List.mem_map.mp hm
      rw [← e]
      have p1 := h.ok z hz
      have p2 := p1.2.2.1
      have p3 := p1.2.2.2
      have p4 := p1.1
      have b : 0 ≤ cAt g R ((n : Int) + 1 - z.1) ∧ cAt g R ((n : Int) + 1 - z.1) ≤ 1000000 * (n : Int) := by
        unfold cAt
        by_cases c2 : 0 ≤ (n : Int) + 1 - z.1
        · rw [if_pos c2]
          have := cst_range h n ((n : Int) + 1 - z.1).toNat (by omega)
          omega
        · rw [if_neg c2]
          omega
      omega
    · rw [if_neg c]
      have := cst_range h n n (Nat.le_refl n)
      omega
theorem sim_range {g : Par} {I : List Int → Prop} (o : g.Ok I) : ∀ n, 0 ≤ (sim g n).2.2 ∧ (sim g n).2.2 ≤ 1000000 * (n : Int)
  | 0 => ⟨Int.le_refl 0, Int.le_refl 0⟩
  | n + 1 => by
    have := sim_range o n
    have := stp_up o n
    omega
theorem exs_range {g : Par} {I : List Int → Prop} (o : g.Ok I) {R : Nat} (h : Reach g R) {nu de : Int} (n1 : 1 ≤ nu) (n2 : nu ≤ 1000) (d1 : 1 ≤ de) (d2 : de ≤ 1000) (x : Nat) : -(1000000000 * (x : Int)) ≤ exs g R nu de x ∧ exs g R nu de x ≤ 1000000000 * (x : Int) := by
  obtain ⟨a1, a2⟩ := sim_range o x
  obtain ⟨b1, b2⟩ := cst_range h x x (Nat.le_refl x)
  unfold exs
  have m1 := Int.mul_le_mul d2 a2 a1 (by omega)
  have m2 := Int.mul_le_mul n2 b2 b1 (by omega)
  have m3 := Int.mul_nonneg (show 0 ≤ de by omega) a1
  have m4 := Int.mul_nonneg (show 0 ≤ nu by omega) b1
  omega
/-- two rows that repeat, taken together -/
theorem Gro.both {T C : Nat → Int} {k f P D : Nat} {a b nu de : Int} (hT : ∀ x, k ≤ x → T (x + P) = T x + a) (hC : ∀ x, f ≤ x → C (x + D) = C x + b) (P0 : 0 < P) (D0 : 0 < D) (s : Nat) (hk : k ≤ s) (hf : f ≤ s) :
    Gro (fun x => de * T x - nu * C x) s (D / Nat.gcd D P * P) (de * a * ((D / Nat.gcd D P : Nat) : Int) - nu * b * ((P / Nat.gcd D P : Nat) : Int)) := by
  have g0 : 0 < Nat.gcd D P := Nat.gcd_pos_of_pos_left P D0
  have e : D / Nat.gcd D P * P = P / Nat.gcd D P * D := by
    obtain ⟨u, hu⟩ := Nat.gcd_dvd_left D P
    obtain ⟨v, hv⟩ := Nat.gcd_dvd_right D P
    generalize Nat.gcd D P = c at *
    rw [hu, hv, Nat.mul_div_cancel_left _ g0, Nat.mul_div_cancel_left _ g0, Nat.mul_left_comm, Nat.mul_comm u v, Nat.mul_left_comm]
  refine ⟨Nat.mul_pos (Nat.div_pos (Nat.le_of_dvd D0 (Nat.gcd_dvd_left D P)) g0) P0, fun x hx => ?_⟩
  have t := turns_of hT x (by omega) (D / Nat.gcd D P)
  have c := turns_of hC x (by omega) (P / Nat.gcd D P)
  rw [← e] at c
  show de * T _ - nu * C _ = _
  rw [t, c, Int.mul_add, Int.mul_add, Int.mul_assoc de, Int.mul_assoc nu, Int.mul_comm a, Int.mul_comm b]
  omega
theorem lcm_div {D P : Nat} (P0 : 0 < P) (D0 : 0 < D) : D / Nat.gcd D P * P / P = D / Nat.gcd D P ∧ D / Nat.gcd D P * P / D = P / Nat.gcd D P := by
  have g0 : 0 < Nat.gcd D P := Nat.gcd_pos_of_pos_left P D0
  have e : D / Nat.gcd D P * P = P / Nat.gcd D P * D := by
    obtain ⟨u, hu⟩ := Nat.gcd_dvd_left D P
    obtain ⟨v, hv⟩ := Nat.gcd_dvd_right D P
    generalize Nat.gcd D P = c at *
    rw [hu, hv, Nat.mul_div_cancel_left _ g0, Nat.mul_div_cancel_left _ g0, Nat.mul_left_comm, Nat.mul_comm u v, Nat.mul_left_comm]
  exact ⟨Nat.mul_div_cancel _ P0, by rw [e, Nat.mul_div_cancel _ D0]⟩
end Sea

set_option Elab.async false
set_option linter.all false
set_option maxRecDepth 100000
set_option maxHeartbeats 4000000
/-! class Costs: cost; first_excess -/
namespace Sea
open PySem PySem.Spec PyProof.Rows L2 LamX NdefX ClX Evl StX
abbrev NFe : List Str := ["buyer", "travel", "numerator", "denominator", "spending", "costs", "first", "days", "price", "start", "period", "growth", "later", "count", "excess"]
theorem scFe : FnScope NFe ["buyer", "travel", "numerator", "denominator"] (defScope sFe) := ⟨rfl, rfl, rfl, by decide +kernel, rfl, by decide +kernel, by decide +kernel⟩
theorem ev_max2 {ta tb : TE} {σ : L2.St} {H : Hp} {i j : Int} (h1 : Ev ta σ H (.int i)) (h2 : Ev tb σ H (.int j)) : Ev (tCB (fun xs H Q => ∃ i j, xs = [V.int i, .int j] ∧ Q (.int (if j > i then j else i)) H) (tCons ta (tCons tb tNil))) σ H (.int (if j > i then j else i)) := fun H1 e Q q =>
  h1 H1 e _ fun H2 e2 => h2 H2 (e.trans e2) _ fun H3 e3 => ⟨i, j, rfl, q H3 (e2.trans e3)⟩
theorem ev_cd {ta tb : TE} {σ : L2.St} {H : Hp} {a b : Int} (h1 : Ev ta σ H (.int a)) (h2 : Ev tb σ H (.int b)) (a0 : 0 ≤ a) (b0 : 0 ≤ b) : Ev (tCall spCd [] E0 (tCons ta (tCons tb tNil))) σ H (.int (Int.gcd a b : Nat)) := fun H1 e Q q =>
  h1 H1 e _ fun H2 e2 => h2 H2 (e.trans e2) _ fun H3 e3 => ⟨a, b, rfl, a0, b0, fun H4 s4 => q H4 ((e2.trans e3).trans s4)⟩
section
variable {P : Program} {w : World} {K : PySem.W.Frag} {mg : Str → Option Value} {base : Heap} {C D S CV CC ST CO cV cI cU cP cN fV fI fP pP fSt fVN fRl pRl fRd pRd fEx pEx fNot fTo fOpn fHol fAdd fClo fRch fKno fVal fCAt fCom fCvI fCoI fRep pRep fCos fCut fSI fSd fTa fVC fCd : Addr} {mc mp : Value} {fdV fdP dVC dSt dVN dRl dRd dEx dNot dTo dOpn dHol dAdd dClo dRch dKno dVal dCAt dCom dCvI dCoI dRep dCos dCut dSI dSd dTa dCd : FuncData}
def spCos (K : PySem.W.Frag) (CV CC ST CO : Addr) : Sp := fun vs H Q _ => ∃ (x dx t : Addr) (a : CvA) (rec : Addr) (g : Par) (R d j n : Nat) (H0 : Hp), vs = [.ref x, .int n] ∧ Cos K CV CC ST CO g R d j H0 H x dx t a rec ∧ n ≤ 1000000000000000000 ∧ ∀ H', Same H H' → Q (.int (cst g R n)) H'
theorem ok_cos {k : Nat} (Z : TAll K mg CV CC ST fSt fVN fRl pRl fRd pRd fEx pEx fNot fTo fOpn fHol fAdd fClo fRch fKno fVal fCAt fCom dSt dVN dRl dRd dEx dNot dTo dOpn dHol dAdd dClo dRch dKno dVal dCAt dCom) (TO : TCo K mg CO CC fCvI fCoI fRep pRep fCos fCut dCvI dCoI dRep dCos dCut) (Y : TSd K mg S fSI fSd fTa fVC cN dSI dSd dTa dVC) : FnOk P w K mg base (L2.CX P w) (k + 9) fCos dCos ["self", "count"] (spCos K CV CC ST CO) := by
  have bC : Binds K dVC ["count", "smallest", "largest"] [] := Y.uVC.binds (ps := ["count", "smallest", "largest"]) fun _ _ _ _ _ _ us hl => match us, hl with | [_, _, _], _ => rfl
  have bA : Binds K dCAt ["self", "count"] [] := Z.A.uA.binds (ps := ["self", "count"]) fun _ _ _ _ _ _ us hl => match us, hl with | [_, _], _ => rfl
  refine TO.uC.okX scCos (fun vs H Q E h => ?_) (fun cdv A outer s H vs Q E hr h => ?_)
  · obtain ⟨x, dx, t, a, rec, g, R, d, j, n, H0, rfl, _⟩ := h
    rfl
  · obtain ⟨x, dx, t, a, rec, g, R, d, j, n, H0, rfl, c, n18, q⟩ := h
    have PX : Passes (L2.CX P w) (cxOf (L2.CX P w) P w K mg base ["self", "count"] "Costs.cost" (defScope sCos) fCos cdv A outer s H E) E := passes_call (takes_of rfl rfl rfl rfl) (fun _ _ _ _ h => h)
    refine ⟨_, pss_cons (ps_expr (pe_call (E := E) (ok_vc (k := 0) Y.uVC Y.nc) (hr.mono (by omega)) (by rfl) Y.gVC Y.kVC bC .nil PX (pa_cons (pv 1) (pa_cons pe_int (pa_cons (C8.pe_gc (by rfl) Y.mD) pa_nil)))))
      (pss_one (ps_ret (pe_meth (pe_fld (pv 0) rfl) Z.T.cl Z.A.mA (ok_cAt (k := 0) Z) (hr.mono (by omega)) bA .nil pass0 (pa_cons (pv 1) pa_nil)))), ?_⟩
    refine ⟨_, rfl, (n : Int), 0, 1000000000000000000, rfl, fun _ H1 s1 => ?_, fun hc => absurd ⟨by omega, by omega⟩ hc⟩
    have c1 := c.s s1
    refine ⟨_, rfl, x, CO, dx, _, _, rfl, c1.ix, TO.cl, TO.nC, rfl, a.cv, a.dx, _, rfl, c1.d.b.icv, rfl, _, rfl, a, rec, g, R, d, j, n, H0, rfl, c1.d, by omega, fun H2 s2 => q H2 (Same.trans s1 s2)⟩
/-- what first_excess leans on -/
structure TFe (K : PySem.W.Frag) (mg : Str → Option Value) (CO fCoI fCos : Addr) : Prop where
  mkO : Mk K CO fCoI
  mF : ∃ u, mg "MAX_FACTOR" = some u ∧ RelV (.int 1000) u
  mR : mg "range" = none
  mM : mg "min" = none
def spFe (K : PySem.W.Frag) (CV : Addr) (B : BuyP) (I : By → List Int → Prop) : Sp := fun vs H Q _ => ∃ (b tv : Addr) (g : Par) (nu de : Int) (bC bS : Nat), vs = [.ref b, .ref tv, .int nu, .int de] ∧ Deal K CV B I g [] H b tv ∧ 1 ≤ nu ∧ nu ≤ 1000 ∧ 1 ≤ de ∧ de ≤ 1000 ∧
  bC * bS ≤ 10000000 ∧ bC ≤ 5000000 ∧ bS ≤ 5000000 ∧ (∀ d, Fresh g d → d ≤ bS) ∧ (∀ R, Reach g R → ∀ d, FreshC g R d → d ≤ bC) ∧
  ∀ R, Reach g R → (∀ (n : Nat) H', Same H H' → 0 < exs g R nu de n → (∀ k, k < n → exs g R nu de k ≤ 0) → Q (.int n) H') ∧ ((∀ k, exs g R nu de k ≤ 0) → ∀ H', Same H H' → Q .non H')
theorem ok_fe {f : Addr} {fd : FuncData} (F : Fun K "first_excess" "first_excess" sFe f fd) (Z : TAll K mg CV CC ST fSt fVN fRl pRl fRd pRd fEx pEx fNot fTo fOpn fHol fAdd fClo fRch fKno fVal fCAt fCom dSt dVN dRl dRd dEx dNot dTo dOpn dHol dAdd dClo dRch dKno dVal dCAt dCom) (TO : TCo K mg CO CC fCvI fCoI fRep pRep fCos fCut dCvI dCoI dRep dCos dCut) (X : TFe K mg CO fCoI fCos)
    (SP : TSg K mg S) (T : TX K mg C cI cU cP fI mc mp) (TQ : TP K C fP pP fdP) (N : Kind P w K mg base C D) (EV : TEv K mg cV cP fV fdV mp) (Y : TSd K mg S fSI fSd fTa fVC cN dSI dSd dTa dVC) (ZC : TCd K mg fCd dCd) :
    FnOk P w K mg base (L2.CX P w) 12 f fd ["buyer", "travel", "numerator", "denominator"] (spFe K CV N.B N.I) := by
  have G1 : FnOk P w K mg base (L2.CX P w) 5 fSI dSI ["self", "buyer", "travel"] (spSpI K S CV cV N.B N.I) := ok_spI Y.uSI SP T TQ N Z.TV Z.RR EV
  have b1 : Binds K dSI ["self", "buyer", "travel"] [] := Y.uSI.binds (ps := ["self", "buyer", "travel"]) fun _ _ _ _ _ _ us hl => match us, hl with | [_, _, _], _ => rfl
  have b2 : Binds K dVC ["count", "smallest", "largest"] [] := Y.uVC.binds (ps := ["count", "smallest", "largest"]) fun _ _ _ _ _ _ us hl => match us, hl with | [_, _, _], _ => rfl
  have b3 : Binds K dTa ["self", "count"] [] := Y.uTa.binds (ps := ["self", "count"]) fun _ _ _ _ _ _ us hl => match us, hl with | [_, _], _ => rfl
  have b4 : Binds K dCoI ["self", "tariff", "travel"] [] := TO.uCo.binds (ps := ["self", "tariff", "travel"]) fun _ _ _ _ _ _ us hl => match us, hl with | [_, _, _], _ => rfl
  have b5 : Binds K dRep ["self"] [] := TO.uR.binds (ps := ["self"]) fun _ _ _ _ _ _ us hl => match us, hl with | [_], _ => rfl
  have b6 : Binds K dCos ["self", "count"] [] := TO.uC.binds (ps := ["self", "count"]) fun _ _ _ _ _ _ us hl => match us, hl with | [_, _], _ => rfl
  have b7 : Binds K dCd ["one", "other"] [] := ZC.uCd.binds (ps := ["one", "other"]) fun _ _ _ _ _ _ us hl => match us, hl with | [_, _], _ => rfl
  refine F.okX scFe (fun vs H Q E h => ?_) (fun cdv A outer s H vs Q E hr h => ?_)
  · obtain ⟨b, tv, g, nu, de, bC, bS, rfl, _⟩ := h
    rfl
  · obtain ⟨b, tv, g, nu, de, bC, bS, rfl, dl, n1, n2, d1, d2, bb, bC2, bS2, fewS, fewC, q⟩ := h
    have PX : Passes (L2.CX P w) (cxOf (L2.CX P w) P w K mg base NFe "first_excess" (defScope sFe) f cdv A outer s H E) E := passes_call (takes_of rfl rfl rfl rfl) (fun _ _ _ _ h => h)
    refine ⟨_, pss_cut (ps_set (i := 4) scFe.nd rfl (.inl rfl) (pe_make (E := E) Y.mkS G1 (hr.mono (by omega)) (by rfl) SP.gS b1 .nil PX (pa_cons (pv 0) (pa_cons (pv 1) pa_nil))))
      (pss_cons (ps_expr (pe_call (E := E) (ok_vc (k := 0) Y.uVC Y.nc) (hr.mono (by omega)) (by rfl) Y.gVC Y.kVC b2 .nil PX (pa_cons (pv 2) (pa_cons pe_int (pa_cons (C8.pe_gc (by rfl) X.mF) pa_nil)))))
      (pss_cons (ps_expr (pe_call (E := E) (ok_vc (k := 0) Y.uVC Y.nc) (hr.mono (by omega)) (by rfl) Y.gVC Y.kVC b2 .nil PX (pa_cons (pv 3) (pa_cons pe_int (pa_cons (C8.pe_gc (by rfl) X.mF) pa_nil)))))
      (pss_cut (ps_set (i := 5) scFe.nd rfl (.inl rfl) (pe_make (E := E0) X.mkO (ok_coI (k := 0) Z TO T TQ) (hr.mono (by omega)) (by rfl) TO.gC b4 .nil pass0 (pa_cons (pe_prop (pv 0) N.cl N.prT N.oT (hr.mono (by omega)) N.bT .nil pass0 rfl) (pa_cons (pv 1) pa_nil))))
      (pss_cut (ps_asg (pe_prop (pv 5) TO.cl TO.pR (ok_rep (k := 0) Z TO) (hr.mono (by omega)) b5 .nil pass0 rfl) (pg_tup rfl (pgs_cons (pg_name (i := 6) scFe.nd rfl (.inl rfl)) (pgs_cons (pg_name (i := 7) scFe.nd rfl (.inl rfl)) (pgs_cons (pg_name (i := 8) scFe.nd rfl (.inl rfl)) pgs_nil)))))
      (pss_cons (ps_set (i := 9) scFe.nd rfl (.inl rfl) (pe_callB (call_max2 rfl) (by rfl) SP.mX (by decide +kernel) (pa_cons (pv 6) (pa_cons (pe_fld (pv 4) rfl) pa_nil))))
      (pss_cons (ps_set (i := 10) scFe.nd rfl (.inl rfl) (pe_op op_mul (pe_op op_fdivW (pv 7) (pe_call (E := E0) (ok_cd (k := 0) ZC.uCd SP.mI) (hr.mono (by omega)) (by rfl) ZC.gCd ZC.kCd b7 .nil pass0 (pa_cons (pv 7) (pa_cons (pe_fld (pv 4) rfl) pa_nil)))) (pe_fld (pv 4) rfl)))
      (pss_cons (ps_set (i := 11) scFe.nd rfl (.inl rfl) (pe_op op_sub (pe_op op_mul (pe_op op_mul (pv 3) (pe_fld (pv 4) rfl)) (pe_op op_fdivW (pv 10) (pe_fld (pv 4) rfl))) (pe_op op_mul (pe_op op_mul (pv 2) (pv 8)) (pe_op op_fdivW (pv 10) (pv 7)))))
      (pss_cut (ps_set (i := 12) scFe.nd rfl (.inl rfl) (pe_lst pa_nil))
      (pss_cut (ps_for (passes_of rfl) rfl (pi_range1 (by rfl) X.mR (pa_cons (pe_op op_add (pv 9) (pv 10)) pa_nil)) (pg_name (i := 13) scFe.nd rfl (.inl rfl))
        (pss_cons (ps_set (i := 14) scFe.nd rfl (.inl rfl) (pe_op op_sub (pe_op op_mul (pv 3) (pe_meth (pv 4) SP.cl Y.mTa (ok_ta (j := 0) Y.uTa SP Y.mSd Y.uSd) (hr.mono (by omega)) b3 .nil pass0 (pa_cons (pv 13) pa_nil))) (pe_op op_mul (pv 2) (pe_meth (E := E) (pv 5) TO.cl TO.mC (ok_cos (k := 0) Z TO Y) (hr.mono (by omega)) b6 .nil PX (pa_cons (pv 13) pa_nil)))))
        (pss_cons (ps_if (pt_cmpR op_gt (pv 14) pe_int (nomark _)) (pss_one (ps_ret (pv 13))) pss_nil)
        (pss_one (ps_if (PW.pt (pw_and (pt_cmpR op_ge (pv 13) (pv 9) (nomark _)) (pw_and1 (pt_cmpR op_gt (pv 11) pe_int (nomark _)))))
          (pss_one (ps_expr (pe_bm PySem.F.plainAttrs_list PySem.F.slot_list_append PySem.F.type_list_append mt_append (pv 12) (pa_cons (pe_op op_add (pv 13) (pe_op op_mul (pe_op op_add (pe_op op_fdivW (pe_op op_sub pe_int (pv 14)) (pv 11)) pe_int) (pv 10))) pa_nil)))) pss_nil)))))
      (pss_one (ps_ret (pe_ifExp (pt_cmpR (op_neD hr.units) (pv 12) (pe_lst pa_nil) (nomark _)) (pe_callB (cr_min rfl) (by rfl) X.mM (by decide +kernel) (pa_cons (pv 12) pa_nil)) pe_non)))))))))))), ?_⟩
    have lt : ∀ {n : Nat}, n ≤ 1000 → n ≤ sizeLine := fun h => Nat.le_of_lt (small1000 h)
    have ok := dl.ok
    obtain ⟨dv, ov, htv⟩ := dl.tv
    have ne : g.L ≠ [] := fun z => by
      have := (ok.b.ch _ ok.b.beg).1
      rw [z] at this
      have h0 := this.1
      have h1 : (g.b.ch g.b.beg).1 < ((([] : List (Int × Int)).length : Nat) : Int) := this.2
      have h2 : ((([] : List (Int × Int)).length : Nat) : Int) = 0 := rfl
      omega
    -- Spending
    refine ⟨fun σ H' => ∃ (a dxa tl bd : Addr) (d k : Nat) (kvs : List (Key × V)), σ = [some (.ref b), some (.ref tv), some (.int nu), some (.int de), some (.ref a), none, none, none, none, none, none, none, none, none, none] ∧ Same H H' ∧ Found g S H' a dxa tl bd d k kvs, ?_, ?_⟩
    · refine ⟨_, rfl, _, rfl, fun a dxa nx ndx _ => ?_⟩
      exact mkS_in N dl nx ndx (fun _ tl bd d k kvs H1 s1 fo => ⟨rfl, a, dxa, tl, bd, d, k, kvs, rfl, s1, fo⟩) (fun z => absurd rfl z)
    rintro σ H1 ⟨a, dxa, tl, bd, d, k, kvs, rfl, s1, fo1⟩
    refine ⟨_, rfl, nu, 1, 1000, rfl, fun _ H2 s2 => ⟨_, rfl, de, 1, 1000, rfl, fun _ H3 s3 => ?_, fun hc => absurd ⟨d1, d2⟩ hc⟩, fun hc => absurd ⟨n1, n2⟩ hc⟩
    have s13 : Same H H3 := (s1.trans s2).trans s3
    have fo3 := (fo1.same s2).same s3
    clear fo1 s1 s2 s3
    -- Costs
    refine ⟨fun σ H' => ∃ (x dxo t : Addr) (ca : CvA) (rec : Addr) (R d' j : Nat), σ = [some (.ref b), some (.ref tv), some (.int nu), some (.int de), some (.ref a), some (.ref x), none, none, none, none, none, none, none, none, none] ∧ Cos K CV CC ST CO g R d' j H3 H' x dxo t ca rec, ?_, ?_⟩
    · have hb3 := N.same dl.bu s13
      obtain ⟨dxb, fsb, t, p, hbi, _, lko, _, _, _, tar⟩ := N.at_ hb3
      refine ⟨.ref b, rfl, b, dxb, fsb, rfl, hbi, b, dxb, fsb, .ref t, rfl, hbi, lko, .ref tv, rfl, fun x dxo nx ndx nd => ?_⟩
      refine ⟨x, dxo, t, p, tv, g, dv, ov, H3, rfl, upd_same, nx, born_ins nx ndx, tar, ne, dl.lL, ok.ok, ok.l1, ok.l2, htv.same s13, fun R hR d hd => Nat.le_trans (fewC R hR d hd) (by omega), fun R d' j ca rec H' _ c => ⟨rfl, x, dxo, t, ca, rec, R, d', j, rfl, c⟩⟩
    rintro σ H4 ⟨x, dxo, t, ca, rec, R, d', j, rfl, c4⟩
    have rc := c4.d.b.rc
    have q := q R rc
    have few1 := fewC R rc d' c4.d.rep.fr
    have few2 := fewS d fo3.rep.1
    have lt1 := c4.d.rep.lt
    have lt2 := fo3.rep.2.1
    have s34 : Same H3 H4 := c4.d.b.same
    have fo4 := fo3.same s34
    have s14 := s13.trans s34
    -- what repeats
    refine ⟨fun σ H' => ∃ f : Nat, σ = [some (.ref b), some (.ref tv), some (.int nu), some (.int de), some (.ref a), some (.ref x), some (.int (f : Int)), some (.int ((d' : Int) - j)), some (.int (cst g R d' - cst g R j)), none, none, none, none, none, none] ∧ f ≤ j ∧ (∀ k, f ≤ k → cst g R (k + (d' - j)) = cst g R k + (cst g R d' - cst g R j)) ∧ Same H4 H', ?_, ?_⟩
    · refine ⟨_, rfl, x, dxo, _, rfl, c4.ix, x, dxo, t, ca, rec, g, R, d', j, H3, rfl, c4, fun f r H5 hf per s5 hr5 => ⟨r, _, rfl, .of hr5, rfl, _, _, rfl, _, _, rfl, _, _, rfl, rfl, f, rfl, hf, per, s5⟩⟩
    rintro σ H5 ⟨f, rfl, hf, per, s45⟩
    have fo5 := fo4.same s45
    have c5 := c4.s s45
    have s15 := s14.trans s45
    clear fo4 c4 fo3
    have perT : ∀ y, k ≤ y → (sim g (y + (d - k))).2.2 = (sim g y).2.2 + ((sim g d).2.2 - (sim g k).2.2) := fun y hy => by
      have := (key_far ok fo5.rep.2.2 (y - k)).2
      rw [show k + (y - k) = y by omega, show d + (y - k) = y + (d - k) by omega] at this
      omega
    have bound := exs_range ok rc n1 n2 d1 d2
    generalize hG : (sim g d).2.2 - (sim g k).2.2 = G at *
    generalize hpr : cst g R d' - cst g R j = pr at *
    have eD : ((d' : Int) - j) = ((d' - j : Nat) : Int) := by omega
    have eP : ((d : Int) - k) = ((d - k : Nat) : Int) := by omega
    rw [eD]
    have D0 : 0 < d' - j := by omega
    have P0 : 0 < d - k := by omega
    have gro := Gro.both (T := fun y => (sim g y).2.2) (C := fun y => cst g R y) (nu := nu) (de := de) perT per P0 D0 (if k > f then k else f) (by split <;> omega) (by split <;> omega)
    have ld := lcm_div P0 D0
    have bD : d' - j ≤ bC := by omega
    have bP : d - k ≤ bS := by omega
    have S5 : (if k > f then k else f) ≤ 5000000 := by split <;> omega
    have fl : ∀ {σ : L2.St} {H' : Hp} {h : Str} {v : V}, Same H5 H' → σ[4]? = some (some (.ref a)) → NoAttr K S h → (spF tl bd k ((d : Int) - k) ((sim g d).2.2 - (sim g k).2.2)).lookup h = some v → Ev (tFld K (tVar 4) h) σ H' v := fun {σ H' h v} s hs n hv => fld_ev SP.cl n hs (s _ _ fo5.ia) hv
    rw [hG, eP] at fl
    have ePmax : (if (k : Int) > (f : Int) then (k : Int) else (f : Int)) = (((if k > f then k else f) : Nat) : Int) := by
      by_cases e : k > f
      · rw [if_pos e, if_pos (by omega)]
      · rw [if_neg e, if_neg (by omega)]
    generalize (if k > f then k else f) = S0 at *
    generalize hDn : d' - j = Dn at *
    generalize hPn : d - k = Pn at *
    have gcd0 : 0 < Nat.gcd Dn Pn := Nat.gcd_pos_of_pos_left Pn D0
    have q1 : Dn / Nat.gcd Dn Pn ≤ Dn := Nat.div_le_self _ _
    have q2 : Pn / Nat.gcd Dn Pn ≤ Pn := Nat.div_le_self _ _
    have PPle : Dn / Nat.gcd Dn Pn * Pn ≤ 10000000 := Nat.le_trans (Nat.mul_le_mul q1 (Nat.le_refl Pn)) (Nat.le_trans (Nat.mul_le_mul bD bP) bb)
    have g2 : Nat.gcd Dn Pn ≤ Pn := Nat.gcd_le_right _ P0
    have lg : ∀ {n : Nat}, 0 < n → n ≤ 10000000 → ((n : Nat) : Int).natAbs.log2 < 9000 := fun {n} h0 h => Nat.lt_trans ((Nat.log2_lt (show ((n : Nat) : Int).natAbs ≠ 0 by omega)).mpr (show _ < 2 ^ 27 by omega)) (show 27 < 9000 by decide)
    have nat_div : ∀ m n : Nat, ((m : Nat) : Int) / ((n : Nat) : Int) = ((m / n : Nat) : Int) := fun m n => rfl
    have gcd_nat : Int.gcd (Dn : Int) (Pn : Int) = Nat.gcd Dn Pn := rfl
    generalize hU : Dn / Nat.gcd Dn Pn = U at *
    generalize hV : Pn / Nat.gcd Dn Pn = W at *
    -- start, period, growth
    refine q_asg (v := .int (S0 : Int)) (ev_is (ev_max2 (ev_var rfl) (fl (Same.refl H5) rfl SP.nS rfl)) (by rw [ePmax])) fun H6 e6 => ?_
    have e6 : Same H5 H6 := e6
    refine q_asg (v := .int ((U * Pn : Nat) : Int)) (ev_is (ev_op (ev_op (ev_var rfl) (ev_cd (ev_var rfl) (fl e6 rfl SP.nP rfl) (by omega) (by omega)) (rv_I (C := CDivW) (g := fun i j => .int (i / j)) (i := (Dn : Int)) (j := ((Int.gcd (Dn : Int) (Pn : Int) : Nat) : Int)) ⟨by rw [gcd_nat]; omega, by rw [gcd_nat]; exact lg gcd0 (by omega)⟩)) (fl e6 rfl SP.nP rfl) (rv_I (C := CMul) (g := fun i j => .int (i * j)) (.inr ⟨by omega, by omega⟩))) (by rw [gcd_nat, nat_div, hU, Int.natCast_mul])) fun H7 e7 => ?_
    have e7 : Same H5 H7 := e6.trans e7
    have ed1 : ((U * Pn : Nat) : Int) / (Pn : Int) = ((U : Nat) : Int) := by rw [nat_div, ld.1]
    have ed2 : ((U * Pn : Nat) : Int) / (Dn : Int) = ((W : Nat) : Int) := by rw [nat_div, ld.2]
    have m1 : ((U : Nat) : Int) ≤ 10000000 := by omega
    have m2 : ((W : Nat) : Int) ≤ 10000000 := by omega
    refine q_asg (v := .int (de * G * ((U : Nat) : Int) - nu * pr * ((W : Nat) : Int))) (ev_is (ev_op (ev_op (ev_op (ev_var rfl) (fl e7 rfl SP.nG rfl) (rv_I (C := CMul) (g := fun i j => .int (i * j)) (.inl ⟨by omega, by omega⟩))) (ev_op (ev_var rfl) (fl e7 rfl SP.nP rfl) (rv_I (C := CDivW) (g := fun i j => .int (i / j)) (i := ((U * Pn : Nat) : Int)) (j := (Pn : Int)) ⟨by omega, lg P0 (by omega)⟩)) (rv_I (C := CMul) (g := fun i j => .int (i * j)) (.inr ⟨by rw [ed1]; omega, by rw [ed1]; omega⟩))) (ev_op (ev_op (ev_var rfl) (ev_var rfl) (rv_I (C := CMul) (g := fun i j => .int (i * j)) (i := nu) (j := pr) (.inl ⟨by omega, by omega⟩))) (ev_op (ev_var rfl) (ev_var rfl) (rv_I (C := CDivW) (g := fun i j => .int (i / j)) (i := ((U * Pn : Nat) : Int)) (j := (Dn : Int)) ⟨by omega, lg D0 (by omega)⟩)) (rv_I (C := CMul) (g := fun i j => .int (i * j)) (.inr ⟨by rw [ed2]; omega, by rw [ed2]; omega⟩))) (rv_I0 (g := fun i j => .int (i - j)))) (by rw [ed1, ed2])) fun H8 e8 => ?_
    have e8 : Same H5 H8 := e7.trans e8
    have p0 := gro.p0
    have GGle : de * G * ((U : Nat) : Int) - nu * pr * ((W : Nat) : Int) < 2 ^ 63 := by
      have a := gro.per S0 (Nat.le_refl S0)
      have b1 := bound S0
      have b2 := bound (S0 + U * Pn)
      unfold exs at b1 b2
      have a : de * (sim g (S0 + U * Pn)).2.2 - nu * cst g R (S0 + U * Pn) = de * (sim g S0).2.2 - nu * cst g R S0 + (de * G * ((U : Nat) : Int) - nu * pr * ((W : Nat) : Int)) := a
      omega
    generalize de * G * ((U : Nat) : Int) - nu * pr * ((W : Nat) : Int) = GG at *
    generalize U * Pn = PP at *
    have gro : Gro (exs g R nu de) S0 PP GG := gro
    -- later
    have c8 := c5.s e8
    have fo8 := fo5.same e8
    have s18 := s15.trans e8
    let ns : Nat → List Int := fun n => if 0 < GG then (List.range (n - S0)).map fun i => lat (exs g R nu de) PP GG (S0 + i) else []
    have ns0 : ns 0 = [] := by
      show (if 0 < GG then _ else _) = _
      split
      · rw [show 0 - S0 = 0 by omega]
        rfl
      · rfl
    have nsY : ∀ n, S0 ≤ n → 0 < GG → ns (n + 1) = ns n ++ [lat (exs g R nu de) PP GG n] := fun n h1 h2 => by
      show (if 0 < GG then _ else _) = (if 0 < GG then _ else _) ++ _
      rw [if_pos h2, if_pos h2, show n + 1 - S0 = (n - S0) + 1 by omega, List.range_succ, List.map_append, List.map_singleton, show S0 + (n - S0) = n by omega]
    have nsN : ∀ n, ¬ (S0 ≤ n ∧ 0 < GG) → ns (n + 1) = ns n := fun n h => by
      show (if 0 < GG then _ else _) = (if 0 < GG then _ else _)
      by_cases c : 0 < GG
      · rw [if_pos c, if_pos c, show n + 1 - S0 = n - S0 by omega]
      · rw [if_neg c, if_neg c]
    have nsL : ∀ n, (ns n).length ≤ n := fun n => by
      show (if 0 < GG then _ else _ : List Int).length ≤ n
      split
      · rw [List.length_map, List.length_range]
        omega
      · exact Nat.zero_le _
    have nsE : ns (S0 + PP) = if 0 < GG then (List.range PP).map fun i => lat (exs g R nu de) PP GG (S0 + i) else [] := by
      show (if 0 < GG then _ else _) = _
      rw [show S0 + PP - S0 = PP by omega]
    generalize ns = ns at *
    refine ⟨fun σ H' => ∃ l : Addr, σ = [some (.ref b), some (.ref tv), some (.int nu), some (.int de), some (.ref a), some (.ref x), some (.int (f : Int)), some (.int (Dn : Int)), some (.int pr), some (.int (S0 : Int)), some (.int (PP : Int)), some (.int GG), some (.ref l), none, none] ∧ Same H8 H' ∧ H' l = some (.lst []) ∧ H8 l = none, ?_, ?_⟩
    · unfold tAsg
      refine (el_lst ea_nil (show 0 ≤ 100000 by decide)) H8 (Ex.refl _) _ fun l H9 nl0 e9' hl => ?_
      exact ⟨l, rfl, e9', hl, nl0⟩
    rintro σ H9 ⟨l, rfl, e9, hl, nl0⟩
    refine ⟨fun σ H' => ∃ v13 v14, σ = [some (.ref b), some (.ref tv), some (.int nu), some (.int de), some (.ref a), some (.ref x), some (.int (f : Int)), some (.int (Dn : Int)), some (.int pr), some (.int (S0 : Int)), some (.int (PP : Int)), some (.int GG), some (.ref l), v13, v14] ∧ Same H8 H' ∧ H' l = some (.lst ((ns (S0 + PP)).map V.int)) ∧ ∀ k, k < S0 + PP → exs g R nu de k ≤ 0, ?_, ?_⟩
    · refine (ev_op (ev_var rfl) (ev_var rfl) (rv_I0 (g := fun i j => .int (i + j)) (i := (S0 : Int)) (j := (PP : Int))) : Ev _ [some (.ref b), some (.ref tv), some (.int nu), some (.int de), some (.ref a), some (.ref x), some (.int (f : Int)), some (.int (Dn : Int)), some (.int pr), some (.int (S0 : Int)), some (.int (PP : Int)), some (.int GG), some (.ref l), none, none] H9 (.int ((S0 : Int) + (PP : Int)))) H9 (Ex.refl _) _ fun H10 e10 => ⟨_, rfl, by omega, by omega, for_range (lo := 0) (n := ((S0 : Int) + (PP : Int)).toNat) (fun n σ' H' => ∃ v13 v14, σ' = [some (.ref b), some (.ref tv), some (.int nu), some (.int de), some (.ref a), some (.ref x), some (.int (f : Int)), some (.int (Dn : Int)), some (.int pr), some (.int (S0 : Int)), some (.int (PP : Int)), some (.int GG), some (.ref l), v13, v14] ∧ Same H8 H' ∧ H' l = some (.lst ((ns n).map V.int)) ∧ ∀ k, k < n → exs g R nu de k ≤ 0) ⟨none, none, rfl, e9.trans e10, by rw [ns0]; exact e10 _ _ hl, fun k hk => absurd hk (Nat.not_lt_zero k)⟩ ?_ ?_⟩
      rotate_left
      · rintro σ' H' ⟨v13, v14, rfl, sm, hl', low⟩
        rw [show ((S0 : Int) + (PP : Int)).toNat = S0 + PP by omega] at hl' low
        exact ⟨v13, v14, rfl, sm, hl', low⟩
      rintro n σ' H' hn ⟨v13, v14, rfl, sm, hl', low⟩
      rw [show (0 : Int) + (n : Int) = (n : Int) by omega]
      have hn : n < S0 + PP := by omega
      have ta : Ev (tMeth S "total_after" (spTa S) [] E0 (tVar 4) (tCons (tVar 13) tNil)) [some (.ref b), some (.ref tv), some (.int nu), some (.int de), some (.ref a), some (.ref x), some (.int (f : Int)), some (.int (Dn : Int)), some (.int pr), some (.int (S0 : Int)), some (.int (PP : Int)), some (.int GG), some (.ref l), some (.int (n : Int)), v14] H' (.int (sim g n).2.2) := fun H2 e2 Q2 q2 =>
        ⟨_, rfl, a, dxa, _, rfl, (fo8.same (sm.trans e2)).ia, rfl, _, rfl, g, N.I g.b, a, dxa, tl, bd, d, k, n, kvs, rfl, ok, by omega, fo8.same (sm.trans e2), fun H3 s3 => q2 H3 s3⟩
      have co : ∀ H2, Same H' H2 → Ev (tMeth CO "cost" (spCos K CV CC ST CO) [] E (tVar 5) (tCons (tVar 13) tNil)) [some (.ref b), some (.ref tv), some (.int nu), some (.int de), some (.ref a), some (.ref x), some (.int (f : Int)), some (.int (Dn : Int)), some (.int pr), some (.int (S0 : Int)), some (.int (PP : Int)), some (.int GG), some (.ref l), some (.int (n : Int)), v14] H2 (.int (cst g R n)) := fun H2 s2 H3' e3 Q2 q2 =>
        ⟨_, rfl, x, dxo, _, rfl, (c8.s ((sm.trans s2).trans e3)).ix, rfl, _, rfl, x, dxo, t, ca, rec, g, R, d', j, n, H3, rfl, c8.s ((sm.trans s2).trans e3), by omega, fun H4 s4 => q2 H4 s4⟩
      refine q_asg (v := .int (exs g R nu de n)) (ev_op (ev_op (ev_var rfl) ta (rv_I (C := CMul) (g := fun i j => .int (i * j)) (i := de) (.inl ⟨by omega, by omega⟩))) (ev_op (ev_var rfl) (co H' (Same.refl _)) (rv_I (C := CMul) (g := fun i j => .int (i * j)) (i := nu) (.inl ⟨by omega, by omega⟩))) (rv_I0 (g := fun i j => .int (i - j)))) fun H2 e2 => ?_
      refine q_when (b := decide (0 < exs g R nu de n)) (et_test (ev_op (ev_var rfl) ev_c (rv_I0 (g := fun i j => .bl (decide (j < i))) (i := exs g R nu de n) (j := 0)))) (fun hb H3 e3 => ?_) (fun hb H3 e3 => ?_)
      · exact ⟨_, rfl, q.1 n H3 (((s18.trans sm).trans e2).trans e3) (of_decide_eq_true hb) low⟩
      have neg : exs g R nu de n ≤ 0 := by
        have := of_decide_eq_false hb
        omega
      have low' : ∀ k, k < n + 1 → exs g R nu de k ≤ 0 := fun k hk => by
        by_cases z : k = n
        · rw [z]
          exact neg
        · exact low k (by omega)
      refine s_when (b := decide ((S0 : Int) ≤ (n : Int)) && decide (0 < GG)) (et_and (et_test (ev_op (ev_var rfl) (ev_var rfl) (rv_I0 (g := fun i j => .bl (decide (j ≤ i))) (i := (n : Int)) (j := (S0 : Int))))) fun _ => et_test (ev_op (ev_var rfl) ev_c (rv_I0 (g := fun i j => .bl (decide (j < i))) (i := GG) (j := 0)))) (fun hc H4 e4 => ?_) (fun hc H4 e4 => ?_)
      · rw [Bool.and_eq_true, decide_eq_true_eq, decide_eq_true_eq] at hc
        obtain ⟨hc1, g0⟩ := hc
        have sm4 := ((sm.trans e2).trans e3).trans e4
        have hl4 := (((e2.trans e3).trans e4) _ _ hl')
        have lgG : GG.natAbs.log2 < 9000 := Nat.lt_trans ((Nat.log2_lt (show GG.natAbs ≠ 0 by omega)).mpr (show _ < 2 ^ 63 by omega)) (show 63 < 9000 by decide)
        refine ⟨_, rfl, .inl ⟨rfl, _, .of hl4⟩, ?_⟩
        refine (ev_op (ev_var rfl) (ev_op (ev_op (ev_op (ev_op ev_c (ev_var rfl) (rv_I0 (g := fun i j => .int (i - j)) (i := 0) (j := exs g R nu de n))) (ev_var rfl) (rv_I (C := CDivW) (g := fun i j => .int (i / j)) (j := GG) ⟨g0, lgG⟩)) ev_c (rv_I0 (g := fun i j => .int (i + j)) (j := 1))) (ev_var rfl) (rv_I (C := CMul) (g := fun i j => .int (i * j)) (j := (PP : Int)) (.inr ⟨by omega, by omega⟩))) (rv_I0 (g := fun i j => .int (i + j)) (i := (n : Int))) : Ev _ [some (.ref b), some (.ref tv), some (.int nu), some (.int de), some (.ref a), some (.ref x), some (.int (f : Int)), some (.int (Dn : Int)), some (.int pr), some (.int (S0 : Int)), some (.int (PP : Int)), some (.int GG), some (.ref l), some (.int (n : Int)), some (.int (exs g R nu de n))] H4 (.int (lat (exs g R nu de) PP GG n))) H4 (Ex.refl _) _ fun H5' e5 => ?_
        have hl5 := e5 _ _ hl4
        refine ⟨l, _, _, rfl, rfl, hl5, by rw [List.length_map, sizeLine_eq]; have := nsL n; omega, ?_⟩
        refine ⟨_, _, rfl, same_put (sm4.trans e5) nl0, ?_, low'⟩
        rw [upd_same, nsY n (by omega) g0, List.map_append]
        rfl
      · refine ⟨_, _, rfl, ((sm.trans e2).trans e3).trans e4, ?_, low'⟩
        rw [nsN n fun z => ?_]
        · exact ((e2.trans e3).trans e4) _ _ hl'
        · rw [decide_eq_true (show (S0 : Int) ≤ (n : Int) by omega), decide_eq_true z.2] at hc
          cases hc
    rintro σ H10 ⟨v13, v14, rfl, sm, hl', low⟩
    obtain ⟨qY, qN⟩ := q
    have same10 := s18.trans sm
    unfold tRet tIf
    refine (et_neD (edp_ev (ev_var rfl) fun H2 x2 => .lst (.of (x2 _ _ hl')) (intsDp _)) (edp_lst eda_nil (by decide)) (ints_sh _) (by decide +kernel) : EvT _ [some (.ref b), some (.ref tv), some (.int nu), some (.int de), some (.ref a), some (.ref x), some (.int (f : Int)), some (.int (Dn : Int)), some (.int pr), some (.int (S0 : Int)), some (.int (PP : Int)), some (.int GG), some (.ref l), v13, v14] H10 (!PyData.eqv (.list ((ns (S0 + PP)).map PyData.int)) (.list []))) H10 (Ex.refl _) _ fun H11 e11 => ?_
    have same11 := same10.trans e11
    by_cases g0 : 0 < GG
    · rw [if_pos g0] at nsE
      have pos : 0 < (ns (S0 + PP)).length := by
        rw [nsE, List.length_map, List.length_range]
        exact p0
      have yes : (!PyData.eqv (.list ((ns (S0 + PP)).map PyData.int)) (.list [])) = true := by
        cases e : ns (S0 + PP) with
        | nil =>
          rw [e] at pos
          exact absurd pos (Nat.lt_irrefl 0)
        | cons y r => rfl
      refine Eq.mpr (if_pos yes) ?_
      refine ⟨_, rfl, l, ns (S0 + PP), rfl, .of (e11 _ _ hl'), pos, fun m hm hle => ?_⟩
      rw [nsE] at hm hle
      obtain ⟨n, rfl, h1, h2⟩ := gro.least low g0 hm hle
      exact qY n H11 same11 h1 h2
    · rw [if_neg g0] at nsE
      have no : ¬ (!PyData.eqv (.list ((ns (S0 + PP)).map PyData.int)) (.list [])) = true := by
        rw [nsE]
        decide
      refine Eq.mpr (if_neg no) ?_
      exact qN (gro.none low g0) H11 same11
end
end Sea

set_option Elab.async false
set_option linter.all false
set_option maxRecDepth 100000
set_option maxHeartbeats 4000000
/-! the buyers as they are made -/
namespace Sea
open PySem PySem.Spec PyProof.Rows L2 LamX NdefX ClX Evl StX
section
variable {K : PySem.W.Frag} {C D cU cN : Addr} {H : Hp} {Q : VK} {E : XK} {t p x dx : Addr} {L : List (Int × Int)}
theorem fx_mk {i : Int} (ht : Tar K C H t p L) (nx : H x = none) (ndx : H dx = none) (q1 : InP L i → ∀ H', Same H H' → FixB K C D H' x L (byFix i) → H' x = some (.ins D dx (fxF t i)) → Q .non H') (q2 : ¬ InP L i → ∀ H', Same H H' → E (.ref cU) none H') :
    spFxI K C D cU [V.ref x, .ref t, .int i] (upd (upd H dx (.own x)) x (.ins D dx [])) Q E := by
  have s0 := born_ins (D := D) nx ndx
  refine ⟨x, dx, t, p, L, i, rfl, upd_same, ht.same s0, fun hi H' k e => ?_, fun hi H' k => q2 hi H' (k.back s0 nx)⟩
  exact q1 hi H' (k.back s0 nx) ⟨t, p, i, ⟨dx, e⟩, ht.same (k.back s0 nx), hi, rfl⟩ e
theorem sw_mk {i j lim : Int} (ht : Tar K C H t p L) (nx : H x = none) (ndx : H dx = none) (q1 : InP L i → InP L j → 0 ≤ lim ∧ lim ≤ 1000000000 → ∀ H', Same H H' → SwB K C D H' x L (bySw L i j lim) → H' x = some (.ins D dx (swF t i j lim)) → Q .non H')
    (q2 : ¬ (InP L i ∧ InP L j) → ∀ H', Same H H' → E (.ref cU) none H') (q3 : InP L i → InP L j → ¬ (0 ≤ lim ∧ lim ≤ 1000000000) → ∀ H', Same H H' → E (.ref cN) none H') :
    spSwI K C D cU cN [V.ref x, .ref t, .int i, .int j, .int lim] (upd (upd H dx (.own x)) x (.ins D dx [])) Q E := by
  have s0 := born_ins (D := D) nx ndx
  refine ⟨x, dx, t, p, L, i, j, lim, rfl, upd_same, ht.same s0, fun hi hj hl H' k e => ?_, fun hi H' k => q2 hi H' (k.back s0 nx), fun hi hj hl H' k => q3 hi hj hl H' (k.back s0 nx)⟩
  exact q1 hi hj hl H' (k.back s0 nx) ⟨t, p, i, j, lim, ⟨dx, e⟩, ht.same (k.back s0 nx), hi, hj, rfl⟩ e
theorem tn_mk {is : List Int} (hl : is.length ≤ 1000) (ht : Tar K C H t p L) (nx : H x = none) (ndx : H dx = none) (q1 : is ≠ [] → (∀ i ∈ is, InP L i) → ∀ sq H', Same H H' → TurnB K C D H' x L (byTurn is) → H' x = some (.ins D dx (tnF t (.ref sq))) → Q .non H')
    (q2 : is = [] → ∀ H', Same H H' → E (.ref cN) none H') (q3 : (∃ i ∈ is, ¬ InP L i) → ∀ H', Same H H' → E (.ref cU) none H') :
    (fun vs H Q E => ∃ ws rest, vs = ws ++ rest ∧ ws.length = (["self", "tariff"] : List Str).length ∧ rest.length ≤ sizeLine ∧ ∀ p, H p = Option.none → spTnI K C D cU cN (ws ++ [V.ref p]) (upd H p (.tup rest)) Q E) (V.ref x :: V.ref t :: is.map V.int) (upd (upd H dx (.own x)) x (.ins D dx [])) Q E := by
  have s0 := born_ins (D := D) nx ndx
  refine ⟨[.ref x, .ref t], is.map V.int, rfl, rfl, Nat.le_of_lt (small1000 (by rw [List.length_map]; exact hl)), fun sq nsq => ?_⟩
  have s1 : Same H (upd (upd (upd H dx (.own x)) x (.ins D dx [])) sq (.tup (is.map V.int))) := s0.trans (same_new nsq)
  have hx : (upd (upd (upd H dx (.own x)) x (.ins D dx [])) sq (.tup (is.map V.int))) x = some (.ins D dx []) := same_new nsq _ _ upd_same
  refine ⟨x, dx, t, p, sq, L, is, rfl, hx, ht.same s1, .of upd_same, hl, fun n0 hi H' k e => ?_, fun n0 H' k => q2 n0 H' (k.back s1 nx), fun n0 H' k => q3 n0 H' (k.back s1 nx)⟩
  have sm := k.back s1 nx
  exact q1 n0 hi sq H' sm ⟨t, p, sq, is, ⟨dx, e⟩, ht.same sm, (k.tk hx) _ _ (.of upd_same), n0, hl, hi, rfl⟩ e
end
/-- the classes, as they are made -/
structure TMb (P : Program) (K : PySem.W.Frag) (mg : Str → Option Value) (DF DT DS fFx fTn fSw fBy : Addr) (dFx dTn dSw dBy : FuncData) (md : Value) : Prop where
  mkF : Mk K DF fFx
  mkT : Mk K DT fTn
  mkS : Mk K DS fSw
  gF : mg "FixedBuyer" = some (.ref DF)
  gT : mg "TurnBuyer" = some (.ref DT)
  gS : mg "SwitchBuyer" = some (.ref DS)
  uF : ∃ cc cda, FunC K "__init__" "FixedBuyer.__init__" sFxI cc cda fFx dFx ∧ SupT P K mg DF cc cda fBy "__init__"
  uT : ∃ cc cda, FunC K "__init__" "TurnBuyer.__init__" sTnI cc cda fTn dTn ∧ SupT P K mg DT cc cda fBy "__init__"
  uS : ∃ cc cda, FunC K "__init__" "SwitchBuyer.__init__" sSwI cc cda fSw dSw ∧ SupT P K mg DS cc cda fBy "__init__"
  uB : Fun K "__init__" "Buyer.__init__" sByI fBy dBy
  cr : CRead K DS md
  vM : ∃ u, CVal K DS md "MAX_LIMIT" (.int 1000000000) u
theorem kb_sw {K : PySem.W.Frag} {cc cda f : Addr} {fd : FuncData} (F : FunC K "__init__" "SwitchBuyer.__init__" sSwI cc cda f fd) : KBn K fd ["self", "tariff", "short", "long", "limit"] 4 ["limit"] (fun us ws => us ++ ws) (fun vs zs => vs ++ zs) := by
  obtain ⟨oc, od, kV, doc, pm, an, ct, osl, rfl, lk⟩ := F.ex
  refine ⟨fun s us ws _ h1 h2 => ?_, fun a b => a.append b⟩
  match us, ws, h1, h2 with
  | [u, v, x, z], [y], _, _ => exact .of_eq rfl
theorem b_fx {K : PySem.W.Frag} {cc cda f : Addr} {fd : FuncData} (F : FunC K "__init__" "FixedBuyer.__init__" sFxI cc cda f fd) : Binds K fd ["self", "tariff", "index"] [] := by
  obtain ⟨oc, od, kV, doc, pm, an, ct, osl, rfl, lk⟩ := F.ex
  exact .all fun us hl => match us, hl with | [_, _, _], _ => rfl
end Sea

set_option Elab.async false
set_option linter.all false
set_option maxRecDepth 100000
set_option maxHeartbeats 4000000
/-! known buyers, in plain words -/
namespace Sea
open PySem PySem.Spec PyProof.Rows L2 LamX NdefX ClX Evl StX
section
variable {g : Par} {I : List Int → Prop}
/-- what a day that comes back brings, time after time -/
theorem far_key (o : g.Ok I) {y P : Nat} (h : key g y = key g (y + P)) (m : Nat) : ∀ t : Nat, key g (y + m + t * P) = key g (y + m) ∧ (sim g (y + m + t * P)).2.2 = (sim g (y + m)).2.2 + (t : Int) * ((sim g (y + P)).2.2 - (sim g y).2.2)
  | 0 => by
    rw [Nat.zero_mul, Nat.add_zero]
    exact ⟨rfl, by rw [show ((0 : Nat) : Int) = 0 from rfl, Int.zero_mul, Int.add_zero]⟩
  | t + 1 => by
    obtain ⟨h1, h2⟩ := far_key o h m t
    obtain ⟨k1, k2⟩ := key_far o h (m + t * P)
    have e : y + m + (t + 1) * P = y + P + (m + t * P) := by rw [Nat.succ_mul]; omega
    have e2 : y + (m + t * P) = y + m + t * P := by omega
    rw [e2] at k1 k2
    rw [e, ← k1, h1, show ((t + 1 : Nat) : Int) = (t : Int) + 1 by omega, Int.add_mul, Int.one_mul]
    exact ⟨rfl, by omega⟩
/-- a period from day 0 on, and what it costs -/
structure Pd (g : Par) (P : Nat) (G : Int) : Prop where
  p0 : 0 < P
  key : key g 0 = key g P
  tot : (sim g P).2.2 = G
theorem Pd.far {P : Nat} {G : Int} (h : Pd g P G) (o : g.Ok I) (t m : Nat) : (sim g (m + t * P)).2.2 = (sim g m).2.2 + (t : Int) * G := by
  have := (far_key o (y := 0) (P := P) (by rw [Nat.zero_add]; exact h.key) m t).2
  rw [Nat.zero_add, Nat.zero_add, h.tot] at this
  rw [this]
  show _ + (t : Int) * (G - 0) = _
  rw [Int.sub_zero]
theorem Pd.few {P : Nat} {G : Int} (h : Pd g P G) {d : Nat} (f : Fresh g d) : d ≤ P := by
  by_cases z : d ≤ P
  · exact z
  · exact absurd h.key (f 0 P h.p0 (by omega))
/-- a round's price, by what repeats -/
theorem res_key (o : g.Ok I) (hl : g.ln = 1) {y P : Nat} (h : key g y = key g (y + P)) {x : Int × Int} (r : Res g x) : x.1 * (P : Int) = ((sim g (y + P)).2.2 - (sim g y).2.2) * x.2 ∧ Int.gcd x.1 x.2 = 1 := by
  obtain ⟨d, j, i, rfl⟩ := r
  rw [hl, Int.mul_one]
  have lt := i.2.1
  have q0 : ((d - j : Nat) : Int) = (d : Int) - j := by omega
  have far := (far_turns o i y P).2
  have trn := (far_key o h j (d - j)).2
  rw [Nat.add_comm j y, Nat.mul_comm P (d - j)] at far
  generalize ((sim g (y + P)).2.2 - (sim g y).2.2) = G at trn ⊢
  have eq : (P : Int) * ((sim g d).2.2 - (sim g j).2.2) = ((d - j : Nat) : Int) * G := by omega
  generalize hG1 : ((sim g d).2.2 - (sim g j).2.2) = G1 at eq ⊢
  rw [q0] at eq
  have qp : (0 : Int) < (d : Int) - j := by omega
  generalize hq : (d : Int) - j = q at eq qp ⊢
  have g0 : 0 < Int.gcd G1 q := Nat.pos_of_ne_zero fun z => by
    have := (Int.gcd_eq_zero_iff.mp z).2
    omega
  refine ⟨?_, Int.gcd_ediv_gcd_ediv_gcd g0⟩
  show G1 / (Int.gcd G1 q : Nat) * P = G * (q / (Int.gcd G1 q : Nat))
  have d1 := Int.ediv_mul_cancel (Int.gcd_dvd_left G1 q)
  have d2 := Int.ediv_mul_cancel (Int.gcd_dvd_right G1 q)
  generalize G1 / (Int.gcd G1 q : Nat) = u at d1 ⊢
  generalize q / (Int.gcd G1 q : Nat) = v at d2 ⊢
  generalize hc : ((Int.gcd G1 q : Nat) : Int) = c at d1 d2
  have c0 : c ≠ 0 := by omega
  refine Int.eq_of_mul_eq_mul_right c0 ?_
  have s1 : u * P * c = G1 * P := by rw [Int.mul_right_comm, d1]
  have s2 : G * v * c = G * q := by rw [Int.mul_assoc, d2]
  rw [s1, s2, Int.mul_comm G1 P, eq, Int.mul_comm q G]
theorem Pd.res {P : Nat} {G : Int} (h : Pd g P G) (o : g.Ok I) (hl : g.ln = 1) {x : Int × Int} (r : Res g x) : x.1 * (P : Int) = G * x.2 ∧ Int.gcd x.1 x.2 = 1 := by
  have := res_key o hl (y := 0) (P := P) (by rw [Nat.zero_add]; exact h.key) r
  rw [Nat.zero_add, h.tot] at this
  rw [show G = G - (sim g 0).2.2 from (Int.sub_zero G).symm]
  exact this
def Less (a b : Int × Int) : Prop := a.1 * b.2 < b.1 * a.2
theorem less_rate {x y : Int × Int} {P Q G W : Int} (hx : x.1 * P = G * x.2) (hy : y.1 * Q = W * y.2) (p0 : 0 < P) (q0 : 0 < Q) (x0 : 0 < x.2) (y0 : 0 < y.2) (h : G * Q < W * P) : Less x y := by
  have a : x.1 * y.2 * (P * Q) = G * Q * (x.2 * y.2) := by
    have : x.1 * y.2 * (P * Q) = x.1 * P * (y.2 * Q) := by ac_rfl
    rw [this, hx]
    ac_rfl
  have b : y.1 * x.2 * (P * Q) = W * P * (x.2 * y.2) := by
    have : y.1 * x.2 * (P * Q) = y.1 * Q * (x.2 * P) := by ac_rfl
    rw [this, hy]
    ac_rfl
  have c := Int.mul_lt_mul_of_pos_right h (Int.mul_pos x0 y0)
  rw [← a, ← b] at c
  exact Int.lt_of_mul_lt_mul_right c (Int.le_of_lt (Int.mul_pos p0 q0))
/-! ### a pass after the other -/
def ages (gr : List Int → List Int) : Nat → List Int → List Int
  | 0, m => m
  | t + 1, m => gr (ages gr t m)
variable {d : Nat} {i : Int} {l : Nat} {pr T : Int} {m m' : List Int}
theorem blk (hs : sim g d = (0, m, T)) (hg : goes g d = true) (hc : g.b.ch m = (i, m')) (hp : pas g.L i = ((l : Int), pr)) : ∀ t : Nat, 1 ≤ t → t ≤ l → sim g (d + t) = ((l : Int) - t, ages g.b.gr t m', T + pr)
  | 0, h, _ => absurd h (by decide)
  | 1, _, h => by
    show stp g d (sim g d) = _
    unfold stp
    rw [pre_yes (by rw [hs]; exact ⟨rfl, hg⟩), hs]
    show (max0 ((pas g.L (g.b.ch m).1).1 - 1), g.b.gr (g.b.ch m).2, T + (pas g.L (g.b.ch m).1).2) = _
    rw [hc]
    show (max0 ((pas g.L i).1 - 1), g.b.gr m', T + (pas g.L i).2) = _
    rw [hp]
    show (max0 ((l : Int) - 1), g.b.gr m', T + pr) = ((l : Int) - 1, g.b.gr m', T + pr)
    rw [show max0 ((l : Int) - 1) = (l : Int) - 1 by unfold max0; split <;> omega]
  | t + 2, _, h => by
    have ih := blk hs hg hc hp (t + 1) (by omega) (by omega)
    show stp g (d + (t + 1)) (sim g (d + (t + 1))) = _
    unfold stp
    have nz : ((l : Int) - ((t + 1 : Nat) : Int)) ≠ 0 := by omega
    rw [pre_no (by rw [ih]; exact fun z => nz z.1), ih]
    show (max0 ((l : Int) - ((t + 1 : Nat) : Int) - 1), g.b.gr (ages g.b.gr (t + 1) m'), T + pr) = ((l : Int) - ((t + 2 : Nat) : Int), g.b.gr (ages g.b.gr (t + 1) m'), T + pr)
    rw [show max0 ((l : Int) - ((t + 1 : Nat) : Int) - 1) = (l : Int) - ((t + 2 : Nat) : Int) by unfold max0; split <;> omega]
theorem blk_end (hs : sim g d = (0, m, T)) (hg : goes g d = true) (hc : g.b.ch m = (i, m')) (hp : pas g.L i = ((l : Int), pr)) (l1 : 1 ≤ l) : sim g (d + l) = (0, ages g.b.gr l m', T + pr) := by
  rw [blk hs hg hc hp l l1 (Nat.le_refl l), Int.sub_self]
theorem bat_yes (h : (sim g d).1 = 0 ∧ goes g d = true) : bat g d = some (g.b.ch (sim g d).2.1).1 := if_pos h
theorem bat_no (h : ¬ ((sim g d).1 = 0 ∧ goes g d = true)) : bat g d = none := if_neg h
theorem bat_one (hs : sim g d = (0, m, T)) (hg : goes g d = true) (hc : g.b.ch m = (i, m')) : bat g d = some i := by
  rw [bat_yes (by rw [hs]; exact ⟨rfl, hg⟩), hs]
  show some (g.b.ch m).1 = _
  rw [hc]
theorem bat_mid (hs : sim g d = (0, m, T)) (hg : goes g d = true) (hc : g.b.ch m = (i, m')) (hp : pas g.L i = ((l : Int), pr)) {t : Nat} (h1 : 1 ≤ t) (h2 : t < l) : bat g (d + t) = none := by
  rw [bat_no]
  rw [blk hs hg hc hp t h1 (by omega)]
  intro z
  have z : (l : Int) - (t : Int) = 0 := z.1
  omega
theorem idle (hs : sim g d = (0, m, T)) : ∀ t : Nat, (∀ s, s < t → goes g (d + s) = false) → sim g (d + t) = (0, ages g.b.gr t m, T)
  | 0, _ => hs
  | t + 1, h => by
    have ih := idle hs t fun s hs => h s (by omega)
    show stp g (d + t) (sim g (d + t)) = _
    unfold stp
    rw [pre_no (by rw [h t (by omega)]; exact fun z => nomatch z.2), ih]
    rfl
theorem goes_daily (h1 : g.ln = 1) (h2 : g.ds = [0]) (d : Nat) : goes g d = true := by
  unfold goes
  rw [h1, h2, Int.fmod_one]
  rfl
theorem key_daily (h1 : g.ln = 1) (d : Nat) : key g d = (0, (sim g d).1, (sim g d).2.1) := by
  unfold key
  rw [h1, Int.fmod_one]
theorem ages_id : ∀ (t : Nat) (m : List Int), ages id t m = m
  | 0, _ => rfl
  | t + 1, m => ages_id t m
theorem ages_nil {ll : Int} : ∀ t : Nat, ages (grM ll) t [] = []
  | 0 => rfl
  | t + 1 => by
    show grM ll (ages (grM ll) t []) = []
    rw [ages_nil t]
    rfl
theorem ages_one {ll a : Int} (h : a < ll) : ∀ t : Nat, ages (grM ll) t [a] = if a + t < ll then [a + t] else []
  | 0 => by
    rw [if_pos (show a + ((0 : Nat) : Int) < ll by omega), show a + ((0 : Nat) : Int) = a by omega]
    rfl
  | t + 1 => by
    show grM ll (ages (grM ll) t [a]) = _
    rw [ages_one h t]
    by_cases c : a + (t : Int) < ll
    · rw [if_pos c]
      unfold grM
      by_cases c2 : a + ((t + 1 : Nat) : Int) < ll
      · rw [if_pos c2, List.filter_cons_of_pos (by exact decide_eq_true (show a + (t : Int) + 1 < ll by omega)), show a + ((t + 1 : Nat) : Int) = a + (t : Int) + 1 by omega]
        rfl
      · rw [if_neg c2, List.filter_cons_of_neg (by rw [decide_eq_false (show ¬ a + (t : Int) + 1 < ll by omega)]; decide)]
        rfl
    · rw [if_neg c, if_neg (show ¬ a + ((t + 1 : Nat) : Int) < ll by omega)]
      rfl
end
/-! ### the tariff -/
/-- the numbers that the law draws -/
structure Kb (n : Nat) (p s : Int) : Prop where
  n2 : 2 ≤ n
  n13 : n ≤ 13
  p1 : 1 ≤ p
  p50 : p ≤ 50
  s1 : 1 ≤ s
  sp : s ≤ p
def kq (n : Nat) (p s : Int) : Int := (n : Int) * p - s
def kL (n : Nat) (p s : Int) : List (Int × Int) := [(1, p), ((n : Int), kq n p s)]
section
variable {n : Nat} {p s : Int}
theorem Kb.np (h : Kb n p s) : 2 * p ≤ (n : Int) * p ∧ (n : Int) * p ≤ 13 * p :=
  ⟨Int.mul_le_mul_of_nonneg_right (by have := h.n2; omega) (by have := h.p1; omega), Int.mul_le_mul_of_nonneg_right (by have := h.n13; omega) (by have := h.p1; omega)⟩
theorem Kb.q (h : Kb n p s) : p ≤ kq n p s ∧ kq n p s ≤ 650 ∧ kq n p s < (n : Int) * p ∧ (n : Int) * p - p ≤ kq n p s := by
  have ⟨a, b⟩ := h.np
  have := h.p1; have := h.p50; have := h.s1; have := h.sp
  unfold kq
  omega
theorem Kb.ok (h : Kb n p s) : ∀ z ∈ kL n p s, PassOk z := fun z hz => by
  have q := h.q
  have := h.p1; have := h.p50; have := h.n2; have := h.n13
  rcases List.mem_cons.mp hz with rfl | hz
  · exact ⟨by show (1 : Int) ≤ 1; decide, by show (1 : Int) ≤ 28; decide, by show 1 ≤ p; omega, by show p ≤ _; omega⟩
  · rcases List.mem_cons.mp hz with rfl | hz
    · exact ⟨by show 1 ≤ (n : Int); omega, by show (n : Int) ≤ 28; omega, by show 1 ≤ kq n p s; omega, by show kq n p s ≤ _; omega⟩
    · cases hz
theorem in0 : InP (kL n p s) 0 := ⟨by decide, by show (0 : Int) < ((2 : Nat) : Int); decide⟩
theorem in1 : InP (kL n p s) 1 := ⟨by decide, by show (1 : Int) < ((2 : Nat) : Int); decide⟩
theorem pas0 : pas (kL n p s) 0 = (((1 : Nat) : Int), p) := rfl
theorem pas1 : pas (kL n p s) 1 = ((n : Int), kq n p s) := rfl
/-- a travel every day -/
def kG (n : Nat) (p s : Int) (b : By) : Par := ⟨1, [0], kL n p s, b⟩
theorem kG_go {b : By} (d : Nat) : goes (kG n p s b) d = true := goes_daily rfl rfl d
theorem kG_ok {b : By} {I : List Int → Prop} (h : Kb n p s) (o : b.Ok (kL n p s) I) : (kG n p s b).Ok I := ⟨by show (1 : Int) ≤ 1; decide, by show (1 : Int) ≤ 14; decide, h.ok, o⟩
theorem sim_0 (g : Par) : sim g 0 = (0, g.b.beg, 0) := rfl
/-- a period, by the state that comes back -/
theorem pd_of {b : By} {P : Nat} {G : Int} (p0 : 0 < P) (h : sim (kG n p s b) P = (0, b.beg, G)) : Pd (kG n p s b) P G := ⟨p0, by rw [key_daily rfl, key_daily rfl, h]; rfl, by rw [h]⟩
/-! the buyers -/
theorem one_pd (h : Kb n p s) : Pd (kG n p s (byFix 0)) 1 p := pd_of (by decide) (by
  have := blk_end (g := kG n p s (byFix 0)) (d := 0) (sim_0 _) (kG_go 0) rfl (pas0 (n := n) (s := s)) (Nat.le_refl 1)
  rw [Nat.zero_add, Int.zero_add] at this
  exact this)
theorem all_blk (h : Kb n p s) {t : Nat} (h1 : 1 ≤ t) (h2 : t ≤ n) : sim (kG n p s (byFix 1)) t = ((n : Int) - t, [], kq n p s) := by
  have := blk (g := kG n p s (byFix 1)) (d := 0) (sim_0 _) (kG_go 0) rfl (pas1 (n := n) (p := p) (s := s)) t h1 h2
  rw [Nat.zero_add, Int.zero_add] at this
  rw [this]
  show ((n : Int) - t, ages id t [], _) = _
  rw [ages_id]
theorem all_pd (h : Kb n p s) : Pd (kG n p s (byFix 1)) n (kq n p s) := by
  have n2 := h.n2
  exact pd_of (by omega) (by rw [all_blk h (by omega) (Nat.le_refl n), Int.sub_self]; rfl)
theorem mix_pd (h : Kb n p s) : Pd (kG n p s (byTurn [0, 1])) (n + 1) (p + kq n p s) := by
  have n2 := h.n2
  refine pd_of (by omega) ?_
  have a := blk_end (g := kG n p s (byTurn [0, 1])) (d := 0) (m' := [1]) (i := 0) (sim_0 _) (kG_go 0) rfl (pas0 (n := n) (s := s)) (Nat.le_refl 1)
  rw [Nat.zero_add, Int.zero_add] at a
  have b := blk_end (g := kG n p s (byTurn [0, 1])) (d := 1) (m' := [0]) (i := 1) a (kG_go 1) rfl (pas1 (n := n) (p := p) (s := s)) (by omega)
  rw [Nat.add_comm n 1, b]
  show (0, ages id n [0], _) = _
  rw [ages_id]
  rfl
theorem three_pd (h : Kb n p s) : Pd (kG n p s (byTurn [0, 0, 0, 1])) (n + 3) (p + p + p + kq n p s) := by
  have n2 := h.n2
  refine pd_of (by omega) ?_
  have a := blk_end (g := kG n p s (byTurn [0, 0, 0, 1])) (d := 0) (m' := [1]) (i := 0) (sim_0 _) (kG_go 0) rfl (pas0 (n := n) (s := s)) (Nat.le_refl 1)
  rw [Nat.zero_add, Int.zero_add] at a
  have b := blk_end (g := kG n p s (byTurn [0, 0, 0, 1])) (d := 1) (m' := [2]) (i := 0) a (kG_go 1) rfl (pas0 (n := n) (s := s)) (Nat.le_refl 1)
  have c := blk_end (g := kG n p s (byTurn [0, 0, 0, 1])) (d := 2) (m' := [3]) (i := 0) b (kG_go 2) rfl (pas0 (n := n) (s := s)) (Nat.le_refl 1)
  have e := blk_end (g := kG n p s (byTurn [0, 0, 0, 1])) (d := 3) (m' := [0]) (i := 1) c (kG_go 3) rfl (pas1 (n := n) (p := p) (s := s)) (by omega)
  rw [Nat.add_comm n 3, e]
  show (0, ages id n [0], _) = _
  rw [ages_id]
  rfl
/-! the buyer who switches -/
def desc : Nat → List Int
  | 0 => []
  | k + 1 => (desc k ++ [0]).map (· + 1)
theorem desc_len : ∀ k, (desc k).length = k
  | 0 => rfl
  | k + 1 => by
    show ((desc k ++ [0]).map (· + 1)).length = _
    rw [List.length_map, List.length_append, desc_len k]
    rfl
theorem desc_mem : ∀ (k : Nat) (z : Int), z ∈ desc k → 1 ≤ z ∧ z ≤ k
  | 0, z, h => nomatch h
  | k + 1, z, h => by
    obtain ⟨u, hu, rfl⟩ := List.mem_map.mp h
    rcases List.mem_append.mp hu with hu | hu
    · have := desc_mem k u hu
      show 1 ≤ u + 1 ∧ u + 1 ≤ _
      omega
    · rw [List.mem_singleton.mp hu]
      show (1 : Int) ≤ 0 + 1 ∧ (0 : Int) + 1 ≤ _
      omega
theorem desc_cons : ∀ k : Nat, desc (k + 1) = ((k + 1 : Nat) : Int) :: desc k
  | 0 => rfl
  | k + 1 => by
    have ih := desc_cons k
    show (desc (k + 1) ++ [0]).map (· + 1) = _
    rw [ih]
    have e : (desc k ++ [0]).map (fun z : Int => z + 1) = desc (k + 1) := rfl
    show (((k + 1 : Nat) : Int) + 1) :: (desc k ++ [0]).map (fun z : Int => z + 1) = _
    rw [e, ih]
    rfl
theorem gr_desc {ll : Int} {k : Nat} (h : (k : Int) + 1 < ll) : grM ll (desc k ++ [0]) = desc (k + 1) := by
  unfold grM
  rw [List.filter_eq_self.mpr fun z hz => ?_]
  · rfl
  · refine decide_eq_true ?_
    rcases List.mem_append.mp hz with hz | hz
    · have := desc_mem k z hz
      omega
    · rw [List.mem_singleton.mp hz]
      omega
theorem gr_full {ll : Int} {k : Nat} (h : (k : Int) + 1 + 1 = ll) : grM ll (desc (k + 1) ++ [0]) = desc (k + 1) := by
  rw [desc_cons k]
  have e : grM ll (((k + 1 : Nat) : Int) :: desc k ++ [0]) = grM ll (desc k ++ [0]) := by
    unfold grM
    rw [List.cons_append, List.filter_cons_of_neg (by rw [decide_eq_false (show ¬ ((k + 1 : Nat) : Int) + 1 < ll by omega)]; decide)]
  rw [e, gr_desc (by omega), desc_cons k]
theorem ch_short {lim : Int} {k : Nat} (h : ((k : Int) + 1) * p ≤ lim) : (bySw (kL n p s) 0 1 lim).ch (desc k) = (0, desc k ++ [0]) := by
  show chI 0 1 p lim (desc k) = _
  unfold chI chM
  rw [desc_len, if_neg (by omega)]
theorem ch_long {lim : Int} {k : Nat} (h : lim < ((k : Int) + 1) * p) : (bySw (kL n p s) 0 1 lim).ch (desc k) = (1, []) := by
  show chI 0 1 p lim (desc k) = _
  unfold chI chM
  rw [desc_len, if_pos (by omega)]
/-- .. on his first days -/
theorem sw_run (h : Kb n p s) {lim : Int} {c : Nat} (hc : c < n) (h1 : (c : Int) * p ≤ lim) : ∀ k, k ≤ c → sim (kG n p s (bySw (kL n p s) 0 1 lim)) k = (0, desc k, (k : Int) * p)
  | 0, _ => by
    rw [show ((0 : Nat) : Int) = 0 from rfl, Int.zero_mul]
    rfl
  | k + 1, hk => by
    have ih := sw_run h hc h1 k (by omega)
    have p1 := h.p1
    have le : ((k : Int) + 1) * p ≤ lim := Int.le_trans (Int.mul_le_mul_of_nonneg_right (by omega) (by omega)) h1
    have := blk_end (g := kG n p s (bySw (kL n p s) 0 1 lim)) ih (kG_go k) (ch_short (n := n) (s := s) le) (pas0 (n := n) (s := s)) (Nat.le_refl 1)
    rw [this]
    show (0, grM (n : Int) (desc k ++ [0]), _) = _
    rw [gr_desc (by omega), show ((k + 1 : Nat) : Int) = (k : Int) + 1 by omega, Int.add_mul, Int.one_mul]
theorem sw_pd (h : Kb n p s) {lim : Int} {c : Nat} (hc : c < n) (h1 : (c : Int) * p ≤ lim) (h2 : lim < ((c : Int) + 1) * p) : Pd (kG n p s (bySw (kL n p s) 0 1 lim)) (c + n) ((c : Int) * p + kq n p s) := by
  have n2 := h.n2
  refine pd_of (by omega) ?_
  have := blk_end (g := kG n p s (bySw (kL n p s) 0 1 lim)) (sw_run h hc h1 c (Nat.le_refl c)) (kG_go c) (ch_long (n := n) (s := s) h2) (pas1 (n := n) (p := p) (s := s)) (by omega)
  rw [this]
  show (0, ages (grM (n : Int)) n [], _) = _
  rw [ages_nil]
  rfl
/-- his purchases -/
theorem sw_pus (h : Kb n p s) {lim : Int} {c : Nat} (hc : c < n) (h1 : (c : Int) * p ≤ lim) (h2 : lim < ((c : Int) + 1) * p) :
    pus (kG n p s (bySw (kL n p s) 0 1 lim)) 0 (c + n + 1) = ((List.range c).map fun k : Nat => ((k : Int), (0 : Int))) ++ [((c : Int), 1), (((c + n : Nat) : Int), if c = 0 then 1 else 0)] := by
  have n2 := h.n2
  have p1 := h.p1
  have run := sw_run h hc h1
  have a : ∀ k, k ≤ c → pus (kG n p s (bySw (kL n p s) 0 1 lim)) 0 k = (List.range k).map fun k : Nat => ((k : Int), (0 : Int)) := fun k => by
    induction k with
    | zero => exact fun _ => rfl
    | succ k ih =>
      intro hk
      have le : ((k : Int) + 1) * p ≤ lim := Int.le_trans (Int.mul_le_mul_of_nonneg_right (by omega) (by omega)) h1
      rw [pus_succ, ih (by omega), Nat.zero_add, bat_one (run k (by omega)) (kG_go k) (ch_short (n := n) (s := s) le), List.range_succ, List.map_append]
      rfl
  have at_c := bat_one (run c (Nat.le_refl c)) (kG_go c) (ch_long (n := n) (s := s) h2)
  have b : ∀ t, t < n → pus (kG n p s (bySw (kL n p s) 0 1 lim)) 0 (c + 1 + t) = ((List.range c).map fun k : Nat => ((k : Int), (0 : Int))) ++ [((c : Int), 1)] := fun t => by
    induction t with
    | zero =>
      intro _
      rw [Nat.add_zero, pus_succ, a c (Nat.le_refl c), Nat.zero_add, at_c]
    | succ t ih =>
      intro ht
      rw [show c + 1 + (t + 1) = c + 1 + t + 1 by omega, pus_succ, ih (by omega), Nat.zero_add, show c + 1 + t = c + (t + 1) by omega, bat_mid (run c (Nat.le_refl c)) (kG_go c) (ch_long (n := n) (s := s) h2) (pas1 (n := n) (p := p) (s := s)) (by omega) ht, List.append_nil]
  have e := blk_end (g := kG n p s (bySw (kL n p s) 0 1 lim)) (run c (Nat.le_refl c)) (kG_go c) (ch_long (n := n) (s := s) h2) (pas1 (n := n) (p := p) (s := s)) (by omega)
  have e : sim (kG n p s (bySw (kL n p s) 0 1 lim)) (c + n) = (0, desc 0, (c : Int) * p + kq n p s) := by
    rw [e]
    show (0, ages (grM (n : Int)) n [], _) = _
    rw [ages_nil]
    rfl
  have last : bat (kG n p s (bySw (kL n p s) 0 1 lim)) (c + n) = some (if c = 0 then 1 else 0) := by
    by_cases z : c = 0
    · rw [if_pos z]
      refine bat_one e (kG_go _) (ch_long (n := n) (s := s) ?_)
      rw [z] at h2
      exact h2
    · rw [if_neg z]
      refine bat_one e (kG_go _) (ch_short (n := n) (s := s) (Int.le_trans ?_ h1))
      exact Int.mul_le_mul_of_nonneg_right (by omega) (by omega)
  rw [pus_succ, show c + n = c + 1 + (n - 1) by omega, b (n - 1) (by omega), Nat.zero_add, show c + 1 + (n - 1) = c + n by omega, last, List.append_assoc]
  rfl
/-- with a limit that is never reached -/
theorem never_run (h : Kb n p s) {lim : Int} (h1 : (n : Int) * p ≤ lim) (k : Nat) : sim (kG n p s (bySw (kL n p s) 0 1 lim)) (n - 1 + k) = (0, desc (n - 1), ((n - 1 + k : Nat) : Int) * p) := by
  have n2 := h.n2
  have p1 := h.p1
  induction k with
  | zero => exact sw_run h (c := n - 1) (by omega) (Int.le_trans (Int.mul_le_mul_of_nonneg_right (by omega) (by omega)) h1) (n - 1) (Nat.le_refl _)
  | succ k ih =>
    have le : (((n - 1 : Nat) : Int) + 1) * p ≤ lim := by
      rw [show ((n - 1 : Nat) : Int) + 1 = (n : Int) by omega]
      exact h1
    have := blk_end (g := kG n p s (bySw (kL n p s) 0 1 lim)) ih (kG_go _) (ch_short (n := n) (s := s) le) (pas0 (n := n) (s := s)) (Nat.le_refl 1)
    rw [← Nat.add_assoc, this]
    show (0, grM (n : Int) (desc (n - 1) ++ [0]), _) = _
    obtain ⟨r, rfl⟩ : ∃ r, n = r + 2 := ⟨n - 2, by omega⟩
    rw [show r + 2 - 1 = r + 1 by omega, gr_full (by omega), show ((r + 1 + k + 1 : Nat) : Int) = ((r + 1 + k : Nat) : Int) + 1 by omega, Int.add_mul, Int.one_mul]
/-- long for short and short for long -/
theorem back_pd0 (h : Kb n p s) : Pd (kG n p s (bySw (kL n p s) 1 0 0)) 1 p := pd_of (by decide) (by
  have q := h.q
  have p1 := h.p1
  have hc : (bySw (kL n p s) 1 0 0).ch [] = (0, []) := by
    show chI 1 0 (kq n p s) 0 [] = _
    unfold chI chM
    rw [if_pos (show (0 : Int) < ((([] : List Int).length : Int) + 1) * kq n p s by show (0 : Int) < (0 + 1) * _; omega)]
  have := blk_end (g := kG n p s (bySw (kL n p s) 1 0 0)) (d := 0) (sim_0 _) (kG_go 0) hc (pas0 (n := n) (s := s)) (Nat.le_refl 1)
  rw [Nat.zero_add, Int.zero_add] at this
  rw [this]
  rfl)
theorem ages_1 : ∀ t : Nat, 1 ≤ t → ages (grM 1) t [0] = []
  | 0, h => absurd h (by decide)
  | 1, _ => rfl
  | t + 2, _ => by
    show grM 1 (ages (grM 1) (t + 1) [0]) = []
    rw [ages_1 (t + 1) (by omega)]
    rfl
theorem back_pd1 (h : Kb n p s) : Pd (kG n p s (bySw (kL n p s) 1 0 (kq n p s))) n (kq n p s) := by
  have n2 := h.n2
  refine pd_of (by omega) ?_
  have q := h.q
  have p1 := h.p1
  have hc : (bySw (kL n p s) 1 0 (kq n p s)).ch [] = (1, [0]) := by
    show chI 1 0 (kq n p s) (kq n p s) [] = _
    unfold chI chM
    rw [if_neg (show ¬ kq n p s < ((([] : List Int).length : Int) + 1) * kq n p s by show ¬ _ < (0 + 1) * kq n p s; omega)]
    rfl
  have := blk_end (g := kG n p s (bySw (kL n p s) 1 0 (kq n p s))) (d := 0) (sim_0 _) (kG_go 0) hc (pas1 (n := n) (p := p) (s := s)) (by omega)
  rw [Nat.zero_add, Int.zero_add] at this
  rw [this]
  show (0, ages (grM 1) n [0], _) = _
  rw [ages_1 n (by omega)]
  rfl
end
end Sea

set_option Elab.async false
set_option linter.all false
set_option maxRecDepth 100000
set_option maxHeartbeats 4000000
/-! the least costs of the known buyers, in plain words -/
namespace Sea
open PySem PySem.Spec PyProof.Rows L2 LamX NdefX ClX Evl StX
section
variable {n : Nat} {p s : Int} {b : By} {R : Nat}
theorem least_two (a b : Int) : least [a, b] = if b < a then b else a := by
  show min a b = _
  split <;> omega
theorem kc_next (hR : Reach (kG n p s b) R) (k : Nat) : cst (kG n p s b) R (k + 1) = if cAt (kG n p s b) R ((k : Int) + 1 - n) + kq n p s < cst (kG n p s b) R k + p then cAt (kG n p s b) R ((k : Int) + 1 - n) + kq n p s else cst (kG n p s b) R k + p := by
  rw [cst_next hR, if_pos (kG_go k)]
  show least [cAt (kG n p s b) R ((k : Int) + 1 - 1) + p, cAt (kG n p s b) R ((k : Int) + 1 - n) + kq n p s] = _
  rw [least_two, show (k : Int) + 1 - 1 = (k : Int) by omega, show cAt (kG n p s b) R (k : Int) = cst (kG n p s b) R k from if_pos (Int.natCast_nonneg k)]
/-- t passes and r tickets -/
theorem kc_at (h : Kb n p s) (hR : Reach (kG n p s b) R) : ∀ k t r : Nat, r < n → k = t * n + r → cst (kG n p s b) R k = (t : Int) * kq n p s + (r : Int) * p := by
  intro k
  induction k using Nat.strongRecOn with
  | _ k ih =>
    intro t r hr hk
    have q := h.q
    have n2 := h.n2
    have p1 := h.p1
    have hrp : (r : Int) * p ≤ (n : Int) * p - p := by
      have := Int.mul_le_mul_of_nonneg_right (show (r : Int) ≤ (n : Int) - 1 by omega) (show 0 ≤ p by omega)
      rw [Int.sub_mul, Int.one_mul] at this
      exact this
    match k, r with
    | 0, r =>
      have t0 : t = 0 := by
        rcases Nat.eq_zero_or_pos t with z | z
        · exact z
        · have := Nat.mul_le_mul z (Nat.le_refl n)
          omega
      subst t0
      obtain rfl : r = 0 := by omega
      rw [cst_0 hR.r1]
      show (0 : Int) = 0 * _ + 0 * p
      omega
    | k + 1, r + 1 =>
      have a := ih k (by omega) t r (by omega) (by omega)
      rw [kc_next hR k, a, show ((r + 1 : Nat) : Int) = (r : Int) + 1 by omega, Int.add_mul, Int.one_mul]
      rw [show ((r + 1 : Nat) : Int) = (r : Int) + 1 by omega, Int.add_mul, Int.one_mul] at hrp
      have c : cAt (kG n p s b) R ((k : Int) + 1 - n) + kq n p s ≥ (t : Int) * kq n p s + (r : Int) * p + p := by
        unfold cAt
        match t with
        | 0 =>
          rw [if_neg (by omega)]
          show 0 + kq n p s ≥ 0 * _ + _ + p
          omega
        | t + 1 =>
          have e : (t + 1) * n = t * n + n := Nat.succ_mul ..
          rw [if_pos (by omega), ih ((k : Int) + 1 - n).toNat (by omega) t (r + 1) hr (by omega)]
          rw [show ((t + 1 : Nat) : Int) = (t : Int) + 1 by omega, show ((r + 1 : Nat) : Int) = (r : Int) + 1 by omega, Int.add_mul, Int.add_mul, Int.one_mul, Int.one_mul]
          omega
      rw [if_neg (by omega)]
      omega
    | k + 1, 0 =>
      obtain ⟨t, rfl⟩ : ∃ u, t = u + 1 := ⟨t - 1, by
        rcases Nat.eq_zero_or_pos t with z | z
        · rw [z] at hk
          omega
        · omega⟩
      have e : (t + 1) * n = t * n + n := Nat.succ_mul ..
      have a := ih k (by omega) t (n - 1) (by omega) (by omega)
      have c : cAt (kG n p s b) R ((k : Int) + 1 - n) = (t : Int) * kq n p s := by
        unfold cAt
        rw [if_pos (by omega), ih ((k : Int) + 1 - n).toNat (by omega) t 0 (by omega) (by omega)]
        show _ + (0 : Int) * p = _
        omega
      have np : ((n - 1 : Nat) : Int) * p = (n : Int) * p - p := by
        rw [show ((n - 1 : Nat) : Int) = (n : Int) - 1 by omega, Int.sub_mul, Int.one_mul]
      rw [kc_next hR k, a, c, np, show ((t + 1 : Nat) : Int) = (t : Int) + 1 by omega, Int.add_mul, Int.one_mul]
      rw [if_pos (by omega)]
      show _ = _ + (0 : Int) * p
      omega
theorem kc_div (h : Kb n p s) (hR : Reach (kG n p s b) R) (k : Nat) : cst (kG n p s b) R k = ((k / n : Nat) : Int) * kq n p s + ((k % n : Nat) : Int) * p := by
  have n2 := h.n2
  exact kc_at h hR k (k / n) (k % n) (Nat.mod_lt _ (by omega)) (by have := Nat.div_add_mod k n; rw [Nat.mul_comm] at this; omega)
theorem kc_turn (h : Kb n p s) (hR : Reach (kG n p s b) R) (k : Nat) : cst (kG n p s b) R (k + n) = cst (kG n p s b) R k + kq n p s := by
  have n2 := h.n2
  rw [kc_div h hR (k + n), kc_div h hR k, Nat.add_mod_right, Nat.add_div_right k (by omega), show ((k / n + 1 : Nat) : Int) = ((k / n : Nat) : Int) + 1 by omega, Int.add_mul, Int.one_mul]
  omega
/-- the differences come back -/
theorem kc_st (h : Kb n p s) (hR : Reach (kG n p s b) R) : stC (kG n p s b) R R = stC (kG n p s b) R (R + n) := by
  have l1 := recs_len (g := kG n p s b) hR.r1 R
  have l2 := recs_len (g := kG n p s b) hR.r1 (R + n)
  unfold stC
  refine List.ext_getElem? fun m => ?_
  rw [List.getElem?_map, List.getElem?_map]
  by_cases c : m < R
  · have a1 := recs_back (g := kG n p s b) hR.r1 R (R - m) (by omega) (by omega)
    have a2 := recs_back (g := kG n p s b) hR.r1 (R + n) (R - m) (by omega) (by omega)
    rw [atI_back (by omega) (by omega), l1, show R - (R - m) = m by omega, if_pos (by omega)] at a1
    rw [atI_back (by omega) (by omega), l2, show R - (R - m) = m by omega, if_pos (by omega), show R + n + 1 - (R - m) = (R + 1 - (R - m)) + n by omega, kc_turn h hR] at a2
    rw [a1, a2, kc_turn h hR]
    show some (cst (kG n p s b) R R - cst (kG n p s b) R (R + 1 - (R - m))) = some (cst (kG n p s b) R R + kq n p s - (cst (kG n p s b) R (R + 1 - (R - m)) + kq n p s))
    congr 1
    omega
  · rw [List.getElem?_eq_none (by omega), List.getElem?_eq_none (by omega)]
    rfl
theorem kc_few (h : Kb n p s) (hR : Reach (kG n p s b) R) {d : Nat} (f : FreshC (kG n p s b) R d) : d ≤ 41 := by
  have r2 := hR.r2
  have n13 := h.n13
  have n2 := h.n2
  by_cases z : d ≤ R + n
  · omega
  · exact absurd (kc_st h hR) (f R (R + n) (by omega) (by omega) (Int.fmod_one _) (Int.fmod_one _))
/-- tickets alone: the first day on which they cost too much -/
theorem one_tot (h : Kb n p s) (k : Nat) : (sim (kG n p s (byFix 0)) k).2.2 = (k : Int) * p := by
  have := (one_pd h).far (kG_ok h (fix_ok in0)) k 0
  rw [Nat.zero_add, Nat.mul_one] at this
  rw [this]
  show (0 : Int) + _ = _
  omega
theorem one_ex (h : Kb n p s) (hR : Reach (kG n p s (byFix 0)) R) : 0 < exs (kG n p s (byFix 0)) R 1 1 n ∧ ∀ k, k < n → exs (kG n p s (byFix 0)) R 1 1 k ≤ 0 := by
  have n2 := h.n2
  have q := h.q
  unfold exs
  refine ⟨?_, fun k hk => ?_⟩
  · rw [one_tot h, kc_at h hR n 1 0 (by omega) (by omega)]
    show 0 < 1 * _ - 1 * (1 * _ + 0 * p)
    omega
  · rw [one_tot h, kc_at h hR k 0 k hk (by omega)]
    show 1 * _ - 1 * (0 * _ + _) ≤ 0
    omega
theorem ex_one {g : Par} {nu de : Int} {n k : Nat} (h : 0 < exs g R nu de n ∧ ∀ k, k < n → exs g R nu de k ≤ 0) (h2 : 0 < exs g R nu de k ∧ ∀ j, j < k → exs g R nu de j ≤ 0) : k = n := by
  rcases Nat.lt_trichotomy k n with z | z | z
  · have := h.2 k z
    omega
  · exact z
  · have := h2.2 n z
    omega
theorem all_ex (h : Kb n p s) (hR : Reach (kG n p s (byFix 1)) R) (k : Nat) : exs (kG n p s (byFix 1)) R 1000 1 k ≤ 0 := by
  have n2 := h.n2
  have q := h.q
  have p1 := h.p1
  have ⟨np1, np2⟩ := h.np
  unfold exs
  have n0 : 0 < n := by omega
  have lt := Nat.mod_lt k n0
  have e := Nat.div_add_mod k n
  rw [Nat.mul_comm, Nat.add_comm] at e
  have far := (all_pd h).far (kG_ok h (fix_ok in1)) (k / n) (k % n)
  rw [e] at far
  have tq : 0 ≤ ((k / n : Nat) : Int) * kq n p s := Int.mul_nonneg (Int.natCast_nonneg _) (by omega)
  rw [far, kc_div h hR]
  generalize ((k / n : Nat) : Int) * kq n p s = tQ at *
  by_cases z : k % n = 0
  · rw [z]
    show 1 * (0 + tQ) - 1000 * (tQ + 0 * p) ≤ 0
    omega
  · rw [all_blk h (by omega) (by omega)]
    have := Int.mul_le_mul_of_nonneg_right (show (1 : Int) ≤ ((k % n : Nat) : Int) by omega) (show 0 ≤ p by omega)
    generalize ((k % n : Nat) : Int) * p = rp at *
    show 1 * (kq n p s + tQ) - 1000 * (tQ + rp) ≤ 0
    omega
/-! ### somebody who travels seldom -/
def kL3 (n : Nat) (p s : Int) : List (Int × Int) := [(1, p), ((n : Int), kq n p s), (28, 1000000)]
theorem Kb.ok3 (h : Kb n p s) : ∀ z ∈ kL3 n p s, PassOk z := fun z hz => by
  have q := h.q
  have := h.p1; have := h.p50; have := h.n2; have := h.n13
  rcases List.mem_cons.mp hz with rfl | hz
  · exact ⟨by show (1 : Int) ≤ 1; decide, by show (1 : Int) ≤ 28; decide, by show 1 ≤ p; omega, by show p ≤ _; omega⟩
  · rcases List.mem_cons.mp hz with rfl | hz
    · exact ⟨by show 1 ≤ (n : Int); omega, by show (n : Int) ≤ 28; omega, by show 1 ≤ kq n p s; omega, by show kq n p s ≤ _; omega⟩
    · rcases List.mem_cons.mp hz with rfl | hz
      · exact ⟨by decide, by decide, by decide, by decide⟩
      · cases hz
def kS (n : Nat) (p s lim : Int) : Par := ⟨14, [0], kL3 n p s, bySw (kL3 n p s) 0 1 lim⟩
theorem in30 : InP (kL3 n p s) 0 := ⟨by decide, by show (0 : Int) < ((3 : Nat) : Int); decide⟩
theorem in31 : InP (kL3 n p s) 1 := ⟨by decide, by show (1 : Int) < ((3 : Nat) : Int); decide⟩
theorem kS_ok (h : Kb n p s) (lim : Int) : (kS n p s lim).Ok (MOk 28) := ⟨by show (1 : Int) ≤ 14; decide, by show (14 : Int) ≤ 14; decide, h.ok3, sw_ok in30 in31 (by show (n : Int) ≤ 28; have := h.n13; omega)⟩
theorem goes14 (lim : Int) {d : Nat} (h : d < 14) : goes (kS n p s lim) d = decide (d = 0) := by
  unfold goes
  show inV (.int ((d : Int).fmod 14)) [V.int 0] = _
  match d, h with
  | 0, _ => rfl
  | 1, _ => rfl
  | 2, _ => rfl
  | 3, _ => rfl
  | 4, _ => rfl
  | 5, _ => rfl
  | 6, _ => rfl
  | 7, _ => rfl
  | 8, _ => rfl
  | 9, _ => rfl
  | 10, _ => rfl
  | 11, _ => rfl
  | 12, _ => rfl
  | 13, _ => rfl
  | _ + 14, h => omega
theorem kS_pd (h : Kb n p s) {lim : Int} (h1 : p ≤ lim) : Pd (kS n p s lim) 14 p := by
  have n2 := h.n2
  have n13 := h.n13
  have hc : (bySw (kL3 n p s) 0 1 lim).ch [] = (0, [0]) := by
    show chI 0 1 p lim [] = _
    unfold chI chM
    rw [if_neg (show ¬ lim < ((([] : List Int).length : Int) + 1) * p by show ¬ lim < (0 + 1) * p; omega)]
    rfl
  have a := blk_end (g := kS n p s lim) (d := 0) (l := 1) (pr := p) (sim_0 _) (goes14 lim (by decide)) hc rfl (Nat.le_refl 1)
  rw [Nat.zero_add, Int.zero_add] at a
  have c := idle a 13 fun r hr => by
    rw [goes14 lim (by omega)]
    exact decide_eq_false (by omega)
  have e : sim (kS n p s lim) 14 = (0, [], p) := by
    rw [show (14 : Nat) = 1 + 13 from rfl, c]
    show (0, ages (grM (n : Int)) 13 (grM (n : Int) [0]), p) = _
    have g1 : grM (n : Int) [0] = [1] := by
      unfold grM
      rw [List.filter_cons_of_pos (by exact decide_eq_true (show (0 : Int) + 1 < n by omega))]
      rfl
    rw [g1, ages_one (by omega) 13, if_neg (by omega)]
  refine ⟨by decide, ?_, by rw [e]⟩
  unfold key
  rw [e]
  rfl
end
end Sea

set_option Elab.async false
set_option linter.all false
set_option maxRecDepth 100000
set_option maxHeartbeats 4000000
/-! best_limit: travel without exceptions -/
namespace Sea
open PySem PySem.Spec PyProof.Rows L2 LamX NdefX ClX Evl StX
/-! ### the plain law -/
theorem IsRep.one {g : Par} {d j d' j' : Nat} (h : IsRep g d j) (h' : IsRep g d' j') : d = d' ∧ j = j' := by
  obtain ⟨f, a, e⟩ := h
  obtain ⟨f', a', e'⟩ := h'
  have ed : d = d' := by
    rcases Nat.lt_trichotomy d d' with z | z | z
    · exact absurd e (f' j d a z)
    · exact z
    · exact absurd e' (f j' d' a' z)
  subst ed
  refine ⟨rfl, ?_⟩
  rcases Nat.lt_trichotomy j j' with z | z | z
  · exact absurd (e.trans e'.symm) (f j j' z a')
  · exact z
  · exact absurd (e'.trans e.symm) (f j' j z a)
theorem Res.one {g : Par} {x y : Int × Int} (h : Res g x) (h' : Res g y) : x = y := by
  obtain ⟨d, j, i, rfl⟩ := h
  obtain ⟨d', j', i', rfl⟩ := h'
  obtain ⟨rfl, rfl⟩ := i.one i'
  rfl
theorem Less.irr {a b : Int × Int} (h : Less a b) : ¬ Less b a := by
  unfold Less at *
  omega
/-- no less than what is no less -/
theorem Less.two {a b c : Int × Int} (a0 : 0 < a.2) (b0 : 0 < b.2) (c0 : 0 < c.2) (h : Less a b) (h' : ¬ Less c b) : Less a c := by
  unfold Less at *
  have h1 : b.1 * c.2 ≤ c.1 * b.2 := by omega
  have e1 := Int.mul_le_mul_of_nonneg_right h1 (Int.le_of_lt a0)
  have e2 := Int.mul_lt_mul_of_pos_right h c0
  have r1 : b.1 * c.2 * a.2 = b.1 * a.2 * c.2 := by ac_rfl
  have r2 : a.1 * b.2 * c.2 = a.1 * c.2 * b.2 := by ac_rfl
  have r3 : c.1 * b.2 * a.2 = c.1 * a.2 * b.2 := by ac_rfl
  rw [r1, r3] at e1
  rw [r2] at e2
  exact Int.lt_of_mul_lt_mul_right (Int.lt_of_lt_of_le e2 e1) (Int.le_of_lt b0)
theorem rep_some {g : Par} : ∀ j i : Nat, i < j → key g i = key g j → ∃ d k, IsRep g d k := fun j => by
  induction j using Nat.strongRecOn with
  | _ j ih =>
    intro i hi e
    by_cases f : Fresh g j
    · exact ⟨j, i, f, hi, e⟩
    · obtain ⟨a, b, h1, h2, h3⟩ : ∃ a b, a < b ∧ b < j ∧ key g a = key g b := Classical.byContradiction fun z => f fun a b h1 h2 h3 => z ⟨a, b, h1, h2, h3⟩
      exact ih b h2 a h1 h3
theorem res_some {g : Par} {P : Nat} {G : Int} (h : Pd g P G) : ∃ y, Res g y := by
  obtain ⟨d, k, r⟩ := rep_some P 0 h.p0 h.key
  exact ⟨_, d, k, r, rfl⟩
/-- the buyer with the limit l -/
def swG (g : Par) (i j l : Int) : Par := ⟨g.ln, g.ds, g.L, bySw g.L i j l⟩
/-- the limits that best_limit tries -/
def lmt (g : Par) (i : Int) (k : Nat) : Int := (k : Int) * (pas g.L i).2
/-- of the first n limits the k-th is the first with the least price x -/
structure Best (g : Par) (i j : Int) (n k : Nat) (x : Int × Int) : Prop where
  lt : k < n
  re : Res (swG g i j (lmt g i k)) x
  lo : ∀ m y, m < k → Res (swG g i j (lmt g i m)) y → Less x y
  al : ∀ m y, m < n → Res (swG g i j (lmt g i m)) y → ¬ Less y x
section
variable {g : Par} {i j : Int} {n k : Nat} {x y : Int × Int}
theorem best_first (h : Res (swG g i j (lmt g i 0)) x) : Best g i j 1 0 x := ⟨Nat.zero_lt_one, h, fun m y hm => absurd hm (Nat.not_lt_zero _), fun m y hm hr => by
  obtain rfl : m = 0 := by omega
  rw [hr.one h]
  unfold Less
  omega⟩
theorem Best.old (b : Best g i j n k x) (h : Res (swG g i j (lmt g i n)) y) (hl : ¬ Less y x) : Best g i j (n + 1) k x := ⟨Nat.lt_succ_of_lt b.lt, b.re, b.lo, fun m z hm hr => by
  by_cases e : m = n
  · subst e
    rw [hr.one h]
    exact hl
  · exact b.al m z (by omega) hr⟩
theorem Best.new (b : Best g i j n k x) (h : Res (swG g i j (lmt g i n)) y) (hl : Less y x) : Best g i j (n + 1) n y := by
  have less : ∀ m z, m < n → Res (swG g i j (lmt g i m)) z → Less y z := fun m z hm hr => Less.two h.pos b.re.pos hr.pos hl (b.al m z hm hr)
  refine ⟨Nat.lt_succ_self n, h, less, fun m z hm hr => ?_⟩
  by_cases e : m = n
  · subst e
    rw [hr.one h]
    unfold Less
    omega
  · exact (less m z (by omega) hr).irr
/-- the one that is less than all ahead of it and no more than those behind is the best -/
theorem Best.is (b : Best g i j n k x) {k' : Nat} {x' : Int × Int} (b' : Best g i j n k' x') : k = k' := by
  rcases Nat.lt_trichotomy k k' with z | z | z
  · exact absurd (b'.lo k x z b.re) (b.al k' x' b'.lt b'.re)
  · exact z
  · exact absurd (b.lo k' x' z b'.re) (b'.al k x b.lt b.re)
end
/-! ### the function -/
abbrev NBl : List Str := ["tariff", "short", "long", "travel", "best", "number", "limit", "price", "rounds"]
theorem scBl : FnScope NBl ["tariff", "short", "long", "travel"] (defScope sBl) := ⟨rfl, rfl, rfl, by decide +kernel, rfl, by decide +kernel, by decide +kernel⟩
/-- best_limit's answer: a pair of the limit and the price -/
def BlA (K : PySem.W.Frag) (g : Par) (i j : Int) (n : Nat) (H : Hp) (v : V) : Prop := ∃ r q k z, v = .ref r ∧ SqT K H r [.int (lmt g i k), .ref q] ∧ SqT K H q [.int z.1, .int z.2] ∧ z.2 ≤ 12000000 ∧ Best g i j n k z
theorem BlA.tk {K : PySem.W.Frag} {g : Par} {i j : Int} {n : Nat} {H H' : Hp} {v : V} (t : TK K H H') (h : BlA K g i j n H v) : BlA K g i j n H' v := by
  obtain ⟨r, q, k, z, e, h1, h2, h3⟩ := h
  exact ⟨r, q, k, z, e, t _ _ h1, t _ _ h2, h3⟩
def spBl (K : PySem.W.Frag) (C CV : Addr) : Sp := fun vs H Q _ => ∃ (t p tv : Addr) (i j : Int) (g : Par) (dv ov : V), vs = [.ref t, .int i, .int j, .ref tv] ∧ Tar K C H t p g.L ∧ g.L.length ≤ 1000 ∧ (∀ z ∈ g.L, PassOk z) ∧ Tv K CV H tv g.ln dv ov g.ds [] ∧ 1 ≤ g.ln ∧ g.ln ≤ 14 ∧ InP g.L i ∧ InP g.L j ∧
  (∀ (k : Nat) d, (k : Int) ≤ (pas g.L j).1 → Fresh (swG g i j (lmt g i k)) d → d ≤ 12000000) ∧ ∀ v H', Same H H' → BlA K g i j ((pas g.L j).1 + 1).toNat H' v → Q v H'
section
variable {P : Program} {w : World} {K : PySem.W.Frag} {mg : Str → Option Value} {base : Heap} {C CV S DF DT DS cV cI cU cP cN fV fI fP pP fVP fVC fL pL fR pR fVN fRl pRl fRd pRd fEx pEx fSI fSd fTa fFr fCd fSr fFx fTn fSw fBy : Addr} {mc mp md : Value}
  {fdV fdP dVP dVC dL dR dVN dRl dRd dEx dSI dSd dTa dFr dCd dSr dFx dTn dSw dBy : FuncData}
theorem ok_bl {f : Addr} {fd : FuncData} (F : Fun K "best_limit" "best_limit" sBl f fd) (GS : FnOk P w K mg base (L2.CX P w) 7 fSr dSr ["buyer", "travel"] (spSrQ K CV (SwB K C DS) (fun _ => MOk 28))) (FS : Fun K "spent_per_round" "spent_per_round" sSr fSr dSr) (gSr : mg "spent_per_round" = some (.ref fSr)) (kSr : PySem.W.keepIn K (.ref fSr) = true)
    (M : TMb P K mg DF DT DS fFx fTn fSw fBy dFx dTn dSw dBy md) (T : TX K mg C cI cU cP fI mc mp) (TQ : TP K C fP pP fdP) (LP : TLp K C fL pL fR pR dL dR) (W : TVl K mg fVP fVC cN dVP dVC) (NM : TNm K mg DF DT DS) (mR : mg "range" = none) :
    FnOk P w K mg base (L2.CX P w) 8 f fd ["tariff", "short", "long", "travel"] (spBl K C CV) := by
  obtain ⟨cc, cda, uS, SU⟩ := M.uS
  have GV : FnOk P w K mg base (L2.CX P w) 3 fVP dVP ["tariff", "index"] (spValid K C cU) := ok_valid (k := 0) W.uVP T TQ
  have bVP : Binds K dVP ["tariff", "index"] [] := W.uVP.binds (ps := ["tariff", "index"]) fun _ _ _ _ _ _ us hl => match us, hl with | [_, _], _ => rfl
  have bS : Binds K dSr ["buyer", "travel"] [] := FS.binds (ps := ["buyer", "travel"]) fun _ _ _ _ _ _ us hl => match us, hl with | [_, _], _ => rfl
  have GW : FnOk P w K mg base (L2.CX P w) 5 fSw dSw ["self", "tariff", "short", "long", "limit"] (spSwI K C DS cU cN) := ok_swI uS SU M.uB T TQ W NM.cS NM.sO NM.sS NM.sL NM.sM M.gS M.cr M.vM
  refine F.okX scBl (fun vs H Q E h => ?_) (fun cdv A outer s H vs Q E hr h => ?_)
  · obtain ⟨t, p, tv, i, j, g, dv, ov, rfl, _⟩ := h
    rfl
  · obtain ⟨t, p, tv, i, j, g, dv, ov, rfl, ht, hL, hps, hv, l1, l2, hi, hj, few, q⟩ := h
    have PX : Passes (L2.CX P w) (cxOf (L2.CX P w) P w K mg base NBl "best_limit" (defScope sBl) f cdv A outer s H E) E := passes_call (takes_of rfl rfl rfl rfl) (fun _ _ _ _ h => h)
    have h2 := hr.mono (show 2 ≤ 7 by omega)
    refine ⟨_, pss_cons (ps_expr (pe_call (E := E) GV (hr.mono (by omega)) (by rfl) W.gVP W.kVP bVP .nil PX (pa_cons (pv 0) (pa_cons (pv 1) pa_nil))))
      (pss_cons (ps_expr (pe_call (E := E) GV (hr.mono (by omega)) (by rfl) W.gVP W.kVP bVP .nil PX (pa_cons (pv 0) (pa_cons (pv 2) pa_nil))))
      (pss_cons (ps_set (i := 4) scBl.nd rfl (.inl rfl) pe_non)
      (pss_cons (ps_for (passes_of rfl) rfl (pi_range1 (by rfl) mR (pa_cons (pe_op op_add (pe_ixt (pe_lens K rfl LP T h2 (pv 0)) (pv 2)) pe_int) pa_nil)) (pg_name (i := 5) scBl.nd rfl (.inl rfl))
        (pss_cons (ps_set (i := 6) scBl.nd rfl (.inl rfl) (pe_op op_mul (pv 5) (pe_ixt (pe_pris K rfl LP T h2 (pv 0)) (pv 1))))
        (pss_cons (ps_asg (pe_call (E := E) GS hr (by rfl) gSr kSr bS .nil PX (pa_cons (pe_makeK (E := E) M.mkS GW (hr.mono (by omega)) (by rfl) M.gS (kb_sw uS) PX (pa_cons (pv 0) (pa_cons (pv 1) (pa_cons (pv 2) pa_nil))) (pk_cons (pv 6) pk_nil)) (pa_cons (pv 3) pa_nil)))
            (pg_tup rfl (pgs_cons (pg_name (i := 7) scBl.nd rfl (.inl rfl)) (pgs_cons (pg_name (i := 8) scBl.nd rfl (.inl rfl)) pgs_nil))))
        (pss_one (ps_if (PW.pt (pw_or (pt_cmpR op_isN (pv 4) pe_non (nomark _)) (pw_or1 (pt_cmpR op_lt (pe_op op_mul (pv 7) (pe_ixt (pe_ixt (pv 4) pe_int) pe_int)) (pe_op op_mul (pe_ixt (pe_ixt (pv 4) pe_int) pe_int) (pv 8)) (nomark _)))))
          (pss_one (ps_set (i := 4) scBl.nd rfl (.inl rfl) (pe_tup (pa_cons (pv 6) (pa_cons (pe_tup (pa_cons (pv 7) (pa_cons (pv 8) pa_nil))) pa_nil))))) pss_nil)))))
      (pss_one (ps_ret (pv 4)))))), ?_⟩
    refine ⟨_, rfl, _, rfl, t, p, i, g.L, rfl, ht, fun _ => ?_, fun z => absurd hi z⟩
    refine ⟨_, rfl, _, rfl, t, p, j, g.L, rfl, ht, fun _ => ?_, fun z => absurd hj z⟩
    obtain ⟨hx, hxm⟩ := hi.pas
    obtain ⟨hy, hym⟩ := hj.pas
    obtain ⟨x1, x2, x3, x4⟩ := hps _ hxm
    obtain ⟨y1, y2, y3, y4⟩ := hps _ hym
    generalize hxx : pas g.L i = x at *
    generalize hyy : pas g.L j = y at *
    have ok : ∀ l : Int, (swG g i j l).Ok (MOk 28) := fun l => ⟨l1, l2, hps, sw_ok hi hj (by rw [hyy]; exact y2)⟩
    have hb : (y.1 + 1).toNat = y.1 + 1 := by omega
    have eN : Ev (tOp (rI0 fun i j => .int (i + j)) (tOp (rIxT K) (tProp C (spCol K C Prod.fst) [] E0 (tVar 0)) (tVar 2)) (tC (.int 1))) [some (.ref t), some (.int i), some (.int j), some (.ref tv), some .non, none, none, none, none] H (.int (y.1 + 1)) := ev_op (ev_col (ev_var rfl) ht hL (ev_var rfl) hy) ev_c rv_I0
    refine eN H (Ex.refl _) _ fun H1 e1 => ⟨y.1 + 1, rfl, by omega, by omega, for_range (lo := 0) (n := (y.1 + 1).toNat) (fun n σ' H' => ∃ (v : V) (v5 v6 v7 v8 : Option V), σ' = [some (.ref t), some (.int i), some (.int j), some (.ref tv), some v, v5, v6, v7, v8] ∧ Same H H' ∧ ((n = 0 ∧ v = .non) ∨ (0 < n ∧ BlA K g i j n H' v))) ⟨.non, none, none, none, none, rfl, e1, .inl ⟨rfl, rfl⟩⟩ ?_ ?_⟩
    rotate_left
    · rintro σ' H' ⟨v, v5, v6, v7, v8, rfl, sm, hv2⟩
      rcases hv2 with ⟨n0, _⟩ | ⟨_, hv2⟩
      · omega
      · exact ⟨_, rfl, q v H' sm hv2⟩
    rintro n σ' H' hn ⟨v, v5, v6, v7, v8, rfl, sm, hv2⟩
    have el : lmt g i n = (n : Int) * x.2 := by
      unfold lmt
      rw [hxx]
    have eL : Ev (tOp (rI CMul fun i j => .int (i * j)) (tVar 5) (tOp (rIxT K) (tProp C (spCol K C Prod.snd) [] E0 (tVar 0)) (tVar 1))) [some (.ref t), some (.int i), some (.int j), some (.ref tv), some v, some (.int (0 + (n : Int))), v6, v7, v8] H' (.int (lmt g i n)) := by
      refine ev_is (ev_op (ev_var rfl) (ev_col (ev_var rfl) (ht.same sm) hL (ev_var rfl) hx) (rv_I (.inl ⟨by omega, by omega⟩))) ?_
      show V.int ((0 + (n : Int)) * x.2) = _
      rw [Int.zero_add, el]
    refine q_asg eL fun H2 e2 => ?_
    have lim : 0 ≤ lmt g i n ∧ lmt g i n ≤ 1000000000 := by
      rw [el]
      refine ⟨Int.mul_nonneg (by omega) (by omega), ?_⟩
      have h1 := Int.mul_le_mul (show (n : Int) ≤ 28 by omega) x4 (by omega) (by omega)
      omega
    have s2 := sm.trans e2
    refine ⟨_, rfl, _, rfl, _, rfl, _, rfl, rfl, rfl, fun a dx na ndx _ => ?_⟩
    refine sw_mk (ht.same s2) na ndx (fun _ _ _ H3 s3 sw _ => ⟨rfl, ?_⟩) (fun z => absurd ⟨hi, hj⟩ z) (fun _ _ z => absurd lim z)
    refine ⟨_, rfl, a, tv, swG g i j (lmt g i n), rfl, ⟨sw, hL, ⟨dv, ov, hv.same (s2.trans s3)⟩, Nat.zero_le _, ok _, fun d f => few n d (by omega) f⟩, fun r z H4 s4 hz z12 hr2 => ⟨r, _, rfl, .of hr2, rfl, _, _, rfl, _, _, rfl, rfl, ?_⟩⟩
    have sm4 := (s2.trans s3).trans s4
    have zp := hz.pos
    have s1000 : ∀ {n : Nat}, n ≤ 1000 → n ≤ sizeLine := fun h => Nat.le_of_lt (small1000 h)
    rcases hv2 with ⟨n0, rfl⟩ | ⟨n1, r0, q0, k, bz, rfl, hr0, hq0, b12, best⟩
    · subst n0
      refine s_when (b := decide (V.non = V.non) || false) (et_or (et_isN rfl) fun h => absurd h (by decide)) (fun _ H5 e5 => ?_) (fun hb _ _ => absurd hb (by decide))
      refine ⟨_, rfl, _, rfl, _, rfl, s1000 (show 2 ≤ 1000 by decide), fun qq nq => ⟨s1000 (show 2 ≤ 1000 by decide), fun rr nr => ?_⟩⟩
      refine ⟨.ref rr, _, _, _, _, rfl, ((sm4.trans e5).trans (same_new nq)).trans (same_new nr), .inr ⟨Nat.zero_lt_one, rr, qq, 0, z, rfl, .of upd_same, (TK.new nr) _ _ (.of upd_same), z12, best_first hz⟩⟩
    · have t4 : TK K H' H4 := .same ((e2.trans s3).trans s4)
      have hr4 := t4 _ _ hr0
      have hq4 := t4 _ _ hq0
      have bp := best.re.pos
      refine s_when (b := decide (V.ref r0 = V.non) || decide (z.1 * bz.2 < bz.1 * z.2)) (et_or (et_isN rfl) fun _ => et_test (ev_op (ev_op (ev_var rfl) (ev_op (ev_op (ev_var rfl) ev_c (rv_ixT hr4 rfl)) ev_c (rv_ixT hq4 rfl)) (rv_I (.inr ⟨by omega, by omega⟩))) (ev_op (ev_op (ev_op (ev_var rfl) ev_c (rv_ixT hr4 rfl)) ev_c (rv_ixT hq4 rfl)) (ev_var rfl) (rv_I (.inr ⟨by omega, by omega⟩))) (rv_I0 (g := fun i j => .bl (decide (i < j)))))) (fun hb H5 e5 => ?_) (fun hb H5 e5 => ?_)
      · have hl : Less z bz := by
          rw [decide_eq_false (by intro h; cases h), Bool.false_or] at hb
          have hb : z.1 * bz.2 < bz.1 * z.2 := of_decide_eq_true hb
          exact hb
        refine ⟨_, rfl, _, rfl, _, rfl, s1000 (show 2 ≤ 1000 by decide), fun qq nq => ⟨s1000 (show 2 ≤ 1000 by decide), fun rr nr => ?_⟩⟩
        refine ⟨.ref rr, _, _, _, _, rfl, ((sm4.trans e5).trans (same_new nq)).trans (same_new nr), .inr ⟨Nat.succ_pos n, rr, qq, n, z, rfl, .of upd_same, (TK.new nr) _ _ (.of upd_same), z12, best.new hz hl⟩⟩
      · have hl : ¬ Less z bz := by
          rw [decide_eq_false (by intro h; cases h), Bool.false_or] at hb
          have hb : ¬ z.1 * bz.2 < bz.1 * z.2 := of_decide_eq_false hb
          exact hb
        exact ⟨.ref r0, _, _, _, _, rfl, sm4.trans e5, .inr ⟨Nat.succ_pos n, r0, q0, k, bz, rfl, (TK.same e5) _ _ hr4, (TK.same e5) _ _ hq4, b12, best.old hz hl⟩⟩
end
/-! ### the known best limits -/
section
variable {n k : Nat} {p s : Int} {b : By} {x : Int × Int}
theorem nvr_res (h : Kb n p s) {lim : Int} (h1 : (n : Int) * p ≤ lim) (r : Res (kG n p s (bySw (kL n p s) 0 1 lim)) x) : x.1 * ((1 : Nat) : Int) = p * x.2 := by
  have a := never_run h h1 0
  have c := never_run h h1 1
  have e := (res_key (kG_ok h (sw_ok (lim := lim) in0 in1 (by show (n : Int) ≤ 28; have := h.n13; omega))) rfl (y := n - 1) (P := 1) (by
    rw [key_daily rfl, key_daily rfl, c]
    rw [show sim (kG n p s (bySw (kL n p s) 0 1 lim)) (n - 1) = _ from a]) r).1
  rw [c, show sim (kG n p s (bySw (kL n p s) 0 1 lim)) (n - 1) = _ from a] at e
  rw [e]
  congr 1
  show ((n - 1 + 1 : Nat) : Int) * p - ((n - 1 + 0 : Nat) : Int) * p = p
  rw [show ((n - 1 + 1 : Nat) : Int) = ((n - 1 + 0 : Nat) : Int) + 1 by omega, Int.add_mul, Int.one_mul]
  omega
theorem nvr_few (h : Kb n p s) {lim : Int} (h1 : (n : Int) * p ≤ lim) {d : Nat} (f : Fresh (kG n p s (bySw (kL n p s) 0 1 lim)) d) : d ≤ n := by
  have n2 := h.n2
  by_cases z : d ≤ n
  · exact z
  · refine absurd ?_ (f (n - 1) n (by omega) (by omega))
    have a := never_run h h1 0
    have c := never_run h h1 1
    rw [show n - 1 + 1 = n by omega] at c
    rw [key_daily rfl, key_daily rfl, c]
    rw [show sim (kG n p s (bySw (kL n p s) 0 1 lim)) (n - 1) = _ from a]
theorem lim0 (k : Nat) : lmt (kG n p s b) 0 k = (k : Int) * p := rfl
theorem lim1 (k : Nat) : lmt (kG n p s b) 1 k = (k : Int) * kq n p s := rfl
theorem sw_okk (h : Kb n p s) (lim : Int) : (kG n p s (bySw (kL n p s) 0 1 lim)).Ok (MOk 28) := kG_ok h (sw_ok in0 in1 (by show (n : Int) ≤ 28; have := h.n13; omega))
theorem sw_pd' (h : Kb n p s) (hk : k < n) : Pd (swG (kG n p s b) 0 1 (lmt (kG n p s b) 0 k)) (k + n) ((k : Int) * p + kq n p s) := by
  have p1 := h.p1
  exact sw_pd h (lim := (k : Int) * p) hk (Int.le_refl _) (by rw [Int.add_mul, Int.one_mul]; omega)
theorem bl01_few (h : Kb n p s) {d : Nat} (hk : (k : Int) ≤ (pas (kG n p s b).L 1).1) (f : Fresh (swG (kG n p s b) 0 1 (lmt (kG n p s b) 0 k)) d) : d ≤ 12000000 := by
  have hk : (k : Int) ≤ n := hk
  have n13 := h.n13
  by_cases c : k < n
  · have := (sw_pd' h c).few f
    omega
  · obtain rfl : k = n := by omega
    have := nvr_few h (lim := (k : Int) * p) (Int.le_refl _) f
    omega
theorem bl01 (h : Kb n p s) (B : Best (kG n p s b) 0 1 (n + 1) k x) : k = 0 := by
  have p1 := h.p1
  have q := h.q
  have n2 := h.n2
  have s1 := h.s1
  rcases Nat.eq_zero_or_pos k with z | z
  · exact z
  -- there is a price for limit 0
  obtain ⟨y, hy⟩ : ∃ y, Res (swG (kG n p s b) 0 1 (lmt (kG n p s b) 0 0)) y := by
    have pd := sw_pd' (b := b) h (k := 0) (by omega)
    exact res_some pd
  have y0 := ((sw_pd' (b := b) h (k := 0) (by omega)).res (sw_okk h _) rfl hy).1
  have lo := B.lo 0 y z hy
  refine absurd lo (Less.irr (a := y) (b := x) ?_)
  have bl := B.lt
  by_cases c : k < n
  · have xk := ((sw_pd' (b := b) h c).res (sw_okk h _) rfl B.re).1
    refine less_rate y0 xk (by omega) (by omega) hy.pos B.re.pos ?_
    have e0 : ((0 : Nat) : Int) * p + kq n p s = kq n p s := by
      show (0 : Int) * p + _ = _
      omega
    rw [e0]
    have a : kq n p s * ((k + n : Nat) : Int) = kq n p s * (k : Int) + kq n p s * (n : Int) := by
      rw [show ((k + n : Nat) : Int) = (k : Int) + (n : Int) by omega, Int.mul_add]
    have a2 : ((k : Int) * p + kq n p s) * ((0 + n : Nat) : Int) = (k : Int) * ((n : Int) * p) + kq n p s * (n : Int) := by
      rw [show ((0 + n : Nat) : Int) = (n : Int) by omega, Int.add_mul]
      congr 1
      ac_rfl
    rw [a, a2]
    have := Int.mul_lt_mul_of_pos_left q.2.2.1 (show (0 : Int) < k by omega)
    rw [Int.mul_comm (kq n p s) (k : Int)]
    omega
  · obtain rfl : k = n := by omega
    have xk := nvr_res h (lim := (k : Int) * p) (Int.le_refl _) B.re
    refine less_rate y0 xk (by omega) (by decide) hy.pos B.re.pos ?_
    have e0 : ((0 : Nat) : Int) * p + kq k p s = kq k p s := by
      show (0 : Int) * p + _ = _
      omega
    rw [e0, show ((0 + k : Nat) : Int) = (k : Int) by omega, Int.mul_comm p]
    show kq k p s * 1 < _
    omega
end
end Sea

set_option Elab.async false
set_option linter.all false
set_option maxRecDepth 100000
set_option maxHeartbeats 4000000
namespace Sea
open PySem PySem.Spec PyProof.Rows L2 LamX NdefX ClX Evl StX
/-- kept: all but tables and lists -/
def KN (H H' : Hp) : Prop := ∀ b o, H b = some o → (∀ ps, o ≠ .tbl ps) → (∀ xs, o ≠ .lst xs) → H' b = some o
theorem KN.refl (H : Hp) : KN H H := fun _ _ e _ _ => e
theorem KN.trans {H H1 H2 : Hp} (a : KN H H1) (b : KN H1 H2) : KN H H2 := fun x o e n m => b x o (a x o e n m) n m
theorem KN.ex {H H' : Hp} (e : Ex H H') : KN H H' := fun b o h _ _ => e b o h
theorem KN.extN {H H' : Hp} (e : ExtN H H') : KN H H' := fun b o h n _ => e b o h n
theorem KN.but {H : Hp} {D : Addr} {xs ys : List V} (h : H D = some (.lst xs)) : KN H (upd H D (.lst ys)) := fun b o e _ m => by
  rw [upd_ne (fun z => by rw [z, h] at e; cases e; exact m _ rfl)]
  exact e
theorem KN.tk {K : PySem.W.Frag} {H H' : Hp} (k : KN H H') : TK K H H' := fun a xs h => by
  rcases h with (h | ⟨o, h⟩) | h
  · exact .inl (.inl (k _ _ h (fun ps z => by cases z) (fun ys z => by cases z)))
  · exact .inl (.inr ⟨o, k _ _ h (fun ps z => by cases z) (fun ys z => by cases z)⟩)
  · exact .inr h
theorem KN.ins {H H' : Hp} (k : KN H H') {a C dx : Addr} {fs : List (Str × V)} (h : H a = some (.ins C dx fs)) : H' a = some (.ins C dx fs) := k _ _ h (fun ps z => by cases z) (fun ys z => by cases z)
section
variable {K : PySem.W.Frag} {C CV D DF DT DS : Addr} {H H' : Hp} {a b tv t p : Addr} {L : List (Int × Int)} {y : By} {g : Par} {os : List Int}
theorem Tar.kn (h : Tar K C H t p L) (k : KN H H') : Tar K C H' t p L := by
  obtain ⟨⟨dx, h1⟩, h2⟩ := h
  exact ⟨⟨dx, k.ins h1⟩, h2.tk k.tk⟩
theorem Tv.kn {ln : Int} {dv ov : V} {ds : List Int} (h : Tv K CV H a ln dv ov ds os) (k : KN H H') : Tv K CV H' a ln dv ov ds os := by
  obtain ⟨⟨dx, h1⟩, h2, h3⟩ := h
  exact ⟨⟨dx, k.ins h1⟩, h2.tk k.tk, h3.tk k.tk⟩
theorem FixB.kn (h : FixB K C D H a L y) (k : KN H H') : FixB K C D H' a L y := by
  obtain ⟨t, p, i, ⟨dx, h1⟩, h2, h3⟩ := h
  exact ⟨t, p, i, ⟨dx, k.ins h1⟩, h2.kn k, h3⟩
theorem TurnB.kn (h : TurnB K C D H a L y) (k : KN H H') : TurnB K C D H' a L y := by
  obtain ⟨t, p, sq, is, ⟨dx, h1⟩, h2, h3, h4⟩ := h
  exact ⟨t, p, sq, is, ⟨dx, k.ins h1⟩, h2.kn k, k.tk _ _ h3, h4⟩
theorem SwB.kn (h : SwB K C D H a L y) (k : KN H H') : SwB K C D H' a L y := by
  obtain ⟨t, p, i, j, lim, ⟨dx, h1⟩, h2, h3⟩ := h
  exact ⟨t, p, i, j, lim, ⟨dx, k.ins h1⟩, h2.kn k, h3⟩
theorem Deal.kn {B : BuyP} {I : By → List Int → Prop} (d : Deal K CV B I g os H b tv) (k : KN H H') (hB : ∀ {a L y}, B H a L y → B H' a L y) : Deal K CV B I g os H' b tv :=
  ⟨hB d.bu, d.lL, let ⟨dv, ov, h⟩ := d.tv; ⟨dv, ov, h.kn k⟩, d.lo, d.ok, d.few⟩
theorem Deal3.kn (d : Deal3 K C CV DF DT DS g os H b tv) (k : KN H H') : Deal3 K C CV DF DT DS g os H' b tv := by
  rcases d with d | d | d
  · exact .inl (d.kn k fun h => h.kn k)
  · exact .inr (.inl (d.kn k fun h => h.kn k))
  · exact .inr (.inr (d.kn k fun h => h.kn k))
end
theorem Deal.same {K : PySem.W.Frag} {CV : Addr} {B : BuyP} {I : By → List Int → Prop} {g : Par} {os : List Int} {H H' : Hp} {b tv : Addr} (d : Deal K CV B I g os H b tv) (s : Same H H') (hB : ∀ {a L y}, B H a L y → B H' a L y) : Deal K CV B I g os H' b tv :=
  ⟨hB d.bu, d.lL, let ⟨dv, ov, h⟩ := d.tv; ⟨dv, ov, h.same s⟩, d.lo, d.ok, d.few⟩
theorem Deal3.same {K : PySem.W.Frag} {C CV DF DT DS : Addr} {g : Par} {os : List Int} {H H' : Hp} {b tv : Addr} (d : Deal3 K C CV DF DT DS g os H b tv) (s : Same H H') : Deal3 K C CV DF DT DS g os H' b tv := by
  rcases d with d | d | d
  · exact .inl (d.same s fun h => h.same s)
  · exact .inr (.inl (d.same s fun h => h.same s))
  · exact .inr (.inr (d.same s fun h => h.same s))
section
variable {K : PySem.W.Frag} {H H' : Hp}
theorem kn_of {h c : Addr} (d : Ds K H h c) (k : Kh h H H') : KN H H' := by
  obtain ⟨p, m, r, ns, _, e1, _⟩ := d
  intro b o e n m'
  refine k b o e fun z => ?_
  rw [z, e1] at e
  cases e
  exact m' _ rfl
end
/-- a travel is made -/
theorem tv_new {K : PySem.W.Frag} {C cV : Addr} {H : Hp} {Q : VK} {E : XK} {ln : Int} {d o : V} {ds os : List Int} {x dx : Addr} (hd : TiA K H d ds) (ho : TiA K H o os) (ld : ds.length ≤ 1000) (lo : os.length ≤ 1000) (hb : tbad ln ds os = none) (nx : H x = none) (ndx : H dx = none)
    (q : ∀ H', Same H H' → Tv K C H' x ln d o ds os → Q .non H') : spTvI K C cV [V.ref x, .int ln, d, o] (upd (upd H dx (.own x)) x (.ins C dx [])) Q E := by
  have s0 : Same H (upd (upd H dx (.own x)) x (.ins C dx [])) := fun b u e => by
    rw [upd_ne (ne_of_none e nx), upd_ne (ne_of_none e ndx)]
    exact e
  refine ⟨x, dx, ln, d, o, ds, os, rfl, upd_same, hd.tk (.same s0), ho.tk (.same s0), ld, lo, fun _ H' keep at_ => ?_, fun pt i dd H' e => ?_⟩
  · have sm : Same H H' := fun b u e => keep b u (s0 b u e) (ne_of_none e nx)
    exact q H' sm ⟨⟨dx, at_⟩, hd.tk (.same sm), ho.tk (.same sm)⟩
  · rw [hb] at e
    cases e
theorem tbad_ok {ln : Int} {ds os : List Int} (l1 : 1 ≤ ln) (l2 : ln ≤ 14) (g : Good ds (ln - 1)) (n : (ds.length : Int) ≤ ln) (h : Good os 1000000000000000000) (m : os.length ≤ 6) : tbad ln ds os = none := by
  unfold tbad
  rw [if_pos ⟨l1, l2⟩, vbad_good g (by omega), vbad_good h (by omega)]
theorem good_nil {l : Int} : Good [] l := fun j hj => absurd hj (Nat.not_lt_zero _)
/-- all that the law leans on -/
structure Gd (P : Program) (K : PySem.W.Frag) (mg : Str → Option Value) where
  C : Addr
  CV : Addr
  DB : Addr
  DF : Addr
  DT : Addr
  DS : Addr
  S : Addr
  CC : Addr
  ST : Addr
  CO : Addr
  cP : Addr
  cI : Addr
  cV : Addr
  cU : Addr
  cN : Addr
  fI : Addr
  fV : Addr
  fT : Addr
  fTv : Addr
  fVN : Addr
  fVP : Addr
  fVC : Addr
  fP : Addr
  pP : Addr
  fL : Addr
  pL : Addr
  fR : Addr
  pR : Addr
  fRl : Addr
  pRl : Addr
  fRd : Addr
  pRd : Addr
  fEx : Addr
  pEx : Addr
  pT1 : Addr
  fT1 : Addr
  fB1 : Addr
  fC1 : Addr
  fG1 : Addr
  pT2 : Addr
  fT2 : Addr
  fB2 : Addr
  fC2 : Addr
  fG2 : Addr
  pT3 : Addr
  fT3 : Addr
  fB3 : Addr
  fC3 : Addr
  fG3 : Addr
  fFx : Addr
  fTn : Addr
  fSw : Addr
  fBy : Addr
  fSI : Addr
  fSd : Addr
  fTa : Addr
  fSp : Addr
  fPu : Addr
  fFr : Addr
  fCd : Addr
  fSr : Addr
  fSt : Addr
  fD : Addr
  fSx : Addr
  fNot : Addr
  fTo : Addr
  fOpn : Addr
  fHol : Addr
  fAdd : Addr
  fClo : Addr
  fRch : Addr
  fKno : Addr
  fVal : Addr
  fCAt : Addr
  fCom : Addr
  fCvI : Addr
  fCoI : Addr
  fRep : Addr
  pRep : Addr
  fCos : Addr
  fCut : Addr
  fFe : Addr
  fBl : Addr
  fOth : Addr
  eT : Addr
  mc : Value
  mp : Value
  md : Value
  dI : FuncData
  dV : FuncData
  dT : FuncData
  dTv : FuncData
  dVN : FuncData
  dVP : FuncData
  dVC : FuncData
  dP : FuncData
  dL : FuncData
  dR : FuncData
  dRl : FuncData
  dRd : FuncData
  dEx : FuncData
  dT1 : FuncData
  dB1 : FuncData
  dC1 : FuncData
  dG1 : FuncData
  dT2 : FuncData
  dB2 : FuncData
  dC2 : FuncData
  dG2 : FuncData
  dT3 : FuncData
  dB3 : FuncData
  dC3 : FuncData
  dG3 : FuncData
  dFx : FuncData
  dTn : FuncData
  dSw : FuncData
  dBy : FuncData
  dSI : FuncData
  dSd : FuncData
  dTa : FuncData
  dSp : FuncData
  dPu : FuncData
  dFr : FuncData
  dCd : FuncData
  dSr : FuncData
  dSt : FuncData
  dD : FuncData
  dSx : FuncData
  dNot : FuncData
  dTo : FuncData
  dOpn : FuncData
  dHol : FuncData
  dAdd : FuncData
  dClo : FuncData
  dRch : FuncData
  dKno : FuncData
  dVal : FuncData
  dCAt : FuncData
  dCom : FuncData
  dCvI : FuncData
  dCoI : FuncData
  dRep : FuncData
  dCos : FuncData
  dCut : FuncData
  dFe : FuncData
  dBl : FuncData
  dOth : FuncData
  X : TX K mg C cI cU cP fI mc mp
  I : TMk K C fI fT dI dT
  Q : TP K C fP pP dP
  LP : TLp K C fL pL fR pR dL dR
  EV : TEv K mg cV cP fV dV mp
  W : TTv K mg CV fVN dVN
  mkV : Mk K CV fTv
  uTv : Fun K "__init__" "Travel.__init__" sTvI fTv dTv
  kTv : FunD K "__init__" "Travel.__init__" (defArgs sTvI) (defBody sTvI) (defScope sTvI) [] [("exceptions", V.ref eT)] fTv dTv
  eTv : ∃ (o : Obj) (n : Nat), K.lookup eT = some o ∧ o.cls = .type "tuple" ∧ o.data = .seq #[] n
  R : TPr K CV fRl pRl fRd pRd fEx pEx dRl dRd dEx
  DN : TDn K mg fD dD
  VL : TVl K mg fVP fVC cN dVP dVC
  NM : TNm K mg DF DT DS
  K1 : TKf K DF pT1 fT1 fB1 fC1 fG1 dT1 dB1 dC1 dG1
  K2 : TKt K DT pT2 fT2 fB2 fC2 fG2 dT2 dB2 dC2 dG2
  K3 : TKs K DS pT3 fT3 fB3 fC3 fG3 dT3 dB3 dC3 dG3
  MB : TMb P K mg DF DT DS fFx fTn fSw fBy dFx dTn dSw dBy md
  SP : TSg K mg S
  SD : TSd K mg S fSI fSd fTa fVC cN dSI dSd dTa dVC
  PU : TPu K mg
  FR : TFr K mg fFr dFr
  CD : TCd K mg fCd dCd
  ZZ : TAll K mg CV CC ST fSx fVN fRl pRl fRd pRd fEx pEx fNot fTo fOpn fHol fAdd fClo fRch fKno fVal fCAt fCom dSx dVN dRl dRd dEx dNot dTo dOpn dHol dAdd dClo dRch dKno dVal dCAt dCom
  TO : TCo K mg CO CC fCvI fCoI fRep pRep fCos fCut dCvI dCoI dRep dCos dCut
  XF : TFe K mg CO fCoI fCos
  gSp : mg "spend" = some (.ref fSp)
  kSp : PySem.W.keepIn K (.ref fSp) = true
  uSp : Fun K "spend" "spend" sSpd fSp dSp
  gPu : mg "purchases_of" = some (.ref fPu)
  kPu : PySem.W.keepIn K (.ref fPu) = true
  uPu : Fun K "purchases_of" "purchases_of" sPu fPu dPu
  gSr : mg "spent_per_round" = some (.ref fSr)
  kSr : PySem.W.keepIn K (.ref fSr) = true
  uSr : Fun K "spent_per_round" "spent_per_round" sSr fSr dSr
  gFe : mg "first_excess" = some (.ref fFe)
  kFe : PySem.W.keepIn K (.ref fFe) = true
  uFe : Fun K "first_excess" "first_excess" sFe fFe dFe
  gBl : mg "best_limit" = some (.ref fBl)
  kBl : PySem.W.keepIn K (.ref fBl) = true
  uBl : Fun K "best_limit" "best_limit" sBl fBl dBl
  gSt : mg "_law_start" = some (.ref fSt)
  kSt : PySem.W.keepIn K (.ref fSt) = true
  uSt : Fun K "_law_start" "_law_start" sStart fSt dSt
  gOth : mg "_law_others" = some (.ref fOth)
  kOth : PySem.W.keepIn K (.ref fOth) = true
  uOth : Fun K "_law_others" "_law_others" sOth fOth dOth
  m_range : mg "range" = none
  m_tuple : mg "tuple" = none
  m_len : mg "len" = none
  m_int : mg "int" = none
section
variable {P : Program} {K : PySem.W.Frag} {mg : Str → Option Value}
theorem Gd.bSp (G : Gd P K mg) : Binds K G.dSp ["buyer", "travel", "count"] [] := G.uSp.binds (ps := ["buyer", "travel", "count"]) fun _ _ _ _ _ _ us hl => match us, hl with | [_, _, _], _ => rfl
theorem Gd.bPu (G : Gd P K mg) : Binds K G.dPu ["buyer", "travel", "first", "last"] [] := G.uPu.binds (ps := ["buyer", "travel", "first", "last"]) fun _ _ _ _ _ _ us hl => match us, hl with | [_, _, _, _], _ => rfl
theorem Gd.bSr (G : Gd P K mg) : Binds K G.dSr ["buyer", "travel"] [] := G.uSr.binds (ps := ["buyer", "travel"]) fun _ _ _ _ _ _ us hl => match us, hl with | [_, _], _ => rfl
theorem Gd.bFe (G : Gd P K mg) : Binds K G.dFe ["buyer", "travel", "numerator", "denominator"] [] := G.uFe.binds (ps := ["buyer", "travel", "numerator", "denominator"]) fun _ _ _ _ _ _ us hl => match us, hl with | [_, _, _, _], _ => rfl
theorem Gd.bBl (G : Gd P K mg) : Binds K G.dBl ["tariff", "short", "long", "travel"] [] := G.uBl.binds (ps := ["tariff", "short", "long", "travel"]) fun _ _ _ _ _ _ us hl => match us, hl with | [_, _, _, _], _ => rfl
theorem Gd.bSt (G : Gd P K mg) : Binds K G.dSt ["_law_script"] [] := G.uSt.binds (ps := ["_law_script"]) fun _ _ _ _ _ _ us hl => match us, hl with | [_], _ => rfl
theorem Gd.bOth (G : Gd P K mg) : Binds K G.dOth ["_law_n", "_law_price", "_law_saved", "_law_far", "_law_rest"] [] := G.uOth.binds (ps := ["_law_n", "_law_price", "_law_saved", "_law_far", "_law_rest"]) fun _ _ _ _ _ _ us hl => match us, hl with | [_, _, _, _, _], _ => rfl
end
section
variable {P : Program} {w : World} {K : PySem.W.Frag} {mg : Str → Option Value} {base : Heap}
/-- Travel(a, b): the exceptions lack -/
theorem Gd.bTv0 (G : Gd P K mg) : ∃ ds, Vals [V.ref G.eT] ds ∧ Binds K G.dTv ["self", "length", "days", "exceptions"] ds :=
  G.kTv.binds0 (ps := ["self", "length", "days", "exceptions"]) 3 (by simp) rfl fun D doc pm an cdv ct us ks l1 l2 => match us, ks, l1, l2 with
    | [u, v, x], [y], _, _ => ⟨_, _, _, _, _, _, rfl, rfl, rfl⟩
theorem Gd.nil (G : Gd P K mg) (H : Hp) : TiA K H (.ref G.eT) [] := by
  obtain ⟨o, n, h1, h2, h3⟩ := G.eTv
  exact ⟨_, rfl, .inr ⟨o, #[], n, h1, h2, h3, Nat.zero_le _, .nil⟩⟩
def Gd.M (G : Gd P K mg) : TB3 P w K mg base G.C G.CV G.DF G.DT G.DS := ⟨kFix G.K1 G.NM, kTurn G.K2 G.X G.NM, kSw G.K3 G.X G.LP G.NM, ⟨rfl, rfl⟩, ⟨rfl, rfl⟩, ⟨rfl, rfl⟩⟩
theorem g_sp (G : Gd P K mg) : FnOk P w K mg base (L2.CX P w) 7 G.fSp G.dSp ["buyer", "travel", "count"] (spSp3 K G.C G.CV G.DF G.DT G.DS G.cV G.cN) := ok_sp3 G.M G.uSp G.SP G.X G.Q G.W G.R G.EV G.SD
theorem g_sr (G : Gd P K mg) : FnOk P w K mg base (L2.CX P w) 7 G.fSr G.dSr ["buyer", "travel"] (spSr3Q K G.C G.CV G.DF G.DT G.DS) := ok_sr3Q G.M G.uSr G.SP G.X G.Q G.W G.R G.EV G.SD G.FR G.CD
theorem g_pu (G : Gd P K mg) : GFn P w K mg base 7 G.fPu G.dPu ["buyer", "travel", "first", "last"] (spPu3 K G.C G.CV G.DF G.DT G.DS G.cV G.cN) ∧ CFn P w K mg base 7 G.fPu G.dPu ["buyer", "travel", "first", "last"] (spPu3 K G.C G.CV G.DF G.DT G.DS G.cV G.cN) := ok_pu3 G.M G.uPu G.SP G.X G.Q G.W G.R G.EV G.SD G.PU
theorem g_fe (G : Gd P K mg) : FnOk P w K mg base (L2.CX P w) 12 G.fFe G.dFe ["buyer", "travel", "numerator", "denominator"] (spFe K G.CV (FixB K G.C G.DF) IFix) := ok_fe G.uFe G.ZZ G.TO G.XF G.SP G.X G.Q (kFix G.K1 G.NM) G.EV G.SD G.CD
theorem g_bl (G : Gd P K mg) : FnOk P w K mg base (L2.CX P w) 8 G.fBl G.dBl ["tariff", "short", "long", "travel"] (spBl K G.C G.CV) := ok_bl G.uBl (ok_srQ G.uSr G.SP G.X G.Q (kSw G.K3 G.X G.LP G.NM) G.W G.R G.EV G.SD G.FR G.CD) G.uSr G.gSr G.kSr G.MB G.X G.Q G.LP G.VL G.NM G.m_range
end
end Sea

set_option Elab.async false
set_option linter.all false
set_option maxRecDepth 100000
set_option maxHeartbeats 4000000
/-! what k48's law makes; _law_others -/
namespace Sea
open PySem PySem.Spec PyProof.Rows L2 LamX NdefX ClX Evl StX
theorem okP_of {z : Int × Int} (h : PassOk z) : okP z = true := by
  unfold okP
  rw [decide_eq_true h.1, decide_eq_true h.2.1, decide_eq_true h.2.2.1, decide_eq_true h.2.2.2]
  rfl
section
variable {n : Nat} {p s : Int}
theorem Kb.bad (h : Kb n p s) : bad (kL n p s) = none := bad_ok (by show 1 ≤ 2; decide) (by show 2 ≤ 6; decide) fun z hz => okP_of (h.ok z hz)
theorem Kb.bad3 (h : Kb n p s) : Sea.bad (kL3 n p s) = none := bad_ok (by show 1 ≤ 3; decide) (by show 3 ≤ 6; decide) fun z hz => okP_of (h.ok3 z hz)
theorem good_zero {l : Int} (h : 0 ≤ l) : Good [0] l := fun j hj => by
  have : j = 0 := by
    have : j < 1 := hj
    omega
  subst this
  exact ⟨by decide, h, fun z => absurd z (by decide)⟩
/-! the deals -/
section
variable {K : PySem.W.Frag} {C CV DF DT DS : Addr} {H : Hp} {b tv : Addr} {dv ov : V}
theorem deal_fix (h : Kb n p s) {i : Int} (hi : InP (kL n p s) i) {P : Nat} {G : Int} (pd : Pd (kG n p s (byFix i)) P G) (hP : P ≤ 100) (hb : FixB K C DF H b (kL n p s) (byFix i)) (ht : Tv K CV H tv 1 dv ov [0] []) : Deal K CV (FixB K C DF) IFix (kG n p s (byFix i)) [] H b tv :=
  ⟨hb, show 2 ≤ 1000 by decide, ⟨dv, ov, ht⟩, Nat.zero_le _, kG_ok h (fix_ok hi), fun d f => by have := pd.few f; omega⟩
theorem deal_turn (h : Kb n p s) {is : List Int} (hi : ∀ i ∈ is, InP (kL n p s) i) (n0 : is ≠ []) {P : Nat} {G : Int} (pd : Pd (kG n p s (byTurn is)) P G) (hP : P ≤ 100) (hb : TurnB K C DT H b (kL n p s) (byTurn is)) (ht : Tv K CV H tv 1 dv ov [0] []) : Deal K CV (TurnB K C DT) ITn (kG n p s (byTurn is)) [] H b tv :=
  ⟨hb, show 2 ≤ 1000 by decide, ⟨dv, ov, ht⟩, Nat.zero_le _, kG_ok h (turn_ok hi n0), fun d f => by have := pd.few f; omega⟩
theorem deal_sw (h : Kb n p s) {lim : Int} {P : Nat} {G : Int} (pd : Pd (kG n p s (bySw (kL n p s) 0 1 lim)) P G) (hP : P ≤ 100) (hb : SwB K C DS H b (kL n p s) (bySw (kL n p s) 0 1 lim)) (ht : Tv K CV H tv 1 dv ov [0] []) : Deal K CV (SwB K C DS) (fun _ => MOk 28) (kG n p s (bySw (kL n p s) 0 1 lim)) [] H b tv :=
  ⟨hb, show 2 ≤ 1000 by decide, ⟨dv, ov, ht⟩, Nat.zero_le _, sw_okk h lim, fun d f => by have := pd.few f; omega⟩
theorem deal_s (h : Kb n p s) {lim : Int} (h1 : p ≤ lim) (hb : SwB K C DS H b (kL3 n p s) (bySw (kL3 n p s) 0 1 lim)) (ht : Tv K CV H tv 14 dv ov [0] []) : Deal K CV (SwB K C DS) (fun _ => MOk 28) (kS n p s lim) [] H b tv :=
  ⟨hb, show 3 ≤ 1000 by decide, ⟨dv, ov, ht⟩, Nat.zero_le _, kS_ok h lim, fun d f => by have := (kS_pd h h1).few f; omega⟩
end
theorem Pd.turn {g : Par} {I : List Int → Prop} {P : Nat} {G : Int} (h : Pd g P G) (o : g.Ok I) (t : Nat) : (sim g (t * P)).2.2 = (t : Int) * G := by
  have := h.far o t 0
  rw [Nat.zero_add] at this
  rw [this]
  show (0 : Int) + _ = _
  omega
end
section
variable {K : PySem.W.Frag} {C CV cI cV : Addr} {σ : L2.St} {H : Hp} {Q : VK} {E : XK} {n : Nat} {p s : Int} {i j k : Nat}
/-- Tariff((1, p), (n, n * p - s)) -/
theorem rd_tar (h : Kb n p s) (hi : σ[i]? = some (some (.int n))) (hj : σ[j]? = some (some (.int p))) (hk : σ[k]? = some (some (.int s))) (q : ∀ a pa H', Same H H' → Tar K C H' a pa (kL n p s) → Q (.ref a) H') :
    (tCons (tTup (tCons (tC (.int 1)) (tCons (tVar j) tNil))) (tCons (tTup (tCons (tVar i) (tCons (tOp (rI0 fun i j => .int (i - j)) (tOp (rI CMul fun i j => .int (i * j)) (tVar i) (tVar j)) (tVar k)) tNil))) tNil)) σ H fun vs H1 => spMk K C cI vs H1 Q E := by
  have p1 := h.p1
  have p50 := h.p50
  have s2 : 2 ≤ sizeLine := Nat.le_of_lt (small1000 (show 2 ≤ 1000 by decide))
  refine ⟨_, hj, s2, fun a na => ⟨_, hi, _, hi, _, hj, _, _, rfl, rfl, .inr ⟨by omega, by omega⟩, _, hk, _, _, rfl, rfl, s2, fun b nb => ?_⟩⟩
  have sa : Same H (upd H a (.tup [.int 1, .int p])) := same_new na
  have sb := same_new (o := .tup [.int n, .int ((n : Int) * p - s)]) nb
  refine ⟨kL n p s, .cons ⟨a, rfl, .of (sb _ _ upd_same)⟩ (.cons ⟨b, rfl, .of upd_same⟩ .nil), show 2 ≤ 1000 by decide, fun _ x pa H' s' _ ta => q x pa H' ((sa.trans sb).trans s') ta, fun _ _ _ e => ?_⟩
  rw [h.bad] at e
  cases e
/-- .. and (28, 10 ** 6) -/
theorem rd_tar3 (h : Kb n p s) (hi : σ[i]? = some (some (.int n))) (hj : σ[j]? = some (some (.int p))) (hk : σ[k]? = some (some (.int s))) (q : ∀ a pa H', Same H H' → Tar K C H' a pa (kL3 n p s) → Q (.ref a) H') :
    (tCons (tTup (tCons (tC (.int 1)) (tCons (tVar j) tNil))) (tCons (tTup (tCons (tVar i) (tCons (tOp (rI0 fun i j => .int (i - j)) (tOp (rI CMul fun i j => .int (i * j)) (tVar i) (tVar j)) (tVar k)) tNil))) (tCons (tTup (tCons (tC (.int 28)) (tCons (tOp (rI CPow fun i j => .int (i ^ j.toNat)) (tC (.int 10)) (tC (.int 6))) tNil))) tNil))) σ H fun vs H1 => spMk K C cI vs H1 Q E := by
  have p1 := h.p1
  have p50 := h.p50
  have s2 : 2 ≤ sizeLine := Nat.le_of_lt (small1000 (show 2 ≤ 1000 by decide))
  refine ⟨_, hj, s2, fun a na => ⟨_, hi, _, hi, _, hj, _, _, rfl, rfl, .inr ⟨by omega, by omega⟩, _, hk, _, _, rfl, rfl, s2, fun b nb => ⟨_, _, rfl, rfl, ⟨by decide, by decide, by decide⟩, s2, fun c nc => ?_⟩⟩⟩
  have sa : Same H (upd H a (.tup [.int 1, .int p])) := same_new na
  have sb := same_new (o := .tup [.int n, .int ((n : Int) * p - s)]) nb
  have sc := same_new (o := .tup [.int 28, .int 1000000]) nc
  refine ⟨kL3 n p s, .cons ⟨a, rfl, .of (sc _ _ (sb _ _ upd_same))⟩ (.cons ⟨b, rfl, .of (sc _ _ upd_same)⟩ (.cons ⟨c, rfl, .of upd_same⟩ .nil)), show 3 ≤ 1000 by decide, fun _ x pa H' s' _ ta => q x pa H' (((sa.trans sb).trans sc).trans s') ta, fun _ _ _ e => ?_⟩
  rw [h.bad3] at e
  cases e
/-- Travel(1, (0,)), Travel(14, (0,)) -/
theorem rd_tv {eT : Addr} {l : Int} (l1 : 1 ≤ l) (l2 : l ≤ 14) (n0 : ∀ H, TiA K H (.ref eT) []) (q : ∀ a dv H', Same H H' → Tv K CV H' a l dv (.ref eT) [0] [] → Q (.ref a) H') :
    tMake CV (spTvI K CV cV) [.ref eT] E (tCons (tC (.int l)) (tCons (tTup (tCons (tC (.int 0)) tNil)) tNil)) σ H Q := by
  have s1 : 1 ≤ sizeLine := Nat.le_of_lt (small1000 (show 1 ≤ 1000 by decide))
  refine ⟨s1, fun a na => fun x dx nx ndx _ => ?_⟩
  have sa : Same H (upd H a (.tup [.int 0])) := same_new na
  exact tv_new (ds := [0]) (os := []) ⟨a, rfl, .of upd_same⟩ (n0 _) (show 1 ≤ 1000 by decide) (Nat.zero_le _) (tbad_ok l1 l2 (good_zero (by omega)) (by show ((1 : Nat) : Int) ≤ l; omega) good_nil (Nat.zero_le _)) nx ndx fun H' s' tv => ⟨rfl, q x _ H' (sa.trans s') tv⟩
end
/-! buyers as expressions; what they spend -/
section
variable {K : PySem.W.Frag} {C CV D DF DT DS cU cN cV : Addr} {σ : L2.St} {H : Hp} {E : XK} {t pa : Addr} {L : List (Int × Int)} {j : Nat}
theorem ed_fix {i : Int} (hs : σ[j]? = some (some (.ref t))) (ta : Tar K C H t pa L) (hi : InP L i) : EvD (tMake D (spFxI K C D cU) [] E (tCons (tVar j) (tCons (tC (.int i)) tNil))) σ H fun v H1 => ∃ b, v = .ref b ∧ FixB K C D H1 b L (byFix i) := fun H1 e Q q =>
  ⟨_, hs, fun x dx nx ndx _ => fx_mk (ta.same e) nx ndx (fun _ H2 s2 b _ => ⟨rfl, q (.ref x) H2 s2 ⟨x, rfl, b⟩⟩) (fun n => absurd hi n)⟩
theorem ed_turn {tr : TA} {is : List Int} (hl : is.length ≤ 1000) (hs : σ[j]? = some (some (.ref t))) (ta : Tar K C H t pa L) (ha : EvA tr σ H (is.map V.int)) (n0 : is ≠ []) (hi : ∀ i ∈ is, InP L i) :
    EvD (tMakeR D (fun vs H Q E => ∃ ws rest, vs = ws ++ rest ∧ ws.length = (["self", "tariff"] : List Str).length ∧ rest.length ≤ sizeLine ∧ ∀ p, H p = Option.none → spTnI K C D cU cN (ws ++ [V.ref p]) (upd H p (.tup rest)) Q E) E (tCons (tVar j) tr)) σ H fun v H1 => ∃ b, v = .ref b ∧ TurnB K C D H1 b L (byTurn is) := fun H1 e Q q =>
  ⟨_, hs, ha H1 e _ fun H2 e2 => fun x dx nx ndx _ => tn_mk hl (ta.same (e.trans e2)) nx ndx (fun _ _ sq H3 s3 b _ => ⟨rfl, q (.ref x) H3 (e2.trans s3) ⟨x, rfl, b⟩⟩) (fun n => absurd n n0) (fun ⟨z, hz, n⟩ => absurd (hi z hz) n)⟩
theorem ed_sw {tl : TE} {i k lim : Int} {m : Nat} (hm : m = 1) (hs : σ[j]? = some (some (.ref t))) (ta : Tar K C H t pa L) (hi : InP L i) (hk : InP L k) (hl : Ev tl σ H (.int lim)) (h0 : 0 ≤ lim ∧ lim ≤ 1000000000) :
    EvD (tMakeK D 3 m (spSwI K C D cU cN) (fun vs zs => vs ++ zs) E (tCons (tVar j) (tCons (tC (.int i)) (tCons (tC (.int k)) tNil))) (tCons tl tNil)) σ H fun v H1 => ∃ b, v = .ref b ∧ SwB K C D H1 b L (bySw L i k lim) := fun H1 e Q q =>
  ⟨_, hs, hl H1 e _ fun H2 e2 => ⟨rfl, hm.symm, fun x dx nx ndx _ => sw_mk (ta.same (e.trans e2)) nx ndx (fun _ _ _ H3 s3 b _ => ⟨rfl, q (.ref x) H3 (e2.trans s3) ⟨x, rfl, b⟩⟩) (fun n => absurd ⟨hi, hk⟩ n) (fun _ _ n => absurd h0 n)⟩⟩
theorem s_asgD {te : TE} {D : Ends} {i : Nat} {P : V → Hp → Prop} (h : EvD te σ H P) (k : ∀ v H1, Ex H H1 → P v H1 → D.nx (σ.set i (some v)) H1) : tAsg te (gName i) D σ H := h H (Ex.refl H) _ fun v H1 e p => k v H1 e p
/-- spend(b, tv, k) -/
theorem ev_spd {g : Par} {tb tt tc : TE} {B T : V → Hp → Prop} {k : Nat} (hb : EvD tb σ H B) (ht : EvD tt σ H T) (hc : Ev tc σ H (.int (k : Int))) (hk : k ≤ 1000000000000000000) (sb : ∀ v H1 H2, B v H1 → Same H1 H2 → B v H2) (st : ∀ v H1 H2, T v H1 → Same H1 H2 → T v H2)
    (dl : ∀ v u H1, Ex H H1 → B v H1 → T u H1 → ∃ b tv, v = .ref b ∧ u = .ref tv ∧ Deal3 K C CV DF DT DS g [] H1 b tv) : Ev (tCall (spSp3 K C CV DF DT DS cV cN) [] E (tCons tb (tCons tt (tCons tc tNil)))) σ H (.int (sim g k).2.2) := fun H1 e Q q =>
  hb H1 e _ fun v H2 e2 hv => ht H2 (e.trans e2) _ fun u H3 e3 hu => hc H3 ((e.trans e2).trans e3) _ fun H4 e4 => by
    obtain ⟨b, tv, rfl, rfl, d⟩ := dl v u H4 (((e.trans e2).trans e3).trans e4) (sb _ _ _ hv (e3.trans e4)) (st _ _ _ hu e4)
    exact ⟨b, tv, k, g, [], rfl, d, fun _ _ H5 s5 => q H5 (((e2.trans e3).trans e4).trans s5), fun _ nb => absurd ⟨by omega, by omega⟩ nb, fun z => absurd rfl z⟩
/-- .. of things that stand in variables -/
theorem ev_spV {g : Par} {tc : TE} {k i : Nat} {b tv : Addr} (hb : σ[i]? = some (some (.ref b))) (ht : σ[j]? = some (some (.ref tv))) (hc : Ev tc σ H (.int (k : Int))) (hk : k ≤ 1000000000000000000) (dl : ∀ H1, Ex H H1 → Deal3 K C CV DF DT DS g [] H1 b tv) :
    Ev (tCall (spSp3 K C CV DF DT DS cV cN) [] E (tCons (tVar i) (tCons (tVar j) (tCons tc tNil)))) σ H (.int (sim g k).2.2) :=
  ev_spd (B := fun v _ => v = .ref b) (T := fun v _ => v = .ref tv) (ed_of (ev_var hb) fun _ _ => rfl) (ed_of (ev_var ht) fun _ _ => rfl) hc hk (fun _ _ _ h _ => h) (fun _ _ _ h _ => h) fun v u H1 e h1 h2 => ⟨b, tv, h1, h2, dl H1 e⟩
end
abbrev NOt : List Str := ["_law_n", "_law_price", "_law_saved", "_law_far", "_law_rest", "_law_tariff", "_law_travel", "_law_three", "_law_longer", "_law_seldom"]
theorem scOth : FnScope NOt ["_law_n", "_law_price", "_law_saved", "_law_far", "_law_rest"] (defScope sOth) := ⟨rfl, rfl, rfl, by decide +kernel, rfl, by decide +kernel, by decide +kernel⟩
def spOth : Sp := fun vs H Q _ => ∃ (n : Nat) (p s rest : Int) (far : Nat), vs = [.int n, .int p, .int s, .int far, .int rest] ∧ Kb n p s ∧ far < 1000000000000000 ∧ 0 ≤ rest ∧ rest < p ∧ ∀ H', Same H H' → Q (.bl true) H'
section
variable {P : Program} {w : World} {K : PySem.W.Frag} {mg : Str → Option Value} {base : Heap}
theorem ok_oth (G : Gd P K mg) : FnOk P w K mg base CX0 10 G.fOth G.dOth ["_law_n", "_law_price", "_law_saved", "_law_far", "_law_rest"] spOth := by
  obtain ⟨dsT, rT, bT⟩ := G.bTv0
  obtain ⟨c1, d1, uF, sF⟩ := G.MB.uF
  obtain ⟨c2, d2, uT, sT⟩ := G.MB.uT
  obtain ⟨c3, d3, uS, sS⟩ := G.MB.uS
  refine G.uOth.ok scOth (fun vs H Q E h => ?_) (fun cdv A outer s H vs Q E hr h => ?_)
  · obtain ⟨n, p, s, rest, far, rfl, _⟩ := h
    rfl
  · have h5 := hr.mono (show 5 ≤ 9 by decide)
    have h6 := hr.mono (show 6 ≤ 9 by decide)
    have h7 := hr.mono (show 7 ≤ 9 by decide)
    refine ⟨_, pss_cut (ps_par (i := 5) (j := 6) rfl scOth.nd rfl rfl (by decide) rfl rfl (pa_cons (pe_tar G.X G.I h5 passL (by rfl) (pa_cons (pe_tup (pa_cons pe_int (pa_cons (pv 1) pa_nil))) (pa_cons (pe_tup (pa_cons (pv 0) (pa_cons (pe_op op_sub (pe_op op_mul (pv 0) (pv 1)) (pv 2)) pa_nil))) pa_nil)))
          (pa_cons (pe_make (E := E0) G.mkV (ok_tvI G.uTv G.EV G.W) h6 (by rfl) G.W.gC bT rT passL (pa_cons pe_int (pa_cons (pe_tup (pa_cons pe_int pa_nil)) pa_nil))) pa_nil)) (by rfl))
      (pss_cut (ps_set (i := 7) scOth.nd rfl (.inl rfl) (pe_makeR (E := E0) G.MB.mkT (ok_tnI uT sT G.MB.uB G.X G.Q G.VL G.NM.cT G.NM.tO G.NM.tS) h6 (by rfl) G.MB.gT passL (pa_cons (pv 5) (pa_cons pe_int (pa_cons pe_int (pa_cons pe_int (pa_cons pe_int pa_nil)))))))
      (pss_cut (ps_if (pt_cmpR op_ne (pe_call (E := E0) (g_sp G) h7 (by rfl) G.gSp G.kSp G.bSp .nil passL (pa_cons (pv 7) (pa_cons (pv 6) (pa_cons (pe_op op_mul (pv 3) (pe_op op_add (pv 0) pe_int)) pa_nil)))) (pe_op op_mul (pv 3) (pe_op op_sub (pe_op op_mul (pe_op op_add (pv 0) pe_int) (pv 1)) (pv 2))) (nomark _)) (pss_one (ps_ret pe_bl)) pss_nil)
      (pss_cut (ps_if (pt_cmpR op_ne (pe_call (E := E0) (g_sp G) h7 (by rfl) G.gSp G.kSp G.bSp .nil passL (pa_cons (pe_make (E := E0) G.MB.mkF (ok_fxI uF sF G.MB.uB G.X G.Q G.VL G.NM.cF G.NM.fO G.NM.fF) h6 (by rfl) G.MB.gF (b_fx uF) .nil passL (pa_cons (pv 5) (pa_cons pe_int pa_nil))) (pa_cons (pv 6) (pa_cons (pe_op op_pow pe_int pe_int) pa_nil)))) (pe_op op_mul (pe_op op_pow pe_int pe_int) (pv 1)) (nomark _)) (pss_one (ps_ret pe_bl)) pss_nil)
      (pss_cut (ps_set (i := 8) scOth.nd rfl (.inl rfl) (pe_tar G.X G.I h5 passL (by rfl) (pa_cons (pe_tup (pa_cons pe_int (pa_cons (pv 1) pa_nil))) (pa_cons (pe_tup (pa_cons (pv 0) (pa_cons (pe_op op_sub (pe_op op_mul (pv 0) (pv 1)) (pv 2)) pa_nil))) (pa_cons (pe_tup (pa_cons pe_int (pa_cons (pe_op op_pow pe_int pe_int) pa_nil))) pa_nil)))))
      (pss_cut (ps_set (i := 9) scOth.nd rfl (.inl rfl) (pe_makeK (E := E0) G.MB.mkS (ok_swI uS sS G.MB.uB G.X G.Q G.VL G.NM.cS G.NM.sO G.NM.sS G.NM.sL G.NM.sM G.MB.gS G.MB.cr G.MB.vM) h6 (by rfl) G.MB.gS (kb_sw uS) passL (pa_cons (pv 8) (pa_cons pe_int (pa_cons pe_int pa_nil))) (pk_cons (pe_op op_add (pv 1) (pv 4)) pk_nil)))
      (pss_one (ps_ret (pe_cmpR op_eq (pe_call (E := E0) (g_sp G) h7 (by rfl) G.gSp G.kSp G.bSp .nil passL (pa_cons (pv 9) (pa_cons (pe_make (E := E0) G.mkV (ok_tvI G.uTv G.EV G.W) h6 (by rfl) G.W.gC bT rT passL (pa_cons pe_int (pa_cons (pe_tup (pa_cons pe_int pa_nil)) pa_nil))) (pa_cons (pe_op op_mul pe_int (pv 3)) pa_nil)))) (pe_op op_mul (pv 3) (pv 1)) (nomark _))))))))), ?_⟩
    obtain ⟨n, p, s, rest, far, rfl, kb, hf, r0, r1, q⟩ := h
    have n2 := kb.n2
    have n13 := kb.n13
    have p1 := kb.p1
    have p50 := kb.p50
    have ok18 : ∀ {x : Int}, 0 ≤ x → x ≤ 1000000000000000000 → 0 ≤ x ∧ x ≤ 1000000000000000000 := fun a b => ⟨a, b⟩
    -- the tariff, the travel
    refine ⟨fun σ H' => ∃ t pa tv dv, σ = ([some (.int n), some (.int p), some (.int s), some (.int far), some (.int rest), some (.ref t), some (.ref tv), none, none, none] : L2.St) ∧ Same H H' ∧ Tar K G.C H' t pa (kL n p s) ∧ Tv K G.CV H' tv 1 dv (.ref G.eT) [0] [], ?_, ?_⟩
    · refine rd_tar kb rfl rfl rfl fun t pa H1 s1 ta => rd_tv (by decide) (by decide) G.nil fun tv dv H2 s2 ht => ⟨_, _, rfl, t, pa, tv, dv, rfl, s1.trans s2, ta.same s2, ht⟩
    rintro σ H1 ⟨t, pa, tv, dv, rfl, s1, ta, ht⟩
    -- four in turn
    refine ⟨fun σ H' => ∃ b, σ = ([some (.int n), some (.int p), some (.int s), some (.int far), some (.int rest), some (.ref t), some (.ref tv), some (.ref b), none, none] : L2.St) ∧ Same H H' ∧ Tar K G.C H' t pa (kL n p s) ∧ Tv K G.CV H' tv 1 dv (.ref G.eT) [0] [] ∧ TurnB K G.C G.DT H' b (kL n p s) (byTurn [0, 0, 0, 1]), ?_, ?_⟩
    · refine s_asgD (ed_turn (is := [0, 0, 0, 1]) (show 4 ≤ 1000 by decide) rfl ta (ea_cons ev_c (ea_cons ev_c (ea_cons ev_c (ea_cons ev_c ea_nil)))) (by decide) fun i hi => ?_) fun v H2 e2 ⟨b, hv, hb⟩ => ⟨b, by rw [hv]; rfl, s1.trans e2, ta.same e2, ht.same e2, hb⟩
      simp only [List.mem_cons, List.not_mem_nil, or_false] at hi
      rcases hi with rfl | rfl | rfl | rfl <;> first | exact in0 | exact in1
    clear s1 ta ht
    rintro σ H1 ⟨b, rfl, s1, ta, ht, hb⟩
    have F0 : 0 ≤ (far : Int) := Int.natCast_nonneg far
    refine ⟨fun σ H' => σ = ([some (.int n), some (.int p), some (.int s), some (.int far), some (.int rest), some (.ref t), some (.ref tv), some (.ref b), none, none] : L2.St) ∧ Same H H' ∧ Tar K G.C H' t pa (kL n p s) ∧ Tv K G.CV H' tv 1 dv (.ref G.eT) [0] [], ?_, ?_⟩
    · have hi : ∀ i ∈ ([0, 0, 0, 1] : List Int), InP (kL n p s) i := fun i hi => by
        simp only [List.mem_cons, List.not_mem_nil, or_false] at hi
        rcases hi with rfl | rfl | rfl | rfl <;> first | exact in0 | exact in1
      have dl : ∀ H2, Ex H1 H2 → Deal3 K G.C G.CV G.DF G.DT G.DS (kG n p s (byTurn [0, 0, 0, 1])) [] H2 b tv := fun H2 e2 => .inr (.inl (deal_turn kb hi (by decide) (three_pd kb) (by omega) (hb.same e2) (ht.same e2)))
      have tot := (three_pd kb).turn (kG_ok kb (turn_ok hi (by decide))) far
      have cm : ∀ z : Int, CMul (far : Int) z := fun z => .inl ⟨by omega, by omega⟩
      have fn : far * (n + 3) ≤ 1000000000000000000 := Nat.le_trans (Nat.mul_le_mul (Nat.le_of_lt hf) (show n + 3 ≤ 16 by omega)) (by decide)
      have ec : (far : Int) * ((n : Int) + 3) = ((far * (n + 3) : Nat) : Int) := by
        rw [Int.natCast_mul]
        rfl
      refine s_when (b := false) (et_is (et_test (ev_op (ev_spV rfl rfl (ev_is (ev_op (ev_var rfl) (ev_op (ev_var rfl) ev_c (rv_I0 (g := fun i j => .int (i + j)))) (rv_I (g := fun i j => .int (i * j)) (cm _))) (congrArg V.int ec)) fn dl) (ev_op (ev_var rfl) (ev_op (ev_op (ev_op (ev_var rfl) ev_c (rv_I0 (g := fun i j => .int (i + j)))) (ev_var rfl) (rv_I (g := fun i j => .int (i * j)) (.inl ⟨by omega, by omega⟩))) (ev_var rfl) (rv_I0 (g := fun i j => .int (i - j)))) (rv_I (g := fun i j => .int (i * j)) (cm _))) (rv_ne rfl))) ?_) (fun z => by cases z) fun _ H2 e2 => ⟨rfl, s1.trans e2, ta.same e2, ht.same e2⟩
      rw [tot, show p + p + p + kq n p s = ((n : Int) + 3) * p - s by unfold kq; rw [Int.add_mul]; omega]
      simp
    clear s1 ta ht hb
    rintro σ H1 ⟨rfl, s1, ta, ht⟩
    -- 10 ** 18 days
    refine ⟨fun σ H' => σ = ([some (.int n), some (.int p), some (.int s), some (.int far), some (.int rest), some (.ref t), some (.ref tv), some (.ref b), none, none] : L2.St) ∧ Same H H', ?_, ?_⟩
    · have tot := (one_pd kb).turn (kG_ok kb (fix_ok in0)) 1000000000000000000
      refine s_when (b := false) (et_is (et_test (ev_op (ev_spd (k := 1000000000000000000) (T := fun v H2 => v = .ref tv ∧ Tv K G.CV H2 tv 1 dv (.ref G.eT) [0] []) (ed_fix rfl ta in0) (ed_of (ev_var rfl) fun H2 e2 => ⟨rfl, ht.same e2⟩) (ev_op ev_c ev_c (rv_I (C := CPow) (g := fun i j => .int (i ^ j.toNat)) (i := 10) (j := 18) ⟨by decide, by decide, by decide⟩)) (by decide) (fun v H1 H2 ⟨b, h1, h2⟩ s2 => ⟨b, h1, h2.same s2⟩) (fun v H1 H2 h s2 => ⟨h.1, h.2.same s2⟩) fun v u H2 e2 ⟨b, h1, h2⟩ ⟨h3, h4⟩ => ⟨b, tv, h1, h3, .inl (deal_fix kb in0 (one_pd kb) (by decide) h2 h4)⟩) (ev_op (ev_op ev_c ev_c (rv_I (C := CPow) (g := fun i j => .int (i ^ j.toNat)) (i := 10) (j := 18) ⟨by decide, by decide, by decide⟩)) (ev_var rfl) (rv_I (g := fun i j => .int (i * j)) (.inr ⟨by omega, by omega⟩))) (rv_ne rfl))) ?_) (fun z => by cases z) fun _ H2 e2 => ⟨rfl, s1.trans e2⟩
      rw [show (1000000000000000000 : Nat) = 1000000000000000000 * 1 from rfl, tot]
      simp
    clear s1 ta ht
    rintro σ H1 ⟨rfl, s1⟩
    -- somebody who travels seldom
    refine ⟨fun σ H' => ∃ l pl, σ = ([some (.int n), some (.int p), some (.int s), some (.int far), some (.int rest), some (.ref t), some (.ref tv), some (.ref b), some (.ref l), none] : L2.St) ∧ Same H H' ∧ Tar K G.C H' l pl (kL3 n p s), ?_, ?_⟩
    · exact rd_tar3 kb rfl rfl rfl fun l pl H2 s2 tl => ⟨l, pl, rfl, s1.trans s2, tl⟩
    clear s1
    rintro σ H1 ⟨l, pl, rfl, s1, tl⟩
    refine ⟨fun σ H' => ∃ bs, σ = ([some (.int n), some (.int p), some (.int s), some (.int far), some (.int rest), some (.ref t), some (.ref tv), some (.ref b), some (.ref l), some (.ref bs)] : L2.St) ∧ Same H H' ∧ SwB K G.C G.DS H' bs (kL3 n p s) (bySw (kL3 n p s) 0 1 (p + rest)), ?_, ?_⟩
    · exact s_asgD (ed_sw rfl rfl tl in30 in31 (ev_op (ev_var rfl) (ev_var rfl) (rv_I0 (g := fun i j => .int (i + j)))) ⟨by omega, by omega⟩) fun v H2 e2 ⟨b, hv, hb⟩ => ⟨b, by rw [hv]; rfl, s1.trans e2, hb⟩
    clear s1 tl
    rintro σ H1 ⟨bs, rfl, s1, hb⟩
    have F0 : 0 ≤ (far : Int) := Int.natCast_nonneg far
    have tot := (kS_pd kb (lim := p + rest) (by omega)).turn (kS_ok kb _) far
    have ec : (14 : Int) * (far : Int) = ((far * 14 : Nat) : Int) := by
      rw [Int.natCast_mul, Int.mul_comm]
      rfl
    have td : EvD (tMake G.CV (spTvI K G.CV G.cV) [V.ref G.eT] E0 (tCons (tC (.int 14)) (tCons (tTup (tCons (tC (.int 0)) tNil)) tNil))) ([some (.int n), some (.int p), some (.int s), some (.int far), some (.int rest), some (.ref t), some (.ref tv), some (.ref b), some (.ref l), some (.ref bs)] : L2.St) H1 (fun v H2 => ∃ a dv, v = .ref a ∧ Tv K G.CV H2 a 14 dv (.ref G.eT) [0] []) := fun H2 e2 Q2 q2 => rd_tv (by decide) (by decide) G.nil fun a dv H3 s3 ht => q2 (.ref a) H3 s3 ⟨a, dv, rfl, ht⟩
    refine s_ret (v := .bl true) (ev_is (ev_op (ev_spd (k := far * 14) (B := fun v H2 => v = .ref bs ∧ SwB K G.C G.DS H2 bs (kL3 n p s) (bySw (kL3 n p s) 0 1 (p + rest))) (ed_of (ev_var rfl) fun H2 e2 => ⟨rfl, hb.same e2⟩) td (ev_is (ev_op ev_c (ev_var rfl) (rv_I (g := fun i j => .int (i * j)) (.inl ⟨by decide, by decide⟩))) (congrArg V.int ec)) (by omega) (fun v H1 H2 h s2 => ⟨h.1, h.2.same s2⟩) (fun v H1 H2 ⟨a, dv, h1, h2⟩ s2 => ⟨a, dv, h1, h2.same s2⟩) fun v u H2 e2 ⟨h1, h2⟩ ⟨a, dv, h3, h4⟩ => ⟨bs, a, h1, h3, .inr (.inr (deal_s kb (by omega) h2 h4))⟩) (ev_op (ev_var rfl) (ev_var rfl) (rv_I (g := fun i j => .int (i * j)) (.inl ⟨by omega, by omega⟩))) (rv_eq rfl)) ?_) fun H2 e2 => q H2 (s1.trans e2)
    rw [tot]
    simp
end
end Sea

set_option Elab.async false
set_option linter.all false
set_option maxRecDepth 100000
set_option maxHeartbeats 4000000
/-! k48's law: its expressions -/
namespace Sea
open PySem PySem.Spec PyProof.Rows L2 LamX NdefX ClX Evl StX
/-- the draws, the tariff, the travel -/
structure KW (K : PySem.W.Frag) (C CV eT h a0 t pa tv : Addr) (dv : V) (n : Nat) (p s : Int) (H : Hp) : Prop where
  d : Ds K H h a0
  ta : Tar K C H t pa (kL n p s)
  tv : Tv K CV H tv 1 dv (.ref eT) [0] []
section
variable {K : PySem.W.Frag} {C CV DF DT DS eT h a0 t pa tv cV cN : Addr} {dv : V} {n : Nat} {p s : Int} {H H' : Hp} {σ : L2.St} {E : XK} {i j : Nat} {b : Addr}
theorem KW.same (c : KW K C CV eT h a0 t pa tv dv n p s H) (e : Same H H') : KW K C CV eT h a0 t pa tv dv n p s H' := ⟨c.d.same e, c.ta.same e, c.tv.same e⟩
theorem KW.kh (c : KW K C CV eT h a0 t pa tv dv n p s H) (k : Kh h H H') (d : Ds K H' h a0) : KW K C CV eT h a0 t pa tv dv n p s H' := ⟨d, c.ta.kn (kn_of c.d k), c.tv.kn (kn_of c.d k)⟩
theorem s_parD {ta tb : TE} {D : Ends} {P1 P2 : V → Hp → Prop} (h1 : EvD ta σ H P1) (h2 : ∀ H1, Ex H H1 → EvD tb σ H1 P2) (k : ∀ v w H1 H2, Ex H H1 → Ex H1 H2 → P1 v H1 → P2 w H2 → D.nx ((σ.set i (some v)).set j (some w)) H2) : tPar i j (tCons ta (tCons tb tNil)) D σ H :=
  h1 H (Ex.refl _) _ fun v H1 e1 p1 => h2 H1 e1 H1 (Ex.refl _) _ fun w H2 e2 p2 => ⟨_, _, rfl, k v w H1 H2 e1 e2 p1 p2⟩
/-- spent_per_round(b, tv) -/
theorem ed_srQ {g : Par} (hb : σ[i]? = some (some (.ref b))) (ht : σ[j]? = some (some (.ref tv))) (dl : ∀ H1, Ex H H1 → Deal3 K C CV DF DT DS g [] H1 b tv) :
    EvD (tCall (spSr3Q K C CV DF DT DS) [] E (tCons (tVar i) (tCons (tVar j) tNil))) σ H fun v H1 => ∃ r x, v = .ref r ∧ Res g x ∧ H1 r = some (.tup [.int x.1, .int x.2]) := fun H1 e Q q =>
  ⟨_, hb, _, ht, ⟨b, tv, g, rfl, dl H1 e, fun r x H2 s2 hx _ hr => q (.ref r) H2 s2 ⟨r, x, rfl, hx, hr⟩⟩⟩
theorem one_res (h : Kb n p s) {x : Int × Int} (r : Res (kG n p s (byFix 0)) x) : x = (p, 1) := by
  obtain ⟨e, g⟩ := (one_pd h).res (kG_ok h (fix_ok in0)) rfl r
  have x0 := r.pos
  obtain ⟨u, v⟩ := x
  have e : u * ((1 : Nat) : Int) = p * v := e
  have e : u = p * v := by
    rw [← e]
    show u = u * 1
    omega
  have g : Int.gcd u v = 1 := g
  have x0 : 0 < v := x0
  rw [e, Int.mul_comm, Int.gcd_comm, Int.gcd_mul_right_right] at g
  have v1 : v = 1 := by omega
  rw [e, v1, Int.mul_one]
theorem ev_one (h : Kb n p s) (hb : σ[i]? = some (some (.ref b))) (ht : σ[j]? = some (some (.ref tv))) (bu : FixB K C DF H b (kL n p s) (byFix 0)) (tt : Tv K CV H tv 1 dv (.ref eT) [0] []) :
    EvDp K (tCall (spSr3Q K C CV DF DT DS) [] E (tCons (tVar i) (tCons (tVar j) tNil))) σ H (.tuple [.int p, .int 1]) := fun H1 e Q q =>
  ed_srQ (g := kG n p s (byFix 0)) hb ht (fun H2 e2 => .inl (deal_fix h in0 (one_pd h) (by decide) (bu.same e2) (tt.same e2))) H1 e _ fun v H2 e2 ⟨r, x, hv, hx, hr⟩ => by
    obtain rfl := one_res h hx
    subst hv
    exact q (.ref r) H2 e2 (.tup (.of hr) (intsDp [p, 1]))
/-- first_excess(b, tv, nu, de) -/
theorem fe_in {g : Par} {nu de : Int} {Q : VK} (dl : Deal K CV (FixB K C DF) IFix g [] H b tv) (n1 : 1 ≤ nu) (n2 : nu ≤ 1000) (d1 : 1 ≤ de) (d2 : de ≤ 1000) (fs : ∀ d, Fresh g d → d ≤ 100) (fc : ∀ R, Reach g R → ∀ d, FreshC g R d → d ≤ 41)
    (q : ∀ R, Reach g R → (∀ (n : Nat) H', Same H H' → 0 < exs g R nu de n → (∀ k, k < n → exs g R nu de k ≤ 0) → Q (.int n) H') ∧ ((∀ k, exs g R nu de k ≤ 0) → ∀ H', Same H H' → Q .non H')) : spFe K CV (FixB K C DF) IFix [.ref b, .ref tv, .int nu, .int de] H Q E :=
  ⟨b, tv, g, nu, de, 41, 100, rfl, dl, n1, n2, d1, d2, by decide, by decide, by decide, fs, fc, q⟩
theorem ev_fe1 (h : Kb n p s) (hb : σ[i]? = some (some (.ref b))) (ht : σ[j]? = some (some (.ref tv))) (bu : FixB K C DF H b (kL n p s) (byFix 0)) (tt : Tv K CV H tv 1 dv (.ref eT) [0] []) :
    Ev (tCall (spFe K CV (FixB K C DF) IFix) [] E (tCons (tVar i) (tCons (tVar j) (tCons (tC (.int 1)) (tCons (tC (.int 1)) tNil))))) σ H (.int (n : Int)) := fun H1 e Q q =>
  ⟨_, hb, _, ht, fe_in (E := E) (deal_fix h in0 (one_pd h) (by decide) (bu.same e) (tt.same e)) (by decide) (by decide) (by decide) (by decide) (fun d f => by have := (one_pd h).few f; omega) (fun R hR d f => kc_few h hR f) fun R hR => ⟨fun m H2 s2 h1 h2 => by
    rw [ex_one (one_ex h hR) ⟨h1, h2⟩]
    exact q H2 s2, fun z => absurd (z n) (by have := (one_ex h hR).1; omega)⟩⟩
theorem ev_fe2 (h : Kb n p s) (hb : σ[i]? = some (some (.ref b))) (ht : σ[j]? = some (some (.ref tv))) (bu : FixB K C DF H b (kL n p s) (byFix 1)) (tt : Tv K CV H tv 1 dv (.ref eT) [0] []) :
    Ev (tCall (spFe K CV (FixB K C DF) IFix) [] E (tCons (tVar i) (tCons (tVar j) (tCons (tC (.int 1000)) (tCons (tC (.int 1)) tNil))))) σ H .non := fun H1 e Q q =>
  have n13 := h.n13
  ⟨_, hb, _, ht, fe_in (E := E) (deal_fix h in1 (all_pd h) (by omega) (bu.same e) (tt.same e)) (by decide) (by decide) (by decide) (by decide) (fun d f => by have := (all_pd h).few f; omega) (fun R hR d f => kc_few h hR f) fun R hR => ⟨fun m H2 s2 h1 h2 => by
    have := all_ex h hR m
    omega, fun z H2 s2 => q H2 s2⟩⟩
/-- best_limit(t, i, j, tv)[0] -/
theorem bl_in {g : Par} {i j : Int} {dv ov : V} {Q : VK} (ta : Tar K C H t pa g.L) (lL : g.L.length ≤ 1000) (ok : ∀ z ∈ g.L, PassOk z) (tt : Tv K CV H tv g.ln dv ov g.ds []) (l1 : 1 ≤ g.ln) (l2 : g.ln ≤ 14) (hi : InP g.L i) (hj : InP g.L j)
    (few : ∀ (k : Nat) d, (k : Int) ≤ (pas g.L j).1 → Fresh (swG g i j (lmt g i k)) d → d ≤ 12000000) (q : ∀ v H', Same H H' → BlA K g i j ((pas g.L j).1 + 1).toNat H' v → Q v H') : spBl K C CV [.ref t, .int i, .int j, .ref tv] H Q E :=
  ⟨t, pa, tv, i, j, g, dv, ov, rfl, ta, lL, ok, tt, l1, l2, hi, hj, few, q⟩
theorem bl10 (h : Kb n p s) {g : By} {k : Nat} {x : Int × Int} (B : Best (kG n p s g) 1 0 2 k x) : k = 1 := by
  have p1 := h.p1
  have q := h.q
  have n2 := h.n2
  rcases Nat.eq_zero_or_pos k with z | z
  · subst z
    have e0 : swG (kG n p s g) 1 0 (lmt (kG n p s g) 1 0) = kG n p s (bySw (kL n p s) 1 0 0) := by
      unfold swG
      rw [lim1, show ((0 : Nat) : Int) = 0 from rfl, Int.zero_mul]
      rfl
    have e1 : swG (kG n p s g) 1 0 (lmt (kG n p s g) 1 1) = kG n p s (bySw (kL n p s) 1 0 (kq n p s)) := by
      unfold swG
      rw [lim1, show ((1 : Nat) : Int) = 1 from rfl, Int.one_mul]
      rfl
    have ok : ∀ l, (kG n p s (bySw (kL n p s) 1 0 l)).Ok (MOk 28) := fun l => kG_ok h (sw_ok in1 in0 (show (1 : Int) ≤ 28 by decide))
    obtain ⟨y, hy⟩ := res_some (back_pd1 h)
    have no := B.al 1 y (by decide) (by rw [e1]; exact hy)
    have re := B.re
    rw [e0] at re
    have a := ((back_pd0 h).res (ok _) rfl re).1
    have c := ((back_pd1 h).res (ok _) rfl hy).1
    refine absurd (less_rate c a (by omega) (by decide) hy.pos re.pos ?_) no
    show kq n p s * 1 < p * (n : Int)
    rw [Int.mul_one, Int.mul_comm]
    exact q.2.2.1
  · have := B.lt
    omega
theorem bl10_few (h : Kb n p s) {g : By} {k d : Nat} (hk : (k : Int) ≤ (pas (kG n p s g).L 0).1) (f : Fresh (swG (kG n p s g) 1 0 (lmt (kG n p s g) 1 k)) d) : d ≤ 12000000 := by
  have hk : (k : Int) ≤ 1 := hk
  have n13 := h.n13
  match k, hk with
  | 0, _ =>
    have e0 : swG (kG n p s g) 1 0 (lmt (kG n p s g) 1 0) = kG n p s (bySw (kL n p s) 1 0 0) := by
      unfold swG
      rw [lim1, show ((0 : Nat) : Int) = 0 from rfl, Int.zero_mul]
      rfl
    rw [e0] at f
    have := (back_pd0 h).few f
    omega
  | 1, _ =>
    have e1 : swG (kG n p s g) 1 0 (lmt (kG n p s g) 1 1) = kG n p s (bySw (kL n p s) 1 0 (kq n p s)) := by
      unfold swG
      rw [lim1, show ((1 : Nat) : Int) = 1 from rfl, Int.one_mul]
      rfl
    rw [e1] at f
    have := (back_pd1 h).few f
    omega
  | k + 2, z => exact absurd z (by omega)
theorem ev_bl0 (h : Kb n p s) (hs : σ[i]? = some (some (.ref t))) (ht : σ[j]? = some (some (.ref tv))) (ta : Tar K C H t pa (kL n p s)) (tt : Tv K CV H tv 1 dv (.ref eT) [0] []) :
    Ev (tOp (rIxT K) (tCall (spBl K C CV) [] E (tCons (tVar i) (tCons (tC (.int 0)) (tCons (tC (.int 1)) (tCons (tVar j) tNil))))) (tC (.int 0))) σ H (.int 0) := fun H1 e Q q =>
  ⟨_, hs, _, ht, bl_in (E := E) (g := kG n p s (byFix 0)) (ta.same e) (show 2 ≤ 1000 by decide) h.ok (tt.same e) (show (1 : Int) ≤ 1 by decide) (show (1 : Int) ≤ 14 by decide) in0 in1 (fun k d hk f => bl01_few h hk f) fun v H2 s2 ⟨r, qa, k, z, hv, h1, h2, h3, B⟩ => by
    subst hv
    have B : Best (kG n p s (byFix 0)) 0 1 (n + 1) k z := by
      rw [show n + 1 = ((pas (kG n p s (byFix 0)).L 1).1 + 1).toNat by show n + 1 = ((n : Int) + 1).toNat; omega]
      exact B
    obtain rfl := bl01 h B
    refine ⟨r, _, 0, _, rfl, rfl, h1, rfl, ?_⟩
    rw [lim0, show ((0 : Nat) : Int) = 0 from rfl, Int.zero_mul]
    exact q H2 s2⟩
theorem ev_bl1 (h : Kb n p s) (hs : σ[i]? = some (some (.ref t))) (ht : σ[j]? = some (some (.ref tv))) (ta : Tar K C H t pa (kL n p s)) (tt : Tv K CV H tv 1 dv (.ref eT) [0] []) :
    Ev (tOp (rIxT K) (tCall (spBl K C CV) [] E (tCons (tVar i) (tCons (tC (.int 1)) (tCons (tC (.int 0)) (tCons (tVar j) tNil))))) (tC (.int 0))) σ H (.int (kq n p s)) := fun H1 e Q q =>
  ⟨_, hs, _, ht, bl_in (E := E) (g := kG n p s (byFix 0)) (ta.same e) (show 2 ≤ 1000 by decide) h.ok (tt.same e) (show (1 : Int) ≤ 1 by decide) (show (1 : Int) ≤ 14 by decide) in1 in0 (fun k d hk f => bl10_few h hk f) fun v H2 s2 ⟨r, qa, k, z, hv, h1, h2, h3, B⟩ => by
    subst hv
    have B : Best (kG n p s (byFix 0)) 1 0 2 k z := B
    obtain rfl := bl10 h B
    refine ⟨r, _, 0, _, rfl, rfl, h1, rfl, ?_⟩
    rw [lim1, show ((1 : Nat) : Int) = 1 from rfl, Int.one_mul]
    exact q H2 s2⟩
end
end Sea

set_option Elab.async false
set_option linter.all false
set_option maxRecDepth 100000
set_option maxHeartbeats 4000000
/-! k48's law -/
namespace Sea
open PySem PySem.Spec PyProof.Rows L2 LamX NdefX ClX Evl StX
abbrev NL : List Str := ["_law_script", "_law_state", "_law_turn", "_law_n", "_law_price", "_law_far", "_law_saved", "_law_tariff", "_law_travel", "_law_single", "_law_always", "_law_mixed", "_law_count", "_law_switch", "_law_expected", "_law_whole", "_law_day", "_law_row"]
theorem scLaw : FnScope NL ["_law_script"] (defScope sLaw) := ⟨rfl, rfl, rfl, by decide +kernel, rfl, by decide +kernel, by decide +kernel⟩
def psL (L : List (Int × Int)) : PyData := .list (L.map fun x => .tuple [.int x.1, .int x.2])
theorem psL_sh (L : List (Int × Int)) : SeqAt.shaped (psL L) = true := psD_sh L
def spLaw (K : PySem.W.Frag) : Sp := fun vs H Q _ => ∃ (a : Addr) (ns : List Int), vs = [.ref a] ∧ SqL K H a (ns.map V.int) ∧ ns.length ≤ 63 ∧ ∀ H', Q (.bl true) H'
section
variable {P : Program} {w : World} {K : PySem.W.Frag} {mg : Str → Option Value} {base : Heap}
theorem ok_law {f : Addr} {fd : FuncData} (G : Gd P K mg) (F : Fun K "law" "law" sLaw f fd) : FnOk P w K mg base CX0 14 f fd ["_law_script"] (spLaw K) := by
  obtain ⟨dsT, rT, bT⟩ := G.bTv0
  obtain ⟨c1, d1, uF, sF⟩ := G.MB.uF
  obtain ⟨c2, d2, uT, sT⟩ := G.MB.uT
  obtain ⟨c3, d3, uS, sS⟩ := G.MB.uS
  refine F.ok scLaw (fun vs H Q E h => ?_) (fun cdv A outer s H vs Q E hr h => ?_)
  · obtain ⟨a, ns, rfl, _⟩ := h
    rfl
  · have hu := hr.units
    have h1 := hr.mono (show 1 ≤ 13 by decide)
    have h5 := hr.mono (show 5 ≤ 13 by decide)
    have h6 := hr.mono (show 6 ≤ 13 by decide)
    have h7 := hr.mono (show 7 ≤ 13 by decide)
    have h8 := hr.mono (show 8 ≤ 13 by decide)
    have h10 := hr.mono (show 10 ≤ 13 by decide)
    have h12 := hr.mono (show 12 ≤ 13 by decide)
    refine ⟨_, (pss_cut (ps_set (i := 1) scLaw.nd rfl (.inl rfl) (pe_call (E := E0) (ok_start (k := 0) G.uSt) h1 (by rfl) G.gSt G.kSt G.bSt .nil pass0 (pa_cons (pv 0) pa_nil)))
      (pss_cons (ps_for PassesOwn.never rfl (pi_range1 (by rfl) G.m_range (pa_cons pe_int pa_nil)) (pg_name (i := 2) scLaw.nd rfl (.inl rfl))
        (pss_cut (ps_par3 (i := 3) (j := 4) (l := 5) rfl scLaw.nd rfl rfl rfl (by decide) (by decide) (by decide) rfl rfl rfl (pa_cons (pe_op op_add pe_int (pe_dr G.DN h1 (by rfl) (pv 1) pe_int)) (pa_cons (pe_op op_add pe_int (pe_dr G.DN h1 (by rfl) (pv 1) pe_int)) (pa_cons (pe_dr G.DN h1 (by rfl) (pv 1) (pe_op op_pow pe_int pe_int)) pa_nil))) (by rfl))
        (pss_cut (ps_set (i := 6) scLaw.nd rfl (.inl rfl) (pe_op op_add pe_int (pe_dr G.DN h1 (by rfl) (pv 1) (pv 4))))
        (pss_cut (ps_par (i := 7) (j := 8) rfl scLaw.nd rfl rfl (by decide) rfl rfl (pa_cons (pe_tar G.X G.I h5 passL (by rfl) (pa_cons (pe_tup (pa_cons pe_int (pa_cons (pv 4) pa_nil))) (pa_cons (pe_tup (pa_cons (pv 3) (pa_cons (pe_op op_sub (pe_op op_mul (pv 3) (pv 4)) (pv 6)) pa_nil))) pa_nil))) (pa_cons (pe_make (E := E0) G.mkV (ok_tvI G.uTv G.EV G.W) h6 (by rfl) G.W.gC bT rT passL (pa_cons pe_int (pa_cons (pe_tup (pa_cons pe_int pa_nil)) pa_nil))) pa_nil)) (by rfl))
        (pss_cut (ps_par (i := 9) (j := 10) rfl scLaw.nd rfl rfl (by decide) rfl rfl (pa_cons (pe_make (E := E0) G.MB.mkF (ok_fxI uF sF G.MB.uB G.X G.Q G.VL G.NM.cF G.NM.fO G.NM.fF) h6 (by rfl) G.MB.gF (b_fx uF) .nil passL (pa_cons (pv 7) (pa_cons pe_int pa_nil))) (pa_cons (pe_make (E := E0) G.MB.mkF (ok_fxI uF sF G.MB.uB G.X G.Q G.VL G.NM.cF G.NM.fO G.NM.fF) h6 (by rfl) G.MB.gF (b_fx uF) .nil passL (pa_cons (pv 7) (pa_cons pe_int pa_nil))) pa_nil)) (by rfl))
        (pss_cut (ps_if (PW.pt (pw_or (pt_cmpR op_ne (pe_call (E := E0) (g_sp G) h7 (by rfl) G.gSp G.kSp G.bSp .nil passL (pa_cons (pv 9) (pa_cons (pv 8) (pa_cons (pv 5) pa_nil)))) (pe_op op_mul (pv 5) (pv 4)) (nomark _)) (pw_or1 (pt_cmpR (op_neD hu) (pe_call (E := E0) (g_sr G) h7 (by rfl) G.gSr G.kSr G.bSr .nil passL (pa_cons (pv 9) (pa_cons (pv 8) pa_nil))) (pe_tup (pa_cons (pv 4) (pa_cons pe_int pa_nil))) (nomark _))))) (pss_one (ps_ret pe_bl)) pss_nil)
        (pss_cut (ps_if (pt_cmpR op_ne (pe_call (E := E0) (g_sp G) h7 (by rfl) G.gSp G.kSp G.bSp .nil passL (pa_cons (pv 10) (pa_cons (pv 8) (pa_cons (pe_op op_add (pe_op op_mul (pv 5) (pv 3)) pe_int) pa_nil)))) (pe_op op_mul (pe_op op_add (pv 5) pe_int) (pe_op op_sub (pe_op op_mul (pv 3) (pv 4)) (pv 6))) (nomark _)) (pss_one (ps_ret pe_bl)) pss_nil)
        (pss_cut (ps_if (PW.pt (pw_or (pt_cmpR op_ne (pe_call (E := E0) (g_fe G) h12 (by rfl) G.gFe G.kFe G.bFe .nil passL (pa_cons (pv 9) (pa_cons (pv 8) (pa_cons pe_int (pa_cons pe_int pa_nil))))) (pv 3) (nomark _)) (pw_or1 (pt_cmpR op_notN (pe_call (E := E0) (g_fe G) h12 (by rfl) G.gFe G.kFe G.bFe .nil passL (pa_cons (pv 10) (pa_cons (pv 8) (pa_cons pe_int (pa_cons pe_int pa_nil))))) pe_non (nomark _))))) (pss_one (ps_ret pe_bl)) pss_nil)
        (pss_cut (ps_set (i := 11) scLaw.nd rfl (.inl rfl) (pe_makeR (E := E0) G.MB.mkT (ok_tnI uT sT G.MB.uB G.X G.Q G.VL G.NM.cT G.NM.tO G.NM.tS) h6 (by rfl) G.MB.gT passL (pa_cons (pv 7) (pa_cons pe_int (pa_cons pe_int pa_nil)))))
        (pss_cut (ps_if (pt_cmpR op_ne (pe_call (E := E0) (g_sp G) h7 (by rfl) G.gSp G.kSp G.bSp .nil passL (pa_cons (pv 11) (pa_cons (pv 8) (pa_cons (pe_op op_mul (pv 5) (pe_op op_add (pv 3) pe_int)) pa_nil)))) (pe_op op_mul (pv 5) (pe_op op_sub (pe_op op_mul (pe_op op_add (pv 3) pe_int) (pv 4)) (pv 6))) (nomark _)) (pss_one (ps_ret pe_bl)) pss_nil)
        (pss_cut (ps_if (pt_not (pt_val (pe_call (E := E0) (ok_oth G) h10 (by rfl) G.gOth G.kOth G.bOth .nil pass0 (pa_cons (pv 3) (pa_cons (pv 4) (pa_cons (pv 6) (pa_cons (pv 5) (pa_cons (pe_dr G.DN h1 (by rfl) (pv 1) (pv 4)) pa_nil)))))))) (pss_one (ps_ret pe_bl)) pss_nil)
        (pss_cut (ps_set (i := 12) scLaw.nd rfl (.inl rfl) (pe_dr G.DN h1 (by rfl) (pv 1) (pv 3)))
        (pss_cut (ps_set (i := 13) scLaw.nd rfl (.inl rfl) (pe_makeK (E := E0) G.MB.mkS (ok_swI uS sS G.MB.uB G.X G.Q G.VL G.NM.cS G.NM.sO G.NM.sS G.NM.sL G.NM.sM G.MB.gS G.MB.cr G.MB.vM) h6 (by rfl) G.MB.gS (kb_sw uS) passL (pa_cons (pv 7) (pa_cons pe_int (pa_cons pe_int pa_nil))) (pk_cons (pe_op op_add (pe_op op_mul (pv 4) (pv 12)) (pe_dr G.DN h1 (by rfl) (pv 1) (pv 4))) pk_nil)))
        (pss_cut (ps_set (i := 14) scLaw.nd rfl (.inl rfl) (pe_op op_cat (pe_lc (own := [("_law_day", 16)]) (g := gName 16) (by rfl) scLaw.nd (pi_range1 (by rfl) G.m_range (pa_cons (pv 12) pa_nil)) (blkOk_by (own := [("_law_day", 16)]) (N := NL) (sc := defScope sLaw) (by decide +kernel)) (fun _ _ _ _ _ => pg_name (i := 16) scLaw.nd rfl (Or.inl rfl)) (fun _ _ _ _ _ => pts_nil) (fun _ _ _ _ _ => (pe_tup (pa_cons (pv 16) (pa_cons pe_int pa_nil))))) (pe_lst (pa_cons (pe_tup (pa_cons (pv 12) (pa_cons pe_int pa_nil))) (pa_cons (pe_tup (pa_cons (pe_op op_add (pv 12) (pv 3)) (pa_cons (pe_callTy call_int1 (by rfl) G.m_int (by rfl) (pa_cons (pe_cmpR op_eq (pv 12) pe_int (nomark _)) pa_nil)) pa_nil))) pa_nil)))))
        (pss_cut (ps_if (pt_cmpR (op_neD hu) (pe_lcG (own := [("_law_row", 17)]) (pcgen_call (g_pu G).2 h7 (by rfl) G.gPu G.kPu G.bPu .nil (pa_cons (pv 13) (pa_cons (pv 8) (pa_cons pe_int (pa_cons (pe_op op_add (pv 12) (pv 3)) pa_nil))))) h8 (blkOk_by (own := [("_law_row", 17)]) (N := NL) (sc := defScope sLaw) (by decide +kernel)) rfl) (pv 14) (nomark _)) (pss_one (ps_ret pe_bl)) pss_nil)
        (pss_cut (ps_set (i := 15) scLaw.nd rfl (.inl rfl) (pe_op op_sub (pe_op op_mul (pe_op op_add (pv 12) (pv 3)) (pv 4)) (pv 6)))
        (pss_cut (ps_if (pt_cmpR op_ne (pe_call (E := E0) (g_sp G) h7 (by rfl) G.gSp G.kSp G.bSp .nil passL (pa_cons (pv 13) (pa_cons (pv 8) (pa_cons (pe_op op_mul (pv 5) (pe_op op_add (pv 12) (pv 3))) pa_nil)))) (pe_op op_mul (pv 5) (pv 15)) (nomark _)) (pss_one (ps_ret pe_bl)) pss_nil)
        (pss_one (ps_if (PW.pt (pw_or (pt_cmpR op_ne (pe_ixt (pe_call (E := E0) (g_bl G) h8 (by rfl) G.gBl G.kBl G.bBl .nil passL (pa_cons (pv 7) (pa_cons pe_int (pa_cons pe_int (pa_cons (pv 8) pa_nil))))) pe_int) pe_int (nomark _)) (pw_or1 (pt_cmpR op_ne (pe_ixt (pe_call (E := E0) (g_bl G) h8 (by rfl) G.gBl G.kBl G.bBl .nil passL (pa_cons (pv 7) (pa_cons pe_int (pa_cons pe_int (pa_cons (pv 8) pa_nil))))) pe_int) (pe_op op_sub (pe_op op_mul (pv 3) (pv 4)) (pv 6)) (nomark _))))) (pss_one (ps_ret pe_bl)) pss_nil)))))))))))))))))))
      (pss_one (ps_ret pe_bl)))), ?_⟩
    obtain ⟨a0, ns, rfl, hS, hlen, q⟩ := h
    have lt : ∀ {n : Nat}, n ≤ 1000 → n ≤ sizeLine := fun h => Nat.le_of_lt (small1000 h)
    refine ⟨fun σ H' => ∃ h : Addr, σ = ([some (.ref a0), some (.ref h), none, none, none, none, none, none, none, none, none, none, none, none, none, none, none, none] : L2.St) ∧ Ds K H' h a0, ?_, ?_⟩
    · exact ⟨_, rfl, a0, ns, rfl, hS, hlen, fun h H' sm nh d => ⟨h, rfl, d⟩⟩
    rintro σ H1 ⟨h, rfl, d1⟩
    refine s_forR1 (n := 4) (ea_cons ev_c ea_nil) ⟨by decide, by decide⟩ (fun k σ H' => ∃ v : Nat → Option V, σ = ([some (.ref a0), some (.ref h), v 2, v 3, v 4, v 5, v 6, v 7, v 8, v 9, v 10, v 11, v 12, v 13, v 14, v 15, v 16, v 17] : L2.St) ∧ Ds K H' h a0) (fun H2 e2 => ⟨fun _ => none, rfl, d1.same e2⟩) ?_ ?_
    rotate_left
    · rintro σ H8 ⟨v, rfl, _⟩
      exact q H8
    clear d1
    rintro kk σ H7 hk ⟨v, rfl, d1⟩
    -- the numbers
    refine ⟨fun σ H' => ∃ (n : Nat) (p : Int) (far : Nat), σ = ([some (.ref a0), some (.ref h), some (.int (kk : Int)), some (.int (n : Int)), some (.int p), some (.int (far : Int)), v 6, v 7, v 8, v 9, v 10, v 11, v 12, v 13, v 14, v 15, v 16, v 17] : L2.St) ∧ Ds K H' h a0 ∧ 2 ≤ n ∧ n ≤ 13 ∧ 1 ≤ p ∧ p ≤ 50 ∧ far < 1000000000000000, ?_, ?_⟩
    · refine ⟨_, rfl, h, a0, 12, rfl, by decide, by decide, d1, fun x H8 x0 x1 d8 k8 => ⟨_, _, rfl, rfl, _, rfl, h, a0, 50, rfl, by decide, by decide, d8, fun y H9 y0 y1 d9 k9 => ⟨_, _, rfl, rfl, _, rfl, _, _, rfl, rfl, ⟨by decide, by decide, by decide⟩, h, a0, (10 : Int) ^ (15 : Int).toNat, rfl, by decide +kernel, by decide +kernel, d9, fun z H10 z0 z1 d10 k10 => ?_⟩⟩⟩
      obtain ⟨xn, rfl⟩ := Int.eq_ofNat_of_zero_le x0
      obtain ⟨far, rfl⟩ := Int.eq_ofNat_of_zero_le z0
      have z1 : (far : Int) < 1000000000000000 := z1
      refine ⟨_, _, _, rfl, xn + 2, 1 + y, far, ?_, d10, by omega, by omega, by omega, by omega, by omega⟩
      rw [show ((xn + 2 : Nat) : Int) = 2 + (xn : Int) by omega]
      rfl
    clear d1
    rintro σ H7 ⟨n, p, far, rfl, d1, n2, n13, p1, p50, hf⟩
    have F0 : 0 ≤ (far : Int) := Int.natCast_nonneg far
    refine ⟨fun σ H' => ∃ s : Int, σ = ([some (.ref a0), some (.ref h), some (.int (kk : Int)), some (.int (n : Int)), some (.int p), some (.int (far : Int)), some (.int s), v 7, v 8, v 9, v 10, v 11, v 12, v 13, v 14, v 15, v 16, v 17] : L2.St) ∧ Ds K H' h a0 ∧ Kb n p s, ?_, ?_⟩
    · refine ⟨_, rfl, _, rfl, h, a0, p, rfl, by omega, Nat.lt_of_le_of_lt (Nat.log2_le_self _) (by omega), d1, fun x H8 x0 x1 d8 k8 => ⟨_, _, rfl, rfl, 1 + x, rfl, d8, ⟨n2, n13, p1, p50, by omega, by omega⟩⟩⟩
    clear d1
    rintro σ H7 ⟨s, rfl, d1, kb⟩
    -- the tariff, the travel
    refine ⟨fun σ H' => ∃ t pa tv dv, σ = ([some (.ref a0), some (.ref h), some (.int (kk : Int)), some (.int (n : Int)), some (.int p), some (.int (far : Int)), some (.int s), some (.ref t), some (.ref tv), v 9, v 10, v 11, v 12, v 13, v 14, v 15, v 16, v 17] : L2.St) ∧ KW K G.C G.CV G.eT h a0 t pa tv dv n p s H', ?_, ?_⟩
    · exact rd_tar kb rfl rfl rfl fun t pa H8 s8 ta => rd_tv (by decide) (by decide) G.nil fun tv dv H9 s9 ht => ⟨_, _, rfl, t, pa, tv, dv, rfl, d1.same (s8.trans s9), ta.same s9, ht⟩
    clear d1
    rintro σ H7 ⟨t, pa, tv, dv, rfl, kw⟩
    -- two buyers
    refine ⟨fun σ H' => ∃ b1 b2, σ = ([some (.ref a0), some (.ref h), some (.int (kk : Int)), some (.int (n : Int)), some (.int p), some (.int (far : Int)), some (.int s), some (.ref t), some (.ref tv), some (.ref b1), some (.ref b2), v 11, v 12, v 13, v 14, v 15, v 16, v 17] : L2.St) ∧ KW K G.C G.CV G.eT h a0 t pa tv dv n p s H' ∧ FixB K G.C G.DF H' b1 (kL n p s) (byFix 0) ∧ FixB K G.C G.DF H' b2 (kL n p s) (byFix 1), ?_, ?_⟩
    · refine s_parD (ed_fix rfl kw.ta in0) (fun H8 e8 => ed_fix rfl (kw.ta.same e8) in1) fun v1 v2 H8 H9 e8 e9 ⟨b1, hv1, hb1⟩ ⟨b2, hv2, hb2⟩ => ?_
      subst hv1 hv2
      exact ⟨b1, b2, rfl, kw.same (e8.trans e9), hb1.same e9, hb2⟩
    clear kw
    rintro σ H7 ⟨b1, b2, rfl, kw, hb1, hb2⟩
    have cm : ∀ z : Int, CMul (far : Int) z := fun z => .inl ⟨by omega, by omega⟩
    have dl1 : ∀ {H' : Hp}, Ex H7 H' → Deal3 K G.C G.CV G.DF G.DT G.DS (kG n p s (byFix 0)) [] H' b1 tv := fun e => .inl (deal_fix kb in0 (one_pd kb) (by decide) (hb1.same e) (kw.tv.same e))
    have dl2 : ∀ {H' : Hp}, Ex H7 H' → Deal3 K G.C G.CV G.DF G.DT G.DS (kG n p s (byFix 1)) [] H' b2 tv := fun e => .inl (deal_fix kb in1 (all_pd kb) (by omega) (hb2.same e) (kw.tv.same e))
    refine ⟨fun σ H' => σ = ([some (.ref a0), some (.ref h), some (.int (kk : Int)), some (.int (n : Int)), some (.int p), some (.int (far : Int)), some (.int s), some (.ref t), some (.ref tv), some (.ref b1), some (.ref b2), v 11, v 12, v 13, v 14, v 15, v 16, v 17] : L2.St) ∧ Ex H7 H', ?_, ?_⟩
    · refine s_when (b := false) (et_is (et_or (a := decide (V.int ((far : Int) * p) ≠ V.int ((far : Int) * p))) (b := false) (et_is (et_test (ev_op (ev_spV rfl rfl (ev_var rfl) (by omega) fun H8 e8 => dl1 e8) (ev_op (ev_var rfl) (ev_var rfl) (rv_I (g := fun i j => .int (i * j)) (cm _))) (rv_ne rfl))) (by rw [one_tot kb]; simp)) fun _ => et_same (ev_one kb rfl rfl hb1 kw.tv) (edp_tup (eda_cons (edp_int (ev_var rfl)) (eda_cons (edp_int ev_c) eda_nil)) (show 2 ≤ 1000 by decide)) (ints_shT [p, 1])) (by simp)) (fun z => by cases z) fun _ H8 e8 => ⟨rfl, e8⟩
    rintro σ H8 ⟨rfl, e8⟩
    have fn : far * n ≤ 100000000000000000 := Nat.le_trans (Nat.mul_le_mul (Nat.le_of_lt hf) n13) (by decide)
    have efn : (far : Int) * (n : Int) = ((far * n : Nat) : Int) := (Int.natCast_mul ..).symm
    -- always the long pass
    refine ⟨fun σ H' => σ = ([some (.ref a0), some (.ref h), some (.int (kk : Int)), some (.int (n : Int)), some (.int p), some (.int (far : Int)), some (.int s), some (.ref t), some (.ref tv), some (.ref b1), some (.ref b2), v 11, v 12, v 13, v 14, v 15, v 16, v 17] : L2.St) ∧ Ex H7 H', ?_, ?_⟩
    · refine s_when (b := false) (et_is (et_test (ev_op (ev_spV (k := far * n + 1) rfl rfl (ev_is (ev_op (ev_op (ev_var rfl) (ev_var rfl) (rv_I (g := fun i j => .int (i * j)) (cm _))) ev_c (rv_I0 (g := fun i j => .int (i + j)))) (congrArg V.int (by rw [efn]; rfl))) (by omega) fun H9 e9 => dl2 (e8.trans e9)) (ev_op (ev_op (ev_var rfl) ev_c (rv_I0 (g := fun i j => .int (i + j)))) (ev_op (ev_op (ev_var rfl) (ev_var rfl) (rv_I (g := fun i j => .int (i * j)) (.inl ⟨by omega, by omega⟩))) (ev_var rfl) (rv_I0 (g := fun i j => .int (i - j)))) (rv_I (g := fun i j => .int (i * j)) (.inl ⟨by omega, by omega⟩))) (rv_ne rfl))) ?_) (fun z => by cases z) fun _ H9 e9 => ⟨rfl, e8.trans e9⟩
      have tot := (all_pd kb).far (kG_ok kb (fix_ok in1)) far 1
      rw [Nat.add_comm, tot, all_blk kb (Nat.le_refl 1) (by omega), show (kq n p s + (far : Int) * kq n p s) = ((far : Int) + 1) * ((n : Int) * p - s) by unfold kq; rw [Int.add_mul, Int.one_mul, Int.add_comm]]
      simp
    clear e8
    rintro σ H8 ⟨rfl, e8⟩
    -- excesses
    refine ⟨fun σ H' => σ = ([some (.ref a0), some (.ref h), some (.int (kk : Int)), some (.int (n : Int)), some (.int p), some (.int (far : Int)), some (.int s), some (.ref t), some (.ref tv), some (.ref b1), some (.ref b2), v 11, v 12, v 13, v 14, v 15, v 16, v 17] : L2.St) ∧ Ex H7 H', ?_, ?_⟩
    · refine s_when (b := false) (et_is (et_or (a := !decide (V.int (n : Int) = V.int (n : Int))) (b := !decide (V.non = V.non)) (et_test (ev_op (ev_fe1 kb rfl rfl (hb1.same e8) (kw.tv.same e8)) (ev_var rfl) (rv_ne rfl))) fun _ => et_test (ev_op (ev_fe2 kb rfl rfl (hb2.same e8) (kw.tv.same e8)) ev_c (fun H9 _ Q2 q2 => ⟨rfl, q2 H9 (Ex.refl _)⟩))) (by simp)) (fun z => by cases z) fun _ H9 e9 => ⟨rfl, e8.trans e9⟩
    clear dl1 dl2
    rintro σ H9 ⟨rfl, e9⟩
    replace kw := kw.same e9
    clear e9 e8 hb1 hb2
    -- in turn
    refine ⟨fun σ H' => ∃ bm, σ = ([some (.ref a0), some (.ref h), some (.int (kk : Int)), some (.int (n : Int)), some (.int p), some (.int (far : Int)), some (.int s), some (.ref t), some (.ref tv), some (.ref b1), some (.ref b2), some (.ref bm), v 12, v 13, v 14, v 15, v 16, v 17] : L2.St) ∧ KW K G.C G.CV G.eT h a0 t pa tv dv n p s H' ∧ TurnB K G.C G.DT H' bm (kL n p s) (byTurn [0, 1]), ?_, ?_⟩
    · refine s_asgD (ed_turn (is := [0, 1]) (show 2 ≤ 1000 by decide) rfl kw.ta (ea_cons ev_c (ea_cons ev_c ea_nil)) (by decide) fun i hi => ?_) fun v1 H2 e2 ⟨b, hv, hb⟩ => ⟨b, by rw [hv]; rfl, kw.same e2, hb⟩
      simp only [List.mem_cons, List.not_mem_nil, or_false] at hi
      rcases hi with rfl | rfl <;> first | exact in0 | exact in1
    clear kw
    rintro σ H7 ⟨bm, rfl, kw, hbm⟩
    refine ⟨fun σ H' => σ = ([some (.ref a0), some (.ref h), some (.int (kk : Int)), some (.int (n : Int)), some (.int p), some (.int (far : Int)), some (.int s), some (.ref t), some (.ref tv), some (.ref b1), some (.ref b2), some (.ref bm), v 12, v 13, v 14, v 15, v 16, v 17] : L2.St) ∧ KW K G.C G.CV G.eT h a0 t pa tv dv n p s H', ?_, ?_⟩
    · have hi : ∀ i ∈ ([0, 1] : List Int), InP (kL n p s) i := fun i hi => by
        simp only [List.mem_cons, List.not_mem_nil, or_false] at hi
        rcases hi with rfl | rfl <;> first | exact in0 | exact in1
      have tot := (mix_pd kb).turn (kG_ok kb (turn_ok hi (by decide))) far
      have fn2 : far * (n + 1) ≤ 1000000000000000000 := Nat.le_trans (Nat.mul_le_mul (Nat.le_of_lt hf) (show n + 1 ≤ 14 by omega)) (by decide)
      refine s_when (b := false) (et_is (et_test (ev_op (ev_spV (k := far * (n + 1)) rfl rfl (ev_is (ev_op (ev_var rfl) (ev_op (ev_var rfl) ev_c (rv_I0 (g := fun i j => .int (i + j)))) (rv_I (g := fun i j => .int (i * j)) (cm _))) (congrArg V.int (by rw [Int.natCast_mul]; rfl))) fn2 fun H9 e9 => .inr (.inl (deal_turn kb hi (by decide) (mix_pd kb) (by omega) (hbm.same e9) (kw.tv.same e9)))) (ev_op (ev_var rfl) (ev_op (ev_op (ev_op (ev_var rfl) ev_c (rv_I0 (g := fun i j => .int (i + j)))) (ev_var rfl) (rv_I (g := fun i j => .int (i * j)) (.inl ⟨by omega, by omega⟩))) (ev_var rfl) (rv_I0 (g := fun i j => .int (i - j)))) (rv_I (g := fun i j => .int (i * j)) (cm _))) (rv_ne rfl))) ?_) (fun z => by cases z) fun _ H9 e9 => ⟨rfl, kw.same e9⟩
      rw [tot, show p + kq n p s = ((n : Int) + 1) * p - s by unfold kq; rw [Int.add_mul]; omega]
      simp
    clear kw hbm
    rintro σ H7 ⟨rfl, kw⟩
    -- the others
    refine ⟨fun σ H' => σ = ([some (.ref a0), some (.ref h), some (.int (kk : Int)), some (.int (n : Int)), some (.int p), some (.int (far : Int)), some (.int s), some (.ref t), some (.ref tv), some (.ref b1), some (.ref b2), some (.ref bm), v 12, v 13, v 14, v 15, v 16, v 17] : L2.St) ∧ KW K G.C G.CV G.eT h a0 t pa tv dv n p s H', ?_, ?_⟩
    · refine ⟨_, rfl, _, rfl, _, rfl, _, rfl, _, rfl, _, rfl, h, a0, p, rfl, by omega, Nat.lt_of_le_of_lt (Nat.log2_le_self _) (by omega), kw.d, fun r H8 r0 r1 d8 k8 => ⟨n, p, s, r, far, rfl, kb, hf, r0, r1, fun H9 s9 => ?_⟩⟩
      exact ⟨true, rfl, iteF ⟨rfl, (kw.kh k8 d8).same s9⟩⟩
    clear kw
    rintro σ H7 ⟨rfl, kw⟩
    -- the count, the buyer who switches
    refine ⟨fun σ H' => ∃ c : Nat, σ = ([some (.ref a0), some (.ref h), some (.int (kk : Int)), some (.int (n : Int)), some (.int p), some (.int (far : Int)), some (.int s), some (.ref t), some (.ref tv), some (.ref b1), some (.ref b2), some (.ref bm), some (.int (c : Int)), v 13, v 14, v 15, v 16, v 17] : L2.St) ∧ KW K G.C G.CV G.eT h a0 t pa tv dv n p s H' ∧ c < n, ?_, ?_⟩
    · refine ⟨_, rfl, _, rfl, h, a0, (n : Int), rfl, by omega, Nat.lt_of_le_of_lt (Nat.log2_le_self _) (by omega), kw.d, fun r H8 r0 r1 d8 k8 => ?_⟩
      obtain ⟨c, rfl⟩ := Int.eq_ofNat_of_zero_le r0
      exact ⟨c, rfl, kw.kh k8 d8, by omega⟩
    clear kw
    rintro σ H7 ⟨c, rfl, kw, hc⟩
    have cp0 : 0 ≤ (c : Int) * p := Int.mul_nonneg (by omega) (by omega)
    have cp1 : (c : Int) * p ≤ 13 * p := Int.mul_le_mul_of_nonneg_right (by omega) (by omega)
    refine ⟨fun σ H' => ∃ bs lim, σ = ([some (.ref a0), some (.ref h), some (.int (kk : Int)), some (.int (n : Int)), some (.int p), some (.int (far : Int)), some (.int s), some (.ref t), some (.ref tv), some (.ref b1), some (.ref b2), some (.ref bm), some (.int (c : Int)), some (.ref bs), v 14, v 15, v 16, v 17] : L2.St) ∧ KW K G.C G.CV G.eT h a0 t pa tv dv n p s H' ∧ SwB K G.C G.DS H' bs (kL n p s) (bySw (kL n p s) 0 1 lim) ∧ (c : Int) * p ≤ lim ∧ lim < ((c : Int) + 1) * p, ?_, ?_⟩
    · refine ⟨_, rfl, _, rfl, _, rfl, _, _, rfl, rfl, .inl ⟨by omega, by omega⟩, _, rfl, _, rfl, h, a0, p, rfl, by omega, Nat.lt_of_le_of_lt (Nat.log2_le_self _) (by omega), kw.d, fun r H8 r0 r1 d8 k8 => ⟨_, _, rfl, rfl, rfl, rfl, fun x dx nx ndx _ => ?_⟩⟩
      have kw8 := kw.kh k8 d8
      have pc : p * (c : Int) = (c : Int) * p := Int.mul_comm ..
      refine sw_mk kw8.ta nx ndx (fun _ _ _ H9 s9 b _ => ⟨rfl, x, p * (c : Int) + r, rfl, kw8.same s9, b, by omega, by rw [Int.add_mul, Int.one_mul]; omega⟩) (fun z => absurd ⟨in0, in1⟩ z) (fun _ _ z => absurd ⟨by omega, by omega⟩ z)
    clear kw
    rintro σ H7 ⟨bs, lim, rfl, kw, hsw, l1, l2⟩
    have pd := sw_pd kb hc l1 l2
    have dl : ∀ {H' : Hp}, Ex H7 H' → Deal3 K G.C G.CV G.DF G.DT G.DS (kG n p s (bySw (kL n p s) 0 1 lim)) [] H' bs tv := fun e => .inr (.inr (deal_sw kb pd (by omega) (hsw.same e) (kw.tv.same e)))
    -- his purchases
    refine ⟨fun σ H' => ∃ EE es, σ = ([some (.ref a0), some (.ref h), some (.int (kk : Int)), some (.int (n : Int)), some (.int p), some (.int (far : Int)), some (.int s), some (.ref t), some (.ref tv), some (.ref b1), some (.ref b2), some (.ref bm), some (.int (c : Int)), some (.ref bs), some (.ref EE), v 15, v 16, v 17] : L2.St) ∧ Ex H7 H' ∧ H' EE = some (.lst es) ∧ PsV K H' es (((List.range c).map fun k : Nat => ((k : Int), (0 : Int))) ++ [((c : Int), 1), (((c + n : Nat) : Int), if c = 0 then 1 else 0)]), ?_, ?_⟩
    · refine ⟨_, rfl, (c : Int), rfl, by omega, by omega, fun D nD => lc_range (lo := 0) (n := ((c : Int)).toNat) (fun i H' => Same H7 H' ∧ ∃ es, H' D = some (.lst es) ∧ es.length ≤ i ∧ PsV K H' es ((List.range i).map fun k : Nat => ((k : Int), (0 : Int)))) ⟨same_new nD, [], upd_same, Nat.zero_le _, .nil⟩ (fun i H' hi z => ?_) fun H' z => ?_⟩
      · obtain ⟨s8, es, hes, les, hps⟩ := z
        refine ⟨rfl, t_yes (Eq.mpr (if_pos rfl) ⟨_, rfl, lt (show 2 ≤ 1000 by decide), fun y ny => ?_⟩)⟩
        have s9 : Same H' (upd H' y (.tup [V.int (0 + (i : Int)), .int 0])) := same_new ny
        have hp : (upd H' y (.tup [V.int (0 + (i : Int)), .int 0])) y = some (.tup [V.int (0 + (i : Int)), .int 0]) := upd_same
        revert s9 hp
        generalize upd H' y (.tup [V.int (0 + (i : Int)), .int 0]) = H9
        intro s9 hp
        have hD9 := s9 _ _ hes
        have s10 : TK K H9 (upd H9 D (.lst (es ++ [.ref y]))) := tk_lst hD9
        refine ⟨es, hD9, sz_lt (by omega), ?_, es ++ [.ref y], upd_same, by rw [List.length_append]; exact Nat.succ_le_succ les, ?_⟩
        · exact fun b o e => by
            rw [upd_ne (ne_of_none e nD)]
            exact s9 _ _ (s8 _ _ e)
        · rw [List.range_succ, List.map_append]
          refine ((hps.tk (.same s9)).tk s10).app (.cons ⟨y, rfl, s10 _ _ (.of ?_)⟩ .nil)
          rw [hp, Int.zero_add]
      · obtain ⟨s8, es, hes, les, hps⟩ := z
        rw [show ((c : Int)).toNat = c from rfl] at les hps
        refine ⟨_, rfl, lt (show 2 ≤ 1000 by decide), fun y1 n1 => ⟨_, rfl, _, rfl, _, _, rfl, rfl, _, rfl, rfl, ?_⟩⟩
        refine .inr ⟨decide (V.int (c : Int) = V.int 0), rfl, lt (show 2 ≤ 1000 by decide), fun y2 n2 => ⟨lt (show 2 ≤ 1000 by decide), fun l nl => ?_⟩⟩
        have eb : (if decide (V.int (c : Int) = V.int 0) = true then (1 : Int) else 0) = if c = 0 then 1 else 0 := by
          by_cases z : c = 0
          · rw [z]
            rfl
          · rw [if_neg z, if_neg]
            intro w
            have w := of_decide_eq_true w
            injection w with w
            omega
        dsimp only at nl ⊢
        rw [eb, show (c : Int) + (n : Int) = ((c + n : Nat) : Int) from rfl] at nl ⊢
        have t1 := same_new (o := .tup [V.int (c : Int), .int 1]) n1
        have t2 := same_new (o := .tup [V.int ((c + n : Nat) : Int), .int (if c = 0 then 1 else 0)]) n2
        have t3 := same_new (o := .lst [V.ref y1, .ref y2]) nl
        have hl : (upd (upd (upd H' y1 (.tup [V.int (c : Int), .int 1])) y2 (.tup [V.int ((c + n : Nat) : Int), .int (if c = 0 then 1 else 0)])) l (.lst [V.ref y1, .ref y2])) l = some (.lst [V.ref y1, .ref y2]) := upd_same
        have h1' := t3 _ _ (t2 _ _ (upd_same (H := H') (a := y1) (o := .tup [V.int (c : Int), .int 1])))
        have h2' := t3 _ _ (upd_same (H := upd H' y1 (.tup [V.int (c : Int), .int 1])) (a := y2) (o := .tup [V.int ((c + n : Nat) : Int), .int (if c = 0 then 1 else 0)]))
        have s4 := (t1.trans t2).trans t3
        revert hl h1' h2' s4
        generalize upd (upd (upd H' y1 (.tup [V.int (c : Int), .int 1])) y2 (.tup [V.int ((c + n : Nat) : Int), .int (if c = 0 then 1 else 0)])) l (.lst [V.ref y1, .ref y2]) = H9
        intro hl h1' h2' s4
        refine ⟨D, l, es, _, rfl, rfl, s4 _ _ hes, hl, by rw [sizeLine_eq]; show es.length + 2 ≤ _; omega, fun w nw => ?_⟩
        have s5 : Same H9 (upd H9 w (.lst (es ++ [V.ref y1, .ref y2]))) := same_new nw
        refine ⟨w, _, rfl, (s8.trans s4).trans s5, upd_same, ?_⟩
        exact (hps.tk (.same (s4.trans s5))).app (.cons ⟨y1, rfl, .of (s5 _ _ h1')⟩ (.cons ⟨y2, rfl, .of (s5 _ _ h2')⟩ .nil))
    rintro σ H8 ⟨EE, es, rfl, e8, hE, hpe⟩
    have cn : c + n ≤ 30 := by omega
    refine ⟨fun σ H' => σ = ([some (.ref a0), some (.ref h), some (.int (kk : Int)), some (.int (n : Int)), some (.int p), some (.int (far : Int)), some (.int s), some (.ref t), some (.ref tv), some (.ref b1), some (.ref b2), some (.ref bm), some (.int (c : Int)), some (.ref bs), some (.ref EE), v 15, v 16, v 17] : L2.St) ∧ Ex H7 H', ?_, ?_⟩
    · have left : EvDp K (tListG (tCallG (spPu3 K G.C G.CV G.DF G.DT G.DS G.cV G.cN) [] (fun _ _ _ => False) (tCons (tVar 13) (tCons (tVar 8) (tCons (tC (.int 0)) (tCons (tOp (rI0 fun i j => .int (i + j)) (tVar 12) (tVar 3)) tNil)))))) ([some (.ref a0), some (.ref h), some (.int (kk : Int)), some (.int (n : Int)), some (.int p), some (.int (far : Int)), some (.int s), some (.ref t), some (.ref tv), some (.ref b1), some (.ref b2), some (.ref bm), some (.int (c : Int)), some (.ref bs), some (.ref EE), v 15, v 16, v 17] : L2.St) H8 (psL (pus (kG n p s (bySw (kL n p s) 0 1 lim)) 0 (c + n + 1))) := fun H9 e9 Q1 q1 => by
        have ok9 : puOk 0 ((c : Int) + (n : Int)) := ⟨⟨by omega, by omega⟩, by omega, by split <;> omega⟩
        refine ⟨_, rfl, _, rfl, _, rfl, _, rfl, _, _, rfl, rfl, bs, tv, 0, (c : Int) + (n : Int), _, [], rfl, dl (e8.trans e9), fun _ _ ys H2 s2 hys y ny => ?_, fun _ nb => absurd ok9 nb, fun z => absurd rfl z⟩
        rw [show (0 : Int).toNat = 0 from rfl, show ((c : Int) + (n : Int) + 1 - 0).toNat = c + n + 1 by omega] at hys
        have s3 : Same H2 (upd H2 y (.lst ys)) := same_new ny
        exact q1 (.ref y) _ (Same.trans s2 s3) (.lst (.of upd_same) (hys.tk (.same s3)).dp)
      rw [sw_pus kb hc l1 l2] at left
      exact s_when (b := false) (et_same (K := K) left (edp_ev (v := .ref EE) (ev_var rfl) fun H9 e9 => .lst (.of (e9 _ _ hE)) (hpe.tk (.same e9)).dp) (psL_sh _)) (fun z => by cases z) (fun _ H9 e9 => ⟨rfl, e8.trans e9⟩)
    clear hE hpe e8
    rintro σ H8 ⟨rfl, e8⟩
    -- what he spends
    refine ⟨fun σ H' => σ = ([some (.ref a0), some (.ref h), some (.int (kk : Int)), some (.int (n : Int)), some (.int p), some (.int (far : Int)), some (.int s), some (.ref t), some (.ref tv), some (.ref b1), some (.ref b2), some (.ref bm), some (.int (c : Int)), some (.ref bs), some (.ref EE), some (.int (((c : Int) + (n : Int)) * p - s)), v 16, v 17] : L2.St) ∧ Ex H7 H', ?_, ?_⟩
    · exact s_asg (ev_op (ev_op (ev_op (ev_var rfl) (ev_var rfl) (rv_I0 (g := fun i j => .int (i + j)))) (ev_var rfl) (rv_I (g := fun i j => .int (i * j)) (.inl ⟨by omega, by omega⟩))) (ev_var rfl) (rv_I0 (g := fun i j => .int (i - j)))) fun H9 e9 => ⟨rfl, e8.trans e9⟩
    clear e8
    rintro σ H8 ⟨rfl, e8⟩
    refine ⟨fun σ H' => σ = ([some (.ref a0), some (.ref h), some (.int (kk : Int)), some (.int (n : Int)), some (.int p), some (.int (far : Int)), some (.int s), some (.ref t), some (.ref tv), some (.ref b1), some (.ref b2), some (.ref bm), some (.int (c : Int)), some (.ref bs), some (.ref EE), some (.int (((c : Int) + (n : Int)) * p - s)), v 16, v 17] : L2.St) ∧ Ex H7 H', ?_, ?_⟩
    · have tot := pd.turn (sw_okk kb lim) far
      have fn3 : far * (c + n) ≤ 1000000000000000000 := Nat.le_trans (Nat.mul_le_mul (Nat.le_of_lt hf) cn) (by decide)
      refine s_when (b := false) (et_is (et_test (ev_op (ev_spV (k := far * (c + n)) rfl rfl (ev_is (ev_op (ev_var rfl) (ev_op (ev_var rfl) (ev_var rfl) (rv_I0 (g := fun i j => .int (i + j)))) (rv_I (g := fun i j => .int (i * j)) (cm _))) (congrArg V.int (by rw [Int.natCast_mul]; rfl))) fn3 fun H9 e9 => dl (e8.trans e9)) (ev_op (ev_var rfl) (ev_var rfl) (rv_I (g := fun i j => .int (i * j)) (cm _))) (rv_ne rfl))) ?_) (fun z => by cases z) fun _ H9 e9 => ⟨rfl, e8.trans e9⟩
      rw [tot, show (c : Int) * p + kq n p s = ((c : Int) + (n : Int)) * p - s by unfold kq; rw [Int.add_mul]; omega]
      simp
    clear e8
    rintro σ H8 ⟨rfl, e8⟩
    -- the best limits
    refine s_when (b := false) (et_is (et_or (a := !decide (V.int 0 = V.int 0)) (b := !decide (V.int (kq n p s) = V.int ((n : Int) * p - s))) (et_test (ev_op (ev_bl0 kb rfl rfl (kw.ta.same e8) (kw.tv.same e8)) ev_c (rv_ne rfl))) fun _ => et_test (ev_op (ev_bl1 kb rfl rfl (kw.ta.same e8) (kw.tv.same e8)) (ev_op (ev_op (ev_var rfl) (ev_var rfl) (rv_I (g := fun i j => .int (i * j)) (.inl ⟨by omega, by omega⟩))) (ev_var rfl) (rv_I0 (g := fun i j => .int (i - j)))) (rv_ne rfl))) (by unfold kq; simp)) (fun z => by cases z) fun _ H9 e9 => ⟨fun j => (([some (.ref a0), some (.ref h), some (.int (kk : Int)), some (.int (n : Int)), some (.int p), some (.int (far : Int)), some (.int s), some (.ref t), some (.ref tv), some (.ref b1), some (.ref b2), some (.ref bm), some (.int (c : Int)), some (.ref bs), some (.ref EE), some (.int (((c : Int) + (n : Int)) * p - s)), v 16, v 17] : L2.St) : List (Option V)).getD j none, rfl, kw.d.same (e8.trans e9)⟩
end
end Sea

set_option Elab.async false
set_option linter.all false
set_option maxRecDepth 100000
set_option maxHeartbeats 8000000
namespace Sea
open PySem PySem.Spec PyProof.Rows L2 LamX NdefX ClX StX
theorem all_mk {l : PySem.W.OpenLaw} {w : World} {K : PySem.W.Frag} {h : Heap} {mg : Str → Option Value} {fa : Addr} (X : K.In h) (Gn : h.Ns mainGlobals mg) (hfa : mg "law" = some (.ref fa))
    {C CV DB DF DT DS S CC ST CO cP cI cV cU cN pP pL pR pRl pRd pEx pBt eT fI fV fT fTv fP fL fR fRl fRd fEx fBt fBb fBbT fBcF fBcT fBcW fBg fBgW fSI fSd fTa fBy fFx fTn fSw fTo fSx fHol fVal fCvI fOpn fNot fAdd fClo fKno fRch fCAt fCom fCoI pRep fRep fCos fVN fVP fVC fCut fCd fFr fSp fPu fSr fFe fBl fSt fD fOth fLaw : Addr}
    {t0 : Tok} {t1 : Tok} {t2 : Tok} {tM : Tok} {u0 : Tok} {u1 : Tok} {u2 : Tok} {u3 : Tok} {u4 : Tok} {nmI qI : Str} {xNI : Addr} {xbsI xbmI xsubI : List Value} {xsnI : List Str} {xabI : Bool} {xcolI : Option Bool} {xddI : Option Addr} {xm0I xm1I xm2I xm3I xm5I : Option Value} {nmV qV : Str} {xNV : Addr} {xbsV xbmV xsubV : List Value} {xsnV : List Str} {xabV : Bool} {xcolV : Option Bool} {xddV : Option Addr} {xm0V xm1V xm2V xm3V xm5V : Option Value} {ocT : Value} {dcT : Value} {pmT : Value} {ctT : Value} {cdT : Value} {kVT : Value} {odT anT : Option Addr} {slT : Array (Option Value)} {ocI : Value} {dcI : Value} {pmI : Value} {ctI : Value} {cdI : Value} {kVI : Value} {odI anI : Option Addr} {slI : Array (Option Value)} {ocXV : Value} {dcXV : Value} {pmXV : Value} {ctXV : Value} {cdXV : Value} {kVXV : Value} {odXV anXV : Option Addr} {slXV : Array (Option Value)} {reP : List Value} {ocP : Value} {dcP : Value} {pmP : Value} {ctP : Value} {cdP : Value} {kVP : Value} {odP anP : Option Addr} {slP : Array (Option Value)} {reL : List Value} {ocL : Value} {dcL : Value} {pmL : Value} {ctL : Value} {cdL : Value} {kVL : Value} {odL anL : Option Addr} {slL : Array (Option Value)} {reR : List Value} {ocR : Value} {dcR : Value} {pmR : Value} {ctR : Value} {cdR : Value} {kVR : Value} {odR anR : Option Addr} {slR : Array (Option Value)} {ocTv : Value} {dcTv : Value} {pmTv : Value} {ctTv : Value} {cdTv : Value} {odTv anTv : Option Addr} {slTv : Array (Option Value)} {kD : Addr} {eTd : Option Addr} {eTn : Nat} {eTs : Array (Option Value)} {reRl : List Value} {ocRl : Value} {dcRl : Value} {pmRl : Value} {ctRl : Value} {cdRl : Value} {kVRl : Value} {odRl anRl : Option Addr} {slRl : Array (Option Value)} {reRd : List Value} {ocRd : Value} {dcRd : Value} {pmRd : Value} {ctRd : Value} {cdRd : Value} {kVRd : Value} {odRd anRd : Option Addr} {slRd : Array (Option Value)} {reEx : List Value} {ocEx : Value} {dcEx : Value} {pmEx : Value} {ctEx : Value} {cdEx : Value} {kVEx : Value} {odEx anEx : Option Addr} {slEx : Array (Option Value)} {reBt : List Value} {ocBt : Value} {dcBt : Value} {pmBt : Value} {ctBt : Value} {cdBt : Value} {kVBt : Value} {odBt anBt : Option Addr} {slBt : Array (Option Value)} {ocBb : Value} {dcBb : Value} {pmBb : Value} {ctBb : Value} {cdBb : Value} {kVBb : Value} {odBb anBb : Option Addr} {slBb : Array (Option Value)} {ocBbT : Value} {dcBbT : Value} {pmBbT : Value} {ctBbT : Value} {cdBbT : Value} {kVBbT : Value} {odBbT anBbT : Option Addr} {slBbT : Array (Option Value)} {ocBcF : Value} {dcBcF : Value} {pmBcF : Value} {ctBcF : Value} {cdBcF : Value} {kVBcF : Value} {odBcF anBcF : Option Addr} {slBcF : Array (Option Value)} {ocBcT : Value} {dcBcT : Value} {pmBcT : Value} {ctBcT : Value} {cdBcT : Value} {kVBcT : Value} {odBcT anBcT : Option Addr} {slBcT : Array (Option Value)} {ocBcW : Value} {dcBcW : Value} {pmBcW : Value} {ctBcW : Value} {cdBcW : Value} {kVBcW : Value} {odBcW anBcW : Option Addr} {slBcW : Array (Option Value)} {ocBg : Value} {dcBg : Value} {pmBg : Value} {ctBg : Value} {cdBg : Value} {kVBg : Value} {odBg anBg : Option Addr} {slBg : Array (Option Value)} {ocBgW : Value} {dcBgW : Value} {pmBgW : Value} {ctBgW : Value} {cdBgW : Value} {kVBgW : Value} {odBgW anBgW : Option Addr} {slBgW : Array (Option Value)} {ocSI : Value} {dcSI : Value} {pmSI : Value} {ctSI : Value} {cdSI : Value} {kVSI : Value} {odSI anSI : Option Addr} {slSI : Array (Option Value)} {ocSd : Value} {dcSd : Value} {pmSd : Value} {ctSd : Value} {cdSd : Value} {kVSd : Value} {odSd anSd : Option Addr} {slSd : Array (Option Value)} {ocTa : Value} {dcTa : Value} {pmTa : Value} {ctTa : Value} {cdTa : Value} {kVTa : Value} {odTa anTa : Option Addr} {slTa : Array (Option Value)} {ocBy : Value} {dcBy : Value} {pmBy : Value} {ctBy : Value} {cdBy : Value} {kVBy : Value} {odBy anBy : Option Addr} {slBy : Array (Option Value)} {ocF0 kVF0 dcF0 pmF0 ctF0 : Value} {odF0 anF0 : Option Addr} {slF0 : Array (Option Value)} {scclF0 sclvF0 : Value} {scddF0 scldF0 : Option Addr} {scvsF0 : Array Value} {sccsF0 scslF0 : Array (Option Value)} {scfileF0 : Str} {sctfF0 : Tok} {sclsF0 : ClassData} {ccF0 cdaF0 : Addr} {ocT0 kVT0 dcT0 pmT0 ctT0 : Value} {odT0 anT0 : Option Addr} {slT0 : Array (Option Value)} {scclT0 sclvT0 : Value} {scddT0 scldT0 : Option Addr} {scvsT0 : Array Value} {sccsT0 scslT0 : Array (Option Value)} {scfileT0 : Str} {sctfT0 : Tok} {sclsT0 : ClassData} {ccT0 cdaT0 : Addr} {ocW0 kVW0 dcW0 pmW0 ctW0 : Value} {odW0 anW0 : Option Addr} {slW0 : Array (Option Value)} {scclW0 sclvW0 : Value} {scddW0 scldW0 : Option Addr} {scvsW0 : Array Value} {sccsW0 scslW0 : Array (Option Value)} {scfileW0 : Str} {sctfW0 : Tok} {sclsW0 : ClassData} {ccW0 cdaW0 : Addr} {ocTo : Value} {dcTo : Value} {pmTo : Value} {ctTo : Value} {cdTo : Value} {kVTo : Value} {odTo anTo : Option Addr} {slTo : Array (Option Value)} {ocSx : Value} {dcSx : Value} {pmSx : Value} {ctSx : Value} {cdSx : Value} {kVSx : Value} {odSx anSx : Option Addr} {slSx : Array (Option Value)} {ocHol : Value} {dcHol : Value} {pmHol : Value} {ctHol : Value} {cdHol : Value} {kVHol : Value} {odHol anHol : Option Addr} {slHol : Array (Option Value)} {ocVal : Value} {dcVal : Value} {pmVal : Value} {ctVal : Value} {cdVal : Value} {kVVal : Value} {odVal anVal : Option Addr} {slVal : Array (Option Value)} {ocCvI : Value} {dcCvI : Value} {pmCvI : Value} {ctCvI : Value} {cdCvI : Value} {kVCvI : Value} {odCvI anCvI : Option Addr} {slCvI : Array (Option Value)} {ocOpn : Value} {dcOpn : Value} {pmOpn : Value} {ctOpn : Value} {cdOpn : Value} {kVOpn : Value} {odOpn anOpn : Option Addr} {slOpn : Array (Option Value)} {ocNot : Value} {dcNot : Value} {pmNot : Value} {ctNot : Value} {cdNot : Value} {kVNot : Value} {odNot anNot : Option Addr} {slNot : Array (Option Value)} {ocAdd : Value} {dcAdd : Value} {pmAdd : Value} {ctAdd : Value} {cdAdd : Value} {kVAdd : Value} {odAdd anAdd : Option Addr} {slAdd : Array (Option Value)} {ocClo : Value} {dcClo : Value} {pmClo : Value} {ctClo : Value} {cdClo : Value} {kVClo : Value} {odClo anClo : Option Addr} {slClo : Array (Option Value)} {ocKno : Value} {dcKno : Value} {pmKno : Value} {ctKno : Value} {cdKno : Value} {kVKno : Value} {odKno anKno : Option Addr} {slKno : Array (Option Value)} {ocRch : Value} {dcRch : Value} {pmRch : Value} {ctRch : Value} {cdRch : Value} {kVRch : Value} {odRch anRch : Option Addr} {slRch : Array (Option Value)} {ocCAt : Value} {dcCAt : Value} {pmCAt : Value} {ctCAt : Value} {cdCAt : Value} {kVCAt : Value} {odCAt anCAt : Option Addr} {slCAt : Array (Option Value)} {ocCom : Value} {dcCom : Value} {pmCom : Value} {ctCom : Value} {cdCom : Value} {kVCom : Value} {odCom anCom : Option Addr} {slCom : Array (Option Value)} {ocCoI : Value} {dcCoI : Value} {pmCoI : Value} {ctCoI : Value} {cdCoI : Value} {kVCoI : Value} {odCoI anCoI : Option Addr} {slCoI : Array (Option Value)} {reRep : List Value} {ocRep : Value} {dcRep : Value} {pmRep : Value} {ctRep : Value} {cdRep : Value} {kVRep : Value} {odRep anRep : Option Addr} {slRep : Array (Option Value)} {ocCos : Value} {dcCos : Value} {pmCos : Value} {ctCos : Value} {cdCos : Value} {kVCos : Value} {odCos anCos : Option Addr} {slCos : Array (Option Value)} {ocVN : Value} {dcVN : Value} {pmVN : Value} {ctVN : Value} {cdVN : Value} {kVVN : Value} {odVN anVN : Option Addr} {slVN : Array (Option Value)} {ocVP : Value} {dcVP : Value} {pmVP : Value} {ctVP : Value} {cdVP : Value} {kVVP : Value} {odVP anVP : Option Addr} {slVP : Array (Option Value)} {ocVC : Value} {dcVC : Value} {pmVC : Value} {ctVC : Value} {cdVC : Value} {kVVC : Value} {odVC anVC : Option Addr} {slVC : Array (Option Value)} {ocCut : Value} {dcCut : Value} {pmCut : Value} {ctCut : Value} {cdCut : Value} {kVCut : Value} {odCut anCut : Option Addr} {slCut : Array (Option Value)} {ocCd : Value} {dcCd : Value} {pmCd : Value} {ctCd : Value} {cdCd : Value} {kVCd : Value} {odCd anCd : Option Addr} {slCd : Array (Option Value)} {ocFr : Value} {dcFr : Value} {pmFr : Value} {ctFr : Value} {cdFr : Value} {kVFr : Value} {odFr anFr : Option Addr} {slFr : Array (Option Value)} {ocSp : Value} {dcSp : Value} {pmSp : Value} {ctSp : Value} {cdSp : Value} {kVSp : Value} {odSp anSp : Option Addr} {slSp : Array (Option Value)} {ocPu : Value} {dcPu : Value} {pmPu : Value} {ctPu : Value} {cdPu : Value} {kVPu : Value} {odPu anPu : Option Addr} {slPu : Array (Option Value)} {ocSr : Value} {dcSr : Value} {pmSr : Value} {ctSr : Value} {cdSr : Value} {kVSr : Value} {odSr anSr : Option Addr} {slSr : Array (Option Value)} {ocFe : Value} {dcFe : Value} {pmFe : Value} {ctFe : Value} {cdFe : Value} {kVFe : Value} {odFe anFe : Option Addr} {slFe : Array (Option Value)} {ocBl : Value} {dcBl : Value} {pmBl : Value} {ctBl : Value} {cdBl : Value} {kVBl : Value} {odBl anBl : Option Addr} {slBl : Array (Option Value)} {ocSt : Value} {dcSt : Value} {pmSt : Value} {ctSt : Value} {cdSt : Value} {kVSt : Value} {odSt anSt : Option Addr} {slSt : Array (Option Value)} {ocD : Value} {dcD : Value} {pmD : Value} {ctD : Value} {cdD : Value} {kVD : Value} {odD anD : Option Addr} {slD : Array (Option Value)} {ocOth : Value} {dcOth : Value} {pmOth : Value} {ctOth : Value} {cdOth : Value} {kVOth : Value} {odOth anOth : Option Addr} {slOth : Array (Option Value)} {ocLaw : Value} {dcLaw : Value} {pmLaw : Value} {ctLaw : Value} {cdLaw : Value} {kVLaw : Value} {odLaw anLaw : Option Addr} {slLaw : Array (Option Value)}
    (aC : PySem.W.nsIn K mainGlobals "Tariff" = some (some (.ref C)))
    (aCV : PySem.W.nsIn K mainGlobals "Travel" = some (some (.ref CV)))
    (aDB : PySem.W.nsIn K mainGlobals "Buyer" = some (some (.ref DB)))
    (aDF : PySem.W.nsIn K mainGlobals "FixedBuyer" = some (some (.ref DF)))
    (aDT : PySem.W.nsIn K mainGlobals "TurnBuyer" = some (some (.ref DT)))
    (aDS : PySem.W.nsIn K mainGlobals "SwitchBuyer" = some (some (.ref DS)))
    (aS : PySem.W.nsIn K mainGlobals "Spending" = some (some (.ref S)))
    (aP : PySem.W.nsIn K mainGlobals "PassError" = some (some (.ref cP)))
    (aI : PySem.W.nsIn K mainGlobals "InvalidTariff" = some (some (.ref cI)))
    (aV : PySem.W.nsIn K mainGlobals "InvalidTravel" = some (some (.ref cV)))
    (aU : PySem.W.nsIn K mainGlobals "UnknownPass" = some (some (.ref cU)))
    (aN : PySem.W.nsIn K mainGlobals "InvalidCount" = some (some (.ref cN)))
    (aCC : PySem.W.nsIn K mainGlobals "Curve" = some (some (.ref CC)))
    (aST : PySem.W.nsIn K mainGlobals "Stretch" = some (some (.ref ST)))
    (aCO : PySem.W.nsIn K mainGlobals "Costs" = some (some (.ref CO)))
    (z_enumerate : PySem.W.nsIn K mainGlobals "enumerate" = some none)
    (z_len : PySem.W.nsIn K mainGlobals "len" = some none)
    (z_tuple : PySem.W.nsIn K mainGlobals "tuple" = some none)
    (z_int : PySem.W.nsIn K mainGlobals "int" = some none)
    (z_range : PySem.W.nsIn K mainGlobals "range" = some none)
    (z_max : PySem.W.nsIn K mainGlobals "max" = some none)
    (z_min : PySem.W.nsIn K mainGlobals "min" = some none)
    (z_super : PySem.W.nsIn K mainGlobals "super" = some none)
    (pgC : PySem.W.plainGet K C Str.empty = true)
    (hdC : PySem.W.hasDictIn K C = true)
    (poC : PySem.W.plainOver K C = true)
    (saC : PySem.W.findIn K (.ref C) "__setattr__" = some (some (.builtin "object.__setattr__")))
    (mkC : PySem.W.makesIn K C = true)
    (kpCC : PySem.W.keepIn K (.ref C) = true)
    (pgV : PySem.W.plainGet K CV Str.empty = true)
    (hdV : PySem.W.hasDictIn K CV = true)
    (poV : PySem.W.plainOver K CV = true)
    (saV : PySem.W.findIn K (.ref CV) "__setattr__" = some (some (.builtin "object.__setattr__")))
    (mkV : PySem.W.makesIn K CV = true)
    (kpCV : PySem.W.keepIn K (.ref CV) = true)
    (pgF : PySem.W.plainGet K DF Str.empty = true)
    (hdF : PySem.W.hasDictIn K DF = true)
    (poF : PySem.W.plainOver K DF = true)
    (saF : PySem.W.findIn K (.ref DF) "__setattr__" = some (some (.builtin "object.__setattr__")))
    (mkF : PySem.W.makesIn K DF = true)
    (kpCF : PySem.W.keepIn K (.ref DF) = true)
    (pgT : PySem.W.plainGet K DT Str.empty = true)
    (hdT : PySem.W.hasDictIn K DT = true)
    (poT : PySem.W.plainOver K DT = true)
    (saT : PySem.W.findIn K (.ref DT) "__setattr__" = some (some (.builtin "object.__setattr__")))
    (mkT : PySem.W.makesIn K DT = true)
    (kpCT : PySem.W.keepIn K (.ref DT) = true)
    (pgW : PySem.W.plainGet K DS Str.empty = true)
    (hdW : PySem.W.hasDictIn K DS = true)
    (poW : PySem.W.plainOver K DS = true)
    (saW : PySem.W.findIn K (.ref DS) "__setattr__" = some (some (.builtin "object.__setattr__")))
    (mkW : PySem.W.makesIn K DS = true)
    (kpCW : PySem.W.keepIn K (.ref DS) = true)
    (pgS : PySem.W.plainGet K S Str.empty = true)
    (hdS : PySem.W.hasDictIn K S = true)
    (poS : PySem.W.plainOver K S = true)
    (saS : PySem.W.findIn K (.ref S) "__setattr__" = some (some (.builtin "object.__setattr__")))
    (mkS : PySem.W.makesIn K S = true)
    (kpCS : PySem.W.keepIn K (.ref S) = true)
    (pgQ : PySem.W.plainGet K CC Str.empty = true)
    (hdQ : PySem.W.hasDictIn K CC = true)
    (poQ : PySem.W.plainOver K CC = true)
    (saQ : PySem.W.findIn K (.ref CC) "__setattr__" = some (some (.builtin "object.__setattr__")))
    (mkQ : PySem.W.makesIn K CC = true)
    (kpCQ : PySem.W.keepIn K (.ref CC) = true)
    (pgX : PySem.W.plainGet K ST Str.empty = true)
    (hdX : PySem.W.hasDictIn K ST = true)
    (poX : PySem.W.plainOver K ST = true)
    (saX : PySem.W.findIn K (.ref ST) "__setattr__" = some (some (.builtin "object.__setattr__")))
    (mkX : PySem.W.makesIn K ST = true)
    (kpCX : PySem.W.keepIn K (.ref ST) = true)
    (pgO : PySem.W.plainGet K CO Str.empty = true)
    (hdO : PySem.W.hasDictIn K CO = true)
    (poO : PySem.W.plainOver K CO = true)
    (saO : PySem.W.findIn K (.ref CO) "__setattr__" = some (some (.builtin "object.__setattr__")))
    (mkO : PySem.W.makesIn K CO = true)
    (kpCO : PySem.W.keepIn K (.ref CO) = true)
    (nO : PySem.W.findIn K (.ref C) "offers" = some none)
    (rd : PySem.W.readsIn K C (.type "type") = true)
    (ga : PySem.W.specialIn K (.ref C) "__getattribute__" = some (some (.builtin "type.__getattribute__")))
    (rdW : PySem.W.readsIn K DS (.type "type") = true)
    (gaW : PySem.W.specialIn K (.ref DS) "__getattribute__" = some (some (.builtin "type.__getattribute__")))
    (v0 : PySem.W.findCls K (.ref C) (.type "type") "MAX_LENGTH" = some (.val (.int 28 t0)))
    (v1 : PySem.W.findCls K (.ref C) (.type "type") "MAX_PRICE" = some (.val (.int 1000000 t1)))
    (v2 : PySem.W.findCls K (.ref C) (.type "type") "MAX_PASSES" = some (.val (.int 6 t2)))
    (vM : PySem.W.findCls K (.ref DS) (.type "type") "MAX_LIMIT" = some (.val (.int 1000000000 tM)))
    (nA0 : PySem.W.findIn K (.ref CV) "size" = some none)
    (nA1 : PySem.W.findIn K (.ref CV) "pattern" = some none)
    (nA2 : PySem.W.findIn K (.ref CV) "odd_days" = some none)
    (nB0 : PySem.W.findIn K (.ref DF) "offer" = some none)
    (nB1 : PySem.W.findIn K (.ref DT) "offer" = some none)
    (nB2 : PySem.W.findIn K (.ref DS) "offer" = some none)
    (nB3 : PySem.W.findIn K (.ref DF) "favorite" = some none)
    (nB4 : PySem.W.findIn K (.ref DT) "sequence" = some none)
    (nB5 : PySem.W.findIn K (.ref DS) "short" = some none)
    (nB6 : PySem.W.findIn K (.ref DS) "long" = some none)
    (nB7 : PySem.W.findIn K (.ref DS) "limit" = some none)
    (nQ0 : PySem.W.findIn K (.ref CC) "offers" = some none)
    (nQ1 : PySem.W.findIn K (.ref CC) "days_of_travel" = some none)
    (nQ2 : PySem.W.findIn K (.ref CC) "reach" = some none)
    (nQ3 : PySem.W.findIn K (.ref CC) "cuts" = some none)
    (nQ4 : PySem.W.findIn K (.ref CC) "stretches" = some none)
    (nQ5 : PySem.W.findIn K (.ref CC) "recent" = some none)
    (nQ6 : PySem.W.findIn K (.ref CC) "seen" = some none)
    (nX0 : PySem.W.findIn K (.ref ST) "begin" = some none)
    (nX1 : PySem.W.findIn K (.ref ST) "end" = some none)
    (nX2 : PySem.W.findIn K (.ref ST) "totals" = some none)
    (nX3 : PySem.W.findIn K (.ref ST) "start" = some none)
    (nX4 : PySem.W.findIn K (.ref ST) "days" = some none)
    (nX5 : PySem.W.findIn K (.ref ST) "gain" = some none)
    (nP0 : PySem.W.findIn K (.ref CO) "offer" = some none)
    (nP1 : PySem.W.findIn K (.ref CO) "trips" = some none)
    (nP2 : PySem.W.findIn K (.ref CO) "curve" = some none)
    (nP3 : PySem.W.findIn K (.ref CO) "last" = some none)
    (nS0 : PySem.W.findIn K (.ref S) "totals" = some none)
    (nS1 : PySem.W.findIn K (.ref S) "bought" = some none)
    (nS2 : PySem.W.findIn K (.ref S) "start" = some none)
    (nS3 : PySem.W.findIn K (.ref S) "period" = some none)
    (nS4 : PySem.W.findIn K (.ref S) "gain" = some none)
    (w0 : PySem.W.nsIn K mainGlobals "MAX_ROUND" = some (some (.int 14 u0)))
    (w1 : PySem.W.nsIn K mainGlobals "MAX_EXCEPTIONS" = some (some (.int 6 u1)))
    (w2 : PySem.W.nsIn K mainGlobals "MAX_DAYS" = some (some (.int 1000000000000000000 u2)))
    (w3 : PySem.W.nsIn K mainGlobals "MAX_YIELDED" = some (some (.int 10000 u3)))
    (w4 : PySem.W.nsIn K mainGlobals "MAX_FACTOR" = some (some (.int 1000 u4)))
    (xLI : K.lookup cI = some (excClassObj nmI qI cI xNI xbsI xbmI true xsnI xsubI xabI xcolI xddI xm0I xm1I xm2I xm3I xm5I "ValueError.__new__"))
    (xrvI : PySem.HandSPX.refsVE xbmI = true)
    (xsaI : PySem.W.findIn K (.ref cI) "__setattr__" = some (some (.builtin "object.__setattr__")))
    (sI : PySem.W.subIn K (.ref cI) (.type "BaseException") = some true)
    (yI : PySem.W.typeIn K (.ref cI) = some (.type "type"))
    (kpI : PySem.W.keepIn K (.ref cI) = true)
    (nI_index : PySem.W.findIn K (.ref cI) "index" = some none)
    (iI : PySem.W.findIn K (.ref cI) "__init__" = some (some (.ref fI)))
    (tI : PySem.W.typeIn K (.ref fI) = some (.type "function"))
    (egI : PySem.W.findIn K (.ref cI) "__getattribute__" = some (some (.builtin "BaseException.__getattribute__")))
    (ekI : PySem.W.findIn K (.ref cI) "__getattr__" = some none)
    (ehI : PySem.W.hasDictIn K cI = true)
    (xLV : K.lookup cV = some (excClassObj nmV qV cV xNV xbsV xbmV true xsnV xsubV xabV xcolV xddV xm0V xm1V xm2V xm3V xm5V "ValueError.__new__"))
    (xrvV : PySem.HandSPX.refsVE xbmV = true)
    (xsaV : PySem.W.findIn K (.ref cV) "__setattr__" = some (some (.builtin "object.__setattr__")))
    (sV : PySem.W.subIn K (.ref cV) (.type "BaseException") = some true)
    (yV : PySem.W.typeIn K (.ref cV) = some (.type "type"))
    (kpV : PySem.W.keepIn K (.ref cV) = true)
    (nV_part : PySem.W.findIn K (.ref cV) "part" = some none)
    (nV_index : PySem.W.findIn K (.ref cV) "index" = some none)
    (iV : PySem.W.findIn K (.ref cV) "__init__" = some (some (.ref fV)))
    (tV : PySem.W.typeIn K (.ref fV) = some (.type "function"))
    (egV : PySem.W.findIn K (.ref cV) "__getattribute__" = some (some (.builtin "BaseException.__getattribute__")))
    (ekV : PySem.W.findIn K (.ref cV) "__getattr__" = some none)
    (ehV : PySem.W.hasDictIn K cV = true)
    (prd : PySem.W.readsIn K cP (.type "type") = true)
    (pga : PySem.W.specialIn K (.ref cP) "__getattribute__" = some (some (.builtin "type.__getattribute__")))
    (pat : PySem.W.findCls K (.ref cP) (.type "type") "__init__" = some (.val (.builtin "ValueError.__init__")))
    (qU : PySem.W.excIn K cU [.type "ValueError", .type "Exception", .type "BaseException", .type "object"] "ValueError.__new__" = true)
    (kU : PySem.W.keepIn K (.ref cU) = true)
    (sU : PySem.W.subIn K (.ref cU) (.type "BaseException") = some true)
    (yU : PySem.W.typeIn K (.ref cU) = some (.type "type"))
    (qN : PySem.W.excIn K cN [.type "ValueError", .type "Exception", .type "BaseException", .type "object"] "ValueError.__new__" = true)
    (kN : PySem.W.keepIn K (.ref cN) = true)
    (sN : PySem.W.subIn K (.ref cN) (.type "BaseException") = some true)
    (yN : PySem.W.typeIn K (.ref cN) = some (.type "type"))
    (atT : PySem.W.findIn K (.ref C) "__init__" = some (some (.ref fT)))
    (ifT : PySem.W.isFn K (.ref fT) = true)
    (lT : K.lookup fT = some ⟨ocT, odT, .func (PySem.W.fnOf "__init__" "Tariff.__init__" (defArgs sInit) (defBody sInit) (defScope sInit) .none kVT dcT pmT anT cdT ctT), slT⟩)
    (cd_T : PySem.W.codeIn K cdT "Tariff.__init__" = true)
    (kp_T : PySem.W.keepIn K (.ref fT) = true)
    (lI : K.lookup fI = some ⟨ocI, odI, .func (PySem.W.fnOf "__init__" "InvalidTariff.__init__" (defArgs sIT) (defBody sIT) (defScope sIT) .none kVI dcI pmI anI cdI ctI), slI⟩)
    (cd_I : PySem.W.codeIn K cdI "InvalidTariff.__init__" = true)
    (kp_I : PySem.W.keepIn K (.ref fI) = true)
    (lXV : K.lookup fV = some ⟨ocXV, odXV, .func (PySem.W.fnOf "__init__" "InvalidTravel.__init__" (defArgs sIV) (defBody sIV) (defScope sIV) .none kVXV dcXV pmXV anXV cdXV ctXV), slXV⟩)
    (cd_XV : PySem.W.codeIn K cdXV "InvalidTravel.__init__" = true)
    (kp_XV : PySem.W.keepIn K (.ref fV) = true)
    (atP : PySem.W.findIn K (.ref C) "passes" = some (some (.ref pP)))
    (geP : PySem.W.specialIn K (.ref pP) "__get__" = some (some (.builtin "property.__get__")))
    (taP : PySem.W.takesIn K (.ref pP) = some true)
    (rcP : PySem.W.recIn K pP "property" = some (.ref fP :: reP))
    (lP : K.lookup fP = some ⟨ocP, odP, .func (PySem.W.fnOf "passes" "Tariff.passes" (defArgs sPasses) (defBody sPasses) (defScope sPasses) .none kVP dcP pmP anP cdP ctP), slP⟩)
    (cd_P : PySem.W.codeIn K cdP "Tariff.passes" = true)
    (kp_P : PySem.W.keepIn K (.ref fP) = true)
    (atL : PySem.W.findIn K (.ref C) "lengths" = some (some (.ref pL)))
    (geL : PySem.W.specialIn K (.ref pL) "__get__" = some (some (.builtin "property.__get__")))
    (taL : PySem.W.takesIn K (.ref pL) = some true)
    (rcL : PySem.W.recIn K pL "property" = some (.ref fL :: reL))
    (lL : K.lookup fL = some ⟨ocL, odL, .func (PySem.W.fnOf "lengths" "Tariff.lengths" (defArgs sLengths) (defBody sLengths) (defScope sLengths) .none kVL dcL pmL anL cdL ctL), slL⟩)
    (cd_L : PySem.W.codeIn K cdL "Tariff.lengths" = true)
    (kp_L : PySem.W.keepIn K (.ref fL) = true)
    (atR : PySem.W.findIn K (.ref C) "prices" = some (some (.ref pR)))
    (geR : PySem.W.specialIn K (.ref pR) "__get__" = some (some (.builtin "property.__get__")))
    (taR : PySem.W.takesIn K (.ref pR) = some true)
    (rcR : PySem.W.recIn K pR "property" = some (.ref fR :: reR))
    (lR : K.lookup fR = some ⟨ocR, odR, .func (PySem.W.fnOf "prices" "Tariff.prices" (defArgs sPrices) (defBody sPrices) (defScope sPrices) .none kVR dcR pmR anR cdR ctR), slR⟩)
    (cd_R : PySem.W.codeIn K cdR "Tariff.prices" = true)
    (kp_R : PySem.W.keepIn K (.ref fR) = true)
    (atTv : PySem.W.findIn K (.ref CV) "__init__" = some (some (.ref fTv)))
    (ifTv : PySem.W.isFn K (.ref fTv) = true)
    (lTv : K.lookup fTv = some ⟨ocTv, odTv, .func (PySem.W.fnOf "__init__" "Travel.__init__" (defArgs sTvI) (defBody sTvI) (defScope sTvI) .none (.ref kD) dcTv pmTv anTv cdTv ctTv), slTv⟩)
    (cd_Tv : PySem.W.codeIn K cdTv "Travel.__init__" = true)
    (kp_Tv : PySem.W.keepIn K (.ref fTv) = true)
    (kx : PySem.W.nsIn K kD "exceptions" = some (some (.ref eT)))
    (eTl : K.lookup eT = some ⟨.type "tuple", eTd, .seq #[] eTn, eTs⟩)
    (atRl : PySem.W.findIn K (.ref CV) "round_length" = some (some (.ref pRl)))
    (geRl : PySem.W.specialIn K (.ref pRl) "__get__" = some (some (.builtin "property.__get__")))
    (taRl : PySem.W.takesIn K (.ref pRl) = some true)
    (rcRl : PySem.W.recIn K pRl "property" = some (.ref fRl :: reRl))
    (lRl : K.lookup fRl = some ⟨ocRl, odRl, .func (PySem.W.fnOf "round_length" "Travel.round_length" (defArgs sRl) (defBody sRl) (defScope sRl) .none kVRl dcRl pmRl anRl cdRl ctRl), slRl⟩)
    (cd_Rl : PySem.W.codeIn K cdRl "Travel.round_length" = true)
    (kp_Rl : PySem.W.keepIn K (.ref fRl) = true)
    (atRd : PySem.W.findIn K (.ref CV) "round_days" = some (some (.ref pRd)))
    (geRd : PySem.W.specialIn K (.ref pRd) "__get__" = some (some (.builtin "property.__get__")))
    (taRd : PySem.W.takesIn K (.ref pRd) = some true)
    (rcRd : PySem.W.recIn K pRd "property" = some (.ref fRd :: reRd))
    (lRd : K.lookup fRd = some ⟨ocRd, odRd, .func (PySem.W.fnOf "round_days" "Travel.round_days" (defArgs sRd) (defBody sRd) (defScope sRd) .none kVRd dcRd pmRd anRd cdRd ctRd), slRd⟩)
    (cd_Rd : PySem.W.codeIn K cdRd "Travel.round_days" = true)
    (kp_Rd : PySem.W.keepIn K (.ref fRd) = true)
    (atEx : PySem.W.findIn K (.ref CV) "exceptions" = some (some (.ref pEx)))
    (geEx : PySem.W.specialIn K (.ref pEx) "__get__" = some (some (.builtin "property.__get__")))
    (taEx : PySem.W.takesIn K (.ref pEx) = some true)
    (rcEx : PySem.W.recIn K pEx "property" = some (.ref fEx :: reEx))
    (lEx : K.lookup fEx = some ⟨ocEx, odEx, .func (PySem.W.fnOf "exceptions" "Travel.exceptions" (defArgs sEx) (defBody sEx) (defScope sEx) .none kVEx dcEx pmEx anEx cdEx ctEx), slEx⟩)
    (cd_Ex : PySem.W.codeIn K cdEx "Travel.exceptions" = true)
    (kp_Ex : PySem.W.keepIn K (.ref fEx) = true)
    (atBt : PySem.W.findIn K (.ref DF) "tariff" = some (some (.ref pBt)))
    (geBt : PySem.W.specialIn K (.ref pBt) "__get__" = some (some (.builtin "property.__get__")))
    (taBt : PySem.W.takesIn K (.ref pBt) = some true)
    (rcBt : PySem.W.recIn K pBt "property" = some (.ref fBt :: reBt))
    (lBt : K.lookup fBt = some ⟨ocBt, odBt, .func (PySem.W.fnOf "tariff" "Buyer.tariff" (defArgs sByT) (defBody sByT) (defScope sByT) .none kVBt dcBt pmBt anBt cdBt ctBt), slBt⟩)
    (cd_Bt : PySem.W.codeIn K cdBt "Buyer.tariff" = true)
    (kp_Bt : PySem.W.keepIn K (.ref fBt) = true)
    (atBtT : PySem.W.findIn K (.ref DT) "tariff" = some (some (.ref pBt)))
    (atBtW : PySem.W.findIn K (.ref DS) "tariff" = some (some (.ref pBt)))
    (atBb : PySem.W.findIn K (.ref DF) "beginning" = some (some (.ref fBb)))
    (ifBb : PySem.W.isFn K (.ref fBb) = true)
    (lBb : K.lookup fBb = some ⟨ocBb, odBb, .func (PySem.W.fnOf "beginning" "Buyer.beginning" (defArgs sByB) (defBody sByB) (defScope sByB) .none kVBb dcBb pmBb anBb cdBb ctBb), slBb⟩)
    (cd_Bb : PySem.W.codeIn K cdBb "Buyer.beginning" = true)
    (kp_Bb : PySem.W.keepIn K (.ref fBb) = true)
    (atBbW : PySem.W.findIn K (.ref DS) "beginning" = some (some (.ref fBb)))
    (ifBbW : PySem.W.isFn K (.ref fBb) = true)
    (atBbT : PySem.W.findIn K (.ref DT) "beginning" = some (some (.ref fBbT)))
    (ifBbT : PySem.W.isFn K (.ref fBbT) = true)
    (lBbT : K.lookup fBbT = some ⟨ocBbT, odBbT, .func (PySem.W.fnOf "beginning" "TurnBuyer.beginning" (defArgs sTnB) (defBody sTnB) (defScope sTnB) .none kVBbT dcBbT pmBbT anBbT cdBbT ctBbT), slBbT⟩)
    (cd_BbT : PySem.W.codeIn K cdBbT "TurnBuyer.beginning" = true)
    (kp_BbT : PySem.W.keepIn K (.ref fBbT) = true)
    (atBcF : PySem.W.findIn K (.ref DF) "choose" = some (some (.ref fBcF)))
    (ifBcF : PySem.W.isFn K (.ref fBcF) = true)
    (lBcF : K.lookup fBcF = some ⟨ocBcF, odBcF, .func (PySem.W.fnOf "choose" "FixedBuyer.choose" (defArgs sFxC) (defBody sFxC) (defScope sFxC) .none kVBcF dcBcF pmBcF anBcF cdBcF ctBcF), slBcF⟩)
    (cd_BcF : PySem.W.codeIn K cdBcF "FixedBuyer.choose" = true)
    (kp_BcF : PySem.W.keepIn K (.ref fBcF) = true)
    (atBcT : PySem.W.findIn K (.ref DT) "choose" = some (some (.ref fBcT)))
    (ifBcT : PySem.W.isFn K (.ref fBcT) = true)
    (lBcT : K.lookup fBcT = some ⟨ocBcT, odBcT, .func (PySem.W.fnOf "choose" "TurnBuyer.choose" (defArgs sTnC) (defBody sTnC) (defScope sTnC) .none kVBcT dcBcT pmBcT anBcT cdBcT ctBcT), slBcT⟩)
    (cd_BcT : PySem.W.codeIn K cdBcT "TurnBuyer.choose" = true)
    (kp_BcT : PySem.W.keepIn K (.ref fBcT) = true)
    (atBcW : PySem.W.findIn K (.ref DS) "choose" = some (some (.ref fBcW)))
    (ifBcW : PySem.W.isFn K (.ref fBcW) = true)
    (lBcW : K.lookup fBcW = some ⟨ocBcW, odBcW, .func (PySem.W.fnOf "choose" "SwitchBuyer.choose" (defArgs sSwC) (defBody sSwC) (defScope sSwC) .none kVBcW dcBcW pmBcW anBcW cdBcW ctBcW), slBcW⟩)
    (cd_BcW : PySem.W.codeIn K cdBcW "SwitchBuyer.choose" = true)
    (kp_BcW : PySem.W.keepIn K (.ref fBcW) = true)
    (atBg : PySem.W.findIn K (.ref DF) "grow_older" = some (some (.ref fBg)))
    (ifBg : PySem.W.isFn K (.ref fBg) = true)
    (lBg : K.lookup fBg = some ⟨ocBg, odBg, .func (PySem.W.fnOf "grow_older" "Buyer.grow_older" (defArgs sByG) (defBody sByG) (defScope sByG) .none kVBg dcBg pmBg anBg cdBg ctBg), slBg⟩)
    (cd_Bg : PySem.W.codeIn K cdBg "Buyer.grow_older" = true)
    (kp_Bg : PySem.W.keepIn K (.ref fBg) = true)
    (atBgT : PySem.W.findIn K (.ref DT) "grow_older" = some (some (.ref fBg)))
    (ifBgT : PySem.W.isFn K (.ref fBg) = true)
    (atBgW : PySem.W.findIn K (.ref DS) "grow_older" = some (some (.ref fBgW)))
    (ifBgW : PySem.W.isFn K (.ref fBgW) = true)
    (lBgW : K.lookup fBgW = some ⟨ocBgW, odBgW, .func (PySem.W.fnOf "grow_older" "SwitchBuyer.grow_older" (defArgs sSwG) (defBody sSwG) (defScope sSwG) .none kVBgW dcBgW pmBgW anBgW cdBgW ctBgW), slBgW⟩)
    (cd_BgW : PySem.W.codeIn K cdBgW "SwitchBuyer.grow_older" = true)
    (kp_BgW : PySem.W.keepIn K (.ref fBgW) = true)
    (atSI : PySem.W.findIn K (.ref S) "__init__" = some (some (.ref fSI)))
    (ifSI : PySem.W.isFn K (.ref fSI) = true)
    (lSI : K.lookup fSI = some ⟨ocSI, odSI, .func (PySem.W.fnOf "__init__" "Spending.__init__" (defArgs sSpI) (defBody sSpI) (defScope sSpI) .none kVSI dcSI pmSI anSI cdSI ctSI), slSI⟩)
    (cd_SI : PySem.W.codeIn K cdSI "Spending.__init__" = true)
    (kp_SI : PySem.W.keepIn K (.ref fSI) = true)
    (atSd : PySem.W.findIn K (.ref S) "same_day" = some (some (.ref fSd)))
    (ifSd : PySem.W.isFn K (.ref fSd) = true)
    (lSd : K.lookup fSd = some ⟨ocSd, odSd, .func (PySem.W.fnOf "same_day" "Spending.same_day" (defArgs sSd) (defBody sSd) (defScope sSd) .none kVSd dcSd pmSd anSd cdSd ctSd), slSd⟩)
    (cd_Sd : PySem.W.codeIn K cdSd "Spending.same_day" = true)
    (kp_Sd : PySem.W.keepIn K (.ref fSd) = true)
    (atTa : PySem.W.findIn K (.ref S) "total_after" = some (some (.ref fTa)))
    (ifTa : PySem.W.isFn K (.ref fTa) = true)
    (lTa : K.lookup fTa = some ⟨ocTa, odTa, .func (PySem.W.fnOf "total_after" "Spending.total_after" (defArgs sTa) (defBody sTa) (defScope sTa) .none kVTa dcTa pmTa anTa cdTa ctTa), slTa⟩)
    (cd_Ta : PySem.W.codeIn K cdTa "Spending.total_after" = true)
    (kp_Ta : PySem.W.keepIn K (.ref fTa) = true)
    (atBy : PySem.W.findIn K (.ref DB) "__init__" = some (some (.ref fBy)))
    (lBy : K.lookup fBy = some ⟨ocBy, odBy, .func (PySem.W.fnOf "__init__" "Buyer.__init__" (defArgs sByI) (defBody sByI) (defScope sByI) .none kVBy dcBy pmBy anBy cdBy ctBy), slBy⟩)
    (cd_By : PySem.W.codeIn K cdBy "Buyer.__init__" = true)
    (kp_By : PySem.W.keepIn K (.ref fBy) = true)
    (stop : (l.prog.main.scope.names.lookup ("super" : Str)).isSome = false)
    (sopq : PySem.W.nsIn K cStatics "thirdparty.any" = some none)
    (sty : PySem.W.typeIn K (.ref fBy) = some (.type "function"))
    (sfi : PySem.W.fnIn K fBy = true)
    (atF0 : PySem.W.findIn K (.ref DF) "__init__" = some (some (.ref fFx)))
    (ifF0 : PySem.W.isFn K (.ref fFx) = true)
    (lF0 : K.lookup fFx = some ⟨ocF0, odF0, .func (PySem.W.fnX "__init__" "FixedBuyer.__init__" (defArgs sFxI) (defBody sFxI) (defScope sFxI) [("__class__", ccF0)] .none kVF0 dcF0 pmF0 anF0 (.ref cdaF0) ctF0), slF0⟩)
    (cd_F0 : PySem.W.codeIn K (.ref cdaF0) "FixedBuyer.__init__" = true)
    (kp_F0 : PySem.W.keepIn K (.ref fFx) = true)
    (scodeF0 : K.lookup cdaF0 = some ⟨scclF0, scddF0, .fields scvsF0, sccsF0⟩)
    (sfilF0 : scvsF0[2]? = some (.str scfileF0 sctfF0))
    (smainF0 : ((l.prog.main.file : Str) == scfileF0) = true)
    (scellF0 : K.lookup ccF0 = some ⟨sclvF0, scldF0, .cell (some (.ref DF)), scslF0⟩)
    (sclassF0 : PySem.W.clsIn K DF = some sclsF0)
    (smroF0 : PySem.W.mroIn K DF (.ref DF) = some true)
    (smethF0 : PySem.W.ks_superIn K DF DF "__init__" = some (some (.ref fBy)))
    (atT0 : PySem.W.findIn K (.ref DT) "__init__" = some (some (.ref fTn)))
    (ifT0 : PySem.W.isFn K (.ref fTn) = true)
    (lT0 : K.lookup fTn = some ⟨ocT0, odT0, .func (PySem.W.fnX "__init__" "TurnBuyer.__init__" (defArgs sTnI) (defBody sTnI) (defScope sTnI) [("__class__", ccT0)] .none kVT0 dcT0 pmT0 anT0 (.ref cdaT0) ctT0), slT0⟩)
    (cd_T0 : PySem.W.codeIn K (.ref cdaT0) "TurnBuyer.__init__" = true)
    (kp_T0 : PySem.W.keepIn K (.ref fTn) = true)
    (scodeT0 : K.lookup cdaT0 = some ⟨scclT0, scddT0, .fields scvsT0, sccsT0⟩)
    (sfilT0 : scvsT0[2]? = some (.str scfileT0 sctfT0))
    (smainT0 : ((l.prog.main.file : Str) == scfileT0) = true)
    (scellT0 : K.lookup ccT0 = some ⟨sclvT0, scldT0, .cell (some (.ref DT)), scslT0⟩)
    (sclassT0 : PySem.W.clsIn K DT = some sclsT0)
    (smroT0 : PySem.W.mroIn K DT (.ref DT) = some true)
    (smethT0 : PySem.W.ks_superIn K DT DT "__init__" = some (some (.ref fBy)))
    (atW0 : PySem.W.findIn K (.ref DS) "__init__" = some (some (.ref fSw)))
    (ifW0 : PySem.W.isFn K (.ref fSw) = true)
    (lW0 : K.lookup fSw = some ⟨ocW0, odW0, .func (PySem.W.fnX "__init__" "SwitchBuyer.__init__" (defArgs sSwI) (defBody sSwI) (defScope sSwI) [("__class__", ccW0)] .none kVW0 dcW0 pmW0 anW0 (.ref cdaW0) ctW0), slW0⟩)
    (cd_W0 : PySem.W.codeIn K (.ref cdaW0) "SwitchBuyer.__init__" = true)
    (kp_W0 : PySem.W.keepIn K (.ref fSw) = true)
    (scodeW0 : K.lookup cdaW0 = some ⟨scclW0, scddW0, .fields scvsW0, sccsW0⟩)
    (sfilW0 : scvsW0[2]? = some (.str scfileW0 sctfW0))
    (smainW0 : ((l.prog.main.file : Str) == scfileW0) = true)
    (scellW0 : K.lookup ccW0 = some ⟨sclvW0, scldW0, .cell (some (.ref DS)), scslW0⟩)
    (sclassW0 : PySem.W.clsIn K DS = some sclsW0)
    (smroW0 : PySem.W.mroIn K DS (.ref DS) = some true)
    (smethW0 : PySem.W.ks_superIn K DS DS "__init__" = some (some (.ref fBy)))
    (atTo : PySem.W.findIn K (.ref CV) "travels_on" = some (some (.ref fTo)))
    (ifTo : PySem.W.isFn K (.ref fTo) = true)
    (lTo : K.lookup fTo = some ⟨ocTo, odTo, .func (PySem.W.fnOf "travels_on" "Travel.travels_on" (defArgs sTo) (defBody sTo) (defScope sTo) .none kVTo dcTo pmTo anTo cdTo ctTo), slTo⟩)
    (cd_To : PySem.W.codeIn K cdTo "Travel.travels_on" = true)
    (kp_To : PySem.W.keepIn K (.ref fTo) = true)
    (atSx : PySem.W.findIn K (.ref ST) "__init__" = some (some (.ref fSx)))
    (ifSx : PySem.W.isFn K (.ref fSx) = true)
    (lSx : K.lookup fSx = some ⟨ocSx, odSx, .func (PySem.W.fnOf "__init__" "Stretch.__init__" (defArgs sStI) (defBody sStI) (defScope sStI) .none kVSx dcSx pmSx anSx cdSx ctSx), slSx⟩)
    (cd_Sx : PySem.W.codeIn K cdSx "Stretch.__init__" = true)
    (kp_Sx : PySem.W.keepIn K (.ref fSx) = true)
    (atHol : PySem.W.findIn K (.ref ST) "holds" = some (some (.ref fHol)))
    (ifHol : PySem.W.isFn K (.ref fHol) = true)
    (lHol : K.lookup fHol = some ⟨ocHol, odHol, .func (PySem.W.fnOf "holds" "Stretch.holds" (defArgs sHol) (defBody sHol) (defScope sHol) .none kVHol dcHol pmHol anHol cdHol ctHol), slHol⟩)
    (cd_Hol : PySem.W.codeIn K cdHol "Stretch.holds" = true)
    (kp_Hol : PySem.W.keepIn K (.ref fHol) = true)
    (atVal : PySem.W.findIn K (.ref ST) "value" = some (some (.ref fVal)))
    (ifVal : PySem.W.isFn K (.ref fVal) = true)
    (lVal : K.lookup fVal = some ⟨ocVal, odVal, .func (PySem.W.fnOf "value" "Stretch.value" (defArgs sVal) (defBody sVal) (defScope sVal) .none kVVal dcVal pmVal anVal cdVal ctVal), slVal⟩)
    (cd_Val : PySem.W.codeIn K cdVal "Stretch.value" = true)
    (kp_Val : PySem.W.keepIn K (.ref fVal) = true)
    (atCvI : PySem.W.findIn K (.ref CC) "__init__" = some (some (.ref fCvI)))
    (ifCvI : PySem.W.isFn K (.ref fCvI) = true)
    (lCvI : K.lookup fCvI = some ⟨ocCvI, odCvI, .func (PySem.W.fnOf "__init__" "Curve.__init__" (defArgs sCvI) (defBody sCvI) (defScope sCvI) .none kVCvI dcCvI pmCvI anCvI cdCvI ctCvI), slCvI⟩)
    (cd_CvI : PySem.W.codeIn K cdCvI "Curve.__init__" = true)
    (kp_CvI : PySem.W.keepIn K (.ref fCvI) = true)
    (atOpn : PySem.W.findIn K (.ref CC) "open_stretch" = some (some (.ref fOpn)))
    (ifOpn : PySem.W.isFn K (.ref fOpn) = true)
    (lOpn : K.lookup fOpn = some ⟨ocOpn, odOpn, .func (PySem.W.fnOf "open_stretch" "Curve.open_stretch" (defArgs sOpn) (defBody sOpn) (defScope sOpn) .none kVOpn dcOpn pmOpn anOpn cdOpn ctOpn), slOpn⟩)
    (cd_Opn : PySem.W.codeIn K cdOpn "Curve.open_stretch" = true)
    (kp_Opn : PySem.W.keepIn K (.ref fOpn) = true)
    (atNot : PySem.W.findIn K (.ref CC) "note_state" = some (some (.ref fNot)))
    (ifNot : PySem.W.isFn K (.ref fNot) = true)
    (lNot : K.lookup fNot = some ⟨ocNot, odNot, .func (PySem.W.fnOf "note_state" "Curve.note_state" (defArgs sNot) (defBody sNot) (defScope sNot) .none kVNot dcNot pmNot anNot cdNot ctNot), slNot⟩)
    (cd_Not : PySem.W.codeIn K cdNot "Curve.note_state" = true)
    (kp_Not : PySem.W.keepIn K (.ref fNot) = true)
    (atAdd : PySem.W.findIn K (.ref CC) "add_day" = some (some (.ref fAdd)))
    (ifAdd : PySem.W.isFn K (.ref fAdd) = true)
    (lAdd : K.lookup fAdd = some ⟨ocAdd, odAdd, .func (PySem.W.fnOf "add_day" "Curve.add_day" (defArgs sAdd) (defBody sAdd) (defScope sAdd) .none kVAdd dcAdd pmAdd anAdd cdAdd ctAdd), slAdd⟩)
    (cd_Add : PySem.W.codeIn K cdAdd "Curve.add_day" = true)
    (kp_Add : PySem.W.keepIn K (.ref fAdd) = true)
    (atClo : PySem.W.findIn K (.ref CC) "close_stretch" = some (some (.ref fClo)))
    (ifClo : PySem.W.isFn K (.ref fClo) = true)
    (lClo : K.lookup fClo = some ⟨ocClo, odClo, .func (PySem.W.fnOf "close_stretch" "Curve.close_stretch" (defArgs sClo) (defBody sClo) (defScope sClo) .none kVClo dcClo pmClo anClo cdClo ctClo), slClo⟩)
    (cd_Clo : PySem.W.codeIn K cdClo "Curve.close_stretch" = true)
    (kp_Clo : PySem.W.keepIn K (.ref fClo) = true)
    (atKno : PySem.W.findIn K (.ref CC) "known" = some (some (.ref fKno)))
    (ifKno : PySem.W.isFn K (.ref fKno) = true)
    (lKno : K.lookup fKno = some ⟨ocKno, odKno, .func (PySem.W.fnOf "known" "Curve.known" (defArgs sKno) (defBody sKno) (defScope sKno) .none kVKno dcKno pmKno anKno cdKno ctKno), slKno⟩)
    (cd_Kno : PySem.W.codeIn K cdKno "Curve.known" = true)
    (kp_Kno : PySem.W.keepIn K (.ref fKno) = true)
    (atRch : PySem.W.findIn K (.ref CC) "reach_count" = some (some (.ref fRch)))
    (ifRch : PySem.W.isFn K (.ref fRch) = true)
    (lRch : K.lookup fRch = some ⟨ocRch, odRch, .func (PySem.W.fnOf "reach_count" "Curve.reach_count" (defArgs sRch) (defBody sRch) (defScope sRch) .none kVRch dcRch pmRch anRch cdRch ctRch), slRch⟩)
    (cd_Rch : PySem.W.codeIn K cdRch "Curve.reach_count" = true)
    (kp_Rch : PySem.W.keepIn K (.ref fRch) = true)
    (atCAt : PySem.W.findIn K (.ref CC) "at" = some (some (.ref fCAt)))
    (ifCAt : PySem.W.isFn K (.ref fCAt) = true)
    (lCAt : K.lookup fCAt = some ⟨ocCAt, odCAt, .func (PySem.W.fnOf "at" "Curve.at" (defArgs sCAt) (defBody sCAt) (defScope sCAt) .none kVCAt dcCAt pmCAt anCAt cdCAt ctCAt), slCAt⟩)
    (cd_CAt : PySem.W.codeIn K cdCAt "Curve.at" = true)
    (kp_CAt : PySem.W.keepIn K (.ref fCAt) = true)
    (atCom : PySem.W.findIn K (.ref CC) "complete" = some (some (.ref fCom)))
    (ifCom : PySem.W.isFn K (.ref fCom) = true)
    (lCom : K.lookup fCom = some ⟨ocCom, odCom, .func (PySem.W.fnOf "complete" "Curve.complete" (defArgs sCom) (defBody sCom) (defScope sCom) .none kVCom dcCom pmCom anCom cdCom ctCom), slCom⟩)
    (cd_Com : PySem.W.codeIn K cdCom "Curve.complete" = true)
    (kp_Com : PySem.W.keepIn K (.ref fCom) = true)
    (atCoI : PySem.W.findIn K (.ref CO) "__init__" = some (some (.ref fCoI)))
    (ifCoI : PySem.W.isFn K (.ref fCoI) = true)
    (lCoI : K.lookup fCoI = some ⟨ocCoI, odCoI, .func (PySem.W.fnOf "__init__" "Costs.__init__" (defArgs sCoI) (defBody sCoI) (defScope sCoI) .none kVCoI dcCoI pmCoI anCoI cdCoI ctCoI), slCoI⟩)
    (cd_CoI : PySem.W.codeIn K cdCoI "Costs.__init__" = true)
    (kp_CoI : PySem.W.keepIn K (.ref fCoI) = true)
    (atRep : PySem.W.findIn K (.ref CO) "repetition" = some (some (.ref pRep)))
    (geRep : PySem.W.specialIn K (.ref pRep) "__get__" = some (some (.builtin "property.__get__")))
    (taRep : PySem.W.takesIn K (.ref pRep) = some true)
    (rcRep : PySem.W.recIn K pRep "property" = some (.ref fRep :: reRep))
    (lRep : K.lookup fRep = some ⟨ocRep, odRep, .func (PySem.W.fnOf "repetition" "Costs.repetition" (defArgs sRep) (defBody sRep) (defScope sRep) .none kVRep dcRep pmRep anRep cdRep ctRep), slRep⟩)
    (cd_Rep : PySem.W.codeIn K cdRep "Costs.repetition" = true)
    (kp_Rep : PySem.W.keepIn K (.ref fRep) = true)
    (atCos : PySem.W.findIn K (.ref CO) "cost" = some (some (.ref fCos)))
    (ifCos : PySem.W.isFn K (.ref fCos) = true)
    (lCos : K.lookup fCos = some ⟨ocCos, odCos, .func (PySem.W.fnOf "cost" "Costs.cost" (defArgs sCos) (defBody sCos) (defScope sCos) .none kVCos dcCos pmCos anCos cdCos ctCos), slCos⟩)
    (cd_Cos : PySem.W.codeIn K cdCos "Costs.cost" = true)
    (kp_Cos : PySem.W.keepIn K (.ref fCos) = true)
    (atVN : PySem.W.nsIn K mainGlobals "validate_numbers" = some (some (.ref fVN)))
    (lVN : K.lookup fVN = some ⟨ocVN, odVN, .func (PySem.W.fnOf "validate_numbers" "validate_numbers" (defArgs sVN) (defBody sVN) (defScope sVN) .none kVVN dcVN pmVN anVN cdVN ctVN), slVN⟩)
    (cd_VN : PySem.W.codeIn K cdVN "validate_numbers" = true)
    (kp_VN : PySem.W.keepIn K (.ref fVN) = true)
    (atVP : PySem.W.nsIn K mainGlobals "validate_pass" = some (some (.ref fVP)))
    (lVP : K.lookup fVP = some ⟨ocVP, odVP, .func (PySem.W.fnOf "validate_pass" "validate_pass" (defArgs sValid) (defBody sValid) (defScope sValid) .none kVVP dcVP pmVP anVP cdVP ctVP), slVP⟩)
    (cd_VP : PySem.W.codeIn K cdVP "validate_pass" = true)
    (kp_VP : PySem.W.keepIn K (.ref fVP) = true)
    (atVC : PySem.W.nsIn K mainGlobals "validate_count" = some (some (.ref fVC)))
    (lVC : K.lookup fVC = some ⟨ocVC, odVC, .func (PySem.W.fnOf "validate_count" "validate_count" (defArgs sVC) (defBody sVC) (defScope sVC) .none kVVC dcVC pmVC anVC cdVC ctVC), slVC⟩)
    (cd_VC : PySem.W.codeIn K cdVC "validate_count" = true)
    (kp_VC : PySem.W.keepIn K (.ref fVC) = true)
    (atCut : PySem.W.nsIn K mainGlobals "cuts_of" = some (some (.ref fCut)))
    (lCut : K.lookup fCut = some ⟨ocCut, odCut, .func (PySem.W.fnOf "cuts_of" "cuts_of" (defArgs sCut) (defBody sCut) (defScope sCut) .none kVCut dcCut pmCut anCut cdCut ctCut), slCut⟩)
    (cd_Cut : PySem.W.codeIn K cdCut "cuts_of" = true)
    (kp_Cut : PySem.W.keepIn K (.ref fCut) = true)
    (atCd : PySem.W.nsIn K mainGlobals "common_divisor" = some (some (.ref fCd)))
    (lCd : K.lookup fCd = some ⟨ocCd, odCd, .func (PySem.W.fnOf "common_divisor" "common_divisor" (defArgs sCd) (defBody sCd) (defScope sCd) .none kVCd dcCd pmCd anCd cdCd ctCd), slCd⟩)
    (cd_Cd : PySem.W.codeIn K cdCd "common_divisor" = true)
    (kp_Cd : PySem.W.keepIn K (.ref fCd) = true)
    (atFr : PySem.W.nsIn K mainGlobals "fraction" = some (some (.ref fFr)))
    (lFr : K.lookup fFr = some ⟨ocFr, odFr, .func (PySem.W.fnOf "fraction" "fraction" (defArgs sFr) (defBody sFr) (defScope sFr) .none kVFr dcFr pmFr anFr cdFr ctFr), slFr⟩)
    (cd_Fr : PySem.W.codeIn K cdFr "fraction" = true)
    (kp_Fr : PySem.W.keepIn K (.ref fFr) = true)
    (atSp : PySem.W.nsIn K mainGlobals "spend" = some (some (.ref fSp)))
    (lSp : K.lookup fSp = some ⟨ocSp, odSp, .func (PySem.W.fnOf "spend" "spend" (defArgs sSpd) (defBody sSpd) (defScope sSpd) .none kVSp dcSp pmSp anSp cdSp ctSp), slSp⟩)
    (cd_Sp : PySem.W.codeIn K cdSp "spend" = true)
    (kp_Sp : PySem.W.keepIn K (.ref fSp) = true)
    (atPu : PySem.W.nsIn K mainGlobals "purchases_of" = some (some (.ref fPu)))
    (lPu : K.lookup fPu = some ⟨ocPu, odPu, .func (PySem.W.fnOf "purchases_of" "purchases_of" (defArgs sPu) (defBody sPu) (defScope sPu) .none kVPu dcPu pmPu anPu cdPu ctPu), slPu⟩)
    (cd_Pu : PySem.W.codeIn K cdPu "purchases_of" = true)
    (kp_Pu : PySem.W.keepIn K (.ref fPu) = true)
    (atSr : PySem.W.nsIn K mainGlobals "spent_per_round" = some (some (.ref fSr)))
    (lSr : K.lookup fSr = some ⟨ocSr, odSr, .func (PySem.W.fnOf "spent_per_round" "spent_per_round" (defArgs sSr) (defBody sSr) (defScope sSr) .none kVSr dcSr pmSr anSr cdSr ctSr), slSr⟩)
    (cd_Sr : PySem.W.codeIn K cdSr "spent_per_round" = true)
    (kp_Sr : PySem.W.keepIn K (.ref fSr) = true)
    (atFe : PySem.W.nsIn K mainGlobals "first_excess" = some (some (.ref fFe)))
    (lFe : K.lookup fFe = some ⟨ocFe, odFe, .func (PySem.W.fnOf "first_excess" "first_excess" (defArgs sFe) (defBody sFe) (defScope sFe) .none kVFe dcFe pmFe anFe cdFe ctFe), slFe⟩)
    (cd_Fe : PySem.W.codeIn K cdFe "first_excess" = true)
    (kp_Fe : PySem.W.keepIn K (.ref fFe) = true)
    (atBl : PySem.W.nsIn K mainGlobals "best_limit" = some (some (.ref fBl)))
    (lBl : K.lookup fBl = some ⟨ocBl, odBl, .func (PySem.W.fnOf "best_limit" "best_limit" (defArgs sBl) (defBody sBl) (defScope sBl) .none kVBl dcBl pmBl anBl cdBl ctBl), slBl⟩)
    (cd_Bl : PySem.W.codeIn K cdBl "best_limit" = true)
    (kp_Bl : PySem.W.keepIn K (.ref fBl) = true)
    (atSt : PySem.W.nsIn K mainGlobals "_law_start" = some (some (.ref fSt)))
    (lSt : K.lookup fSt = some ⟨ocSt, odSt, .func (PySem.W.fnOf "_law_start" "_law_start" (defArgs sStart) (defBody sStart) (defScope sStart) .none kVSt dcSt pmSt anSt cdSt ctSt), slSt⟩)
    (cd_St : PySem.W.codeIn K cdSt "_law_start" = true)
    (kp_St : PySem.W.keepIn K (.ref fSt) = true)
    (atD : PySem.W.nsIn K mainGlobals "_law_drawn" = some (some (.ref fD)))
    (lD : K.lookup fD = some ⟨ocD, odD, .func (PySem.W.fnOf "_law_drawn" "_law_drawn" (defArgs sDrawn) (defBody sDrawn) (defScope sDrawn) .none kVD dcD pmD anD cdD ctD), slD⟩)
    (cd_D : PySem.W.codeIn K cdD "_law_drawn" = true)
    (kp_D : PySem.W.keepIn K (.ref fD) = true)
    (atOth : PySem.W.nsIn K mainGlobals "_law_others" = some (some (.ref fOth)))
    (lOth : K.lookup fOth = some ⟨ocOth, odOth, .func (PySem.W.fnOf "_law_others" "_law_others" (defArgs sOth) (defBody sOth) (defScope sOth) .none kVOth dcOth pmOth anOth cdOth ctOth), slOth⟩)
    (cd_Oth : PySem.W.codeIn K cdOth "_law_others" = true)
    (kp_Oth : PySem.W.keepIn K (.ref fOth) = true)
    (atLaw : PySem.W.nsIn K mainGlobals "law" = some (some (.ref fLaw)))
    (lLaw : K.lookup fLaw = some ⟨ocLaw, odLaw, .func (PySem.W.fnOf "law" "law" (defArgs sLaw) (defBody sLaw) (defScope sLaw) .none kVLaw dcLaw pmLaw anLaw cdLaw ctLaw), slLaw⟩)
    (cd_Law : PySem.W.codeIn K cdLaw "law" = true)
    (kp_Law : PySem.W.keepIn K (.ref fLaw) = true)
    : LawAtS l w K CX0 14 63 "_law_script" mg fa h := by
  have e := hfa.symm.trans (PySem.W.mg_of X Gn atLaw)
  cases e
  have oexI : OexC K cI := ⟨⟨_, _, _, _, _, _, _, _, _, _, _, _, _, _, _, xLI, xrvI⟩, xsaI, sI, yI, kpI⟩
  have oexV : OexC K cV := ⟨⟨_, _, _, _, _, _, _, _, _, _, _, _, _, _, _, xLV, xrvV⟩, xsaV, sV, yV, kpV⟩
  have nc : TNc K mg cN := { qN := qN, gN := PySem.W.mg_of X Gn aN, kN := kN, sN := sN, yN := yN }
  let G : Gd l.prog K mg := {
    C := C, CV := CV, DB := DB, DF := DF, DT := DT, DS := DS, S := S, CC := CC, ST := ST, CO := CO, cP := cP, cI := cI, cV := cV, cU := cU, cN := cN, fI := fI, fV := fV, fT := fT, fTv := fTv, fVN := fVN, fVP := fVP, fVC := fVC, fP := fP, pP := pP, fL := fL, pL := pL, fR := fR, pR := pR, fRl := fRl, pRl := pRl, fRd := fRd, pRd := pRd, fEx := fEx, pEx := pEx, fFx := fFx, fTn := fTn, fSw := fSw, fBy := fBy, fSI := fSI, fSd := fSd, fTa := fTa, fSp := fSp, fPu := fPu, fFr := fFr, fCd := fCd, fSr := fSr, fSt := fSt, fD := fD, fSx := fSx, fNot := fNot, fTo := fTo, fOpn := fOpn, fHol := fHol, fAdd := fAdd, fClo := fClo, fRch := fRch, fKno := fKno, fVal := fVal, fCAt := fCAt, fCom := fCom, fCvI := fCvI, fCoI := fCoI, fRep := fRep, pRep := pRep, fCos := fCos, fCut := fCut, fFe := fFe, fBl := fBl, fOth := fOth, eT := eT, pT1 := pBt, fT1 := fBt, fB1 := fBb, fC1 := fBcF, fG1 := fBg, pT2 := pBt, fT2 := fBt, fB2 := fBbT, fC2 := fBcT, fG2 := fBg, pT3 := pBt, fT3 := fBt, fB3 := fBb, fC3 := fBcW, fG3 := fBgW, mc := (.type "type"), mp := (.type "type"), md := (.type "type")
    dI := _, dV := _, dT := _, dTv := _, dVN := _, dVP := _, dVC := _, dP := _, dL := _, dR := _, dRl := _, dRd := _, dEx := _, dT1 := _, dB1 := _, dC1 := _, dG1 := _, dT2 := _, dB2 := _, dC2 := _, dG2 := _, dT3 := _, dB3 := _, dC3 := _, dG3 := _, dFx := _, dTn := _, dSw := _, dBy := _, dSI := _, dSd := _, dTa := _, dSp := _, dPu := _, dFr := _, dCd := _, dSr := _, dSt := _, dD := _, dSx := _, dNot := _, dTo := _, dOpn := _, dHol := _, dAdd := _, dClo := _, dRch := _, dKno := _, dVal := _, dCAt := _, dCom := _, dCvI := _, dCoI := _, dRep := _, dCos := _, dCut := _, dFe := _, dBl := _, dOth := _
    X := { cl := ⟨pgC, hdC, poC, saC⟩, no := nO, gC := PySem.W.mg_of X Gn aC, cr := ⟨rd, ga⟩, v1 := ⟨_, v0, ⟨_, rfl⟩⟩, v2 := ⟨_, v1, ⟨_, rfl⟩⟩, v3 := ⟨_, v2, ⟨_, rfl⟩⟩, mE := PySem.W.mg_none_of X Gn z_enumerate, mN := PySem.W.mg_none_of X Gn z_len, mT := PySem.W.mg_none_of X Gn z_tuple, xI := oexI, nI := nI_index, gI := PySem.W.mg_of X Gn aI, iI := iI, tI := tI, pI := ⟨PySem.W.mg_of X Gn aP, prd, pga, pat⟩, qU := qU, gU := PySem.W.mg_of X Gn aU, kU := kU, sU := sU, yU := yU }
    I := { mkf := ⟨mkC, atT, ifT, kpCC⟩, fT := fun_mk (st := sInit) lT cd_T kp_T, fI := fun_mk (st := sIT) lI cd_I kp_I }
    Q := { pr := ⟨atP, geP, taP, ⟨_, rcP⟩⟩, fu := fun_mk (st := sPasses) lP cd_P kp_P }
    LP := { pL := ⟨atL, geL, taL, ⟨_, rcL⟩⟩, uL := fun_mk (st := sLengths) lL cd_L kp_L, pR := ⟨atR, geR, taR, ⟨_, rcR⟩⟩, uR := fun_mk (st := sPrices) lR cd_R kp_R }
    EV := { xV := oexV, nP := nV_part, nI := nV_index, gV := PySem.W.mg_of X Gn aV, iV := iV, tV := tV, fu := fun_mk (st := sIV) lXV cd_XV kp_XV, pI := ⟨PySem.W.mg_of X Gn aP, prd, pga, pat⟩ }
    W := { cl := ⟨pgV, hdV, poV, saV⟩, nS := nA0, nP := nA1, nO := nA2, gC := PySem.W.mg_of X Gn aCV, mR := ⟨_, PySem.W.mg_of X Gn w0, ⟨_, rfl⟩⟩, mX := ⟨_, PySem.W.mg_of X Gn w1, ⟨_, rfl⟩⟩, mD := ⟨_, PySem.W.mg_of X Gn w2, ⟨_, rfl⟩⟩, mE := PySem.W.mg_none_of X Gn z_enumerate, gVN := PySem.W.mg_of X Gn atVN, kVN := kp_VN, uVN := fun_mk (st := sVN) lVN cd_VN kp_VN }
    mkV := ⟨mkV, atTv, ifTv, kpCV⟩, uTv := fun_mk (st := sTvI) lTv cd_Tv kp_Tv
    kTv := ⟨⟨_, _, _, _, _, _, _, _, _, _, rfl, lTv, cd_Tv, .inl ⟨rfl, rfl⟩, .inr ⟨kD, rfl, fun q hq => by
      rw [List.mem_singleton.mp hq]
      exact ⟨_, kx, rfl⟩⟩⟩, kp_Tv⟩
    eTv := ⟨_, _, eTl, rfl, rfl⟩
    R := { pL := ⟨atRl, geRl, taRl, ⟨_, rcRl⟩⟩, uL := fun_mk (st := sRl) lRl cd_Rl kp_Rl, pD := ⟨atRd, geRd, taRd, ⟨_, rcRd⟩⟩, uD := fun_mk (st := sRd) lRd cd_Rd kp_Rd, pE := ⟨atEx, geEx, taEx, ⟨_, rcEx⟩⟩, uE := fun_mk (st := sEx) lEx cd_Ex kp_Ex }
    DN := { g := PySem.W.mg_of X Gn atD, kp := kp_D, fu := fun_mk (st := sDrawn) lD cd_D kp_D, mN := PySem.W.mg_none_of X Gn z_len }
    VL := { gVP := PySem.W.mg_of X Gn atVP, kVP := kp_VP, uVP := fun_mk (st := sValid) lVP cd_VP kp_VP, gVC := PySem.W.mg_of X Gn atVC, kVC := kp_VC, uVC := fun_mk (st := sVC) lVC cd_VC kp_VC, nc := nc }
    NM := { cF := ⟨pgF, hdF, poF, saF⟩, cT := ⟨pgT, hdT, poT, saT⟩, cS := ⟨pgW, hdW, poW, saW⟩, fO := nB0, tO := nB1, sO := nB2, fF := nB3, tS := nB4, sS := nB5, sL := nB6, sM := nB7, mI := PySem.W.mg_none_of X Gn z_int }
    K1 := { pr := ⟨atBt, geBt, taBt, ⟨_, rcBt⟩⟩, uT := fun_mk (st := sByT) lBt cd_Bt kp_Bt, mB := ⟨atBb, ifBb, kp_Bb⟩, uB := fun_mk (st := sByB) lBb cd_Bb kp_Bb, mC := ⟨atBcF, ifBcF, kp_BcF⟩, uC := fun_mk (st := sFxC) lBcF cd_BcF kp_BcF, mG := ⟨atBg, ifBg, kp_Bg⟩, uG := fun_mk (st := sByG) lBg cd_Bg kp_Bg }
    K2 := { pr := ⟨atBtT, geBt, taBt, ⟨_, rcBt⟩⟩, uT := fun_mk (st := sByT) lBt cd_Bt kp_Bt, mB := ⟨atBbT, ifBbT, kp_BbT⟩, uB := fun_mk (st := sTnB) lBbT cd_BbT kp_BbT, mC := ⟨atBcT, ifBcT, kp_BcT⟩, uC := fun_mk (st := sTnC) lBcT cd_BcT kp_BcT, mG := ⟨atBgT, ifBgT, kp_Bg⟩, uG := fun_mk (st := sByG) lBg cd_Bg kp_Bg }
    K3 := { pr := ⟨atBtW, geBt, taBt, ⟨_, rcBt⟩⟩, uT := fun_mk (st := sByT) lBt cd_Bt kp_Bt, mB := ⟨atBbW, ifBbW, kp_Bb⟩, uB := fun_mk (st := sByB) lBb cd_Bb kp_Bb, mC := ⟨atBcW, ifBcW, kp_BcW⟩, uC := fun_mk (st := sSwC) lBcW cd_BcW kp_BcW, mG := ⟨atBgW, ifBgW, kp_BgW⟩, uG := fun_mk (st := sSwG) lBgW cd_BgW kp_BgW }
    MB := { mkF := ⟨mkF, atF0, ifF0, kpCF⟩, mkT := ⟨mkT, atT0, ifT0, kpCT⟩, mkS := ⟨mkW, atW0, ifW0, kpCW⟩, gF := PySem.W.mg_of X Gn aDF, gT := PySem.W.mg_of X Gn aDT, gS := PySem.W.mg_of X Gn aDS, uF := ⟨_, _, ⟨⟨_, _, _, _, _, _, _, _, rfl, lF0⟩, cd_F0, kp_F0⟩, ⟨⟨_, _, _, _, _, _, scodeF0, sfilF0, smainF0⟩, ⟨_, _, _, scellF0⟩, ⟨_, sclassF0⟩, smroF0, PySem.W.mg_none_of X Gn z_super, stop, sopq, smethF0, sty, sfi⟩⟩, uT := ⟨_, _, ⟨⟨_, _, _, _, _, _, _, _, rfl, lT0⟩, cd_T0, kp_T0⟩, ⟨⟨_, _, _, _, _, _, scodeT0, sfilT0, smainT0⟩, ⟨_, _, _, scellT0⟩, ⟨_, sclassT0⟩, smroT0, PySem.W.mg_none_of X Gn z_super, stop, sopq, smethT0, sty, sfi⟩⟩, uS := ⟨_, _, ⟨⟨_, _, _, _, _, _, _, _, rfl, lW0⟩, cd_W0, kp_W0⟩, ⟨⟨_, _, _, _, _, _, scodeW0, sfilW0, smainW0⟩, ⟨_, _, _, scellW0⟩, ⟨_, sclassW0⟩, smroW0, PySem.W.mg_none_of X Gn z_super, stop, sopq, smethW0, sty, sfi⟩⟩, uB := fun_mk (st := sByI) lBy cd_By kp_By, cr := ⟨rdW, gaW⟩, vM := ⟨_, vM, ⟨_, rfl⟩⟩ }
    SP := { cl := ⟨pgS, hdS, poS, saS⟩, nT := nS0, nB := nS1, nS := nS2, nP := nS3, nG := nS4, gS := PySem.W.mg_of X Gn aS, mI := PySem.W.mg_none_of X Gn z_int, mX := PySem.W.mg_none_of X Gn z_max }
    SD := { mkS := ⟨mkS, atSI, ifSI, kpCS⟩, uSI := fun_mk (st := sSpI) lSI cd_SI kp_SI, mSd := ⟨atSd, ifSd, kp_Sd⟩, uSd := fun_mk (st := sSd) lSd cd_Sd kp_Sd, mTa := ⟨atTa, ifTa, kp_Ta⟩, uTa := fun_mk (st := sTa) lTa cd_Ta kp_Ta, gVC := PySem.W.mg_of X Gn atVC, kVC := kp_VC, uVC := fun_mk (st := sVC) lVC cd_VC kp_VC, nc := nc, mD := ⟨_, PySem.W.mg_of X Gn w2, ⟨_, rfl⟩⟩ }
    PU := { mY := ⟨_, PySem.W.mg_of X Gn w3, ⟨_, rfl⟩⟩, mM := PySem.W.mg_none_of X Gn z_min, mR := PySem.W.mg_none_of X Gn z_range }
    FR := { gFr := PySem.W.mg_of X Gn atFr, kFr := kp_Fr, uFr := fun_mk (st := sFr) lFr cd_Fr kp_Fr }
    CD := { gCd := PySem.W.mg_of X Gn atCd, kCd := kp_Cd, uCd := fun_mk (st := sCd) lCd cd_Cd kp_Cd }
    ZZ := { T := { cl := ⟨pgQ, hdQ, poQ, saQ⟩, nO := nQ0, nT := nQ1, nR := nQ2, nC := nQ3, nS := nQ4, nE := nQ5, nN := nQ6, gC := PySem.W.mg_of X Gn aCC, mX := PySem.W.mg_none_of X Gn z_max, mM := PySem.W.mg_none_of X Gn z_min, mN := PySem.W.mg_none_of X Gn z_len, mI := PySem.W.mg_none_of X Gn z_int, mT := PySem.W.mg_none_of X Gn z_tuple }
            TS := { cl := ⟨pgX, hdX, poX, saX⟩, nB := nX0, nE := nX1, nT := nX2, nS := nX3, nD := nX4, nG := nX5, gS := PySem.W.mg_of X Gn aST, mN := PySem.W.mg_none_of X Gn z_len, mI := PySem.W.mg_none_of X Gn z_int }
            MS := { mkS := ⟨mkX, atSx, ifSx, kpCX⟩, fu := fun_mk (st := sStI) lSx cd_Sx kp_Sx }
            TV := { cl := ⟨pgV, hdV, poV, saV⟩, nS := nA0, nP := nA1, nO := nA2, gC := PySem.W.mg_of X Gn aCV, mR := ⟨_, PySem.W.mg_of X Gn w0, ⟨_, rfl⟩⟩, mX := ⟨_, PySem.W.mg_of X Gn w1, ⟨_, rfl⟩⟩, mD := ⟨_, PySem.W.mg_of X Gn w2, ⟨_, rfl⟩⟩, mE := PySem.W.mg_none_of X Gn z_enumerate, gVN := PySem.W.mg_of X Gn atVN, kVN := kp_VN, uVN := fun_mk (st := sVN) lVN cd_VN kp_VN }
            RR := { pL := ⟨atRl, geRl, taRl, ⟨_, rcRl⟩⟩, uL := fun_mk (st := sRl) lRl cd_Rl kp_Rl, pD := ⟨atRd, geRd, taRd, ⟨_, rcRd⟩⟩, uD := fun_mk (st := sRd) lRd cd_Rd kp_Rd, pE := ⟨atEx, geEx, taEx, ⟨_, rcEx⟩⟩, uE := fun_mk (st := sEx) lEx cd_Ex kp_Ex }
            M := { mN := ⟨atNot, ifNot, kp_Not⟩, uN := fun_mk (st := sNot) lNot cd_Not kp_Not, mT := ⟨atTo, ifTo, kp_To⟩, uT := fun_mk (st := sTo) lTo cd_To kp_To }
            N := { mO := ⟨atOpn, ifOpn, kp_Opn⟩, uO := fun_mk (st := sOpn) lOpn cd_Opn kp_Opn, mH := ⟨atHol, ifHol, kp_Hol⟩, uH := fun_mk (st := sHol) lHol cd_Hol kp_Hol, mA := ⟨atAdd, ifAdd, kp_Add⟩, uA := fun_mk (st := sAdd) lAdd cd_Add kp_Add, mC := ⟨atClo, ifClo, kp_Clo⟩, uC := fun_mk (st := sClo) lClo cd_Clo kp_Clo }
            A := { mR := ⟨atRch, ifRch, kp_Rch⟩, uR := fun_mk (st := sRch) lRch cd_Rch kp_Rch, mK := ⟨atKno, ifKno, kp_Kno⟩, uK := fun_mk (st := sKno) lKno cd_Kno kp_Kno, mV := ⟨atVal, ifVal, kp_Val⟩, uV := fun_mk (st := sVal) lVal cd_Val kp_Val, mA := ⟨atCAt, ifCAt, kp_CAt⟩, uA := fun_mk (st := sCAt) lCAt cd_CAt kp_CAt, mC := ⟨atCom, ifCom, kp_Com⟩, uC := fun_mk (st := sCom) lCom cd_Com kp_Com } }
    TO := { cl := ⟨pgO, hdO, poO, saO⟩, nO := nP0, nT := nP1, nC := nP2, nL := nP3, gC := PySem.W.mg_of X Gn aCO, mkV := ⟨mkQ, atCvI, ifCvI, kpCQ⟩, uCv := fun_mk (st := sCvI) lCvI cd_CvI kp_CvI, mkO := ⟨mkO, atCoI, ifCoI, kpCO⟩, uCo := fun_mk (st := sCoI) lCoI cd_CoI kp_CoI, pR := ⟨atRep, geRep, taRep, ⟨_, rcRep⟩⟩, uR := fun_mk (st := sRep) lRep cd_Rep kp_Rep, mC := ⟨atCos, ifCos, kp_Cos⟩, uC := fun_mk (st := sCos) lCos cd_Cos kp_Cos, gCut := PySem.W.mg_of X Gn atCut, kCut := kp_Cut, uCut := fun_mk (st := sCut) lCut cd_Cut kp_Cut }
    XF := { mkO := ⟨mkO, atCoI, ifCoI, kpCO⟩, mF := ⟨_, PySem.W.mg_of X Gn w4, ⟨_, rfl⟩⟩, mR := PySem.W.mg_none_of X Gn z_range, mM := PySem.W.mg_none_of X Gn z_min }
    gSp := PySem.W.mg_of X Gn atSp, kSp := kp_Sp, uSp := fun_mk (st := sSpd) lSp cd_Sp kp_Sp
    gPu := PySem.W.mg_of X Gn atPu, kPu := kp_Pu, uPu := fun_mk (st := sPu) lPu cd_Pu kp_Pu
    gSr := PySem.W.mg_of X Gn atSr, kSr := kp_Sr, uSr := fun_mk (st := sSr) lSr cd_Sr kp_Sr
    gFe := PySem.W.mg_of X Gn atFe, kFe := kp_Fe, uFe := fun_mk (st := sFe) lFe cd_Fe kp_Fe
    gBl := PySem.W.mg_of X Gn atBl, kBl := kp_Bl, uBl := fun_mk (st := sBl) lBl cd_Bl kp_Bl
    gSt := PySem.W.mg_of X Gn atSt, kSt := kp_St, uSt := fun_mk (st := sStart) lSt cd_St kp_St
    gOth := PySem.W.mg_of X Gn atOth, kOth := kp_Oth, uOth := fun_mk (st := sOth) lOth cd_Oth kp_Oth
    m_range := PySem.W.mg_none_of X Gn z_range, m_tuple := PySem.W.mg_none_of X Gn z_tuple, m_len := PySem.W.mg_none_of X Gn z_len, m_int := PySem.W.mg_none_of X Gn z_int }
  refine ⟨_, [], spLaw K, fun p hp => (nomatch hp), fun p hp => (nomatch hp), fun p hp => (nomatch hp), fun s v => .of_eq rfl, fun H a ns hl _ hH hS => ⟨a, ns, rfl, hS, hl, fun _ => rfl⟩, fun base _ _ hB => ok_law (P := l.prog) (w := w) (base := base) G (fun_mk (st := sLaw) lLaw cd_Law kp_Law)⟩
end Sea

theorem PySem.Challenge.cw_seasonpass_k48_known_buyers_holds : PySem.Challenge.rw_seasonpass_k48_known_buyers.Holds := by
  exact Sea.top_first @Sea.all_mk
#print axioms PySem.Challenge.cw_seasonpass_k48_known_buyers_holds
