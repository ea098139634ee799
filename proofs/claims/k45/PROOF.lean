import PyProof.Rows.All
import Wide.All
import OpenK.AllK
import Wide.FinOn
import HandS.ForMost
import HandS.ForExc
import HandS.Nested
import HandS.Star
import HandS.Property
import HandS.ClsMeth
import HandS.Defaults
import HandS.ExcInit
import HandS.MakeKwOnly
import HandS.IsInst
import HandS.Wide
import HandS.EndTab
import KE.GoesMore
import KE.GoesComp
import KE.GoesEnum
import HandS.ExcIs
import HandS.TryMany
import KE.KExcIs
import HandS.Evl
import HandS.ExcField
import HandS.TupAny
import HandS.Small
import KE.KeyNested
import KE.KSuper
import HandS.NestedK
import HandS.SetFor
import HandS.Strs
import HandS.SortInts
import HandS.Style
import PyProof.ListNew
import PyProof.TupleOfSeq
import PyProof.Rows.FactsTup
import PyProof.Rows.SortShellAny
import HandS.GenList
import HandS.GenYield
import HandS.AnyAll
import PyProof.GenComp
import PyProof.GenArm
import PyProof.Rows.MatchSeqLen
import HandS.Text
import HandS.Walk
import KE.IntTextLaws
import HandS.Conv
import HandS.ListEq
import HandS.Lambda
import HandS.Iter
import HandS.EndOwn
import KE.KNestM
import KE.OsRunLaw
import PySem.Challenge.RW_seasonpass_k45_whole_wallets
set_option Elab.async false
set_option linter.all false
set_option maxRecDepth 100000
set_option maxHeartbeats 4000000
/-! the places of the text; what the end asks; the end's head, taken first -/
namespace Sea
open PySem PySem.Spec PyProof.Rows L2 LamX NdefX ClX StX
def top (i : Nat) : Stmt := PySem.Challenge.pw_seasonpass_k45_whole_wallets.main.body.getD i (.Pass ⟨0, 0, 0, 0⟩)
abbrev sStart : Stmt := top 25
abbrev sDrawn : Stmt := top 26
abbrev sIT : Stmt := inClass (top 3) 0
abbrev sInit : Stmt := inClass (top 10) 3
abbrev sPasses : Stmt := inClass (top 10) 5
abbrev sValid : Stmt := top 11
abbrev sIV : Stmt := inClass (top 4) 0
abbrev sVN : Stmt := top 18
abbrev sTvI : Stmt := inClass (top 19) 0
abbrev sPas : Stmt := top 29
abbrev sDay : Stmt := top 31
abbrev sTar : Stmt := top 30
abbrev sLengths : Stmt := inClass (top 10) 6
abbrev sVC : Stmt := top 12
abbrev sNpI : Stmt := inClass (top 7) 0
abbrev sIoI : Stmt := inClass (top 8) 0
abbrev sCtI : Stmt := inClass (top 22) 0
abbrev sWlI : Stmt := inClass (top 23) 0
abbrev sWlRp : Stmt := inClass (top 23) 1
abbrev sWlTd : Stmt := inClass (top 23) 2
abbrev sWlSp : Stmt := inClass (top 23) 3
abbrev sWlPu : Stmt := inClass (top 23) 4
abbrev sWlIc : Stmt := inClass (top 23) 5
abbrev sWlRe : Stmt := inClass (top 23) 6
abbrev sWlBy : Stmt := inClass (top 23) 7
abbrev sWlPd : Stmt := inClass (top 23) 8
abbrev sWlPs : Stmt := inClass (top 23) 9
abbrev sWlUn : Stmt := inClass (top 23) 10
abbrev sWlCd : Stmt := inClass (top 23) 11
abbrev sTo : Stmt := inClass (top 19) 4
abbrev sItd : Stmt := inClass (top 19) 5
abbrev sSm : Stmt := top 27
abbrev sOut : Stmt := top 28
abbrev sCv : Stmt := top 32
abbrev sKe : Stmt := top 33
abbrev sBu : Stmt := top 34
abbrev sMs : Stmt := top 35
abbrev sMd : Stmt := top 36
abbrev sMu : Stmt := top 37
abbrev sAg : Stmt := top 38
abbrev sStp : Stmt := top 39
abbrev sRpd : Stmt := top 40
abbrev sLaw : Stmt := top 41
def AMT : Prop := ∀ {l : PySem.W.OpenLaw} {w : World} {K : PySem.W.Frag} {h : Heap} {mg : Str → Option Value} {fa : Addr} (X : K.In h) (Gn : h.Ns mainGlobals mg) (hfa : mg "law" = some (.ref fa))
    {C CV CT CW cP cI cV cU cN cNp cIo cc Pc Ps Pr Pt pP pL eT fI fV fT fTv fP fL fTo fItd fCt fWi fNp fIo fTd pTd fSp pSp fPu pPu fIc pIc fRe fBy fPd fPs fUn fRp pRp fCd xCd xStp xRpd fStp fRpd fVN fVP fVC fSt fD fSm fOu fPas fTar fDay fCv fKe fBu fMs fMd fMu fAg fLaw : Addr}
    {t0 : Tok} {t1 : Tok} {t2 : Tok} {u0 : Tok} {u1 : Tok} {u2 : Tok} {u3 : Tok} {u4 : Tok} {nmI qI : Str} {xNI : Addr} {xbsI xbmI xsubI : List Value} {xsnI : List Str} {xabI : Bool} {xcolI : Option Bool} {xddI : Option Addr} {xm0I xm1I xm2I xm3I xm5I : Option Value} {nmV qV : Str} {xNV : Addr} {xbsV xbmV xsubV : List Value} {xsnV : List Str} {xabV : Bool} {xcolV : Option Bool} {xddV : Option Addr} {xm0V xm1V xm2V xm3V xm5V : Option Value} {nmNp qNp : Str} {xNNp : Addr} {xbsNp xbmNp xsubNp : List Value} {xsnNp : List Str} {xabNp : Bool} {xcolNp : Option Bool} {xddNp : Option Addr} {xm0Np xm1Np xm2Np xm3Np xm5Np : Option Value} {nmIo qIo : Str} {xNIo : Addr} {xbsIo xbmIo xsubIo : List Value} {xsnIo : List Str} {xabIo : Bool} {xcolIo : Option Bool} {xddIo : Option Addr} {xm0Io xm1Io xm2Io xm3Io xm5Io : Option Value} {ocT : Value} {dcT : Value} {pmT : Value} {ctT : Value} {cdT : Value} {kVT : Value} {odT anT : Option Addr} {slT : Array (Option Value)} {ocI : Value} {dcI : Value} {pmI : Value} {ctI : Value} {cdI : Value} {kVI : Value} {odI anI : Option Addr} {slI : Array (Option Value)} {ocXV : Value} {dcXV : Value} {pmXV : Value} {ctXV : Value} {cdXV : Value} {kVXV : Value} {odXV anXV : Option Addr} {slXV : Array (Option Value)} {ocXNp : Value} {dcXNp : Value} {pmXNp : Value} {ctXNp : Value} {cdXNp : Value} {kVXNp : Value} {odXNp anXNp : Option Addr} {slXNp : Array (Option Value)} {ocXIo : Value} {dcXIo : Value} {pmXIo : Value} {ctXIo : Value} {cdXIo : Value} {kVXIo : Value} {odXIo anXIo : Option Addr} {slXIo : Array (Option Value)} {reP : List Value} {ocP : Value} {dcP : Value} {pmP : Value} {ctP : Value} {cdP : Value} {kVP : Value} {odP anP : Option Addr} {slP : Array (Option Value)} {reL : List Value} {ocL : Value} {dcL : Value} {pmL : Value} {ctL : Value} {cdL : Value} {kVL : Value} {odL anL : Option Addr} {slL : Array (Option Value)} {ocTv : Value} {dcTv : Value} {pmTv : Value} {ctTv : Value} {cdTv : Value} {odTv anTv : Option Addr} {slTv : Array (Option Value)} {kD : Addr} {eTd : Option Addr} {eTn : Nat} {eTs : Array (Option Value)} {ocTo : Value} {dcTo : Value} {pmTo : Value} {ctTo : Value} {cdTo : Value} {kVTo : Value} {odTo anTo : Option Addr} {slTo : Array (Option Value)} {ocItd : Value} {dcItd : Value} {pmItd : Value} {ctItd : Value} {cdItd : Value} {kVItd : Value} {odItd anItd : Option Addr} {slItd : Array (Option Value)} {ocCt : Value} {dcCt : Value} {pmCt : Value} {ctCt : Value} {cdCt : Value} {kVCt : Value} {odCt anCt : Option Addr} {slCt : Array (Option Value)} {ocWi : Value} {dcWi : Value} {pmWi : Value} {ctWi : Value} {cdWi : Value} {kVWi : Value} {odWi anWi : Option Addr} {slWi : Array (Option Value)} {reTd : List Value} {ocTd : Value} {dcTd : Value} {pmTd : Value} {ctTd : Value} {cdTd : Value} {kVTd : Value} {odTd anTd : Option Addr} {slTd : Array (Option Value)} {reSp : List Value} {ocSp : Value} {dcSp : Value} {pmSp : Value} {ctSp : Value} {cdSp : Value} {kVSp : Value} {odSp anSp : Option Addr} {slSp : Array (Option Value)} {rePu : List Value} {ocPu : Value} {dcPu : Value} {pmPu : Value} {ctPu : Value} {cdPu : Value} {kVPu : Value} {odPu anPu : Option Addr} {slPu : Array (Option Value)} {reIc : List Value} {ocIc : Value} {dcIc : Value} {pmIc : Value} {ctIc : Value} {cdIc : Value} {kVIc : Value} {odIc anIc : Option Addr} {slIc : Array (Option Value)} {ocRe : Value} {dcRe : Value} {pmRe : Value} {ctRe : Value} {cdRe : Value} {kVRe : Value} {odRe anRe : Option Addr} {slRe : Array (Option Value)} {ocBy : Value} {dcBy : Value} {pmBy : Value} {ctBy : Value} {cdBy : Value} {kVBy : Value} {odBy anBy : Option Addr} {slBy : Array (Option Value)} {ocPd : Value} {dcPd : Value} {pmPd : Value} {ctPd : Value} {cdPd : Value} {kVPd : Value} {odPd anPd : Option Addr} {slPd : Array (Option Value)} {ocPd2 : Value} {dcPd2 : Value} {pmPd2 : Value} {ctPd2 : Value} {cdPd2 : Value} {kVPd2 : Value} {odPd2 anPd2 : Option Addr} {slPd2 : Array (Option Value)} {ocUn : Value} {dcUn : Value} {pmUn : Value} {ctUn : Value} {cdUn : Value} {kVUn : Value} {odUn anUn : Option Addr} {slUn : Array (Option Value)} {ocCd : Value} {dcCd : Value} {pmCd : Value} {ctCd : Value} {kVCd : Value} {odCd anCd : Option Addr} {slCd : Array (Option Value)} {reRp : List Value} {ocRp : Value} {dcRp : Value} {pmRp : Value} {ctRp : Value} {cdRp : Value} {kVRp : Value} {odRp anRp : Option Addr} {slRp : Array (Option Value)} {ocVN : Value} {dcVN : Value} {pmVN : Value} {ctVN : Value} {cdVN : Value} {kVVN : Value} {odVN anVN : Option Addr} {slVN : Array (Option Value)} {ocVP : Value} {dcVP : Value} {pmVP : Value} {ctVP : Value} {cdVP : Value} {kVVP : Value} {odVP anVP : Option Addr} {slVP : Array (Option Value)} {ocVC : Value} {dcVC : Value} {pmVC : Value} {ctVC : Value} {cdVC : Value} {kVVC : Value} {odVC anVC : Option Addr} {slVC : Array (Option Value)} {ocSt : Value} {dcSt : Value} {pmSt : Value} {ctSt : Value} {cdSt : Value} {kVSt : Value} {odSt anSt : Option Addr} {slSt : Array (Option Value)} {ocD : Value} {dcD : Value} {pmD : Value} {ctD : Value} {cdD : Value} {kVD : Value} {odD anD : Option Addr} {slD : Array (Option Value)} {ocSm : Value} {dcSm : Value} {pmSm : Value} {ctSm : Value} {cdSm : Value} {kVSm : Value} {odSm anSm : Option Addr} {slSm : Array (Option Value)} {ocOu : Value} {dcOu : Value} {pmOu : Value} {ctOu : Value} {cdOu : Value} {kVOu : Value} {odOu anOu : Option Addr} {slOu : Array (Option Value)} {ocPas : Value} {dcPas : Value} {pmPas : Value} {ctPas : Value} {cdPas : Value} {kVPas : Value} {odPas anPas : Option Addr} {slPas : Array (Option Value)} {ocTar : Value} {dcTar : Value} {pmTar : Value} {ctTar : Value} {cdTar : Value} {kVTar : Value} {odTar anTar : Option Addr} {slTar : Array (Option Value)} {ocDay : Value} {dcDay : Value} {pmDay : Value} {ctDay : Value} {cdDay : Value} {kVDay : Value} {odDay anDay : Option Addr} {slDay : Array (Option Value)} {ocCv : Value} {dcCv : Value} {pmCv : Value} {ctCv : Value} {cdCv : Value} {kVCv : Value} {odCv anCv : Option Addr} {slCv : Array (Option Value)} {ocKe : Value} {dcKe : Value} {pmKe : Value} {ctKe : Value} {cdKe : Value} {kVKe : Value} {odKe anKe : Option Addr} {slKe : Array (Option Value)} {ocBu : Value} {dcBu : Value} {pmBu : Value} {ctBu : Value} {cdBu : Value} {kVBu : Value} {odBu anBu : Option Addr} {slBu : Array (Option Value)} {ocMs : Value} {dcMs : Value} {pmMs : Value} {ctMs : Value} {cdMs : Value} {kVMs : Value} {odMs anMs : Option Addr} {slMs : Array (Option Value)} {ocMd : Value} {dcMd : Value} {pmMd : Value} {ctMd : Value} {cdMd : Value} {kVMd : Value} {odMd anMd : Option Addr} {slMd : Array (Option Value)} {ocMu : Value} {dcMu : Value} {pmMu : Value} {ctMu : Value} {cdMu : Value} {kVMu : Value} {odMu anMu : Option Addr} {slMu : Array (Option Value)} {ocAg : Value} {dcAg : Value} {pmAg : Value} {ctAg : Value} {cdAg : Value} {kVAg : Value} {odAg anAg : Option Addr} {slAg : Array (Option Value)} {ocStp : Value} {dcStp : Value} {pmStp : Value} {ctStp : Value} {kVStp : Value} {odStp anStp : Option Addr} {slStp : Array (Option Value)} {ocRpd : Value} {dcRpd : Value} {pmRpd : Value} {ctRpd : Value} {kVRpd : Value} {odRpd anRpd : Option Addr} {slRpd : Array (Option Value)} {ocLaw : Value} {dcLaw : Value} {pmLaw : Value} {ctLaw : Value} {kVLaw : Value} {odLaw anLaw : Option Addr} {slLaw : Array (Option Value)} {codPc : Option Addr} {cvsPc : Array Value} {cslPc : Array (Option Value)} {codPs : Option Addr} {cvsPs : Array Value} {cslPs : Array (Option Value)} {codPr : Option Addr} {cvsPr : Array Value} {cslPr : Array (Option Value)} {codPt : Option Addr} {cvsPt : Array Value} {cslPt : Array (Option Value)}
    (aC : PySem.W.nsIn K mainGlobals "Tariff" = some (some (.ref C)))
    (aCV : PySem.W.nsIn K mainGlobals "Travel" = some (some (.ref CV)))
    (aCT : PySem.W.nsIn K mainGlobals "Content" = some (some (.ref CT)))
    (aCW : PySem.W.nsIn K mainGlobals "Wallet" = some (some (.ref CW)))
    (aP : PySem.W.nsIn K mainGlobals "PassError" = some (some (.ref cP)))
    (aI : PySem.W.nsIn K mainGlobals "InvalidTariff" = some (some (.ref cI)))
    (aV : PySem.W.nsIn K mainGlobals "InvalidTravel" = some (some (.ref cV)))
    (aU : PySem.W.nsIn K mainGlobals "UnknownPass" = some (some (.ref cU)))
    (aN : PySem.W.nsIn K mainGlobals "InvalidCount" = some (some (.ref cN)))
    (aNp : PySem.W.nsIn K mainGlobals "NoPass" = some (some (.ref cNp)))
    (aIo : PySem.W.nsIn K mainGlobals "InvalidOperation" = some (some (.ref cIo)))
    (z_enumerate : PySem.W.nsIn K mainGlobals "enumerate" = some none)
    (z_len : PySem.W.nsIn K mainGlobals "len" = some none)
    (z_tuple : PySem.W.nsIn K mainGlobals "tuple" = some none)
    (z_int : PySem.W.nsIn K mainGlobals "int" = some none)
    (z_range : PySem.W.nsIn K mainGlobals "range" = some none)
    (z_max : PySem.W.nsIn K mainGlobals "max" = some none)
    (z_min : PySem.W.nsIn K mainGlobals "min" = some none)
    (z_list : PySem.W.nsIn K mainGlobals "list" = some none)
    (z_sum : PySem.W.nsIn K mainGlobals "sum" = some none)
    (z_any : PySem.W.nsIn K mainGlobals "any" = some none)
    (z_isinstance : PySem.W.nsIn K mainGlobals "isinstance" = some none)
    (z_bool : PySem.W.nsIn K mainGlobals "bool" = some none)
    (pgC : PySem.W.plainGet K C Str.empty = true)
    (hdC : PySem.W.hasDictIn K C = true)
    (poC : PySem.W.plainOver K C = true)
    (saC : PySem.W.findIn K (.ref C) "__setattr__" = some (some (.builtin "object.__setattr__")))
    (mkC : PySem.W.makesIn K C = true)
    (kpCC : PySem.W.keepIn K (.ref C) = true)
    (pgV : PySem.W.plainGet K CV Str.empty = true)
    (hdV : PySem.W.hasDictIn K CV = true)
    (poV : PySem.W.plainOver K CV = true)
    (saV : PySem.W.findIn K (.ref CV) "__setattr__" = some (some (.builtin "object.__setattr__")))
    (mkV : PySem.W.makesIn K CV = true)
    (kpCV : PySem.W.keepIn K (.ref CV) = true)
    (pgT : PySem.W.plainGet K CT Str.empty = true)
    (hdT : PySem.W.hasDictIn K CT = true)
    (poT : PySem.W.plainOver K CT = true)
    (saT : PySem.W.findIn K (.ref CT) "__setattr__" = some (some (.builtin "object.__setattr__")))
    (mkT : PySem.W.makesIn K CT = true)
    (kpCT : PySem.W.keepIn K (.ref CT) = true)
    (pgW : PySem.W.plainGet K CW Str.empty = true)
    (hdW : PySem.W.hasDictIn K CW = true)
    (poW : PySem.W.plainOver K CW = true)
    (saW : PySem.W.findIn K (.ref CW) "__setattr__" = some (some (.builtin "object.__setattr__")))
    (mkW : PySem.W.makesIn K CW = true)
    (kpCW : PySem.W.keepIn K (.ref CW) = true)
    (nO : PySem.W.findIn K (.ref C) "offers" = some none)
    (rd : PySem.W.readsIn K C (.type "type") = true)
    (ga : PySem.W.specialIn K (.ref C) "__getattribute__" = some (some (.builtin "type.__getattribute__")))
    (rdW : PySem.W.readsIn K CW (.type "type") = true)
    (gaW : PySem.W.specialIn K (.ref CW) "__getattribute__" = some (some (.builtin "type.__getattribute__")))
    (v0 : PySem.W.findCls K (.ref C) (.type "type") "MAX_LENGTH" = some (.val (.int 28 t0)))
    (v1 : PySem.W.findCls K (.ref C) (.type "type") "MAX_PRICE" = some (.val (.int 1000000 t1)))
    (v2 : PySem.W.findCls K (.ref C) (.type "type") "MAX_PASSES" = some (.val (.int 6 t2)))
    (nA0 : PySem.W.findIn K (.ref CV) "size" = some none)
    (nA1 : PySem.W.findIn K (.ref CV) "pattern" = some none)
    (nA2 : PySem.W.findIn K (.ref CV) "odd_days" = some none)
    (nB0 : PySem.W.findIn K (.ref CT) "day" = some none)
    (nB1 : PySem.W.findIn K (.ref CT) "total" = some none)
    (nB2 : PySem.W.findIn K (.ref CT) "bought" = some none)
    (nB3 : PySem.W.findIn K (.ref CT) "until" = some none)
    (nW0 : PySem.W.findIn K (.ref CW) "offer" = some none)
    (nW1 : PySem.W.findIn K (.ref CW) "content" = some none)
    (nW2 : PySem.W.findIn K (.ref CW) "earlier" = some none)
    (w0 : PySem.W.nsIn K mainGlobals "MAX_ROUND" = some (some (.int 14 u0)))
    (w1 : PySem.W.nsIn K mainGlobals "MAX_EXCEPTIONS" = some (some (.int 6 u1)))
    (w2 : PySem.W.nsIn K mainGlobals "MAX_DAYS" = some (some (.int 1000000000000000000 u2)))
    (w3 : PySem.W.nsIn K mainGlobals "MAX_YIELDED" = some (some (.int 10000 u3)))
    (w4 : PySem.W.nsIn K mainGlobals "MAX_PASSED" = some (some (.int 10000 u4)))
    (xLI : K.lookup cI = some (excClassObj nmI qI cI xNI xbsI xbmI true xsnI xsubI xabI xcolI xddI xm0I xm1I xm2I xm3I xm5I "ValueError.__new__"))
    (xrvI : PySem.HandSPX.refsVE xbmI = true)
    (xsaI : PySem.W.findIn K (.ref cI) "__setattr__" = some (some (.builtin "object.__setattr__")))
    (sI : PySem.W.subIn K (.ref cI) (.type "BaseException") = some true)
    (yI : PySem.W.typeIn K (.ref cI) = some (.type "type"))
    (kpI : PySem.W.keepIn K (.ref cI) = true)
    (nI_index : PySem.W.findIn K (.ref cI) "index" = some none)
    (iI : PySem.W.findIn K (.ref cI) "__init__" = some (some (.ref fI)))
    (tI : PySem.W.typeIn K (.ref fI) = some (.type "function"))
    (egI : PySem.W.findIn K (.ref cI) "__getattribute__" = some (some (.builtin "BaseException.__getattribute__")))
    (ekI : PySem.W.findIn K (.ref cI) "__getattr__" = some none)
    (ehI : PySem.W.hasDictIn K cI = true)
    (xLV : K.lookup cV = some (excClassObj nmV qV cV xNV xbsV xbmV true xsnV xsubV xabV xcolV xddV xm0V xm1V xm2V xm3V xm5V "ValueError.__new__"))
    (xrvV : PySem.HandSPX.refsVE xbmV = true)
    (xsaV : PySem.W.findIn K (.ref cV) "__setattr__" = some (some (.builtin "object.__setattr__")))
    (sV : PySem.W.subIn K (.ref cV) (.type "BaseException") = some true)
    (yV : PySem.W.typeIn K (.ref cV) = some (.type "type"))
    (kpV : PySem.W.keepIn K (.ref cV) = true)
    (nV_part : PySem.W.findIn K (.ref cV) "part" = some none)
    (nV_index : PySem.W.findIn K (.ref cV) "index" = some none)
    (iV : PySem.W.findIn K (.ref cV) "__init__" = some (some (.ref fV)))
    (tV : PySem.W.typeIn K (.ref fV) = some (.type "function"))
    (egV : PySem.W.findIn K (.ref cV) "__getattribute__" = some (some (.builtin "BaseException.__getattribute__")))
    (ekV : PySem.W.findIn K (.ref cV) "__getattr__" = some none)
    (ehV : PySem.W.hasDictIn K cV = true)
    (xLNp : K.lookup cNp = some (excClassObj nmNp qNp cNp xNNp xbsNp xbmNp true xsnNp xsubNp xabNp xcolNp xddNp xm0Np xm1Np xm2Np xm3Np xm5Np "ValueError.__new__"))
    (xrvNp : PySem.HandSPX.refsVE xbmNp = true)
    (xsaNp : PySem.W.findIn K (.ref cNp) "__setattr__" = some (some (.builtin "object.__setattr__")))
    (sNp : PySem.W.subIn K (.ref cNp) (.type "BaseException") = some true)
    (yNp : PySem.W.typeIn K (.ref cNp) = some (.type "type"))
    (kpNp : PySem.W.keepIn K (.ref cNp) = true)
    (nNp_day : PySem.W.findIn K (.ref cNp) "day" = some none)
    (iNp : PySem.W.findIn K (.ref cNp) "__init__" = some (some (.ref fNp)))
    (tNp : PySem.W.typeIn K (.ref fNp) = some (.type "function"))
    (egNp : PySem.W.findIn K (.ref cNp) "__getattribute__" = some (some (.builtin "BaseException.__getattribute__")))
    (ekNp : PySem.W.findIn K (.ref cNp) "__getattr__" = some none)
    (ehNp : PySem.W.hasDictIn K cNp = true)
    (xLIo : K.lookup cIo = some (excClassObj nmIo qIo cIo xNIo xbsIo xbmIo true xsnIo xsubIo xabIo xcolIo xddIo xm0Io xm1Io xm2Io xm3Io xm5Io "ValueError.__new__"))
    (xrvIo : PySem.HandSPX.refsVE xbmIo = true)
    (xsaIo : PySem.W.findIn K (.ref cIo) "__setattr__" = some (some (.builtin "object.__setattr__")))
    (sIo : PySem.W.subIn K (.ref cIo) (.type "BaseException") = some true)
    (yIo : PySem.W.typeIn K (.ref cIo) = some (.type "type"))
    (kpIo : PySem.W.keepIn K (.ref cIo) = true)
    (nIo_index : PySem.W.findIn K (.ref cIo) "index" = some none)
    (iIo : PySem.W.findIn K (.ref cIo) "__init__" = some (some (.ref fIo)))
    (tIo : PySem.W.typeIn K (.ref fIo) = some (.type "function"))
    (egIo : PySem.W.findIn K (.ref cIo) "__getattribute__" = some (some (.builtin "BaseException.__getattribute__")))
    (ekIo : PySem.W.findIn K (.ref cIo) "__getattr__" = some none)
    (ehIo : PySem.W.hasDictIn K cIo = true)
    (prd : PySem.W.readsIn K cP (.type "type") = true)
    (pga : PySem.W.specialIn K (.ref cP) "__getattribute__" = some (some (.builtin "type.__getattribute__")))
    (pat : PySem.W.findCls K (.ref cP) (.type "type") "__init__" = some (.val (.builtin "ValueError.__init__")))
    (qU : PySem.W.excIn K cU [.type "ValueError", .type "Exception", .type "BaseException", .type "object"] "ValueError.__new__" = true)
    (kU : PySem.W.keepIn K (.ref cU) = true)
    (sU : PySem.W.subIn K (.ref cU) (.type "BaseException") = some true)
    (yU : PySem.W.typeIn K (.ref cU) = some (.type "type"))
    (qN : PySem.W.excIn K cN [.type "ValueError", .type "Exception", .type "BaseException", .type "object"] "ValueError.__new__" = true)
    (kN : PySem.W.keepIn K (.ref cN) = true)
    (sN : PySem.W.subIn K (.ref cN) (.type "BaseException") = some true)
    (yN : PySem.W.typeIn K (.ref cN) = some (.type "type"))
    (nSt : PySem.W.subIn K (.ref cN) (.type "StopIteration") = some false)
    (atT : PySem.W.findIn K (.ref C) "__init__" = some (some (.ref fT)))
    (ifT : PySem.W.isFn K (.ref fT) = true)
    (lT : K.lookup fT = some ⟨ocT, odT, .func (PySem.W.fnOf "__init__" "Tariff.__init__" (defArgs sInit) (defBody sInit) (defScope sInit) .none kVT dcT pmT anT cdT ctT), slT⟩)
    (cd_T : PySem.W.codeIn K cdT "Tariff.__init__" = true)
    (kp_T : PySem.W.keepIn K (.ref fT) = true)
    (lI : K.lookup fI = some ⟨ocI, odI, .func (PySem.W.fnOf "__init__" "InvalidTariff.__init__" (defArgs sIT) (defBody sIT) (defScope sIT) .none kVI dcI pmI anI cdI ctI), slI⟩)
    (cd_I : PySem.W.codeIn K cdI "InvalidTariff.__init__" = true)
    (kp_I : PySem.W.keepIn K (.ref fI) = true)
    (lXV : K.lookup fV = some ⟨ocXV, odXV, .func (PySem.W.fnOf "__init__" "InvalidTravel.__init__" (defArgs sIV) (defBody sIV) (defScope sIV) .none kVXV dcXV pmXV anXV cdXV ctXV), slXV⟩)
    (cd_XV : PySem.W.codeIn K cdXV "InvalidTravel.__init__" = true)
    (kp_XV : PySem.W.keepIn K (.ref fV) = true)
    (lXNp : K.lookup fNp = some ⟨ocXNp, odXNp, .func (PySem.W.fnOf "__init__" "NoPass.__init__" (defArgs sNpI) (defBody sNpI) (defScope sNpI) .none kVXNp dcXNp pmXNp anXNp cdXNp ctXNp), slXNp⟩)
    (cd_XNp : PySem.W.codeIn K cdXNp "NoPass.__init__" = true)
    (kp_XNp : PySem.W.keepIn K (.ref fNp) = true)
    (lXIo : K.lookup fIo = some ⟨ocXIo, odXIo, .func (PySem.W.fnOf "__init__" "InvalidOperation.__init__" (defArgs sIoI) (defBody sIoI) (defScope sIoI) .none kVXIo dcXIo pmXIo anXIo cdXIo ctXIo), slXIo⟩)
    (cd_XIo : PySem.W.codeIn K cdXIo "InvalidOperation.__init__" = true)
    (kp_XIo : PySem.W.keepIn K (.ref fIo) = true)
    (atP : PySem.W.findIn K (.ref C) "passes" = some (some (.ref pP)))
    (geP : PySem.W.specialIn K (.ref pP) "__get__" = some (some (.builtin "property.__get__")))
    (taP : PySem.W.takesIn K (.ref pP) = some true)
    (rcP : PySem.W.recIn K pP "property" = some (.ref fP :: reP))
    (lP : K.lookup fP = some ⟨ocP, odP, .func (PySem.W.fnOf "passes" "Tariff.passes" (defArgs sPasses) (defBody sPasses) (defScope sPasses) .none kVP dcP pmP anP cdP ctP), slP⟩)
    (cd_P : PySem.W.codeIn K cdP "Tariff.passes" = true)
    (kp_P : PySem.W.keepIn K (.ref fP) = true)
    (atL : PySem.W.findIn K (.ref C) "lengths" = some (some (.ref pL)))
    (geL : PySem.W.specialIn K (.ref pL) "__get__" = some (some (.builtin "property.__get__")))
    (taL : PySem.W.takesIn K (.ref pL) = some true)
    (rcL : PySem.W.recIn K pL "property" = some (.ref fL :: reL))
    (lL : K.lookup fL = some ⟨ocL, odL, .func (PySem.W.fnOf "lengths" "Tariff.lengths" (defArgs sLengths) (defBody sLengths) (defScope sLengths) .none kVL dcL pmL anL cdL ctL), slL⟩)
    (cd_L : PySem.W.codeIn K cdL "Tariff.lengths" = true)
    (kp_L : PySem.W.keepIn K (.ref fL) = true)
    (atTv : PySem.W.findIn K (.ref CV) "__init__" = some (some (.ref fTv)))
    (ifTv : PySem.W.isFn K (.ref fTv) = true)
    (lTv : K.lookup fTv = some ⟨ocTv, odTv, .func (PySem.W.fnOf "__init__" "Travel.__init__" (defArgs sTvI) (defBody sTvI) (defScope sTvI) .none (.ref kD) dcTv pmTv anTv cdTv ctTv), slTv⟩)
    (cd_Tv : PySem.W.codeIn K cdTv "Travel.__init__" = true)
    (kp_Tv : PySem.W.keepIn K (.ref fTv) = true)
    (kx : PySem.W.nsIn K kD "exceptions" = some (some (.ref eT)))
    (eTl : K.lookup eT = some ⟨.type "tuple", eTd, .seq #[] eTn, eTs⟩)
    (atTo : PySem.W.findIn K (.ref CV) "travels_on" = some (some (.ref fTo)))
    (ifTo : PySem.W.isFn K (.ref fTo) = true)
    (lTo : K.lookup fTo = some ⟨ocTo, odTo, .func (PySem.W.fnOf "travels_on" "Travel.travels_on" (defArgs sTo) (defBody sTo) (defScope sTo) .none kVTo dcTo pmTo anTo cdTo ctTo), slTo⟩)
    (cd_To : PySem.W.codeIn K cdTo "Travel.travels_on" = true)
    (kp_To : PySem.W.keepIn K (.ref fTo) = true)
    (atItd : PySem.W.findIn K (.ref CV) "is_travel_day" = some (some (.ref fItd)))
    (ifItd : PySem.W.isFn K (.ref fItd) = true)
    (lItd : K.lookup fItd = some ⟨ocItd, odItd, .func (PySem.W.fnOf "is_travel_day" "Travel.is_travel_day" (defArgs sItd) (defBody sItd) (defScope sItd) .none kVItd dcItd pmItd anItd cdItd ctItd), slItd⟩)
    (cd_Itd : PySem.W.codeIn K cdItd "Travel.is_travel_day" = true)
    (kp_Itd : PySem.W.keepIn K (.ref fItd) = true)
    (atCt : PySem.W.findIn K (.ref CT) "__init__" = some (some (.ref fCt)))
    (ifCt : PySem.W.isFn K (.ref fCt) = true)
    (lCt : K.lookup fCt = some ⟨ocCt, odCt, .func (PySem.W.fnOf "__init__" "Content.__init__" (defArgs sCtI) (defBody sCtI) (defScope sCtI) .none kVCt dcCt pmCt anCt cdCt ctCt), slCt⟩)
    (cd_Ct : PySem.W.codeIn K cdCt "Content.__init__" = true)
    (kp_Ct : PySem.W.keepIn K (.ref fCt) = true)
    (atWi : PySem.W.findIn K (.ref CW) "__init__" = some (some (.ref fWi)))
    (ifWi : PySem.W.isFn K (.ref fWi) = true)
    (lWi : K.lookup fWi = some ⟨ocWi, odWi, .func (PySem.W.fnOf "__init__" "Wallet.__init__" (defArgs sWlI) (defBody sWlI) (defScope sWlI) .none kVWi dcWi pmWi anWi cdWi ctWi), slWi⟩)
    (cd_Wi : PySem.W.codeIn K cdWi "Wallet.__init__" = true)
    (kp_Wi : PySem.W.keepIn K (.ref fWi) = true)
    (atTd : PySem.W.findIn K (.ref CW) "today" = some (some (.ref pTd)))
    (geTd : PySem.W.specialIn K (.ref pTd) "__get__" = some (some (.builtin "property.__get__")))
    (taTd : PySem.W.takesIn K (.ref pTd) = some true)
    (rcTd : PySem.W.recIn K pTd "property" = some (.ref fTd :: reTd))
    (lTd : K.lookup fTd = some ⟨ocTd, odTd, .func (PySem.W.fnOf "today" "Wallet.today" (defArgs sWlTd) (defBody sWlTd) (defScope sWlTd) .none kVTd dcTd pmTd anTd cdTd ctTd), slTd⟩)
    (cd_Td : PySem.W.codeIn K cdTd "Wallet.today" = true)
    (kp_Td : PySem.W.keepIn K (.ref fTd) = true)
    (atSp : PySem.W.findIn K (.ref CW) "spent" = some (some (.ref pSp)))
    (geSp : PySem.W.specialIn K (.ref pSp) "__get__" = some (some (.builtin "property.__get__")))
    (taSp : PySem.W.takesIn K (.ref pSp) = some true)
    (rcSp : PySem.W.recIn K pSp "property" = some (.ref fSp :: reSp))
    (lSp : K.lookup fSp = some ⟨ocSp, odSp, .func (PySem.W.fnOf "spent" "Wallet.spent" (defArgs sWlSp) (defBody sWlSp) (defScope sWlSp) .none kVSp dcSp pmSp anSp cdSp ctSp), slSp⟩)
    (cd_Sp : PySem.W.codeIn K cdSp "Wallet.spent" = true)
    (kp_Sp : PySem.W.keepIn K (.ref fSp) = true)
    (atPu : PySem.W.findIn K (.ref CW) "purchases" = some (some (.ref pPu)))
    (gePu : PySem.W.specialIn K (.ref pPu) "__get__" = some (some (.builtin "property.__get__")))
    (taPu : PySem.W.takesIn K (.ref pPu) = some true)
    (rcPu : PySem.W.recIn K pPu "property" = some (.ref fPu :: rePu))
    (lPu : K.lookup fPu = some ⟨ocPu, odPu, .func (PySem.W.fnOf "purchases" "Wallet.purchases" (defArgs sWlPu) (defBody sWlPu) (defScope sWlPu) .none kVPu dcPu pmPu anPu cdPu ctPu), slPu⟩)
    (cd_Pu : PySem.W.codeIn K cdPu "Wallet.purchases" = true)
    (kp_Pu : PySem.W.keepIn K (.ref fPu) = true)
    (atIc : PySem.W.findIn K (.ref CW) "is_covered" = some (some (.ref pIc)))
    (geIc : PySem.W.specialIn K (.ref pIc) "__get__" = some (some (.builtin "property.__get__")))
    (taIc : PySem.W.takesIn K (.ref pIc) = some true)
    (rcIc : PySem.W.recIn K pIc "property" = some (.ref fIc :: reIc))
    (lIc : K.lookup fIc = some ⟨ocIc, odIc, .func (PySem.W.fnOf "is_covered" "Wallet.is_covered" (defArgs sWlIc) (defBody sWlIc) (defScope sWlIc) .none kVIc dcIc pmIc anIc cdIc ctIc), slIc⟩)
    (cd_Ic : PySem.W.codeIn K cdIc "Wallet.is_covered" = true)
    (kp_Ic : PySem.W.keepIn K (.ref fIc) = true)
    (atRe : PySem.W.findIn K (.ref CW) "replace" = some (some (.ref fRe)))
    (ifRe : PySem.W.isFn K (.ref fRe) = true)
    (lRe : K.lookup fRe = some ⟨ocRe, odRe, .func (PySem.W.fnOf "replace" "Wallet.replace" (defArgs sWlRe) (defBody sWlRe) (defScope sWlRe) .none kVRe dcRe pmRe anRe cdRe ctRe), slRe⟩)
    (cd_Re : PySem.W.codeIn K cdRe "Wallet.replace" = true)
    (kp_Re : PySem.W.keepIn K (.ref fRe) = true)
    (atBy : PySem.W.findIn K (.ref CW) "buy" = some (some (.ref fBy)))
    (ifBy : PySem.W.isFn K (.ref fBy) = true)
    (lBy : K.lookup fBy = some ⟨ocBy, odBy, .func (PySem.W.fnOf "buy" "Wallet.buy" (defArgs sWlBy) (defBody sWlBy) (defScope sWlBy) .none kVBy dcBy pmBy anBy cdBy ctBy), slBy⟩)
    (cd_By : PySem.W.codeIn K cdBy "Wallet.buy" = true)
    (kp_By : PySem.W.keepIn K (.ref fBy) = true)
    (atPd : PySem.W.findIn K (.ref CW) "pass_day" = some (some (.ref fPd)))
    (ifPd : PySem.W.isFn K (.ref fPd) = true)
    (lPd : K.lookup fPd = some ⟨ocPd, odPd, .func (PySem.W.fnOf "pass_day" "Wallet.pass_day" (defArgs sWlPd) (defBody sWlPd) (defScope sWlPd) .none kVPd dcPd pmPd anPd cdPd ctPd), slPd⟩)
    (cd_Pd : PySem.W.codeIn K cdPd "Wallet.pass_day" = true)
    (kp_Pd : PySem.W.keepIn K (.ref fPd) = true)
    (atPd2 : PySem.W.findIn K (.ref CW) "pass_days" = some (some (.ref fPs)))
    (ifPd2 : PySem.W.isFn K (.ref fPs) = true)
    (lPd2 : K.lookup fPs = some ⟨ocPd2, odPd2, .func (PySem.W.fnOf "pass_days" "Wallet.pass_days" (defArgs sWlPs) (defBody sWlPs) (defScope sWlPs) .none kVPd2 dcPd2 pmPd2 anPd2 cdPd2 ctPd2), slPd2⟩)
    (cd_Pd2 : PySem.W.codeIn K cdPd2 "Wallet.pass_days" = true)
    (kp_Pd2 : PySem.W.keepIn K (.ref fPs) = true)
    (atUn : PySem.W.findIn K (.ref CW) "undo" = some (some (.ref fUn)))
    (ifUn : PySem.W.isFn K (.ref fUn) = true)
    (lUn : K.lookup fUn = some ⟨ocUn, odUn, .func (PySem.W.fnOf "undo" "Wallet.undo" (defArgs sWlUn) (defBody sWlUn) (defScope sWlUn) .none kVUn dcUn pmUn anUn cdUn ctUn), slUn⟩)
    (cd_Un : PySem.W.codeIn K cdUn "Wallet.undo" = true)
    (kp_Un : PySem.W.keepIn K (.ref fUn) = true)
    (atCd : PySem.W.findIn K (.ref CW) "covered_days" = some (some (.ref fCd)))
    (ifCd : PySem.W.isFn K (.ref fCd) = true)
    (lCd : K.lookup fCd = some ⟨ocCd, odCd, .func (PySem.W.fnOf "covered_days" "Wallet.covered_days" (defArgs sWlCd) (defBody sWlCd) (defScope sWlCd) .none kVCd dcCd pmCd anCd (.ref xCd) ctCd), slCd⟩)
    (cd_Cd : PySem.W.codeIn K (.ref xCd) "Wallet.covered_days" = true)
    (kp_Cd : PySem.W.keepIn K (.ref fCd) = true)
    (atRp : PySem.W.findCls K (.ref CW) (.type "type") "replay" = some (.get (.builtin "classmethod.__get__") (.ref pRp) .none (.ref CW)))
    (rcRp : PySem.W.recIn K pRp "classmethod" = some (.ref fRp :: reRp))
    (fiRp : PySem.W.fnIn K fRp = true)
    (lRp : K.lookup fRp = some ⟨ocRp, odRp, .func (PySem.W.fnOf "replay" "Wallet.replay" (defArgs sWlRp) (defBody sWlRp) (defScope sWlRp) .none kVRp dcRp pmRp anRp cdRp ctRp), slRp⟩)
    (cd_Rp : PySem.W.codeIn K cdRp "Wallet.replay" = true)
    (kp_Rp : PySem.W.keepIn K (.ref fRp) = true)
    (atVN : PySem.W.nsIn K mainGlobals "validate_numbers" = some (some (.ref fVN)))
    (lVN : K.lookup fVN = some ⟨ocVN, odVN, .func (PySem.W.fnOf "validate_numbers" "validate_numbers" (defArgs sVN) (defBody sVN) (defScope sVN) .none kVVN dcVN pmVN anVN cdVN ctVN), slVN⟩)
    (cd_VN : PySem.W.codeIn K cdVN "validate_numbers" = true)
    (kp_VN : PySem.W.keepIn K (.ref fVN) = true)
    (atVP : PySem.W.nsIn K mainGlobals "validate_pass" = some (some (.ref fVP)))
    (lVP : K.lookup fVP = some ⟨ocVP, odVP, .func (PySem.W.fnOf "validate_pass" "validate_pass" (defArgs sValid) (defBody sValid) (defScope sValid) .none kVVP dcVP pmVP anVP cdVP ctVP), slVP⟩)
    (cd_VP : PySem.W.codeIn K cdVP "validate_pass" = true)
    (kp_VP : PySem.W.keepIn K (.ref fVP) = true)
    (atVC : PySem.W.nsIn K mainGlobals "validate_count" = some (some (.ref fVC)))
    (lVC : K.lookup fVC = some ⟨ocVC, odVC, .func (PySem.W.fnOf "validate_count" "validate_count" (defArgs sVC) (defBody sVC) (defScope sVC) .none kVVC dcVC pmVC anVC cdVC ctVC), slVC⟩)
    (cd_VC : PySem.W.codeIn K cdVC "validate_count" = true)
    (kp_VC : PySem.W.keepIn K (.ref fVC) = true)
    (atSt : PySem.W.nsIn K mainGlobals "_law_start" = some (some (.ref fSt)))
    (lSt : K.lookup fSt = some ⟨ocSt, odSt, .func (PySem.W.fnOf "_law_start" "_law_start" (defArgs sStart) (defBody sStart) (defScope sStart) .none kVSt dcSt pmSt anSt cdSt ctSt), slSt⟩)
    (cd_St : PySem.W.codeIn K cdSt "_law_start" = true)
    (kp_St : PySem.W.keepIn K (.ref fSt) = true)
    (atD : PySem.W.nsIn K mainGlobals "_law_drawn" = some (some (.ref fD)))
    (lD : K.lookup fD = some ⟨ocD, odD, .func (PySem.W.fnOf "_law_drawn" "_law_drawn" (defArgs sDrawn) (defBody sDrawn) (defScope sDrawn) .none kVD dcD pmD anD cdD ctD), slD⟩)
    (cd_D : PySem.W.codeIn K cdD "_law_drawn" = true)
    (kp_D : PySem.W.keepIn K (.ref fD) = true)
    (atSm : PySem.W.nsIn K mainGlobals "_law_same" = some (some (.ref fSm)))
    (lSm : K.lookup fSm = some ⟨ocSm, odSm, .func (PySem.W.fnOf "_law_same" "_law_same" (defArgs sSm) (defBody sSm) (defScope sSm) .none kVSm dcSm pmSm anSm cdSm ctSm), slSm⟩)
    (cd_Sm : PySem.W.codeIn K cdSm "_law_same" = true)
    (kp_Sm : PySem.W.keepIn K (.ref fSm) = true)
    (atOu : PySem.W.nsIn K mainGlobals "_law_outcome" = some (some (.ref fOu)))
    (lOu : K.lookup fOu = some ⟨ocOu, odOu, .func (PySem.W.fnOf "_law_outcome" "_law_outcome" (defArgs sOut) (defBody sOut) (defScope sOut) .none kVOu dcOu pmOu anOu cdOu ctOu), slOu⟩)
    (cd_Ou : PySem.W.codeIn K cdOu "_law_outcome" = true)
    (kp_Ou : PySem.W.keepIn K (.ref fOu) = true)
    (atPas : PySem.W.nsIn K mainGlobals "_law_passes" = some (some (.ref fPas)))
    (lPas : K.lookup fPas = some ⟨ocPas, odPas, .func (PySem.W.fnOf "_law_passes" "_law_passes" (defArgs sPas) (defBody sPas) (defScope sPas) .none kVPas dcPas pmPas anPas cdPas ctPas), slPas⟩)
    (cd_Pas : PySem.W.codeIn K cdPas "_law_passes" = true)
    (kp_Pas : PySem.W.keepIn K (.ref fPas) = true)
    (atTar : PySem.W.nsIn K mainGlobals "_law_tariff" = some (some (.ref fTar)))
    (lTar : K.lookup fTar = some ⟨ocTar, odTar, .func (PySem.W.fnOf "_law_tariff" "_law_tariff" (defArgs sTar) (defBody sTar) (defScope sTar) .none kVTar dcTar pmTar anTar cdTar ctTar), slTar⟩)
    (cd_Tar : PySem.W.codeIn K cdTar "_law_tariff" = true)
    (kp_Tar : PySem.W.keepIn K (.ref fTar) = true)
    (atDay : PySem.W.nsIn K mainGlobals "_law_days" = some (some (.ref fDay)))
    (lDay : K.lookup fDay = some ⟨ocDay, odDay, .func (PySem.W.fnOf "_law_days" "_law_days" (defArgs sDay) (defBody sDay) (defScope sDay) .none kVDay dcDay pmDay anDay cdDay ctDay), slDay⟩)
    (cd_Day : PySem.W.codeIn K cdDay "_law_days" = true)
    (kp_Day : PySem.W.keepIn K (.ref fDay) = true)
    (atCv : PySem.W.nsIn K mainGlobals "_law_covered" = some (some (.ref fCv)))
    (lCv : K.lookup fCv = some ⟨ocCv, odCv, .func (PySem.W.fnOf "_law_covered" "_law_covered" (defArgs sCv) (defBody sCv) (defScope sCv) .none kVCv dcCv pmCv anCv cdCv ctCv), slCv⟩)
    (cd_Cv : PySem.W.codeIn K cdCv "_law_covered" = true)
    (kp_Cv : PySem.W.keepIn K (.ref fCv) = true)
    (atKe : PySem.W.nsIn K mainGlobals "_law_kept" = some (some (.ref fKe)))
    (lKe : K.lookup fKe = some ⟨ocKe, odKe, .func (PySem.W.fnOf "_law_kept" "_law_kept" (defArgs sKe) (defBody sKe) (defScope sKe) .none kVKe dcKe pmKe anKe cdKe ctKe), slKe⟩)
    (cd_Ke : PySem.W.codeIn K cdKe "_law_kept" = true)
    (kp_Ke : PySem.W.keepIn K (.ref fKe) = true)
    (atBu : PySem.W.nsIn K mainGlobals "_law_buy" = some (some (.ref fBu)))
    (lBu : K.lookup fBu = some ⟨ocBu, odBu, .func (PySem.W.fnOf "_law_buy" "_law_buy" (defArgs sBu) (defBody sBu) (defScope sBu) .none kVBu dcBu pmBu anBu cdBu ctBu), slBu⟩)
    (cd_Bu : PySem.W.codeIn K cdBu "_law_buy" = true)
    (kp_Bu : PySem.W.keepIn K (.ref fBu) = true)
    (atMs : PySem.W.nsIn K mainGlobals "_law_pass_days" = some (some (.ref fMs)))
    (lMs : K.lookup fMs = some ⟨ocMs, odMs, .func (PySem.W.fnOf "_law_pass_days" "_law_pass_days" (defArgs sMs) (defBody sMs) (defScope sMs) .none kVMs dcMs pmMs anMs cdMs ctMs), slMs⟩)
    (cd_Ms : PySem.W.codeIn K cdMs "_law_pass_days" = true)
    (kp_Ms : PySem.W.keepIn K (.ref fMs) = true)
    (atMd : PySem.W.nsIn K mainGlobals "_law_pass_day" = some (some (.ref fMd)))
    (lMd : K.lookup fMd = some ⟨ocMd, odMd, .func (PySem.W.fnOf "_law_pass_day" "_law_pass_day" (defArgs sMd) (defBody sMd) (defScope sMd) .none kVMd dcMd pmMd anMd cdMd ctMd), slMd⟩)
    (cd_Md : PySem.W.codeIn K cdMd "_law_pass_day" = true)
    (kp_Md : PySem.W.keepIn K (.ref fMd) = true)
    (atMu : PySem.W.nsIn K mainGlobals "_law_undo" = some (some (.ref fMu)))
    (lMu : K.lookup fMu = some ⟨ocMu, odMu, .func (PySem.W.fnOf "_law_undo" "_law_undo" (defArgs sMu) (defBody sMu) (defScope sMu) .none kVMu dcMu pmMu anMu cdMu ctMu), slMu⟩)
    (cd_Mu : PySem.W.codeIn K cdMu "_law_undo" = true)
    (kp_Mu : PySem.W.keepIn K (.ref fMu) = true)
    (atAg : PySem.W.nsIn K mainGlobals "_law_agrees" = some (some (.ref fAg)))
    (lAg : K.lookup fAg = some ⟨ocAg, odAg, .func (PySem.W.fnOf "_law_agrees" "_law_agrees" (defArgs sAg) (defBody sAg) (defScope sAg) .none kVAg dcAg pmAg anAg cdAg ctAg), slAg⟩)
    (cd_Ag : PySem.W.codeIn K cdAg "_law_agrees" = true)
    (kp_Ag : PySem.W.keepIn K (.ref fAg) = true)
    (atStp : PySem.W.nsIn K mainGlobals "_law_step" = some (some (.ref fStp)))
    (lStp : K.lookup fStp = some ⟨ocStp, odStp, .func (PySem.W.fnOf "_law_step" "_law_step" (defArgs sStp) (defBody sStp) (defScope sStp) .none kVStp dcStp pmStp anStp (.ref xStp) ctStp), slStp⟩)
    (cd_Stp : PySem.W.codeIn K (.ref xStp) "_law_step" = true)
    (kp_Stp : PySem.W.keepIn K (.ref fStp) = true)
    (atRpd : PySem.W.nsIn K mainGlobals "_law_replayed" = some (some (.ref fRpd)))
    (lRpd : K.lookup fRpd = some ⟨ocRpd, odRpd, .func (PySem.W.fnOf "_law_replayed" "_law_replayed" (defArgs sRpd) (defBody sRpd) (defScope sRpd) .none kVRpd dcRpd pmRpd anRpd (.ref xRpd) ctRpd), slRpd⟩)
    (cd_Rpd : PySem.W.codeIn K (.ref xRpd) "_law_replayed" = true)
    (kp_Rpd : PySem.W.keepIn K (.ref fRpd) = true)
    (atLaw : PySem.W.nsIn K mainGlobals "law" = some (some (.ref fLaw)))
    (lLaw : K.lookup fLaw = some ⟨ocLaw, odLaw, .func (PySem.W.fnOf "law" "law" (defArgs sLaw) (defBody sLaw) (defScope sLaw) .none kVLaw dcLaw pmLaw anLaw (.ref cc) ctLaw), slLaw⟩)
    (cd_Law : PySem.W.codeIn K (.ref cc) "law" = true)
    (kp_Law : PySem.W.keepIn K (.ref fLaw) = true)
    (xNN : PySem.W.exmOne K (.ref cN) (.ref cN) = some true)
    (xIoN : PySem.W.exmOne K (.ref cIo) (.ref cN) = some false)
    (xIoIo : PySem.W.exmOne K (.ref cIo) (.ref cIo) = some true)
    (xNpN : PySem.W.exmOne K (.ref cNp) (.ref cN) = some false)
    (xNpIo : PySem.W.exmOne K (.ref cNp) (.ref cIo) = some false)
    (xNpNp : PySem.W.exmOne K (.ref cNp) (.ref cNp) = some true)
    (xUN : PySem.W.exmOne K (.ref cU) (.ref cN) = some false)
    (xUIo : PySem.W.exmOne K (.ref cU) (.ref cIo) = some false)
    (xUNp : PySem.W.exmOne K (.ref cU) (.ref cNp) = some false)
    (xUU : PySem.W.exmOne K (.ref cU) (.ref cU) = some true)
    (cxPc : K.lookup xCd = some ⟨.type "code", codPc, .fields cvsPc, cslPc⟩)
    (cvPc : cvsPc[11]? = some (.ref Pc))
    (cxPs : K.lookup xStp = some ⟨.type "code", codPs, .fields cvsPs, cslPs⟩)
    (cvPs : cvsPs[11]? = some (.ref Ps))
    (cxPr : K.lookup xRpd = some ⟨.type "code", codPr, .fields cvsPr, cslPr⟩)
    (cvPr : cvsPr[11]? = some (.ref Pr))
    (cxPt : K.lookup cc = some ⟨.type "code", codPt, .fields cvsPt, cslPt⟩)
    (cvPt : cvsPt[11]? = some (.ref Pt))
    (nTPc : K.lookup Pc = none)
    (hHPc : PySem.W.codeHdIn K xCd Pc = true)
    (nTPs : K.lookup Ps = none)
    (hHPs : PySem.W.codeHdIn K xStp Ps = true)
    (nTPr : K.lookup Pr = none)
    (hHPr : PySem.W.codeHdIn K xRpd Pr = true)
    (nTPt : K.lookup Pt = none)
    (hHPt : PySem.W.codeHdIn K cc Pt = true)
    (nen1 : Ps ≠ Pc)
    (nen2 : Pr ≠ Pc)
    (nen3 : Pt ≠ Pc)
    (nen4 : Pr ≠ Ps)
    (nen5 : Pt ≠ Ps)
    (nen6 : Pt ≠ Pr)
    (hTPc : h.get? Pc = some { cls := .none, data := .fields #[] })
    (hTPs : h.get? Ps = some { cls := .none, data := .fields #[] })
    (hTPr : h.get? Pr = some { cls := .none, data := .fields #[] })
    (hTPt : h.get? Pt = some { cls := .none, data := .fields #[] }),
    LawAtS l w K CX0 12 63 "_law_script" mg fa h
end Sea
section
local macro_rules
  | `(tactic| refine $f:ident $args*) => do
    unless f.getId.getString! == "holds_open" do Lean.Macro.throwUnsupported
    let hc := Lean.mkIdent `hc
    `(tactic| (refine ($f $args*); (case' $hc:ident => (have z := ‹Sea.AMT›; revert z))))
namespace Sea
/-- the written part, the tables of code objects beside it -/
theorem in_left {K M : PySem.W.Frag} {h : PySem.Heap} (X : PySem.W.Frag.In (K ++ M) h) : PySem.W.Frag.In K h := fun a o e => X a o (by
  rw [List.lookup_append, e]
  rfl)
theorem in_tabs {K : PySem.W.Frag} {ts : List PySem.Addr} {h : PySem.Heap} (X : PySem.W.Frag.In (K ++ ts.map fun a => (a, PySem.W.tabObj #[])) h) (no : (ts.all fun P => (K.lookup P).isNone) = true) : ∀ P ∈ ts, h.get? P = some (PySem.W.tabObj #[]) := fun P hP => X P _ (by
  have n := List.all_eq_true.mp no P hP
  rw [List.lookup_append, Option.isNone_iff_eq_none.mp n]
  clear no X n
  induction ts with
  | nil => cases hP
  | cons a r ih =>
    by_cases c : P = a
    · rw [c]
      show (match a == a with | true => some (PySem.W.tabObj #[]) | false => _) = _
      rw [beq_self_eq_true]
    · rcases List.mem_cons.mp hP with e | hP
      · exact absurd e c
      · show (match P == a with | true => some (PySem.W.tabObj #[]) | false => List.lookup P (r.map fun a => (a, PySem.W.tabObj #[]))) = _
        rw [beq_eq_false_iff_ne.mpr c]
        exact ih hP)
end Sea
local macro_rules
  | `(tactic| o_head ($_ $K $as $_ $ts)) => `(tactic| o_headL (PySem.W.kHook (fun P => $K P ++ (424 :: $ts).map fun a => (a, PySem.W.tabObj #[])) ($as ++ (424 :: $ts)) (fun _ => by kernel_rfl)))
open PySem PySem.W PyProof.Rows in
set_option maxRecDepth 100000 in
set_option maxHeartbeats 0 in
theorem Sea.top_first (AM : Sea.AMT) : PySem.Challenge.rw_seasonpass_k45_whole_wallets.Holds := by
  w_on; o_law; k_head; (case hw => w_witness2)
  intro AM
  k_fill
  refine LamX.walk_ofTs (l := PySem.Challenge.rw_seasonpass_k45_whole_wallets) (n := 63) (k := 12) (x := "_law_script") (CX := fun _ => L2.CX0) rfl (by decide) rfl ⟨rfl, by decide, by decide⟩ (fun w h Y => Sea.in_left (PySem.W.kIn_of Y)) ?F (fun _ _ _ _ _ z => z)
  case F =>
    intro w mg fa h Y KX G hmg
    refine' AM KX G hmg ?aC ?aCV ?aCT ?aCW ?aP ?aI ?aV ?aU ?aN ?aNp ?aIo ?z_enumerate ?z_len ?z_tuple ?z_int ?z_range ?z_max ?z_min ?z_list ?z_sum ?z_any ?z_isinstance ?z_bool ?pgC ?hdC ?poC ?saC ?mkC ?kpCC ?pgV ?hdV ?poV ?saV ?mkV ?kpCV ?pgT ?hdT ?poT ?saT ?mkT ?kpCT ?pgW ?hdW ?poW ?saW ?mkW ?kpCW ?nO ?rd ?ga ?rdW ?gaW ?v0 ?v1 ?v2 ?nA0 ?nA1 ?nA2 ?nB0 ?nB1 ?nB2 ?nB3 ?nW0 ?nW1 ?nW2 ?w0 ?w1 ?w2 ?w3 ?w4 ?xLI ?xrvI ?xsaI ?sI ?yI ?kpI ?nI_index ?iI ?tI ?egI ?ekI ?ehI ?xLV ?xrvV ?xsaV ?sV ?yV ?kpV ?nV_part ?nV_index ?iV ?tV ?egV ?ekV ?ehV ?xLNp ?xrvNp ?xsaNp ?sNp ?yNp ?kpNp ?nNp_day ?iNp ?tNp ?egNp ?ekNp ?ehNp ?xLIo ?xrvIo ?xsaIo ?sIo ?yIo ?kpIo ?nIo_index ?iIo ?tIo ?egIo ?ekIo ?ehIo ?prd ?pga ?pat ?qU ?kU ?sU ?yU ?qN ?kN ?sN ?yN ?nSt ?atT ?ifT ?lT ?cd_T ?kp_T ?lI ?cd_I ?kp_I ?lXV ?cd_XV ?kp_XV ?lXNp ?cd_XNp ?kp_XNp ?lXIo ?cd_XIo ?kp_XIo ?atP ?geP ?taP ?rcP ?lP ?cd_P ?kp_P ?atL ?geL ?taL ?rcL ?lL ?cd_L ?kp_L ?atTv ?ifTv ?lTv ?cd_Tv ?kp_Tv ?kx ?eTl ?atTo ?ifTo ?lTo ?cd_To ?kp_To ?atItd ?ifItd ?lItd ?cd_Itd ?kp_Itd ?atCt ?ifCt ?lCt ?cd_Ct ?kp_Ct ?atWi ?ifWi ?lWi ?cd_Wi ?kp_Wi ?atTd ?geTd ?taTd ?rcTd ?lTd ?cd_Td ?kp_Td ?atSp ?geSp ?taSp ?rcSp ?lSp ?cd_Sp ?kp_Sp ?atPu ?gePu ?taPu ?rcPu ?lPu ?cd_Pu ?kp_Pu ?atIc ?geIc ?taIc ?rcIc ?lIc ?cd_Ic ?kp_Ic ?atRe ?ifRe ?lRe ?cd_Re ?kp_Re ?atBy ?ifBy ?lBy ?cd_By ?kp_By ?atPd ?ifPd ?lPd ?cd_Pd ?kp_Pd ?atPd2 ?ifPd2 ?lPd2 ?cd_Pd2 ?kp_Pd2 ?atUn ?ifUn ?lUn ?cd_Un ?kp_Un ?atCd ?ifCd ?lCd ?cd_Cd ?kp_Cd ?atRp ?rcRp ?fiRp ?lRp ?cd_Rp ?kp_Rp ?atVN ?lVN ?cd_VN ?kp_VN ?atVP ?lVP ?cd_VP ?kp_VP ?atVC ?lVC ?cd_VC ?kp_VC ?atSt ?lSt ?cd_St ?kp_St ?atD ?lD ?cd_D ?kp_D ?atSm ?lSm ?cd_Sm ?kp_Sm ?atOu ?lOu ?cd_Ou ?kp_Ou ?atPas ?lPas ?cd_Pas ?kp_Pas ?atTar ?lTar ?cd_Tar ?kp_Tar ?atDay ?lDay ?cd_Day ?kp_Day ?atCv ?lCv ?cd_Cv ?kp_Cv ?atKe ?lKe ?cd_Ke ?kp_Ke ?atBu ?lBu ?cd_Bu ?kp_Bu ?atMs ?lMs ?cd_Ms ?kp_Ms ?atMd ?lMd ?cd_Md ?kp_Md ?atMu ?lMu ?cd_Mu ?kp_Mu ?atAg ?lAg ?cd_Ag ?kp_Ag ?atStp ?lStp ?cd_Stp ?kp_Stp ?atRpd ?lRpd ?cd_Rpd ?kp_Rpd ?atLaw ?lLaw ?cd_Law ?kp_Law ?xNN ?xIoN ?xIoIo ?xNpN ?xNpIo ?xNpNp ?xUN ?xUIo ?xUNp ?xUU ?cxPc ?cvPc ?cxPs ?cvPs ?cxPr ?cvPr ?cxPt ?cvPt ?nTPc ?hHPc ?nTPs ?hHPs ?nTPr ?hHPr ?nTPt ?hHPt ?nen1 ?nen2 ?nen3 ?nen4 ?nen5 ?nen6 ?hTPc ?hTPs ?hTPr ?hTPt
    (case aC => k_is)
    (case aCV => k_is)
    (case aCT => k_is)
    (case aCW => k_is)
    (case aP => k_is)
    (case aI => k_is)
    (case aV => k_is)
    (case aU => k_is)
    (case aN => k_is)
    (case aNp => k_is)
    (case aIo => k_is)
    (case z_enumerate => k_is)
    (case z_len => k_is)
    (case z_tuple => k_is)
    (case z_int => k_is)
    (case z_range => k_is)
    (case z_max => k_is)
    (case z_min => k_is)
    (case z_list => k_is)
    (case z_sum => k_is)
    (case z_any => k_is)
    (case z_isinstance => k_is)
    (case z_bool => k_is)
    (case pgC => k_is)
    (case hdC => k_is)
    (case poC => k_is)
    (case saC => k_is)
    (case mkC => k_is)
    (case kpCC => k_is)
    (case pgV => k_is)
    (case hdV => k_is)
    (case poV => k_is)
    (case saV => k_is)
    (case mkV => k_is)
    (case kpCV => k_is)
    (case pgT => k_is)
    (case hdT => k_is)
    (case poT => k_is)
    (case saT => k_is)
    (case mkT => k_is)
    (case kpCT => k_is)
    (case pgW => k_is)
    (case hdW => k_is)
    (case poW => k_is)
    (case saW => k_is)
    (case mkW => k_is)
    (case kpCW => k_is)
    (case nO => k_is)
    (case rd => k_is)
    (case ga => k_is)
    (case rdW => k_is)
    (case gaW => k_is)
    (case v0 => k_is)
    (case v1 => k_is)
    (case v2 => k_is)
    (case nA0 => k_is)
    (case nA1 => k_is)
    (case nA2 => k_is)
    (case nB0 => k_is)
    (case nB1 => k_is)
    (case nB2 => k_is)
    (case nB3 => k_is)
    (case nW0 => k_is)
    (case nW1 => k_is)
    (case nW2 => k_is)
    (case w0 => k_is)
    (case w1 => k_is)
    (case w2 => k_is)
    (case w3 => k_is)
    (case w4 => k_is)
    (case xLI => k_is)
    (case xrvI => first | rfl | decide +kernel)
    (case xsaI => k_is)
    (case sI => k_is)
    (case yI => k_is)
    (case kpI => k_is)
    (case nI_index => k_is)
    (case iI => k_is)
    (case tI => k_is)
    (case egI => k_is)
    (case ekI => k_is)
    (case ehI => k_is)
    (case xLV => k_is)
    (case xrvV => first | rfl | decide +kernel)
    (case xsaV => k_is)
    (case sV => k_is)
    (case yV => k_is)
    (case kpV => k_is)
    (case nV_part => k_is)
    (case nV_index => k_is)
    (case iV => k_is)
    (case tV => k_is)
    (case egV => k_is)
    (case ekV => k_is)
    (case ehV => k_is)
    (case xLNp => k_is)
    (case xrvNp => first | rfl | decide +kernel)
    (case xsaNp => k_is)
    (case sNp => k_is)
    (case yNp => k_is)
    (case kpNp => k_is)
    (case nNp_day => k_is)
    (case iNp => k_is)
    (case tNp => k_is)
    (case egNp => k_is)
    (case ekNp => k_is)
    (case ehNp => k_is)
    (case xLIo => k_is)
    (case xrvIo => first | rfl | decide +kernel)
    (case xsaIo => k_is)
    (case sIo => k_is)
    (case yIo => k_is)
    (case kpIo => k_is)
    (case nIo_index => k_is)
    (case iIo => k_is)
    (case tIo => k_is)
    (case egIo => k_is)
    (case ekIo => k_is)
    (case ehIo => k_is)
    (case prd => k_is)
    (case pga => k_is)
    (case pat => k_is)
    (case qU => first | k_is | kernel_rfl | rfl)
    (case kU => k_is)
    (case sU => k_is)
    (case yU => k_is)
    (case qN => first | k_is | kernel_rfl | rfl)
    (case kN => k_is)
    (case sN => k_is)
    (case yN => k_is)
    (case nSt => first | k_is | kernel_rfl | rfl | decide +kernel)
    (case atT => k_is)
    (case ifT => k_is)
    (case lT => k_is)
    (case cd_T => k_is)
    (case kp_T => k_is)
    (case lI => k_is)
    (case cd_I => k_is)
    (case kp_I => k_is)
    (case lXV => k_is)
    (case cd_XV => k_is)
    (case kp_XV => k_is)
    (case lXNp => k_is)
    (case cd_XNp => k_is)
    (case kp_XNp => k_is)
    (case lXIo => k_is)
    (case cd_XIo => k_is)
    (case kp_XIo => k_is)
    (case atP => k_is)
    (case geP => k_is)
    (case taP => k_is)
    (case rcP => k_is)
    (case lP => k_is)
    (case cd_P => k_is)
    (case kp_P => k_is)
    (case atL => k_is)
    (case geL => k_is)
    (case taL => k_is)
    (case rcL => k_is)
    (case lL => k_is)
    (case cd_L => k_is)
    (case kp_L => k_is)
    (case atTv => k_is)
    (case ifTv => k_is)
    (case lTv => k_is)
    (case cd_Tv => k_is)
    (case kp_Tv => k_is)
    (case kx => first | k_is | kernel_rfl | rfl | decide +kernel)
    (case eTl => first | k_is | kernel_rfl | rfl | decide +kernel)
    (case atTo => k_is)
    (case ifTo => k_is)
    (case lTo => k_is)
    (case cd_To => k_is)
    (case kp_To => k_is)
    (case atItd => k_is)
    (case ifItd => k_is)
    (case lItd => k_is)
    (case cd_Itd => k_is)
    (case kp_Itd => k_is)
    (case atCt => k_is)
    (case ifCt => k_is)
    (case lCt => k_is)
    (case cd_Ct => k_is)
    (case kp_Ct => k_is)
    (case atWi => k_is)
    (case ifWi => k_is)
    (case lWi => k_is)
    (case cd_Wi => k_is)
    (case kp_Wi => k_is)
    (case atTd => k_is)
    (case geTd => k_is)
    (case taTd => k_is)
    (case rcTd => k_is)
    (case lTd => k_is)
    (case cd_Td => k_is)
    (case kp_Td => k_is)
    (case atSp => k_is)
    (case geSp => k_is)
    (case taSp => k_is)
    (case rcSp => k_is)
    (case lSp => k_is)
    (case cd_Sp => k_is)
    (case kp_Sp => k_is)
    (case atPu => k_is)
    (case gePu => k_is)
    (case taPu => k_is)
    (case rcPu => k_is)
    (case lPu => k_is)
    (case cd_Pu => k_is)
    (case kp_Pu => k_is)
    (case atIc => k_is)
    (case geIc => k_is)
    (case taIc => k_is)
    (case rcIc => k_is)
    (case lIc => k_is)
    (case cd_Ic => k_is)
    (case kp_Ic => k_is)
    (case atRe => k_is)
    (case ifRe => k_is)
    (case lRe => k_is)
    (case cd_Re => k_is)
    (case kp_Re => k_is)
    (case atBy => k_is)
    (case ifBy => k_is)
    (case lBy => k_is)
    (case cd_By => k_is)
    (case kp_By => k_is)
    (case atPd => k_is)
    (case ifPd => k_is)
    (case lPd => k_is)
    (case cd_Pd => k_is)
    (case kp_Pd => k_is)
    (case atPd2 => k_is)
    (case ifPd2 => k_is)
    (case lPd2 => k_is)
    (case cd_Pd2 => k_is)
    (case kp_Pd2 => k_is)
    (case atUn => k_is)
    (case ifUn => k_is)
    (case lUn => k_is)
    (case cd_Un => k_is)
    (case kp_Un => k_is)
    (case atCd => k_is)
    (case ifCd => k_is)
    (case lCd => k_is)
    (case cd_Cd => k_is)
    (case kp_Cd => k_is)
    (case atRp => k_is)
    (case rcRp => k_is)
    (case fiRp => first | k_is | kernel_rfl | rfl | decide +kernel)
    (case lRp => k_is)
    (case cd_Rp => k_is)
    (case kp_Rp => k_is)
    (case atVN => k_is)
    (case lVN => k_is)
    (case cd_VN => k_is)
    (case kp_VN => k_is)
    (case atVP => k_is)
    (case lVP => k_is)
    (case cd_VP => k_is)
    (case kp_VP => k_is)
    (case atVC => k_is)
    (case lVC => k_is)
    (case cd_VC => k_is)
    (case kp_VC => k_is)
    (case atSt => k_is)
    (case lSt => k_is)
    (case cd_St => k_is)
    (case kp_St => k_is)
    (case atD => k_is)
    (case lD => k_is)
    (case cd_D => k_is)
    (case kp_D => k_is)
    (case atSm => k_is)
    (case lSm => k_is)
    (case cd_Sm => k_is)
    (case kp_Sm => k_is)
    (case atOu => k_is)
    (case lOu => k_is)
    (case cd_Ou => k_is)
    (case kp_Ou => k_is)
    (case atPas => k_is)
    (case lPas => k_is)
    (case cd_Pas => k_is)
    (case kp_Pas => k_is)
    (case atTar => k_is)
    (case lTar => k_is)
    (case cd_Tar => k_is)
    (case kp_Tar => k_is)
    (case atDay => k_is)
    (case lDay => k_is)
    (case cd_Day => k_is)
    (case kp_Day => k_is)
    (case atCv => k_is)
    (case lCv => k_is)
    (case cd_Cv => k_is)
    (case kp_Cv => k_is)
    (case atKe => k_is)
    (case lKe => k_is)
    (case cd_Ke => k_is)
    (case kp_Ke => k_is)
    (case atBu => k_is)
    (case lBu => k_is)
    (case cd_Bu => k_is)
    (case kp_Bu => k_is)
    (case atMs => k_is)
    (case lMs => k_is)
    (case cd_Ms => k_is)
    (case kp_Ms => k_is)
    (case atMd => k_is)
    (case lMd => k_is)
    (case cd_Md => k_is)
    (case kp_Md => k_is)
    (case atMu => k_is)
    (case lMu => k_is)
    (case cd_Mu => k_is)
    (case kp_Mu => k_is)
    (case atAg => k_is)
    (case lAg => k_is)
    (case cd_Ag => k_is)
    (case kp_Ag => k_is)
    (case atStp => k_is)
    (case lStp => k_is)
    (case cd_Stp => k_is)
    (case kp_Stp => k_is)
    (case atRpd => k_is)
    (case lRpd => k_is)
    (case cd_Rpd => k_is)
    (case kp_Rpd => k_is)
    (case atLaw => k_is)
    (case lLaw => k_is)
    (case cd_Law => k_is)
    (case kp_Law => k_is)
    (case xNN => first | k_is | kernel_rfl | rfl | decide +kernel)
    (case xIoN => first | k_is | kernel_rfl | rfl | decide +kernel)
    (case xIoIo => first | k_is | kernel_rfl | rfl | decide +kernel)
    (case xNpN => first | k_is | kernel_rfl | rfl | decide +kernel)
    (case xNpIo => first | k_is | kernel_rfl | rfl | decide +kernel)
    (case xNpNp => first | k_is | kernel_rfl | rfl | decide +kernel)
    (case xUN => first | k_is | kernel_rfl | rfl | decide +kernel)
    (case xUIo => first | k_is | kernel_rfl | rfl | decide +kernel)
    (case xUNp => first | k_is | kernel_rfl | rfl | decide +kernel)
    (case xUU => first | k_is | kernel_rfl | rfl | decide +kernel)
    (case cxPc => first | k_is | kernel_rfl | rfl | decide +kernel)
    (case cvPc => first | rfl | kernel_rfl)
    (case cxPs => first | k_is | kernel_rfl | rfl | decide +kernel)
    (case cvPs => first | rfl | kernel_rfl)
    (case cxPr => first | k_is | kernel_rfl | rfl | decide +kernel)
    (case cvPr => first | rfl | kernel_rfl)
    (case cxPt => first | k_is | kernel_rfl | rfl | decide +kernel)
    (case cvPt => first | rfl | kernel_rfl)
    (case nTPc => first | rfl | kernel_rfl)
    (case hHPc => first | kernel_rfl | rfl)
    (case nTPs => first | rfl | kernel_rfl)
    (case hHPs => first | kernel_rfl | rfl)
    (case nTPr => first | rfl | kernel_rfl)
    (case hHPr => first | kernel_rfl | rfl)
    (case nTPt => first | rfl | kernel_rfl)
    (case hHPt => first | kernel_rfl | rfl)
    (case nen1 => decide +kernel)
    (case nen2 => decide +kernel)
    (case nen3 => decide +kernel)
    (case nen4 => decide +kernel)
    (case nen5 => decide +kernel)
    (case nen6 => decide +kernel)
    (case hTPc => exact Sea.in_tabs (PySem.W.kIn_of Y) (by kernel_rfl) _ (by decide))
    (case hTPs => exact Sea.in_tabs (PySem.W.kIn_of Y) (by kernel_rfl) _ (by decide))
    (case hTPr => exact Sea.in_tabs (PySem.W.kIn_of Y) (by kernel_rfl) _ (by decide))
    (case hTPt => exact Sea.in_tabs (PySem.W.kIn_of Y) (by kernel_rfl) _ (by decide))
end
set_option Elab.async false
set_option linter.all false
set_option maxRecDepth 100000
set_option maxHeartbeats 4000000
/-! lambdas as tracked objects, called from anywhere -/
namespace Sea
open PySem PySem.Spec PyProof.Rows L2 LamX NdefX

/-- the words of a lambda, what it captured, its code object, its defaults -/
structure LF where
  qual : Str
  params : Arguments
  body : Expr
  scope : Scope
  cl : List (Str × Addr)
  c : Addr
  dV : Value
abbrev LF.fd (F : LF) (doc pm ctv : Value) : FuncData :=
  PySem.W.kdv_fn "<lambda>" F.qual F.params (.expr F.body) F.scope F.cl F.dV doc pm (.ref F.c) ctv
/-- what a lambda's object is: a function object with the words F, whatever its text, module and annotations are -/
inductive LamAs (F : LF) : Obj → Prop
  | mk (od : Option Addr) (sl : Array (Option Value)) (doc pm ctv : Value) : LamAs F ⟨.type "function", od, .func (F.fd doc pm ctv), sl⟩
/-- at f stands an object of which R holds -/
def Stands (R : Obj → Prop) (f : Addr) : HO := .ext fun h => ∃ o, R o ∧ h.get? f = some o
theorem Stands.ok {P : Program} {w : World} {H : Hp} {h : Heap} {f : Addr} {R : Obj → Prop} {o : Obj} (r : R o) (e : h.get? f = some o) : ObjOk P w H h f (Stands R f) :=
  ⟨⟨o, r, e⟩, ⟨o, e⟩, fun _ _ ⟨o, r, e⟩ stays => ⟨o, r, stays o e⟩⟩
theorem Stands.no_tbl {R : Obj → Prop} {f : Addr} (ps : Array Value) : Stands R f ≠ .tbl ps := nofun
theorem Stands.no_tup {R : Obj → Prop} {f : Addr} (xs : List V) : Stands R f ≠ .tup xs := nofun
/-- a new object is laid at the heap's end -/
theorem Stands.laid {X : Cx} {pins : List (Addr × Obj)} {σ : L2.St} {H : Hp} {s : Shared} {R : Obj → Prop} {o : Obj} {t : Nat} (I : Inv X pins σ H s) (r : R o) (nf : o.isFreed = false) :
    Inv X pins σ (upd H s.heap.objs.size (Stands R s.heap.objs.size)) { s with heap := s.heap.push o, toks := t } :=
  I.laid (fun _ _ e => Heap.get?_push_of_some _ e) (Nat.le_refl _) (Stands.ok r (Heap.get?_push_size _ nf))
abbrev LamO (f : Addr) (F : LF) : HO := Stands (LamAs F) f
theorem lamO_at {P : Program} {w : World} {H : Hp} {h : Heap} {f : Addr} {F : LF} (hok : HOk P w H h) (e : H f = some (LamO f F)) : ∃ o, LamAs F o ∧ h.get? f = some o :=
  (hok f _ e).1
theorem tabs_keep {T : List (Addr × Str)} {H : Hp} {a : Addr} {o : HO} (hT : Tabs T H) (n : H a = none) : Tabs T (upd H a o) :=
  hT.ext fun b u e => by rw [upd_ne (ne_of_none e n), e]
theorem extN_new {H : Hp} {a : Addr} {o : HO} (n : H a = none) : ExtN H (upd H a o) := .of fun b u e => by rw [upd_ne (ne_of_none e n), e]
theorem extN_tbl {H : Hp} {P : Addr} {ps qs : Array Value} (at_ : H P = some (.tbl ps)) : ExtN H (upd H P (.tbl qs)) := fun b o e n => (upd_ne fun z => n ps (by
  rw [z, at_] at e
  exact (Option.some.inj e).symm)).trans e
/-- all that a table's row tells bears the name q -/
def Told (H : Hp) (q : Str) (row : List Value) : Prop := ∀ (pos : Pos) (cv : Value), codeAmong pos row = some cv → ∃ d, cv = .ref d ∧ H d = some (CodeO d q)
theorem Told.one {H H' : Hp} {q : Str} {row : List Value} {pos : Pos} {c : Addr} (t : Told H q row) (ok : TriplesOk row) (keep : ∀ d, H d = some (CodeO d q) → H' d = some (CodeO d q)) (new : H' c = some (CodeO c q)) : Told H' q (row ++ [rawInt pos.line, rawInt pos.col, .ref c]) := fun pos cv h =>
  (among_app _ ok h).elim (fun old => (t pos cv old).imp fun d z => ⟨z.1, keep d z.2⟩) fun e => ⟨c, e, new⟩
/-- the maker's table has grown by one code object -/
theorem tabs_more {T : List (Addr × Str)} {H : Hp} {P c : Addr} {q : Str} {ps : Array Value} {pos : Pos} (hT : Tabs T H) (at_ : H P = some (.tbl ps)) (ok : TriplesOk ps.toList) (told : Told H q ps.toList) (hu : ∀ p ∈ T, p.1 = P → p.2 = q) (nC : H c = none) :
    Tabs T (upd (upd H P (.tbl (ps ++ #[rawInt pos.line, rawInt pos.col, .ref c]))) c (CodeO c q)) ∧ ExtN H (upd (upd H P (.tbl (ps ++ #[rawInt pos.line, rawInt pos.col, .ref c]))) c (CodeO c q)) := by
  have Pc : P ≠ c := ne_of_none at_ nC
  have ext := (extN_tbl (qs := ps ++ #[rawInt pos.line, rawInt pos.col, .ref c]) at_).trans (extN_new (o := CodeO c q) ((upd_ne Pc.symm).trans nC))
  have row : (ps ++ #[rawInt pos.line, rawInt pos.col, .ref c]).toList = ps.toList ++ [rawInt pos.line, rawInt pos.col, .ref c] := by simp
  have mine : TabS (upd (upd H P (.tbl (ps ++ #[rawInt pos.line, rawInt pos.col, .ref c]))) c (CodeO c q)) P q := by
    refine ⟨_, (upd_ne Pc).trans upd_same, ?_, ?_⟩ <;> rw [row]
    · exact PySem.TriplesOk_snoc _ _ _ _ ok
    · exact told.one ok (fun d e => ext d _ e codeO_ne) upd_same
  have other : ∀ p ∈ T, p.1 ≠ P → TabS (upd (upd H P (.tbl (ps ++ #[rawInt pos.line, rawInt pos.col, .ref c]))) c (CodeO c q)) p.1 p.2 := fun p hp n =>
    let ⟨qs, there, fine, names⟩ := hT p hp
    ⟨qs, (upd_ne (ne_of_none there nC)).trans ((upd_ne n).trans there), fine, fun x y h => (names x y h).imp fun d z => ⟨z.1, ext d _ z.2 codeO_ne⟩⟩
  exact ⟨fun p hp => if e : p.1 = P then by rw [e, hu p hp e]; exact mine else other p hp e, ext⟩

section
variable {X : Cx} {pins : List (Addr × Obj)} {σ : L2.St} {H : Hp} {s : Shared}
/-- the lambda's object is made -/
theorem lam_tr {T : List (Addr × Str)} {c P : Addr} {params : Arguments} {body : Expr} {scope : Scope} {pos : Pos} {dV : Value} {E : Value → Shared → Prop} {Q : Value → Shared → Prop} (I : Inv X pins σ H s) (TB : TabB X.base X.mg c P) (hcode : X.env.code = .ref c)
    (hm : (P, X.env.qual ++ "<lambda>") ∈ T) (hu : ∀ p ∈ T, p.1 = P → p.2 = X.env.qual ++ "<lambda>") (hT : Tabs T H) (hfree : ∀ y ∈ scope.names, y.2 = .free → ∃ c, X.env.cells.lookup y.1 = some c)
    (h : ∀ (f c' : Addr) (H1 : Hp) (s' : Shared), Inv X pins σ H1 s' → ExtN H H1 → Tabs T H1 → H f = none →
      H1 f = some (LamO f ⟨X.env.qual ++ "<lambda>", params, body, scope, cloFrom X.env.cells scope.names [], c', dV⟩) → H1 c' = some (CodeO c' (X.env.qual ++ "<lambda>")) → Q (.ref f) s') :
    wpAny (model X.prog X.w) X.A (makeTail "<lambda>" (X.env.qual ++ "<lambda>") params (.expr body) scope X.env dV .none none pos pos.line) Q E s := by
  obtain ⟨ps, table, triples, told⟩ := hT _ hm
  have main := TB.bm.keeps I.bk
  have glob := I.mod.glob.keeps I.bk
  have code := TB.code.keeps I.bk
  -- whichever way the code object was got: the function object is laid last
  have last : ∀ (c' : Addr) (H1 : Hp) (hp : Heap) (tk : Nat) (doc pm ctv : Value), Inv X pins σ H1 { s with heap := hp, toks := tk } → s.heap.objs.size ≤ hp.objs.size → ExtN H H1 → Tabs T H1 → H1 c' = some (CodeO c' (X.env.qual ++ "<lambda>")) →
      Q (.ref hp.objs.size) { s with heap := hp.push ⟨.type "function", none, .func ((LF.mk (X.env.qual ++ "<lambda>") params body scope (cloFrom X.env.cells scope.names []) c' dV).fd doc pm ctv), #[]⟩, toks := tk } := by
    intro c' H1 hp tk doc pm ctv J le ext tabs hc
    have fresh : H1 hp.objs.size = none := J.hok.fresh (Nat.le_refl _)
    exact h _ c' _ _ (Stands.laid J (LamAs.mk none #[] doc pm ctv) rfl) (ext.trans (extN_new fresh)) (tabs_keep tabs fresh) (I.hok.fresh le) upd_same ((upd_ne (ne_of_none hc fresh)).trans hc)
  match hk : codeAmong pos ps.toList with
  | some cv =>
    obtain ⟨c', rfl, known⟩ := told pos cv hk
    exact PySem.W.kdv_makeTailHit (closure_ok hfree) I.ok.glob glob hcode code (I.hok P _ table) triples hk main fun ctv doc hp tk old le => last c' H hp tk doc _ ctv (I.kept old) le (.refl H) hT known
  | none =>
    refine PySem.W.kdv_makeTail (closure_ok hfree) I.ok.glob glob hcode code (I.hok P _ table) triples hk TB.gP main ?_
    rintro c' ctv doc hp tk old ge lt ⟨_, oc, vs, t, z, rec⟩ row
    cases z
    have grown := tabs_more (pos := pos) hT table triples told hu (I.hok.fresh ge)
    exact last c' _ hp tk doc _ ctv (inv_table (t' := tk) I table (fun b o hb e => old b o hb e) row ge ⟨oc, vs, t, rec⟩) (Nat.le_trans ge (Nat.le_of_lt lt)) grown.2 grown.1 upd_same
end

/-- a lambda as a value: without defaults -/
def tLamV (T : List (Addr × Str)) (mk : Addr → LF) : TE := fun _ H Q => Tabs T H ∧ ∀ (f c' : Addr) (H1 : Hp), ExtN H H1 → Tabs T H1 → H f = none → H1 f = some (LamO f (mk c')) → H1 c' = some (CodeO c' (mk c').qual) → Q (.ref f) H1
/-- .. with one default, an int -/
def tLamD (T : List (Addr × Str)) (d : Int) (mk : Addr → Addr → LF) : TE := fun _ H Q => Tabs T H ∧ ∀ (f c' t : Addr) (H1 : Hp), ExtN H H1 → Tabs T H1 → H f = none → H t = none → H1 t = some (.tup [.int d]) → H1 f = some (LamO f (mk c' t)) → H1 c' = some (CodeO c' (mk c' t).qual) → Q (.ref f) H1
section
variable {X : Cx} {T : List (Addr × Str)} {c P : Addr} {params : Arguments} {body : Expr} {scope : Scope} {pos : Pos}
theorem free_has (hf : ∀ y ∈ scope.names, y.2 = .free → X.env.scope.names.lookup y.1 = some .cell ∨ X.env.scope.names.lookup y.1 = some .free) (ok : X.Ok) : ∀ y ∈ scope.names, y.2 = .free → ∃ c, X.env.cells.lookup y.1 = some c :=
  fun y hy e => (hf y hy e).elim (fun k => ok.has _ (.inl k)) (fun k => ok.has _ (.inr k))
theorem pe_lamV (TB : TabB X.base X.mg c P) (hcode : X.env.code = .ref c) (hm : (P, X.env.qual ++ "<lambda>") ∈ T) (hu : ∀ p ∈ T, p.1 = P → p.2 = X.env.qual ++ "<lambda>")
    (hf : ∀ y ∈ scope.names, y.2 = .free → X.env.scope.names.lookup y.1 = some .cell ∨ X.env.scope.names.lookup y.1 = some .free) (hdef : defaultsOf params X.env = ([], []) := by rfl) :
    PE X (.Lambda params body scope pos) (tLamV T fun c' => ⟨X.env.qual ++ "<lambda>", params, body, scope, cloFrom X.env.cells scope.names [], c', .none⟩) := by
  refine ⟨fun pins s σ H Q I h => ?_⟩
  obtain ⟨hT, h⟩ := h
  refine PySem.W.kla_eval hdef ?_
  rw [makeFunction_eq]
  simp only [List.zip_nil_right, List.filterMap_nil, List.isEmpty_nil, if_true, pure_bind]
  exact lam_tr I TB hcode hm hu hT (free_has hf I.ok) fun f c' H1 s' I1 eN T1 f0 f1 c1 => ⟨.ref f, H1, I1, rfl, h f c' H1 eN T1 f0 f1 c1⟩
theorem pe_lamD {d : Int} {j : Nat} {dp : Pos} (TB : TabB X.base X.mg c P) (hcode : X.env.code = .ref c) (hm : (P, X.env.qual ++ "<lambda>") ∈ T) (hu : ∀ p ∈ T, p.1 = P → p.2 = X.env.qual ++ "<lambda>")
    (hf : ∀ y ∈ scope.names, y.2 = .free → X.env.scope.names.lookup y.1 = some .cell ∨ X.env.scope.names.lookup y.1 = some .free) (hd : params.defaults = [.Constant (.int d) j dp]) (hk0 : params.kw_defaults = []) :
    PE X (.Lambda params body scope pos) (tLamD T d fun c' t => ⟨X.env.qual ++ "<lambda>", params, body, scope, cloFrom X.env.cells scope.names [], c', .ref t⟩) := by
  refine ⟨fun pins s σ H Q I h => ?_⟩
  obtain ⟨hT, h⟩ := h
  refine PySem.W.kdv_lam (by rw [hd]; rfl) hk0 ?_
  rw [hd]
  refine PySem.W.kdv_all1 (wpAny_Constant_int (PySem.W.kdv_all0 ?_))
  rw [makeFunction_eq]
  simp only [List.zip_nil_right, List.filterMap_nil, List.isEmpty_nil, if_true, pure_bind, List.isEmpty_cons, Bool.false_eq_true, if_false]
  refine wpAny_bind (wpAny_newTextTuple ?_)
  have nT : H s.heap.objs.size = none := I.hok.fresh (Nat.le_refl _)
  have I1 := I.laid (t' := s.toks + 1) (a := s.heap.objs.size) (o := .tup [.int d]) (h' := s.heap.push ({ cls := .type "tuple", data := .seq #[.int d s.toks] } : Obj)) (fun b u e => Heap.get?_push_of_some _ e) (Nat.le_refl _)
    ⟨(by show 1 ≤ sizeLine; decide), [.int d s.toks], .cons ⟨_, rfl⟩ .nil, ⟨_, Heap.get?_push_size _ rfl, rfl, _, rfl⟩⟩
  refine lam_tr I1 TB hcode hm hu (tabs_keep hT nT) (free_has hf I.ok) fun f c' H1 s' I2 eN T1 f0 f1 c1 => ⟨.ref f, H1, I2, rfl, ?_⟩
  have ft : f ≠ s.heap.objs.size := fun z => by
    rw [z, upd_same] at f0
    cases f0
  have f0' : H f = none := by
    rw [upd_ne ft] at f0
    exact f0
  exact h f c' s.heap.objs.size H1 ((extN_new nT).trans eN) T1 f0' nT (eN _ _ upd_same (fun ps z => by cases z)) f1 c1
end
end Sea

set_option Elab.async false
set_option linter.all false
set_option maxRecDepth 100000
set_option maxHeartbeats 4000000
namespace Sea
open PySem PySem.Spec PyProof.Rows L2 LamX NdefX
abbrev LF.nf (F : LF) : NF := ⟨"<lambda>", F.qual, F.params, [], F.scope, F.cl, F.c⟩
/-- the tuple of defaults, where there is one, holds one int -/
def DvOk (F : LF) (H : Hp) : Prop := ∀ t, F.dV = .ref t → ∃ d, H t = some (.tup [.int d])
/-- a thunk's reading: ws what its captured cells hold -/
abbrev TSp := List (Option V) → Hp → VK → XK → Prop
structure LOk (P : Program) (w : World) (K : PySem.W.Frag) (mg : Str → Option Value) (base : Heap) (CX : CXT) (k : Nat) (f : Addr) (F : LF) (fr : List Str) (sp : TSp) : Prop where
  run : ∀ (A : Around) (outer : List Env) (s : Shared) (H : Hp) (ws : List (Option V)) (Q : VK) (E : XK), Room k A → Env0 P w K mg base A outer s H → H f = some (LamO f F) → H F.c = some (CodeO F.c F.qual) → DvOk F H →
    CellsAt F.cl fr ws s.heap H → sp ws H Q E → codeAny (model P w) A (.call (.ref f) ⟨[], []⟩) (CR CX outer P w H s Q E) s
theorem LOk.mono {P : Program} {w : World} {K : PySem.W.Frag} {mg : Str → Option Value} {base : Heap} {CX : CXT} {k j : Nat} {f : Addr} {F : LF} {fr : List Str} {sp : TSp} (o : LOk P w K mg base CX j f F fr sp) (h : j ≤ k) : LOk P w K mg base CX k f F fr sp :=
  ⟨fun A outer s H ws Q E hr => o.run A outer s H ws Q E (hr.mono h)⟩
theorem LOk.imp {P : Program} {w : World} {K : PySem.W.Frag} {mg : Str → Option Value} {base : Heap} {CX : CXT} {k : Nat} {f : Addr} {F : LF} {fr : List Str} {sp sp' : TSp} (o : LOk P w K mg base CX k f F fr sp) (h : ∀ ws H Q E, sp' ws H Q E → sp ws H Q E) : LOk P w K mg base CX k f F fr sp' :=
  ⟨fun A outer s H ws Q E hr e0 a b c d q => o.run A outer s H ws Q E hr e0 a b c d (h _ _ _ _ q)⟩
section
variable {CX : CXT} {P : Program} {w : World} {K : PySem.W.Frag} {mg : Str → Option Value} {base : Heap} {N ps fr : List Str} {F : LF} {f : Addr} {k : Nat} {sp : TSp}
theorem lok_core {A : Around} {outer : List Env} {s : Shared} {H : Hp} {us : List Value} {vs : List V} {ws : List (Option V)} {Q : VK} {E : XK} (S : NScope N ps fr F.scope) (hr : Room (k + 1) A) (e0 : Env0 P w K mg base A outer s H)
    (hf : H f = some (LamO f F)) (hc : H F.c = some (CodeO F.c F.qual)) (C : CellsAt F.cl fr ws s.heap H) (r : Vals vs us) (hl : vs.length = ps.length)
    (hb : ∀ doc pm ctv : Value, BindsTo s (F.fd doc pm ctv) ⟨[], []⟩ (ps.zip us))
    (hbody : Room k (A.deeper (envF F.nf f s.heap.objs.size)) → ∃ t, PE (ncx CX P w K mg base N F.nf f A outer s H E) F.body t ∧ t (startF N vs ws) H Q) :
    codeAny (model P w) A (.call (.ref f) ⟨[], []⟩) (CR CX outer P w H s Q E) s := by
  have lim : s.heap.NoLimit := e0.mod.nolimit.keeps fun b o e => (e0.bs b o e).1
  obtain ⟨_, ⟨od, sl, doc, pm, ctv⟩, ho⟩ := lamO_at e0.hok hf
  refine PySem.W.kla_callFunE hr.depth ho rfl S.co S.gen rfl (codeO_at e0.hok hc) ?_
  refine hb doc pm ctv _ _ _ _ ?_
  refine wpAny_newFunctionEnv S.nocell (fun ⟨n, _⟩ hy => S.par n (List.of_mem_zip hy).1) (fun h1 hns hsb => ⟨lim.fresh _ hsb, ?_⟩) S.kind
  have kp : ∀ b o, s.heap.get? b = some o → h1.get? b = some o := fun b o e => hsb.extBut b o (Nat.ne_of_lt (Heap.lt_size e)) (Heap.get?_push_of_some _ e)
  obtain ⟨t, ht, hq⟩ := hbody (hr.deeper _)
  have I : Inv (ncx CX P w K mg base N F.nf f A outer s H E) [] (startF N vs ws) H { s with heap := h1, toks := s.toks + (ps.zip us).length } := inv_startN S hr.hd e0 hl r C hns kp
  show codeAny _ _ (.expr F.body (envF F.nf f s.heap.objs.size)) _ _
  refine PySem.W.kla_codeExpr (wpAny_mono (ht.run [] _ (startF N vs ws) H Q I hq) (fun v s' hs => ?_) fun e s' hs => hs)
  obtain ⟨x, H', J, rv, q⟩ := hs
  exact ⟨x, H', J.os, J.bare, J.base, J.hok, rv, q⟩
theorem lok_of0 (S : NScope N [] fr F.scope) (hb : ∀ doc pm ctv : Value, bindArgs (F.fd doc pm ctv) ⟨[], []⟩ = pure [])
    (hbody : ∀ (A : Around) (outer : List Env) (s : Shared) (H : Hp) (ws : List (Option V)) (Q : VK) (E : XK), Room k (A.deeper (envF F.nf f s.heap.objs.size)) → ws.length = fr.length → sp ws H Q E →
      ∃ t, PE (ncx CX P w K mg base N F.nf f A outer s H E) F.body t ∧ t (startF N [] ws) H Q) : LOk P w K mg base CX (k + 1) f F fr sp :=
  ⟨fun A outer s H ws Q E hr e0 hf hc hd C hq => lok_core (us := []) (vs := []) S hr e0 hf hc C .nil rfl (fun doc pm ctv => .of_eq (hb doc pm ctv)) fun hr' => hbody A outer s H ws Q E hr' C.len hq⟩
/-- with one default -/
theorem lok_ofD {a : Str} {t : Addr} (S : NScope N [a] fr F.scope) (hdv : F.dV = .ref t)
    (hb : ∀ doc pm ctv : Value, ∃ kk : Option (Array Value) → Sem (List (Str × Value)), bindArgs (F.fd doc pm ctv) ⟨[], []⟩ = seqItems? (F.fd doc pm ctv).defaults >>= kk ∧ ∀ u, kk (some #[u]) = pure [(a, u)])
    (hbody : ∀ (A : Around) (outer : List Env) (s : Shared) (H : Hp) (ws : List (Option V)) (Q : VK) (E : XK) (d : Int), Room k (A.deeper (envF F.nf f s.heap.objs.size)) → ws.length = fr.length → sp ws H Q E →
      ∃ t, PE (ncx CX P w K mg base N F.nf f A outer s H E) F.body t ∧ t (startF N [.int d] ws) H Q) : LOk P w K mg base CX (k + 1) f F fr sp := by
  refine ⟨fun A outer s H ws Q E hr e0 hf hc hd C hq => ?_⟩
  obtain ⟨d, ht⟩ := hd t hdv
  obtain ⟨_, its, rv, o, ho, hcl, n, hsq⟩ := (show ObjOk P w H s.heap t (.tup [.int d]) from e0.hok t _ ht)
  cases rv with
  | @cons _ u _ rest ru rr =>
    cases rr
    exact lok_core (us := [u]) (vs := [.int d]) S hr e0 hf hc C (.cons ru .nil) rfl (fun doc pm ctv => by
      obtain ⟨kk, e1, e2⟩ := hb doc pm ctv
      exact BindsTo.of_defaults hdv ho hsq e1 (e2 u)) fun hr' => hbody A outer s H ws Q E d hr' C.len hq
end

/-- what a caller hands on with a thunk: tl is its reading -/
structure Thunk (P : Program) (w : World) (K : PySem.W.Frag) (mg : Str → Option Value) (base : Heap) (CX : CXT) (k : Nat) (outer : List Env) (s : Shared) (H : Hp) (f : Addr) (tl : Hp → VK → XK → Prop) : Prop where
  ex : ∃ (F : LF) (fr : List Str) (ws : List (Option V)) (sp : TSp), LOk P w K mg base CX k f F fr sp ∧ H f = some (LamO f F) ∧ H F.c = some (CodeO F.c F.qual) ∧ DvOk F H ∧ CellsAt F.cl fr ws s.heap H ∧ (∀ y c, F.cl.lookup y = some c → c ∉ frs outer) ∧ tl = sp ws
/-- a def that takes a thunk, its promise told of the state -/
def FnS (P : Program) (w : World) (K : PySem.W.Frag) (mg : Str → Option Value) (base : Heap) (CX CXl : CXT) (k j : Nat) (g : Addr) (sp : (Hp → VK → XK → Prop) → Hp → VK → XK → Prop) : Prop :=
  ∀ (A : Around) (outer : List Env) (s : Shared) (H : Hp) (f : Addr) (tl : Hp → VK → XK → Prop) (Q : VK) (E : XK), Room k A → Env0 P w K mg base A outer s H → Thunk P w K mg base CXl j outer s H f tl → sp tl H Q E →
    codeAny (model P w) A (.call (.ref g) ⟨[.ref f], []⟩) (CR CX outer P w H s Q E) s
section
variable {X : Cx} {CX CXl : CXT} {i k j : Nat} {x : Str} {p pos : Pos} {E : L2.St → XK}
/-- a local name is read: the value that its slot holds, nothing moved -/
theorem name_at {pins : List (Addr × Obj)} {σ : L2.St} {H : Hp} {s : Shared} {v : V} {Qv : Value → Shared → Prop} (hN : X.N[i]? = some x) (hv : Vis X.env.scope x) (hd : (x == ("__debug__" : Str)) = false) (hcd : (x == ("__classdict__" : Str)) = false)
    (I : Inv X pins σ H s) (slot : σ[i]? = some (some v)) (next : ∀ u s', RelV v u → Inv X pins σ H s' → Qv u s') : wpAny (model X.prog X.w) X.A (eval (.Name x p) X.env) Qv X.xe s := by
  have read := (pe_var (pos := p) hN hv hd hcd).run pins s σ H (fun y H' => (y, H') = (v, H)) I ⟨v, slot, rfl⟩
  refine thn read ?_
  rintro u s' ⟨_, _, J, r, e⟩
  cases e
  exact next u s' r J
/-- x(), x the thunk that this def was handed -/
def tAct (X : Cx) (CXl : CXT) (j i : Nat) (E : L2.St → XK) : TE := fun σ H Q => ∃ (f : Addr) (tl : Hp → VK → XK → Prop), σ[i]? = some (some (.ref f)) ∧ H = X.H_0 ∧ Thunk X.prog X.w X.K X.mg X.base CXl j X.outer X.s_0 X.H_0 f tl ∧ tl H Q (E σ)
theorem pe_actT (hr : Room j X.A) (hex : X.ex = []) (hx : ∀ σ, PassesAt CXl X σ (E σ)) (hN : X.N[i]? = some x) (hv : Vis X.env.scope x)
    (hd : (x == ("__debug__" : Str)) = false := by decide) (hcd : (x == ("__classdict__" : Str)) = false := by decide) : PE X (.Call (.Name x p) [] [] pos) (tAct X CXl j i E) := by
  constructor
  rintro pins s σ _ Q I ⟨f, _, slot, rfl, ⟨F, fr, ws, sp, L, hf, hc, hdv, C, nf, rfl⟩, ht⟩
  refine wpAny_Call_Name_kw (name_at hN hv hd hcd I slot ?_)
  rintro u s1 (rfl : u = .ref f) I1
  obtain ⟨_, ⟨od, sl, doc, pm, ctv⟩, ho⟩ := lamO_at I1.hok hf
  have cells := C.later nf (fun y c e z => by rw [hex] at z; cases z) I1
  have ran := L.run X.A X.stack s1 X.H_0 ws Q (E σ) hr I1.env0 hf hc hdv cells ht
  refine PySem.W.callWith_F0 (first := []) ⟨_, od, _, sl, ho⟩ (wpAny_call (codeAny_mono ran ?_))
  intro r s' back
  match r, back with
  | .error e, back => exact hx σ pins X.H_0 s1 e s' I1 back
  | .ok (.ret _), back => exact I1.after back
  | .ok .next, back => exact back.elim
  | .ok .brk, back => exact back.elim
  | .ok .cont, back => exact back.elim
/-- from the running frame: the cells that a thunk captured here -/
theorem thunk_here {pins : List (Addr × Obj)} {σ : L2.St} {H : Hp} {s : Shared} {f : Addr} {F : LF} {fr : List Str} {js : List Nat} {sp : TSp} (I : Inv X pins σ H s) (hfn : X.fn = fun _ => true) (L : LOk X.prog X.w X.K X.mg X.base CXl j f F fr sp) (hf : H f = some (LamO f F)) (hc : H F.c = some (CodeO F.c F.qual)) (hd : DvOk F H)
    (cp : Caps X F.cl fr js) : Thunk X.prog X.w X.K X.mg X.base CXl j X.stack s H f (sp (js.map (slotAt σ))) := by
  refine ⟨F, fr, _, sp, L, hf, hc, hd, cells_of I cp, fun y c e z => ?_, rfl⟩
  have e' := cp.sub y c e
  rcases List.mem_cons.mp (I.stkSub c z) with z | z
  · exact I.cne y c e' z
  · have h1 := I.ok.cab y c (by rw [hfn]) e'
    obtain ⟨_, o, ho, _⟩ := I.ok.funs.mem z
    exact absurd (Nat.lt_of_lt_of_le (Heap.lt_size ho) h1) (Nat.lt_irrefl _)
/-- g(e), e a lambda made in this def -/
def tGive (X : Cx) (CXl : CXT) (j : Nat) (sp : (Hp → VK → XK → Prop) → Hp → VK → XK → Prop) (te : TE) : TE := fun σ H Q => te σ H fun v H1 => ∃ (f : Addr) (F : LF) (fr : List Str) (js : List Nat) (lsp : TSp), v = .ref f ∧ LOk X.prog X.w X.K X.mg X.base CXl j f F fr lsp ∧
  H1 f = some (LamO f F) ∧ H1 F.c = some (CodeO F.c F.qual) ∧ DvOk F H1 ∧ (X.Ok → Caps X F.cl fr js) ∧ sp (lsp (js.map (slotAt σ))) H1 Q fun _ _ _ => False
theorem pe_give {g : Addr} {sp : (Hp → VK → XK → Prop) → Hp → VK → XK → Prop} {e : Expr} {te : TE} (G : FnS X.prog X.w X.K X.mg X.base CX0 CXl k j g sp) (hfn : X.fn = fun _ => true) (hr : Room k X.A) (hg : Gl X x) (hm : X.mg x = some (.ref g)) (hk : PySem.W.keepIn X.K (.ref g) = true) (he : PE X e te)
    (hdb : (x == ("__debug__" : Str)) = false := by decide) (hs : starEach (e :: []) X.env = (false, eval e X.env) :: starEach [] X.env := by rfl) (hpl : (backTo pos (starEach [] X.env)).any (·.1) = false := by rfl) :
    PE X (.Call (.Name x p) [e] [] pos) (tGive X CXl j sp te) := by
  refine ⟨fun pins s σ H Q I h => ?_⟩
  refine wpAny_Call_Name_kw (ld_glob I hg hm ?_ hdb)
  refine PySem.W.callWith_K (h₀ := X.base) I.ok.mod.kin hk (thn ((pa_cons he pa_nil hs).run pos pins s σ H (fun vs H1 => ∃ v, vs = [v] ∧ ∃ (f : Addr) (F : LF) (fr : List Str) (js : List Nat) (lsp : TSp), v = .ref f ∧ LOk X.prog X.w X.K X.mg X.base CXl j f F fr lsp ∧
    H1 f = some (LamO f F) ∧ H1 F.c = some (CodeO F.c F.qual) ∧ DvOk F H1 ∧ (X.Ok → Caps X F.cl fr js) ∧ sp (lsp (js.map (slotAt σ))) H1 Q fun _ _ _ => False) I ?_) fun us s1 hh => ?_) hs hpl
  · show te σ H _
    refine Eq.mp ?_ h
    show te σ H _ = te σ H _
    congr 1
    funext v H1
    refine propext ⟨fun hh => ⟨v, rfl, hh⟩, fun ⟨v', e', hh⟩ => ?_⟩
    cases e'
    exact hh
  · obtain ⟨vs, H1, I1, r, v, ev, f, F, fr, js, lsp, ef, L, hf, hc, hd, cp, q⟩ := hh
    subst ev
    subst ef
    refine ⟨I1.kIn, ?_⟩
    cases r with
    | cons ru rr =>
      cases rr
      obtain rfl := (show _ = Value.ref f from ru)
      refine wpAny_call (codeAny_mono (G X.A X.stack s1 H1 f _ Q (fun _ _ _ => False) hr I1.env0 (thunk_here I1 hfn L hf hc hd (cp I1.ok)) q) fun r s' hq => ?_)
      cases r with
      | error e => exact False.elim hq
      | ok fl =>
        cases fl with
        | ret u => exact I1.after hq
        | next => exact False.elim hq
        | brk => exact False.elim hq
        | cont => exact False.elim hq
end
end Sea

set_option Elab.async false
set_option linter.all false
set_option maxRecDepth 100000
set_option maxHeartbeats 4000000
/-! [g(x) for x in xs], xs a list of lambdas that this def made, g a def that takes a thunk -/
namespace Sea
open PySem PySem.Spec PyProof.Rows L2 LamX NdefX
theorem vals_at {xs : List V} {us : List Value} {i : Nat} {u : Value} (r : Vals xs us) (h : us[i]? = some u) : ∃ x, xs[i]? = some x ∧ RelV x u := by
  cases e : xs[i]? with
  | none =>
    rw [r.none_of e] at h
    cases h
  | some x =>
    obtain ⟨u', h', ru⟩ := r.get e
    rw [h] at h'
    cases h'
    exact ⟨x, rfl, ru⟩
def listSt (it a : Addr) (xs : List V) (i : Nat) (h : Heap) : Prop := h.IsListIter it a i ∧ ∃ items : Array Value, h.IsList a items ∧ Vals xs items.toList
theorem goes_listV {prog : Program} {w : World} {A : Around} {target : Expr} (hh : A.handled = none) (it a : Addr) (hne : a ≠ it) (xs : List V) :
    Goes prog w A target it [it, a] [it] xs.length (fun i v _ => ∃ x, xs[i]? = some x ∧ RelV x v) (listSt it a xs) := by
  refine ⟨fun b hb => by simp at hb; simp [hb], ?_, ?_, ?_, ?_⟩
  · rintro i h h' ⟨⟨o, ho, ro⟩, items, ⟨o2, ho2, ro2⟩, rv⟩ hk
    exact ⟨⟨o, hk it (by simp) o ho, ro⟩, items, ⟨o2, hk a (by simp) o2 ho2, ro2⟩, rv⟩
  · rintro i s Q E hi ⟨hit, items, hl, rv⟩ hQ
    have sz : items.size = xs.length := by
      have := rv.length
      rw [Array.length_toList] at this
      exact this.symm
    refine (Goes.list (prog := prog) (w := w) (target := target) hh it a hne items).goes i s Q E (by rw [sz]; exact hi) ⟨hit, hl⟩ ?_
    intro v h' tk hY hSt hk htk
    exact hQ v h' tk (vals_at rv (by simpa using hY)) ⟨hSt.1, items, hSt.2, rv⟩ hk htk
  · rintro s Q E ⟨hit, items, hl, rv⟩ hQ
    have sz : items.size = xs.length := by
      have := rv.length
      rw [Array.length_toList] at this
      exact this.symm
    refine (Goes.list (prog := prog) (w := w) (target := target) hh it a hne items).stops s Q E ⟨by rw [sz]; exact hit, hl⟩ hQ
  · rintro i s Q E ⟨hit, items, hl, rv⟩ hQ
    exact (Goes.list (prog := prog) (w := w) (target := target) hh it a hne items).self i s Q E ⟨hit, hl⟩ hQ
theorem clo_none {cells : List (Str × Addr)} : ∀ {names : List (Str × NameKind)} {acc : List (Str × Addr)}, (∀ y ∈ names, y.2 ≠ .free) → cloFrom cells names acc = acc
  | [], acc, _ => rfl
  | (n, k) :: r, acc, h => by
    have hk : (k == NameKind.free) = false := by
      have := h (n, k) List.mem_cons_self
      cases k <;> first | rfl | exact absurd rfl this
    unfold cloFrom
    rw [hk]
    exact clo_none fun y hy => h y (List.mem_cons_of_mem _ hy)
/-- a block whose names are its own locals and globals -/
structure PlainBlk (scope : Scope) : Prop where
  kind : scope.kind = .function
  nm : ∀ y ∈ scope.names, y.2 = .local ∨ y.2 = .globalImplicit
  uq : ∀ y ∈ scope.names, y.2 = .local → scope.names.lookup y.1 = some .local
theorem PlainBlk.noFree {scope : Scope} (b : PlainBlk scope) : ∀ y ∈ scope.names, y.2 ≠ .free := fun y hy e => by
  rcases b.nm y hy with h | h <;> rw [h] at e <;> cases e
theorem PlainBlk.noCell {scope : Scope} (b : PlainBlk scope) : ∀ y ∈ scope.names, y.2 ≠ .cell := fun y hy e => by
  rcases b.nm y hy with h | h <;> rw [h] at e <;> cases e
def plainBlkB (scope : Scope) : Bool := decide (scope.kind = .function) && scope.names.all (fun y => decide (y.2 = .local) || decide (y.2 = .globalImplicit)) && scope.names.all fun y => !decide (y.2 = .local) || decide (scope.names.lookup y.1 = some .local)
theorem plainBlk_by {scope : Scope} (h : plainBlkB scope = true) : PlainBlk scope := by
  unfold plainBlkB at h
  simp only [Bool.and_eq_true, Bool.or_eq_true, Bool.not_eq_true', decide_eq_true_eq, decide_eq_false_iff_not, List.all_eq_true] at h
  exact ⟨h.1.1, h.1.2, fun y hy e => (h.2 y hy).elim (fun z => absurd e z) id⟩
section
variable {X : Cx} {pins : List (Addr × Obj)} {σ : L2.St} {H : Hp} {s : Shared}
theorem PlainBlk.kindOf {scope : Scope} {C : Addr} (b : PlainBlk scope) {y : Str} {k : NameKind} (h : (compEnvC scope [] C X.env).kindOf y = some k) : k = .local ∨ k = .globalImplicit := by
  have h' : (relS scope X.env.scope).names.lookup y = some k := h
  obtain ⟨k', e, r⟩ := lookup_relS h'
  have hk := b.nm _ (PySem.mem_of_lookup e)
  rcases r with rfl | ⟨rfl, _⟩
  · exact hk
  · rcases hk with z | z <;> cases z
theorem blk_inv {scope : Scope} {C : Addr} {h3 : Heap} {tk : Nat} (I : Inv X pins σ H s) (hc : X.calm = true) (b : PlainBlk scope) (nC : s.heap.objs.size ≤ C) (kp : ∀ b o, s.heap.get? b = some o → h3.get? b = some o) (hns : h3.Ns C fun _ => none) :
    Inv (X.blk s H scope (compEnvC scope [] C X.env) []) [] (List.replicate X.N.length none) H { s with heap := h3, toks := tk } := by
  have nocell : ∀ x c, ([] : List (Str × Addr)).lookup x = some c → False := fun x c e => by simp at e
  have okB : (X.blk s H scope (compEnvC scope [] C X.env) []).Ok := by
    refine ⟨I.ok.mod, b.kind, I.ok.glob, I.ok.blt, nC, fun x y c e _ => (nocell x c e).elim, fun y hy => ?_, fun y c _ e => (nocell y c e).elim, I.ok.hd, I.ok.frames, .inl rfl, fun q hq => absurd hq (by simp), I.bs, Nat.le_trans I.ok.bsz I.sz, fun _ _ _ => by simp, fun q hq => absurd hq (by simp), I.stack, I.stkFree⟩
    exfalso
    rcases hy with hy | hy
    · rcases b.kindOf (X := X) hy with z | z <;> cases z
    · rcases b.kindOf (X := X) hy with z | z <;> cases z
  refine ⟨okB, rfl, I.bare, Un.kept kp, ⟨_, hns, fun i x v _ e _ => ?_⟩, fun x c e => (nocell x c e).elim, I.hok.fresh nC, fun x c e => (nocell x c e).elim, fun p hp => absurd (show p ∈ ([] : List (Addr × Obj)) ++ [] from hp) (by simp), I.hok.kept kp, by simp⟩
  exfalso
  have : (List.replicate X.N.length (none : Option V))[i]? = some (some v) := e
  rw [List.getElem?_replicate] at this
  split at this <;> cases this
end
/-- the reading of the rest r of the list, acc made so far; the list of lambdas stands at a throughout -/
def gAll (X : Cx) (CXl : CXT) (j : Nat) (sp : (Hp → VK → XK → Prop) → Hp → VK → XK → Prop) (σ : L2.St) (a : Addr) (xs : List V) (Q : VK) : List V → List V → Hp → Prop
  | [], acc, H => SqL X.K H a xs ∧ ∀ D, H D = none → Q (.ref D) (upd H D (.lst acc))
  | v :: r, acc, H => SqL X.K H a xs ∧ ∃ (f : Addr) (F : LF) (fr : List Str) (js : List Nat) (lsp : TSp), v = .ref f ∧ LOk X.prog X.w X.K X.mg X.base CXl j f F fr lsp ∧
    H f = some (LamO f F) ∧ H F.c = some (CodeO F.c F.qual) ∧ DvOk F H ∧ (X.Ok → Caps X F.cl fr js) ∧ sp (lsp (js.map (slotAt σ))) H (fun y H2 => gAll X CXl j sp σ a xs Q r (acc ++ [y]) H2) fun _ _ _ => False
theorem gAll_list {X : Cx} {CXl : CXT} {j : Nat} {sp : (Hp → VK → XK → Prop) → Hp → VK → XK → Prop} {σ : L2.St} {a : Addr} {xs : List V} {Q : VK} {r acc : List V} {H : Hp} (h : gAll X CXl j sp σ a xs Q r acc H) : SqL X.K H a xs := by
  cases r with
  | nil => exact h.1
  | cons v r => exact h.1
def tLcT (X : Cx) (CXl : CXT) (j : Nat) (sp : (Hp → VK → XK → Prop) → Hp → VK → XK → Prop) (te : TE) : TE := fun σ H Q => te σ H fun v H1 => ∃ (a : Addr) (xs : List V), v = .ref a ∧ xs.length ≤ 1000 ∧ gAll X CXl j sp σ a xs Q xs [] H1
section
variable {X : Cx} {CXl : CXT} {i k j : Nat} {x g : Str} {gA : Addr} {sp : (Hp → VK → XK → Prop) → Hp → VK → XK → Prop} {scope : Scope} {iter : Expr} {te : TE} {px px2 pg pp pos : Pos}
theorem pe_lcT (G : FnS X.prog X.w X.K X.mg X.base CX0 CXl k j gA sp) (hc : X.calm = true) (hfn : X.fn = fun _ => true) (hN : X.N.Nodup) (hi : X.N[i]? = some x) (b : PlainBlk scope) (hx : scope.names.lookup x = some .local) (hg : scope.names.lookup g = some .globalImplicit)
    (hm : X.mg g = some (.ref gA)) (hk : PySem.W.keepIn X.K (.ref gA) = true) (hr : Room k X.A) (he : PE X iter te) (hdb : (g == ("__debug__" : Str)) = false := by decide) (hdx : (x == ("__debug__" : Str)) = false := by decide)
    (hs : ∀ y, foldedSetIterable iter X.env y = pure y := by intro _; rfl) :
    PE X (.ListComp (.Call (.Name g pg) [.Name x px] [] pp) [⟨.Name x px2, iter, [], 0⟩] scope pos) (tLcT X CXl j sp te) := by
  refine ⟨fun pins s σ H Q I h => ?_⟩
  have hclos : closureFor scope X.env = pure [] := by
    rw [closure_ok (fun y hy e => absurd e (b.noFree y hy)), clo_none b.noFree]
  refine ListComp_goes hclos b.noCell b.kind b.uq ?_ hs
  refine thn (he.run pins s σ H _ I h) fun u s1 hh => ?_
  obtain ⟨v, H1, I1, rv, a, xs, ev, hlen, hga⟩ := hh
  subst ev
  obtain rfl : u = Value.ref a := rv
  obtain ⟨its, ri, ⟨o, n, ho, hcl, _, hd⟩, _⟩ := I1.list (gAll_list hga)
  refine wpAny_pyIter_list (items := its.toArray) ⟨o, ho, hcl, n, hd⟩ ?_
  have hit : a ≠ s1.heap.objs.size := Nat.ne_of_lt (Heap.lt_size ho)
  generalize hsi : s1.heap.objs.size = it at hit ⊢
  refine ⟨it, [it, a], [it], xs.length, _, _, rfl, goes_listV (I1.ok.hd hc) it a hit xs, Nat.le_trans hlen (by decide), ?_, ?_, ?_⟩
  · refine ⟨⟨({ cls := .type "list_iterator", data := .fields #[.ref a, .int 0 0] } : Obj), ?_, rfl, rfl⟩, its.toArray, ⟨o, Heap.get?_push_of_some _ ho, hcl, n, hd⟩, by simpa using ri⟩
    rw [← hsi]
    exact Heap.get?_push_size _ rfl
  · intro q hq
    show q < (s1.heap.push _).objs.size
    rw [Heap.size_push, hsi]
    rcases List.mem_cons.mp hq with rfl | hq
    · exact Nat.lt_succ_self _
    · rw [List.mem_singleton.mp hq, ← hsi]
      exact Nat.lt_succ_of_lt (Heap.lt_size ho)
  · intro D C s3 hB
    obtain ⟨⟨h3, tk3, rfl⟩, old, nD, nC, hDC, hnm⟩ := hB
    have nD' : it + 1 ≤ D := by
      have z : (s1.heap.push ({ cls := .type "list_iterator", data := .fields #[.ref a, .int 0 0] } : Obj)).objs.size ≤ D := nD
      rw [Heap.size_push, hsi] at z
      exact z
    have nC' : it + 1 ≤ C := by
      have z : (s1.heap.push ({ cls := .type "list_iterator", data := .fields #[.ref a, .int 0 0] } : Obj)).objs.size ≤ C := nC
      rw [Heap.size_push, hsi] at z
      exact z
    have sD : s1.heap.objs.size ≤ D := by rw [hsi]; exact Nat.le_of_succ_le nD'
    have sC : s1.heap.objs.size ≤ C := by rw [hsi]; exact Nat.le_of_succ_le nC'
    have sI : s1.heap.objs.size ≤ it := Nat.le_of_eq hsi
    have hDI : D ≠ it := Nat.ne_of_gt nD'
    have hCI : C ≠ it := Nat.ne_of_gt nC'
    have kp : ∀ q u, s1.heap.get? q = some u → h3.get? q = some u := fun q u e => old q u (Heap.get?_push_of_some _ e)
    have fsN : ∀ {q : Addr}, s1.heap.objs.size ≤ q → q ∉ frs X.stack := fun {q} hq z => by
      rcases List.mem_cons.mp (I1.stkSub q z) with z | z
      · exact absurd (Nat.lt_of_lt_of_le I1.lt (z ▸ hq)) (Nat.lt_irrefl _)
      · exact I1.nofs hq z
    generalize hXb : X.blk s1 H1 scope (compEnvC scope [] C X.env) [] = Xb
    have I3 : Inv Xb [] (List.replicate X.N.length none) H1 { s1 with heap := h3, toks := tk3 } := by
      rw [← hXb]
      exact blk_inv I1 hc b sC kp hnm
    have nfree : H1 D = none ∧ H1 it = none := ⟨I1.hok.fresh sD, I1.hok.fresh sI⟩
    have eN : Xb.N = X.N := by rw [← hXb]
    have eL : Xb.env.locals = C := by rw [← hXb]; rfl
    have eS : Xb.s_0 = s1 := by rw [← hXb]
    have eCl : Xb.env.cells = [] := by rw [← hXb]; rfl
    have eFs : Xb.fs = frs X.stack := by rw [← hXb]
    have ePn : Xb.pn = [] := by rw [← hXb]
    refine ⟨fun m ys s4 => ∃ (H4 : Hp) (acc : List V), Inv Xb [] (List.replicate X.N.length none) H4 s4 ∧ Vals acc ys ∧ acc.length = m ∧ H4 D = none ∧ H4 it = none ∧ gAll X CXl j sp σ a xs Q (xs.drop m) acc H4,
      ⟨H1, [], I3, .nil, rfl, nfree.1, nfree.2, hga⟩, ?_, ?_, ?_⟩
    · -- D and the iterator may change
      rintro m ys s4 h' tk ⟨H4, acc, I4, ra, la, fD, fI, q4⟩ hk' _
      refine ⟨H4, acc, ?_, ra, la, fD, fI, q4⟩
      have ne : ∀ {c : Addr} {u : HO}, H4 c = some u → c ∉ [D, it] := fun {c u} e z => by
        rcases List.mem_cons.mp z with z | z
        · rw [z, fD] at e; cases e
        · rw [List.mem_singleton.mp z, fI] at e; cases e
      have nC4 : C ∉ [D, it] := fun z => by
        rcases List.mem_cons.mp z with z | z
        · exact hDC z.symm
        · exact hCI (List.mem_singleton.mp z)
      refine I4.step (g' := s4.gens) (d' := s4.drawn) (t' := tk) (ch := [D, it]) (fun q hq => ⟨.inr ?_, ?_, fun y c e => ?_, fun p hp => ?_⟩) (fun q o _ _ hq e _ => hk' q o hq e) (fun q o _ _ hq e _ => ⟨o.slots, hk' q o hq e⟩) (fun _ _ _ _ z => z) (fun q o hq e => ⟨o, hk' q o hq e⟩)
        (fun _ _ e => e) (fun _ _ _ e => e) (fun q ps e => ⟨#[], by rw [e]; simp⟩) (fun mm hm4 => ?_) (fun q u e => (I4.hok q u e).stay (fun c v hc2 z => hk' c v (by
          rcases hc2 with hc2 | hc2
          · rw [hc2]
            exact ne e
          · exact ne hc2) z) (fun _ z => z) fun _ _ z => z) I4.bare
      · rw [eS]
        rcases List.mem_cons.mp hq with z | z
        · rw [z]; exact sD
        · rw [List.mem_singleton.mp z]; exact sI
      · rw [eL]
        exact fun z => nC4 (z ▸ hq)
      · rw [eCl] at e
        simp at e
      · rw [ePn] at hp
        simp at hp
      · obtain ⟨o5, es, ep, e5, r5⟩ := hm4
        rw [eL] at e5 ⊢
        exact ⟨o5, es, ep, hk' C o5 nC4 e5, r5⟩
    · -- one turn
      rintro m u ys s4 hm4 ⟨xv, hxv, rxv⟩ hSt ⟨H4, acc, I4, ra, la, fD, fI, q4⟩ hPL
      have hdrop : xs.drop m = xv :: xs.drop (m + 1) := by
        obtain ⟨hlt, e⟩ := List.getElem?_eq_some_iff.mp hxv
        rw [List.drop_eq_getElem_cons hlt, e]
      rw [hdrop] at q4
      obtain ⟨_, f, F, fr, js, lsp, ef, L, hf, hco, hdv, cp, q5⟩ := q4
      subst ef
      obtain rfl : u = Value.ref f := rxv
      obtain ⟨⟨oi, hoi, hoc, hod⟩, _⟩ := hSt
      obtain ⟨nD4, hoD⟩ := hPL
      have Ip : Inv Xb [(it, oi), (D, ({ cls := .type "list", data := .seq ys.toArray nD4 } : Obj))] (List.replicate X.N.length none) H4 s4 := by
        refine I4.pins_of fun p hp => ?_
        rcases List.mem_cons.mp hp with rfl | hp
        · refine ⟨hoi, fI, by rw [eL]; exact Ne.symm hCI, by rw [eFs]; exact fsN sI, fun v z => ?_⟩
          rw [hod] at z
          cases z
        · rw [List.mem_singleton.mp hp]
          exact ⟨hoD, fD, by rw [eL]; exact hDC, by rw [eFs]; exact fsN sD, fun v z => by cases z⟩
      have hlocB : Xb.env.scope.names.lookup x = some .local := by rw [← hXb]; exact lookup_relabel_local hx
      have hEnv : compEnvC scope [] C X.env = Xb.env := by rw [← hXb]
      have hprog : Xb.prog = X.prog := by rw [← hXb]
      have hw : Xb.w = X.w := by rw [← hXb]
      have hAA : Xb.A = X.A := by rw [← hXb]
      have hst : Xb.stack = X.stack := by rw [← hXb]
      have hmgB : Xb.mg = X.mg := by rw [← hXb]
      have hKB : Xb.K = X.K := by rw [← hXb]
      have hbB : Xb.base = X.base := by rw [← hXb]
      have hglB : Gl Xb g := by
        have key := lookup_relS_keep (sc := X.env.scope) (by intro z; cases z) hg
        rw [← hXb]
        exact key
      have eX : Xb.ex = [] := by rw [← hXb]
      have eH : Xb.H_0 = H1 := by rw [← hXb]
      have cpX := cp I.ok
      have C0 : CellsAt F.cl fr (js.map (slotAt σ)) Xb.s_0.heap Xb.H_0 := by
        rw [eS, eH]
        exact cells_of I1 cpX
      have nf : ∀ y c, F.cl.lookup y = some c → c ∉ frs X.stack := fun y c e z => by
        have e' := cpX.sub y c e
        rcases List.mem_cons.mp (I1.stkSub c z) with z | z
        · exact I1.cne y c e' z
        · have h1 := I1.ok.cab y c (by rw [hfn]) e'
          obtain ⟨_, ob, hob, _⟩ := I1.ok.funs.mem z
          exact absurd (Nat.lt_of_lt_of_le (Heap.lt_size hob) h1) (Nat.lt_irrefl _)
      rw [hEnv, ← hAA, ← hprog, ← hw]
      refine wpAny_assign_Name (store_ok Ip (by rw [eN]; exact hN) (by rw [eN]; exact hi) (.inl hlocB) (v := V.ref f) rfl (fun s5 I5 => ?_) (.inr hlocB))
      refine wpAny_tests_nil ?_
      rw [if_pos rfl]
      have hsl : (List.replicate X.N.length (none : Option V)).set i (some (.ref f)) = (List.replicate X.N.length (none : Option V)).set i (some (.ref f)) := rfl
      have hiN : i < X.N.length := (List.getElem?_eq_some_iff.mp hi).1
      have hget : ((List.replicate X.N.length (none : Option V)).set i (some (.ref f)))[i]? = some (some (.ref f)) := List.getElem?_set_self (by simpa using hiN)
      refine wpAny_Call_Name_kw (ld_glob (X := Xb) I5 hglB (by rw [hmgB]; exact hm) ?_ hdb)
      have hkB : PySem.W.keepIn Xb.K (.ref gA) = true := by rw [hKB]; exact hk
      obtain ⟨mm, hnsB, hlk⟩ := I5.loc
      obtain ⟨uu, ru, lk⟩ := hlk i x (.ref f) (by rw [eN]; exact hi) hget (.inl hlocB)
      obtain rfl : uu = Value.ref f := ru
      have hmm : mm x = some (.ref f) := by
        rcases lk with ⟨_, z⟩ | ⟨z, _⟩
        · exact z
        · have z' : Xb.env.scope.names.lookup x = some .cell ∨ Xb.env.scope.names.lookup x = some .free := z
          rw [hlocB] at z'
          rcases z' with z' | z' <;> cases z'
      refine PySem.W.callWith_K (h₀ := Xb.base) I5.ok.mod.kin hkB (Calls.spliced_cons (wpAny_Name (wpAny_loadName_local I5.ok.kind hlocB hnsB hmm (Calls.spliced_nil ⟨I5.kIn, ?_⟩)) hdx)) rfl rfl
      show wpAny _ _ (call (.ref gA) [.ref f]) _ _ _
      have C5 : CellsAt F.cl fr (js.map (slotAt σ)) s5.heap H4 := C0.later (fun y c e => by rw [eFs]; exact nf y c e) (fun y c e z => by rw [eX] at z; cases z) I5
      have TH : Thunk X.prog X.w X.K X.mg X.base CXl j X.stack s5 H4 f (lsp (js.map (slotAt σ))) := ⟨F, fr, _, lsp, L, hf, hco, hdv, C5, nf, rfl⟩
      have e5 := I5.env0
      rw [hprog, hw, hKB, hmgB, hbB, hAA, hst] at e5
      refine wpAny_call (codeAny_mono (hprog ▸ hw ▸ hAA ▸ G X.A X.stack s5 H4 f _ _ (fun _ _ _ => False) hr e5 TH q5) fun r s6 hq => ?_)
      cases r with
      | error e => exact False.elim hq
      | ok fl =>
        cases fl with
        | next => exact False.elim hq
        | brk => exact False.elim hq
        | cont => exact False.elim hq
        | ret z =>
          have hq' : CE Xb.stack Xb.prog Xb.w H4 s5 (fun y H2 => gAll X CXl j sp σ a xs Q (xs.drop (m + 1)) (acc ++ [y]) H2) z s6 := by rw [hst]; exact hq
          obtain ⟨y, H6, I6, ry, q6⟩ := I5.after hq'
          have p1 := I6.pin (it, oi) (List.mem_append_right _ List.mem_cons_self)
          have p2 := I6.pin (D, ({ cls := .type "list", data := .seq ys.toArray nD4 } : Obj)) (List.mem_append_right _ (List.mem_cons_of_mem _ List.mem_cons_self))
          obtain ⟨its6, ri6, ⟨o6, n6, ho6, hc6, _, hd6⟩, _⟩ := I6.list (by rw [hKB]; exact gAll_list q6)
          refine ⟨⟨H6, acc ++ [y], ?_, ra.append (.cons ry .nil), by rw [List.length_append, la]; rfl, p2.2.1, p1.2.1, q6⟩, ⟨⟨oi, p1.1, hoc, hod⟩, its6.toArray, ⟨o6, ho6, hc6, n6, hd6⟩, by simpa using ri6⟩, ⟨nD4, p2.1⟩⟩
          refine (I6.pins_of (pins' := []) (fun p hp => absurd hp (by simp))).weak (by simp) fun ii v e => ?_
          rw [List.getElem?_replicate] at e
          split at e <;> cases e
    · -- the end
      rintro ys s4 ⟨H4, acc, I4, ra, la, fD, fI, q4⟩ ⟨nD4, hoD⟩
      obtain ⟨mC, hnC, _⟩ := I4.loc
      rw [eL] at hnC
      refine ⟨mC, hnC, fun h5 sb => ?_⟩
      rw [List.drop_length] at q4
      have hgt : ∀ q u, q ≠ C → s4.heap.get? q = some u → h5.get? q = some u := fun q u hq e => (sb.2 q hq).trans e
      have fC : H4 C = none := by have z := I4.free; rw [eL] at z; exact z
      have ub := I4.base
      have uo := I4.os
      have hk4 := I4.hok
      rw [eFs, eS] at ub
      have eH : Xb.H_0 = H1 := by rw [← hXb]
      have eX : Xb.ex = [] := by rw [← hXb]
      rw [eH, eX] at ub
      rw [eS] at uo
      have hprog : Xb.prog = X.prog := by rw [← hXb]
      have hw : Xb.w = X.w := by rw [← hXb]
      rw [hprog, hw] at hk4
      have neS : ∀ {q : Addr} {u : Obj}, s1.heap.get? q = some u → q ≠ C ∧ q ≠ D := fun {q u} e => ⟨Nat.ne_of_lt (Nat.lt_of_lt_of_le (Heap.lt_size e) sC), Nat.ne_of_lt (Nat.lt_of_lt_of_le (Heap.lt_size e) sD)⟩
      have lenA : acc.length ≤ 1000 := by rw [la]; exact hlen
      have U : Un (frs X.stack) [] H1 (upd H4 D (.lst acc)) s1.heap h5 := {
        keep := fun q u e nq hf hx2 => hgt q u (neS e).1 (ub.keep q u e nq hf hx2)
        slot := fun q u e nq hf hx2 => by
          obtain ⟨sl, z⟩ := ub.slot q u e nq hf hx2
          exact ⟨sl, hgt q _ (neS e).1 z⟩
        free := fun q u e nq hx2 => by rw [upd_ne (neS e).2]; exact ub.free q u e nq hx2
        there := fun q u e hx2 => by
          obtain ⟨u', z⟩ := ub.there q u e hx2
          exact ⟨u', hgt q _ (neS e).1 z⟩
        tups := fun q ys2 e => by
          have z := ub.tups q ys2 e
          rw [upd_ne (ne_of_none z fD)]
          exact z
        frzs := fun q o2 u e => by
          have z := ub.frzs q o2 u e
          rw [upd_ne (ne_of_none z fD)]
          exact z
        tbls := fun q ps e => by
          obtain ⟨more, z⟩ := ub.tbls q ps e
          exact ⟨more, by rw [upd_ne (ne_of_none z fD)]; exact z⟩ }
      have hok5 : HOk X.prog X.w (upd H4 D (.lst acc)) h5 := fun q u e => by
        by_cases hq : q = D
        · subst hq
          rw [upd_same] at e
          cases e
          exact ⟨Nat.le_trans lenA (by decide), ys, nD4, ra, hgt q _ hDC hoD⟩
        · rw [upd_ne hq] at e
          refine (hk4 q u e).stay (fun c v hc2 z => hgt c v (fun zc => ?_) z) (fun c z => by rw [upd_ne (ne_of_none z fD)]; exact z) fun c zs z => by rw [upd_ne (ne_of_none z fD)]; exact z
          rcases hc2 with hc2 | hc2
          · rw [← hc2, zc, fC] at e
            cases e
          · rw [zc, fC] at hc2
            cases hc2
      have J : Inv X pins σ (upd H4 D (.lst acc)) { s4 with heap := h5 } := I1.call' (ch := []) uo U hok5 I4.bare fun q hq => absurd hq (by simp)
      exact ⟨.ref D, _, J, rfl, q4.2 D fD⟩
end
end Sea

set_option Elab.async false
set_option linter.all false
set_option maxRecDepth 100000
set_option maxHeartbeats 4000000
/-! an own exception class called with keywords alone: C(k = v, ..) -/
namespace Sea
open PySem PySem.Spec PyProof.Rows PySem.HandSPX
/-- in h the class C is one of errors over ValueError: what it inherits, by the built-in names -/
structure ErrAt (h : Heap) (C : Addr) : Prop where
  ex : ∃ nm q N bs bm sn sub ab col dd k0 k1 k2 k3 k5, h.get? C = some (excClassObj nm q C N bs bm true sn sub ab col dd k0 k1 k2 k3 k5 "ValueError.__new__") ∧ refsVE bm = true
theorem ErrAt.over {bm : List Value} (C : Addr) (h : refsVE bm = true) (X : String) : (Value.ref C :: bm).contains (.type X) = veTail.contains (.type X) :=
  (List.contains_cons).trans ((Bool.false_or _).trans (refsVE_contains X bm h))
/-- the heap in which the error stands, its arguments empty -/
abbrev born (C : Addr) (h : Heap) : Heap := (h.push (W.kdv_tup [])).push (excO C h.objs.size)
theorem born_old {C : Addr} {h : Heap} : ∀ b o, h.get? b = some o → (born C h).get? b = some o := fun _ _ z => Heap.get?_push_of_some _ (Heap.get?_push_of_some _ z)
theorem born_new {C : Addr} {h : Heap} : (born C h).get? (h.objs.size + 1) = some (excO C h.objs.size) := by
  rw [← Heap.size_push h (o := W.kdv_tup [])]
  exact Heap.get?_push_size _ rfl
section
variable {prog : Program} {w : World} {A : Around} {R : Result → Shared → Prop} {s : Shared} {C : Addr} {kw : List (Str × Value)}
/-- ValueError.__new__(C, k = v, ..) -/
theorem err_born (T : ErrAt s.heap C) (q : R (.ok (.ret (.ref (s.heap.objs.size + 1)))) { s with heap := born C s.heap }) : codeAny (model prog w) A (.call (.builtin "ValueError.__new__") ⟨[.ref C], kw⟩) R s := by
  obtain ⟨nm, qn, N, bs, bm, sn, sub, ab, col, dd, k0, k1, k2, k3, k5, at_, ve⟩ := T.ex
  have V := F.excBase_ValueError
  have yes : (Value.ref C :: bm).contains (.type "ValueError") = true := ErrAt.over C ve _
  have no1 : (Value.ref C :: bm).contains (.type "AttributeError") = false := ErrAt.over C ve _
  have no2 : (Value.ref C :: bm).contains (.type "NameError") = false := ErrAt.over C ve _
  have tail := V.ends
  have star := V.noStar
  obtain ⟨hp, g, d, t, os⟩ := s
  apply codeAny_call_builtin_code (Code.quiet_builtin _ V.quiet)
  simp only [checkBuiltinCall, V.newKind, V.newSplit, V.newRow]
  repeat (first
    | (refine wpAny_isSubtype_exc at_ ?_; rw [yes])
    | refine wpAny_loadPart_at at_ ?_
    | refine wpAny_madeBy_exc at_ ?_
    | refine wpAny_staticBase_exc at_ ?_
    | simp only [bne_self_eq_false, Bool.false_eq_true, if_false]
    | wp_step)
  apply codeAny_builtinAt V.entry
  unfold Builtin.«BaseException.__new__»
  refine PySem.wpAt_bind ?_
  refine PySem.wpAt_bind (m := stack) (PySem.wpAt_stack ?_)
  intro p below
  refine PySem.wpAt_of_wpAny ?_
  wp_walk
  refine PySem.wpAt_of_wpAny ?_
  rw [V.owner]
  repeat (first
    | (with_reducible refine wpAny_isSubtype_exc at_ ?_; simp only [yes, no1, no2])
    | with_reducible refine wpAny_loadPart_at at_ ?_
    | with_reducible refine wpAny_madeHere_exc V.canon at_ ?_
    | wp_step)
  exact (Heap.size_push hp (o := W.kdv_tup [])).symm ▸ q
/-- C(k = v, ..): the error is born, then its class's def __init__ has it -/
theorem err_call {fI : Addr} (T : ErrAt s.heap C) (ini : W.Looks (model prog w) s.heap (typeLookup (.ref C) "__init__") (some (.ref fI))) (bnd : ∀ self, W.Looks (model prog w) s.heap (bindSpecial (.ref fI) self) (.ref fI, [self]))
    (q : codeAny (model prog w) (A.under (.builtin "type.__call__" ⟨[.ref C], kw⟩)) (.call (.ref fI) ⟨[.ref (s.heap.objs.size + 1)], kw⟩) (W.InitBack (s.heap.objs.size + 1) R) { s with heap := born C s.heap }) :
    codeAny (model prog w) A (.call (.ref C) ⟨[], kw⟩) R s := by
  have ⟨nm, qn, N, bs, bm, sn, sub, ab, col, dd, k0, k1, k2, k3, k5, at_, ve⟩ := T.ex
  have isC : (Value.ref C :: bm).contains (.ref C) = true := by simp
  have isTy : s.TypeIs (.ref C) "type" := ⟨_, at_, rfl⟩
  have dunder := tc_lookup
  have bound := tc_bind (.ref C)
  have tsub := tc_sub
  have ini' := ini.keeps (born_old (C := C))
  have bnd' := (bnd (.ref (s.heap.objs.size + 1))).keeps (born_old (C := C))
  have at2 := born_old (C := C) _ _ at_
  have new2 := born_new (C := C) (h := s.heap)
  obtain ⟨hp, g, d, t, os⟩ := s
  dsimp only at at_ at2 new2 ini' bnd' q
  have quiet := Code.quiet_builtin (id := "type.__call__") ⟨[.ref C], kw⟩ (by decide +kernel)
  apply codeAny_of_tree
  show wpAny _ _ (callAny (.ref C) _) _ _ _
  repeat (any_goals (first | assumption | with_reducible refine wpAny_loadPart_at at_ ?_ | wp_step))
  refine ⟨rfl, codeAny_call_builtin_at quiet entry_typeCall ?_⟩
  simp only [checkBuiltinCall, tc_kind, tc_split]
  unfold Builtin.«type.__call__»
  repeat (any_goals (first
    | assumption
    | with_reducible refine wpAny_loadPart_at at_ ?_
    | with_reducible refine wpAny_onRaise ?_
    | with_reducible refine wpAny_map ?_
    | with_reducible refine wpAny_madeBy_exc at_ ?_
    | wp_step))
  refine err_born (s := ⟨hp, g, d, t, os⟩) T ?_
  show wpAny _ _ _ _ _ _
  have i1 : (born C hp).get? (hp.objs.size + 1) = some (excO C hp.objs.size) := new2
  unfold isInstance
  repeat (first
    | with_reducible refine wpAny_loadPart_at new2 ?_
    | (with_reducible refine wpAny_isSubtype_exc at2 ?_; rw [isC])
    | wp_step)
  show wpAny _ _ (typeLookup (.ref C) "__init__") _ _ ⟨born C hp, g, d, t, os⟩
  refine ini'.at ?_
  refine wpAny_holding (wpAny_bind (bnd'.at (wpAny_bind (wpAny_call ?_))))
  refine codeAny_mono q fun r s2 z => ?_
  match r, z with
  | .error _, z => exact z
  | .ok (.ret _), ⟨e, z⟩ =>
    subst e
    exact wpAny_pure (wpAny_pure z)
  | .ok .next, z => exact z.elim
  | .ok .brk, z => exact z.elim
  | .ok .cont, z => exact z.elim
end
end Sea

set_option Elab.async false
set_option linter.all false
set_option maxRecDepth 100000
set_option maxHeartbeats 4000000
/-! raise C(k = v, ..), C an own exception class over another own one whose __init__ says P.__init__(self, text) and stores its keywords -/
namespace Sea
open PySem PySem.Spec PyProof.Rows L2 LamX NdefX ClX
/-- C(k = v, ..) -/
def tMkK (C : Addr) (n : Nat) (sp : Sp) (gV : List V → List V → List V) (tk : TA) : L2.St → Hp → XK → Prop := fun σ H Q => tk σ H fun zs H1 => zs.length = n ∧ ∀ a, H1 a = none → sp (gV [.ref a] zs) (upd H1 a (exo a C none))
  (fun v H2 => v = .non ∧ ∃ (d : Addr) (fs : List (Str × V)), H2 a = some (exo a C (some d)) ∧ H2 d = some (exd d fs) ∧ H1 d = none ∧ Q (.ref C) (some d) (upd (del H2 a) d (.xd fs))) (fun _ _ _ => False)
section
variable {X : Cx} {e : Expr} {es : List Expr} {ta : TA} {p p1 p2 pos : Pos} {kws : List Keyword} {tk : TA} {ks : List Str} {g : List Value → List Value → List Value} {gV : List V → List V → List V}
theorem pe_pinit {x : Str} {B : Addr} {mc : Value} {pl : Sem Bool} (hg : Gl X x) (hm : X.mg x = some (.ref B)) (rd : PySem.W.readsIn X.K B mc = true) (ga : PySem.W.specialIn X.K (.ref B) "__getattribute__" = some (some (.builtin "type.__getattribute__")))
    (hat : PySem.W.findCls X.K (.ref B) mc "__init__" = some (.val (.builtin "ValueError.__init__"))) (ha : PA X (e :: es) ta) (hdb : (x == ("__debug__" : Str)) = false := by decide)
    (hc : eval (.Call (.Attribute (.Name x p1) "__init__" p2) (e :: es) [] pos) X.env = (do
      let ov ← eval (.Name x p1) X.env
      standAt p2.atName
      let (f, first) ← holding [ov] (getMethod ov "__init__" pl)
      callWith pos f first (backTo pos (starEach (e :: es) X.env)) (backToKw pos (keywordEach [] X.env))) := by rfl)
    (he : starEach (e :: es) X.env = (false, eval e X.env) :: starEach es X.env := by rfl) (hpl : (backTo pos (starEach es X.env)).any (·.1) = false := by rfl) :
    PE X (.Call (.Attribute (.Name x p1) "__init__" p2) (e :: es) [] pos) (tVeI X.K ta) := by
  constructor
  intro pins s σ H Q I h
  apply PySem.W.methodCall_KW (ld_glob I hg hm (PySem.W.method_cls I.kIn ga (PySem.W.cls_value I.kIn rd hat (by decide +kernel) ?_)) hdb) hc
  have args := ha.run pos pins _ σ H _ (I.tok (s.toks + 1)) h
  show wpAny _ _ (callWith pos (Value.builtin "ValueError.__init__") [] (backTo pos (starEach (e :: es) X.env)) []) _ _ _
  refine PyProof.Rows.callWith_method1 (thn args ?_) he hpl
  rintro us s1 ⟨_, H1, J, rel, a, C, ws, rfl, few, T, ea, q⟩
  match us, rel with
  | u :: ur, .cons ra rr =>
    rw [show u = .ref a from ra]
    have short : ur.length ≤ sizeLine := by
      rw [sizeLine_eq, ← Paired.length rr]
      omega
    exact oinit_ok T J ea short fun s' L => ⟨.non, H1, L, rfl, q⟩
theorem pmk_kw {CX : CXT} {x : Str} {C fI : Addr} {k : Nat} {fd : FuncData} {ps : List Str} {sp : Sp} (T : OexC X.K C) (iC : PySem.W.findIn X.K (.ref C) "__init__" = some (some (.ref fI))) (tI : PySem.W.typeIn X.K (.ref fI) = some (.type "function"))
    (F1 : FnOk X.prog X.w X.K X.mg X.base CX k fI fd ps sp) (hr : Room (k + 1) X.A) (hb : KBn X.K fd ps 1 ks g gV) (hx : Passes CX X (fun _ _ _ => False)) (hg : Gl X x) (hm : X.mg x = some (.ref C)) (hkw : PK X kws tk)
    (hall : (backToKw pos (keywordEach kws X.env)).all (·.1.isSome) = true := by rfl) (hks : (backToKw pos (keywordEach kws X.env)).filterMap (·.1) = ks := by rfl) (hdb : (x == ("__debug__" : Str)) = false := by decide)
    (hpl : ((backTo pos (starEach [] X.env)).any (·.1) || (backToKw pos (keywordEach kws X.env)).any (·.1.isNone)) = false := by rfl) :
    PMk X (.Call (.Name x p) [] kws pos) (tMkK C ks.length sp gV tk) := by
  intro pins s σ H Q I h
  apply wpAny_Call_Name_kw
  apply ld_glob I hg hm ?_ hdb
  apply PySem.W.callWith_KW0 (h₀ := X.base) I.ok.mod.kin T.kC hall ?_ hpl
  refine thn (hkw.run pos pins s σ H _ I h) ?_
  rintro ws ⟨hp, g1, dr, tk', os⟩ ⟨zs, H1, J, rel, many, q⟩
  have err : ErrAt hp C := by
    obtain ⟨nm, qn, N, bs, bm, sn, sub, ab, col, dd, k0, k1, k2, k3, k5, at_, ve⟩ := T.cls
    exact ⟨nm, qn, N, bs, bm, sn, sub, ab, col, dd, k0, k1, k2, k3, k5, J.kIn _ _ at_, ve⟩
  have above : hp.objs.size ≤ hp.objs.size + 1 := Nat.le_succ _
  -- the invariant once the error stands in the heap
  have L : Inv X pins σ (upd H1 (hp.objs.size + 1) (exo (hp.objs.size + 1) C none)) ⟨born C hp, g1, dr, tk', os⟩ := J.laid (t' := tk') born_old above (exo_ok born_new)
  have ini := F1.run _ X.stack _ _ ⟨[.ref (hp.objs.size + 1)], ks.zip ws⟩ (g [.ref (hp.objs.size + 1)] ws) _ _ (fun _ _ _ => False) (hr.make C [] (ks.zip ws)) (L.env0.make C [] (ks.zip ws))
    (hb.to _ [.ref (hp.objs.size + 1)] ws L.kIn rfl (rel.length.symm.trans many)) (hb.rel (us := [.ref (hp.objs.size + 1)]) (vs := [.ref (hp.objs.size + 1)]) (.cons rfl .nil) rel) (q (hp.objs.size + 1) (J.hok.fresh above))
  rw [hks]
  refine ⟨J.kIn, wpAny_call (err_call err (PySem.W.looks_findIn J.kIn iC) (fun self => PySem.W.bind_fn J.kIn self tI) (codeAny_mono ini ?_))⟩
  intro r s' back
  match r, back with
  | .error er, back => exact hx pins σ _ _ er s' L back
  | .ok .next, back => exact back.elim
  | .ok .brk, back => exact back.elim
  | .ok .cont, back => exact back.elim
  | .ok (.ret _), ⟨_, H2, os2, bare, un, hok, rv, e, d, fs, ea, ed, hd1, q2⟩ =>
    subst e
    obtain ⟨h2, g2, d2, t2, os3⟩ := s'
    exact ⟨rv, mk_end (raises_own T.exC T.tyC) J above born_old un hok os2 bare ea ed hd1 q2⟩
end

/-! ### the __init__ of such a class: one keyword, two keywords -/
/-- the class facts that the body asks: its parent's __init__ is ValueError's -/
structure PIn (K : PySem.W.Frag) (mg : Str → Option Value) (x : Str) (B : Addr) (mc : Value) : Prop where
  gB : mg x = some (.ref B)
  rd : PySem.W.readsIn K B mc = true
  ga : PySem.W.specialIn K (.ref B) "__getattribute__" = some (some (.builtin "type.__getattribute__"))
  at_ : PySem.W.findCls K (.ref B) mc "__init__" = some (.val (.builtin "ValueError.__init__"))
def spX1 (K : PySem.W.Frag) (f : Str) : Sp := fun vs H Q _ => ∃ (a C : Addr) (y : V), vs = [.ref a, y] ∧ OexC K C ∧ PySem.W.findIn K (.ref C) f = some none ∧ H a = some (exo a C none) ∧
  ∀ dx, H dx = none → dx ≠ a → Q .non (upd (upd H dx (exd dx [(f, y)])) a (exo a C (some dx)))
def spX2 (K : PySem.W.Frag) (f g : Str) : Sp := fun vs H Q _ => ∃ (a C : Addr) (y z : V), vs = [.ref a, y, z] ∧ OexC K C ∧ PySem.W.findIn K (.ref C) f = some none ∧ PySem.W.findIn K (.ref C) g = some none ∧ H a = some (exo a C none) ∧
  ∀ dx, H dx = none → dx ≠ a → Q .non (upd (upd (upd H dx (exd dx [(f, y)])) a (exo a C (some dx))) dx (exd dx [(g, z), (f, y)]))
theorem gone_eq {H : Hp} {a d : Addr} {o : HO} {u w v : HO} (ha : H a = none) (hd : d ≠ a) : upd (del (upd (upd H d u) a o) a) d v = upd H d v := by
  funext b
  by_cases hb : b = d
  · subst hb
    rw [upd_same, upd_same]
  · rw [upd_ne hb, upd_ne hb]
    by_cases hba : b = a
    · subst hba
      rw [del_same, ha]
    · rw [del_ne hba, upd_ne hba, upd_ne hb]
theorem gone_eq2 {H : Hp} {a d : Addr} {o : HO} {u w v : HO} (ha : H a = none) (hd : d ≠ a) : upd (del (upd (upd (upd H d u) a o) d w) a) d v = upd H d v := by
  funext b
  by_cases hb : b = d
  · subst hb
    rw [upd_same, upd_same]
  · rw [upd_ne hb, upd_ne hb]
    by_cases hba : b = a
    · subst hba
      rw [del_same, ha]
    · rw [del_ne hba, upd_ne hb, upd_ne hba, upd_ne hb]
end Sea

set_option Elab.async false
set_option linter.all false
set_option maxRecDepth 100000
set_option maxHeartbeats 4000000
/-! enumerate over a tuple -/
namespace Sea
open PySem PySem.Spec PyProof.Rows L2
/-- enumerate(t), t the tuple at a: a new iterator over it, and a new cell that counts -/
structure EnumMade (a : Addr) (h h2 : Heap) : Prop where
  cell : IsEnum h2 (h.objs.size + 1) h.objs.size 0 .none
  iter : h2.IsTupleIter h.objs.size a 0
  old : ∀ b o, h.get? b = some o → h2.get? b = some o
theorem enumMade (a : Addr) (h : Heap) :
    EnumMade a h ((h.push { cls := .type "tuple_iterator", data := .fields #[.ref a, .int 0 0] }).push { cls := .type "enumerate", data := .fields #[.none, .bool false, .ref h.objs.size, rawInt 0, .none, .none] }) where
  cell := by
    show Heap.get? _ _ = _
    rw [← Heap.size_push h (o := { cls := .type "tuple_iterator", data := .fields #[.ref a, .int 0 0] })]
    exact Heap.get?_push_size _ rfl
  iter := ⟨_, Heap.get?_push_of_some _ (Heap.get?_push_size h rfl), rfl, rfl⟩
  old := fun _ _ z => Heap.get?_push_of_some _ (Heap.get?_push_of_some _ z)
theorem Sem_any {α : Type} {M : Model} {A : Around} {E : Value → Shared → Prop} {s : Shared} {v : α} {Q : α → Shared → Prop} (q : ∀ x, Q x s) : wpAny M A (pure v) Q E s := wpAny_pure (q v)
theorem new_enumT (a : Addr) (its : Array Value) :
    Meets (Builtin.«enumerate.__new__» ⟨[.type "enumerate", .ref a], []⟩) (fun _ R s => s.heap.IsTuple a its ∧ ∀ h2, EnumMade a s.heap h2 → R (.ok (.ret (.ref (s.heap.objs.size + 1)))) { s with heap := h2 }) := by
  apply Meets.of_wp
  intro prog w A R s z
  have ht := z.1
  have made := z.2
  have ready := sub_enumerate
  have got := made _ (enumMade a s.heap)
  rw [← Heap.size_push s.heap (o := { cls := .type "tuple_iterator", data := .fields #[.ref a, .int 0 0] })] at got
  have it : ∀ {B : Around} {Er T : Value → Shared → Prop}, T (.ref s.heap.objs.size) { s with heap := s.heap.push _ } → wpAny (model prog w) B (pyIter (.ref a)) T Er s := fun r => (begins_tuple a its).iter prog w _ _ s _ ht r
  wp_walk using it
  refine wpAny_stack_any fun stk => Sem_any fun short => ?_
  cases short <;> wp_walk using it <;> exact ⟨_, rfl, got⟩
theorem call_enumT {prog : Program} {w : World} {A : Around} {E Q : Value → Shared → Prop} {s : Shared} {a : Addr} {its : Array Value} (ht : s.heap.IsTuple a its) (h : ∀ h2, EnumMade a s.heap h2 → Q (.ref (s.heap.objs.size + 1)) { s with heap := h2 }) :
    wpAny (model prog w) A (call (.type "enumerate") [.ref a]) Q E s :=
  callType_new F.called_enumerate (by decide) (F.typeCall_enumerate_1 _) (F.newCall_enumerate_1 _) (fun obj => F.args_object_init_2 obj _) F.entry_enumerate_new (new_enumT a its)
    ⟨ht, fun h2 m => ⟨⟨_, m.cell, rfl⟩, h h2 m⟩⟩
/-- the turns over a tuple that is known to hold xs: while there are items, a new pair of the place and the item -/
def IteT (K : PySem.W.Frag) (a : Addr) (xs : List V) : It where
  go i H := i < xs.length ∧ SqT K H a xs
  yld i H v H' := ∃ x pair, xs[i]? = some x ∧ H pair = none ∧ v = .ref pair ∧ H' = upd H pair (.tup [.int (i : Nat), x])
  stop i H := i = xs.length ∧ SqT K H a xs
/-- the walk over enumerate, as the library's WalksT.enumFrom tells it, read as turns of IteT -/
theorem turn_enumT {P : Program} {w : World} {K : PySem.W.Frag} {elts : List Expr} {kk : Nat} {tpos : Pos} (a e it : Addr) (xs : List V) (hei : e ≠ it) (hai : a ≠ it) (hae : a ≠ e) :
    Turn P w K (.Tuple elts kk tpos) (IteT K a xs) [e, it] e (fun i h => (∃ old, IsEnum h e it (0 + (i : Int)) old) ∧ h.IsTupleIter it a i) := by
  have walk := fun (A : Around) (hh : A.handled = none) (its : Array Value) =>
    WalksT.enumFrom (prog := P) (w := w) (A := A) 0 (Draws.tuple (A := A.in1) hh it a hai its) e hei (by simp [hei, Ne.symm hae]) (by simp)
  refine { mem := List.mem_cons_self .., obj := ?_, keep := ?_, item := ?_, done := ?_, self := ?_ }
  · rintro i h ⟨⟨old, he⟩, o, ho, _, hd⟩ b hb
    simp only [List.mem_cons, List.not_mem_nil, or_false] at hb
    cases hb with
    | inl hb => subst hb; exact ⟨_, he, by intro v; simp⟩
    | inr hb => subst hb; exact ⟨o, ho, by intro v; rw [hd]; simp⟩
  · rintro i h h2 ⟨⟨old, he⟩, hi⟩ k
    exact ⟨⟨old, k e (by simp) _ he⟩, hi.at fun o q => k it (by simp) o q⟩
  · rintro X rfl rfl rfl hc i pins s σ H Ex I hf ⟨en, hi⟩ ⟨lt, hq⟩
    obtain ⟨its, rv, pt, _⟩ := I.tuple hq
    have hx : xs[i]? = some xs[i] := List.getElem?_eq_getElem lt
    generalize xs[i] = x at hx
    obtain ⟨y, hy, ry⟩ := rv.get hx
    have W := walk X.A (I.ok.hd hc) its.toArray
    refine W.item i s _ _ (by simpa using (List.getElem?_eq_some_iff.mp hy).1) ⟨en, hi, pt⟩ ?_
    rintro T vals h2 tk ⟨t, z, hz, rfl⟩ hle hT hmid hk
    obtain rfl : z = y := Option.some.inj (Eq.trans (by simpa using hz.symm) hy)
    refine ⟨_, rfl, W.go elts kk tpos i T _ _ _ hmid fun h3 st3 hk3 => ?_⟩
    have keeps : ∀ b o, b ∉ [e, it] → s.heap.get? b = some o → h3.get? b = some o := fun b o hb q => hk3 b o hb (hk b o hb q)
    have pair : ObjOk X.prog X.w (upd H T (.tup [.int (i : Nat), x])) h3 T (.tup [.int (i : Nat), x]) :=
      ⟨by show 2 ≤ sizeLine; decide, [.int (0 + (i : Int)) t, z], .cons ⟨t, by rw [Int.zero_add]⟩ (.cons ry .nil), hT.at fun o q => hk3 T o (W.apart i T h2 hmid) q⟩
    have nT : H T = none := I.hok.fresh hle
    refine ⟨.ref T, _, I.turnedNew (t' := tk) keeps hf hle pair, rfl, ⟨x, T, hx, nT, rfl, rfl⟩, ⟨st3.1, st3.2.1⟩, fun b hb => ?_⟩
    rw [upd_ne (show b ≠ T from fun z => W.apart i T h2 hmid (z ▸ hb))]
    exact (hf b hb).1
  · rintro X rfl rfl rfl hc i pins s σ H Ex I hf ⟨en, hi⟩ ⟨rfl, hq⟩
    obtain ⟨its, rv, pt, _⟩ := I.tuple hq
    have W := walk X.A (I.ok.hd hc) its.toArray
    have hn : its.toArray.size = xs.length := by simpa using rv.length.symm
    exact W.done s _ _ (by rw [hn]; exact ⟨en, hi, pt⟩) fun h2 tk hk => ⟨rfl, I.turnedL (t' := tk) hk hf⟩
  · exact fun A i s Q Ex st h => wpAny_pyIter_enum st.1.choose_spec h
def iEnumT (K : PySem.W.Frag) (ta : TA) : TI := fun σ H R => ta σ H fun vs H1 => ∃ a xs, vs = [.ref a] ∧ SqT K H1 a xs ∧ R (IteT K a xs) H1
theorem pi_enumT {X : Cx} {e : Expr} {ta : TA} {p pos tpos : Pos} {elts : List Expr} {kk : Nat} (hg : Gl X "enumerate") (hm : X.mg "enumerate" = none) (ha : PA X [e] ta) (hs : starEach [e] X.env = [(false, eval e X.env)] := by rfl) :
    PI X (.Tuple elts kk tpos) (.Call (.Name "enumerate" p) [e] [] pos) (iEnumT X.K ta) where
  run pins s σ H R I h := by
    refine Call_ (ld_blt I hg hm boot_enumerate (PyProof.Rows.callWith_type1 (thn (ha.run pos pins s σ H _ I h) ?_) hs rfl))
    rintro us s1 ⟨_, H1, I1, r1, a, xs, rfl, hq, q⟩
    obtain ⟨u, rfl, ru⟩ := r1.one
    obtain rfl : u = .ref a := ru
    obtain ⟨its, rv, pt, _⟩ := I1.tuple hq
    have below : a < s1.heap.objs.size := by
      obtain ⟨_, z, _⟩ := (show s1.heap.IsTuple a its.toArray from pt)
      exact Heap.lt_size z
    refine call_enumT pt fun h2 m => wpAny_pyIter_enum m.cell ⟨_, _, _, _, H1, rfl, I1.kept (t' := s1.toks) m.old, turn_enumT a (s1.heap.objs.size + 1) s1.heap.objs.size xs (Nat.succ_ne_self _) (Nat.ne_of_lt below) (Nat.ne_of_lt (Nat.lt_succ_of_lt below)), ⟨⟨_, m.cell⟩, m.iter⟩, ?_, q⟩
    have fresh : ∀ b, s1.heap.objs.size ≤ b → FpOk X pins H1 b := fun b hb => I1.fpOk hb (I1.hok.fresh hb)
    simpa using And.intro (fresh (s1.heap.objs.size + 1) (Nat.le_succ _)) (fresh s1.heap.objs.size (Nat.le_refl _))
end Sea

set_option Elab.async false
set_option linter.all false
set_option maxRecDepth 100000
set_option maxHeartbeats 4000000
/-! isinstance of a caught error that has a dict; list.count of flat items -/
namespace Sea
open PySem PySem.Spec PyProof.Rows L2
/-- the caught error, seen in the heap: an instance of its class, its dict (if it has one) beside it -/
theorem held_inst {X : Cx} {pins : List (Addr × Obj)} {σ : L2.St} {H : Hp} {s : Shared} {a D : Addr} {d : Option Addr} {oe : Obj} {pn : List (Addr × Obj)} (I : Inv (X.suite a ((a, oe) :: pn)) pins σ H s) (hz : Zc (.ref D) d oe) (hf : ∃ vs, oe.data = .fields vs)
    (hd : ∀ dx, d = some dx → ∃ fs, H dx = some (.xd fs)) : ∃ od, PySem.W.InstAt s.heap a oe D od := by
  have there := (I.pin (a, oe) (by simp)).1
  have plain : PySem.W.notCls oe := by
    obtain ⟨vs, hv⟩ := hf
    rw [PySem.W.notCls, hv]
  match d, hz, hd with
  | none, hz, _ => exact ⟨none, there, hz.1, plain, by rw [hz.2]; trivial⟩
  | some dx, hz, hd =>
    obtain ⟨fs, hx⟩ := hd dx rfl
    have ⟨mA, ns, _⟩ : ObjOk X.prog X.w H s.heap dx (.xd fs) := I.hok dx _ hx
    have ⟨od, ho, _⟩ := lookIn_ns ns
    exact ⟨some od, there, hz.1, plain, by rw [hz.2]; exact ho⟩
/-- isinstance(e, c), e the exception that the suite holds, with its dict (tracked) or without; D its class -/
def rIsX (K : PySem.W.Frag) (a : Addr) (cls : Value) (d : Option Addr) : List V → Hp → VK → Prop := fun xs H Q => ∃ (D : Addr) (c : V) (cv : Value) (b : Bool), cls = .ref D ∧ ExcC K D ∧ xs = [.ref a, c] ∧ (∀ u, RelV c u → u = cv) ∧ PySem.W.kitOne K (.ref D) cv = some b ∧ (∀ dx, d = some dx → ∃ fs, H dx = some (.xd fs)) ∧ Q (.bl b) H
theorem call_isX {X : Cx} {a : Addr} {cls : Value} {d : Option Addr} {oe : Obj} {pn : List (Addr × Obj)} (K : PySem.W.Frag) (hK : X.K = K) (hz : Zc cls d oe) (hf : ∃ vs, oe.data = .fields vs) : CallR (X.suite a ((a, oe) :: pn)) (.builtin "isinstance") (rIsX K a cls d) := by
  subst hK
  rintro pins s σ H _ us Q I r ⟨D, c, cv, b, rfl, C, rfl, told, one, hd, q⟩
  obtain ⟨x, t, rfl, rx, rt⟩ : ∃ x t, us = [x, t] ∧ RelV (.ref a) x ∧ RelV c t := match us, r with
    | _, .cons rx (.cons rt .nil) => ⟨_, _, rfl, rx, rt⟩
  obtain ⟨od, inst⟩ := held_inst I hz hf hd
  have dict : (PySem.W.clsIn X.K D).isSome := by
    obtain ⟨cd, z, _⟩ := PySem.W.any_some C.hd
    rw [z]
    rfl
  have kit := PySem.W.kitx_exc (x := a) (ox := oe) (od := od) dict C.hg C.hk C.hs C.ha C.hn C.ht C.hm
  rw [show x = .ref a from rx, told t rt]
  exact PySem.W.kia_one kit I.kIn inst one nofun fun tk => ⟨.bl b, H, I.kept (t' := tk) fun _ _ z => z, rfl, q⟩
/-- xs.count(y), flat items -/
def rCntF (K : PySem.W.Frag) : V → List V → Hp → VK → Prop := fun x xs H Q => ∃ (a : Addr) (ys : List V) (y : V), x = V.ref a ∧ xs = [y] ∧ SqL K H a ys ∧ flatV y = true ∧ ys.all flatV = true ∧ Q (.int (ys.countP (fun z => eqV z y) : Nat)) H
theorem cnt_flat {y : V} : ∀ {ys : List V} {its : List Value}, Vals ys its → ys.all flatV = true → its.countP (eqU y) = ys.countP (fun z => eqV z y)
  | _, _, .nil, _ => rfl
  | _, _, .cons r rr, f => by
    rename_i v u vs us
    rw [List.all_cons, Bool.and_eq_true] at f
    rw [List.countP_cons, List.countP_cons, cnt_flat rr f.2, eqU_of r f.1]
theorem mt_countF {X : Cx} : MtR X "list.count" (rCntF X.K) := by
  rintro pins s σ H _ _ v us Q I rx rxs ⟨a, ys, y, rfl, rfl, hs, fy, fys, q⟩
  obtain rfl : v = .ref a := rx
  obtain ⟨u, rfl, ru⟩ := rxs.one
  obtain ⟨its, rv, ⟨o, n, ho, hc, _, hd⟩, _⟩ := I.list hs
  obtain ⟨cls, dd, data, sl⟩ := o
  obtain rfl : cls = _ := hc
  obtain rfl : data = _ := hd
  have many := cnt_flat (y := y) rv fys
  have law := SeqAt.list_countAt a its.toArray n dd sl u (eqU y)
  refine call_meets PySem.F.slot_list_count ⟨_, ho, rfl⟩ PySem.F.entry_list_count (PySem.F.args_list_count_2 _ _) law ⟨ho, fun z hz => mem_eqAt ru fy rv fys z (by simpa using hz), ?_⟩
  rw [List.toList_toArray, many]
  exact ⟨.int (ys.countP (fun z => eqV z y) : Nat), H, I.tok _, ⟨s.toks, rfl⟩, q⟩
end Sea

set_option Elab.async false
set_option linter.all false
set_option maxRecDepth 100000
set_option maxHeartbeats 4000000
namespace Sea
open PySem PySem.Spec PyProof.Rows L2 LamX NdefX Evl
/-! ### what a suite may ask of the caught error, whatever its class -/
/-- e.f, e the caught error: its class is told by the reading; the library's rule for that class does the rest -/
def tXf (K : PySem.W.Frag) (f : Str) (a : Addr) (cls : Value) (d : Option Addr) (te : TE) : TE := fun σ H Q => ∃ D : Addr, cls = .ref D ∧ XfC K D ∧ PySem.W.findIn K (.ref D) f = some none ∧ L2.tXf a cls d D f te σ H Q
theorem pe_xf {X : Cx} {f : Str} {a : Addr} {oe : Obj} {cls : Value} {d : Option Addr} {pn : List (Addr × Obj)} {e : Expr} {te : TE} {pos : Pos} (K : PySem.W.Frag) (hK : X.K = K) (hz : Zc cls d oe) (hf : ∃ vs, oe.data = .fields vs) (he : PE (X.suite a ((a, oe) :: pn)) e te)
    (hb : attributeBase e f X.env (eval e X.env) = eval e X.env := by rfl) : PE (X.suite a ((a, oe) :: pn)) (.Attribute e f pos) (tXf K f a cls d te) :=
  ⟨fun pins s σ H Q I ⟨_, _, T, no, h⟩ => (L2.pe_xf (hK ▸ T) (hK ▸ no) hz hf he hb).run pins s σ H Q I h⟩
/-! ### the handed thunk called, its promise weakened -/
theorem cx_le {P : Program} {w : World} {outer : List Env} {H : Hp} {s s' : Shared} {E E' : XK} {e : Value} (h : L2.CX P w outer H s E e s') (m : ∀ c d H', E c d H' → E' c d H') : L2.CX P w outer H s E' e s' := by
  obtain ⟨a, B, H', cls, d, h1, h2, h3, h4, h5, h6, h7, h8⟩ := h
  exact ⟨a, B, H', cls, d, h1, h2, h3, h4, h5, h6, h7, m _ _ _ h8⟩
section
variable {X : Cx} {i j : Nat} {x : Str} {p pos : Pos} {E : L2.St → XK}
def tActM (X : Cx) (j i : Nat) (E : L2.St → XK) : TE := fun σ H Q => ∃ (f : Addr) (tl : Hp → VK → XK → Prop) (Q' : VK) (E' : XK), σ[i]? = some (some (.ref f)) ∧ H = X.H_0 ∧ Thunk X.prog X.w X.K X.mg X.base (L2.CX X.prog X.w) j X.outer X.s_0 X.H_0 f tl ∧ tl H Q' E' ∧ (∀ v H1, Q' v H1 → Q v H1) ∧ (∀ c d H1, E' c d H1 → E σ c d H1)
theorem pe_actM (hr : Room j X.A) (hex : X.ex = []) (hx : ∀ σ, PassesAt (L2.CX X.prog X.w) X σ (E σ)) (hN : X.N[i]? = some x) (hv : Vis X.env.scope x)
    (hd : (x == ("__debug__" : Str)) = false := by decide) (hcd : (x == ("__classdict__" : Str)) = false := by decide) : PE X (.Call (.Name x p) [] [] pos) (tActM X j i E) := by
  refine ⟨fun pins s σ H Q I h => ?_⟩
  obtain ⟨f, tl, Q', E', hs, eH, hT, ht, mQ, mE⟩ := h
  have hx' : ∀ τ, PassesAt (L2.CX X.prog X.w) X τ (if τ = σ then E' else E τ) := fun τ => by
    by_cases hq : τ = σ
    · rw [if_pos hq]
      subst hq
      exact fun pins H s e s' J c => hx _ pins H s e s' J (cx_le c mE)
    · rw [if_neg hq]
      exact hx τ
  refine thn ((pe_actT (CXl := L2.CX X.prog X.w) (i := i) (p := p) (pos := pos) (E := fun τ => if τ = σ then E' else E τ) hr hex hx' hN hv hd hcd).run pins s σ H Q' I ⟨f, tl, hs, eH, hT, ?_⟩) fun u s1 hh => ?_
  · show tl H Q' (if σ = σ then E' else E σ)
    rw [if_pos rfl]
    exact ht
  · obtain ⟨v, H1, I1, r1, q1⟩ := hh
    exact ⟨v, H1, I1, r1, mQ _ _ q1⟩
end
theorem ev_isX {K : PySem.W.Frag} {a : Addr} {cls : Value} {d : Option Addr} {D : Addr} {c : V} {cv : Value} {b : Bool} {i : Nat} {σ : L2.St} {H : Hp} (h1 : cls = .ref D) (h2 : ExcC K D) (h3 : ∀ u, RelV c u → u = cv) (h4 : PySem.W.kitOne K (.ref D) cv = some b) (h5 : ∀ dx, d = some dx → ∃ fs, H dx = some (.xd fs)) (hs : σ[i]? = some (some (.ref a))) :
    Ev (tCB (rIsX K a cls d) (tCons (tVar i) (tCons (tC c) tNil))) σ H (.bl b) := fun H1 e Q q => ⟨_, hs, D, c, cv, b, h1, h2, rfl, h3, h4, fun dx hd => let ⟨fs, hx⟩ := h5 dx hd; ⟨fs, e _ _ hx⟩, q H1 (Ex.refl _)⟩
end Sea

set_option Elab.async false
set_option linter.all false
set_option maxRecDepth 100000
set_option maxHeartbeats 4000000
/-! rules with the written part K named: within a suite or a block the reading must not speak of the context -/
namespace Sea
open PySem PySem.Spec PyProof.Rows L2
section
variable {X : Cx} {T : String} {r : V → List V → Hp → VK → Prop} {e a b : Expr} {to ta tb : TE} {t : TA} {pos : Pos}
theorem pe_bmK (K : PySem.W.Frag) (hK : X.K = K) (h : PE X e (tBM X.K T r to t)) : PE X e (tBM K T r to t) := hK ▸ h
theorem pe_ixlK (K : PySem.W.Frag) (hK : X.K = K) (ha : PE X a ta) (hb : PE X b tb) (hs : PlainIx b := by exact fun _ _ => rfl) : PE X (.Subscript a b pos) (tOp (rIxL K) ta tb) := hK ▸ pe_ix ix_list ha hb hs
theorem mt_countK (K : PySem.W.Frag) (hK : X.K = K) : MtR X "list.count" (rCntF K) := hK ▸ mt_countF
theorem mt_indexK (K : PySem.W.Frag) (hK : X.K = K) : MtR X "list.index" (rIndex K) := hK ▸ mt_index
theorem op_inK (K : PySem.W.Frag) (hK : X.K = K) : OpR X (compareOp .In) (rIn K false) := hK ▸ op_in_seq
end
end Sea

set_option Elab.async false
set_option linter.all false
set_option maxRecDepth 100000
set_option maxHeartbeats 4000000
/-! what every law of this package leans on, no program in sight -/
namespace Sea
open PySem PySem.Spec PyProof.Rows L2 LamX NdefX ClX Evl StX
section
variable {X : Cx} {a b : Expr} {ta tb : TE} {pos : Pos}
theorem pe_ixl (ha : PE X a ta) (hb : PE X b tb) (hs : PlainIx b := by exact fun _ _ => rfl) : PE X (.Subscript a b pos) (tOp (rIxL X.K) ta tb) := pe_ix ix_list ha hb hs
theorem pe_ixt (ha : PE X a ta) (hb : PE X b tb) (hs : PlainIx b := by exact fun _ _ => rfl) : PE X (.Subscript a b pos) (tOp (rIxT X.K) ta tb) := pe_ix ix_tup ha hb hs
end
/-! ### draws -/
structure Dr (H : Hp) (h c : Addr) : Prop where
  ne : h ≠ c
  ex : ∃ (m k : Int) (ns : List Int), H h = some (.lst [.int m, .ref c, .int k]) ∧ H c = some (.lst (ns.map V.int)) ∧ ns.length ≤ 63
/-- all kept but h and c -/
def Kp (h c : Addr) (H H' : Hp) : Prop := ∀ b o, H b = some o → b ≠ h → b ≠ c → H' b = some o
theorem Kp.refl {h c : Addr} {H : Hp} : Kp h c H H := fun _ _ e _ _ => e
theorem Kp.trans {h c : Addr} {H H1 H2 : Hp} (a : Kp h c H H1) (b : Kp h c H1 H2) : Kp h c H H2 := fun x o e n1 n2 => b x o (a x o e n1 n2) n1 n2
theorem Kp.new {h c a : Addr} {H : Hp} {o : HO} (n : H a = none) : Kp h c H (upd H a o) := fun b o e _ _ => by
  rw [upd_ne (ne_of_none e n)]
  exact e
theorem Kp.same {h c : Addr} {H H' : Hp} (s : Same H H') : Kp h c H H' := fun b o e _ _ => s b o e
theorem Dr.same {H H' : Hp} {h c : Addr} (d : Dr H h c) (s : Same H H') : Dr H' h c := by
  obtain ⟨n, m, k, ns, e1, e2, l⟩ := d
  exact ⟨n, m, k, ns, s _ _ e1, s _ _ e2, l⟩
theorem Dr.new {H : Hp} {h c a : Addr} {o : HO} (d : Dr H h c) (n : H a = none) : Dr (upd H a o) h c := d.same fun b o e => by
  rw [upd_ne (ne_of_none e n)]
  exact e
theorem pick0 (ns : List Int) (i : Int) (h0 : 0 ≤ i) (h1 : i < (ns.length : Int) + 1) : ∃ u : Int, atI (ns.map V.int ++ [V.int 0]) i = some (.int u) := by
  obtain ⟨j, rfl⟩ := Int.eq_ofNat_of_zero_le h0
  have hj : j < (ns.map V.int ++ [V.int 0]).length := by
    rw [List.length_append, List.length_map]
    show j < ns.length + 1
    omega
  refine ⟨(ns ++ [0]).getD j 0, ?_⟩
  have e : ns.map V.int ++ [V.int 0] = (ns ++ [0]).map V.int := by rw [List.map_append]; rfl
  rw [e] at hj ⊢
  unfold atI ixN
  rw [if_pos (by omega), if_pos (by omega)]
  show ((ns ++ [0]).map V.int)[(j : Int).toNat]? = _
  rw [Int.toNat_natCast, List.getElem?_map]
  rw [List.length_map] at hj
  rw [List.getElem?_eq_getElem hj]
  rw [List.getD_eq_getElem?_getD, List.getElem?_eq_getElem hj]
  rfl
theorem pick_nil {i u : Int} (h : atI (([] : List Int).map V.int ++ [V.int 0]) i = some (.int u)) : u = 0 := by
  revert h
  unfold atI ixN
  show ((if 0 ≤ i then (if i < ((1 : Nat) : Int) then some i.toNat else none) else if -((1 : Nat) : Int) ≤ i then some (i + ((1 : Nat) : Int)).toNat else none).bind fun j => [V.int 0][j]?) = _ → _
  intro h
  split at h
  · split at h
    · have e : i.toNat = 0 := by omega
      rw [show (some i.toNat : Option Nat) = some 0 by rw [e]] at h
      cases h
      rfl
    · cases h
  · split at h
    · have e : (i + ((1 : Nat) : Int)).toNat = 0 := by omega
      rw [show (some (i + ((1 : Nat) : Int)).toNat : Option Nat) = some 0 by rw [e]] at h
      cases h
      rfl
    · cases h
theorem ixn_fmod {n : Nat} (k : Int) (h : (0 : Int) < (n : Int)) : ∃ j, ixN n (k.fmod (n : Int)) = some j := by
  refine ⟨(k.fmod (n : Int)).toNat, ?_⟩
  unfold ixN
  rw [if_pos (Int.fmod_nonneg_of_pos _ h), if_pos (Int.fmod_lt_of_pos _ h)]
def TK (K : PySem.W.Frag) (H H' : Hp) : Prop := ∀ a xs, SqT K H a xs → SqT K H' a xs
theorem TK.refl {K : PySem.W.Frag} {H : Hp} : TK K H H := fun _ _ h => h
theorem TK.trans {K : PySem.W.Frag} {H H1 H2 : Hp} (a : TK K H H1) (b : TK K H1 H2) : TK K H H2 := fun x y h => b x y (a x y h)
theorem sqT_keep {K : PySem.W.Frag} {H H' : Hp} {a : Addr} {xs : List V} (e : ∀ o, H a = some o → H' a = some o) (h : SqT K H a xs) : SqT K H' a xs := by
  rcases h with (h | ⟨o, h⟩) | h
  · exact .inl (.inl (e _ h))
  · exact .inl (.inr ⟨o, e _ h⟩)
  · exact .inr h
theorem TK.same {K : PySem.W.Frag} {H H' : Hp} (s : Same H H') : TK K H H' := fun a xs h => sqT_keep (fun o => s a o) h
theorem same_new {H : Hp} {p : Addr} {o : HO} (h : H p = none) : Same H (upd H p o) := fun b x e => by
  rw [upd_ne (ne_of_none e h)]
  exact e
theorem TK.new {K : PySem.W.Frag} {H : Hp} {a : Addr} {o : HO} (n : H a = none) : TK K H (upd H a o) := .same (same_new n)
theorem TK.but {K : PySem.W.Frag} {H H' : Hp} (D : Addr → Prop) (s : ∀ b o, H b = some o → ¬ D b → H' b = some o) (nt : ∀ b xs, D b → ¬ Rd H b (.tup xs)) : TK K H H' := fun a xs h => by
  rcases h with h | h
  · have nd : ¬ D a := fun z => nt a xs z h
    rcases h with h | ⟨o, h⟩
    · exact .inl (.inl (s _ _ h nd))
    · exact .inl (.inr ⟨o, s _ _ h nd⟩)
  · exact .inr h
theorem Rd.lst_no {H : Hp} {a : Addr} {xs ys : List V} (e : H a = some (.lst ys)) : ¬ Rd H a (.tup xs) := fun h => by
  rcases h with h | ⟨o, h⟩
  · rw [e] at h
    cases h
  · rw [e] at h
    cases h
theorem Rd.ins_no {H : Hp} {a C dx : Addr} {xs : List V} {fs : List (Str × V)} (e : H a = some (.ins C dx fs)) : ¬ Rd H a (.tup xs) := fun h => by
  rcases h with h | ⟨o, h⟩
  · rw [e] at h
    cases h
  · rw [e] at h
    cases h
theorem Dr.tk {K : PySem.W.Frag} {H H' : Hp} {h c : Addr} (d : Dr H h c) (k : Kp h c H H') : TK K H H' := by
  obtain ⟨_, m, kk, ns, e1, e2, _⟩ := d
  refine .but (fun b => b = h ∨ b = c) (fun b o e n => k b o e (fun z => n (.inl z)) (fun z => n (.inr z))) fun b xs z => ?_
  rcases z with z | z
  · rw [z]
    exact Rd.lst_no e1
  · rw [z]
    exact Rd.lst_no e2
section
variable {X : Cx} {C : Addr} {mc : Value} {x f : Str} {v : V} {p pos : Pos}
theorem pe_clc (hg : Gl X x) (hm : X.mg x = some (.ref C)) (cr : CRead X.K C mc) (cv : ∃ u, CVal X.K C mc f v u) (hd : (x == ("__debug__" : Str)) = false := by decide)
    (hb : attributeBase (.Name x p) f X.env (eval (.Name x p) X.env) = eval (.Name x p) X.env := by rfl) : PE X (.Attribute (.Name x p) f pos) (tC v) := by
  obtain ⟨u, cv⟩ := cv
  exact ⟨fun pins s σ H Q I h => (pe_cval (pe_glob (v := .ref C) hg hm rfl hd) hb).run pins s σ H Q I ⟨C, mc, v, u, rfl, cr, cv, h⟩⟩
end
theorem ev_chainI {ta tb tc : TE} {σ : L2.St} {H : Hp} {i j k : Int} {p q : Int → Int → Bool} (ha : Ev ta σ H (.int i)) (hb : Ev tb σ H (.int j)) (hc : Ev tc σ H (.int k)) :
    Ev (tChain (rI0 fun i j => .bl (p i j)) (rI0 fun i j => .bl (q i j)) ta tb tc) σ H (.bl (p i j && q j k)) := fun H1 e Q hq => ha H1 e _ fun H2 e2 => hb H2 (e.trans e2) _ fun H3 e3 => ⟨i, j, rfl, rfl, p i j, rfl, by
  cases hp : p i j with
  | true => exact iteT (hc H3 ((e.trans e2).trans e3) _ fun H4 e4 => ⟨j, k, rfl, rfl, by
      have z := hq H4 ((e2.trans e3).trans e4)
      rw [hp] at z
      exact z⟩)
  | false => exact iteF (by
      have z := hq H3 (e2.trans e3)
      rw [hp] at z
      exact z)⟩
/-- a loop of n rounds: what each round finds and leaves, and what stands when the source is dry -/
theorem for_rounds {I : It} {g : TG} {tb : TS} {D : Ends} {σ : L2.St} {H : Hp} (n : Nat) (Pv : Nat → L2.St → Hp → Prop) (start : Pv 0 σ H)
    (round : ∀ i σ H, i < n → Pv i σ H → I.go i H ∧ ∀ x H', I.yld i H x H' → g x σ H' fun σ2 H2 => tb { D with nx := Pv (i + 1), ct := Pv (i + 1), bk := D.nx } σ2 H2)
    (dry : ∀ σ H, Pv n σ H → I.stop n H ∧ D.nx σ H) :
    ∃ W : Nat → Nat → L2.St → Hp → Prop, (∃ m, W 0 m σ H) ∧ ∀ i m σ H, W i m σ H →
      (I.stop i H ∧ D.nx σ H) ∨ (I.go i H ∧ ∃ N : L2.St → Hp → Prop, (∀ σ' H', N σ' H' → ∃ m', m' < m ∧ W (i + 1) m' σ' H') ∧ ∀ x H', I.yld i H x H' → g x σ H' fun σ2 H2 => tb { D with nx := N, ct := N, bk := D.nx } σ2 H2) := by
  let W : Nat → Nat → L2.St → Hp → Prop := fun i m σ H => m + i = n ∧ Pv i σ H
  have more : ∀ i m σ H, W i (m + 1) σ H → (I.go i H ∧ ∃ N : L2.St → Hp → Prop, (∀ σ' H', N σ' H' → ∃ m', m' < m + 1 ∧ W (i + 1) m' σ' H') ∧ ∀ x H', I.yld i H x H' → g x σ H' fun σ2 H2 => tb { D with nx := N, ct := N, bk := D.nx } σ2 H2) := by
    rintro i m σ H ⟨e, p⟩
    have ⟨go, each⟩ := round i σ H (by omega) p
    exact ⟨go, Pv (i + 1), fun _ _ z => ⟨m, Nat.lt_succ_self m, by omega, z⟩, each⟩
  have last : ∀ i σ H, W i 0 σ H → I.stop i H ∧ D.nx σ H := by
    rintro i σ H ⟨e, p⟩
    rw [Nat.zero_add] at e
    exact e ▸ dry σ H (e ▸ p)
  exact ⟨W, ⟨n, rfl, start⟩, fun i m σ H w => match m, w with
    | 0, w => .inl (last i σ H w)
    | m + 1, w => .inr (more i m σ H w)⟩
section
variable {K : PySem.W.Frag}
theorem mk1_in {H1 : Hp} {Q : XK} {f : Str} {y : V} {c : Addr} (T : OexC K c) (n : PySem.W.findIn K (.ref c) f = some none) (h : ∀ d, H1 d = none → Q (.ref c) (some d) (upd H1 d (.xd [(f, y)]))) :
    [y].length = 1 ∧ ∀ a, H1 a = none → spX1 K f ([.ref a] ++ [y]) (upd H1 a (exo a c none)) (fun v H2 => v = .non ∧ ∃ (d : Addr) (fs : List (Str × V)), H2 a = some (exo a c (some d)) ∧ H2 d = some (exd d fs) ∧ H1 d = none ∧ Q (.ref c) (some d) (upd (del H2 a) d (.xd fs))) (fun _ _ _ => False) := by
  refine ⟨rfl, fun a ha => ⟨a, c, y, rfl, T, n, upd_same, fun dx h1 h2 => ?_⟩⟩
  rw [upd_ne h2] at h1
  refine ⟨rfl, dx, _, upd_same, by rw [upd_ne h2, upd_same], h1, ?_⟩
  have e : upd (del (upd (upd (upd H1 a (exo a c none)) dx (exd dx [(f, y)])) a (exo a c (some dx))) a) dx (.xd [(f, y)]) = upd H1 dx (.xd [(f, y)]) := by
    funext b
    by_cases hb : b = dx
    · subst hb
      rw [upd_same, upd_same]
    · rw [upd_ne hb, upd_ne hb]
      by_cases hba : b = a
      · subst hba
        rw [del_same, ha]
      · rw [del_ne hba, upd_ne hba, upd_ne hb, upd_ne hba]
  rw [e]
  exact h dx h1
end
theorem take_snoc {α : Type} {L : List α} {i : Nat} {x : α} (h : L[i]? = some x) : L.take (i + 1) = L.take i ++ [x] := by
  rw [List.take_add_one, h]
  rfl
def EvD (te : TE) (σ : L2.St) (H : Hp) (P : V → Hp → Prop) : Prop := ∀ H1, Ex H H1 → ∀ Q : VK, (∀ v H2, Ex H1 H2 → P v H2 → Q v H2) → te σ H1 Q
theorem EvD.mono {te : TE} {σ : L2.St} {H H' : Hp} {P : V → Hp → Prop} (e : Ex H H') (h : EvD te σ H P) : EvD te σ H' P := fun H1 a Q q => h H1 (e.trans a) Q q
theorem ed_of {te : TE} {σ : L2.St} {H : Hp} {v : V} {P : V → Hp → Prop} (h : Ev te σ H v) (hp : ∀ H2, Ex H H2 → P v H2) : EvD te σ H P := fun H1 e Q q => h H1 e _ fun H2 e2 => q v H2 e2 (hp H2 (e.trans e2))
def cutP {α : Type} (xs : List α) (lo hi : Option Int) : List α := (xs.drop (HT.sIx xs.length 0 lo)).take (HT.sIx xs.length xs.length hi - HT.sIx xs.length 0 lo)
theorem cutP_all {α : Type} (xs : List α) (lo hi : Option Int) (h : HT.sIx xs.length 0 lo = 0 ∧ HT.sIx xs.length xs.length hi = xs.length) : cutP xs lo hi = xs := by
  unfold cutP
  rw [h.1, h.2, List.drop_zero, Nat.sub_zero, List.take_length]
theorem cutP_to {α : Type} (xs : List α) (k : Nat) : cutP xs none (some ((k : Nat) : Int)) = xs.take k := by
  unfold cutP
  rw [HT.sIx_none, HT.sIx_nat, List.drop_zero, Nat.sub_zero]
  by_cases h : k ≤ xs.length
  · rw [Nat.min_eq_left h]
  · rw [Nat.min_eq_right (by omega), List.take_of_length_le (Nat.le_refl _), List.take_of_length_le (by omega)]
theorem cutP_from {α : Type} (xs : List α) (k : Nat) : cutP xs (some ((k : Nat) : Int)) none = xs.drop k := by
  unfold cutP
  rw [HT.sIx_none, HT.sIx_nat]
  by_cases h : k ≤ xs.length
  · rw [Nat.min_eq_left h, List.take_of_length_le (by rw [List.length_drop]; exact Nat.le_refl _)]
  · rw [Nat.min_eq_right (by omega), Nat.sub_self, List.take_zero, List.drop_eq_nil_of_le (by omega)]
section
variable {te : TE} {σ : L2.St} {H : Hp}
theorem q_asgD {tz : TS} {D : Ends} {i : Nat} {P : V → Hp → Prop} (h : EvD te σ H P) (k : ∀ v H1, Ex H H1 → P v H1 → tz D (σ.set i (some v)) H1) : tSeq (tAsg te (gName i)) tz D σ H := h H (Ex.refl H) _ fun v H1 e p => k v H1 e p
theorem s_retD {D : Ends} {P : V → Hp → Prop} (h : EvD te σ H P) (k : ∀ v H1, Ex H H1 → P v H1 → D.rt v H1) : tRet te D σ H := h H (Ex.refl H) _ k
end
theorem pe_ixtK {X : Cx} {a b : Expr} {ta tb : TE} {pos : Pos} (K : PySem.W.Frag) (hK : X.K = K) (ha : PE X a ta) (hb : PE X b tb) (hs : PlainIx b := by exact fun _ _ => rfl) : PE X (.Subscript a b pos) (tOp (rIxT K) ta tb) := by
  subst hK
  exact pe_ix ix_tup ha hb hs
theorem rv_eqD {K : PySem.W.Frag} {x y : V} {H : Hp} {d e : PyData} (h1 : ∀ H1, Ex H H1 → Dp K H1 x d) (h2 : ∀ H1, Ex H H1 → Dp K H1 y e) (s1 : SeqAt.shaped d = true) (s2 : SeqAt.shaped e = true) : RV (rEqD K) x y H (.bl (PyData.eqv d e)) := fun H1 a Q q => ⟨d, e, h1 H1 a, h2 H1 a, s1, s2, q H1 (Ex.refl _)⟩
theorem rv_neD {K : PySem.W.Frag} {x y : V} {H : Hp} {d e : PyData} (h1 : ∀ H1, Ex H H1 → Dp K H1 x d) (h2 : ∀ H1, Ex H H1 → Dp K H1 y e) (s1 : SeqAt.shaped d = true) (s2 : SeqAt.shaped e = true) : RV (rNeD K) x y H (.bl (!PyData.eqv d e)) := fun H1 a Q q => ⟨d, e, h1 H1 a, h2 H1 a, s1, s2, q H1 (Ex.refl _)⟩
theorem intsDp {K : PySem.W.Frag} {H : Hp} : ∀ ns : List Int, DpAll K H (ns.map V.int) (ns.map PyData.int)
  | [] => .nil
  | n :: r => .cons (.int n) (intsDp r)
theorem ints_lay : ∀ ns : List Int, PyData.canLayAll0 (ns.map PyData.int) = true
  | [] => rfl
  | n :: r => by
    show (true && PyData.canLayAll0 (r.map PyData.int)) = true
    rw [ints_lay r]
    rfl
theorem ints_dep : ∀ ns : List Int, PyData.depthAll (ns.map PyData.int) = 0
  | [] => rfl
  | n :: r => by
    show max 0 (PyData.depthAll (r.map PyData.int)) = 0
    rw [ints_dep r]
    rfl
theorem ints_sh (ns : List Int) : SeqAt.shaped (.list (ns.map PyData.int)) = true := by
  show (PyData.canLayAll0 (ns.map PyData.int) && decide (PyData.depthAll (ns.map PyData.int) + 1 ≤ 64)) = true
  rw [ints_lay, ints_dep]
  rfl
theorem pick3 (a b c v : Int) (h0 : 0 ≤ v) (h1 : v < 3) : ∃ w, atI [V.int a, V.int b, V.int c] v = some (.int w) ∧ (w = a ∨ w = b ∨ w = c) := by
  rcases (show v = 0 ∨ v = 1 ∨ v = 2 by omega) with rfl | rfl | rfl
  · exact ⟨a, rfl, .inl rfl⟩
  · exact ⟨b, rfl, .inr (.inl rfl)⟩
  · exact ⟨c, rfl, .inr (.inr rfl)⟩
theorem s_retIf {t : TT} {ta tb : TE} {D : Ends} {σ : L2.St} {H : Hp} {b : Bool} (h : EvT t σ H b) (h1 : b = true → ∀ H1, Ex H H1 → tRet ta D σ H1) (h2 : b = false → ∀ H1, Ex H H1 → tRet tb D σ H1) : tRet (tIf t ta tb) D σ H := h H (Ex.refl _) _ fun H1 e => by
  cases b with
  | true => exact iteT (h1 rfl H1 e)
  | false => exact iteF (h2 rfl H1 e)
theorem ev_lenT {K : PySem.W.Frag} {σ : L2.St} {H : Hp} {i : Nat} {p : Addr} {xs : List V} (hs : σ[i]? = some (some (.ref p))) (h : SqT K H p xs) : Ev (tCB (fun xs H Q => ∃ p ys, xs = [V.ref p] ∧ (SqL K H p ys ∨ SqT K H p ys) ∧ Q (.int ys.length) H) (tCons (tVar i) tNil)) σ H (.int (xs.length : Int)) := fun H1 e Q q =>
  ⟨_, hs, p, xs, rfl, .inr ((TK.same e) _ _ h), q H1 (Ex.refl _)⟩
theorem ev_cnt {K : PySem.W.Frag} {σ : L2.St} {H : Hp} {i : Nat} {D : Addr} {ys : List V} (hs : σ[i]? = some (some (.ref D))) (h : H D = some (.lst ys)) (hf : ys.all flatV = true) :
    Ev (tBM K "list" (rCntF K) (tVar i) (tCons (tC (.bl true)) tNil)) σ H (.int (ys.countP (fun z => eqV z (.bl true)) : Nat)) := fun H' e Q q => ⟨_, hs, .inl ⟨rfl, _, SqL.of (e _ _ h)⟩, D, ys, .bl true, rfl, rfl, SqL.of (e _ _ h), rfl, hf, q H' (Ex.refl _)⟩
theorem ev_idx {K : PySem.W.Frag} {σ : L2.St} {H : Hp} {i j : Nat} {D : Addr} {ys : List V} {z : V} (hs : σ[i]? = some (some (.ref D))) (h : H D = some (.lst ys)) (hf : ys.all flatV = true) (hz : ys[j]? = some z) (hq : eqV z (.bl true) = true) (ha : ∀ (m : Nat) (z' : V), m < j → ys[m]? = some z' → eqV z' (.bl true) = false) :
    Ev (tBM K "list" (rIndex K) (tVar i) (tCons (tC (.bl true)) tNil)) σ H (.int (j : Nat)) := fun H' e Q q => ⟨_, hs, .inl ⟨rfl, _, SqL.of (e _ _ h)⟩, D, ys, .bl true, j, z, rfl, rfl, SqL.of (e _ _ h), rfl, hf, hz, hq, ha, q H' (Ex.refl _)⟩
theorem pe_ixsK {X : Cx} {a b : Expr} {ta tb : TE} {pos : Pos} (K : PySem.W.Frag) (hK : X.K = K) (ha : PE X a ta) (hb : PE X b tb) (hs : PlainIx b := by exact fun _ _ => rfl) : PE X (.Subscript a b pos) (tOp (rIx K) ta tb) := by
  subst hK
  exact pe_ix ix_seq ha hb hs
mutual
theorem dp_ex {K : PySem.W.Frag} {H H' : Hp} (e : Ex H H') : ∀ {v : V} {d : PyData}, Dp K H v d → Dp K H' v d
  | _, _, .non => .non
  | _, _, .bl b => .bl b
  | _, _, .int i => .int i
  | _, _, .str x => .str x
  | _, _, .lst h a => .lst (ex_l e h) (dps_ex e a)
  | _, _, .tup h a => .tup (ex_t e h) (dps_ex e a)
theorem dps_ex {K : PySem.W.Frag} {H H' : Hp} (e : Ex H H') : ∀ {vs : List V} {ds : List PyData}, DpAll K H vs ds → DpAll K H' vs ds
  | _, _, .nil => .nil
  | _, _, .cons a b => .cons (dp_ex e a) (dps_ex e b)
end
theorem dps_len {K : PySem.W.Frag} {H : Hp} : ∀ {vs : List V} {ds : List PyData}, DpAll K H vs ds → vs.length = ds.length
  | _, _, .nil => rfl
  | _, _, .cons _ b => by rw [List.length_cons, List.length_cons, dps_len b]
theorem dps_get {K : PySem.W.Frag} {H : Hp} : ∀ {vs : List V} {ds : List PyData}, DpAll K H vs ds → ∀ {i : Nat}, i < ds.length → ∃ v d, vs[i]? = some v ∧ ds[i]? = some d ∧ Dp K H v d
  | _, _, .nil, i, hi => absurd hi (Nat.not_lt_zero _)
  | _, _, .cons (v := v) (d := d) a b, 0, _ => ⟨v, d, rfl, rfl, a⟩
  | _, _, .cons a b, i + 1, hi => by simpa using dps_get b (i := i) (by simpa using hi)
/-- whole numbers in lists and tuples -/
inductive IntD : Nat → PyData → Prop
  | int (n : Nat) (i : Int) : IntD n (.int i)
  | bool (n : Nat) (b : Bool) : IntD n (.bool b)
  | lst {n : Nat} {ds : List PyData} (h : ∀ (i : Nat) (d : PyData), ds[i]? = some d → IntD n d) (hl : ds.length ≤ 1000) : IntD (n + 1) (.list ds)
  | tup {n : Nat} {ds : List PyData} (h : ∀ (i : Nat) (d : PyData), ds[i]? = some d → IntD n d) (hl : ds.length ≤ 1000) : IntD (n + 1) (.tuple ds)
/-- equal data are alike -/
def spAl (K : PySem.W.Frag) (n : Nat) : Sp := fun vs H Q _ => ∃ (m : Nat) (x y : V) (d : PyData), m < n ∧ vs = [x, y] ∧ Dp K H x d ∧ Dp K H y d ∧ IntD m d ∧ ∀ H', Same H H' → Q (.bl true) H'
theorem ev_isi {K : PySem.W.Frag} {σ : L2.St} {H : Hp} {i : Nat} {x : V} {t : Value} {n : String} {b : Bool} (hs : σ[i]? = some (some x)) (ty : ∀ H1, Ex H H1 → TyX K H1 x t) (h : PySem.W.kitOne K t (.type n) = some b) : Ev (tCB (rIsi K) (tCons (tVar i) (tCons (tC (.ty n)) tNil))) σ H (.bl b) :=
  fun H1 e Q q => ⟨_, hs, x, .ty n, t, .type n, b, rfl, .ty n, ty H1 e, h, q H1 (Ex.refl _)⟩
theorem ev_isiT {K : PySem.W.Frag} {σ : L2.St} {H : Hp} {i : Nat} {x : V} {t : Value} {b : Bool} (hs : σ[i]? = some (some x)) (ty : ∀ H1, Ex H H1 → TyX K H1 x t) (h : PySem.W.kitAny K t [.type "tuple", .type "list"] = some b) :
    Ev (tCB (rIsiT K) (tCons (tVar i) (tCons (tTup (tCons (tC (.ty "tuple")) (tCons (tC (.ty "list")) tNil))) tNil))) σ H (.bl b) :=
  fun H1 e Q q => ⟨_, hs, Nat.le_of_lt (small1000 (show 2 ≤ 1000 by decide)), fun p np => ⟨x, p, _, t, _, b, rfl, upd_same, .cons (.ty _) (.cons (.ty _) .nil), ty _ (e.trans (Ex.new np)), h, q _ (Ex.new np)⟩⟩
theorem tyx_lst {K : PySem.W.Frag} {H : Hp} {a : Addr} {xs : List V} (h : SqL K H a xs) : TyX K H (.ref a) (.type "list") := by
  rcases h with (h | ⟨o, h⟩) | ⟨o, its, n, hk, hc, _⟩
  · exact .base (.lst h)
  · exact .base (.frz h)
  · exact .kList hk hc
theorem tyx_tup {K : PySem.W.Frag} {H : Hp} {a : Addr} {xs : List V} (h : SqT K H a xs) : TyX K H (.ref a) (.type "tuple") := by
  rcases h with (h | ⟨o, h⟩) | ⟨o, its, n, hk, hc, _⟩
  · exact .base (.tup h)
  · exact .fTuple h
  · exact .kTuple hk hc
theorem ka_list {K : PySem.W.Frag} : PySem.W.kitAny K (.type "list") [.type "tuple", .type "list"] = some true := kitAny_cons (b := false) (kit_ty (by decide +kernel)) (fun _ => kitAny_cons (b := true) (kit_ty (by decide +kernel)) (fun z => by cases z) fun _ => rfl) (fun z => by cases z)
theorem ka_tuple {K : PySem.W.Frag} : PySem.W.kitAny K (.type "tuple") [.type "tuple", .type "list"] = some true := kitAny_cons (b := true) (kit_ty (by decide +kernel)) (fun z => by cases z) fun _ => rfl
theorem ka_int {K : PySem.W.Frag} : PySem.W.kitAny K (.type "int") [.type "tuple", .type "list"] = some false := kitAny_cons (b := false) (kit_ty (by decide +kernel)) (fun _ => kitAny_cons (b := false) (kit_ty (by decide +kernel)) (fun _ => rfl) (fun z => by cases z)) (fun z => by cases z)
theorem ka_bool {K : PySem.W.Frag} : PySem.W.kitAny K (.type "bool") [.type "tuple", .type "list"] = some false := kitAny_cons (b := false) (kit_ty (by decide +kernel)) (fun _ => kitAny_cons (b := false) (kit_ty (by decide +kernel)) (fun _ => rfl) (fun z => by cases z)) (fun z => by cases z)
theorem ev_lenS {K : PySem.W.Frag} {σ : L2.St} {H : Hp} {i : Nat} {p : Addr} {xs : List V} (hs : σ[i]? = some (some (.ref p))) (h : SqL K H p xs ∨ SqT K H p xs) : Ev (tCB (fun xs H Q => ∃ p ys, xs = [V.ref p] ∧ (SqL K H p ys ∨ SqT K H p ys) ∧ Q (.int ys.length) H) (tCons (tVar i) tNil)) σ H (.int (xs.length : Int)) := fun H1 e Q q =>
  ⟨_, hs, p, xs, rfl, h.elim (fun h => .inl (ex_l e h)) (fun h => .inr (ex_t e h)), q H1 (Ex.refl _)⟩
theorem given_none (n : Nat) (v : Nat → V) : given n (fun _ => false) v = [] := by
  unfold given
  simp
theorem at_nat {α : Type} {xs : List α} {i : Nat} {v : α} (hi : i < xs.length) (h : xs[i]? = some v) : atI xs ((i : Nat) : Int) = some v := by
  unfold atI
  rw [ixN_nat hi]
  exact h
def noE : Expr := .Constant .none 0 ⟨0, 0, 0, 0⟩
def noS : Stmt := .Pass ⟨0, 0, 0, 0⟩
def forB : Stmt → List Stmt
  | .For _ _ b _ _ => b
  | _ => []
def ifB : Stmt → List Stmt
  | .If _ b _ _ => b
  | _ => []
def ifC : Stmt → Expr
  | .If c _ _ _ => c
  | _ => noE
def asgE : Stmt → Expr
  | .Assign _ e _ => e
  | .Expr e _ => e
  | _ => noE
def callA : Expr → Expr
  | .Call _ (a :: _) _ _ => a
  | _ => noE
def lisI (i : Nat) : Expr → Expr
  | .List es _ => es.getD i noE
  | _ => noE
def cmpL : Expr → Expr
  | .Compare l _ _ _ => l
  | _ => noE
def lamP : Expr → Arguments
  | .Lambda p _ _ _ => p
  | _ => ⟨[], [], none, [], [], none, []⟩
def lamB : Expr → Expr
  | .Lambda _ b _ _ => b
  | _ => noE
def lamS : Expr → Scope
  | .Lambda _ _ s _ => s
  | _ => ⟨.function, [], false, false, []⟩
def NoLI (o : HO) : Prop := (∀ xs, o ≠ .lst xs) ∧ ∀ C dx fs, o ≠ .ins C dx fs
theorem tabs_but {T : List (Addr × Str)} {H H' : Hp} (hT : Tabs T H) (k : ∀ b o, H b = some o → NoLI o → H' b = some o) : Tabs T H' := fun p hp => by
  obtain ⟨ps, h1, h2, h3⟩ := hT p hp
  refine ⟨ps, k _ _ h1 ⟨fun xs z => (by cases z), fun C dx fs z => (by cases z)⟩, h2, fun pos cv hc => ?_⟩
  obtain ⟨c, e1, e2⟩ := h3 pos cv hc
  exact ⟨c, e1, k _ _ e2 ⟨fun xs z => (by unfold CodeO at z; cases z), fun C dx fs z => (by unfold CodeO at z; cases z)⟩⟩
theorem tabs_same {T : List (Addr × Str)} {H H' : Hp} (hT : Tabs T H) (s : Same H H') : Tabs T H' := tabs_but hT fun b o e _ => s b o e
theorem tabs_kp {T : List (Addr × Str)} {H H' : Hp} {h c : Addr} (hT : Tabs T H) (d : Dr H h c) (k : Kp h c H H') : Tabs T H' := by
  obtain ⟨_, m, kk, ns, e1, e2, _⟩ := d
  refine tabs_but hT fun b o e n => k b o e (fun z => ?_) (fun z => ?_)
  · rw [z, e1] at e
    cases e
    exact n.1 _ rfl
  · rw [z, e2] at e
    cases e
    exact n.1 _ rfl
theorem Dr.extN {H H' : Hp} {h c : Addr} (d : Dr H h c) (s : ExtN H H') : Dr H' h c := by
  obtain ⟨n, m, k, ns, e1, e2, l⟩ := d
  exact ⟨n, m, k, ns, s _ _ e1 (fun ps z => (by cases z)), s _ _ e2 (fun ps z => (by cases z)), l⟩
theorem TK.extN {K : PySem.W.Frag} {H H' : Hp} (s : ExtN H H') : TK K H H' := fun a xs h => by
  rcases h with (h | ⟨o, h⟩) | h
  · exact .inl (.inl (s _ _ h fun ps z => by cases z))
  · exact .inl (.inr ⟨o, s _ _ h fun ps z => by cases z⟩)
  · exact .inr h
theorem Dr.nh {H : Hp} {h c b : Addr} (d : Dr H h c) (n : H b = none) : b ≠ h ∧ b ≠ c := by
  obtain ⟨_, m, kk, ns, e1, e2, _⟩ := d
  refine ⟨fun z => ?_, fun z => ?_⟩
  · rw [z, e1] at n
    cases n
  · rw [z, e2] at n
    cases n
def tI (i : Int) : TE := tC (.int i)
def tP (a b : TE) : TE := tTup (tCons a (tCons b tNil))
def rPw : R2 := rI CPow fun i j => .int (i ^ j.toNat)
def rAd : R2 := rI0 fun i j => .int (i + j)
def tMn (a : TE) : TE := tUn (rU fun i => .int (-i)) a
theorem ev_tI {σ : L2.St} {H : Hp} {i : Int} : Ev (tI i) σ H (.int i) := ev_c
theorem ev_pw {σ : L2.St} {H : Hp} {a b : TE} {i j : Int} (ha : Ev a σ H (.int i)) (hb : Ev b σ H (.int j)) (h : CPow i j) : Ev (tOp rPw a b) σ H (.int (i ^ j.toNat)) := ev_op ha hb (rv_I h)
theorem ev_ad {σ : L2.St} {H : Hp} {a b : TE} {i j : Int} (ha : Ev a σ H (.int i)) (hb : Ev b σ H (.int j)) : Ev (tOp rAd a b) σ H (.int (i + j)) := ev_op ha hb rv_I0
theorem ev_mn {σ : L2.St} {H : Hp} {a : TE} {i : Int} (ha : Ev a σ H (.int i)) : Ev (tMn a) σ H (.int (-i)) := ev_un ha ru_neg
theorem eu_ifT {t : TT} {ta tb : TE} {σ : L2.St} {H : Hp} {xs : List V} (h : EvT t σ H true) (h1 : EvU ta σ H xs) : EvU (tIf t ta tb) σ H xs := fun H1 e Q q => h H1 e _ fun H2 e2 => iteT (h1 H2 (e.trans e2) _ fun p H3 np e3 hp => q p H3 (fresh_back e2 np) (e2.trans e3) hp)
theorem eu_ifF {t : TT} {ta tb : TE} {σ : L2.St} {H : Hp} {xs : List V} (h : EvT t σ H false) (h1 : EvU tb σ H xs) : EvU (tIf t ta tb) σ H xs := fun H1 e Q q => h H1 e _ fun H2 e2 => iteF (h1 H2 (e.trans e2) _ fun p H3 np e3 hp => q p H3 (fresh_back e2 np) (e2.trans e3) hp)
theorem et_isN {σ : L2.St} {H : Hp} {i : Nat} {v : V} (hs : σ[i]? = some (some v)) : EvT (tTest (tOp (fun x y H Q => y = .non ∧ Q (.bl (decide (x = .non))) H) (tVar i) (tC .non))) σ H (decide (v = .non)) :=
  et_test (ev_op (ev_var hs) ev_c (fun H3 _ Q3 q3 => ⟨rfl, q3 H3 (Ex.refl _)⟩))
theorem eqv_self (d : PyData) (h : SeqAt.shaped d = true) : PyData.eqv d d = true := SeqAt.eqv_refl d (SeqAt.canLay_of_shaped h)
/-! ### expressions that give data, all kept -/
def EvDp (K : PySem.W.Frag) (te : TE) (σ : L2.St) (H : Hp) (d : PyData) : Prop := EvD te σ H fun v H => Dp K H v d
def EvDpA (K : PySem.W.Frag) (ta : TA) (σ : L2.St) (H : Hp) (ds : List PyData) : Prop := ∀ H1, Ex H H1 → ∀ Q : List V → Hp → Prop, (∀ vs H2, Ex H1 H2 → DpAll K H2 vs ds → Q vs H2) → ta σ H1 Q
section
variable {K : PySem.W.Frag} {te tb tx : TE} {ta tr : TA} {σ : L2.St} {H : Hp} {d e : PyData} {ds : List PyData}
theorem edp_ev {v : V} (h : Ev te σ H v) (hd : ∀ H2, Ex H H2 → Dp K H2 v d) : EvDp K te σ H d := ed_of h hd
theorem edp_int {i : Int} (h : Ev te σ H (.int i)) : EvDp K te σ H (.int i) := edp_ev h fun _ _ => .int i
theorem edp_str {x : Str} : EvDp K (tC (.str x)) σ H (.str x) := edp_ev ev_c fun _ _ => .str x
theorem eda_nil : EvDpA K tNil σ H [] := fun H1 _ Q q => q [] H1 (Ex.refl _) .nil
theorem eda_cons (h : EvDp K tx σ H d) (hr : EvDpA K tr σ H ds) : EvDpA K (tCons tx tr) σ H (d :: ds) := fun H1 e Q q =>
  h H1 e _ fun v H2 e2 hv => hr H2 (e.trans e2) _ fun vs H3 e3 hvs => q _ _ (e2.trans e3) (.cons (dp_ex e3 hv) hvs)
theorem edp_lst (h : EvDpA K ta σ H ds) (hl : ds.length ≤ 1000) : EvDp K (tLst ta) σ H (.list ds) := fun H1 e Q q => h H1 e _ fun vs H2 e2 hvs => ⟨Nat.le_of_lt (small1000 (by rw [dps_len hvs]; exact hl)), fun p np => q _ _ (e2.trans (Ex.new np)) (.lst (.of upd_same) (dps_ex (Ex.new np) hvs))⟩
theorem edp_tup (h : EvDpA K ta σ H ds) (hl : ds.length ≤ 1000) : EvDp K (tTup ta) σ H (.tuple ds) := fun H1 e Q q => h H1 e _ fun vs H2 e2 hvs => ⟨Nat.le_of_lt (small1000 (by rw [dps_len hvs]; exact hl)), fun p np => q _ _ (e2.trans (Ex.new np)) (.tup (.of upd_same) (dps_ex (Ex.new np) hvs))⟩
theorem et_neD (h1 : EvDp K te σ H d) (h2 : EvDp K tb σ H e) (s1 : SeqAt.shaped d = true) (s2 : SeqAt.shaped e = true) : EvT (tTest (tOp (rNeD K) te tb)) σ H (!PyData.eqv d e) := fun H1 a Q q =>
  h1 H1 a _ fun v H2 e2 hv => h2 H2 (a.trans e2) _ fun u H3 e3 hu => ⟨d, e, dp_ex e3 hv, hu, s1, s2, _, rfl, q H3 (e2.trans e3)⟩
theorem et_same (h1 : EvDp K te σ H d) (h2 : EvDp K tb σ H d) (s1 : SeqAt.shaped d = true) : EvT (tTest (tOp (rNeD K) te tb)) σ H false := et_is (et_neD h1 h2 s1 s1) (by rw [eqv_self d s1]; rfl)
end
theorem et_al {K : PySem.W.Frag} {ta : TA} {σ : L2.St} {H : Hp} {d : PyData} (hA : EvDpA K ta σ H [d, d]) (hd : IntD 3 d) : EvT (tNot (tB (tCall (spAl K 4) [] E0 ta))) σ H false := fun H1 e Q q =>
  hA H1 e (fun vs H2 => spAl K 4 (vs ++ []) H2 (fun x H3 => ∃ c, x = .bl c ∧ Q (!c) H3) E0) fun vs H2 e2 hvs => by
    cases hvs with
    | cons h1 hr =>
      cases hr with
      | cons h2 hr2 =>
        cases hr2
        exact ⟨3, _, _, d, by decide, rfl, h1, h2, hd, fun H5 s5 => ⟨true, rfl, q H5 (e2.trans s5)⟩⟩
theorem pick2 (a b v : Int) (h0 : 0 ≤ v) (h1 : v < 2) : ∃ w, atI [V.int a, V.int b] v = some (.int w) ∧ (w = a ∨ w = b) := by
  rcases (show v = 0 ∨ v = 1 by omega) with rfl | rfl
  · exact ⟨a, rfl, .inl rfl⟩
  · exact ⟨b, rfl, .inr rfl⟩
theorem ev_eqD {K : PySem.W.Frag} {te tb : TE} {σ : L2.St} {H : Hp} {d : PyData} (h1 : EvDp K te σ H d) (h2 : EvDp K tb σ H d) (s1 : SeqAt.shaped d = true) : Ev (tOp (rEqD K) te tb) σ H (.bl true) := fun H1 a Q q =>
  h1 H1 a _ fun v H2 e2 hv => h2 H2 (a.trans e2) _ fun u H3 e3 hu => ⟨d, d, dp_ex e3 hv, hu, s1, s1, by
    rw [eqv_self d s1]
    exact q H3 (e2.trans e3)⟩
theorem lam_ne {f : Addr} {F : LF} : ∀ ps, LamO f F ≠ .tbl ps := Stands.no_tbl
theorem code_ne {c : Addr} {q : Str} : ∀ ps, CodeO c q ≠ .tbl ps := fun ps z => by
  unfold CodeO at z
  cases z
theorem at_int {α : Type} {xs : List α} {i : Nat} (hi : i < xs.length) : atI xs ((i : Nat) : Int) = some xs[i] := at_nat hi (List.getElem?_eq_getElem hi)
end Sea

set_option Elab.async false
set_option linter.all false
set_option maxRecDepth 100000
set_option maxHeartbeats 4000000
/-! several except clauses, each with a name for the error or without one -/
namespace Sea
open PySem PySem.Spec PyProof.Rows L2
/-- a clause: its class, the slot of its name (if it has one), its suite -/
structure Cla where
  c : Value
  slot : Option Nat
  ts : Addr → Value → Option Addr → TS
def namd (o : Option Nat) (v : Option V) (σ : L2.St) : L2.St := match o with
  | none => σ
  | some i => σ.set i v
/-- behind the suite the name is gone -/
def past (D : Ends) (o : Option Nat) : Ends := { nx := fun σ H => D.nx (namd o none σ) H, rt := D.rt, bk := fun σ H => D.bk (namd o none σ) H, ct := fun σ H => D.ct (namd o none σ) H }
/-- what clauses, tried in turn, wish of the error that the body lets out -/
def wCla (K : PySem.W.Frag) (Wout : WX) (D : Ends) : List Cla → WX
  | [] => Wout
  | x :: r => fun cls d σ H => ∃ b, PySem.W.exmOne K cls x.c = some b ∧ match b with
    | true => ∀ a, H a = none → x.ts a cls d (past D x.slot) (namd x.slot (some (.ref a)) σ) H
    | false => wCla K Wout D r cls d σ H
inductive ClaOk (X : Cx) : ExceptHandler → Cla → Prop
  | bare {x : Str} {c : Value} {ts : Addr → Value → Option Addr → TS} {b₀ : Stmt} {suite : List Stmt} {np pos : Pos} (hc : Names X x c)
      (hsu : ∀ (a : Addr) (oe : Obj) (cls : Value) (d : Option Addr) (pn : List (Addr × Obj)), Zc cls d oe → (∃ vs, oe.data = .fields vs) → PSs (X.suite a ((a, oe) :: pn)) (b₀ :: suite) (ts a cls d)) :
      ClaOk X (.ExceptHandler (some (.Name x np)) none (b₀ :: suite) pos) ⟨c, none, ts⟩
  | named {x n : Str} {i : Nat} {c : Value} {ts : Addr → Value → Option Addr → TS} {b₀ : Stmt} {suite : List Stmt} {np pos : Pos} (hN : X.N.Nodup) (hi : X.N[i]? = some n) (hl : X.env.kindOf n = some .local) (hc : Names X x c)
      (hsu : ∀ (a : Addr) (oe : Obj) (cls : Value) (d : Option Addr) (pn : List (Addr × Obj)), Zc cls d oe → (∃ vs, oe.data = .fields vs) → PSs (X.suite a ((a, oe) :: pn)) (b₀ :: suite) (ts a cls d)) :
      ClaOk X (.ExceptHandler (some (.Name x np)) (some n) (b₀ :: suite) pos) ⟨c, some i, ts⟩
inductive ClasOk (X : Cx) : List ExceptHandler → List Cla → Prop
  | nil : ClasOk X [] []
  | cons {h : ExceptHandler} {x : Cla} {hs : List ExceptHandler} {xs : List Cla} (a : ClaOk X h x) (r : ClasOk X hs xs) : ClasOk X (h :: hs) (x :: xs)
/-- the error at a is caught: s is the state in which the clauses are tried; what it was without the error's own objects is told by src -/
structure Caught (X : Cx) (pins : List (Addr × Obj)) (σ : L2.St) (H : Hp) (a : Addr) (cls : Value) (d : Option Addr) (s : Shared) : Prop where
  free : H a = none
  src : ∃ (B : Heap) (s0 : Shared), Inv X pins σ H s0 ∧ (∀ b o, s0.heap.get? b = some o → b ∉ frs X.stack → B.get? b = some o) ∧ s0.heap.UpToSlots s.heap ∧ HandSPX.FlyingZ B X.stack a (Zc cls d) s.heap ∧ s.os = s0.os ∧ AllBare s.gens
section
variable {X : Cx} {pins : List (Addr × Obj)} {σ : L2.St} {H : Hp} {a : Addr} {cls : Value} {d : Option Addr} {s : Shared} {W : WX} {D : Ends}
theorem Caught.inv (c : Caught X pins σ H a cls d s) : Inv X pins σ H s :=
  let ⟨_, _, I, nb, up, fl, os, ag⟩ := c.src
  I.landed nb fl.1 up os ag
/-- its object is none of the frames' -/
theorem Caught.obj (c : Caught X pins σ H a cls d s) : ∃ oe, s.heap.get? a = some oe ∧ Zc cls d oe ∧ (∃ vs, oe.data = .fields vs) ∧ a ∉ frs X.stack := by
  obtain ⟨B, s0, _, _, _, ⟨_, _, frames, oe, vs, _, _, _, there, z, rec, _⟩, _⟩ := c.src
  refine ⟨oe, there, z, ⟨vs, rec⟩, fun m => ?_⟩
  obtain ⟨_, o, at_, other⟩ := frames.mem m
  cases there.symm.trans at_
  exact other vs rec
/-- the flight is set to none once more -/
theorem Caught.land {M : Model} {A : Around} {E : Value → Shared → Prop} {Q : Unit → Shared → Prop} (c : Caught X pins σ H a cls d s) (k : ∀ s', Caught X pins σ H a cls d s' → Q () s') : wpAny M A (setFlight (.ref a) none) Q E s :=
  let ⟨B, s0, I, nb, up, fl, os, ag⟩ := c.src
  HandSPX.lands_againZ fl fun h fl' more => k { s with heap := h } ⟨c.free, B, s0, I, nb, up.trans more, fl', os, ag⟩
/-- within a suite -/
theorem Caught.within (hs : X.stack = X.env :: X.outer) (hf : X.env.frame = some X.env.locals) (c : Caught X pins σ H a cls d s) : ∃ oe, Zc cls d oe ∧ (∃ vs, oe.data = .fields vs) ∧ s.heap.get? a = some oe ∧ Inv (X.suite a ((a, oe) :: (X.pn ++ pins))) [] σ H s := by
  obtain ⟨oe, there, z, ⟨vs, rec⟩, nf⟩ := c.obj
  rw [hs] at nf
  have n1 : a ≠ X.env.locals := fun e => nf (List.mem_filterMap.mpr ⟨X.env, List.mem_cons_self, by rw [hf, e]⟩)
  have n2 : a ∉ X.fs := fun m => nf (let ⟨e, he, q⟩ := List.mem_filterMap.mp m; List.mem_filterMap.mpr ⟨e, List.mem_cons_of_mem _ he, q⟩)
  exact ⟨oe, z, ⟨vs, rec⟩, there, c.inv.suite there rec c.free n1 n2⟩
/-- the class that a clause names is read -/
theorem Caught.test (hs : X.stack = X.env :: X.outer) (hf : X.env.frame = some X.env.locals) (c : Caught X pins σ H a cls d s) {x : Str} {v : Value} {p : Pos} (nm : Names X x v) {Q E : Value → Shared → Prop} (q : Q v s) :
    wpAny (model X.prog X.w) (X.A.mark (some (.ref a))) (eval (.Name x p) X.env) Q E s :=
  let ⟨_, _, _, _, S⟩ := c.within hs hf
  match nm with
  | ⟨g, dbg, .inl m⟩ => ld_glob S g m q dbg
  | ⟨g, dbg, .inr ⟨m, b, n⟩⟩ => ld_blt S g m b q n dbg
/-- one clause is tried -/
theorem Caught.clause (hs : X.stack = X.env :: X.outer) (hf : X.env.frame = some X.env.locals) (c : Caught X pins σ H a cls d s) {h : ExceptHandler} {x : Cla} {rest : List ExceptHandler} (ok : ClaOk X h x) {b : Bool} (one : PySem.W.exmOne X.K cls x.c = some b)
    (yes : b = true → x.ts a cls d (past D x.slot) (namd x.slot (some (.ref a)) σ) H) (no : b = false → wpAny (model X.prog X.w) X.A (handleBy (.ref a) X.env rest) (SP X pins D) X.xe s) :
    wpAny (model X.prog X.w) X.A (handleBy (.ref a) X.env (h :: rest)) (SP X pins D) X.xe s := by
  have frame := c.inv.ok
  have ty : PySem.W.Looks (model X.prog X.w) s.heap (typeOf (.ref a)) cls := by
    obtain ⟨oe, there, z, _⟩ := c.obj
    exact fun A Q E s' keep q => wpAny_typeOf_ref (keep _ _ there) (z.1.symm ▸ q)
  have match_ := PySem.W.exm_one c.inv.kIn ty one
  cases ok with
  | bare nm su =>
    refine wpAny_handleBy_cons (codeAny_handlers_test (c.test hs hf nm (match_.here ?_))) nofun
    cases b with
    | false => exact no rfl
    | true =>
      refine codeAny_handlers_suite (c.land fun s2 c2 => ?_)
      obtain ⟨oe, z, rec, _, S⟩ := c2.within hs hf
      refine wpAny_mono ((su a oe cls d _ z rec).run [] s2 _ H _ S (yes rfl)) (fun f s3 out => ?_) fun _ _ z => z.elim
      match f, out with
      | .next, ⟨_, _, S3, q⟩ => exact ⟨_, _, S3.unsuite frame, q⟩
      | .brk, ⟨_, _, S3, q⟩ => exact ⟨_, _, S3.unsuite frame, q⟩
      | .cont, ⟨_, _, S3, q⟩ => exact ⟨_, _, S3.unsuite frame, q⟩
      | .ret _, ⟨_, _, _, S3, r, q⟩ => exact ⟨_, _, _, S3.unsuite frame, r, q⟩
  | named nd hi hl nm su =>
    refine wpAny_handleBy_cons (codeAny_handlers_test (c.test hs hf nm (match_.here ?_))) nofun
    cases b with
    | false => exact no rfl
    | true =>
      refine codeAny_handlers_suite_as (c.land fun s2 c2 => ?_)
      obtain ⟨oe, z, rec, _, S⟩ := c2.within hs hf
      refine store_ok (X := X.suite a ((a, oe) :: (X.pn ++ pins))) (v := .ref a) S nd hi (.inl hl) rfl (fun s3 S3 => ?_) (.inr hl)
      refine wpAny_mono ((su a oe cls d _ z rec).run [] s3 _ H _ S3 (yes rfl)) (fun f s4 out => ?_) fun _ _ z => z.elim
      match f, out with
      | .next, ⟨_, _, S4, q⟩ => exact gone_ok (S4.unsuite frame) nd hi hl fun _ J => ⟨_, _, J, q⟩
      | .brk, ⟨_, _, S4, q⟩ => exact gone_ok (S4.unsuite frame) nd hi hl fun _ J => ⟨_, _, J, q⟩
      | .cont, ⟨_, _, S4, q⟩ => exact gone_ok (S4.unsuite frame) nd hi hl fun _ J => ⟨_, _, J, q⟩
      | .ret _, ⟨_, _, _, S4, r, q⟩ => exact gone_ok (S4.unsuite frame) nd hi hl fun _ J => ⟨_, _, _, J, r, q⟩
/-- no clause is left: it goes on from here -/
theorem Caught.out (hs : X.stack = X.env :: X.outer) (hf : X.env.frame = some X.env.locals) (tk : Takes X W) (c : Caught X pins σ H a cls d s) (w : W cls d σ H) {Q : Flow → Shared → Prop} : wpAny (model X.prog X.w) X.A (handleBy (.ref a) X.env []) Q X.xe s := by
  obtain ⟨na, B, s0, I, nb, up, fl, os, ag⟩ := c
  obtain ⟨oe, vs, T, _, _, there, _, rec, trace, _⟩ := id fl.2.2.2
  have leaves : wpAny (model X.prog X.w) X.A (setFlight (.ref a) X.env.frame) (fun _ s1 => wpAny (model X.prog X.w) X.A (throw (.ref a) : Sem Flow) Q X.xe s1) X.xe s :=
    hf ▸ HandSPX.setFlight_upZ fl fun h held more => wpAny_throw (tk (.ref a) _ ⟨a, B, s0, pins, σ, H, cls, d, rfl, I, nb, up.trans more, .inr (.inr held), na, os, ag, w⟩)
  have has : (Value.ref T == Value.none) = false := rfl
  refine wpAny_handleBy_nil (wpAny_bind (wpAny_field there rec trace ?_))
  simp only [has, Bool.false_eq_true, if_false]
  first
    | exact wpAny_bind leaves
    | exact wpAny_bind (wpAny_pure (wpAny_bind leaves))
/-- clauses, tried in turn -/
theorem Caught.turns (hs : X.stack = X.env :: X.outer) (hf : X.env.frame = some X.env.locals) (tk : Takes X W) (c : Caught X pins σ H a cls d s) : ∀ {l : List ExceptHandler} {xs : List Cla}, ClasOk X l xs → wCla X.K W D xs cls d σ H →
    wpAny (model X.prog X.w) X.A (handleBy (.ref a) X.env l) (SP X pins D) X.xe s
  | _, _, .nil, w => c.out hs hf tk w
  | _, _, .cons ok r, ⟨true, one, w⟩ => c.clause hs hf ok one (fun _ => w a c.free) nofun
  | _, _, .cons ok r, ⟨false, one, w⟩ => c.clause hs hf ok one nofun fun _ => c.turns hs hf tk r w
/-- try: body, several except clauses -/
theorem ps_try_cls {body : List Stmt} {h₀ : ExceptHandler} {l : List ExceptHandler} {xs : List Cla} {pos : Pos} {tb : WX → TS} (hs : X.stack = X.env :: X.outer) (hf : X.env.frame = some X.env.locals) (tk : Takes X W)
    (hb : ∀ (U : WX) (pn : List (Addr × Obj)) (xe : Value → Shared → Prop), Takes (X.tr pn xe) U → PassesOwn (model X.prog X.w) X.A X.env xe → PSs (X.tr pn xe) body (tb U)) (hl : ClasOk X (h₀ :: l) xs) :
    PS X (.Try body (h₀ :: l) [] [] pos) (fun D σ H => tb (wCla X.K W D xs) D σ H) := by
  constructor
  intro pins s σ H D I h
  have frame := I.ok
  have top : X.A.frames = some (X.env :: X.outer) := hs ▸ frame.frames
  apply wpAny_Try_except
  refine wpAny_mono ((hb (wCla X.K W D xs) (X.pn ++ pins) _ ?_ PassesOwn.looking).run [] s σ H D (I.toTry _) h) ?_ fun _ _ z => z
  · rintro u s' ⟨a, B, s0, pn, σ', H', cls, d, rfl, J, nb, up, sky, na, os, ag, w⟩
    exact Sky.land Zc.steady top hf (hs ▸ sky) fun hp fl more => Caught.turns hs hf tk (s := { s' with heap := hp }) ⟨na, B, s0, J.ofTry frame, nb, up.trans more, hs ▸ fl, os, ag⟩ hl w
  · rintro f s1 out
    match f, out with
    | .next, ⟨_, _, J, q⟩ => exact wpAny_execs_nil ⟨_, _, J.ofTry frame, q⟩
    | .brk, ⟨_, _, J, q⟩ => exact ⟨_, _, J.ofTry frame, q⟩
    | .cont, ⟨_, _, J, q⟩ => exact ⟨_, _, J.ofTry frame, q⟩
    | .ret _, ⟨_, _, _, J, r, q⟩ => exact ⟨_, _, _, J.ofTry frame, r, q⟩
end
end Sea

set_option Elab.async false
set_option linter.all false
set_option maxRecDepth 100000
set_option maxHeartbeats 4000000
/-! dicts whose keys are (a whole number, a whole number, a tuple of whole numbers) and whose values are whole numbers: k not in d, d[k], d[k] = v -/
namespace Sea
open PySem PySem.Spec PyProof.Rows L2 LamX NdefX ClX Evl StX
abbrev NK := Int × Int × List Int
def nk (k : NK) : NestedKey := .tup [.num k.1, .num k.2.1, .tup (k.2.2.map .num)]
theorem num_inj : ∀ {xs ys : List Int}, xs.map NestedKey.num = ys.map NestedKey.num → xs = ys
  | [], [], _ => rfl
  | [], _ :: _, e => by cases e
  | _ :: _, [], e => by cases e
  | x :: xs, y :: ys, e => by
    rw [List.map_cons, List.map_cons] at e
    injection e with e1 e2
    injection e1 with e1
    rw [e1, num_inj e2]
theorem nk_inj {k j : NK} (e : nk k = nk j) : k = j := by
  obtain ⟨a, b, c⟩ := k
  obtain ⟨a', b', c'⟩ := j
  unfold nk at e
  injection e with e
  injection e with e1 e
  injection e with e2 e
  injection e with e3 _
  injection e1 with e1
  injection e2 with e2
  injection e3 with e3
  rw [show a = a' from e1, show b = b' from e2, show c = c' from num_inj e3]
theorem nk_dep (k : NK) : (nk k).depth ≤ 8 := by
  have h : ∀ xs : List Int, NestedKey.depthAll (xs.map .num) = 0 := fun xs => by
    induction xs with
    | nil => rfl
    | cons x r ih =>
      show max 0 (NestedKey.depthAll (r.map .num)) = 0
      rw [ih]
      rfl
  show max 0 (max 0 (max (NestedKey.depthAll (k.2.2.map .num) + 1) 0)) + 1 ≤ 8
  rw [h]
  decide
/-- the value y in H is the key k -/
def KeyAt (K : PySem.W.Frag) (H : Hp) (y : V) (k : NK) : Prop := ∃ b m, y = .ref b ∧ SqT K H b [.int k.1, .int k.2.1, .ref m] ∧ SqT K H m (k.2.2.map V.int)
theorem KeyAt.tk {K : PySem.W.Frag} {H H' : Hp} {y : V} {k : NK} (t : TK K H H') (h : KeyAt K H y k) : KeyAt K H' y k := by
  obtain ⟨b, m, e, h1, h2⟩ := h
  exact ⟨b, m, e, t _ _ h1, t _ _ h2⟩
theorem nums_all {h : Heap} : ∀ {xs : List Int} {us : List Value}, Vals (xs.map V.int) us → NestedAll h (xs.map .num) us
  | [], _, r => by cases r; exact .nil
  | x :: xs, _, r => by
    rw [List.map_cons] at r
    cases r with
    | cons a b =>
      obtain ⟨t, rfl⟩ := a
      exact .cons (.int x t) (nums_all b)
section
variable {X : Cx} {pins : List (Addr × Obj)} {σ : L2.St} {H : Hp} {s : Shared}
theorem tup_nested {a : Addr} {xs : List V} {ks : List NestedKey} (I : Inv X pins σ H s) (h : SqT X.K H a xs) (hk : ∀ us, Vals xs us → NestedAll s.heap ks us) : NestedIs s.heap (.tup ks) (.ref a) := by
  obtain ⟨its, r, ⟨o, h1, h2, n, h3⟩, _⟩ := I.tuple h
  exact .tup h1 h2 h3 (by simpa using hk its r)
theorem key_nested {y : V} {u : Value} {k : NK} (I : Inv X pins σ H s) (h : KeyAt X.K H y k) (ry : RelV y u) : ∃ b, u = .ref b ∧ y = .ref b ∧ (nestedKind X.prog X.w).is s.heap (nk k) b := by
  obtain ⟨b, m, rfl, h1, h2⟩ := h
  refine ⟨b, ry, rfl, tup_nested I h1 fun us r => ?_, nk_dep k⟩
  match us, r with
  | _, .cons ⟨t1, e1⟩ (.cons ⟨t2, e2⟩ (.cons e3 .nil)) =>
    subst e1 e2 e3
    exact .cons (.int _ _) (.cons (.int _ _) (.cons (tup_nested I h2 fun us r => nums_all r) .nil))
end
/-- an entry: the key, where it stands, the number -/
abbrev NE := NK × Addr × Int
def NEr : NE → (NestedKey × Addr × Value) → Prop := fun p q => q.1 = nk p.1 ∧ q.2.1 = p.2.1 ∧ ∃ t, q.2.2 = Value.int p.2.2 t
/-- the dict at a with the entries ks -/
def NdO (P : Program) (w : World) (a : Addr) (ks : List NE) : HO := .ext fun h => ks.length ≤ sizeLine ∧ (a == sysModules) = false ∧ ∃ xs, Paired NEr ks xs ∧
  ∃ o es ep, h.get? a = some o ∧ o.ExactDict ∧ o.data = .dict es ep ∧ es.toList = xs.map (entryOfKey (nestedKind P w)) ∧ (xs.map (·.1)).Nodup
def fnd (ks : List NE) (k : NK) : Option Int := (ks.find? fun p => decide (p.1 = k)).map (·.2.2)
def KeysIn (K : PySem.W.Frag) (H : Hp) (ks : List NE) : Prop := ∀ p ∈ ks, KeyAt K H (.ref p.2.1) p.1
theorem KeysIn.tk {K : PySem.W.Frag} {H H' : Hp} {ks : List NE} (t : TK K H H') (h : KeysIn K H ks) : KeysIn K H' ks := fun p hp => (h p hp).tk t
theorem KeysIn.snoc {K : PySem.W.Frag} {H : Hp} {ks : List NE} {k : NK} {b : Addr} {n : Int} (h : KeysIn K H ks) (g : KeyAt K H (.ref b) k) : KeysIn K H (ks ++ [(k, b, n)]) := fun p hp => by
  rcases List.mem_append.mp hp with hp | hp
  · exact h p hp
  · rw [List.mem_singleton] at hp
    subst hp
    exact g
theorem at_fnd {ks : List NE} {xs : List (NestedKey × Addr × Value)} (r : Paired NEr ks xs) (k : NK) :
    (fnd ks k = none ∧ atKey xs (nk k) = none) ∨ ∃ n b t, fnd ks k = some n ∧ atKey xs (nk k) = some (b, Value.int n t) := by
  induction r with
  | nil => exact .inl ⟨rfl, rfl⟩
  | @cons p q ps qs h r ih =>
    obtain ⟨e1, e2, t, e3⟩ := h
    by_cases e : p.1 = k
    · refine .inr ⟨p.2.2, q.2.1, t, ?_, ?_⟩
      · unfold fnd
        rw [List.find?_cons, decide_eq_true e]
        rfl
      · unfold atKey
        rw [List.find?_cons, decide_eq_true (by rw [e1, e])]
        show some (q.2.1, q.2.2) = _
        rw [e3]
    · have e' : ¬ q.1 = nk k := fun z => e (nk_inj (e1.symm.trans z))
      unfold fnd atKey at ih ⊢
      rw [List.find?_cons, decide_eq_false e, List.find?_cons, decide_eq_false e']
      exact ih
theorem pair_mem {α β : Type} {F : α → β → Prop} {x : β} : ∀ {l : List α} {m : List β}, Paired F l m → x ∈ m → ∃ p ∈ l, F p x
  | _, _, .nil, h => nomatch h
  | p :: _, _, .cons f _, .head _ => ⟨p, .head _, f⟩
  | _, _, .cons _ r, .tail _ h => let ⟨p, hp, f⟩ := pair_mem r h; ⟨p, .tail _ hp, f⟩
section
variable {P : Program} {w : World}
theorem nd_no {K : PySem.W.Frag} {H : Hp} {a : Addr} {ks : List NE} (e : H a = some (NdO P w a ks)) (xs : List V) : ¬ Rd H a (.tup xs) := by
  rintro (z | ⟨o, z⟩)
  · rw [e] at z
    cases z
  · rw [e] at z
    cases z
theorem nd_ok {H : Hp} {h : Heap} {a : Addr} {ks : List NE} (x : ObjOk P w H h a (NdO P w a ks)) (hk : ∀ p ∈ ks, (nestedKind P w).is h (nk p.1) p.2.1) : ks.length ≤ sizeLine ∧ (a == sysModules) = false ∧ ∃ xs, Paired NEr ks xs ∧ h.DictOfH (nestedKind P w) a xs := by
  obtain ⟨⟨few, low, xs, r, o, es, ep, at_, ex, dat, ents, nd⟩, _⟩ := x
  exact ⟨few, low, xs, r, o, es, ep, at_, ex, dat, ents, fun x hx => let ⟨p, hp, e1, e2, _⟩ := pair_mem r hx; e1 ▸ e2 ▸ hk p hp, nd⟩
theorem nd_mk {H : Hp} {h : Heap} {a : Addr} {ks : List NE} {xs : List (NestedKey × Addr × Value)} (z : ks.length ≤ sizeLine) (hd : (a == sysModules) = false) (r : Paired NEr ks xs) (d : h.DictOfH (nestedKind P w) a xs) : ObjOk P w H h a (NdO P w a ks) := by
  obtain ⟨o, es, ep, h1, h2, h3, h4, _, h5⟩ := d
  exact ⟨⟨z, hd, xs, r, o, es, ep, h1, h2, h3, h4, h5⟩, ⟨o, h1⟩, fun h1 h2 ⟨z, hd, xs, r, o, es, ep, g1, g2⟩ st => ⟨z, hd, xs, r, o, es, ep, st _ g1, g2⟩⟩
end
section
variable {X : Cx} {pins : List (Addr × Obj)} {σ : L2.St} {H : Hp} {s : Shared} {pos : Pos}
theorem nd_at {a : Addr} {ks : List NE} (I : Inv X pins σ H s) (e : H a = some (NdO X.prog X.w a ks)) (k : KeysIn X.K H ks) : ks.length ≤ sizeLine ∧ (a == sysModules) = false ∧ ∃ xs, Paired NEr ks xs ∧ s.heap.DictOfH (nestedKind X.prog X.w) a xs :=
  nd_ok (I.hok a _ e) fun p hp => by
    obtain ⟨b, _, e, h⟩ := key_nested I (k p hp) rfl
    cases e
    exact h
/-- {}, to be such a dict -/
def tNd (P : Program) (w : World) : TE := fun _ H Q => ∀ p, H p = none → Q (.ref p) (upd H p (NdO P w p []))
theorem pe_nd : PE X (.Dict [] [] pos) (tNd X.prog X.w) := ⟨fun pins s σ H Q I h =>
  wpAny_Dict_empty ⟨.ref s.heap.objs.size, _, I.laid (a := s.heap.objs.size) (o := NdO X.prog X.w s.heap.objs.size []) (t' := s.toks) (fun _ _ q => Heap.get?_push_of_some _ q) (Nat.le_refl _)
    (nd_mk (Nat.zero_le _) (beq_eq_false_iff_ne.mpr (Ne.symm (Nat.ne_of_lt I.big))) .nil (.new s.heap)), rfl, h _ (I.hok.fresh (Nat.le_refl _))⟩⟩
def rNdNot (P : Program) (w : World) (K : PySem.W.Frag) : R2 := fun y d H Q => ∃ a ks k, d = .ref a ∧ H a = some (NdO P w a ks) ∧ KeysIn K H ks ∧ KeyAt K H y k ∧ Q (.bl (!(fnd ks k).isSome)) H
theorem op_ndNot (hu : X.A.units + 9 < cLine) : OpR X (compareOp .NotIn) (rNdNot X.prog X.w X.K) := by
  intro pins s σ H x y v u Q I rx ry h
  obtain ⟨a, ks, k, rfl, e, hk, hy, q⟩ := h
  obtain ⟨b, rfl, _, hb⟩ := key_nested I hy rx
  obtain rfl : u = Value.ref a := ry
  obtain ⟨_, hd, xs, r, dd⟩ := nd_at I e hk
  have es : (fnd ks k).isSome = (atKey xs (nk k)).isSome := by
    rcases at_fnd r k with ⟨e1, e2⟩ | ⟨n, b', t, e1, e2⟩
    · rw [e1, e2]
      rfl
    · rw [e1, e2]
      rfl
  rw [es] at q
  exact wpAny_notIn_heap (knd := nestedKind X.prog X.w) (by show X.A.in1.units + 8 < cLine; rw [Around.in1_units]; omega) hb hd dd ⟨.bl (!(atKey xs (nk k)).isSome), H, I.tok _, rfl, q⟩
def rNdIx (P : Program) (w : World) (K : PySem.W.Frag) : R2 := fun d y H Q => ∃ a ks k n, d = .ref a ∧ H a = some (NdO P w a ks) ∧ KeysIn K H ks ∧ KeyAt K H y k ∧ fnd ks k = some n ∧ Q (.int n) H
theorem pe_ndIx {o i : Expr} {td ty : TE} (hu : X.A.units + 9 < cLine) (ho : PE X o td) (hi : PE X i ty) (hs : NoSl i) : PE X (.Subscript o i pos) (tOp (rNdIx X.prog X.w X.K) td ty) := by
  refine ⟨fun pins s σ H Q I h => ?_⟩
  refine subD_of PySem.F.slot_dict_getitem.lookup hs (thn (ho.run pins s σ H _ I h) fun u s1 ⟨x, H1, I1, rx, q1⟩ => thn (hi.run pins s1 σ H1 _ I1 q1) fun iv s2 ⟨y, H2, I2, ry, a, ks, k, n, ex, e, hk, hy, hn, q2⟩ => ?_)
  subst ex
  obtain rfl : u = Value.ref a := rx
  obtain ⟨b, rfl, _, hb⟩ := key_nested I2 hy ry
  obtain ⟨_, hd, xs, r, dd⟩ := nd_at I2 e hk
  refine ⟨dd.typeIs, ?_⟩
  rcases at_fnd r k with ⟨e1, _⟩ | ⟨n', b', t, e1, e2⟩
  · rw [hn] at e1
    cases e1
  · rw [hn] at e1
    cases e1
    exact wpAny_getItem_heap (knd := nestedKind X.prog X.w) (by show X.A.in1.units + 8 < cLine; rw [Around.in1_units]; omega) hb dd e2 ⟨.int n, H2, I2.tok _, ⟨t, rfl⟩, q2⟩
def rNdSet (P : Program) (w : World) (K : PySem.W.Frag) : TSet := fun o i v H Q => ∃ a ks k b n, o = .ref a ∧ i = .ref b ∧ v = .int n ∧ H a = some (NdO P w a ks) ∧ KeysIn K H ks ∧ KeyAt K H i k ∧ fnd ks k = none ∧ ks.length < sizeLine ∧ Q (upd H a (NdO P w a (ks ++ [(k, b, n)])))
theorem set_nd (hu : X.A.units + 9 < cLine) : PSet X (rNdSet X.prog X.w X.K) := by
  intro pins s σ H o i v ov iv u Q I ro ri rv h
  obtain ⟨a, ks, k, b, n, rfl, rfl, rfl, e, hk, hy, hn, hl, q⟩ := h
  obtain ⟨b', rfl, e2, hb⟩ := key_nested I hy ri
  cases e2
  obtain rfl : ov = Value.ref a := ro
  obtain ⟨t, rfl⟩ := rv
  obtain ⟨z, hd, xs, r, dd⟩ := nd_at I e hk
  have hz : xs.length ≤ sizeLine := by rw [← Paired.length r]; exact z
  refine wpAny_setItem_heap (hsz := hz) (knd := nestedKind X.prog X.w) (by show X.A.in1.units + 8 < cLine; rw [Around.in1_units]; omega) hb dd fun h' dd' sb => ⟨_, ?_, q⟩
  have e0 : atKey xs (nk k) = none := by
    rcases at_fnd r k with ⟨_, e2⟩ | ⟨n', b', t, e1, _⟩
    · exact e2
    · rw [hn] at e1
      cases e1
  rw [storedH_new e0] at dd'
  obtain ⟨ob, hob⟩ : ∃ ob, h'.get? a = some ob := let ⟨ob, _, _, g, _⟩ := dd'; ⟨ob, g⟩
  exact d_write I (by rw [e]; exact True.intro) sb ⟨ob, hob⟩ (nd_mk (by rw [List.length_append]; show ks.length + 1 ≤ _; omega) hd (Paired.snoc r ⟨rfl, rfl, t, rfl⟩) dd')
end
end Sea

set_option Elab.async false
set_option linter.all false
set_option maxRecDepth 100000
set_option maxHeartbeats 4000000
/-! a method whose first row is super().__init__(e) -/
namespace Sea
open PySem PySem.Spec PyProof.Rows L2 LamX NdefX ClX Evl StX
structure FunC (K : PySem.W.Frag) (x qual : Str) (st : Stmt) (cc cda f : Addr) (fd : FuncData) : Prop where
  ex : ∃ (oc : Value) (od : Option Addr) (kV doc pm : Value) (an : Option Addr) (ct : Value) (osl : Array (Option Value)),
    fd = PySem.W.fnX x qual (defArgs st) (defBody st) (defScope st) [("__class__", cc)] .none kV doc pm an (.ref cda) ct ∧ K.lookup f = some ⟨oc, od, .func fd, osl⟩
  cd : PySem.W.codeIn K (.ref cda) qual = true
  kp : PySem.W.keepIn K (.ref f) = true
/-- what super().m asks of the text, for an instance of D itself -/
structure SupT (P : Program) (K : PySem.W.Frag) (mg : Str → Option Value) (D cc cda f2 : Addr) (m : Str) : Prop where
  code : ∃ (ccl : Value) (cdd : Option Addr) (vs : Array Value) (ccs : Array (Option Value)) (file : Str) (tf : Tok), K.lookup cda = some ⟨ccl, cdd, .fields vs, ccs⟩ ∧ vs[2]? = some (.str file tf) ∧ ((P.main.file : Str) == file) = true
  cell : ∃ (cl : Value) (cld : Option Addr) (csl : Array (Option Value)), K.lookup cc = some ⟨cl, cld, .cell (some (.ref D)), csl⟩
  cls : ∃ cd, PySem.W.clsIn K D = some cd
  sub : PySem.W.mroIn K D (.ref D) = some true
  mS : mg "super" = none
  top : (P.main.scope.names.lookup ("super" : Str)).isSome = false
  opq : PySem.W.nsIn K cStatics "thirdparty.any" = some none
  meth : PySem.W.ks_superIn K D D m = some (some (.ref f2))
  ty : PySem.W.typeIn K (.ref f2) = some (.type "function")
  fi : PySem.W.fnIn K f2 = true
theorem boot_super : bootBuiltins "super" = some (.type "super") := by kernel_rfl
section
variable {P : Program} {w : World} {K : PySem.W.Frag} {mg : Str → Option Value} {base : Heap} {D cc cda f f2 : Addr} {x qual : Str} {st : Stmt} {fd fd2 : FuncData} {N ps ps2 : List Str} {sp sp2 : Sp} {k : Nat}
abbrev supF (x qual : Str) (st : Stmt) (cc cda : Addr) : NF := ⟨x, qual, defArgs st, defBody st, defScope st, [("__class__", cc)], cda⟩
theorem class_cell {H : Hp} {s : Shared} {A : Around} {outer : List Env} (e0 : Env0 P w K mg base A outer s H) (hc : ∃ (cl : Value) (cld : Option Addr) (csl : Array (Option Value)), K.lookup cc = some ⟨cl, cld, .cell (some (.ref D)), csl⟩) :
    CellsAt [("__class__", cc)] ["__class__"] [none] s.heap H := by
  obtain ⟨cl, cld, csl, hc⟩ := hc
  have hb := e0.bs _ _ (e0.mod.kin _ _ hc)
  have only : ∀ (y : Str) (c : Addr), ([("__class__", cc)] : List (Str × Addr)).lookup y = some c → y = "__class__" ∧ c = cc := fun y c e => by
    rw [List.lookup_cons] at e
    split at e
    · rename_i h
      cases e
      exact ⟨by simpa using h, rfl⟩
    · cases e
  refine ⟨rfl, fun y c e => ?_, fun x y c e1 e2 => ?_, fun i y e => ?_⟩
  · obtain ⟨_, rfl⟩ := only y c e
    exact ⟨hb.2, _, _, hb.1, rfl⟩
  · rw [(only x c e1).1, (only y c e2).1]
  · match i, e with
    | 0, e =>
      cases e
      exact ⟨cc, rfl, fun v z => by cases z⟩
/-- the end of the body is the end of the call -/
theorem body_end {F : NF} {A : Around} {outer : List Env} {s s' : Shared} {H : Hp} {E : XK} {Q : VK} {pins : List (Addr × Obj)} : ∀ (fl : Flow), SP (ncx (L2.CX P w) P w K mg base N F f A outer s H E) pins { nx := fun _ H' => Q .non H', rt := Q } fl s' →
    CR (L2.CX P w) outer P w H s Q E (.ok (.ret (match fl with | .ret v => v | _ => .none))) s'
  | .ret _, ⟨v, _, H', J, r, q⟩ => ⟨v, H', J.os, J.bare, J.base, J.hok, r, q⟩
  | .next, ⟨_, H', J, q⟩ => ⟨.non, H', J.os, J.bare, J.base, J.hok, rfl, q⟩
  | .brk, ⟨_, _, _, q⟩ => q.elim
  | .cont, ⟨_, _, _, q⟩ => q.elim
theorem sup_core {e : Expr} {rest : List Stmt} {p0 p1 p2 p3 p4 : Pos} {pl : Sem Bool} (S : NScope N ps ["__class__"] (defScope st)) (SU : SupT P K mg D cc cda f2 "__init__")
    (G : FnR P w K mg base CX0 k f2 sp2)
    (hst : defBody st = .Expr (.Call (.Attribute (.Call (.Name "super" p0) [] [] p1) "__init__" p2) [e] [] p3) p4 :: rest)
    (hself : ∃ ar, ((defArgs st).posonlyargs ++ (defArgs st).args).head? = some ar ∧ N[0]? = some ar.arg ∧ (defScope st).names.lookup ar.arg = some .local)
    (hks : (defScope st).names.lookup ("super" : Str) = some .globalImplicit) (hkc : (defScope st).names.lookup ("__class__" : Str) = some .free)
    (he : ∀ L, eval (.Call (.Attribute (.Call (.Name "super" p0) [] [] p1) "__init__" p2) [e] [] p3) (envF (supF x qual st cc cda) f L) = (do
      let ov ← attributeBase (.Call (.Name "super" p0) [] [] p1) "__init__" (envF (supF x qual st cc cda) f L) (eval (.Call (.Name "super" p0) [] [] p1) (envF (supF x qual st cc cda) f L))
      standAt p2.atName
      let (g, first) ← holding [ov] (getMethod ov "__init__" pl)
      callWith p3 g first (backTo p3 (starEach [e] (envF (supF x qual st cc cda) f L))) []))
    (hi : ∀ L, interactive (envF (supF x qual st cc cda) f L) = false)
    (hs : ∀ L, swapsWith (.Call (.Attribute (.Call (.Name "super" p0) [] [] p1) "__init__" p2) [e] [] p3) none p4.line (envF (supF x qual st cc cda) f L) = pure false)
    (hse : ∀ L, starEach [e] (envF (supF x qual st cc cda) f L) = (false, eval e (envF (supF x qual st cc cda) f L)) :: [])
    {A : Around} {outer : List Env} {s : Shared} {H : Hp} {vs : List V} {us : List Value} {Q : VK} {E : XK} {h₁ : Heap} {od oc kV doc pm : _} {an : Option Addr} {ct : Value} {osl : Array (Option Value)} {tk : Nat}
    (lk : K.lookup f = some ⟨oc, od, .func (PySem.W.fnX x qual (defArgs st) (defBody st) (defScope st) [("__class__", cc)] .none kV doc pm an (.ref cda) ct), osl⟩) (hr : Room (k + 1) A) (e0 : Env0 P w K mg base A outer s H) (r : Vals vs us) (hl : vs.length = ps.length) (hns : h₁.Ns s.heap.objs.size fun y => (ps.zip us).reverse.lookup y) (kp : ∀ b o, s.heap.get? b = some o → h₁.get? b = some o)
    (hbody : ∃ te t, PA (ncx (L2.CX P w) P w K mg base N (supF x qual st cc cda) f A outer s H E) [e] te ∧ PSs (ncx (L2.CX P w) P w K mg base N (supF x qual st cc cda) f A outer s H E) rest t ∧
        ∃ a dx fs, (startF N vs [none])[0]? = some (some (.ref a)) ∧ H a = some (.ins D dx fs) ∧ te (startF N vs [none]) H fun ys H1 => sp2 (.ref a :: ys) H1 (fun _ H2 => t { nx := fun _ H' => Q .non H', rt := Q } (startF N vs [none]) H2) (fun _ _ _ => False)) :
    _root_.PySem.wpAt (model P w) (A.deeper (envF (supF x qual st cc cda) f s.heap.objs.size)) (.func (defBody st) (envF (supF x qual st cc cda) f s.heap.objs.size)) (execs (defBody st) (envF (supF x qual st cc cda) f s.heap.objs.size)) (fun fl s' => CR (L2.CX P w) outer P w H s Q E (.ok (.ret (match fl with | .ret v => v | _ => .none))) s')
      (fun e s' => wpAny (model P w) (A.deeper (envF (supF x qual st cc cda) f s.heap.objs.size)) (leaving (envF (supF x qual st cc cda) f s.heap.objs.size) e) (fun _ s'' => CR (L2.CX P w) outer P w H s Q E (.error e) s'') (fun e' s'' => CR (L2.CX P w) outer P w H s Q E (.error e') s'') s') { s with heap := h₁, toks := tk } := by
  have KX : K.In s.heap := e0.mod.kin.keeps fun b o e => (e0.bs b o e).1
  have C := class_cell e0 SU.cell
  obtain ⟨te, t, hte, ht, a, dx, fs, ha0, hHa, hq⟩ := hbody
  have I : Inv (ncx (L2.CX P w) P w K mg base N (supF x qual st cc cda) f A outer s H E) [] (startF N vs [none]) H { s with heap := h₁, toks := tk } := inv_startN (ws := [none]) S hr.hd e0 hl r C hns kp
  rw [hst]
  obtain ⟨ar, har, hN0, hlo⟩ := hself
  obtain ⟨ccl, cdd, cvs, ccs, file, tf, hcode, hvs, hfile⟩ := SU.code
  obtain ⟨cl, cld, csl, hcell⟩ := SU.cell
  obtain ⟨cdD, hD⟩ := SU.cls
  have X1 : K.In h₁ := KX.keeps kp
  obtain ⟨oD, hD1, hD2⟩ : ∃ oD, h₁.get? D = some oD ∧ oD.data = .cls cdD := by
    unfold PySem.W.clsIn at hD
    split at hD
    · rename_i c d cd' sl ho
      cases hD
      exact ⟨_, X1 _ _ ho, rfl⟩
    · cases hD
  obtain ⟨mA, O, _, _, _, _⟩ := ins_get I.hok hHa
  obtain ⟨od2, J, _⟩ := O.look
  refine ks_wpAt_execs_cons (ks_wpAt_Expr_any (ks_wpAt_MethodCall (pl := pl) ?_ (he _)) (hi _) (hs _))
  refine ks_wpAt_super_base (env := envF (supF x qual st cc cda) f s.heap.objs.size) hks hkc rfl rfl (X1 _ _ lk) rfl har rfl (X1 _ _ hcode) rfl hvs hfile SU.top ?_
  obtain ⟨mb, b1, b2⟩ := I.mod.blt
  refine PySem.W.ks_loadName_global S.kind hks (Calls.loadGlobal_builtin (env := envF (supF x qual st cc cda) f s.heap.objs.size) (I.mod.glob.keeps I.bk) SU.mS (b1.keeps I.bk) ((b2 "super" (by decide)).trans boot_super) ⟨rfl, ?_⟩)
  refine wpAny_loadName_free S.kind hkc rfl ⟨_, X1 _ _ hcell, rfl⟩ ?_
  obtain ⟨m, hm1, hm2⟩ := I.loc
  obtain ⟨u, ru, lu⟩ := hm2 0 ar.arg (.ref a) hN0 ha0 (.inl hlo)
  obtain rfl : u = Value.ref a := ru
  have hma : m ar.arg = some (.ref a) := by
    rcases lu with ⟨_, z⟩ | ⟨z, _⟩
    · exact z
    · have z : (defScope st).names.lookup ar.arg = some .cell ∨ (defScope st).names.lookup ar.arg = some .free := z
      rw [hlo] at z
      rcases z with z | z <;> cases z
  refine wpAny_loadName_local S.kind hlo hm1 hma ?_
  refine ks_wpAny_isType_cls hD1 hD2 ⟨rfl, ?_⟩
  refine ks_wpAny_call_super hD1 hD2 J.at_ J.cls (fun c e => ?_) (PySem.W.looks_mroIn X1 SU.sub) (fun h' eN k => ?_)
  · have := J.no
    unfold PySem.W.notCls at this
    rw [e] at this
    exact Bool.noConfusion this
  have I2 := pin_new (t' := tk) I k (Nat.le_refl _) eN (fun v z => by cases z)
  have X2 : K.In h' := X1.keeps k
  obtain ⟨of, hof, hofc⟩ : ∃ of, h'.get? f2 = some of ∧ of.cls = .type "function" := by
    have ht' : (K.lookup f2).map (·.cls) = some (.type "function") := SU.ty
    cases z : K.lookup f2 with
    | none =>
      rw [z] at ht'
      cases ht'
    | some of =>
      rw [z] at ht'
      exact ⟨of, X2 _ _ z, Option.some.inj ht'⟩
  have hm := SU.meth
  unfold PySem.W.ks_superIn at hm
  rw [hD] at hm
  refine PySem.ks_wpAny_getMethod_super (pin_at I2) (PySem.W.looks_opaque X2 SU.opq) (l₀ := cdD.mro) (fun A Q E s k q => wpAny_bind ((PySem.W.looks_clsIn X2 hD) A _ E s k (wpAny_pure q))) rfl X2 hm hof hofc (PySem.W.ks_ne X1 J hD) rfl ?_
  have I3 := pin_new (t' := tk + 1) (o := PySem.W.methodObj (.ref f2) (.ref a)) I2 (fun b o e => Heap.get?_push_of_some _ e) (Nat.le_refl _) (Heap.get?_push_size _ rfl) (fun v z => by cases z)
  have hargs := hte.run p3 _ _ _ _ _ I3 hq
  have hse' := hse s.heap.objs.size
  have hargs : wpAny (model P w) (A.deeper (envF (supF x qual st cc cda) f s.heap.objs.size)) (spliced (backTo p3 (starEach [e] (envF (supF x qual st cc cda) f s.heap.objs.size)))) _ _ _ := hargs
  show wpAny (model P w) (A.deeper (envF (supF x qual st cc cda) f s.heap.objs.size)) (callWith p3 (.ref h'.objs.size) [] (backTo p3 (starEach [e] (envF (supF x qual st cc cda) f s.heap.objs.size))) []) _ _ _
  rw [hse'] at hargs ⊢
  refine PySem.W.callWith_of (P := PySem.W.MethP K h'.objs.size f2 (.ref a)) rfl (PySem.W.keeps_M SU.fi) (Calls.evalArgs_plain (thn hargs fun us s1 hh => ?_))
  obtain ⟨ys, H1, I4, r4, q4⟩ := hh
  refine ⟨⟨pin_at I4, I4.kIn⟩, wpAny_call (PySem.W.method_call (pin_at I4) ?_)⟩
  have run := run_fnR (us := Value.ref a :: us) (vs := V.ref a :: ys) G (hr.deeper _) pass0 I4 (.cons rfl r4) q4
  refine codeAny_mono run fun r s' hq => ?_
  match r, hq with
  | .error _, hq => exact hq
  | .ok (.ret _), ⟨_, H2, I5, _, q5⟩ => exact PySem.wpAt_of_wpAny (wpAny_mono (ht.run _ _ _ _ _ I5 q5) (fun fl _ hs => body_end fl hs) fun _ _ hs => hs)
theorem fn_sup {e : Expr} {rest : List Stmt} {p0 p1 p2 p3 p4 : Pos} {pl : Sem Bool} (FC : FunC K x qual st cc cda f fd) (S : NScope N ps ["__class__"] (defScope st)) (SU : SupT P K mg D cc cda f2 "__init__")
    (G : FnR P w K mg base CX0 k f2 sp2)
    (hst : defBody st = .Expr (.Call (.Attribute (.Call (.Name "super" p0) [] [] p1) "__init__" p2) [e] [] p3) p4 :: rest)
    (hself : ∃ ar, ((defArgs st).posonlyargs ++ (defArgs st).args).head? = some ar ∧ N[0]? = some ar.arg ∧ (defScope st).names.lookup ar.arg = some .local)
    (hks : (defScope st).names.lookup ("super" : Str) = some .globalImplicit) (hkc : (defScope st).names.lookup ("__class__" : Str) = some .free)
    (len : ∀ vs H Q E, sp vs H Q E → vs.length = ps.length)
    (he : ∀ L, eval (.Call (.Attribute (.Call (.Name "super" p0) [] [] p1) "__init__" p2) [e] [] p3) (envF (supF x qual st cc cda) f L) = (do
      let ov ← attributeBase (.Call (.Name "super" p0) [] [] p1) "__init__" (envF (supF x qual st cc cda) f L) (eval (.Call (.Name "super" p0) [] [] p1) (envF (supF x qual st cc cda) f L))
      standAt p2.atName
      let (g, first) ← holding [ov] (getMethod ov "__init__" pl)
      callWith p3 g first (backTo p3 (starEach [e] (envF (supF x qual st cc cda) f L))) []))
    (hi : ∀ L, interactive (envF (supF x qual st cc cda) f L) = false)
    (hs : ∀ L, swapsWith (.Call (.Attribute (.Call (.Name "super" p0) [] [] p1) "__init__" p2) [e] [] p3) none p4.line (envF (supF x qual st cc cda) f L) = pure false)
    (hse : ∀ L, starEach [e] (envF (supF x qual st cc cda) f L) = (false, eval e (envF (supF x qual st cc cda) f L)) :: [])
    (hbody : ∀ (A : Around) (outer : List Env) (s : Shared) (H : Hp) (vs : List V) (Q : VK) (E : XK), Room k (A.deeper (envF (supF x qual st cc cda) f s.heap.objs.size)) → sp vs H Q E →
      ∃ te t, PA (ncx (L2.CX P w) P w K mg base N (supF x qual st cc cda) f A outer s H E) [e] te ∧ PSs (ncx (L2.CX P w) P w K mg base N (supF x qual st cc cda) f A outer s H E) rest t ∧
        ∃ a dx fs, (startF N vs [none])[0]? = some (some (.ref a)) ∧ H a = some (.ins D dx fs) ∧ te (startF N vs [none]) H fun ys H1 => sp2 (.ref a :: ys) H1 (fun _ H2 => t { nx := fun _ H' => Q .non H', rt := Q } (startF N vs [none]) H2) (fun _ _ _ => False)) :
    FnOk P w K mg base (L2.CX P w) (k + 1) f fd ps sp := by
  obtain ⟨oc, od, kV, doc, pm, an, ct, osl, rfl, lk⟩ := FC.ex
  refine ⟨len, fun A outer s H args us vs Q E hr e0 hb r hsp => ?_⟩
  have KX : K.In s.heap := e0.mod.kin.keeps fun b o e => (e0.bs b o e).1
  have lim : s.heap.NoLimit := e0.mod.nolimit.keeps fun b o e => (e0.bs b o e).1
  exact ks_codeAny_call_defAt (binds := ps.zip us) hr.depth (KX _ _ lk) rfl lim (PySem.W.codeRec_of KX FC.cd) rfl hb S.nocell (fun ⟨n, _⟩ hy => S.par n (List.of_mem_zip hy).1) (fun h₁ hns kp => sup_core S SU G hst hself hks hkc he hi hs hse lk hr e0 r (len _ _ _ _ hsp) hns kp (hbody A outer s H vs Q E (hr.deeper _) hsp)) S.co S.gen S.kind
theorem fn_supS {pv : Str} {e : Expr} {rest : List Stmt} {p0 p1 p2 p3 p4 : Pos} {pl : Sem Bool} (FC : FunC K x qual st cc cda f fd) (S : NScope N (ps ++ [pv]) ["__class__"] (defScope st)) (SU : SupT P K mg D cc cda f2 "__init__")
    (G : FnR P w K mg base CX0 k f2 sp2)
    (hst : defBody st = .Expr (.Call (.Attribute (.Call (.Name "super" p0) [] [] p1) "__init__" p2) [e] [] p3) p4 :: rest)
    (hself : ∃ ar, ((defArgs st).posonlyargs ++ (defArgs st).args).head? = some ar ∧ N[0]? = some ar.arg ∧ (defScope st).names.lookup ar.arg = some .local)
    (hks : (defScope st).names.lookup ("super" : Str) = some .globalImplicit) (hkc : (defScope st).names.lookup ("__class__" : Str) = some .free)
    (hb : ∀ us rest : List Value, us.length = ps.length → bindArgs fd ⟨us ++ rest, []⟩ = (newTuple rest >>= fun t => pure (ps.zip us ++ [(pv, t)])))
    (len : ∀ vs H Q E, sp vs H Q E → vs.length = (ps ++ [pv]).length)
    (he : ∀ L, eval (.Call (.Attribute (.Call (.Name "super" p0) [] [] p1) "__init__" p2) [e] [] p3) (envF (supF x qual st cc cda) f L) = (do
      let ov ← attributeBase (.Call (.Name "super" p0) [] [] p1) "__init__" (envF (supF x qual st cc cda) f L) (eval (.Call (.Name "super" p0) [] [] p1) (envF (supF x qual st cc cda) f L))
      standAt p2.atName
      let (g, first) ← holding [ov] (getMethod ov "__init__" pl)
      callWith p3 g first (backTo p3 (starEach [e] (envF (supF x qual st cc cda) f L))) []))
    (hi : ∀ L, interactive (envF (supF x qual st cc cda) f L) = false)
    (hs : ∀ L, swapsWith (.Call (.Attribute (.Call (.Name "super" p0) [] [] p1) "__init__" p2) [e] [] p3) none p4.line (envF (supF x qual st cc cda) f L) = pure false)
    (hse : ∀ L, starEach [e] (envF (supF x qual st cc cda) f L) = (false, eval e (envF (supF x qual st cc cda) f L)) :: [])
    (hbody : ∀ (A : Around) (outer : List Env) (s : Shared) (H : Hp) (vs : List V) (Q : VK) (E : XK), Room k (A.deeper (envF (supF x qual st cc cda) f s.heap.objs.size)) → sp vs H Q E →
      ∃ te t, PA (ncx (L2.CX P w) P w K mg base N (supF x qual st cc cda) f A outer s H E) [e] te ∧ PSs (ncx (L2.CX P w) P w K mg base N (supF x qual st cc cda) f A outer s H E) rest t ∧
        ∃ a dx fs, (startF N vs [none])[0]? = some (some (.ref a)) ∧ H a = some (.ins D dx fs) ∧ te (startF N vs [none]) H fun ys H1 => sp2 (.ref a :: ys) H1 (fun _ H2 => t { nx := fun _ H' => Q .non H', rt := Q } (startF N vs [none]) H2) (fun _ _ _ => False)) :
    FnR P w K mg base (L2.CX P w) (k + 1) f (fun vs H Q E => ∃ ws rest, vs = ws ++ rest ∧ ws.length = ps.length ∧ rest.length ≤ sizeLine ∧ ∀ p, H p = Option.none → sp (ws ++ [V.ref p]) (upd H p (.tup rest)) Q E) := by
  obtain ⟨oc, od, kV, doc, pm, an, ct, osl, rfl, lk⟩ := FC.ex
  intro A outer s H us vs Q E hr e0 r hsp
  obtain ⟨ws, rest', ev, hl, hz, hq⟩ := hsp
  subst ev
  obtain ⟨u1, u2, eu, r1, r2⟩ := vals_split r
  subst eu
  have KX : K.In s.heap := e0.mod.kin.keeps fun b o e => (e0.bs b o e).1
  have hn : H s.heap.objs.size = Option.none := e0.hok.fresh (Nat.le_refl _)
  have hl1 : u1.length = ps.length := by rw [← r1.length]; exact hl
  have hl2 : u2.length ≤ sizeLine := by rw [← r2.length]; exact hz
  have new : ObjOk P w (upd H s.heap.objs.size (.tup rest')) (s.heap.push ({ cls := .type "tuple", data := .seq u2.toArray } : Obj)) s.heap.objs.size (.tup rest') := ⟨hz, u2, r2, ⟨_, Heap.get?_push_size _ rfl, rfl, _, rfl⟩⟩
  have un := un_laid (fs := frs outer) (s := s) (o := ({ cls := .type "tuple", data := .seq u2.toArray } : Obj)) (u := .tup rest') hn
  have e2 := env0_laid e0 new
  have lim2 : (s.heap.push ({ cls := .type "tuple", data := .seq u2.toArray } : Obj)).NoLimit := e0.mod.nolimit.keeps fun b o e => (e2.bs b o e).1
  have hsp := hq _ hn
  refine codeAny_call_function hr.depth (KX _ _ lk) rfl S.co S.gen rfl (PySem.W.codeRec_of KX FC.cd) ?_
  rw [hb u1 u2 hl1]
  refine wpAny_bind (wpAny_newTuple (wpAny_pure ?_) hl2)
  have r3 : Vals (ws ++ [V.ref s.heap.objs.size]) (u1 ++ [Value.ref s.heap.objs.size]) := r1.append (.cons rfl .nil)
  have zz : ps.zip u1 ++ [(pv, Value.ref s.heap.objs.size)] = (ps ++ [pv]).zip (u1 ++ [Value.ref s.heap.objs.size]) := by
    rw [List.zip_append hl1.symm]
    rfl
  rw [zz]
  refine wpAny_newFunctionEnv S.nocell (fun ⟨n, _⟩ hy => S.par n (List.of_mem_zip hy).1) (fun h₀ hns₀ hsb₀ => ⟨lim2.fresh _ hsb₀, ?_⟩) S.kind
  refine codeAny_mono (ks_codeAny_funcAt (R := CR (L2.CX P w) outer P w (upd H s.heap.objs.size (.tup rest')) { s with heap := s.heap.push ({ cls := .type "tuple", data := .seq u2.toArray } : Obj) } Q E) (sup_core S SU G hst hself hks hkc he hi hs hse lk hr e2 r3 (len _ _ _ _ hsp) hns₀ (fun b o e => hsb₀.extBut b o (Nat.ne_of_lt (Heap.lt_size e)) (Heap.get?_push_of_some _ e)) (hbody A outer _ _ _ Q E (hr.deeper _) hsp))) fun res s' h => ?_
  match res, h with
  | .error e, h => exact cxUp outer s H { s with heap := s.heap.push ({ cls := .type "tuple", data := .seq u2.toArray } : Obj) } _ E e s' un (fun b o q => Heap.get?_push_of_some _ q) rfl h
  | .ok (.ret u), ⟨v', H', a1, a2, a3, a4, a5, a6⟩ => exact ⟨v', H', a1, a2, un.trans a3, a4, a5, a6⟩
end
end Sea

set_option Elab.async false
set_option linter.all false
set_option maxRecDepth 100000
set_option maxHeartbeats 4000000
/-! set(list of ints), sorted(tuple of ints), t[::-1] -/
namespace Sea
open PySem PySem.Spec PyProof.Rows L2
section
variable {P : Program} {w : World} {A : Around} {E : Value → Shared → Prop} {s : Shared}
/-- a set just made -/
abbrev bareSet (w : World) : Obj := { cls := .type "set", dict := none, data := .set #[] 0 (.fresh 0 0 (!w.params.followText "set-order")) }
/-- the set made is filled from a walk over ints: set.__init__ at the list l -/
theorem fill_list {l : Addr} {items : Array Value} (ns : List Int) {R : Result → Shared → Prop} (hh : A.handled = none) (hl : s.heap.IsList l items) (hi : IntsAre items.toList ns) (few : ns.length + 1 < scanBound)
    (h : ∀ (h' : Heap) (tk c : Nat), SetR w h' s.heap.objs.size (fun j => decide (j ∈ ns)) c → c ≤ ns.length → (∀ b o, s.heap.get? b = some o → h'.get? b = some o) → R (.ok (.ret .none)) { s with heap := h', toks := tk }) :
    codeAny (model P w) A (.call (.builtin "set.__init__") ⟨[.ref s.heap.objs.size, .ref l], []⟩) R { s with heap := s.heap.push (bareSet w) } := by
  have many : items.size = ns.length := by rw [← Array.length_toList]; exact IntsAre.length hi
  have made : (s.heap.push (bareSet w)).get? s.heap.objs.size = some (bareSet w) := Heap.get?_push_size _ rfl
  have still : (s.heap.push (bareSet w)).IsList l items := hl.push _
  have below : l < s.heap.objs.size := hl.choose_spec.1 |> Heap.lt_size
  have grown : (s.heap.push (bareSet w)).objs.size = s.heap.objs.size + 1 := Heap.size_push ..
  obtain ⟨⟨ocls, odict, odata, oslots⟩, at_, oc, nl, od⟩ := id still
  obtain rfl : ocls = _ := oc
  obtain rfl : odata = _ := od
  have notSet := F.sub_list_set
  have notFrozen := F.sub_list_frozenset
  have notDict : (Value.type "list" == Value.type "dict") = false := by decide
  refine codeAny_call_builtin F.called_set.init.plain F.entry_set_init (check_set_init_1 ⟨_, made, rfl⟩ ?_)
  unfold Builtin.«set.__init__» noKeywords Builtin.Frozenset.updateFrom
  generalize hPI : pyIter = PI
  wp_walk
  subst hPI
  refine wpAny_pyIter_list still (wpAny_bind (wpAny_runValue ?_))
  have item : ∀ (i : Nat) (v : Value), items[i]? = some v → ∃ k t, ns[i]? = some k ∧ v = .int k t := by
    intro i v hv
    obtain ⟨t, e⟩ := IntsAre.int_at hi i v (by rwa [Array.getElem?_toList])
    have lt : i < ns.length := many ▸ (Array.getElem?_eq_some_iff.mp hv).1
    exact ⟨ns[i], t, List.getElem?_eq_getElem lt, by rw [e, List.getD_eq_getElem?_getD, List.getElem?_eq_getElem lt]; rfl⟩
  have walk := Walks.list (prog := P) (w := w) (A := A.in1.in1) (by exact hh) (s.heap.push (bareSet w)).objs.size l (by rw [grown]; exact Nat.ne_of_lt (Nat.lt_succ_of_lt below)) items
  refine set_update_ints walk.toS s.heap.objs.size ?_ ns many few item (items.size - 0) 0 _ rfl (Nat.zero_le _) ⟨⟨_, Heap.get?_push_size _ rfl, rfl, rfl⟩, still.push _⟩ ⟨0, Nat.le_refl 0, setR_new_at (Heap.get?_push_of_some _ made)⟩ ?_
  · simp only [grown, List.mem_cons, List.not_mem_nil, or_false, not_or]
    exact ⟨Nat.ne_of_lt (Nat.lt_succ_self _), Nat.ne_of_gt below⟩
  · rintro ⟨h', g2, d', tk', os'⟩ c moved le full
    obtain rfl : g2 = s.gens := moved.gens
    obtain rfl : d' = s.drawn := moved.drawn
    obtain rfl : os' = s.os := moved.os
    refine wpAny_pure (wpAny_pure (h h' tk' c full (many ▸ le) fun b o e => moved.heap b o ?_ (Heap.get?_push_of_some _ (Heap.get?_push_of_some _ e))))
    have old := Heap.lt_size e
    simp only [grown, List.mem_cons, List.not_mem_nil, or_false, not_or]
    exact ⟨Nat.ne_of_lt old, Nat.ne_of_lt (Nat.lt_succ_of_lt old)⟩
/-- set(l), l a list of ints -/
theorem set_listRR {l : Addr} {items : Array Value} (ns : List Int) {Q : Value → Shared → Prop} (hh : A.handled = none) (hl : s.heap.IsList l items) (hi : IntsAre items.toList ns) (few : ns.length + 1 < scanBound)
    (h : ∀ (h' : Heap) (tk c : Nat), SetR w h' s.heap.objs.size (fun j => decide (j ∈ ns)) c → c ≤ ns.length → (∀ b o, s.heap.get? b = some o → h'.get? b = some o) → Q (.ref s.heap.objs.size) { s with heap := h', toks := tk }) :
    wpAny (model P w) A (call (.type "set") [.ref l]) Q E s := by
  have ⟨c, tl, hmro⟩ := F.called_set.mro
  have hmade := F.called_set.made
  have hsub := F.called_set.sub
  have h1 := F.called_set.notType
  have h2 := F.called_set.canCreate
  have hct := F.typeCall_set_1 (.ref l)
  have isSet : Shared.TypeIs { s with heap := s.heap.push (bareSet w) } (.ref s.heap.objs.size) "set" := ⟨_, Heap.get?_push_size _ rfl, rfl⟩
  have find := F.called_set.init.lookup
  have bind := F.called_set.init.bind (.ref s.heap.objs.size)
  apply wpAny_call
  apply codeAny_of_tree
  show wpAny _ _ (callAny (.type "set") _) _ _ _
  apply wpAny_pure
  refine ⟨Code.quiet_builtin _ (by decide +kernel), codeAny_builtin F.entry_type_call ?_⟩
  rw [Around.under_plain (weight_type_call_type "set" [.ref l] []) rfl]
  repeat (any_goals (first | assumption | wp_step))
  refine codeAny_mono (code_set_led1 (.ref l) (E := E) (Q₁ := fun obj s1 => obj = .ref s.heap.objs.size ∧ s1 = { s with heap := s.heap.push (bareSet w) }) ⟨rfl, rfl⟩) ?_
  intro r s1 z
  match r, z with
  | .error _, z => exact z
  | .ok .next, z => exact z.elim
  | .ok .brk, z => exact z.elim
  | .ok .cont, z => exact z.elim
  | .ok (.ret obj), ⟨e1, e2⟩ =>
    subst e1 e2
    repeat (any_goals (first | assumption | wp_step))
    refine codeAny_mono (fill_list (R := wants (fun r s2 => r = .none ∧ Q (.ref s.heap.objs.size) s2) E) ns hh hl hi few fun h' tk c full le old => ⟨rfl, h h' tk c full le old⟩) ?_
    intro r s2 z
    match r, z with
    | .error _, z => exact z
    | .ok .next, z => exact z.elim
    | .ok .brk, z => exact z.elim
    | .ok .cont, z => exact z.elim
    | .ok (.ret _), ⟨e, z⟩ =>
      subst e
      repeat (any_goals (first | assumption | wp_step))
end
end Sea

set_option Elab.async false
set_option linter.all false
set_option maxRecDepth 100000
set_option maxHeartbeats 4000000
/-! set(list of ints), sorted(tuple of ints), t[::-1] -/
namespace Sea
open PySem PySem.Spec PyProof.Rows L2
/-- sorted(t), t a tuple of ints -/
theorem sorted_tuple {P : Program} {w : World} {A : Around} {E : Value → Shared → Prop} {s : Shared} {t : Addr} {vs : List Value} (ns : List Int) {Q : Value → Shared → Prop} (ht : IsTup s.heap t vs.toArray) (hi : IntsAre vs ns) (few : vs.length ≤ 1000)
    (h : ∀ (h1 h' : Heap) (out : Array Value) (c : Nat) (ns' : List Int), (∀ b o, s.heap.get? b = some o → h1.get? b = some o) → (∀ b o, h1.get? b = some o → h'.get? b = some o) → h'.get? h1.objs.size = some (seqObj "list" out c) → IntsAre out.toList ns' → ns'.Perm ns → ns'.Pairwise (· ≤ ·) → Q (.ref h1.objs.size) { s with heap := h' }) :
    wpAny (model P w) A (call (.builtin "sorted") [.ref t]) Q E s := by
  have line : vs.length ≤ sizeLine := by rw [sizeLine_eq]; omega
  obtain ⟨o, at_, oc, n, od⟩ := id ht
  apply Calls.call_function_entry kind_sorted plain_sorted entry_sorted (args_sorted1 _)
  unfold Builtin.«sorted»
  refine wpAny_bind (m := checkCount "sorted" 1 1 _) (wpAny_pure (wpAny_bind (wpAny_collect_seq t (.inr rfl) at_ oc od (fun h1 old => ?_) (by rwa [List.size_toArray]))))
  rw [List.toList_toArray]
  refine wpAny_bind (wpAny_newList ?_ line)
  have made : (h1.push (seqObj "list" vs.toArray 0)).get? h1.objs.size = some (seqObj "list" vs.toArray 0) := Heap.get?_push_size _ rfl
  refine wpAny_bind (wpAny_holding (wpAny_call_entry slot_list_sort ⟨_, made, rfl⟩ entry_list_sort (list_sort_treeAny made hi line fun out ns' a b c => ⟨_, rfl, ?_⟩) (args_list_sort _)))
  obtain ⟨c', there⟩ := sortedHeap_at (vs := vs) (out := out) made
  refine wpAny_pure ⟨_, rfl, h h1 _ out c' ns' old (fun b o e => ?_) there a b c⟩
  have lt := Heap.lt_size e
  exact (sortedHeap_old (Nat.ne_of_lt lt) (by rw [size_push']; exact Nat.lt_succ_of_lt lt)).trans (Heap.get?_push_of_some _ e)
section
variable {X : Cx}
def rSortedT (K : PySem.W.Frag) : List V → Hp → VK → Prop := fun vs H Q => ∃ (a : Addr) (ns : List Int), vs = [.ref a] ∧ SqT K H a (ns.map V.int) ∧ ns.length ≤ 1000 ∧ ∀ (ns' : List Int) (p : Addr), ns'.Perm ns → ns'.Pairwise (· ≤ ·) → H p = none → Q (.ref p) (upd H p (.lst (ns'.map V.int)))
theorem cr_sortedT : CallR X (.builtin "sorted") (rSortedT X.K) := by
  rintro pins s σ H _ us Q I r ⟨a, ns, rfl, ht, few, q⟩
  obtain ⟨its, rv, pt, _⟩ := I.tuple ht
  rw [Vals.ref1 r]
  have many : its.length = ns.length := by rw [← rv.length, List.length_map]
  refine sorted_tuple ns pt rv.ints (by omega) ?_
  intro h1 h' out c ns' old new there whole perm rising
  have J : Inv X pins σ H { s with heap := h1, toks := s.toks } := I.kept (t' := s.toks) old
  have fits : (ns'.map V.int).length ≤ sizeLine := by rw [List.length_map, perm.length_eq, sizeLine_eq]; omega
  exact ⟨.ref h1.objs.size, _, J.laid (t' := s.toks) (o := .lst (ns'.map V.int)) new (Nat.le_refl _) ⟨fits, out.toList, c, vals_of_ints whole, there⟩, rfl, q ns' _ perm rising (J.hok.fresh (Nat.le_refl _))⟩
def rSetL (K : PySem.W.Frag) (w : World) : List V → Hp → VK → Prop := fun xs H Q => ∃ (p : Addr) (ns : List Int), xs = [.ref p] ∧ SqL K H p (ns.map V.int) ∧ ns.length ≤ 1000 ∧ ∀ (a : Addr) (c : Nat), H a = none → c ≤ ns.length → Q (.ref a) (upd H a (SetO w a (fun j => decide (j ∈ ns)) c))
theorem cr_setL (calm : X.calm = true) : CallR X (.type "set") (rSetL X.K X.w) := by
  rintro pins s σ H _ us Q I r ⟨p, ns, rfl, hl, few, q⟩
  obtain ⟨its, rv, there, _⟩ := I.list hl
  rw [Vals.ref1 r]
  refine set_listRR (items := its.toArray) ns (I.ok.hd calm) there.isList (by simpa using rv.ints) (by unfold scanBound; omega) ?_
  intro h' tk c full le old
  exact ⟨.ref s.heap.objs.size, _, I.laid (t' := tk) (a := s.heap.objs.size) old (Nat.le_refl _) (setO_new full), rfl, q _ c (I.hok.fresh (Nat.le_refl _)) le⟩
/-! ### t[::-1] -/
theorem back_pick (xs : Array Value) : ((List.range xs.size).filterMap fun (k : Nat) => xs[(((xs.size : Int) - 1) + (k : Int) * (-1)).toNat]?) = xs.toList.reverse := by
  have each : ∀ k ∈ List.range xs.size, xs[(((xs.size : Int) - 1) + (k : Int) * (-1)).toNat]? = some (xs.toList.reverse.getD k .none) := by
    intro k hk
    have lt : k < xs.size := List.mem_range.mp hk
    have e : (((xs.size : Int) - 1) + (k : Int) * (-1)).toNat = xs.size - 1 - k := by omega
    rw [e, List.getD_eq_getElem?_getD, List.getElem?_reverse (by simpa using lt)]
    simp only [Array.length_toList, Array.getElem?_toList]
    rw [Array.getElem?_eq_getElem (by omega)]
    rfl
  have go : ∀ (l : List Nat) (f : Nat → Option Value) (g : Nat → Value), (∀ k ∈ l, f k = some (g k)) → l.filterMap f = l.map g := by
    intro l f g
    induction l with
    | nil => exact fun _ => rfl
    | cons k l ih =>
      intro hk
      rw [List.filterMap_cons, hk k List.mem_cons_self, List.map_cons, ih fun j hj => hk j (List.mem_cons_of_mem _ hj)]
  rw [go _ _ _ each]
  refine List.ext_getElem (by simp) fun i h1 h2 => ?_
  rw [List.getElem_map, List.getElem_range, List.getD_eq_getElem?_getD, List.getElem?_eq_getElem h2]
  rfl
theorem getItem_back {P : Program} {w : World} {A : Around} {E : Value → Shared → Prop} {s : Shared} {t sl : Addr} {items : Array Value} {u : Tok} {Q : Value → Shared → Prop} (ht : IsTup s.heap t items) (hs : s.heap.IsSliceOf sl .none .none (.int (-1) u)) (fits : items.size ≤ sizeLine)
    (h : Q (.ref s.heap.objs.size) { s with heap := s.heap.push { cls := .type "tuple", data := .seq items.toList.reverse.toArray } }) : wpAny (model P w) A (getItem (.ref t) (.ref sl)) Q E s := by
  have ⟨os, at_, oc, od⟩ := hs
  have isSl : s.TypeIs (.ref sl) "slice" := ⟨os, at_, oc⟩
  unfold getItem
  refine wpAny_holding (wpAny_bind (wpAny_sequenceKey ht.typeIs (by decide) ?_))
  refine wpAny_bind (wpAny_callSpecial?_slot (name := Str.ofString "__getitem__") ht.typeIs slot_tuple_getitem (wpAny_call_entry slot_tuple_getitem ht.typeIs PyProof.Rows.entry_tuple_getitem ?_ (PyProof.Rows.args_tuple_getitem _ _)))
  show wpAny _ _ (Builtin.Tuple.tupleItemsOf (.ref t) >>= _) _ _ s
  refine wpAny_bind (tupleItemsOf_ ht (wpAny_bind (wpAny_typeOf isSl ?_)))
  rw [if_pos (by decide)]
  have part : ∀ {A : Around} {E : Value → Shared → Prop} {Q : Option Int → Shared → Prop}, Q (some (-1)) s → wpAny (model P w) A (Builtin.Slice.slicePartIndex (.int (-1) u)) Q E s := fun q => slicePart_int q
  unfold Builtin.Slice.sliceApplied Builtin.Slice.sliceFields
  refine wpAny_bind (wpAny_bind (wpAny_bind (wpAny_field at_ od (x := .none) rfl (wpAny_bind (wpAny_field at_ od (x := .none) rfl (wpAny_bind (wpAny_field at_ od (x := .int (-1) u) rfl (wpAny_pure ?_))))))))
  refine wpAny_bind (part (show wpAny _ _ (if ((-1 : Int) == 0) = true then _ else _) _ _ s from ?_))
  rw [if_neg (by decide)]
  have nope : ∀ {A : Around} {E : Value → Shared → Prop} {Q : Option Int → Shared → Prop}, Q none s → wpAny (model P w) A (Builtin.Slice.slicePartIndex .none) Q E s := fun q => slicePart_none q
  have places : Builtin.Slice.slicePlaces ((items.size : Int) - 1) (-1) (-1) = items.size := by
    unfold Builtin.Slice.slicePlaces
    rw [if_neg (by decide)]
    rw [show (-(-1) : Int) = 1 by decide, Int.ediv_one]
    split <;> omega
  refine wpAny_bind (nope (wpAny_bind (nope (wpAny_bind (wpAny_pure ?_)))))
  show wpAny _ _ (pure (((items.size : Int) - 1), (-1 : Int), Builtin.Slice.slicePlaces ((items.size : Int) - 1) (-1) (-1))) _ _ s
  rw [places]
  refine wpAny_pure ?_
  have notAll : ¬ (((((items.size : Int) - 1) == 0) && ((-1 : Int) == 1) && (items.size == items.size)) = true) := by simp
  dsimp only
  rw [if_neg notAll, back_pick]
  have size : items.toList.reverse.toArray.size ≤ sizeLine := by simpa using fits
  exact wpAny_bind (m := Builtin.Tuple.tupleExact _) (wpAny_newObj_type (wpAny_pure ⟨_, rfl, wpAny_pure h⟩) size)
/-- t[::-1] -/
def tRevT (K : PySem.W.Frag) (te : TE) : TE := fun σ H Q => te σ H fun x H1 => ∃ a xs, x = .ref a ∧ SqT K H1 a xs ∧ ∀ p, H1 p = none → Q (.ref p) (upd H1 p (.tup xs.reverse))
theorem pe_revT {e : Expr} {te : TE} {k : Nat} {p1 p2 p3 pos : Pos} (he : PE X e te) : PE X (.Subscript e (.Slice none none (some (.UnaryOp .USub (.Constant (.int 1) k p1) p2)) p3) pos) (tRevT X.K te) := by
  constructor
  intro pins s σ H Q I h
  have step : PO X (some (.UnaryOp .USub (.Constant (.int 1) k p1) p2)) (tPart (tUn (rU fun i => .int (-i)) (tC (.int 1)))) := po_some (pe_un un_neg pe_int)
  refine Subscript_ (thn (he.run pins s σ H _ I h) ?_)
  rintro v s1 ⟨x, H1, I1, r1, a, xs, rfl, hx, q⟩
  obtain rfl : v = .ref a := r1
  apply wpAny_Slice
  refine thn (po_none.run pins s1 σ H1 (fun o H2 => (o, H2) = (none, H1)) I1 rfl) ?_
  rintro vl s2 ⟨_, _, I2, pl, e⟩
  cases e
  refine thn (po_none.run pins s2 σ H1 (fun o H2 => (o, H2) = (none, H1)) I2 rfl) ?_
  rintro vu s3 ⟨_, _, I3, pu, e⟩
  cases e
  refine thn (step.run pins s3 σ H1 (fun o H2 => (o, H2) = (some (-1), H1)) I3 ⟨1, rfl, -1, rfl, rfl⟩) ?_
  rintro vs s4 ⟨_, _, I4, ps, e⟩
  cases e
  cases pl
  cases pu
  cases ps
  rename_i u
  have I5 : Inv X pins σ H1 { s4 with heap := s4.heap.push { cls := .type "slice", data := .fields #[.none, .none, .int (-1) u] } } := I4.kept (t' := s4.toks) fun _ _ z => Heap.get?_push_of_some _ z
  obtain ⟨its, r, ht, hz⟩ := I5.tuple hx
  have many : its.toArray.size ≤ sizeLine := by rw [List.size_toArray, ← r.length]; exact hz
  refine tail_any (ops := [.ref a, .ref s4.heap.objs.size]) ht.typeIs slot_tuple_getitem.lookup ?_ (by with_unfolding_all rfl)
  refine getItem_back ht (Heap.IsSliceOf.new _ _ _ _) many ?_
  exact ⟨.ref _, _, I5.laid (t' := s4.toks) (o := .tup xs.reverse) (fun _ _ z => Heap.get?_push_of_some _ z) (Nat.le_refl _) ⟨by rw [List.length_reverse]; exact hz, _, r.reverse, (show IsTup _ _ _ from ⟨_, Heap.get?_push_size _ rfl, rfl, 0, rfl⟩)⟩, rfl, q _ (I5.hok.fresh (Nat.le_refl _))⟩
end
end Sea

set_option Elab.async false
set_option linter.all false
set_option maxRecDepth 100000
set_option maxHeartbeats 4000000
/-! generators: if and for within the body -/
namespace Sea
open PySem PySem.Spec PyProof.Rows L2
section
variable {X : Cx} {pos : Pos}
/-- if c: a else: b, either may hand out -/
def tGIf (c : TT) (t u : TGn) : TGn := fun D ys σ H => c σ H fun b H1 => match b with
  | true => t D ys σ H1
  | false => u D ys σ H1
theorem gs_if {c : Expr} {a b : List Stmt} {tc : TT} {t u : TGn} (hc : PT X c tc) (ha : GSs X a t) (hb : GSs X b u) : GS X (.If c a b pos) (tGIf tc t u) := by
  constructor
  intro A S ip R n ys s0 code fs K J gd lv s σ H D g hn k ⟨acc, cc, r, I⟩ ht
  rw [exec_If]
  apply seg_bind_wrap
  apply wpAny_standAt
  apply seg_bind_wrap
  rw [g.over]
  refine wpAny_mono (hc.run _ s σ H _ I ht) ?_ fun x s1 hx => k.exc n s0 x s1 hx
  rintro b s1 ⟨H1, I1, q⟩
  match b, q with
  | true, q => exact ha.run A S ip R n ys s0 code fs K J gd lv s1 σ H1 D g hn k ⟨acc, cc, r, I1⟩ q
  | false, q => exact hb.run A S ip R n ys s0 code fs K J gd lv s1 σ H1 D g hn k ⟨acc, cc, r, I1⟩ q
/-- for x in e: body, the body may hand out -/
def tGFor (wi : TI) (g : TG) (tb : TGn) : TGn := fun D ys σ H => wi σ H fun J H1 => ∃ W : Nat → Nat → List V → L2.St → Hp → Prop, (∃ m, W 0 m ys σ H1) ∧ ∀ i m ys σ H, W i m ys σ H →
  (J.stop i H ∧ D.nx ys σ H) ∨ (J.go i H ∧ ∃ N : List V → L2.St → Hp → Prop, (∀ ys σ H, N ys σ H → ∃ m', m' < m ∧ W (i + 1) m' ys σ H) ∧ ∀ x H1, J.yld i H x H1 → g x σ H1 fun σ2 H2 => tb { D with nx := N, ct := N, bk := D.nx } ys σ2 H2)
/-- the iterator of such a loop: its objects stand apart from the consumer's list and are the heap's alone -/
structure Own (X : Cx) (S : Addr) (ip : List (Addr × Obj)) (fp : List Addr) : Prop where
  no : ∀ b ∈ fp, b ≠ S
  fp : ∀ b ∈ fp, b ≠ X.env.locals ∧ b ∉ X.fs ∧ (b ∈ X.ex ∨ X.s_0.heap.objs.size ≤ b) ∧ (∀ x c, X.env.cells.lookup x = some c → c ≠ b) ∧ ∀ p ∈ X.pn ++ ip, p.1 ≠ b
theorem Own.at {S : Addr} {ip : List (Addr × Obj)} {fp : List Addr} (o : Own X S ip fp) {H : Hp} (hn : ∀ b ∈ fp, H b = none) (oS : Obj) : ∀ b ∈ fp, FpOk X ((S, oS) :: ip) H b := by
  intro b hb
  obtain ⟨a1, a2, a3, a4, a5⟩ := o.fp b hb
  refine ⟨hn b hb, a1, a2, a3, a4, fun p hp => ?_⟩
  rcases List.mem_append.mp hp with z | z
  · exact a5 p (List.mem_append_left _ z)
  · rcases List.mem_cons.mp z with z | z
    · rw [z]
      exact (o.no b hb).symm
    · exact a5 p (List.mem_append_right _ z)
theorem Own.of {S : Addr} {oS : Obj} {ip : List (Addr × Obj)} {fp : List Addr} {H : Hp} (h : ∀ b ∈ fp, FpOk X ((S, oS) :: ip) H b) : Own X S ip fp where
  no b hb := ((h b hb).2.2.2.2.2 (S, oS) (List.mem_append_right _ List.mem_cons_self)).symm
  fp b hb := by
    obtain ⟨_, a1, a2, a3, a4, a5⟩ := h b hb
    refine ⟨a1, a2, a3, a4, fun p hp => a5 p ?_⟩
    rcases List.mem_append.mp hp with z | z
    · exact List.mem_append_left _ z
    · exact List.mem_append_right _ (List.mem_cons_of_mem _ z)
theorem gs_for {tg iter : Expr} {body : List Stmt} {wi : TI} {gt : TG} {tb : TGn} (hp : PassesOwn (model X.prog X.w) X.A X.env X.xe) (calm : X.calm = true) (hi : PI X tg iter wi) (hg : PG X tg gt) (hb : GSs X body tb)
    (hs : ∀ x, foldedSetIterable iter X.env x = pure x := by intro _; rfl) : GS X (.For tg iter body [] pos) (tGFor wi gt tb) := by
  constructor
  intro A S ip R n ys s0 code fs K J gd lv s σ H D g hn k ⟨acc, cc, r, I⟩ ht
  rw [exec_For]
  apply seg_bind_wrap
  apply wpAny_standAt
  apply seg_bind_wrap
  rw [g.over]
  refine wpAny_mono (hi.run _ s σ H _ I ht) ?_ fun x s1 hx => k.exc n s0 x s1 hx
  intro v s1 made
  apply seg_bind_wrap
  rw [hs v]
  apply wpAny_pure
  apply seg_bind_wrap
  apply wpAny_standAt
  apply seg_bind_wrap
  rw [g.over]
  apply wpAny_holding
  refine wpAny_mono made ?_ fun x s2 hx => k.exc n s0 x s2 hx
  rintro _ s2 ⟨it, fp, tn, Jt, H2, rfl, I2, T, st2, f2, W, ⟨m0, w0⟩, turn⟩
  have own := Own.of f2
  apply seg_call
  intro p
  have leave : ∀ (n : Nat) (s0 : Shared) (x : Value) (s : Shared), X.xe x s → Seg (model X.prog X.w) A R (GY X S) n s0 (.forLoop tg (.ref it) body [] X.env) ((do noteFrame x X.env; theTreesLotGoes x : Sem Unit).wrap (fun _ => .raise x) .raise id id)
      (.ret (fun r => ((match r with | .ok f => (.pure f : Sem Flow) | .error e => .raise e).onRaise (cameBack X.env)).wrap K J gd lv) none (gd false) (lv []) code p [] :: fs) s := by
    intro n s0 x s hx
    have gl := gc_loop (k := fun r => ((match r with | .ok f => (.pure f : Sem Flow) | .error e => .raise e).onRaise (cameBack X.env)).wrap K J gd lv) (c' := .forLoop tg (.ref it) body [] X.env) (l := lv []) (kp := []) (p := p) g rfl rfl
    apply seg_wrap
    rw [gl.over]
    apply wpAny_bind
    refine wpAny_mono (hp x s hx) (fun _ s1 back => wpAny_theTreesLotGoes ?_) fun y s1 back => ?_
    · exact seg_leaf (.error x) (seg_cameBack g k back)
    · exact seg_leaf (.error y) (seg_cameBack g k back)
  have gl := gc_loop (k := fun r => ((match r with | .ok f => (.pure f : Sem Flow) | .error e => .raise e).onRaise (cameBack X.env)).wrap K J gd lv) (c' := .forLoop tg (.ref it) body [] X.env) (l := lv []) (kp := []) (p := p) g rfl rfl
  have loop : ∀ (m n i : Nat) (ys : List V) (s0 s : Shared) (σ : L2.St) (H : Hp), n + ys.length = sizeLine → tn i s.heap → (∀ b ∈ fp, H b = none) → W i m ys σ H → GI X S ip ys σ H s →
      Seg (model X.prog X.w) A R (GY X S) n s0 (.forLoop tg (.ref it) body [] X.env) ((model X.prog X.w).den (.forLoop tg (.ref it) body [] X.env))
        (.ret (fun r => ((match r with | .ok f => (.pure f : Sem Flow) | .error e => .raise e).onRaise (cameBack X.env)).wrap K J gd lv) none (gd false) (lv []) code p [] :: fs) s := by
    intro m
    induction m using Nat.strongRecOn with
    | ind m ih =>
    rintro n i ys s0 s σ H hn st free w ⟨acc, cc, r, I⟩
    show Seg _ _ _ _ _ _ _ ((forTurn tg (.ref it) body [] X.env).onRaise (fun x => do noteFrame x X.env; theTreesLotGoes x)) _ s
    rw [Sem.onRaise_eq_wrap]
    unfold forTurn
    apply seg_bind_wrap
    apply wpAny_standAt
    apply seg_bind_wrap
    rw [gl.over]
    apply wpAny_onRaise
    have gone : ∀ (n : Nat) (s0 : Shared) (x : Value) (s : Shared), X.xe x s → Seg (model X.prog X.w) A R (GY X S) n s0 (.forLoop tg (.ref it) body [] X.env) ((do noteFrame x X.env; theTreesLotGoes x : Sem Unit).bind (fun _ => .raise x))
      (.ret (fun r => ((match r with | .ok f => (.pure f : Sem Flow) | .error e => .raise e).onRaise (cameBack X.env)).wrap K J gd lv) none (gd false) (lv []) code p [] :: fs) s := fun n s0 x s hx => by
      rw [Sem.bind_eq_wrap]
      exact leave n s0 x s hx
    rcases turn i m ys σ H w with ⟨stop, q⟩ | ⟨go, N, less, each⟩
    · refine wpAny_mono (T.done X rfl rfl rfl calm i _ s σ H X.xe I (own.at free _) st stop) ?_ fun x s hx => wpAny_standAt (gone n s0 x s hx)
      rintro _ s1 ⟨rfl, I1⟩
      show Seg _ _ _ _ _ _ _ (.pure (.again (.block [] X.env))) _ s1
      apply seg_again rfl
      show Seg _ _ _ _ _ _ _ (leafOf (.ok .next)) _ s1
      exact seg_leaf (.ok .next) (k.ok n ys s0 s1 .next hn ⟨σ, H, ⟨acc, cc, r, I1⟩, q⟩)
    · refine wpAny_mono (T.item X rfl rfl rfl calm i _ s σ H X.xe I (own.at free _) st go) ?_ fun x s hx => wpAny_standAt (gone n s0 x s hx)
      rintro _ s1 ⟨u, rfl, h4⟩
      apply seg_bind_wrap
      rw [gl.over]
      refine wpAny_mono h4 ?_ fun x s hx => gone n s0 x s hx
      rintro _ s2 ⟨x, H5, I5, r5, y5, st5, free5⟩
      have pinned := I5.pinned (own.at free5 _) (T.obj _ _ st5)
      apply seg_bind_wrap
      rw [gl.over]
      refine wpAny_mono (hg.run _ s2 σ H5 x u _ pinned r5 (each x H5 y5)) ?_ fun x s hx => gone n s0 x s hx
      rintro _ s3 ⟨σ6, H6, I6, q6⟩
      have again : ∀ (ys' : List V) (s' : Shared) (σ7 : L2.St) (H7 : Hp) (n' : Nat) (s0' : Shared), n' + ys'.length = sizeLine → GI X S (ip ++ pinsAt fp s2.heap) ys' σ7 H7 s' → N ys' σ7 H7 → Seg (model X.prog X.w) A R (GY X S) n' s0' (.forLoop tg (.ref it) body [] X.env) (.pure (.again (.forLoop tg (.ref it) body [] X.env)))
          (.ret (fun r => ((match r with | .ok f => (.pure f : Sem Flow) | .error e => .raise e).onRaise (cameBack X.env)).wrap K J gd lv) none (gd false) (lv []) code p [] :: fs) s' := by
        rintro ys' s' σ7 H7 n' s0' hn' ⟨acc', cc', r', I7⟩ n7
        obtain ⟨m', lt, w7⟩ := less ys' σ7 H7 n7
        have stay : ∀ b ∈ fp, ∀ o, s2.heap.get? b = some o → s'.heap.get? b = some o ∧ H7 b = none := fun b hb o e => by
          have := I7.pin (b, o) (List.mem_append_right _ (List.mem_cons_of_mem _ (List.mem_append_right _ (mem_pinsAt hb e))))
          exact ⟨this.1, this.2.1⟩
        refine seg_again rfl (ih m' lt n' (i + 1) ys' s0' s' σ7 H7 hn' (T.keep _ _ _ st5 fun b hb o e => (stay b hb o e).1) (fun b hb => ?_) w7 ⟨acc', cc', r', I7.unpinned (pins := (S, lstObj acc' cc') :: ip) (pl := pinsAt fp s2.heap)⟩)
        obtain ⟨o, e, _⟩ := T.obj _ _ st5 b hb
        exact (stay b hb o e).2
      have inner : GC X S (ip ++ pinsAt fp s2.heap) A (.forLoop tg (.ref it) body [] X.env) (.ret (fun r => ((match r with | .ok f => (.pure f : Sem Flow) | .error e => .raise e).onRaise (cameBack X.env)).wrap K J gd lv) none (gd false) (lv []) code p [] :: fs) id :=
        { gl with ip := fun p hp => (List.mem_append.mp hp).elim (g.ip p) fun z => own.no _ (of_pinsAt z).1 }
      have weaker : ∀ {ys' σ7 H7 s'}, GI X S (ip ++ pinsAt fp s2.heap) ys' σ7 H7 s' → GI X S ip ys' σ7 H7 s' := fun ⟨acc', cc', r', I7⟩ => ⟨acc', cc', r', I7.unpinned (pins := (S, lstObj acc' cc') :: ip) (pl := pinsAt fp s2.heap)⟩
      rw [Sem.bind_eq_wrap', Sem.wrap_wrap]
      refine hb.run A S (ip ++ pinsAt fp s2.heap) R n ys s0 _ _ _ _ _ _ s3 σ6 H6 { D with nx := N, ct := N, bk := D.nx } inner hn ⟨?_, ?_⟩ ⟨acc, cc, r, I6⟩ q6
      · intro n' ys' s0' s' f hn' end_
        match f, end_ with
        | .next, ⟨σ7, H7, J7, n7⟩ => exact again ys' s' σ7 H7 n' s0' hn' J7 n7
        | .cont, ⟨σ7, H7, J7, n7⟩ => exact again ys' s' σ7 H7 n' s0' hn' J7 n7
        | .brk, ⟨σ7, H7, J7, q7⟩ => exact seg_leaf (.ok .next) (k.ok n' ys' s0' s' .next hn' ⟨σ7, H7, weaker J7, q7⟩)
        | .ret v, ⟨x7, σ7, H7, J7, r7, q7⟩ => exact seg_leaf (.ok (.ret v)) (k.ok n' ys' s0' s' (.ret v) hn' ⟨x7, σ7, H7, weaker J7, r7, q7⟩)
      · exact fun n' s0' x s' hx => gone n' s0' x s' hx
  exact loop m0 n 0 ys s0 s2 σ H2 hn st2 (fun b hb => (f2 b hb).1) w0 ⟨acc, cc, r, I2⟩
end
end Sea

set_option Elab.async false
set_option linter.all false
set_option maxRecDepth 100000
set_option maxHeartbeats 4000000
/-! generators whose consumer keeps a frame of its own: between two items it writes there, and fills a list. The rules stand for two objects: S the list, C the frame -/
namespace Sea
open PySem PySem.Spec PyProof.Rows L2 GenW
/-- a frame's names -/
def FrO (o : Obj) : Prop := ∃ es ep, o.data = .dict es ep ∧ StrKeys es
theorem FrO.noCell {o : Obj} (h : FrO o) : ∀ v, o.data ≠ .cell v := fun v q => by
  obtain ⟨es, ep, e, _⟩ := h
  rw [e] at q
  cases q
theorem FrO.ns {o : Obj} {h : Heap} {C : Addr} (f : FrO o) (e : h.get? C = some o) : ∃ m, h.Ns C m := by
  obtain ⟨es, ep, e1, e2⟩ := f
  exact ⟨_, o, es, ep, e, e1, e2, fun _ => rfl⟩
theorem frO_ns {h : Heap} {C : Addr} {m : Str → Option Value} (n : h.Ns C m) : ∃ o, h.get? C = some o ∧ FrO o := by
  obtain ⟨o, es, ep, e, e1, e2, _⟩ := n
  exact ⟨o, e, es, ep, e1, e2⟩
structure Duo where
  S : Addr
  C : Addr
  ne : S ≠ C
def CIv (X : Cx) (Z : Duo) (ip : List (Addr × Obj)) (ys : List V) (σ : L2.St) (H : Hp) (s : Shared) : Prop :=
  ∃ (acc : Array Value) (c : Nat) (o : Obj), Vals ys acc.toList ∧ FrO o ∧ Inv X ((Z.S, lstObj acc c) :: (Z.C, o) :: ip) σ H s
/-- what the consumer does while the generator sleeps -/
def Meal (Z : Duo) (v : Value) (s s' : Shared) : Prop := ∃ (h : Heap) (o : Obj), (∀ b u, b ≠ Z.C → s.heap.get? b = some u → h.get? b = some u) ∧ h.get? Z.C = some o ∧ FrO o ∧ Slept Z.S v { s with heap := h } s'
/-- where the generator's code stands, seen from either object -/
structure CC (X : Cx) (Z : Duo) (ip : List (Addr × Obj)) (A : Around) (c : Code) (fs : List Frame) (gd : Bool → Bool) : Prop where
  s : GC X Z.S ip A c fs gd
  c : GC X Z.C ip A c fs gd
theorem CIv.gi {X : Cx} {Z : Duo} {ip : List (Addr × Obj)} {ys : List V} {σ : L2.St} {H : Hp} {s : Shared} (h : CIv X Z ip ys σ H s) : GI X Z.S ip ys σ H s := by
  obtain ⟨acc, c, o, r, _, I⟩ := h
  refine ⟨acc, c, r, I.pins_of fun p hp => I.pin p ?_⟩
  rcases List.mem_cons.mp hp with z | z
  · exact List.mem_append_right _ (z ▸ List.mem_cons_self)
  · exact List.mem_append_right _ (List.mem_cons_of_mem _ (List.mem_cons_of_mem _ z))
theorem CIv.at {X : Cx} {Z : Duo} {ip : List (Addr × Obj)} {ys : List V} {σ : L2.St} {H : Hp} {s : Shared} (h : CIv X Z ip ys σ H s) :
    ∃ o, FrO o ∧ s.heap.get? Z.C = some o ∧ H Z.C = none ∧ Z.C ≠ X.env.locals ∧ Z.C ∉ X.fs := by
  obtain ⟨acc, c, o, r, f, I⟩ := h
  obtain ⟨h1, h2, h3, h4, _⟩ := I.pin (Z.C, o) (List.mem_append_right _ (List.mem_cons_of_mem _ List.mem_cons_self))
  exact ⟨o, f, h1, h2, h3, h4⟩
theorem CIv.woken {X : Cx} {Z : Duo} {ip : List (Addr × Obj)} {ys : List V} {x : V} {v : Value} {σ : L2.St} {H : Hp} {s s' : Shared} {A : Around} {c : Code} {fs : List Frame} {gd : Bool → Bool}
    (h : CIv X Z ip ys σ H s) (g : CC X Z ip A c fs gd) (rv : RelV x v) (z : Meal Z v s s') : CIv X Z ip (ys ++ [x]) σ H s' := by
  obtain ⟨hp, o, kp, eo, fo, sl⟩ := z
  obtain ⟨_, _, _, c2, c3, c4⟩ := h.at
  have own : Z.C ∈ X.ex ∨ X.s_0.heap.objs.size ≤ Z.C := .inr g.c.apart.1
  have mid : GI X Z.S ip ys σ H { s with heap := hp, toks := s.toks } := by
    obtain ⟨acc, cc, r, I⟩ := h.gi
    refine ⟨acc, cc, r, I.turned (it := Z.C) kp c2 c3 own g.c.apart.2.2 fun p m => ?_⟩
    rcases List.mem_append.mp m with m | m
    · exact g.c.pn p m
    · rcases List.mem_cons.mp m with m | m
      · rw [m]
        exact Z.ne
      · exact g.c.ip p m
  obtain ⟨acc, cc, r, I⟩ := mid.woken g.s.pn g.s.ip g.s.apart rv sl
  refine ⟨acc, cc, o, r, fo, I.pins_of fun p m => ?_⟩
  rcases List.mem_cons.mp m with m | m
  · exact I.pin p (List.mem_append_right _ (m ▸ List.mem_cons_self))
  rcases List.mem_cons.mp m with m | m
  · rw [m]
    exact ⟨sl.keep _ _ (Ne.symm Z.ne) eo, c2, c3, c4, fo.noCell⟩
  · exact I.pin p (List.mem_append_right _ (List.mem_cons_of_mem _ m))
/-! ### the rules -/
def CY (X : Cx) (Z : Duo) : Protocol := fun n s0 v s kap => ∃ ys x ip σ H, n + 1 + ys.length = sizeLine ∧ RelV x v ∧ CIv X Z ip ys σ H s ∧ ∀ s', Meal Z v s s' → kap (.send .none) s'
def CEd (X : Cx) (Z : Duo) (ip : List (Addr × Obj)) (D : GEnds) (ys : List V) : Flow → Shared → Prop
  | .next, s => ∃ σ H, CIv X Z ip ys σ H s ∧ D.nx ys σ H
  | .brk, s => ∃ σ H, CIv X Z ip ys σ H s ∧ D.bk ys σ H
  | .cont, s => ∃ σ H, CIv X Z ip ys σ H s ∧ D.ct ys σ H
  | .ret u, s => ∃ v σ H, CIv X Z ip ys σ H s ∧ RelV v u ∧ D.rt ys v H
/-- a run of m (a statement, a suite) reads as t -/
def CRun (X : Cx) (m : Sem Flow) (t : TGn) : Prop := ∀ (A : Around) (Z : Duo) (ip : List (Addr × Obj)) (R : GenEnd) (c : Code) (fs : List Frame) (K : Flow → Sem PySem.Fin) (J : Value → Sem PySem.Fin) (gd : Bool → Bool) (lv : List Value → List Value) (D : GEnds), CC X Z ip A c fs gd →
  (∀ n ys s0 s f, n + ys.length = sizeLine → CEd X Z ip D ys f s → Seg (model X.prog X.w) A R (CY X Z) n s0 c (K f) fs s) → (∀ n s0 e s, X.xe e s → Seg (model X.prog X.w) A R (CY X Z) n s0 c (J e) fs s) →
  ∀ n ys s0 s σ H, n + ys.length = sizeLine → CIv X Z ip ys σ H s → t D ys σ H → Seg (model X.prog X.w) A R (CY X Z) n s0 c (m.wrap K J gd lv) fs s
section
variable {X : Cx} {st : Stmt} {rest : List Stmt} {pos : Pos}
theorem cs_ps {t : TS} (h : PS X st t) : CRun X (exec st X.env) (tPlain t) := by
  intro A Z ip R c fs K J gd lv D g ok exc n ys s0 s σ H hn ⟨acc, cc, o, r, fo, I⟩ ht
  refine seg_wrap ?_
  rw [g.s.over]
  refine wpAny_mono (h.run _ s σ H (D.at ys) I ht) (fun f s1 q => ok n ys s0 s1 f hn ?_) fun x s1 hx => exc n s0 x s1 hx
  match f, q with
  | .next, ⟨σ1, H1, J1, q1⟩ => exact ⟨σ1, H1, ⟨acc, cc, o, r, fo, J1⟩, q1⟩
  | .brk, ⟨σ1, H1, J1, q1⟩ => exact ⟨σ1, H1, ⟨acc, cc, o, r, fo, J1⟩, q1⟩
  | .cont, ⟨σ1, H1, J1, q1⟩ => exact ⟨σ1, H1, ⟨acc, cc, o, r, fo, J1⟩, q1⟩
  | .ret u, ⟨v, σ1, H1, J1, r1, q1⟩ => exact ⟨v, σ1, H1, ⟨acc, cc, o, r, fo, J1⟩, r1, q1⟩
theorem css_nil : CRun X (execs [] X.env) tG0 := fun _ _ _ _ _ _ _ _ _ _ _ _ ok _ n ys s0 s σ H hn I ht => seg_execs_nil (ok n ys s0 s .next hn ⟨σ, H, I, ht⟩)
theorem css_cons {t u : TGn} (a : CRun X (exec st X.env) t) (b : CRun X (execs rest X.env) u) : CRun X (execs (st :: rest) X.env) (tGThen t u) := by
  intro A Z ip R c fs K J gd lv D g ok exc n ys s0 s σ H hn I ht
  refine seg_execs_cons (a A Z ip R c fs _ J gd lv { D with nx := fun ys' σ' H' => u D ys' σ' H' } g (fun n1 ys1 s1 s2 f e q => ?_) exc n ys s0 s σ H hn I ht)
  match f, q with
  | .next, ⟨σ2, H2, I2, q2⟩ => exact b A Z ip R c fs K J gd lv D g ok exc n1 ys1 s1 s2 σ2 H2 e I2 q2
  | .brk, q => exact ok n1 ys1 s1 s2 .brk e q
  | .cont, q => exact ok n1 ys1 s1 s2 .cont e q
  | .ret u, q => exact ok n1 ys1 s1 s2 (.ret u) e q
theorem cs_yield {e : Expr} {yp : Pos} {te : TE} (he : PE X e te) (hco : X.env.scope.isCoroutine = false := by rfl) (hi : interactive X.env = false := by rfl) : CRun X (exec (.Expr (.Yield (some e) yp) pos) X.env) (tGYield te) := by
  intro A Z ip R c fs K J gd lv D g ok exc n ys s0 s σ H hn ⟨acc, cc, o, r, fo, I⟩ ⟨few, ht⟩
  cases n with
  | zero => omega
  | succ n =>
    refine seg_Expr_Yield g.s.split g.s.gd g.s.guard ?_ hco hi
    rw [g.s.over]
    refine wpAny_mono (he.run _ s σ H _ I ht) ?_ fun x s1 hx => exc _ s0 x s1 hx
    rintro v s1 ⟨x, H1, I1, rv, q⟩ kap hk
    have c1 : CIv X Z ip ys σ H1 s1 := ⟨acc, cc, o, r, fo, I1⟩
    exact ⟨ys, x, ip, σ, H1, hn, rv, c1, fun s2 z => hk .none s2 (ok n (ys ++ [x]) s2 s2 .next (by rw [List.length_append]; show n + (ys.length + 1) = _; omega) ⟨σ, H1, c1.woken g rv z, q⟩)⟩
theorem cs_if {c : Expr} {a b : List Stmt} {tc : TT} {t u : TGn} (hc : PT X c tc) (ha : CRun X (execs a X.env) t) (hb : CRun X (execs b X.env) u) : CRun X (exec (.If c a b pos) X.env) (tGIf tc t u) := by
  intro A Z ip R cd fs K J gd lv D g ok exc n ys s0 s σ H hn ⟨acc, cc, o, r, fo, I⟩ ht
  rw [exec_If]
  apply seg_bind_wrap
  apply wpAny_standAt
  apply seg_bind_wrap
  rw [g.s.over]
  refine wpAny_mono (hc.run _ s σ H _ I ht) ?_ fun x s1 hx => exc n s0 x s1 hx
  rintro (_ | _) s1 ⟨H1, I1, q⟩
  · exact hb A Z ip R cd fs K J gd lv D g ok exc n ys s0 s1 σ H1 hn ⟨acc, cc, o, r, fo, I1⟩ q
  · exact ha A Z ip R cd fs K J gd lv D g ok exc n ys s0 s1 σ H1 hn ⟨acc, cc, o, r, fo, I1⟩ q
end
end Sea

set_option Elab.async false
set_option linter.all false
set_option maxRecDepth 100000
set_option maxHeartbeats 4000000
namespace Sea
open PySem PySem.Spec PyProof.Rows L2 GenW
section
variable {X : Cx} {pos : Pos}
theorem own_duo {Z : Duo} {ip : List (Addr × Obj)} {fp : List Addr} {H H' : Hp} {oS oC oS' oC' : Obj} (h : ∀ b ∈ fp, FpOk X ((Z.S, oS) :: (Z.C, oC) :: ip) H b) (hn : ∀ b ∈ fp, H' b = none) : ∀ b ∈ fp, FpOk X ((Z.S, oS') :: (Z.C, oC') :: ip) H' b := by
  intro b hb
  obtain ⟨_, a1, a2, a3, a4, a5⟩ := h b hb
  refine ⟨hn b hb, a1, a2, a3, a4, fun p hp => ?_⟩
  rcases List.mem_append.mp hp with z | z
  · exact a5 p (List.mem_append_left _ z)
  · rcases List.mem_cons.mp z with z | z
    · rw [z]
      exact a5 (Z.S, oS) (List.mem_append_right _ List.mem_cons_self)
    rcases List.mem_cons.mp z with z | z
    · rw [z]
      exact a5 (Z.C, oC) (List.mem_append_right _ (List.mem_cons_of_mem _ List.mem_cons_self))
    · exact a5 p (List.mem_append_right _ (List.mem_cons_of_mem _ (List.mem_cons_of_mem _ z)))
theorem CC.loop {Z : Duo} {ip : List (Addr × Obj)} {A : Around} {c c' : Code} {fs : List Frame} {gd : Bool → Bool} {k : Result → Sem PySem.Fin} {l kp : List Value} {p : Pos} (g : CC X Z ip A c fs gd) (hw : c'.weight = 0) (hu : c'.cUnits = 0) : CC X Z ip A c' (.ret k none (gd false) l c p kp :: fs) id := ⟨gc_loop g.s hw hu, gc_loop g.c hw hu⟩
theorem cs_for {tg iter : Expr} {body : List Stmt} {wi : TI} {gt : TG} {tb : TGn} (hp : PassesOwn (model X.prog X.w) X.A X.env X.xe) (calm : X.calm = true) (hi : PI X tg iter wi) (hg : PG X tg gt) (hb : CRun X (execs body X.env) tb)
    (hs : ∀ x, foldedSetIterable iter X.env x = pure x := by intro _; rfl) : CRun X (exec (.For tg iter body [] pos) X.env) (tGFor wi gt tb) := by
  intro A Z ip R c fs K J gd lv D g ok exc n ys s0 s σ H hn ⟨acc, cc, o, r, fo, I⟩ ht
  rw [exec_For]
  apply seg_bind_wrap
  apply wpAny_standAt
  apply seg_bind_wrap
  rw [g.s.over]
  refine wpAny_mono (hi.run _ s σ H _ I ht) ?_ fun x s1 hx => exc n s0 x s1 hx
  intro v s1 made
  apply seg_bind_wrap
  rw [hs v]
  apply wpAny_pure
  apply seg_bind_wrap
  apply wpAny_standAt
  apply seg_bind_wrap
  rw [g.s.over]
  apply wpAny_holding
  refine wpAny_mono made ?_ fun x s2 hx => exc n s0 x s2 hx
  rintro _ s2 ⟨it, fp, tn, Jt, H2, rfl, I2, T, st2, f2, W, ⟨m0, w0⟩, turn⟩
  apply seg_call
  intro p
  have back : ∀ (n : Nat) (s0 : Shared) (e : Value) (s : Shared), cameBackBy (model X.prog X.w) X.A X.env X.xe e s → Seg (model X.prog X.w) A R (CY X Z) n s0 c (((Sem.raise e : Sem Flow).onRaise (cameBack X.env)).wrap K J gd lv) fs s := by
    intro n s0 e s h
    show Seg _ _ _ _ _ _ _ (((cameBack X.env e).bind fun _ => (Sem.raise e : Sem Flow)).wrap K J gd lv) _ _
    rw [Sem.bind_eq_wrap, Sem.wrap_wrap]
    apply seg_wrap
    rw [g.s.over]
    exact wpAny_mono h (fun _ s' hx => exc n s0 e s' hx) fun x s' hx => exc n s0 x s' hx
  have gl := g.loop (k := fun r => ((match r with | .ok f => (.pure f : Sem Flow) | .error e => .raise e).onRaise (cameBack X.env)).wrap K J gd lv) (c' := .forLoop tg (.ref it) body [] X.env) (l := lv []) (kp := []) (p := p) rfl rfl
  have leave : ∀ (n : Nat) (s0 : Shared) (x : Value) (s : Shared), X.xe x s → Seg (model X.prog X.w) A R (CY X Z) n s0 (.forLoop tg (.ref it) body [] X.env) ((do noteFrame x X.env; theTreesLotGoes x : Sem Unit).wrap (fun _ => .raise x) .raise id id)
      (.ret (fun r => ((match r with | .ok f => (.pure f : Sem Flow) | .error e => .raise e).onRaise (cameBack X.env)).wrap K J gd lv) none (gd false) (lv []) c p [] :: fs) s := by
    intro n s0 x s hx
    apply seg_wrap
    rw [gl.s.over]
    apply wpAny_bind
    refine wpAny_mono (hp x s hx) (fun _ s1 b => wpAny_theTreesLotGoes ?_) fun y s1 b => ?_
    · exact seg_leaf (.error x) (back _ _ _ _ b)
    · exact seg_leaf (.error y) (back _ _ _ _ b)
  have loop : ∀ (m n i : Nat) (ys : List V) (s0 s : Shared) (σ : L2.St) (H : Hp), n + ys.length = sizeLine → tn i s.heap → (∀ b ∈ fp, H b = none) → W i m ys σ H → CIv X Z ip ys σ H s →
      Seg (model X.prog X.w) A R (CY X Z) n s0 (.forLoop tg (.ref it) body [] X.env) ((model X.prog X.w).den (.forLoop tg (.ref it) body [] X.env))
        (.ret (fun r => ((match r with | .ok f => (.pure f : Sem Flow) | .error e => .raise e).onRaise (cameBack X.env)).wrap K J gd lv) none (gd false) (lv []) c p [] :: fs) s := by
    intro m
    induction m using Nat.strongRecOn with
    | ind m ih =>
    rintro n i ys s0 s σ H hn st free w ⟨acc, cc, o, r, fo, I⟩
    show Seg _ _ _ _ _ _ _ ((forTurn tg (.ref it) body [] X.env).onRaise (fun x => do noteFrame x X.env; theTreesLotGoes x)) _ s
    rw [Sem.onRaise_eq_wrap]
    unfold forTurn
    apply seg_bind_wrap
    apply wpAny_standAt
    apply seg_bind_wrap
    rw [gl.s.over]
    apply wpAny_onRaise
    have gone : ∀ (n : Nat) (s0 : Shared) (x : Value) (s : Shared), X.xe x s → Seg (model X.prog X.w) A R (CY X Z) n s0 (.forLoop tg (.ref it) body [] X.env) ((do noteFrame x X.env; theTreesLotGoes x : Sem Unit).bind (fun _ => .raise x))
      (.ret (fun r => ((match r with | .ok f => (.pure f : Sem Flow) | .error e => .raise e).onRaise (cameBack X.env)).wrap K J gd lv) none (gd false) (lv []) c p [] :: fs) s := fun n s0 x s hx => by
      rw [Sem.bind_eq_wrap]
      exact leave n s0 x s hx
    rcases turn i m ys σ H w with ⟨stop, q⟩ | ⟨go, N, less, each⟩
    · refine wpAny_mono (T.done X rfl rfl rfl calm i _ s σ H X.xe I (own_duo f2 free) st stop) ?_ fun x s hx => wpAny_standAt (gone n s0 x s hx)
      rintro _ s1 ⟨rfl, I1⟩
      show Seg _ _ _ _ _ _ _ (.pure (.again (.block [] X.env))) _ s1
      apply seg_again rfl
      show Seg _ _ _ _ _ _ _ (leafOf (.ok .next)) _ s1
      exact seg_leaf (.ok .next) (ok n ys s0 s1 .next hn ⟨σ, H, ⟨acc, cc, o, r, fo, I1⟩, q⟩)
    · refine wpAny_mono (T.item X rfl rfl rfl calm i _ s σ H X.xe I (own_duo f2 free) st go) ?_ fun x s hx => wpAny_standAt (gone n s0 x s hx)
      rintro _ s1 ⟨u, rfl, h4⟩
      apply seg_bind_wrap
      rw [gl.s.over]
      refine wpAny_mono h4 ?_ fun x s hx => gone n s0 x s hx
      rintro _ s2 ⟨x, H5, I5, r5, y5, st5, free5⟩
      have I5p := I5.pinned (own_duo f2 free5) (T.obj _ _ st5)
      apply seg_bind_wrap
      rw [gl.s.over]
      refine wpAny_mono (hg.run _ s2 σ H5 x u _ I5p r5 (each x H5 y5)) ?_ fun x s hx => gone n s0 x s hx
      rintro _ s3 ⟨σ6, H6, I6, q6⟩
      have lose : ∀ {ys' σ7 H7 s'}, CIv X Z (ip ++ pinsAt fp s2.heap) ys' σ7 H7 s' → CIv X Z ip ys' σ7 H7 s' := fun {ys' σ7 H7 s'} ⟨acc', cc', o', r', f', I7⟩ => ⟨acc', cc', o', r', f', I7.pins_of fun p hp => I7.pin p (by
        rcases List.mem_cons.mp hp with z | z
        · exact List.mem_append_right _ (z ▸ List.mem_cons_self)
        rcases List.mem_cons.mp z with z | z
        · exact List.mem_append_right _ (List.mem_cons_of_mem _ (z ▸ List.mem_cons_self))
        · exact List.mem_append_right _ (List.mem_cons_of_mem _ (List.mem_cons_of_mem _ (List.mem_append_left _ z))))⟩
      have again : ∀ (ys' : List V) (s' : Shared) (σ7 : L2.St) (H7 : Hp) (n' : Nat) (s0' : Shared), n' + ys'.length = sizeLine → CIv X Z (ip ++ pinsAt fp s2.heap) ys' σ7 H7 s' → N ys' σ7 H7 → Seg (model X.prog X.w) A R (CY X Z) n' s0' (.forLoop tg (.ref it) body [] X.env) (.pure (.again (.forLoop tg (.ref it) body [] X.env)))
          (.ret (fun r => ((match r with | .ok f => (.pure f : Sem Flow) | .error e => .raise e).onRaise (cameBack X.env)).wrap K J gd lv) none (gd false) (lv []) c p [] :: fs) s' := by
        intro ys' s' σ7 H7 n' s0' hn' c7 n7
        obtain ⟨m', lt, w7⟩ := less ys' σ7 H7 n7
        have stay : ∀ b ∈ fp, ∀ o, s2.heap.get? b = some o → s'.heap.get? b = some o ∧ H7 b = none := fun b hb o e => by
          obtain ⟨_, _, _, _, _, I7⟩ := c7
          have := I7.pin (b, o) (List.mem_append_right _ (List.mem_cons_of_mem _ (List.mem_cons_of_mem _ (List.mem_append_right _ (mem_pinsAt hb e)))))
          exact ⟨this.1, this.2.1⟩
        refine seg_again rfl (ih m' lt n' (i + 1) ys' s0' s' σ7 H7 hn' (T.keep _ _ _ st5 fun b hb o e => (stay b hb o e).1) (fun b hb => ?_) w7 (lose c7))
        obtain ⟨o, e, _⟩ := T.obj _ _ st5 b hb
        exact (stay b hb o e).2
      have apart : ∀ q ∈ pinsAt fp s2.heap, q.1 ≠ Z.S ∧ q.1 ≠ Z.C := fun q hq => by
        obtain ⟨_, _, _, _, _, a5⟩ := f2 q.1 (of_pinsAt hq).1
        exact ⟨(a5 (Z.S, _) (List.mem_append_right _ List.mem_cons_self)).symm, (a5 (Z.C, _) (List.mem_append_right _ (List.mem_cons_of_mem _ List.mem_cons_self))).symm⟩
      have inner : CC X Z (ip ++ pinsAt fp s2.heap) A (.forLoop tg (.ref it) body [] X.env) (.ret (fun r => ((match r with | .ok f => (.pure f : Sem Flow) | .error e => .raise e).onRaise (cameBack X.env)).wrap K J gd lv) none (gd false) (lv []) c p [] :: fs) id :=
        ⟨{ gl.s with ip := fun q hq => (List.mem_append.mp hq).elim (g.s.ip q) fun z => (apart q z).1 }, { gl.c with ip := fun q hq => (List.mem_append.mp hq).elim (g.c.ip q) fun z => (apart q z).2 }⟩
      rw [Sem.bind_eq_wrap', Sem.wrap_wrap]
      refine hb A Z (ip ++ pinsAt fp s2.heap) R _ _ _ _ _ _ { D with nx := N, ct := N, bk := D.nx } inner ?_ ?_ n ys s0 s3 σ6 H6 hn ⟨acc, cc, o, r, fo, I6⟩ q6
      · intro n' ys' s0' s' f hn' end_
        match f, end_ with
        | .next, ⟨σ7, H7, J7, n7⟩ => exact again ys' s' σ7 H7 n' s0' hn' J7 n7
        | .cont, ⟨σ7, H7, J7, n7⟩ => exact again ys' s' σ7 H7 n' s0' hn' J7 n7
        | .brk, ⟨σ7, H7, J7, q7⟩ => exact seg_leaf (.ok .next) (ok n' ys' s0' s' .next hn' ⟨σ7, H7, lose J7, q7⟩)
        | .ret v, ⟨x7, σ7, H7, J7, r7, q7⟩ => exact seg_leaf (.ok (.ret v)) (ok n' ys' s0' s' (.ret v) hn' ⟨x7, σ7, H7, lose J7, r7, q7⟩)
      · exact fun n' s0' x s' hx => gone n' s0' x s' hx
  exact loop m0 n 0 ys s0 s2 σ H2 hn st2 (fun b hb => (f2 b hb).1) w0 ⟨acc, cc, o, r, fo, I2⟩
end
end Sea

set_option Elab.async false
set_option linter.all false
set_option maxRecDepth 100000
set_option maxHeartbeats 4000000
/-! calls of generator defs whose items a list comprehension takes -/
namespace Sea
open PySem PySem.Spec PyProof.Rows L2 GenW
def COut (P : Program) (w : World) (outer : List Env) (H : Hp) (s : Shared) (Z : Duo) (Q : List V → Hp → Prop) : Nat → Shared → Shared → Prop := fun _ _ s1 =>
  ∃ H' ys acc c o, s1.os = s.os ∧ AllBare s1.gens ∧ Un (frs outer) [] H H' s.heap s1.heap ∧ HOk P w H' s1.heap ∧ H' Z.S = none ∧ H' Z.C = none ∧ s1.heap.get? Z.S = some (lstObj acc c) ∧ s1.heap.get? Z.C = some o ∧ FrO o ∧ Vals ys acc.toList ∧ ys.length ≤ sizeLine ∧ Q ys H'
abbrev COff (P : Program) (w : World) (outer : List Env) (H : Hp) (s : Shared) (Z : Duo) (Q : List V → Hp → Prop) (E : XK) : GenEnd := fun n s0 r s1 => ((r = .ok (.ret .none) ∨ r = .ok .next) ∧ COut P w outer H s Z Q n s0 s1) ∨ ∃ e, r = .error e ∧ CX P w outer H s E e s1
def CItem (s : Shared) (Z : Duo) (a : Addr) (g : Nat) : Protocol := fun n s0 v s1 kap =>
  s1.os = s.os ∧ AllBare s1.gens ∧ s1.heap.NoLimit ∧ s1.heap.IsGen a g ∧ (∃ acc c, s1.heap.get? Z.S = some (lstObj acc c) ∧ n + 1 + acc.size = sizeLine) ∧ (∃ o, s1.heap.get? Z.C = some o ∧ FrO o) ∧ ∀ s', Meal Z v s1 s' → kap (.send .none) s'
def CMade (P : Program) (w : World) (k : Nat) (outer : List Env) (H : Hp) (s : Shared) (Q : List V → Hp → Prop) (E : XK) (u : Value) (s' : Shared) : Prop :=
  ∃ (a : Addr) (g : Nat) (c : Code), u = .ref a ∧ s.heap.objs.size ≤ a ∧ a < s'.heap.objs.size ∧ s'.heap.IsGen a g ∧ s'.gens[g]? = some (.fresh c) ∧ s'.os = s.os ∧ AllBare s'.gens ∧ s'.heap.NoLimit ∧ (∀ b o, s.heap.get? b = some o → s'.heap.get? b = some o) ∧
    ∀ (A : Around) (Z : Duo) (s2 : Shared), Room k A → A.frames = some outer → s'.heap.objs.size ≤ Z.S → s'.heap.objs.size ≤ Z.C → (∀ b o, s'.heap.get? b = some o → s2.heap.get? b = some o) → (∃ c, s2.heap.get? Z.S = some (lstObj #[] c)) → (∃ o, s2.heap.get? Z.C = some o ∧ FrO o) → s2.os = s.os → AllBare s2.gens →
      Seg (model P w) A (COff P w outer H s Z Q E) (CItem s Z a g) sizeLine s2 c ((model P w).den c) [] s2
structure CFn (P : Program) (w : World) (K : PySem.W.Frag) (mg : Str → Option Value) (base : Heap) (k : Nat) (f : Addr) (fd : FuncData) (ps : List Str) (sp : SpG) : Prop where
  len : ∀ vs H Q E, sp vs H Q E → vs.length = ps.length
  run : ∀ (A : Around) (outer : List Env) (s : Shared) (H : Hp) (args : Args) (us : List Value) (vs : List V) (Q : List V → Hp → Prop) (E : XK), Room k A → Env0 P w K mg base A outer s H → BindsTo s fd args (ps.zip us) → Vals vs us → sp vs H Q E →
    codeAny (model P w) A (.call (.ref f) args) (fun r s' => match r with | .ok (.ret u) => CMade P w k outer H s Q E u s' | _ => False) s
section
variable {P : Program} {w : World} {K : PySem.W.Frag} {mg : Str → Option Value} {base : Heap} {k : Nat} {f : Addr} {name qual : Str} {params : Arguments} {body : List Stmt} {scope : Scope} {dV kV doc pm cdv ct oc : Value} {an od : Option Addr} {osl : Array (Option Value)} {N ps : List Str} {sp : SpG}
/-- the body's run, from the moment of its first item's call -/
theorem c_begin {A : Around} {outer : List Env} {s s1 s2 : Shared} {H : Hp} {vs : List V} {Q : List V → Hp → Prop} {E : XK} {go : Obj} {t : TGn} {Z : Duo} {tk : Nat}
    (I1 : Inv (gcxOf P w K mg base N qual scope f cdv A outer s H E []) [] (start N vs) H s1) (gd : ∀ v, go.data ≠ .cell v) (hgen : ∀ h : Heap, h.get? s1.heap.objs.size = some go → h.IsGen s1.heap.objs.size s1.gens.size)
    (ht : CRun (gcxOf P w K mg base N qual scope f cdv A outer s H E [(s1.heap.objs.size, go)]) (execs body (envOfC qual scope s.heap.objs.size f cdv)) t)
    (hq : t { nx := fun ys _ H' => Q ys H', rt := fun ys v H' => v = .non ∧ Q ys H' } [] (start N vs) H)
    (hS : s1.heap.objs.size < Z.S) (hC : s1.heap.objs.size < Z.C) (hk : ∀ b o, s1.heap.get? b = some o → s2.heap.get? b = some o) (eg : s2.heap.get? s1.heap.objs.size = some go) (eS : ∃ c, s2.heap.get? Z.S = some (lstObj #[] c)) (eC : ∃ o, s2.heap.get? Z.C = some o ∧ FrO o) (os : s2.os = s.os) (ba : AllBare s2.gens) :
    Seg (model P w) A (COff P w outer H s Z Q E) (CItem s Z s1.heap.objs.size s1.gens.size) sizeLine s2 (.func body (envOfC qual scope s.heap.objs.size f cdv)) ((model P w).den (.func body (envOfC qual scope s.heap.objs.size f cdv))) [] s2 := by
  have os1 : s1.os = s.os := I1.os
  have I2 : Inv (gcxOf P w K mg base N qual scope f cdv A outer s H E []) [] (start N vs) H s2 := I1.call' (ch := []) (os.trans os1.symm) (Un.kept hk) (I1.hok.kept hk) ba fun b z => by simp at z
  have new : ∀ {b : Addr}, s1.heap.objs.size ≤ b → FpOk (gcxOf P w K mg base N qual scope f cdv A outer s H E []) [] H b := fun h => I1.fpOk h (I1.hok.fresh h)
  obtain ⟨cS, eS⟩ := eS
  obtain ⟨oC, eC, fC⟩ := eC
  have pin : ∀ {b : Addr} {o : Obj}, s1.heap.objs.size ≤ b → s2.heap.get? b = some o → (∀ v, o.data ≠ .cell v) → s2.heap.get? b = some o ∧ H b = none ∧ b ≠ (envOfC qual scope s.heap.objs.size f cdv).locals ∧ b ∉ frs outer ∧ ∀ v, o.data ≠ .cell v := fun h e n => by
    obtain ⟨a1, a2, a3, _⟩ := new h
    exact ⟨e, a1, a2, a3, n⟩
  have lS : ∀ v, (lstObj #[] cS).data ≠ .cell v := fun v q => by cases q
  have J : CIv (gcxOf P w K mg base N qual scope f cdv A outer s H E [(s1.heap.objs.size, go)]) Z [] [] (start N vs) H s2 := by
    refine ⟨#[], cS, oC, .nil, fC, Inv.pinnedG I2 fun p hp => ?_⟩
    rcases List.mem_append.mp hp with z | z
    · rw [List.mem_singleton.mp z]
      exact pin (Nat.le_refl _) eg gd
    rcases List.mem_cons.mp z with z | z
    · rw [z]
      exact pin (Nat.le_of_lt hS) eS lS
    · rw [List.mem_singleton.mp z]
      exact pin (Nat.le_of_lt hC) eC fC.noCell
  have place : ∀ b, s1.heap.objs.size < b → GC (gcxOf P w K mg base N qual scope f cdv A outer s H E [(s1.heap.objs.size, go)]) b [] A (.func body (envOfC qual scope s.heap.objs.size f cdv)) [] id := fun b hb => by
    obtain ⟨_, a2, _, a4, a5, _⟩ := new (Nat.le_of_lt hb)
    refine ⟨fun p hp => ?_, fun p hp => (by simp at hp), ⟨a4.resolve_left fun z => by simp [gcxOf, cxOf] at z, a2, a5⟩, over_func, rfl, rfl, rfl⟩
    rw [List.mem_singleton.mp hp]
    exact Nat.ne_of_lt hb
  refine seg_func (seg_imp (R := fun n s0 r s' => match r with
      | .ok (.ret u) => ∃ ys v ip σ H', n + ys.length = sizeLine ∧ CIv (gcxOf P w K mg base N qual scope f cdv A outer s H E [(s1.heap.objs.size, go)]) Z ip ys σ H' s' ∧ RelV v u ∧ v = .non ∧ Q ys H'
      | .ok _ => False
      | .error e => CX P w outer H s E e s') (Y := CY (gcxOf P w K mg base N qual scope f cdv A outer s H E [(s1.heap.objs.size, go)]) Z) (fun n s0 r s' hR => ?_) (fun n s0 v s' kap kap' hkk hY => ?_) sizeLine ?_)
  · match r, hR with
    | .error e, hR => exact .inr ⟨e, rfl, hR⟩
    | .ok (.ret u), ⟨ys, v, ip, σ, H', hn, c, rv, ev, q⟩ =>
      subst ev
      obtain rfl : u = Value.none := rv
      obtain ⟨o, fo, co, c0, _⟩ := c.at
      obtain ⟨s0', _, _, acc, cc, ra, ea⟩ := c.gi.at
      obtain ⟨_, _, _, _, _, I⟩ := c
      exact .inl ⟨.inl rfl, H', ys, acc, cc, o, I.os, I.bare, I.base, I.hok, s0', c0, ea, co, fo, ra, by omega, q⟩
  · obtain ⟨ys, x, ip, σ, H', hn, _, c, hs⟩ := hY
    obtain ⟨o, fo, co, _⟩ := c.at
    obtain ⟨_, _, _, acc, cc, ra, ea⟩ := c.gi.at
    obtain ⟨_, _, _, _, _, I⟩ := c
    have sz : acc.size = ys.length := by
      have e1 := ra.length
      have e2 : acc.toList.length = acc.size := by simp
      omega
    exact ⟨I.os, I.bare, I.nolimit, hgen _ (I.pin (s1.heap.objs.size, go) (List.mem_append_left _ (List.mem_singleton.mpr rfl))).1, ⟨acc, cc, ea, by rw [sz]; exact hn⟩, ⟨o, co, fo⟩, fun s'' z => hkk _ _ (hs s'' z)⟩
  · refine ht A Z [] _ _ [] _ _ id id _ ⟨place _ hS, place _ hC⟩ (fun n ys s0 s' fl hn e => ?_) (fun n s0 e s' hx => ?_) sizeLine [] s2 s2 _ H (Nat.add_zero _) J hq
    · match fl, e with
      | .next, ⟨σ, H', c, q⟩ => exact seg_end (.ok (.ret .none)) ⟨ys, .non, [], σ, H', hn, c, rfl, rfl, q⟩
      | .ret u, ⟨v, σ, H', c, rv, ev, q⟩ => exact seg_end (.ok (.ret u)) ⟨ys, v, [], σ, H', hn, c, rv, ev, q⟩
      | .brk, ⟨_, _, _, q⟩ => exact q.elim
      | .cont, ⟨_, _, _, q⟩ => exact q.elim
    · refine seg_wrap ?_
      rw [over_func]
      refine wpAny_mono (show wpAny (model P w) (A.deeper (envOfC qual scope s.heap.objs.size f cdv)) (leaving (envOfC qual scope s.heap.objs.size f cdv) e) (fun _ s'' => CX P w outer H s E e s'' ∧ ∀ p ∈ [(s1.heap.objs.size, go)], s''.heap.get? p.1 = some p.2) (fun _ _ => False) s' from hx) (fun _ s'' q => ?_) fun _ s'' q => q.elim
      exact seg_end (.error e) q.1
theorem cfn_of (lk : K.lookup f = some ⟨oc, od, .func (PySem.W.fnOf name qual params body scope dV kV doc pm an cdv ct), osl⟩) (hcd : PySem.W.codeIn K cdv qual = true) (S : GScope N ps scope) (len : ∀ vs H Q E, sp vs H Q E → vs.length = ps.length)
    (hbody : ∀ (A : Around) (outer : List Env) (s : Shared) (H : Hp) (vs : List V) (Q : List V → Hp → Prop) (E : XK) (pn : List (Addr × Obj)), Room k (A.deeper (envOfC qual scope s.heap.objs.size f cdv)) → sp vs H Q E →
      ∃ t, CRun (gcxOf P w K mg base N qual scope f cdv A outer s H E pn) (execs body (envOfC qual scope s.heap.objs.size f cdv)) t ∧ t { nx := fun ys _ H' => Q ys H', rt := fun ys v H' => v = .non ∧ Q ys H' } [] (start N vs) H) :
    CFn P w K mg base (k + 1) f (PySem.W.fnOf name qual params body scope dV kV doc pm an cdv ct) ps sp := by
  refine ⟨len, fun A outer s H args us vs Q E hr e0 hb r hsp => ?_⟩
  have KX : K.In s.heap := e0.mod.kin.keeps fun b o e => (e0.bs b o e).1
  have lim : s.heap.NoLimit := e0.mod.nolimit.keeps fun b o e => (e0.bs b o e).1
  refine codeAny_call_generator hr.depth (KX _ _ lk) rfl S.co S.gen rfl (PySem.W.codeRec_of KX hcd) (hb _ _ _ _ (wpAny_newFunctionEnv_cells S.kind (fun ⟨n, v⟩ hy => ?_) fun env he s1 x => ?_))
  · rcases S.par n (List.of_mem_zip hy).1 with q | q
    · exact .inl q
    · exact .inr ⟨q, PySem.W.cellsFrom_some _ _ _ (.inl q)⟩
  subst he
  have lim1 : s1.heap.NoLimit := lim.keeps x.toInCall.keep
  have sz1 : s.heap.objs.size ≤ s1.heap.objs.size := Nat.le_of_lt x.toInCall.ns.lt
  have kp1 := x.toInCall.keep
  have made := fun (A' : Around) (hd : A'.handled = none) (e' : Env0 P w K mg base A' outer s H) => inv_startG (f := f) (cd := cdv) (qual := qual) (E := E) S hd e' (len _ _ _ _ hsp) r x
  have I0 := made A hr.hd e0
  have os1 : s1.os = s.os := I0.os
  refine ⟨lim1, ?_⟩
  generalize hgo : ({ cls := .type "generator", data := .fields #[.int s1.gens.size 0, .str _ s1.toks, .str _ (s1.toks + 1)] } : Obj) = go
  have g1 : go.cls = .type "generator" := by rw [← hgo]
  have gd : ∀ v, go.data ≠ .cell v := fun v q => by
    rw [← hgo] at q
    cases q
  have hgen : ∀ h : Heap, h.get? s1.heap.objs.size = some go → h.IsGen s1.heap.objs.size s1.gens.size := fun h e => by
    exact ⟨go, _, _, e, g1, congrArg Obj.data hgo.symm, congrArg Obj.slots hgo.symm⟩
  have put : ∀ h : Heap, (h.push go).get? h.objs.size = some go := fun h => by
    rw [← hgo]
    exact Heap.get?_push_size _ rfl
  have keep : ∀ b o, s1.heap.get? b = some o → (s1.heap.push go).get? b = some o := fun b o e => Heap.get?_push_of_some _ e
  refine ⟨s1.heap.objs.size, s1.gens.size, _, rfl, sz1, ?_, hgen _ (put _), Array.getElem?_push_size .., os1, AllBare.push I0.bare rfl, lim1.keeps keep, fun b o e => keep b o (kp1 b o e), ?_⟩
  · show _ < (s1.heap.push _).objs.size
    rw [Heap.size_push]
    exact Nat.lt_succ_self _
  intro Aw Z s2 hrw hfr hS hC hk2 eS eC os2 ba2
  obtain ⟨t, ht, hq⟩ := hbody Aw outer s H vs Q E [(s1.heap.objs.size, go)] (hrw.deeper _) hsp
  have up : ∀ b, (s1.heap.push go).objs.size ≤ b → s1.heap.objs.size < b := fun b h => by
    rw [Heap.size_push] at h
    exact h
  exact c_begin (tk := 0) (made Aw hrw.hd ⟨hfr, e0.mod, e0.bs, e0.bsz, e0.funs, e0.frf, e0.hok, e0.bare⟩) gd hgen ht hq (up _ hS) (up _ hC) (fun b o e => hk2 b o (keep b o e)) (hk2 _ _ (put _)) eS eC os2 ba2
end
end Sea

set_option Elab.async false
set_option linter.all false
set_option maxRecDepth 100000
set_option maxHeartbeats 4000000
/-! [x for x in f(..)], f a generator def -/
namespace Sea
open PySem PySem.Spec PyProof.Rows L2 GenW
section
variable {X : Cx} {k : Nat} {f : Addr} {fd : FuncData} {ps : List Str} {sp : SpG} {dvs : List V} {ds : List Value} {x : Str} {p pos pos' : Pos}
/-- an expression whose value is such a generator, none of whose turns raises -/
structure PCGen (X : Cx) (k : Nat) (e : Expr) (tg : TGen) : Prop where
  run : ∀ (pins : List (Addr × Obj)) (s : Shared) (σ : L2.St) (H : Hp) (cont : List V → Hp → Prop), Inv X pins σ H s → tg σ H cont → wpAny (model X.prog X.w) X.A (eval e X.env)
    (fun u s' => ∃ H1 sc, Inv X pins σ H1 sc ∧ CMade X.prog X.w k X.stack H1 sc cont (fun _ _ _ => False) u s') X.xe s
theorem pcgen_call {e : Expr} {es : List Expr} {t : TA} (F : CFn X.prog X.w X.K X.mg X.base k f fd ps sp) (hr : Room k X.A) (hg : Gl X x) (hm : X.mg x = some (.ref f)) (hk : PySem.W.keepIn X.K (.ref f) = true) (hb : Binds X.K fd ps ds) (hd : Vals dvs ds)
    (ha : PA X (e :: es) t) (hdb : (x == ("__debug__" : Str)) = false := by decide) (he : starEach (e :: es) X.env = (false, eval e X.env) :: starEach es X.env := by rfl) (hpl : (backTo pos' (starEach es X.env)).any (·.1) = false := by rfl) :
    PCGen X k (.Call (.Name x p) (e :: es) [] pos') (tCallG sp dvs (fun _ _ _ => False) t) := by
  refine ⟨fun pins s σ H cont I h => ?_⟩
  refine wpAny_Call_Name_kw (ld_glob I hg hm ?_ hdb)
  refine PySem.W.callWith_K (h₀ := X.base) I.ok.mod.kin hk (thn (ha.run pos' pins s σ H _ I h) fun us s1 ⟨vs, H1, I1, r, q⟩ => ⟨I1.kIn, ?_⟩) he hpl
  have r2 : Vals (vs ++ dvs) (us ++ ds) := r.append hd
  have hl : (us ++ ds).length = ps.length := r2.length ▸ F.len _ _ _ _ q
  refine wpAny_call (codeAny_mono (F.run X.A X.stack s1 H1 ⟨us, []⟩ (us ++ ds) (vs ++ dvs) cont _ hr I1.env0 (hb s1 us I1.kIn hl) r2 q) fun r s2 z => ?_)
  match r, z with
  | .ok (.ret u), z => exact ⟨H1, s1, I1, z⟩
end
section
variable {P : Program} {w : World} {outer : List Env} {H : Hp} {sc : Shared} {Q : List V → Hp → Prop} {A : Around} {R : Result → Shared → Prop} {Z : Duo} {a : Addr} {g : Nat} {y : Str} {py py2 pos : Pos} {e : Expr} {scope : Scope} {ce : Env}
theorem lcG_loop (hh : A.handled = none) (hd : A.depth < recursionLimit) (cL : ce.locals = Z.C) (cK : ce.scope.kind = .function) (cY : ce.kindOf y = some .local) (hdb : (y == ("__debug__" : Str)) = false) (hSa : Z.S ≠ a) (hCa : Z.C ≠ a) (hSs : Z.S ≠ cStatics) (hCs : Z.C ≠ cStatics)
    (hend : ∀ s' acc c o H' ys, s'.heap.get? Z.S = some (lstObj acc c) → s'.heap.get? Z.C = some o → FrO o → Vals ys acc.toList → ys.length ≤ sizeLine → s'.os = sc.os → AllBare s'.gens → Un (frs outer) [] H H' sc.heap s'.heap → HOk P w H' s'.heap → H' Z.S = none → H' Z.C = none → Q ys H' → R (.ok .next) s')
    (m : Nat) (s : Shared) (hg : s.heap.IsGen a g) (hl : s.heap.NoLimit) (go : ∃ gs, s.gens[g]? = some gs ∧ gs.Goes (model P w) A.in1 (COff P w outer H sc Z Q fun _ _ _ => False) (CItem sc Z a g) m (.send .none) (s.setGen g .running)) :
    codeAny (model P w) A (.compLoop (.ListComp (.Name y py) [⟨.Name y py2, e, [], 0⟩] scope pos) 0 (.ref a) (.ref Z.S) ce) R s := by
  refine compLoop_any (fun n s => s.heap.IsGen a g ∧ s.heap.NoLimit ∧ ∃ gs, s.gens[g]? = some gs ∧ gs.Goes (model P w) A.in1 (COff P w outer H sc Z Q fun _ _ _ => False) (CItem sc Z a g) n (.send .none) (s.setGen g .running)) ?_ m ⟨hg, hl, go⟩
  rintro n s ⟨hg, hl, gs, hgs, hgo⟩
  have hgl : g < s.gens.size := (Array.getElem?_eq_some_iff.mp hgs).1
  refine wpAny_gsz (n := g + 1) hgl (next_genG (F := COut P w outer H sc Z Q) (Er := fun e s1 => CX P w outer H sc (fun _ _ _ => False) e s1) hh hl hd hg hgs hgo (fun v s1 gs' hbare hv => ?_) (fun s1 hp h' hk => ?_) fun e s1 he => ?_)
  · intro hsz
    obtain ⟨os1, hb1, hl1, hg1, ⟨acc, c, hS1, many⟩, ⟨o, hC1, fC⟩, wake⟩ := hv
    have room : acc.size < sizeLine := by omega
    have gsz : g < s1.gens.size := by
      have q : (s1.setGen g gs').gens.size = s1.gens.size := setGen_size _ _ _
      have hsz' : g + 1 ≤ (s1.setGen g gs').gens.size := hsz
      omega
    show wpAny _ A (.pure ()) _ _ _
    apply wpAny_pure
    obtain ⟨m0, hn0⟩ := fC.ns hC1
    refine wpAny_assign_Name (wpAny_storeName_local (m := m0) cY (by rw [cL]; exact hn0) (fun h1 hn1 sb1 => ?_) (by rw [cK]; rfl))
    apply wpAny_tests_nil
    rw [if_pos rfl]
    refine wpAny_Name (wpAny_loadName_local (v := v) cK cY hn1 (by simp) ?_) hdb
    rw [cL] at hn1 sb1
    obtain ⟨o2, hC2, f2⟩ := frO_ns hn1
    have hS2 : h1.get? Z.S = some (lstObj acc c) := (sb1.2 _ Z.ne).trans hS1
    refine append_at hS2 (fun h2 sb2 hS3 => ?_) (Nat.le_of_lt room)
    have meal : ∀ G : Array GenState, AllBare G → ∀ tk, Meal Z v s1 { s1 with heap := h2, gens := G, toks := tk } := fun G hG tk => by
      refine ⟨h1, o2, fun b u hb q => (sb1.2 b hb).trans q, hC2, f2, ⟨rfl, hG, fun b u hb q => (sb2.2 b hb).trans q, fun acc' c' q => ?_⟩⟩
      have q : h1.get? Z.S = some (lstObj acc' c') := q
      rw [hS2] at q
      cases q
      exact ⟨_, hS3⟩
    have bare2 : AllBare ((s1.setGen g gs').setGen g .running).gens := allBare_setGen (allBare_setGen hb1 hbare) rfl
    have next := wake _ (meal _ bare2 (s1.toks + 1))
    have keep : ∀ b u, b ≠ Z.S → b ≠ Z.C → s1.heap.get? b = some u → h2.get? b = some u := fun b u hS hC q => (sb2.2 b hS).trans ((sb1.2 b hC).trans q)
    cases n with
    | zero => exact next.elim
    | succ n =>
      refine ⟨n, Nat.lt_succ_self n, ?_, ?_, gs', setGen_at gsz, next⟩
      · obtain ⟨o, nm, qn, ho, r⟩ := hg1
        exact ⟨o, nm, qn, keep a o hSa.symm hCa.symm ho, r⟩
      · obtain ⟨mc, hns, hnn⟩ := hl1
        exact ⟨mc, hns.at' fun o e => keep _ o hSs.symm hCs.symm e, hnn⟩
  · intro hsz
    obtain ⟨H', ys, acc, c, o, os1, hb1, un, hok, hSn, hCn, hS1, hC1, fC, hv, hle, hQ⟩ := hp
    exact hend _ acc c o H' ys (hk _ _ hS1) (hk _ _ hC1) fC hv hle os1 (allBare_setGen hb1 rfl) (un.trans (Un.kept hk)) (hok.kept hk) hSn hCn hQ
  · obtain ⟨_, _, _, _, _, _, _, _, _, _, _, _, no⟩ := he
    exact no.elim
end
section
variable {X : Cx} {k : Nat} {p pos pos' : Pos}
theorem pe_lcG {e : Expr} {tg : TGen} {y : Str} {py py2 : Pos} {scope : Scope} {own : List (Str × Nat)} (h : PCGen X k e tg) (hr : Room (k + 1) X.A) (ok : BlkOk X.N X.env.scope scope own) (hy : scope.names.lookup y = some .local) (hd : (y == ("__debug__" : Str)) = false := by decide)
    (hs : ∀ z, foldedSetIterable e X.env z = pure z := by intro _; rfl) : PE X (.ListComp (.Name y py) [⟨.Name y py2, e, [], 0⟩] scope pos) (tListG tg) := by
  refine ⟨fun pins s σ H Q I hq => ?_⟩
  rw [eval_ListComp]
  have cells : ∀ y ∈ scope.names, y.2 = .free → ∃ c, X.env.cells.lookup y.1 = some c := fun y hy e => (ok.free y hy e).elim (fun z => I.ok.has _ (.inl z)) fun z => I.ok.has _ (.inr z)
  refine wpAny_comprehension_free (use := none) rfl hs (closure_ok cells) ok.kind (fun y hy e => by rw [ok.uniq y hy, e]) (thn (h.run pins s σ H _ I hq) fun u s1 ⟨H1, sc, I1, a, g, c, eu, ha1, ha2, hg, hgs, hos, hb, hl, hkp, wake⟩ => ?_)
  subst eu
  refine wpAny_pyIter_gen hg (wpAny_newObj_type (newEnv_comp ?_) (by show 0 ≤ sizeLine; decide))
  generalize hs3 : ({ s1 with heap := s1.heap.push { cls := .type "list", data := .seq ([] : List Value).toArray } } : Shared) = s3
  have h3 : s3.heap = s1.heap.push { cls := .type "list", data := .seq ([] : List Value).toArray } := by rw [← hs3]
  have g3 : s3.gens = s1.gens := by rw [← hs3]
  have o3 : s3.os = s1.os := by rw [← hs3]
  have z3 : s3.heap.objs.size = s1.heap.objs.size + 1 := by rw [h3, Heap.size_push]
  show codeAny _ _ (.compStart (.ListComp (.Name y py) [⟨.Name y py2, e, [], 0⟩] scope pos) 0 (.ref a) (.ref s1.heap.objs.size) (compEnvC scope (cellsFrom (s3.heap.objs.size + 1) scope.names (cloFrom X.env.cells scope.names [])) s3.heap.objs.size X.env)) (compPost (model X.prog X.w) X.A X.xe none _ (.ref s1.heap.objs.size) s3.heap.objs.size) { s3 with heap := pushCells (s3.heap.push { cls := .type "dict", data := .dict #[] }) scope.names }
  generalize hce : compEnvC scope (cellsFrom (s3.heap.objs.size + 1) scope.names (cloFrom X.env.cells scope.names [])) s3.heap.objs.size X.env = ce
  have cL : ce.locals = s3.heap.objs.size := by rw [← hce]; rfl
  have cK : ce.scope.kind = .function := by rw [← hce]; exact ok.kind
  have cY : ce.kindOf y = some .local := by
    rw [← hce]
    exact lookup_relS_keep (by decide) hy
  have kp4 : ∀ b o, s1.heap.get? b = some o → (pushCells (s3.heap.push { cls := .type "dict", data := .dict #[] }) scope.names).get? b = some o := fun b o q => pushCells_keeps _ _ _ _ (Heap.get?_push_of_some _ (by rw [h3]; exact Heap.get?_push_of_some _ q))
  have eS4 : (pushCells (s3.heap.push { cls := .type "dict", data := .dict #[] }) scope.names).get? s1.heap.objs.size = some (lstObj #[] 0) := pushCells_keeps _ _ _ _ (Heap.get?_push_of_some _ (by rw [h3]; exact Heap.get?_push_size _ rfl))
  have eC4 : (pushCells (s3.heap.push { cls := .type "dict", data := .dict #[] }) scope.names).Ns s3.heap.objs.size (fun _ => none) := Heap.Ns.keeps (Heap.Ns.new ..) fun b o q => pushCells_keeps _ _ _ _ q
  have ne : s1.heap.objs.size ≠ s3.heap.objs.size := by omega
  have eC4' := frO_ns eC4
  have lt3 : s1.heap.objs.size < s3.heap.objs.size := by rw [z3]; exact Nat.lt_succ_self _
  have kin : cStatics < s1.heap.objs.size := let ⟨_, hn, _⟩ := hl; hn.lt
  have loop : codeAny (model X.prog X.w) X.A (.compLoop (.ListComp (.Name y py) [⟨.Name y py2, e, [], 0⟩] scope pos) 0 (.ref a) (.ref s1.heap.objs.size) ce) (compPost (model X.prog X.w) X.A X.xe none (EP X pins σ Q) (.ref s1.heap.objs.size) s3.heap.objs.size) { s3 with heap := pushCells (s3.heap.push { cls := .type "dict", data := .dict #[] }) scope.names } := by
    refine lcG_loop (Z := ⟨s1.heap.objs.size, s3.heap.objs.size, ne⟩) (P := X.prog) (w := X.w) (outer := X.stack) (H := H1) (sc := sc) (Q := fun out H2 => ∀ p, H2 p = none → Q (.ref p) (upd H2 p (.lst out))) (g := g) hr.hd hr.depth cL cK cY hd ?_ ?_ ?_ ?_ (fun s' acc c o H' ys q1 q2 q3 q4 q5 q6 q7 q8 q9 q10 q11 q12 => ?_) sizeLine _ (hg.keeps kp4) (hl.keeps kp4) ⟨.fresh c, ?_, rfl, ?_⟩
    · exact Nat.ne_of_gt ha2
    · exact Nat.ne_of_gt (Nat.lt_trans ha2 lt3)
    · exact Nat.ne_of_gt kin
    · exact Nat.ne_of_gt (Nat.lt_trans kin lt3)
    · obtain ⟨m, hm⟩ := q3.ns q2
      refine ⟨m, hm, fun h' sb => ?_⟩
      have low : sc.heap.objs.size ≤ s1.heap.objs.size := Nat.le_trans ha1 (Nat.le_of_lt ha2)
      have J := I1.drained low q5 q1 q4 .nil q6 q7 q8 q9 q10
      obtain ⟨f0, f1, f2, f3, f4, f5⟩ := I1.fpOk (H' := upd H' s1.heap.objs.size (.lst ys)) (Nat.le_trans low (Nat.le_of_lt lt3)) (by rw [upd_ne (Ne.symm ne)]; exact q11)
      exact ⟨.ref s1.heap.objs.size, _, J.turned (t' := s'.toks) (fun b o hb e => (sb.2 b hb).trans e) f0 f1 f3 f4 f5, rfl, q12 _ q10⟩
    · show s3.gens[g]? = _
      rw [g3]
      exact hgs
    · refine wake X.A.in1 ⟨s1.heap.objs.size, s3.heap.objs.size, ne⟩ _ hr.in1 I1.ok.frames (Nat.le_refl _) (Nat.le_of_lt lt3) kp4 ⟨0, eS4⟩ eC4' ?_ ?_
      · show s3.os = _
        rw [o3]
        exact hos
      · exact allBare_setGen (s := { s3 with heap := _ }) (by show AllBare s3.gens; rw [g3]; exact hb) rfl
  exact codeAny_compStart_list loop (wpAny_pyIter_gen (hg.keeps kp4) loop)
end
end Sea

set_option Elab.async false
set_option linter.all false
set_option maxRecDepth 100000
set_option maxHeartbeats 4000000
/-! one derivation for both readings of a generator def: list(f(..)) and [x for x in f(..)] -/
namespace Sea
open PySem PySem.Spec PyProof.Rows L2 GenW
section
variable {X : Cx} {pos : Pos}
def Bo (X : Cx) (st : Stmt) (t : TGn) : Prop := GS X st t ∧ CRun X (exec st X.env) t
def Bos (X : Cx) (b : List Stmt) (t : TGn) : Prop := GSs X b t ∧ CRun X (execs b X.env) t
theorem b_ps {st : Stmt} {t : TS} (h : PS X st t) : Bo X st (tPlain t) := ⟨gs_ps h, cs_ps h⟩
theorem bs_nil : Bos X [] tG0 := ⟨gss_nil, css_nil⟩
theorem bs_cons {st : Stmt} {rest : List Stmt} {t u : TGn} (a : Bo X st t) (b : Bos X rest u) : Bos X (st :: rest) (tGThen t u) := ⟨gss_cons a.1 b.1, css_cons a.2 b.2⟩
theorem b_yield {e : Expr} {yp : Pos} {te : TE} (he : PE X e te) (hco : X.env.scope.isCoroutine = false := by rfl) (hi : interactive X.env = false := by rfl) : Bo X (.Expr (.Yield (some e) yp) pos) (tGYield te) := ⟨gs_yield he hco hi, cs_yield he hco hi⟩
theorem b_if {c : Expr} {a b : List Stmt} {tc : TT} {t u : TGn} (hc : PT X c tc) (ha : Bos X a t) (hb : Bos X b u) : Bo X (.If c a b pos) (tGIf tc t u) := ⟨gs_if hc ha.1 hb.1, cs_if hc ha.2 hb.2⟩
theorem b_for {tg iter : Expr} {body : List Stmt} {wi : TI} {gt : TG} {tb : TGn} (hp : PassesOwn (model X.prog X.w) X.A X.env X.xe) (calm : X.calm = true) (hi : PI X tg iter wi) (hg : PG X tg gt) (hb : Bos X body tb)
    (hs : ∀ x, foldedSetIterable iter X.env x = pure x := by intro _; rfl) : Bo X (.For tg iter body [] pos) (tGFor wi gt tb) := ⟨gs_for hp calm hi hg hb.1 hs, cs_for hp calm hi hg hb.2 hs⟩
end
section
variable {P : Program} {w : World} {K : PySem.W.Frag} {mg : Str → Option Value} {base : Heap} {k : Nat} {f : Addr} {name qual : Str} {params : Arguments} {body : List Stmt} {scope : Scope} {dV kV doc pm cdv ct oc : Value} {an od : Option Addr} {osl : Array (Option Value)} {N ps : List Str} {sp : SpG}
theorem both_of (lk : K.lookup f = some ⟨oc, od, .func (PySem.W.fnOf name qual params body scope dV kV doc pm an cdv ct), osl⟩) (hcd : PySem.W.codeIn K cdv qual = true) (S : GScope N ps scope) (len : ∀ vs H Q E, sp vs H Q E → vs.length = ps.length)
    (hbody : ∀ (A : Around) (outer : List Env) (s : Shared) (H : Hp) (vs : List V) (Q : List V → Hp → Prop) (E : XK) (pn : List (Addr × Obj)), Room k (A.deeper (envOfC qual scope s.heap.objs.size f cdv)) → sp vs H Q E →
      ∃ t, Bos (gcxOf P w K mg base N qual scope f cdv A outer s H E pn) body t ∧ t { nx := fun ys _ H' => Q ys H', rt := fun ys v H' => v = .non ∧ Q ys H' } [] (start N vs) H) :
    GFn P w K mg base (k + 1) f (PySem.W.fnOf name qual params body scope dV kV doc pm an cdv ct) ps sp ∧ CFn P w K mg base (k + 1) f (PySem.W.fnOf name qual params body scope dV kV doc pm an cdv ct) ps sp :=
  ⟨gfn_of lk hcd S len fun A o s H vs Q E pn hr h => let ⟨t, b, q⟩ := hbody A o s H vs Q E pn hr h; ⟨t, b.1, q⟩, cfn_of lk hcd S len fun A o s H vs Q E pn hr h => let ⟨t, b, q⟩ := hbody A o s H vs Q E pn hr h; ⟨t, b.2, q⟩⟩
end
theorem gfor_rounds {I : It} {g : TG} {tb : TGn} {D : GEnds} {ys : List V} {σ : L2.St} {H : Hp} (n : Nat) (Pv : Nat → List V → L2.St → Hp → Prop) (start : Pv 0 ys σ H)
    (round : ∀ i ys σ H, i < n → Pv i ys σ H → I.go i H ∧ ∀ x H', I.yld i H x H' → g x σ H' fun σ2 H2 => tb { D with nx := Pv (i + 1), ct := Pv (i + 1), bk := D.nx } ys σ2 H2)
    (dry : ∀ ys σ H, Pv n ys σ H → I.stop n H ∧ D.nx ys σ H) :
    ∃ W : Nat → Nat → List V → L2.St → Hp → Prop, (∃ m, W 0 m ys σ H) ∧ ∀ i m ys σ H, W i m ys σ H →
      (I.stop i H ∧ D.nx ys σ H) ∨ (I.go i H ∧ ∃ N : List V → L2.St → Hp → Prop, (∀ ys σ H, N ys σ H → ∃ m', m' < m ∧ W (i + 1) m' ys σ H) ∧ ∀ x H', I.yld i H x H' → g x σ H' fun σ2 H2 => tb { D with nx := N, ct := N, bk := D.nx } ys σ2 H2) := by
  refine ⟨fun i m ys σ H => m + i = n ∧ Pv i ys σ H, ⟨n, rfl, start⟩, ?_⟩
  rintro i (_ | m) ys σ H ⟨e, p⟩
  · rw [Nat.zero_add] at e
    exact .inl (e ▸ dry ys σ H (e ▸ p))
  · have ⟨go, each⟩ := round i ys σ H (by omega) p
    exact .inr ⟨go, Pv (i + 1), fun _ _ _ z => ⟨m, Nat.lt_succ_self m, by omega, z⟩, each⟩
end Sea

set_option Elab.async false
set_option linter.all false
set_option maxRecDepth 100000
set_option maxHeartbeats 4000000
/-! xs[::c] of a list, c a written number -/
namespace Sea
open PySem PySem.Spec PyProof.Rows L2
def every {α : Type} (xs : List α) (d : α) (c : Nat) : List α := (List.range ((xs.length + c - 1) / c)).map fun k => xs.getD (c * k) d
theorem every_lt {n c k : Nat} (hc : 0 < c) (h : k < (n + c - 1) / c) : c * k < n := by
  have h1 : (k + 1) * c ≤ n + c - 1 := (Nat.le_div_iff_mul_le hc).mp h
  rw [Nat.add_mul, Nat.one_mul, Nat.mul_comm] at h1
  omega
theorem step_range {n c : Nat} (hc : 0 < c) : sliceRange 0 (n : Int) (c : Int) = (List.range ((n + c - 1) / c)).map (c * ·) := by
  unfold sliceRange
  have e : (if (c : Int) > 0 then (if (0 : Int) < (n : Int) then ((n : Int) - 0 + (c : Int) - 1) / (c : Int) else 0) else (if (0 : Int) > (n : Int) then (0 - (n : Int) - (c : Int) - 1) / (-(c : Int)) else 0)).toNat = (n + c - 1) / c := by
    rw [if_pos (by omega)]
    by_cases h : 0 < n
    · rw [if_pos (by omega), show (n : Int) - 0 + (c : Int) - 1 = ((n + c - 1 : Nat) : Int) by omega]
      rfl
    · rw [if_neg (by omega)]
      obtain rfl : n = 0 := by omega
      rw [Nat.zero_add, Nat.div_eq_of_lt (by omega)]
      rfl
  show (List.range _).map _ = _
  rw [e]
  refine List.map_congr_left fun k _ => ?_
  rw [show (0 : Int) + (c : Int) * (k : Int) = ((c * k : Nat) : Int) by rw [Int.zero_add]; rfl]
  rfl
theorem pick_step (its : List Value) {c : Nat} (hc : 0 < c) : slicePick its.toArray none none (some (c : Int)) = (every its .none c).toArray := by
  have b : sliceBounds none none (some (c : Int)) its.toArray.size = (0, (its.length : Int), (c : Int)) := by
    unfold sliceBounds
    have h : (c : Int) > 0 := by omega
    have n0 : c ≠ 0 := by omega
    simp [h, n0]
  unfold slicePick
  rw [b, step_range hc]
  unfold every
  congr 1
  rw [List.filterMap_map]
  have go : ∀ l : List Nat, (∀ k ∈ l, c * k < its.length) → l.filterMap ((fun x => its.toArray[x]?) ∘ fun x => c * x) = l.map fun k => its.getD (c * k) .none := by
    intro l
    induction l with
    | nil => exact fun _ => rfl
    | cons k l ih =>
      intro h
      have hk := h k List.mem_cons_self
      have e : ((fun x => its.toArray[x]?) ∘ fun x => c * x) k = some (its.getD (c * k) .none) := by
        show its.toArray[c * k]? = _
        rw [List.getElem?_toArray, List.getD_eq_getElem?_getD, List.getElem?_eq_getElem hk]
        rfl
      rw [List.filterMap_cons_some e, List.map_cons, ih fun j hj => h j (List.mem_cons_of_mem _ hj)]
  exact go _ fun k hk => every_lt hc (List.mem_range.mp hk)
theorem vals_every {xs : List V} {its : List Value} (r : Vals xs its) {c : Nat} (hc : 0 < c) : Vals (every xs .non c) (every its .none c) := by
  unfold every
  rw [r.length]
  have go : ∀ l : List Nat, (∀ k ∈ l, c * k < xs.length) → Vals (l.map fun k => xs.getD (c * k) .non) (l.map fun k => its.getD (c * k) .none) := by
    intro l
    induction l with
    | nil => exact fun _ => .nil
    | cons k l ih =>
      intro h
      have hk := h k List.mem_cons_self
      have e := List.getElem?_eq_getElem hk
      obtain ⟨u, hu, ru⟩ := r.get e
      refine .cons ?_ (ih fun j hj => h j (List.mem_cons_of_mem _ hj))
      show RelV (xs.getD (c * k) .non) (its.getD (c * k) .none)
      rw [List.getD_eq_getElem?_getD, List.getD_eq_getElem?_getD, e, hu]
      exact ru
  exact go _ fun k hk => every_lt hc (by rw [r.length]; exact List.mem_range.mp hk)
def tStepL (K : PySem.W.Frag) (c : Nat) (te : TE) : TE := fun σ H Q => te σ H fun x H1 => ∃ a xs, x = .ref a ∧ SqL K H1 a xs ∧ ∀ p, H1 p = none → Q (.ref p) (upd H1 p (.lst (every xs .non c)))
theorem pe_stepL {X : Cx} {e : Expr} {te : TE} {k c : Nat} {p1 p3 pos : Pos} (he : PE X e te) (hc : 0 < c) (hd : PE X (.Constant (.int (c : Int)) k p1) (tC (.int (c : Int)))) : PE X (.Subscript e (.Slice none none (some (.Constant (.int (c : Int)) k p1)) p3) pos) (tStepL X.K c te) := by
  constructor
  intro pins s σ H Q I h
  have step : PO X (some (.Constant (.int (c : Int)) k p1)) (tPart (tC (.int (c : Int)))) := po_some hd
  refine Subscript_ (thn (he.run pins s σ H _ I h) ?_)
  rintro v s1 ⟨x, H1, I1, r1, a, xs, rfl, hx, q⟩
  obtain rfl : v = .ref a := r1
  apply wpAny_Slice
  refine thn (po_none.run pins s1 σ H1 (fun o H2 => (o, H2) = (none, H1)) I1 rfl) ?_
  rintro vl s2 ⟨_, _, I2, pl, e⟩
  cases e
  refine thn (po_none.run pins s2 σ H1 (fun o H2 => (o, H2) = (none, H1)) I2 rfl) ?_
  rintro vu s3 ⟨_, _, I3, pu, e⟩
  cases e
  refine thn (step.run pins s3 σ H1 (fun o H2 => (o, H2) = (some (c : Int), H1)) I3 ⟨_, rfl, rfl⟩) ?_
  rintro vs s4 ⟨_, _, I4, ps, e⟩
  cases e
  have I5 : Inv X pins σ H1 { s4 with heap := s4.heap.push { cls := .type "slice", data := .fields #[vl, vu, vs] } } := I4.kept (t' := s4.toks) fun _ _ z => Heap.get?_push_of_some _ z
  obtain ⟨its, r, ht, hz⟩ := I5.list hx
  have hlen := r.length
  refine tail_any (ops := [.ref a, .ref s4.heap.objs.size]) ht.isList.typeIs (PySem.slot_list_getitem.lookup) ?_ (by with_unfolding_all rfl)
  refine wpAny_getItem_list_slice ht.isList (Heap.IsSliceOf.new _ vl vu vs) pl pu ps (by intro z; injection z with z; omega) ?_ (by rw [List.size_toArray]; omega)
  rw [pick_step its hc]
  have many : (every xs .non c).length ≤ xs.length := by
    unfold every
    rw [List.length_map, List.length_range]
    rcases Nat.eq_zero_or_pos xs.length with z | z
    · rw [z, Nat.zero_add, Nat.div_eq_of_lt (by omega)]
      exact Nat.le_refl _
    · refine (Nat.div_le_iff_le_mul_add_pred hc).mpr ?_
      have : xs.length ≤ c * xs.length := Nat.le_mul_of_pos_left _ hc
      omega
  refine ⟨.ref _, _, I5.laid (t' := s4.toks) (o := .lst (every xs .non c)) (fun _ _ z => Heap.get?_push_of_some _ z) (Nat.le_refl _) ?_, rfl, q _ (I5.hok.fresh (Nat.le_refl _))⟩
  exact ⟨Nat.le_trans many hz, _, 0, vals_every r hc, Heap.get?_push_size _ rfl⟩
end Sea

set_option Elab.async false
set_option linter.all false
set_option maxRecDepth 100000
set_option maxHeartbeats 4000000
/-! any of a generator expression whose element may call -/
namespace Sea
open PySem PySem.Spec PyProof.Rows L2 GenW
/-- what is known when the walk is over -/
def AFin (P : Program) (w : World) (outer : List Env) (H0 : Hp) (sc : Shared) (ex : List Addr) (Q : Bool → Hp → Prop) (b : Bool) (s1 : Shared) : Prop :=
  s1.os = sc.os ∧ AllBare s1.gens ∧ ∃ H', Un (frs outer) ex H0 H' sc.heap s1.heap ∧ HOk P w H' s1.heap ∧ Q b H'
theorem AFin.kept {P : Program} {w : World} {outer : List Env} {H0 : Hp} {sc s1 : Shared} {ex : List Addr} {Q : Bool → Hp → Prop} {b : Bool} (h : AFin P w outer H0 sc ex Q b s1) {s2 : Shared} (os : s2.os = s1.os) (hb : AllBare s2.gens) (k : ∀ a o, s1.heap.get? a = some o → s2.heap.get? a = some o) : AFin P w outer H0 sc ex Q b s2 := by
  obtain ⟨h1, _, H', un, hok, q⟩ := h
  exact ⟨os.trans h1, hb, H', un.trans (Un.kept k), hok.kept k, q⟩
/-- the walk ends -/
def AEnd (P : Program) (w : World) (outer : List Env) (H0 : Hp) (sc : Shared) (ex : List Addr) (Q : Bool → Hp → Prop) : GenEnd := fun _ _ r s1 => (r = .ok (.ret .none) ∨ r = .ok .next) ∧ AFin P w outer H0 sc ex Q false s1
/-- a truth value is handed out; any asks for the next one only behind False -/
def AItem (P : Program) (w : World) (outer : List Env) (H0 : Hp) (sc : Shared) (ex : List Addr) (Q : Bool → Hp → Prop) (a : Addr) (g : Nat) : Protocol := fun _ _ v s1 kap =>
  s1.os = sc.os ∧ AllBare s1.gens ∧ s1.heap.NoLimit ∧ s1.heap.IsGen a g ∧ ∃ b : Bool, v = .bool b ∧ (b = true → AFin P w outer H0 sc ex Q true s1) ∧ (b = false → ∀ s', s'.os = s1.os → AllBare s'.gens → s'.heap = s1.heap → kap (.send .none) s')
theorem any_drain {P : Program} {w : World} {outer : List Env} {H : Hp} {sc : Shared} {ex : List Addr} {Q : Bool → Hp → Prop} {A : Around} {R : Result → Shared → Prop} {a : Addr} {g : Nat} (hh : A.handled = none) (hd : A.depth < recursionLimit)
    (hend : ∀ b s', AFin P w outer H sc ex Q b s' → R (.ok (.ret (.bool b))) s') :
    ∀ (m : Nat) (s : Shared), s.heap.IsGen a g → s.heap.NoLimit →
      (∃ gs, s.gens[g]? = some gs ∧ gs.Goes (model P w) A.in1.in1 (AEnd P w outer H sc ex Q) (AItem P w outer H sc ex Q a g) m (.send .none) (s.setGen g .running)) →
      codeAny (model P w) A (.builtin "any.loop" ⟨[.ref a], []⟩) R s := by
  have goes : ∀ {gs : GenState} {B : Around} {n : Nat} {r : Resume} {s : Shared}, gs.Goes (model P w) B (AEnd P w outer H sc ex Q) (AItem P w outer H sc ex Q a g) n r s →
      gs.Goes (model P w) B (fun n s₀ r s1 => ((r = .ok (.ret .none) ∨ r = .ok .next) ∧ AFin P w outer H sc ex Q false s1) ∨ ∃ e, r = .error e ∧ False) (AItem P w outer H sc ex Q a g) n r s := fun {gs B n r s} h => by
    have w1 : ∀ {n : Nat} {s₀ : Shared} {c : Code} {t : Sem PySem.Fin} {fs : List Frame} {s : Shared}, Seg (model P w) B (AEnd P w outer H sc ex Q) (AItem P w outer H sc ex Q a g) n s₀ c t fs s →
        Seg (model P w) B (fun n s₀ r s1 => ((r = .ok (.ret .none) ∨ r = .ok .next) ∧ AFin P w outer H sc ex Q false s1) ∨ ∃ e, r = .error e ∧ False) (AItem P w outer H sc ex Q a g) n s₀ c t fs s := fun {n s₀ c t fs s} z =>
      seg_imp (fun _ _ _ _ q => .inl q) (fun _ _ _ _ kap kap' hk hY => by
        obtain ⟨z1, z2, z3, z4, b, z5, z6, z7⟩ := hY
        exact ⟨z1, z2, z3, z4, b, z5, z6, fun e s' o1 o2 o3 => hk _ _ (z7 e s' o1 o2 o3)⟩) n z
    cases gs with
    | fresh c => exact ⟨h.1, w1 h.2⟩
    | suspended k l c p fs r0 => exact w1 h
    | _ => exact h.elim
  have back : ∀ {gs : GenState} {B : Around} {n : Nat} {r : Resume} {s : Shared}, gs.Goes (model P w) B (fun n s₀ r s1 => ((r = .ok (.ret .none) ∨ r = .ok .next) ∧ AFin P w outer H sc ex Q false s1) ∨ ∃ e, r = .error e ∧ False) (AItem P w outer H sc ex Q a g) n r s →
      gs.Goes (model P w) B (AEnd P w outer H sc ex Q) (AItem P w outer H sc ex Q a g) n r s := fun {gs B n r s} h => by
    have w1 : ∀ {n : Nat} {s₀ : Shared} {c : Code} {t : Sem PySem.Fin} {fs : List Frame} {s : Shared}, Seg (model P w) B (fun n s₀ r s1 => ((r = .ok (.ret .none) ∨ r = .ok .next) ∧ AFin P w outer H sc ex Q false s1) ∨ ∃ e, r = .error e ∧ False) (AItem P w outer H sc ex Q a g) n s₀ c t fs s →
        Seg (model P w) B (AEnd P w outer H sc ex Q) (AItem P w outer H sc ex Q a g) n s₀ c t fs s := fun {n s₀ c t fs s} z =>
      seg_imp (fun _ _ _ _ q => q.elim id fun ⟨_, _, z⟩ => z.elim) (fun _ _ _ _ kap kap' hk hY => by
        obtain ⟨z1, z2, z3, z4, b, z5, z6, z7⟩ := hY
        exact ⟨z1, z2, z3, z4, b, z5, z6, fun e s' o1 o2 o3 => hk _ _ (z7 e s' o1 o2 o3)⟩) n z
    cases gs with
    | fresh c => exact ⟨h.1, w1 h.2⟩
    | suspended k l c p fs r0 => exact w1 h
    | _ => exact h.elim
  intro m
  induction m with
  | zero =>
    intro s hg hl ⟨gs, hgs, hgo⟩
    refine codeAny_builtin F.entry_any_loop ?_
    rw [Around.under_plainId F.plain_any_loop _]
    show wpAny _ A.in1 (pyNext (.ref a) >>= _) _ _ s
    refine wpAny_bind (next_genG (A := A.in1) hh hl hd hg hgs (goes hgo) (fun v s₁ gs' hbare hv => ?_) (fun s₁ hp h' hk => ?_) fun e s₁ he => he.elim)
    · obtain ⟨z1, z2, z3, z4, b, rfl, ht, hf⟩ := hv
      refine wpAny_bind (wpAny_holding (wpAny_truthy_bool ?_))
      refine wpAny_bind (wpAny_letGo ?_)
      cases b with
      | true =>
        simp only [if_true]
        exact wpAny_bind (wpAny_rule (wpAny_pure (hend true _ ((ht rfl).kept rfl (allBare_setGen z2 hbare) fun _ _ e => e))))
      | false => exact (hf rfl s₁ rfl z2 rfl).elim
    · exact wpAny_bind (wpAny_rule (wpAny_pure (hend false _ (hp.kept rfl (allBare_setGen hp.2.1 rfl) hk))))
  | succ m ih =>
    intro s hg hl ⟨gs, hgs, hgo⟩
    have hgl : g < s.gens.size := (Array.getElem?_eq_some_iff.mp hgs).1
    refine codeAny_builtin F.entry_any_loop ?_
    rw [Around.under_plainId F.plain_any_loop _]
    show wpAny _ A.in1 (pyNext (.ref a) >>= _) _ _ s
    refine wpAny_bind (wpAny_gsz (n := g + 1) hgl (next_genG (A := A.in1) hh hl hd hg hgs (goes hgo) (fun v s₁ gs' hbare hv => ?_) (fun s₁ hp h' hk => ?_) fun e s₁ he => he.elim))
    · intro hsz
      obtain ⟨z1, z2, z3, z4, b, rfl, ht, hf⟩ := hv
      refine wpAny_bind (wpAny_holding (wpAny_truthy_bool ?_))
      refine wpAny_bind (wpAny_letGo ?_)
      cases b with
      | true =>
        simp only [if_true]
        exact wpAny_bind (wpAny_rule (wpAny_pure (hend true _ ((ht rfl).kept rfl (allBare_setGen z2 hbare) fun _ _ e => e))))
      | false =>
        simp only [Bool.false_eq_true, if_false]
        have hsz1 : g < s₁.gens.size := by
          have q : (s₁.setGen g gs').gens.size = s₁.gens.size := setGen_size _ _ _
          have hsz' : g + 1 ≤ (s₁.setGen g gs').gens.size := hsz
          omega
        refine wpAny_pure ⟨plainId_quiet F.plain_any_loop _, ih (s₁.setGen g gs') z4 z3 ⟨gs', setGen_at hsz1, ?_⟩⟩
        exact back (hf rfl _ rfl (allBare_setGen (s := s₁.setGen g gs') (allBare_setGen z2 hbare) rfl) rfl)
    · intro _
      exact wpAny_bind (wpAny_rule (wpAny_pure (hend false _ (hp.kept rfl (allBare_setGen hp.2.1 rfl) hk))))
end Sea

set_option Elab.async false
set_option linter.all false
set_option maxRecDepth 100000
set_option maxHeartbeats 4000000
/-! .. its loop -/
namespace Sea
open PySem PySem.Spec PyProof.Rows L2 GenW
theorem over_comp {A : Around} {elt : Expr} {gens : List Comprehension} {scope : Scope} {pos : Pos} {it acc : Value} {env : Env} : A.over (.compLoop (.GeneratorExp elt gens scope pos) 0 it acc env) [] = A.deeper env := by
  rfl
theorem over_start {A : Around} {elt : Expr} {gens : List Comprehension} {scope : Scope} {pos : Pos} {it acc : Value} {env : Env} : A.over (.compStart (.GeneratorExp elt gens scope pos) 0 it acc env) [] = A.deeper env := by
  rfl
/-- the turns: nothing left, or an item that is assigned and tested -/
def ATurn (J : It) (g : TG) (te : TE) (Q : Bool → Hp → Prop) (W : Nat → Nat → L2.St → Hp → Prop) : Prop := ∀ i m σ H, W i m σ H → (J.stop i H ∧ Q false H) ∨
  (J.go i H ∧ ∃ Nx : L2.St → Hp → Prop, (∀ σ' H', Nx σ' H' → ∃ m', m' < m ∧ W (i + 1) m' σ' H') ∧ ∀ x H', J.yld i H x H' → g x σ H' fun σ2 H2 => te σ2 H2 fun v H3 => ∃ b : Bool, v = .bl b ∧ (b = true → Q true H3) ∧ (b = false → Nx σ2 H3))
section
variable {X : Cx} {A : Around} {tg elt iter : Expr} {scope : Scope} {pos : Pos} {it : Addr} {fp : List Addr} {tn : Nat → Heap → Prop} {J : It} {g : TG} {te : TE} {Q : Bool → Hp → Prop} {W : Nat → Nat → L2.St → Hp → Prop} {a : Addr} {gi : Nat}
theorem fin_of {pins : List (Addr × Obj)} {σ : L2.St} {H : Hp} {s : Shared} {b : Bool} (I : Inv X pins σ H s) (q : Q b H) : AFin X.prog X.w X.outer X.H_0 X.s_0 X.ex Q b s := ⟨I.os, I.bare, H, I.base, I.hok, q⟩
theorem seg_loopA (hA : A.deeper X.env = X.A) (calm : X.calm = true) (no : ∀ x s, ¬ X.xe x s) (hco : X.env.scope.isCoroutine = false) (T : Turn X.prog X.w X.K tg J fp it tn) (hg : PG X tg g) (he : PE X elt te)
    (own : ∀ {H : Hp}, (∀ b ∈ fp, H b = none) → ∀ b ∈ fp, FpOk X [] H b) (isg : ∀ {pins σ H s}, Inv X pins σ H s → s.heap.IsGen a gi) (turn : ATurn J g te Q W) :
    ∀ (m n i : Nat) (s₀ s : Shared) (σ : L2.St) (H : Hp), m < n → tn i s.heap → (∀ b ∈ fp, H b = none) → W i m σ H → Inv X [] σ H s →
      Seg (model X.prog X.w) A (AEnd X.prog X.w X.outer X.H_0 X.s_0 X.ex Q) (AItem X.prog X.w X.outer X.H_0 X.s_0 X.ex Q a gi) n s₀ (.compLoop (.GeneratorExp elt [⟨tg, iter, [], 0⟩] scope pos) 0 (.ref it) .none X.env)
        ((model X.prog X.w).den (.compLoop (.GeneratorExp elt [⟨tg, iter, [], 0⟩] scope pos) 0 (.ref it) .none X.env)) [] s := by
  intro m
  induction m using Nat.strongRecOn with
  | ind m ih =>
  rintro n i s₀ s σ H hn st free w I
  have over : A.over (.compLoop (.GeneratorExp elt [⟨tg, iter, [], 0⟩] scope pos) 0 (.ref it) .none X.env) [] = X.A := over_comp.trans hA
  show Seg _ A _ _ _ s₀ _ ((compTurn (.GeneratorExp elt [⟨tg, iter, [], 0⟩] scope pos) 0 (.ref it) .none X.env).onRaise (leaving X.env)) [] s
  rw [compTurn_gen, Sem.onRaise_eq_wrap]
  refine seg_bind_wrap (wpAny_standAt ?_)
  rcases turn i m σ H w with ⟨stop, q⟩ | ⟨go, Nx, less, each⟩
  · refine seg_bind_wrap ?_
    rw [over]
    refine wpAny_mono (T.done X rfl rfl rfl calm i _ s σ H X.xe I (own free) st stop) ?_ fun x s hx => (no x s hx).elim
    rintro _ s1 ⟨rfl, I1⟩
    exact seg_end (.ok .next) ⟨.inr rfl, fin_of I1 q⟩
  · refine seg_bind_wrap ?_
    rw [over]
    refine wpAny_mono (T.item X rfl rfl rfl calm i _ s σ H X.xe I (own free) st go) ?_ fun x s hx => (no x s hx).elim
    rintro _ s1 ⟨u, rfl, h4⟩
    refine seg_bind_wrap ?_
    rw [over]
    refine wpAny_mono h4 ?_ fun x s hx => (no x s hx).elim
    rintro _ s2 ⟨x, H5, I5, r5, y5, st5, free5⟩
    have pinned := I5.pinned (own free5) (T.obj _ _ st5)
    refine seg_bind_wrap ?_
    rw [over]
    refine wpAny_mono (hg.run _ s2 σ H5 x u _ pinned r5 (each x H5 y5)) ?_ fun x s hx => (no x s hx).elim
    rintro _ s3 ⟨σ6, H6, I6, q6⟩
    refine seg_bind_wrap ?_
    simp only [List.forIn_nil]
    refine wpAny_pure ?_
    simp only [if_true]
    have hy : ∀ v, yieldOut X.env v = yieldValue v := fun v => by simp only [yieldOut, hco, Bool.false_eq_true, if_false]
    simp only [hy]
    rw [Sem.bind_eq_wrap', Sem.bind_eq_wrap', Sem.wrap_wrap, Sem.wrap_wrap]
    refine seg_wrap ?_
    rw [over]
    refine wpAny_mono (he.run _ s3 σ6 H6 _ I6 q6) ?_ fun x s hx => (no x s hx).elim
    rintro v s4 ⟨v7, H7, I7, r7, b, ev, qt, qf⟩
    subst ev
    obtain rfl : v = .bool b := r7
    cases n with
    | zero => omega
    | succ n =>
      refine seg_at (seg_yield rfl rfl rfl ⟨I7.os, I7.bare, I7.nolimit, isg I7, b, rfl, fun hb => fin_of I7 (qt hb), fun hb s' o1 o2 o3 => ?_⟩)
      obtain ⟨m', lt, w7⟩ := less σ6 H7 (qf hb)
      have stay : ∀ b ∈ fp, ∀ o, s2.heap.get? b = some o → s4.heap.get? b = some o ∧ H7 b = none := fun b hb o e => by
        have := I7.pin (b, o) (List.mem_append_right _ (List.mem_append_right _ (mem_pinsAt hb e)))
        exact ⟨this.1, this.2.1⟩
      have I8 : Inv X [] σ6 H7 s4 := I7.unpinned (pins := []) (pl := pinsAt fp s2.heap)
      have I9 : Inv X [] σ6 H7 s' := I8.call' (ch := []) o1 (Un.kept fun b o e => by rw [o3]; exact e) (I8.hok.kept fun b o e => by rw [o3]; exact e) o2 fun b z => by simp at z
      refine seg_again rfl (ih m' lt n (i + 1) _ s' σ6 H7 (by omega) (T.keep _ _ _ st5 fun b hb o e => by rw [o3]; exact (stay b hb o e).1) (fun b hb => ?_) w7 I9)
      obtain ⟨o, e, _⟩ := T.obj _ _ st5 b hb
      exact (stay b hb o e).2
theorem seg_startA (hA : A.deeper X.env = X.A) (calm : X.calm = true) (no : ∀ x s, ¬ X.xe x s) (hco : X.env.scope.isCoroutine = false) (T : Turn X.prog X.w X.K tg J fp it tn) (hg : PG X tg g) (he : PE X elt te)
    (own : ∀ {H : Hp}, (∀ b ∈ fp, H b = none) → ∀ b ∈ fp, FpOk X [] H b) (isg : ∀ {pins σ H s}, Inv X pins σ H s → s.heap.IsGen a gi) (turn : ATurn J g te Q W) {m n : Nat} {s : Shared} {σ : L2.St} {H : Hp} (hn : m < n) (st : tn 0 s.heap) (free : ∀ b ∈ fp, H b = none) (w : W 0 m σ H) (I : Inv X [] σ H s) :
    Seg (model X.prog X.w) A (AEnd X.prog X.w X.outer X.H_0 X.s_0 X.ex Q) (AItem X.prog X.w X.outer X.H_0 X.s_0 X.ex Q a gi) n s (.compStart (.GeneratorExp elt [⟨tg, iter, [], 0⟩] scope pos) 0 (.ref it) .none X.env)
        ((model X.prog X.w).den (.compStart (.GeneratorExp elt [⟨tg, iter, [], 0⟩] scope pos) 0 (.ref it) .none X.env)) [] s := by
  have loop := seg_loopA (iter := iter) (scope := scope) (pos := pos) hA calm no hco T hg he own isg turn m n 0 s s σ H hn st free w I
  have over : A.over (.compStart (.GeneratorExp elt [⟨tg, iter, [], 0⟩] scope pos) 0 (.ref it) .none X.env) [] = X.A := over_start.trans hA
  show Seg _ A _ _ _ s _ ((compStart (.GeneratorExp elt [⟨tg, iter, [], 0⟩] scope pos) 0 (.ref it) .none X.env).onRaise (leaving X.env)) [] s
  unfold compStart
  rw [Sem.onRaise_eq_wrap]
  show Seg _ A _ _ _ s _ ((ask >>= _).wrap _ _ _ _) [] s
  refine seg_bind_wrap (wpAny_askSetting ?_)
  split
  · exact seg_again rfl loop
  · first
      | exact seg_bind_wrap (wpAny_rule (seg_bind_wrap (wpAny_standAt (seg_bind_wrap (T.self _ 0 s _ _ st (seg_again rfl loop))))))
      | (refine seg_bind_wrap (wpAny_rule ?_); show Seg _ A _ _ _ s _ ((standAt iter.pos >>= _).wrap _ _ _ _) [] s; exact seg_bind_wrap (wpAny_standAt (seg_bind_wrap (T.self _ 0 s _ _ st (seg_again rfl loop)))))
end
end Sea

set_option Elab.async false
set_option linter.all false
set_option maxRecDepth 100000
set_option maxHeartbeats 4000000
/-! .. its making, the rule -/
namespace Sea
open PySem PySem.Spec PyProof.Rows L2 GenW NdefX
/-- a generator expression's names: the captured ones, then its own -/
structure EScope (N fr : List Str) (sc : Scope) : Prop where
  kind : sc.kind = .function
  co : sc.isCoroutine = false
  pre : N.take fr.length = fr
  nocell : ∀ y ∈ sc.names, y.2 ≠ .cell
  free : ∀ y ∈ sc.names, y.2 = .free → y.1 ∈ fr
  frk : ∀ x ∈ fr, sc.names.lookup x = some .free
  dot : sc.names.lookup (".0" : Str) = some NameKind.local
  mem : ∀ x ∈ fr, (x, NameKind.free) ∈ sc.names
def escB (N fr : List Str) (sc : Scope) : Bool :=
  decide (sc.kind = .function) && !sc.isCoroutine && decide (N.take fr.length = fr) && sc.names.all (fun y => !decide (y.2 = .cell)) && sc.names.all (fun y => !decide (y.2 = .free) || decide (y.1 ∈ fr)) && fr.all (fun x => decide (sc.names.lookup x = some .free)) && decide (sc.names.lookup (".0" : Str) = some NameKind.local) && fr.all fun x => decide ((x, NameKind.free) ∈ sc.names)
theorem escope_by {N fr : List Str} {sc : Scope} (h : escB N fr sc = true) : EScope N fr sc := by
  unfold escB at h
  simp only [Bool.and_eq_true, Bool.not_eq_true', decide_eq_true_eq, List.all_eq_true, Bool.or_eq_true, decide_eq_false_iff_not] at h
  obtain ⟨⟨⟨⟨⟨⟨⟨h1, h2⟩, h3⟩, h4⟩, h5⟩, h6⟩, h7⟩, h8⟩ := h
  exact ⟨h1, h2, h3, h4, fun y hy e => (h5 y hy).elim (fun z => absurd e z) id, h6, h7, h8⟩
abbrev gEnv (X : Cx) (scope : Scope) (L : Addr) (code : Value) : Env := genEnv scope (cloFrom X.env.cells scope.names []) L code builtinsNs X.env
/-- the context of its frame -/
def genX (X : Cx) (N : List Str) (scope : Scope) (code : Value) (A : Around) (s : Shared) (H : Hp) (ex : List Addr) (pn : List (Addr × Obj)) : Cx where
  prog := X.prog
  w := X.w
  K := X.K
  mg := X.mg
  base := X.base
  A := A.deeper (gEnv X scope s.heap.objs.size code)
  N := N
  s_0 := s
  H_0 := H
  env := gEnv X scope s.heap.objs.size code
  outer := X.stack
  stack := gEnv X scope s.heap.objs.size code :: X.stack
  ex := ex
  calm := true
  fn := fun _ => false
  pn := pn
  xe := fun _ _ => False
section
variable {X : Cx} {pins : List (Addr × Obj)} {σ : L2.St} {H : Hp} {s : Shared} {N fr : List Str} {scope : Scope} {code : Value} {A : Around} {ws : List (Option V)} {fp : List Addr}
theorem inv_startE (I : Inv X pins σ H s) (S : EScope N fr scope) (hd : A.handled = none) (hfr : A.frames = some X.stack) (C : CellsAt (cloFrom X.env.cells scope.names []) fr ws s.heap H) (hfp : ∀ b ∈ fp, FpOk X pins H b) (hlt : ∀ b ∈ fp, b < s.heap.objs.size)
    (sub : ∀ y c, (cloFrom X.env.cells scope.names []).lookup y = some c → X.env.cells.lookup y = some c) {h₁ : Heap} {tk : Nat} {gs : Array GenState} {m : Str → Option Value} (hns : h₁.Ns s.heap.objs.size m) (kp : ∀ b o, s.heap.get? b = some o → h₁.get? b = some o) (hgs : AllBare gs) {pn : List (Addr × Obj)}
    (hpn : ∀ p ∈ pn, h₁.get? p.1 = some p.2 ∧ s.heap.objs.size < p.1 ∧ ∀ v, p.2.data ≠ .cell v) (hlen : ws.length ≤ N.length) :
    Inv (genX X N scope code A s H fp pn) [] (startF N [] ws) H { s with heap := h₁, toks := tk, gens := gs } := by
  have e0 := I.env0
  have cellK : ∀ {c : Addr} {v : Option Value}, s.heap.IsCell c v → h₁.IsCell c v := fun {c v} ⟨o, ho, hd⟩ => ⟨o, kp _ _ ho, hd⟩
  have stk : ∀ b ∈ fp, b ∉ frs X.stack := fun b hb hm => by
    obtain ⟨_, h2, h3, _⟩ := hfp b hb
    rcases List.mem_cons.mp (I.stkSub b hm) with z | z
    · exact h2 z
    · exact h3 z
  have nobase : ∀ b o, X.base.get? b = some o → b ∉ fp := fun b o e hb => by
    obtain ⟨_, _, _, h4, _⟩ := hfp b hb
    rcases h4 with h4 | h4
    · exact I.ok.noex b o e h4
    · have h5 := Heap.lt_size e
      have h6 := I.ok.bsz
      exact absurd (Nat.lt_of_lt_of_le h5 (Nat.le_trans h6 h4)) (Nat.lt_irrefl _)
  refine ⟨⟨e0.mod, S.kind, I.ok.glob, rfl, Nat.le_refl _, C.inj, fun y hy => ?_, fun y c z _ => ?_, fun _ => hd, Around.frames_deeper hfr, .inr ⟨rfl, rfl⟩, fun b hb => ⟨Nat.ne_of_lt (hlt b hb), fun y c e => ?_⟩, e0.bs, e0.bsz, nobase, stk, e0.funs, e0.frf⟩,
    rfl, hgs, Un.kept kp, ⟨_, hns, fun i y v e1 e2 e3 => ?_⟩, fun y c e => ?_, e0.hok.fresh (Nat.le_refl _), fun y c e => (C.all y c e).1, fun q hq => ?_, e0.hok.kept kp, ?_⟩
  · have hy : scope.names.lookup y = some .cell ∨ scope.names.lookup y = some .free := hy
    rcases hy with hy | hy
    · exact absurd rfl (S.nocell _ (PySem.mem_of_lookup hy))
    · obtain ⟨i, hi⟩ := List.mem_iff_getElem?.mp (S.free _ (PySem.mem_of_lookup hy) rfl)
      obtain ⟨c, hc, _⟩ := C.has i y hi
      exact ⟨c, hc⟩
  · have z : false = true := z
    cases z
  · obtain ⟨_, _, _, _, h5, _⟩ := hfp b hb
    exact h5 y c (sub y c e)
  · have e1 : N[i]? = some y := e1
    have clen := C.len
    unfold startF at e2
    rw [List.map_nil, List.nil_append] at e2
    by_cases h1 : i < fr.length
    · have hq : fr[i]? = some y := by
        rw [← S.pre, List.getElem?_take_of_lt h1]
        exact e1
      rw [List.getElem?_append_left (by omega)] at e2
      obtain ⟨c, hc, hv⟩ := C.has i y hq
      obtain ⟨u, ru, hu⟩ := hv v e2
      exact ⟨u, ru, .inr ⟨.inr (S.frk y (List.mem_of_getElem? hq)), c, hc, cellK hu⟩⟩
    · rw [List.getElem?_append_right (by omega), List.getElem?_replicate] at e2
      split at e2 <;> cases e2
  · obtain ⟨v, z⟩ := (C.all y c e).2
    exact ⟨v, cellK z⟩
  · have hq : q ∈ pn ++ [] := hq
    rw [List.append_nil] at hq
    obtain ⟨z1, z2, z3⟩ := hpn q hq
    exact ⟨z1, e0.hok.fresh (Nat.le_of_lt z2), Nat.ne_of_gt z2, fun hm => (by
      rcases List.mem_cons.mp (I.stkSub _ hm) with z | z
      · have := I.lt
        rw [← z] at this
        exact absurd (Nat.lt_trans z2 this) (Nat.lt_irrefl _)
      · exact I.nofs (Nat.le_of_lt z2) z), z3⟩
  · unfold startF
    show _ = N.length
    rw [List.length_append, List.length_append, List.length_map, List.length_replicate, List.length_nil]
    omega
end
/-- any(test for x in e): behind it the def's table may have grown -/
def tAnyG (P : Addr) (wi : TI) (N : List Str) (js : List Nat) (g : TG) (te : TE) : TE := fun σ H Q => wi σ H fun J H1 => GxR.TabG H1 P ∧ ∀ H2, GxR.Tabbed P H1 H2 →
  ∃ W : Nat → Nat → L2.St → Hp → Prop, (∃ m, W 0 m (startF N [] (js.map (slotAt σ))) H2) ∧ ATurn J g te (fun b H' => Q (.bl b) H') W
section
variable {X : Cx}
theorem pe_anyG {c P : Addr} {tg elt iter : Expr} {p pos gpos : Pos} {scope : Scope} {wi : TI} {g : TG} {te : TE} {N fr : List Str} {js : List Nat} {k : Nat}
    (hr : Room (k + 2) X.A) (hg : Gl X "any") (hm : X.mg "any" = none) (TB : GxR.TabB X.base X.mg c P) (hcode : X.env.code = .ref c) (S : EScope N fr scope) (hfree : ∀ y ∈ scope.names, y.2 = .free → X.env.scope.names.lookup y.1 = some .cell ∨ X.env.scope.names.lookup y.1 = some .free)
    (hjs : js.map (fun j => X.N[j]?) = fr.map some) (hi : PI X tg iter wi)
    (hgt : ∀ (code : Value) (A : Around) (s : Shared) (H : Hp) (ex : List Addr) (pn : List (Addr × Obj)), Room k (A.deeper (gEnv X scope s.heap.objs.size code)) → PG (genX X N scope code A s H ex pn) tg g)
    (hel : ∀ (code : Value) (A : Around) (s : Shared) (H : Hp) (ex : List Addr) (pn : List (Addr × Obj)), Room k (A.deeper (gEnv X scope s.heap.objs.size code)) → PE (genX X N scope code A s H ex pn) elt te)
    (hs : ∀ v, genFold iter X.env v = pure v)
    (he : starEach [.GeneratorExp elt [⟨tg, iter, [], 0⟩] scope gpos] X.env = (false, eval (.GeneratorExp elt [⟨tg, iter, [], 0⟩] scope gpos) X.env) :: starEach [] X.env := by rfl) :
    PE X (.Call (.Name "any" p) [.GeneratorExp elt [⟨tg, iter, [], 0⟩] scope gpos] [] pos) (tAnyG P wi N js g te) := by
  refine ⟨fun pins s σ H Q I h => ?_⟩
  have hfreeC : ∀ y ∈ scope.names, y.2 = .free → ∃ c, X.env.cells.lookup y.1 = some c := fun y hy e => (hfree y hy e).elim (fun z => I.ok.has _ (.inl z)) fun z => I.ok.has _ (.inr z)
  have caps : Caps X (cloFrom X.env.cells scope.names []) fr js := Caps.made I.ok hfree S.mem hjs
  refine wpAny_Call_Name_kw (ld_blt I hg hm boot_any ?_)
  refine PyProof.Rows.callWith_builtin1 ?_ he (by rfl)
  rw [he]
  show wpAny _ _ (spliced ((false, eval (.GeneratorExp elt [⟨tg, iter, [], 0⟩] scope gpos) X.env) :: backTo pos (starEach [] X.env))) _ _ s
  refine Calls.spliced_cons ?_
  refine wpAny_GeneratorExp_make S.co (closure_ok hfreeC) S.nocell S.dot S.kind (by have := hr.dp; omega) ?_ hs
  refine thn (hi.run pins s σ H _ I h) fun v s1 h1 => thn h1 fun itv s2 h2 => ?_
  obtain ⟨it, fp, tn, J, H2, rfl, I2, T, st, own, ⟨ps, hP, ht⟩, q⟩ := h2
  refine ⟨I2.nolimit, ?_⟩
  have hPs : s2.heap.get? P = some { cls := .none, data := .fields ps } := I2.hok P _ hP
  have hPlt : P < s2.heap.objs.size := Heap.lt_size hPs
  have cd : PySem.W.CodeHd s2.heap c P := TB.code.keeps fun b u e => I2.bk b u e
  have cont : ∀ (code : Value) (h3 : Heap) (tk : Nat) (ps' : Array Value), Heap.ExtBut P s2.heap h3 → s2.heap.objs.size ≤ h3.objs.size → h3.get? P = some { cls := .none, data := .fields ps' } → (∃ more, ps' = ps ++ more) → TriplesOk ps'.toList →
      wpAny (model X.prog X.w) X.A (builtinsFor X.env.globals X.env.builtins) (fun bi s₄ =>
        ∀ h', h'.Ns s₄.heap.objs.size (fun y => if y = ".0" then some (Value.ref it) else none) → Heap.SameBut s₄.heap.objs.size (s₄.heap.push { cls := .type "frame", data := .dict #[] }) h' →
          wpAny (model X.prog X.w) X.A (spliced (backTo pos (starEach [] X.env))) (fun vs s' => wpAny (model X.prog X.w) X.A (call (.builtin "any") (.ref h'.objs.size :: vs)) (EP X pins σ Q) X.xe s') X.xe { s₄ with
            gens := s₄.gens.push (.fresh (.compStart (.GeneratorExp elt [⟨tg, iter, [], 0⟩] scope gpos) 0 (.ref it) .none (genEnv scope (cloFrom X.env.cells scope.names []) s₄.heap.objs.size code bi X.env))),
            toks := s₄.toks + 1 + 1 + 1,
            heap := h'.push { cls := .type "generator", data := .fields #[.int s₄.gens.size 0, .str "<genexpr>" (s₄.toks + 1), .str (X.env.qual ++ "<genexpr>") (s₄.toks + 1 + 1)] } }) X.xe { s2 with heap := h3, toks := tk } := by
    intro code h3 tk ps' hx hsz hP3 hmore ht3
    obtain ⟨bm, ob, e1, e2, e3, e4, e5, e6, e7, e8⟩ := TB.bm
    have keep3 : ∀ b u, b ≠ P → s2.heap.get? b = some u → h3.get? b = some u := fun b u hb e => hx b u hb e
    refine wpAny_builtinsFor (m := X.mg) (by rw [I2.ok.glob]; exact (I2.mod.glob.keeps I2.bk).extBut hx TB.gP) e1 e2 (keep3 _ _ e4 (I2.bk _ _ e5)) e6 e7 e8 ?_
    intro h' hns hsame
    obtain ⟨more, rfl⟩ := hmore
    have I4 : Inv X pins σ (upd H2 P (.tbl (ps ++ more))) { s2 with heap := h3, toks := tk } := GxR.inv_tab (g' := s2.gens) (d' := s2.drawn) I2 hP (fun b u hb e => keep3 b u hb e) hP3 I2.bare
    have tabbed : GxR.Tabbed P H2 (upd H2 P (.tbl (ps ++ more))) := ⟨⟨ps ++ more, upd_same, ht3⟩, fun b hb => upd_ne hb⟩
    obtain ⟨W, ⟨m, w0⟩, turn⟩ := q _ tabbed
    have nP : ∀ b ∈ fp, b ≠ P := fun b hb z => by
      have := (own b hb).1
      rw [z, hP] at this
      cases this
    have own4 : ∀ b ∈ fp, FpOk X pins (upd H2 P (.tbl (ps ++ more))) b := fun b hb => by
      obtain ⟨a1, a2⟩ := own b hb
      exact ⟨by rw [upd_ne (nP b hb)]; exact a1, a2⟩
    have st4 : tn 0 h3 := T.keep _ _ _ st fun b hb o e => keep3 b o (nP b hb) e
    have lt4 : ∀ b ∈ fp, b < h3.objs.size := fun b hb => by
      obtain ⟨o, e, _⟩ := T.obj _ _ st4 b hb
      exact Heap.lt_size e
    have C := cells_of I4 caps
    have hLs : h3.objs.size < h'.objs.size := hns.lt
    have kp5 : ∀ (go : Obj) b o, h3.get? b = some o → (h'.push go).get? b = some o := fun go b o e =>
      Heap.get?_push_of_some _ (hsame.extBut b o (Nat.ne_of_lt (Heap.lt_size e)) (Heap.get?_push_of_some _ e))
    have main : ∀ (go : Obj) (nm qn : Value) (tk5 : Nat), go.cls = .type "generator" → go.data = .fields #[.int s2.gens.size 0, nm, qn] → go.slots = #[] → (h'.push go).get? h'.objs.size = some go →
        wpAny (model X.prog X.w) X.A (call (.builtin "any") [.ref h'.objs.size]) (EP X pins σ Q) X.xe { s2 with
          gens := s2.gens.push (.fresh (.compStart (.GeneratorExp elt [⟨tg, iter, [], 0⟩] scope gpos) 0 (.ref it) .none (gEnv X scope h3.objs.size code))), toks := tk5, heap := h'.push go } := by
      intro go nm qn tk5 hgc hgd hgs hgp
      have hgen : ∀ h : Heap, h.get? h'.objs.size = some go → h.IsGen h'.objs.size s2.gens.size := fun h e => ⟨go, nm, qn, e, hgc, hgd, hgs⟩
      have hcell : ∀ v, go.data ≠ .cell v := fun v q => by rw [hgd] at q; cases q
      have hbare : AllBare (s2.gens.push (.fresh (.compStart (.GeneratorExp elt [⟨tg, iter, [], 0⟩] scope gpos) 0 (.ref it) .none (gEnv X scope h3.objs.size code)))) := AllBare.push I2.bare rfl
      have hl5 : (h'.push go).NoLimit := I4.nolimit.keeps (kp5 go)
      refine call_function_tree F.kind_any F.plain_any F.entry_any (F.args_any1 _) ?_
      unfold Builtin.«any»
      refine wpAny_bind (m := oneArg "any" _) (wpAny_pure ?_)
      refine wpAny_bind (wpAny_pyIter_gen (hgen _ hgp) ?_)
      refine wpAny_pure ⟨plainId_quiet F.plain_any_loop _, ?_⟩
      have hroom : Room k (X.A.in1.in1.deeper (gEnv X scope h3.objs.size code)) := ⟨hr.hd, by have := hr.dp; show X.A.depth + 1 + 3 * k + 5 < _; omega, by have := hr.un; show X.A.units + 1 + 1 + 3 + 16 * k + 200 < _; omega⟩
      have I5 : ∀ (tk' : Nat) (gs : Array GenState), AllBare gs → Inv (genX X N scope code X.A.in1.in1 { s2 with heap := h3, toks := tk } (upd H2 P (.tbl (ps ++ more))) fp [(h'.objs.size, go)]) [] (startF N [] (js.map (slotAt σ))) (upd H2 P (.tbl (ps ++ more))) { s2 with heap := h'.push go, toks := tk', gens := gs } := fun tk' gs hgs' =>
        inv_startE (A := X.A.in1.in1) (code := code) (pn := [(h'.objs.size, go)]) (tk := tk') I4 S hr.hd I4.ok.frames C own4 lt4 (fun y c e => caps.sub y c e) (hns.at' fun o e => Heap.get?_push_of_some _ e) (kp5 go) hgs' (fun p hp => by
          obtain rfl := List.mem_singleton.mp hp
          exact ⟨hgp, hLs, hcell⟩) (by
          have := congrArg List.length S.pre
          rw [List.length_take] at this
          have l2 := congrArg List.length hjs
          rw [List.length_map, List.length_map] at l2
          rw [List.length_map]
          omega)
      refine any_drain (P := X.prog) (w := X.w) (outer := X.stack) (H := upd H2 P (.tbl (ps ++ more))) (sc := { s2 with heap := h3, toks := tk }) (ex := fp) (Q := fun b H' => Q (.bl b) H') (A := X.A) (a := h'.objs.size) (g := s2.gens.size) hr.hd (by have := hr.dp; show X.A.depth < _; omega) (fun b s' fin => ?_) (m + 1) { s2 with gens := s2.gens.push (.fresh (.compStart (.GeneratorExp elt [⟨tg, iter, [], 0⟩] scope gpos) 0 (.ref it) .none (gEnv X scope h3.objs.size code))), toks := tk5, heap := h'.push go } (hgen _ hgp) hl5 ⟨.fresh (.compStart (.GeneratorExp elt [⟨tg, iter, [], 0⟩] scope gpos) 0 (.ref it) .none (gEnv X scope h3.objs.size code)), Array.getElem?_push_size .., And.intro rfl ?_⟩
      · obtain ⟨os, hb, H', un, hok, qq⟩ := fin
        exact ⟨.bl b, H', I4.call' (ch := fp) os un hok hb (fun b hb => by
          obtain ⟨_, a2, _, a4, a5, a6⟩ := own4 b hb
          exact ⟨a4, a2, a5, a6⟩), rfl, qq⟩
      · refine seg_startA (X := genX X N scope code X.A.in1.in1 { s2 with heap := h3, toks := tk } (upd H2 P (.tbl (ps ++ more))) fp [(h'.objs.size, go)]) (A := X.A.in1.in1) (iter := iter) (scope := scope) (pos := gpos) (tn := tn) (J := J) (fp := fp) (it := it) (W := W) (m := m) rfl rfl (fun _ _ z => z) S.co T (hgt _ _ _ _ _ _ hroom) (hel _ _ _ _ _ _ hroom) (fun {Hx} hn b hb => ?_) (fun {pins' σ' H' s'} J' => ?_) turn (Nat.lt_succ_self m) ?_ (fun b hb => (own4 b hb).1) w0 (I5 tk5 _ (allBare_setGen (s := { s2 with gens := s2.gens.push (.fresh (.compStart (.GeneratorExp elt [⟨tg, iter, [], 0⟩] scope gpos) 0 (.ref it) .none (gEnv X scope h3.objs.size code))), toks := tk5, heap := h'.push go }) hbare rfl))
        · refine ⟨hn b hb, Nat.ne_of_lt (lt4 b hb), fun hm => ?_, .inl hb, fun y c e => ?_, fun q hq => ?_⟩
          · obtain ⟨_, h2, h3, _⟩ := own4 b hb
            rcases List.mem_cons.mp (I4.stkSub b hm) with z | z
            · exact h2 z
            · exact h3 z
          · obtain ⟨_, _, _, _, h5, _⟩ := own4 b hb
            exact h5 y c (caps.sub y c e)
          · have hq : q ∈ [(h'.objs.size, go)] ++ ([] : List (Addr × Obj)) := hq
            rw [List.append_nil] at hq
            rw [List.mem_singleton.mp hq]
            exact Nat.ne_of_gt (Nat.lt_trans (lt4 b hb) hLs)
        · exact hgen _ (J'.pin (h'.objs.size, go) (List.mem_append_left _ (List.mem_singleton.mpr rfl))).1
        · exact T.keep _ _ _ st4 fun b hb o e => kp5 go b o e
    refine Calls.spliced_nil ?_
    exact main _ _ _ _ rfl rfl rfl (Heap.get?_push_size _ rfl)
  cases hf : codeAmong gpos ps.toList with
  | none =>
    refine wpAny_genexprCodeX hcode (cd.code hPs ht) (cd.tab hPs) hf fun c' h' tk hx hge hlt hco' _ htab' _ => ?_
    obtain ⟨o1, vs, f1, tf, fl, tg', inF, tx, tt, op, _, _, _, _, _, _, _, _, _, htr, _⟩ := hco'
    exact cont _ h' tk _ hx (Nat.le_trans hge (Nat.le_of_lt hlt)) htab'.2 ⟨_, rfl⟩ htr
  | some cv =>
    refine wpAny_genexprCode_hit hcode (cd.code hPs ht) hf ?_
    exact cont cv s2.heap s2.toks ps (Heap.ExtBut.refl _ _) (Nat.le_refl _) hPs ⟨#[], by simp⟩ ht
end
end Sea

set_option Elab.async false
set_option linter.all false
set_option maxRecDepth 100000
set_option maxHeartbeats 4000000
/-! match: tuples whose first item is a text -/
namespace Sea
open PySem PySem.Spec PyProof.Rows L2
/-- the cases: what they do with the subject -/
structure MCs (X : Cx) (cs : List MatchCase) (t : V → TS) : Prop where
  run : ∀ (first : Bool) (pins : List (Addr × Obj)) (s : Shared) (σ : L2.St) (H : Hp) (D : Ends) (v : V) (u : Value), Inv X pins σ H s → RelV v u → t v D σ H → wpAny (model X.prog X.w) X.A (matchCases cs X.env u first) (SP X pins D) X.xe s
def tMatch (te : TE) (t : V → TS) : TS := fun D σ H => te σ H fun v H1 => t v D σ H1
/-- case [z] -/
def tCase1 (K : PySem.W.Frag) (z : Str) (tb : TS) (tr : V → TS) : V → TS := fun v D σ H => ∃ a xs, v = .ref a ∧ SqT K H a xs ∧ ((xs = [.str z] ∧ tb D σ H) ∨ (xs.length ≠ 1 ∧ tr v D σ H) ∨ ∃ y, xs = [.str y] ∧ y ≠ z ∧ tr v D σ H)
/-- case [z, name] -/
def tCase2 (K : PySem.W.Frag) (z : Str) (i : Nat) (tb : TS) (tr : V → TS) : V → TS := fun v D σ H => ∃ a xs, v = .ref a ∧ SqT K H a xs ∧ ((∃ y, xs = [.str z, y] ∧ tb D (σ.set i (some y)) H) ∨ (xs.length ≠ 2 ∧ tr v D σ H) ∨ ∃ w y, xs = [.str w, y] ∧ w ≠ z ∧ tr v D σ H)
section
variable {X : Cx} {e : Expr} {cs rest : List MatchCase} {body : List Stmt} {pos p p1 p2 p3 : Pos} {te : TE} {tb : TS} {t tr : V → TS} {z n : Str} {j i : Nat}
theorem ps_match (he : PE X e te) (hc : MCs X cs t) : PS X (.Match e cs pos) (tMatch te t) :=
  ⟨fun pins s σ H D I h => wpAny_Match (thn (he.run pins s σ H _ I h) fun u s1 ⟨v, H1, I1, r, q⟩ => hc.run true pins s1 σ H1 D v u I1 r q)⟩
theorem mc_nil : MCs X [] (fun _ D σ H => D.nx σ H) := ⟨fun first pins s σ H D v u I r h => wpAny_matchCases_nil ⟨σ, H, I, h⟩⟩
/-- case _ -/
theorem mc_any (hb : PSs X body tb) : MCs X (⟨.MatchAs none none p, none, body⟩ :: rest) (fun _ => tb) := by
  refine ⟨fun first pins s σ H D v u I r h => ?_⟩
  refine wpAny_matchCases_cons (wpAny_matchPattern_Capture ?_)
  exact wpAny_assignInOrder_none (hb.run pins s σ H D I h)
/-- the text is compared -/
theorem const_eq {pins : List (Addr × Obj)} {s : Shared} {σ : L2.St} {H : Hp} {w : Str} {u : Value} {Q : Option (List (Str × Value)) → Shared → Prop} (I : Inv X pins σ H s) (r : RelV (.str w) u)
    (yes : w = z → ∀ s', Inv X pins σ H s' → Q (some []) s') (no : w ≠ z → ∀ s', Inv X pins σ H s' → Q none s') : wpAny (model X.prog X.w) X.A (matchPattern (.MatchValue (.Constant (.str z) j p1) p2) X.env u) Q X.xe s := by
  refine wpAny_matchPattern_Value (Calls.Constant_str ?_)
  have rz : ∀ t, RelV (.str z) (.str z t) := fun t => ⟨t, rfl⟩
  refine thn (op_eq pins _ σ H _ _ _ _ (fun y H1 => y = .bl (decide (V.str w = V.str z)) ∧ H1 = H) (I.tok _) r (rz _) ⟨rfl, rfl, rfl⟩) fun y s2 ⟨y', H', I2, r2, e1, e2⟩ => ?_
  subst e1
  subst e2
  obtain rfl : y = .bool (decide (V.str w = V.str z)) := r2
  refine wpAny_truthy_bool ?_
  by_cases c : w = z
  · rw [if_pos (decide_eq_true (by rw [c]))]
    exact yes c s2 I2
  · rw [if_neg (by rw [decide_eq_false (fun e => c (V.str.inj e))]; decide)]
    exact no c s2 I2
theorem bind_ok {pins : List (Addr × Obj)} {s : Shared} {σ : L2.St} {H : Hp} {v : V} {u : Value} {Q : Unit → Shared → Prop} (I : Inv X pins σ H s) (hN : X.N.Nodup) (hi : X.N[i]? = some n) (hx : X.env.scope.names.lookup n = some .local) (r : RelV v u)
    (h : ∀ s', Inv X pins (σ.set i (some v)) H s' → Q () s') : wpAny (model X.prog X.w) X.A (bindName X.env n u) Q X.xe s := by
  unfold bindName
  refine wpAny_bind (wpAny_holding (wpAny_point ?_))
  exact wpAny_bind (store_ok I hN hi (.inl hx) r (fun s' I' => wpAny_point (h s' I')) (.inr hx))
theorem size_its {xs : List V} {its : List Value} (rv : Vals xs its) : its.toArray.size = xs.length := by rw [List.size_toArray, rv.length]
theorem fit_its {xs : List V} {its : List Value} (rv : Vals xs its) (h : xs.length ≤ sizeLine) : (its.toArray.size : Int) < 2 ^ 63 := by
  have e := size_its rv
  have q := sizeLine_eq
  omega
theorem pat_miss {pins : List (Addr × Obj)} {s : Shared} {σ : L2.St} {H : Hp} {a : Addr} {xs : List V} {ps : List Pattern} {Q : Option (List (Str × Value)) → Shared → Prop} (I : Inv X pins σ H s) (hq : SqT X.K H a xs) (ne : xs.length ≠ ps.length) (h : ∀ s', Inv X pins σ H s' → Q none s')
    (hstar : ps.findIdx? (·.isStar) = none) (hwild : (ps.all fun p => p.isWildcard || (p.isStar && p.names.isEmpty)) = false) : wpAny (model X.prog X.w) X.A (matchPattern (.MatchSequence ps p3) X.env (.ref a)) Q X.xe s := by
  obtain ⟨its, rv, ht, hz⟩ := I.tuple hq
  exact matchSeq_tuple_miss ht (fit_its rv hz) (by rw [size_its rv]; exact ne) (h _ (I.tok _)) hstar hwild
theorem unp1 {P : Program} {w : World} {A : Around} {E : Value → Shared → Prop} {s : Shared} {a : Addr} {u : Value} {Q : List Value → Shared → Prop} (hh : A.handled = none) (ht : IsTup s.heap a [u].toArray) (h : ∀ h', Heap.ExtBut s.heap.objs.size s.heap h' → Q [u] { s with heap := h' }) :
    wpAny (model P w) A (unpackItems (.ref a) 1 none) Q E s := by
  have := unpackItems_tuple (prog := P) (w := w) (E := E) (Q := Q) hh ht h
  exact this
theorem unp2 {P : Program} {w : World} {A : Around} {E : Value → Shared → Prop} {s : Shared} {a : Addr} {u v : Value} {Q : List Value → Shared → Prop} (hh : A.handled = none) (ht : IsTup s.heap a [u, v].toArray) (h : ∀ h', Heap.ExtBut s.heap.objs.size s.heap h' → Q [u, v] { s with heap := h' }) :
    wpAny (model P w) A (unpackItems (.ref a) 2 none) Q E s := by
  have := unpackItems_tuple (prog := P) (w := w) (E := E) (Q := Q) hh ht h
  exact this
theorem pat_one {pins : List (Addr × Obj)} {s : Shared} {σ : L2.St} {H : Hp} {a : Addr} {y : Str} {Q : Option (List (Str × Value)) → Shared → Prop} (hc : X.calm = true) (I : Inv X pins σ H s) (hq : SqT X.K H a [.str y])
    (yes : y = z → ∀ s', Inv X pins σ H s' → Q (some []) s') (no : y ≠ z → ∀ s', Inv X pins σ H s' → Q none s') : wpAny (model X.prog X.w) X.A (matchPattern (.MatchSequence [.MatchValue (.Constant (.str z) j p1) p2] p3) X.env (.ref a)) Q X.xe s := by
  obtain ⟨its, rv, ht, hz⟩ := I.tuple hq
  have fit := fit_its rv hz
  cases rv with
  | cons r1 r0 =>
    cases r0
    refine matchSeq_tuple_hit ht fit rfl ?_ rfl rfl
    refine unp1 (I.ok.hd hc) ht fun h' hx => ?_
    have I1 : Inv X pins σ H { s with heap := h', toks := s.toks + 1 + 1 } := I.kept (t' := s.toks + 1 + 1) fun b o e => hx b o (Nat.ne_of_lt (Heap.lt_size e)) e
    refine wpAny_matchEach_cons (const_eq I1 r1 (fun c s' I' => ?_) fun c s' I' => ?_)
    · exact wpAny_matchEach_nil (yes c s' I')
    · exact no c s' I'
theorem pat_two {pins : List (Addr × Obj)} {s : Shared} {σ : L2.St} {H : Hp} {a : Addr} {w : Str} {y : V} {Q : Option (List (Str × Value)) → Shared → Prop} (hc : X.calm = true) (I : Inv X pins σ H s) (hq : SqT X.K H a [.str w, y])
    (yes : w = z → ∀ s' u, Inv X pins σ H s' → RelV y u → Q (some [(n, u)]) s') (no : w ≠ z → ∀ s', Inv X pins σ H s' → Q none s') : wpAny (model X.prog X.w) X.A (matchPattern (.MatchSequence [.MatchValue (.Constant (.str z) j p1) p2, .MatchAs none (some n) p] p3) X.env (.ref a)) Q X.xe s := by
  obtain ⟨its, rv, ht, hz⟩ := I.tuple hq
  have fit := fit_its rv hz
  cases rv with
  | cons r1 r0 =>
    cases r0 with
    | cons r2 r0 =>
      cases r0
      refine matchSeq_tuple_hit ht fit rfl ?_ rfl rfl
      refine unp2 (I.ok.hd hc) ht fun h' hx => ?_
      have I1 : Inv X pins σ H { s with heap := h', toks := s.toks + 1 + 1 } := I.kept (t' := s.toks + 1 + 1) fun b o e => hx b o (Nat.ne_of_lt (Heap.lt_size e)) e
      refine wpAny_matchEach_cons (const_eq I1 r1 (fun c s' I' => ?_) fun c s' I' => ?_)
      · exact wpAny_matchEach_cons (wpAny_matchPattern_Capture (wpAny_matchEach_nil (yes c s' _ I' r2)))
      · exact no c s' I'
theorem mc_one (hb : PSs X body tb) (hr : MCs X rest tr) (hc : X.calm = true) : MCs X (⟨.MatchSequence [.MatchValue (.Constant (.str z) j p1) p2] p3, none, body⟩ :: rest) (tCase1 X.K z tb tr) := by
  refine ⟨fun first pins s σ H D v u I r h => ?_⟩
  obtain ⟨a, xs, rfl, hq, h⟩ := h
  obtain rfl : u = .ref a := r
  have back : ∀ s', Inv X pins σ H s' → tr (.ref a) D σ H → wpAny (model X.prog X.w) X.A (matchCases rest X.env (.ref a) false) (SP X pins D) X.xe s' := fun s' I' h => hr.run false pins s' σ H D (.ref a) (.ref a) I' rfl h
  rcases h with ⟨rfl, h⟩ | ⟨ne, h⟩ | ⟨y, rfl, ne, h⟩
  · exact wpAny_matchCases_cons (pat_one hc I hq (fun _ s' I' => wpAny_assignInOrder_none (hb.run pins s' σ H D I' h)) fun n => absurd rfl n)
  · exact wpAny_matchCases_cons (pat_miss I hq ne (fun s' I' => back s' I' h) rfl rfl)
  · exact wpAny_matchCases_cons (pat_one hc I hq (fun c => absurd c ne) fun _ s' I' => back s' I' h)
theorem mc_two (hN : X.N.Nodup) (hi : X.N[i]? = some n) (hx : X.env.scope.names.lookup n = some .local) (hb : PSs X body tb) (hr : MCs X rest tr) (hc : X.calm = true) :
    MCs X (⟨.MatchSequence [.MatchValue (.Constant (.str z) j p1) p2, .MatchAs none (some n) p] p3, none, body⟩ :: rest) (tCase2 X.K z i tb tr) := by
  refine ⟨fun first pins s σ H D v u I r h => ?_⟩
  obtain ⟨a, xs, rfl, hq, h⟩ := h
  obtain rfl : u = .ref a := r
  have back : ∀ s', Inv X pins σ H s' → tr (.ref a) D σ H → wpAny (model X.prog X.w) X.A (matchCases rest X.env (.ref a) false) (SP X pins D) X.xe s' := fun s' I' h => hr.run false pins s' σ H D (.ref a) (.ref a) I' rfl h
  rcases h with ⟨y, rfl, h⟩ | ⟨ne, h⟩ | ⟨w, y, rfl, ne, h⟩
  · exact wpAny_matchCases_cons (pat_two hc I hq (fun _ s' u I' r' => wpAny_assignInOrder_more (bind_ok I' hN hi hx r' fun s2 I2 => wpAny_assignInOrder_none (hb.run pins s2 _ H D I2 h))) fun n => absurd rfl n)
  · exact wpAny_matchCases_cons (pat_miss I hq ne (fun s' I' => back s' I' h) rfl rfl)
  · exact wpAny_matchCases_cons (pat_two hc I hq (fun c => absurd c ne) fun _ s' I' => back s' I' h)
end
end Sea

set_option Elab.async false
set_option linter.all false
set_option maxRecDepth 100000
set_option maxHeartbeats 4000000
namespace Sea
open PySem PySem.Spec PyProof.Rows L2 LamX NdefX ClX Evl StX
/-! ### draws, second kind: the state keeps the script, a place, a number of its own, the rest of a large cell -/
def Ds (K : PySem.W.Frag) (H : Hp) (h c : Addr) : Prop := ∃ (p m r : Int) (ns : List Int), 0 ≤ p ∧ H h = some (.lst [.ref c, .int p, .int m, .int r]) ∧ SqL K H c (ns.map V.int) ∧ ns.length ≤ 63
/-- all kept but one -/
def Kh (h : Addr) (H H' : Hp) : Prop := ∀ b o, H b = some o → b ≠ h → H' b = some o
theorem Kh.refl {h : Addr} {H : Hp} : Kh h H H := fun _ _ e _ => e
theorem Kh.trans {h : Addr} {H H1 H2 : Hp} (a : Kh h H H1) (b : Kh h H1 H2) : Kh h H H2 := fun x o e n => b x o (a x o e n) n
theorem Kh.same {h : Addr} {H H' : Hp} (s : Same H H') : Kh h H H' := fun b o e _ => s b o e
theorem Kh.at {h : Addr} {H : Hp} {o : HO} : Kh h H (upd H h o) := fun b x e n => by
  rw [upd_ne n]
  exact e
/-- the script is read on, whatever is written to the state -/
theorem scr_keep {K : PySem.W.Frag} {H H' : Hp} {h c : Addr} {p m r : Int} {ns : List Int} (e : H h = some (.lst [.ref c, .int p, .int m, .int r])) (s : SqL K H c (ns.map V.int)) (k : Kh h H H') : SqL K H' c (ns.map V.int) := by
  rcases s with s | s
  · have ne : c ≠ h := by
      rintro rfl
      rcases s with s | ⟨o, s⟩
      · rw [e] at s
        match ns, s with
        | [], s => cases s
        | n :: r, s => cases s
      · rw [e] at s
        cases s
    rcases s with s | ⟨o, s⟩
    · exact .inl (.inl (k _ _ s ne))
    · exact .inl (.inr ⟨o, k _ _ s ne⟩)
  · exact .inr s
theorem Ds.same {K : PySem.W.Frag} {H H' : Hp} {h c : Addr} (d : Ds K H h c) (s : Same H H') : Ds K H' h c := by
  obtain ⟨p, m, r, ns, h0, e1, e2, l⟩ := d
  exact ⟨p, m, r, ns, h0, s _ _ e1, ex_l s e2, l⟩
theorem Ds.tk {K : PySem.W.Frag} {H H' : Hp} {h c : Addr} (d : Ds K H h c) (k : Kh h H H') : TK K H H' := by
  obtain ⟨p, m, r, ns, _, e1, _, _⟩ := d
  refine .but (fun b => b = h) (fun b o e n => k b o e n) fun b xs z => ?_
  rw [z]
  exact Rd.lst_no e1
theorem Ds.nh {K : PySem.W.Frag} {H : Hp} {h c b : Addr} (d : Ds K H h c) (n : H b = none) : b ≠ h := by
  obtain ⟨p, m, r, ns, _, e1, _, _⟩ := d
  rintro rfl
  rw [e1] at n
  cases n
theorem Ds.new {K : PySem.W.Frag} {H : Hp} {h c a : Addr} {o : HO} (d : Ds K H h c) (n : H a = none) : Ds K (upd H a o) h c := d.same (same_new n)
/-- a list of one's own is written, made behind the heap H0: the draws stand -/
theorem Ds.put {K : PySem.W.Frag} {H0 H : Hp} {h c l : Addr} {o : HO} (d0 : Ds K H0 h c) (k : Kh h H0 (upd H l o)) (d : Ds K H h c) (n : l ≠ h) : Ds K (upd H l o) h c := by
  obtain ⟨_, _, _, ns, _, e1, e2, l2⟩ := d0
  obtain ⟨p, m, r, _, p0, f1, _, _⟩ := d
  exact ⟨p, m, r, ns, p0, by rw [upd_ne n.symm]; exact f1, scr_keep e1 e2 k, l2⟩
theorem scStart : FnScope ["_law_script", "_law_mixed", "_law_cell"] ["_law_script"] (defScope sStart) := ⟨rfl, rfl, rfl, by decide +kernel, rfl, by decide +kernel, by decide +kernel⟩
theorem scDrawn : FnScope ["_law_state", "_law_count", "_law_result", "_law_cell"] ["_law_state", "_law_count"] (defScope sDrawn) := ⟨rfl, rfl, rfl, by decide +kernel, rfl, by decide +kernel, by decide +kernel⟩
def spStart (K : PySem.W.Frag) : Sp := fun vs H Q _ => ∃ (a : Addr) (ns : List Int), vs = [.ref a] ∧ SqL K H a (ns.map V.int) ∧ ns.length ≤ 63 ∧ ∀ (h : Addr) (H' : Hp), Same H H' → H h = none → Ds K H' h a → Q (.ref h) H'
def spDrawn (K : PySem.W.Frag) : Sp := fun vs H Q _ => ∃ (h c : Addr) (lim : Int), vs = [.ref h, .int lim] ∧ 0 < lim ∧ lim.natAbs.log2 < 9000 ∧ Ds K H h c ∧ ∀ (v : Int) (H' : Hp), 0 ≤ v → v < lim → Ds K H' h c → Kh h H H' → Q (.int v) H'
section
variable {P : Program} {w : World} {K : PySem.W.Frag} {mg : Str → Option Value} {base : Heap}
theorem ok_start {f : Addr} {fd : FuncData} {k : Nat} (F : Fun K "_law_start" "_law_start" sStart f fd) : FnOk P w K mg base CX0 (k + 1) f fd ["_law_script"] (spStart K) := by
  refine F.ok scStart (fun vs H Q E h => ?_) (fun cdv A outer s H vs Q E hr h => ?_)
  · obtain ⟨a, ns, rfl, _⟩ := h
    rfl
  · obtain ⟨a, ns, rfl, hS, hlen, q⟩ := h
    refine ⟨_, pss_cons (ps_set (i := 1) scStart.nd rfl (.inl rfl) pe_int) (pss_cons (ps_for PassesOwn.never rfl (pi_list (pv 0)) (pg_name (i := 2) scStart.nd rfl (.inl rfl))
        (pss_one (ps_set (i := 1) scStart.nd rfl (.inl rfl) (pe_op op_modN (pe_op op_add (pe_op op_add (pe_op op_mul (pv 1) pe_int) (pv 2)) pe_int) pe_int))))
      (pss_one (ps_ret (pe_lst (pa_cons (pv 0) (pa_cons pe_int (pa_cons (pv 1) (pa_cons pe_int pa_nil)))))))), ?_⟩
    refine ⟨_, rfl, a, rfl, ⟨_, hS⟩, for_list (K := K) (a := a) (xs := ns.map V.int) (fun i σ H' => ∃ (m : Int) (v : Option V), σ = [some (.ref a), some (.int m), v] ∧ H' = H)
      ⟨1, none, rfl, rfl⟩ (fun i σ H' _ ⟨_, _, _, e⟩ => by rw [e]; exact hS) ?_ ?_⟩
    · rintro i y σ H' hi ⟨m, v, rfl, rfl⟩
      obtain ⟨u, rfl⟩ : ∃ u, y = V.int u := by
        rw [List.getElem?_map] at hi
        cases e : ns[i]? with
        | none => rw [e] at hi; cases hi
        | some u => rw [e] at hi; exact ⟨u, (Option.some.inj hi).symm⟩
      refine ⟨_, rfl, _, _, rfl, rfl, .inr ⟨by decide, by decide⟩, _, rfl, _, _, rfl, rfl, _, _, rfl, rfl, _, _, rfl, rfl, (by show (2147483647 : Int) ≠ 0; decide), ?_⟩
      exact ⟨_, _, rfl, rfl⟩
    · rintro σ H' ⟨m, v, rfl, rfl⟩
      refine ⟨_, rfl, _, rfl, Nat.le_of_lt (small1000 (show 4 ≤ 1000 by decide)), fun l nl => ?_⟩
      exact q l _ (same_new nl) nl ⟨0, m, 0, ns, Int.le_refl 0, upd_same, ex_l (Ex.new nl) hS, hlen⟩
theorem ok_drawn {f : Addr} {fd : FuncData} {k : Nat} (F : Fun K "_law_drawn" "_law_drawn" sDrawn f fd) (mN : mg "len" = none) : FnOk P w K mg base CX0 (k + 1) f fd ["_law_state", "_law_count"] (spDrawn K) := by
  refine F.ok scDrawn (fun vs H Q E h => ?_) (fun cdv A outer s H vs Q E hr h => ?_)
  · obtain ⟨h, c, lim, rfl, _⟩ := h
    rfl
  · obtain ⟨h, c, lim, rfl, l0, l1, ⟨p, m, r, ns, p0, e1, e2, hlen⟩, q⟩ := h
    refine ⟨_, pss_cons (ps_if (pt_cmpR op_gt (pe_ixl (pv 0) pe_int) pe_int (nomark _))
          (pss_cons (ps_set (i := 2) scDrawn.nd rfl (.inl rfl) (pe_op op_modN (pe_ixl (pv 0) pe_int) (pv 1)))
          (pss_cons (ps_asg (pe_op op_fdivW (pe_ixl (pv 0) pe_int) (pv 1)) (pg_sub (pv 0) pe_int set_list))
            (pss_one (ps_ret (pv 2))))) pss_nil)
      (pss_cons (ps_asg (pe_op op_add (pe_ixl (pv 0) pe_int) pe_int) (pg_sub (pv 0) pe_int set_list))
      (pss_cons (ps_if (pt_cmpR L2.op_le (pe_ixl (pv 0) pe_int) (pe_callB call_len_seq (by rfl) mN PySem.boot_len (pa_cons (pe_ixl (pv 0) pe_int) pa_nil)) (nomark _))
          (pss_cons (ps_set (i := 3) scDrawn.nd rfl (.inl rfl) (pe_ixl (pe_ixl (pv 0) pe_int) (pe_op op_sub (pe_ixl (pv 0) pe_int) pe_int)))
          (pss_cons (ps_asg (pe_ifExp (pt_cmpR op_ge (pv 3) (pe_op op_pow pe_int pe_int) (nomark _)) (pe_op op_fdivW (pv 3) (pv 1)) pe_int) (pg_sub (pv 0) pe_int set_list))
            (pss_one (ps_ret (pe_op op_modN (pv 3) (pv 1)))))) pss_nil)
      (pss_cons (ps_asg (pe_op op_modN (pe_op op_add (pe_op op_mul (pe_ixl (pv 0) pe_int) pe_int) pe_int) pe_int) (pg_sub (pv 0) pe_int set_list))
      (pss_one (ps_ret (pe_op op_modN (pe_op op_fdivN (pe_ixl (pv 0) pe_int) pe_int) (pv 1))))))), ?_⟩
    have n0 : lim ≠ 0 := Int.ne_of_gt l0
    have done : ∀ (v m' r' p' : Int) (H' : Hp), 0 ≤ p' → H' h = some (.lst [.ref c, .int p', .int m', .int r']) → Kh h H H' → Q (.int (v.fmod lim)) H' := fun v m' r' p' H' hp' e k =>
      q _ _ (Int.fmod_nonneg_of_pos _ l0) (Int.fmod_lt_of_pos _ l0) ⟨p', m', r', ns, hp', e, scr_keep e1 e2 k, hlen⟩ k
    refine ⟨_, rfl, h, _, 3, _, rfl, rfl, SqL.of e1, rfl, _, _, rfl, rfl, _, rfl, ?_⟩
    refine ite2 (fun hgt => ?_) (fun _ => ?_)
    · refine ⟨_, rfl, h, _, 3, _, rfl, rfl, SqL.of e1, rfl, _, rfl, _, _, rfl, rfl, n0, ?_⟩
      refine ⟨_, rfl, h, _, 3, _, rfl, rfl, SqL.of e1, rfl, _, rfl, _, _, rfl, rfl, ⟨l0, l1⟩, ?_⟩
      refine ⟨_, rfl, h, _, 3, 3, rfl, rfl, e1, rfl, ?_⟩
      refine ⟨_, rfl, ?_⟩
      exact done r m _ p _ p0 upd_same Kh.at
    · refine ⟨_, rfl, h, _, 1, _, rfl, rfl, SqL.of e1, rfl, _, _, rfl, rfl, ?_⟩
      refine ⟨_, rfl, h, _, 1, 1, rfl, rfl, e1, rfl, ?_⟩
      have f1 : upd H h (.lst [V.ref c, .int (p + 1), .int m, .int r]) h = some (.lst [V.ref c, .int (p + 1), .int m, .int r]) := upd_same
      have f2 : SqL K (upd H h (.lst [V.ref c, .int (p + 1), .int m, .int r])) c (ns.map V.int) := scr_keep e1 e2 Kh.at
      refine ⟨_, rfl, h, _, 1, _, rfl, rfl, SqL.of f1, rfl, ?_⟩
      refine ⟨_, rfl, h, _, 0, _, rfl, rfl, SqL.of f1, rfl, c, _, rfl, .inl (f2), _, _, rfl, rfl, _, rfl, ?_⟩
      refine ite2 (fun hle => ?_) (fun _ => ?_)
      · have hle := of_decide_eq_true hle
        rw [List.length_map] at hle
        obtain ⟨j, rfl⟩ := Int.eq_ofNat_of_zero_le p0
        have hj : j < ns.length := by omega
        have hat : atI (ns.map V.int) ((j : Int) + 1 - 1) = some (.int ns[j]) := by
          rw [Int.add_sub_cancel]
          refine at_nat (by rw [List.length_map]; exact hj) ?_
          rw [List.getElem?_map, List.getElem?_eq_getElem hj]
          rfl
        refine ⟨_, rfl, h, _, 0, _, rfl, rfl, SqL.of f1, rfl, _, rfl, h, _, 1, _, rfl, rfl, SqL.of f1, rfl, _, _, rfl, rfl, c, _, _, _, rfl, rfl, f2, hat, ?_⟩
        refine ⟨_, rfl, _, _, rfl, rfl, ⟨by decide, by decide, by decide⟩, _, _, rfl, rfl, _, rfl, ?_⟩
        refine ite2 (fun _ => ?_) (fun _ => ?_)
        · refine ⟨_, rfl, _, rfl, _, _, rfl, rfl, ⟨l0, l1⟩, ?_⟩
          refine ⟨_, rfl, h, _, 3, 3, rfl, rfl, f1, rfl, ?_⟩
          refine ⟨_, rfl, _, rfl, _, _, rfl, rfl, n0, ?_⟩
          exact done _ _ _ _ _ (by omega) upd_same (Kh.at.trans Kh.at)
        · refine ⟨_, rfl, h, _, 3, 3, rfl, rfl, f1, rfl, ?_⟩
          refine ⟨_, rfl, _, rfl, _, _, rfl, rfl, n0, ?_⟩
          exact done _ _ _ _ _ (by omega) upd_same (Kh.at.trans Kh.at)
      · refine ⟨_, rfl, h, _, 2, _, rfl, rfl, SqL.of f1, rfl, _, _, rfl, rfl, .inr ⟨by decide, by decide⟩, _, _, rfl, rfl, _, _, rfl, rfl, (by show (2147483647 : Int) ≠ 0; decide), ?_⟩
        refine ⟨_, rfl, h, _, 2, 2, rfl, rfl, f1, rfl, ?_⟩
        refine ⟨_, rfl, h, _, 2, _, rfl, rfl, SqL.of upd_same, rfl, _, _, rfl, rfl, ⟨by decide, by decide⟩, _, rfl, _, _, rfl, rfl, n0, ?_⟩
        exact done _ _ _ _ _ (by omega) upd_same (Kh.at.trans Kh.at)
end
end Sea

set_option Elab.async false
set_option linter.all false
set_option maxRecDepth 100000
set_option maxHeartbeats 4000000
namespace Sea
open PySem PySem.Spec PyProof.Rows L2 LamX NdefX ClX Evl StX
def PrV (K : PySem.W.Frag) (H : Hp) (v : V) (x : Int × Int) : Prop := ∃ b, v = .ref b ∧ SqT K H b [.int x.1, .int x.2]
inductive PsV (K : PySem.W.Frag) (H : Hp) : List V → List (Int × Int) → Prop
  | nil : PsV K H [] []
  | cons {v : V} {x : Int × Int} {vs : List V} {L : List (Int × Int)} : PrV K H v x → PsV K H vs L → PsV K H (v :: vs) (x :: L)
theorem PrV.tk {K : PySem.W.Frag} {H H' : Hp} {v : V} {x : Int × Int} (t : TK K H H') (h : PrV K H v x) : PrV K H' v x := by
  obtain ⟨b, e, h⟩ := h
  exact ⟨b, e, t _ _ h⟩
theorem PsV.tk {K : PySem.W.Frag} {H H' : Hp} {vs : List V} {L : List (Int × Int)} (t : TK K H H') (h : PsV K H vs L) : PsV K H' vs L := by
  induction h with
  | nil => exact .nil
  | cons a _ ih => exact .cons (a.tk t) ih
theorem PsV.len {K : PySem.W.Frag} {H : Hp} {vs : List V} {L : List (Int × Int)} (h : PsV K H vs L) : vs.length = L.length := by
  induction h with
  | nil => rfl
  | cons _ _ ih => rw [List.length_cons, List.length_cons, ih]
theorem PsV.get {K : PySem.W.Frag} {H : Hp} {vs : List V} {L : List (Int × Int)} (h : PsV K H vs L) : ∀ {i : Nat} {v : V}, vs[i]? = some v → ∃ x, L[i]? = some x ∧ PrV K H v x := by
  induction h with
  | nil =>
    intro i v e
    simp at e
  | @cons v0 x0 vs0 L0 a _ ih =>
    intro i v e
    cases i with
    | zero =>
      have e' : v0 = v := by simpa using e
      exact ⟨x0, by simp, e' ▸ a⟩
    | succ j => simpa using ih (i := j) (v := v) (by simpa using e)
theorem PsV.app {K : PySem.W.Frag} {H : Hp} {vs ws : List V} {L M : List (Int × Int)} (h : PsV K H vs L) (g : PsV K H ws M) : PsV K H (vs ++ ws) (L ++ M) := by
  induction h with
  | nil => exact g
  | cons a _ ih => exact .cons a ih
theorem PsV.take {K : PySem.W.Frag} {H : Hp} {vs : List V} {L : List (Int × Int)} (h : PsV K H vs L) : ∀ n, PsV K H (vs.take n) (L.take n) := by
  induction h with
  | nil =>
    intro n
    simp
    exact .nil
  | cons a _ ih =>
    intro n
    cases n with
    | zero => exact .nil
    | succ m => exact .cons a (ih m)
theorem PsV.drop {K : PySem.W.Frag} {H : Hp} {vs : List V} {L : List (Int × Int)} (h : PsV K H vs L) : ∀ n, PsV K H (vs.drop n) (L.drop n) := by
  induction h with
  | nil =>
    intro n
    simp
    exact .nil
  | cons a b ih =>
    intro n
    cases n with
    | zero => exact .cons a b
    | succ m => exact ih m
def psD (L : List (Int × Int)) : PyData := .tuple (L.map fun x => .tuple [.int x.1, .int x.2])
theorem PsV.dp {K : PySem.W.Frag} {H : Hp} {vs : List V} {L : List (Int × Int)} (h : PsV K H vs L) : DpAll K H vs (L.map fun x => .tuple [.int x.1, .int x.2]) := by
  induction h with
  | nil => exact .nil
  | cons a _ ih =>
    obtain ⟨b, rfl, hb⟩ := a
    exact .cons (.tup hb (.cons (.int _) (.cons (.int _) .nil))) ih
/-- a tuple of passes at v -/
def PsA (K : PySem.W.Frag) (H : Hp) (v : V) (L : List (Int × Int)) : Prop := ∃ a vs, v = .ref a ∧ SqT K H a vs ∧ PsV K H vs L
theorem PsA.tk {K : PySem.W.Frag} {H H' : Hp} {v : V} {L : List (Int × Int)} (t : TK K H H') (h : PsA K H v L) : PsA K H' v L := by
  obtain ⟨a, vs, e, h1, h2⟩ := h
  exact ⟨a, vs, e, t _ _ h1, h2.tk t⟩
theorem PsA.dp {K : PySem.W.Frag} {H : Hp} {v : V} {L : List (Int × Int)} (h : PsA K H v L) : Dp K H v (psD L) := by
  obtain ⟨a, vs, rfl, h1, h2⟩ := h
  exact .tup h1 h2.dp
theorem psD_lay : ∀ L : List (Int × Int), PyData.canLayAll0 (L.map fun x => PyData.tuple [.int x.1, .int x.2]) = true
  | [] => rfl
  | x :: L => by
    show ((true && (true && true)) && PyData.canLayAll0 (L.map fun x => PyData.tuple [.int x.1, .int x.2])) = true
    rw [psD_lay L]
    rfl
theorem psD_eqv : ∀ L M : List (Int × Int), PyData.eqvAll (L.map fun x => .tuple [.int x.1, .int x.2]) (M.map fun x => .tuple [.int x.1, .int x.2]) = decide (L = M)
  | [], [] => rfl
  | [], _ :: _ => rfl
  | _ :: _, [] => rfl
  | x :: L, y :: M => by
    show (((x.1 == y.1) && ((x.2 == y.2) && true)) && PyData.eqvAll (L.map fun x => .tuple [.int x.1, .int x.2]) (M.map fun x => .tuple [.int x.1, .int x.2])) = _
    rw [psD_eqv L M, Bool.eq_iff_iff]
    obtain ⟨x1, x2⟩ := x
    obtain ⟨y1, y2⟩ := y
    simp
theorem psD_eq (L M : List (Int × Int)) : PyData.eqv (psD L) (psD M) = decide (L = M) := psD_eqv L M
theorem scIT : FnScope ["self", "index"] ["self", "index"] (defScope sIT) := ⟨rfl, rfl, rfl, by decide +kernel, rfl, by decide +kernel, by decide +kernel⟩
theorem scInit : FnScope ["self", "passes", "index", "length", "price", "is_good"] ["self", "passes"] (defScope sInit) := ⟨rfl, rfl, rfl, by decide +kernel, rfl, by decide +kernel, by decide +kernel⟩
theorem scValid : FnScope ["tariff", "index"] ["tariff", "index"] (defScope sValid) := ⟨rfl, rfl, rfl, by decide +kernel, rfl, by decide +kernel, by decide +kernel⟩
/-- the text's facts -/
structure TX (K : PySem.W.Frag) (mg : Str → Option Value) (C cI cU cP fI : Addr) (mc mp : Value) : Prop where
  cl : Cls K C
  no : NoAttr K C "offers"
  gC : mg "Tariff" = some (.ref C)
  cr : CRead K C mc
  v1 : ∃ u, CVal K C mc "MAX_LENGTH" (.int 28) u
  v2 : ∃ u, CVal K C mc "MAX_PRICE" (.int 1000000) u
  v3 : ∃ u, CVal K C mc "MAX_PASSES" (.int 6) u
  mE : mg "enumerate" = none
  mN : mg "len" = none
  mT : mg "tuple" = none
  xI : OexC K cI
  nI : PySem.W.findIn K (.ref cI) "index" = some none
  gI : mg "InvalidTariff" = some (.ref cI)
  iI : PySem.W.findIn K (.ref cI) "__init__" = some (some (.ref fI))
  tI : PySem.W.typeIn K (.ref fI) = some (.type "function")
  pI : PIn K mg "PassError" cP mp
  qU : PySem.W.excIn K cU [.type "ValueError", .type "Exception", .type "BaseException", .type "object"] "ValueError.__new__" = true
  gU : mg "UnknownPass" = some (.ref cU)
  kU : PySem.W.keepIn K (.ref cU) = true
  sU : PySem.W.subIn K (.ref cU) (.type "BaseException") = some true
  yU : PySem.W.typeIn K (.ref cU) = some (.type "type")
section
variable {P : Program} {w : World} {K : PySem.W.Frag} {mg : Str → Option Value} {base : Heap} {C cI cU cP fI : Addr} {mc mp : Value}
theorem ok_IT {k : Nat} {fd : FuncData} (F : Fun K "__init__" "InvalidTariff.__init__" sIT fI fd) (T : TX K mg C cI cU cP fI mc mp) : FnOk P w K mg base CX0 (k + 1) fI fd ["self", "index"] (spX1 K "index") := by
  refine F.ok scIT (fun vs H Q E h => ?_) (fun cdv A outer s H vs Q E hr h => ?_)
  · obtain ⟨a, C', y, rfl, _⟩ := h
    rfl
  · obtain ⟨a, C', y, rfl, hx, hf, ha, q⟩ := h
    refine ⟨_, pss_cons (ps_expr (pe_pinit (by rfl) T.pI.gB T.pI.rd T.pI.ga T.pI.at_ (pa_cons (pv 0) (pa_cons pe_str pa_nil)))) (pss_one (ps_ost (pv 0) (pv 1))), ?_⟩
    refine ⟨_, rfl, a, C', _, rfl, by decide, hx, ha, _, rfl, _, rfl, a, C', rfl, hx, hf, .inl ⟨ha, fun dx h1 h2 => q dx h1 h2⟩⟩
theorem kb_IT {fd : FuncData} (F : Fun K "__init__" "InvalidTariff.__init__" sIT fI fd) : KBn K fd ["self", "index"] 1 ["index"] (fun us ws => us ++ ws) (fun vs zs => vs ++ zs) := by
  obtain ⟨oc, od, kV, doc, pm, an, cdv, ct, osl, rfl, lk, hcd⟩ := F.ex
  refine ⟨fun s us ws _ h1 h2 => ?_, fun a b => a.append b⟩
  match us, ws, h1, h2 with
  | [u], [x], _, _ => exact .of_eq rfl
end
theorem scPasses : FnScope ["self"] ["self"] (defScope sPasses) := ⟨rfl, rfl, rfl, by decide +kernel, rfl, by decide +kernel, by decide +kernel⟩
/-- a tariff at a, its tuple of passes at p -/
def Tar (K : PySem.W.Frag) (C : Addr) (H : Hp) (a p : Addr) (L : List (Int × Int)) : Prop := (∃ dx, H a = some (.ins C dx [("offers", .ref p)])) ∧ PsA K H (.ref p) L
theorem Tar.len_eq {K : PySem.W.Frag} {C : Addr} {H : Hp} {a p : Addr} {L : List (Int × Int)} (t : Tar K C H a p L) : ∃ vs, SqT K H p vs ∧ vs.length = L.length ∧ PsV K H vs L := by
  obtain ⟨_, q, vs, e, h1, h2⟩ := t
  cases e
  exact ⟨vs, h1, h2.len, h2⟩
/-- the getter of passes -/
structure TP (K : PySem.W.Frag) (C fP pP : Addr) (fdP : FuncData) : Prop where
  pr : PropOf K C "passes" pP fP
  fu : Fun K "passes" "Tariff.passes" sPasses fP fdP
section
variable {P : Program} {w : World} {K : PySem.W.Frag} {mg : Str → Option Value} {base : Heap} {C cI cU cP fI fP pP : Addr} {mc mp : Value} {fdP : FuncData}
theorem ok_passes (F : Fun K "passes" "Tariff.passes" sPasses fP fdP) (c : Cls K C) (n : NoAttr K C "offers") {k : Nat} : FnOk P w K mg base CX0 (k + 1) fP fdP ["self"] (getSp C "offers") := by
  obtain ⟨oc, od, kV, doc, pm, an, cdv, ct, osl, rfl, lk, hcd⟩ := F.ex
  exact fn_getter lk hcd scPasses rfl rfl c n
theorem b_passes (F : Fun K "passes" "Tariff.passes" sPasses fP fdP) : Binds K fdP ["self"] [] := F.binds (ps := ["self"]) fun _ _ _ _ _ _ us hl => match us, hl with | [_], _ => rfl
/-- e.passes, e a tariff -/
theorem pe_passes {X : Cx} {e : Expr} {te : TE} {pos : Pos} (T : TP X.K C fP pP fdP) (c : Cls X.K C) (n : NoAttr X.K C "offers") (hr : Room 2 X.A) (he : PE X e te) (hab : attributeBase e "passes" X.env (eval e X.env) = eval e X.env := by rfl) :
    PE X (.Attribute e "passes" pos) (tProp C (getSp C "offers") [] E0 te) :=
  pe_prop he c T.pr (ok_passes (k := 0) T.fu c n) hr (b_passes T.fu) .nil pass0 hab
def spValid (K : PySem.W.Frag) (C cU : Addr) : Sp := fun vs H Q E => ∃ (a p : Addr) (i : Int) (L : List (Int × Int)), vs = [.ref a, .int i] ∧ Tar K C H a p L ∧ (0 ≤ i ∧ i < L.length → Q .non H) ∧ (¬ (0 ≤ i ∧ i < L.length) → E (.ref cU) none H)
theorem ok_valid {f : Addr} {fd : FuncData} {k : Nat} (F : Fun K "validate_pass" "validate_pass" sValid f fd) (T : TX K mg C cI cU cP fI mc mp) (TQ : TP K C fP pP fdP) : FnOk P w K mg base (L2.CX P w) (k + 3) f fd ["tariff", "index"] (spValid K C cU) := by
  refine F.okX scValid (fun vs H Q E h => ?_) (fun cdv A outer s H vs Q E hr h => ?_)
  · obtain ⟨a, p, i, L, rfl, _⟩ := h
    rfl
  · obtain ⟨a, p, i, L, rfl, ht, q1, q2⟩ := h
    refine ⟨_, pss_one (ps_if (pt_not (pt_chain op_le op_lt pe_int (pv 1) (pe_callB call_len_seq (by rfl) T.mN PySem.boot_len (pa_cons (pe_passes TQ T.cl T.no (hr.mono (by omega)) (pv 0)) pa_nil))))
      (pss_one (ps_raise rfl (takes_of rfl rfl rfl rfl) (pmk_own PySem.F.excBase_ValueError T.qU T.gU T.kU (raises_own T.sU T.yU) (by rfl)))) pss_nil), ?_⟩
    obtain ⟨vs, h1, hl, _⟩ := ht.len_eq
    obtain ⟨⟨dx, ha⟩, _⟩ := ht
    refine ⟨_, rfl, _, _, rfl, rfl, _, rfl, ?_⟩
    refine ite2 (fun h0 => ?_) (fun h0 => ?_)
    · have g0 : (0 : Int) ≤ i := of_decide_eq_true h0
      refine ⟨.ref a, rfl, a, dx, _, rfl, ha, a, dx, _, .ref p, rfl, ha, rfl, p, vs, rfl, .inr h1, _, _, rfl, rfl, _, rfl, ?_⟩
      refine ite2 (fun hb => ?_) (fun hb => ?_)
      · refine q2 fun hc => ?_
        have h2 : i < ((vs.length : Nat) : Int) := by
          rw [hl]
          exact hc.2
        rw [decide_eq_true h2] at hb
        cases hb
      · refine q1 ⟨g0, ?_⟩
        rw [← hl]
        by_cases h2 : i < ((vs.length : Nat) : Int)
        · exact h2
        · rw [decide_eq_false h2] at hb
          exact absurd rfl hb
    · refine ⟨_, rfl, q2 fun hc => ?_⟩
      rw [decide_eq_true hc.1] at h0
      exact h0 rfl
end
/-! ### what is wrong with passes -/
def okP (x : Int × Int) : Bool := (decide (1 ≤ x.1) && decide (x.1 ≤ 28)) && (decide (1 ≤ x.2) && decide (x.2 ≤ 1000000))
def badI (i : Nat) (x : Int × Int) : Bool := decide (V.int ((i : Nat) : Int) = V.int 6) || !okP x
def fb : Nat → List (Int × Int) → Option Nat
  | _, [] => none
  | i, x :: r => if badI i x = true then some i else fb (i + 1) r
def bad (L : List (Int × Int)) : Option Nat := if L = [] then some 0 else fb 0 L
theorem fb_all : ∀ (L : List (Int × Int)) (k : Nat), (∀ j x, L[j]? = some x → badI (k + j) x = false) → fb k L = none
  | [], _, _ => rfl
  | x :: r, k, h => by
    have h0 := h 0 x rfl
    unfold fb
    rw [if_neg (by rw [show badI k x = false from h0]; decide)]
    refine fb_all r (k + 1) fun j y hy => ?_
    have := h (j + 1) y (by simpa using hy)
    rwa [show k + (j + 1) = k + 1 + j by omega] at this
theorem fb_at : ∀ (L : List (Int × Int)) (k i : Nat) (x : Int × Int), L[i]? = some x → badI (k + i) x = true → (∀ j y, j < i → L[j]? = some y → badI (k + j) y = false) → fb k L = some (k + i)
  | [], _, i, _, h, _, _ => by simp at h
  | y :: r, k, 0, x, h, hb, _ => by
    obtain rfl : y = x := by simpa using h
    unfold fb
    rw [if_pos (show badI k y = true from hb)]
    rfl
  | y :: r, k, i + 1, x, h, hb, hn => by
    unfold fb
    rw [if_neg (by rw [show badI k y = false from hn 0 y (Nat.succ_pos _) rfl]; decide)]
    rw [fb_at r (k + 1) i x (by simpa using h) (by rwa [show k + 1 + i = k + (i + 1) by omega]) (fun j z hj hz => by
      have := hn (j + 1) z (by omega) (by simpa using hz)
      rwa [show k + (j + 1) = k + 1 + j by omega] at this)]
    rw [show k + 1 + i = k + (i + 1) by omega]
section
variable {P : Program} {w : World} {K : PySem.W.Frag} {mg : Str → Option Value} {base : Heap} {C cI cU cP fI fP pP : Addr} {mc mp : Value} {fdP fdI : FuncData}
theorem psD_dep : ∀ L : List (Int × Int), PyData.depthAll (L.map fun x => PyData.tuple [.int x.1, .int x.2]) ≤ 1
  | [] => Nat.zero_le _
  | x :: L => by
    show max (max 0 (max 0 0) + 1) (PyData.depthAll (L.map fun x => PyData.tuple [.int x.1, .int x.2])) ≤ 1
    have := psD_dep L
    omega
theorem psD_sh (L : List (Int × Int)) : SeqAt.shaped (psD L) = true := by
  show (PyData.canLayAll0 (L.map fun x => PyData.tuple [.int x.1, .int x.2]) && decide (PyData.depthAll (L.map fun x => PyData.tuple [.int x.1, .int x.2]) + 1 ≤ 64)) = true
  rw [psD_lay, decide_eq_true (by have := psD_dep L; omega)]
  rfl
/-- Tariff.__init__ at the tuple p -/
def spInit (K : PySem.W.Frag) (C cI : Addr) : Sp := fun vs H Q E => ∃ (a p dx : Addr) (L : List (Int × Int)), vs = [.ref a, .ref p] ∧ H a = some (.ins C dx []) ∧ PsA K H (.ref p) L ∧ L.length ≤ 1000 ∧
  (bad L = none → ∀ H', (∀ b o, H b = some o → b ≠ a → H' b = some o) → H' a = some (.ins C dx [("offers", .ref p)]) → Q .non H') ∧
  (∀ i d H', bad L = some i → Same H H' → H' d = some (.xd [("index", .int i)]) → E (.ref cI) (some d) H')
theorem ok_init_body {k : Nat} {X : Cx} (hX : X.K = K) (FI : Fun K "__init__" "InvalidTariff.__init__" sIT fI fdI) (T : TX K mg C cI cU cP fI mc mp) {f : Addr} {cdv : Value} {A : Around} {outer : List Env} {s : Shared} {H : Hp} {vs : List V} {Q : VK} {E : XK}
    (hr : Room (k + 3) (A.deeper (envOfC "Tariff.__init__" (defScope sInit) s.heap.objs.size f cdv))) (h : spInit K C cI vs H Q E) :
    ∃ t, PSs (cxOf (L2.CX P w) P w K mg base ["self", "passes", "index", "length", "price", "is_good"] "Tariff.__init__" (defScope sInit) f cdv A outer s H E) (defBody sInit) t ∧ t { nx := fun _ H' => Q .non H', rt := Q } (start ["self", "passes", "index", "length", "price", "is_good"] vs) H := by
  obtain ⟨a, p, dx, L, rfl, ha, hL, hlen, q1, q2⟩ := h
  have GI : FnOk P w K mg base CX0 1 fI fdI ["self", "index"] (spX1 K "index") := ok_IT FI T
  have kb := kb_IT FI
  refine ⟨_, pss_cons (ps_if (pt_cmpR (op_eqD hr.units) (pv 1) (pe_tup pa_nil) (nomark _)) (pss_one (ps_raise rfl (takes_of rfl rfl rfl rfl) (pmk_kw T.xI T.iI T.tI GI (hr.mono (by omega)) kb pass0 (by rfl) T.gI (pk_cons pe_int pk_nil)))) pss_nil)
    (pss_cons (ps_for (passes_of rfl) rfl (pi_enumT (by rfl) T.mE (pa_cons (pv 1) pa_nil)) (pg_tup rfl (pgs_cons (pg_name (i := 2) scInit.nd rfl (.inl rfl)) (pgs_cons (pg_tup rfl (pgs_cons (pg_name (i := 3) scInit.nd rfl (.inl rfl)) (pgs_cons (pg_name (i := 4) scInit.nd rfl (.inl rfl)) pgs_nil))) pgs_nil)))
      (pss_cons (ps_set (i := 5) scInit.nd rfl (.inl rfl) (pe_and (pe_chain op_le op_le pe_int (pv 3) (pe_clc (by rfl) T.gC T.cr T.v1)) (pe_one (pe_chain op_le op_le pe_int (pv 4) (pe_clc (by rfl) T.gC T.cr T.v2)))))
        (pss_one (ps_if (PW.pt (pw_or (pt_cmpR op_eq (pv 2) (pe_clc (by rfl) T.gC T.cr T.v3) (nomark _)) (pw_or1 (pt_not (pt_val (pv 5))))))
          (pss_one (ps_raise rfl (takes_of rfl rfl rfl rfl) (pmk_kw T.xI T.iI T.tI GI (hr.mono (by omega)) kb pass0 (by rfl) T.gI (pk_cons (pv 2) pk_nil)))) pss_nil))))
    (pss_one (ps_fld (pv 0) (pv 1) rfl))), ?_⟩
  have hps := hL
  obtain ⟨_, vs, e, h1, h2⟩ := hL
  cases e
  have hlen2 := h2.len
  refine ⟨.ref p, rfl, Nat.zero_le _, fun z nz => ?_⟩
  have s0 : Same H (upd H z (.tup [])) := same_new nz
  refine ⟨psD L, psD [], (hps.tk (.same s0)).dp, .tup (xs := []) (.of upd_same) .nil, psD_sh L, psD_sh [], _, rfl, ?_⟩
  refine ite2 (fun hb => ?_) (fun hb => ?_)
  · have eL : L = [] := by
      rw [psD_eq] at hb
      exact of_decide_eq_true hb
    refine mk1_in T.xI T.nI fun d hd => q2 0 d _ ?_ (s0.trans (same_new hd)) upd_same
    unfold bad
    rw [if_pos eL]
  have nL : L ≠ [] := fun z => by
    rw [psD_eq, decide_eq_true z] at hb
    exact hb rfl
  refine ⟨_, rfl, p, vs, rfl, (TK.same s0) _ _ h1, for_rounds (I := IteT K p vs) vs.length (fun i σ H' => ∃ v2 v3 v4 v5, σ = [some (.ref a), some (.ref p), v2, v3, v4, v5] ∧ Same H H' ∧ ∀ j x, j < i → L[j]? = some x → badI j x = false)
    ⟨none, none, none, none, rfl, s0, fun j x hj => absurd hj (Nat.not_lt_zero _)⟩ ?_ ?_⟩
  · rintro i σ H' hi ⟨v2, v3, v4, v5, rfl, sm, hall⟩
    have hvs : SqT K H' p vs := (TK.same sm) _ _ h1
    refine ⟨⟨hi, hvs⟩, ?_⟩
    rintro y HT ⟨x, TT, hx, nT, rfl, rfl⟩
    obtain ⟨⟨l, pr⟩, hLi, b, rfl, hb2⟩ := h2.get hx
    have sT : Same H' (upd H' TT (.tup [.int (i : Nat), .ref b])) := same_new nT
    have hb3 : SqT K (upd H' TT (.tup [.int (i : Nat), .ref b])) b [.int l, .int pr] := (TK.same (sm.trans sT)) _ _ hb2
    have hi6 : i < 1000 := by
      have := (List.getElem?_eq_some_iff.mp hLi).1
      omega
    refine ⟨TT, _, rfl, .of upd_same, rfl, _, _, rfl, _, _, rfl, b, _, rfl, hb3, rfl, _, _, rfl, _, _, rfl, rfl, rfl, ?_⟩
    refine q_asg (v := .bl (okP (l, pr))) (ev_andV (ev_chainI (p := fun i j => decide (i ≤ j)) (q := fun i j => decide (i ≤ j)) ev_c (ev_var rfl) ev_c) fun _ => ev_chainI (p := fun i j => decide (i ≤ j)) (q := fun i j => decide (i ≤ j)) ev_c (ev_var rfl) ev_c) fun H2 e2 => ?_
    refine s_if (b := badI i (l, pr)) (et_or (et_test (ev_op (ev_var rfl) ev_c (rv_eq rfl))) fun _ => et_not (et_B (ev_var rfl))) (fun hb3 H3 e3 => ?_) (fun hb3 H3 e3 => ?_)
    · refine ⟨_, rfl, mk1_in T.xI T.nI fun d hd => q2 i d _ ?_ (((sm.trans sT).trans (e2.trans e3)).trans (same_new hd)) upd_same⟩
      unfold bad
      rw [if_neg nL]
      have := fb_at L 0 i (l, pr) hLi (by rw [Nat.zero_add]; exact hb3) (fun j y hj hy => by
        rw [Nat.zero_add]
        exact hall j y hj hy)
      rwa [Nat.zero_add] at this
    · refine ⟨_, _, _, _, rfl, (sm.trans sT).trans (e2.trans e3), fun j x hj hxx => ?_⟩
      by_cases hji : j < i
      · exact hall j x hji hxx
      · obtain rfl : j = i := by omega
        rw [Option.some.inj (hxx.symm.trans hLi)]
        exact hb3
  · rintro σ H' ⟨v2, v3, v4, v5, rfl, sm, hall⟩
    refine ⟨⟨rfl, (TK.same sm) _ _ h1⟩, ?_⟩
    refine ⟨_, rfl, _, rfl, a, C, dx, [], rfl, sm _ _ ha, T.cl, T.no, by decide, ?_⟩
    refine q1 ?_ _ (fun b o e n => ?_) upd_same
    · unfold bad
      rw [if_neg nL]
      refine fb_all L 0 fun j x hx => ?_
      rw [Nat.zero_add]
      refine hall j x ?_ hx
      rw [hlen2]
      exact (List.getElem?_eq_some_iff.mp hx).1
    · rw [upd_ne n]
      exact sm _ _ e
end
structure TMk (K : PySem.W.Frag) (C fI fT : Addr) (fdI fdT : FuncData) : Prop where
  mkf : Mk K C fT
  fT : Fun K "__init__" "Tariff.__init__" sInit fT fdT
  fI : Fun K "__init__" "InvalidTariff.__init__" sIT fI fdI
/-- Tariff(..) of the passes vs -/
def spMk (K : PySem.W.Frag) (C cI : Addr) : Sp := fun vs H Q E => ∃ L : List (Int × Int), PsV K H vs L ∧ L.length ≤ 1000 ∧ (bad L = none → ∀ a p H', Same H H' → H a = none → Tar K C H' a p L → Q (.ref a) H') ∧
  (∀ i d H', bad L = some i → Same H H' → H' d = some (.xd [("index", .int (i : Nat))]) → E (.ref cI) (some d) H')
section
variable {P : Program} {w : World} {K : PySem.W.Frag} {mg : Str → Option Value} {base : Heap} {C cI cU cP fI fT fP pP : Addr} {mc mp : Value} {fdP fdI fdT : FuncData}
theorem ok_init (T : TX K mg C cI cU cP fI mc mp) (I : TMk K C fI fT fdI fdT) : FnR P w K mg base (L2.CX P w) 4 fT (fun vs H Q E => ∃ ws rest, vs = ws ++ rest ∧ ws.length = ["self"].length ∧ rest.length ≤ sizeLine ∧ ∀ p, H p = Option.none → spInit K C cI (ws ++ [V.ref p]) (upd H p (.tup rest)) Q E) := by
  obtain ⟨oc, od, kV, doc, pm, an, cdv, ct, osl, rfl, lk, hcd⟩ := I.fT.ex
  refine fn_star (ps := ["self"]) (pv := "passes") lk hcd scInit cxUp (fun us rest hl => ?_) fun A outer s H vs Q E hr h => ok_init_body (X := cxOf (L2.CX P w) P w K mg base ["self"] "Tariff.__init__" (defScope sInit) fT cdv A outer s H E) rfl I.fI T hr h
  match us, hl with
  | [u], _ =>
    unfold bindArgs
    have e : ∀ b : Bool, (b && (defArgs sInit).vararg.isNone) = false := fun b => by
      rw [show (defArgs sInit).vararg.isNone = false from rfl, Bool.and_false]
    show _ = _
    simp only [PySem.W.fnOf, e]
    rfl
theorem mk_in {vs : List V} {H : Hp} {Q : VK} {E : XK} (h : spMk K C cI vs H Q E) : ∀ x dx, H x = Option.none → H dx = Option.none → dx ≠ x → (fun vs H Q E => ∃ ws rest, vs = ws ++ rest ∧ ws.length = ["self"].length ∧ rest.length ≤ sizeLine ∧ ∀ p, H p = Option.none → spInit K C cI (ws ++ [V.ref p]) (upd H p (.tup rest)) Q E)
    (V.ref x :: vs) (upd (upd H dx (.own x)) x (.ins C dx [])) (fun v H2 => v = .non ∧ Q (.ref x) H2) E := by
  obtain ⟨L, hL, hlen, q1, q2⟩ := h
  intro x dx nx ndx nex
  have s0 : Same H (upd (upd H dx (.own x)) x (.ins C dx [])) := fun b o e => by
    rw [upd_ne (ne_of_none e nx), upd_ne (ne_of_none e ndx)]
    exact e
  refine ⟨[.ref x], vs, rfl, rfl, Nat.le_of_lt (small1000 (by rw [hL.len]; exact hlen)), fun p np => ?_⟩
  have npx : x ≠ p := fun e => by
    rw [← e, upd_same] at np
    cases np
  have s1 := s0.trans (same_new (o := .tup vs) np)
  have hp : SqT K (upd (upd (upd H dx (.own x)) x (.ins C dx [])) p (.tup vs)) p vs := .of upd_same
  refine ⟨x, p, dx, L, rfl, by rw [upd_ne npx, upd_same], ⟨p, vs, rfl, hp, hL.tk (.same s1)⟩, hlen, fun hb H' hk hx => ⟨rfl, q1 hb x p H' (fun b o e => hk b o (s1 b o e) (ne_of_none e nx)) nx ⟨⟨dx, hx⟩, p, vs, rfl, ?_, (hL.tk (.same s1)).tk ?_⟩⟩, fun i d H' hb sm hd => q2 i d H' hb (s1.trans sm) hd⟩
  · exact .of (hk _ _ upd_same npx.symm)
  · exact .but (fun b => b = x) (fun b o e n => hk b o e n) fun b xs z => by
      rw [z]
      refine Rd.ins_no (C := C) (dx := dx) (fs := []) ?_
      rw [upd_ne npx, upd_same]
section
variable {X : Cx} {e : Expr} {es : List Expr} {te : TE} {t : TA} {E : XK} {p pos spos : Pos}
theorem pe_tar (T : TX X.K X.mg C cI cU cP fI mc mp) (I : TMk X.K C fI fT fdI fdT) (hr : Room 5 X.A) (hx : Passes (L2.CX X.prog X.w) X E) (hg : Gl X "Tariff") (ha : PA X (e :: es) t)
    (he : starEach (e :: es) X.env = (false, eval e X.env) :: starEach es X.env := by rfl) (hpl : (backTo pos (starEach es X.env)).any (·.1) = false := by rfl) :
    PE X (.Call (.Name "Tariff" p) (e :: es) [] pos) (fun σ H Q => t σ H fun vs H1 => spMk X.K C cI vs H1 Q E) := by
  refine ⟨fun pins s σ H Q J h => ?_⟩
  refine wpAny_Call_Name_kw (ld_glob J hg T.gC ?_ (by decide))
  exact PySem.W.callWith_K (h₀ := X.base) J.ok.mod.kin I.mkf.kp (thn (ha.run pos pins s σ H _ J h) fun us s1 ⟨vs, H1, I1, r, q⟩ => ⟨I1.kIn, run_makeR I.mkf (ok_init T I) hr hx I1 r (mk_in q)⟩) he hpl
theorem pe_tarS (T : TX X.K X.mg C cI cU cP fI mc mp) (I : TMk X.K C fI fT fdI fdT) (hr : Room 5 X.A) (hx : Passes (L2.CX X.prog X.w) X E) (hg : Gl X "Tariff") (he : PE X e te)
    (hst : starEach [.Starred e spos] X.env = [(true, eval e X.env)] := by rfl) :
    PE X (.Call (.Name "Tariff" p) [.Starred e spos] [] pos) (fun σ H Q => te σ H fun y H1 => ∃ a xs, y = V.ref a ∧ SqT X.K H1 a xs ∧ spMk X.K C cI xs H1 Q E) := by
  refine ⟨fun pins s σ H Q J h => ?_⟩
  refine wpAny_Call_Name_kw (ld_glob J hg T.gC ?_ (by decide))
  refine PySem.W.callWith_S (h₀ := X.base) J.ok.mod.kin I.mkf.kp (thn (he.run pins s σ H _ J h) fun v s1 hh => ?_) hst
  obtain ⟨y, H1, I1, ry, a, xs, ey, hxs, q⟩ := hh
  subst ey
  obtain rfl : v = Value.ref a := ry
  exact star_any I1 (.inl hxs) fun us s2 I2 rv => ⟨I2.kIn, run_makeR I.mkf (ok_init T I) hr hx I2 rv (mk_in q)⟩
end
end
end Sea

set_option Elab.async false
set_option linter.all false
set_option maxRecDepth 100000
set_option maxHeartbeats 4000000
namespace Sea
open PySem PySem.Spec PyProof.Rows L2 LamX NdefX ClX Evl StX
theorem scIV : FnScope ["self", "part", "index"] ["self", "part", "index"] (defScope sIV) := ⟨rfl, rfl, rfl, by decide +kernel, rfl, by decide +kernel, by decide +kernel⟩
theorem scVN : FnScope ["part", "numbers", "largest", "most", "index", "number"] ["part", "numbers", "largest", "most"] (defScope sVN) := ⟨rfl, rfl, rfl, by decide +kernel, rfl, by decide +kernel, by decide +kernel⟩
/-- errors of the package, as the travel's code raises them -/
structure TEv (K : PySem.W.Frag) (mg : Str → Option Value) (cV cP fV : Addr) (fdV : FuncData) (mp : Value) : Prop where
  xV : OexC K cV
  nP : PySem.W.findIn K (.ref cV) "part" = some none
  nI : PySem.W.findIn K (.ref cV) "index" = some none
  gV : mg "InvalidTravel" = some (.ref cV)
  iV : PySem.W.findIn K (.ref cV) "__init__" = some (some (.ref fV))
  tV : PySem.W.typeIn K (.ref fV) = some (.type "function")
  fu : Fun K "__init__" "InvalidTravel.__init__" sIV fV fdV
  pI : PIn K mg "PassError" cP mp
/-- a tuple of whole numbers -/
def TiA (K : PySem.W.Frag) (H : Hp) (v : V) (ns : List Int) : Prop := ∃ a, v = .ref a ∧ SqT K H a (ns.map V.int)
theorem TiA.tk {K : PySem.W.Frag} {H H' : Hp} {v : V} {ns : List Int} (t : TK K H H') (h : TiA K H v ns) : TiA K H' v ns := by
  obtain ⟨a, e, h⟩ := h
  exact ⟨a, e, t _ _ h⟩
theorem mk2_in {K : PySem.W.Frag} {H1 : Hp} {Q : XK} {f g : Str} {y z : V} {c : Addr} (T : OexC K c) (n : PySem.W.findIn K (.ref c) f = some none) (n2 : PySem.W.findIn K (.ref c) g = some none) (h : ∀ d, H1 d = none → Q (.ref c) (some d) (upd H1 d (.xd [(g, z), (f, y)]))) :
    [y, z].length = 2 ∧ ∀ a, H1 a = none → spX2 K f g ([.ref a] ++ [y, z]) (upd H1 a (exo a c none)) (fun v H2 => v = .non ∧ ∃ (d : Addr) (fs : List (Str × V)), H2 a = some (exo a c (some d)) ∧ H2 d = some (exd d fs) ∧ H1 d = none ∧ Q (.ref c) (some d) (upd (del H2 a) d (.xd fs))) (fun _ _ _ => False) := by
  refine ⟨rfl, fun a ha => ⟨a, c, y, z, rfl, T, n, n2, upd_same, fun dx h1 h2 => ?_⟩⟩
  rw [upd_ne h2] at h1
  refine ⟨rfl, dx, _, by rw [upd_ne h2.symm, upd_same], upd_same, h1, ?_⟩
  have e : upd (del (upd (upd (upd (upd H1 a (exo a c none)) dx (exd dx [(f, y)])) a (exo a c (some dx))) dx (exd dx [(g, z), (f, y)])) a) dx (.xd [(g, z), (f, y)]) = upd H1 dx (.xd [(g, z), (f, y)]) := by
    funext b
    by_cases hb : b = dx
    · subst hb
      rw [upd_same, upd_same]
    · rw [upd_ne hb, upd_ne hb]
      by_cases hba : b = a
      · subst hba
        rw [del_same, ha]
      · rw [del_ne hba, upd_ne hb, upd_ne hba, upd_ne hb, upd_ne hba]
  rw [e]
  exact h dx h1
/-- the first of 0 .. n - 1 of which p holds -/
def first (p : Nat → Bool) (n : Nat) : Option Nat := (List.range n).find? p
theorem first_succ (p : Nat → Bool) (n : Nat) : first p (n + 1) = (first p n).or (if p n = true then some n else none) := by
  unfold first
  rw [List.range_succ, List.find?_append, List.find?_cons]
  cases p n <;> rfl
theorem first_none {p : Nat → Bool} : ∀ {n : Nat}, (∀ j, j < n → p j = false) → first p n = none
  | 0, _ => rfl
  | n + 1, h => by
    rw [first_succ, first_none fun j hj => h j (by omega), h n (by omega)]
    rfl
theorem first_at {p : Nat → Bool} {i : Nat} (hp : p i = true) (hb : ∀ j, j < i → p j = false) : ∀ {n : Nat}, i < n → first p n = some i
  | 0, h => absurd h (Nat.not_lt_zero _)
  | n + 1, h => by
    rw [first_succ]
    by_cases e : i < n
    · rw [first_at hp hb e]
      rfl
    · obtain rfl : i = n := by omega
      rw [first_none hb, hp]
      rfl
/-- what is wrong with the i-th number -/
def nbad (ns : List Int) (lg mo : Int) (i : Nat) : Bool := decide (V.int ((i : Nat) : Int) = V.int mo) || (!(decide (0 ≤ ns.getD i 0) && decide (ns.getD i 0 ≤ lg)) || (decide ((0 : Int) < (i : Nat)) && decide (ns.getD i 0 ≤ ns.getD (i - 1) 0)))
def vbad (ns : List Int) (lg mo : Int) : Option Nat := first (nbad ns lg mo) ns.length
def spVN (K : PySem.W.Frag) (cV : Addr) : Sp := fun vs H Q E => ∃ (pt : Str) (v : V) (ns : List Int) (lg mo : Int), vs = [.str pt, v, .int lg, .int mo] ∧ TiA K H v ns ∧ ns.length ≤ 1000 ∧ (vbad ns lg mo = none → ∀ H', Same H H' → Q .non H') ∧
  (∀ i d H', vbad ns lg mo = some i → Same H H' → H' d = some (.xd [("index", .int (i : Nat)), ("part", .str pt)]) → E (.ref cV) (some d) H')
section
variable {P : Program} {w : World} {K : PySem.W.Frag} {mg : Str → Option Value} {base : Heap} {cV cN cP fV : Addr} {fdV : FuncData} {mp : Value}
theorem ok_IV {k : Nat} (T : TEv K mg cV cP fV fdV mp) : FnOk P w K mg base CX0 (k + 1) fV fdV ["self", "part", "index"] (spX2 K "part" "index") := by
  refine T.fu.ok scIV (fun vs H Q E h => ?_) (fun cdv A outer s H vs Q E hr h => ?_)
  · obtain ⟨a, C', y, z, rfl, _⟩ := h
    rfl
  · obtain ⟨a, C', y, z, rfl, hx, hf, hg, ha, q⟩ := h
    refine ⟨_, pss_cons (ps_expr (pe_pinit (by rfl) T.pI.gB T.pI.rd T.pI.ga T.pI.at_ (pa_cons (pv 0) (pa_cons pe_str pa_nil)))) (pss_cons (ps_ost (pv 0) (pv 1)) (pss_one (ps_ost (pv 0) (pv 2)))), ?_⟩
    refine ⟨_, rfl, a, C', _, rfl, show 1 ≤ 1000 by decide, hx, ha, _, rfl, _, rfl, a, C', rfl, hx, hf, .inl ⟨ha, fun dx h1 h2 => ⟨_, rfl, _, rfl, a, C', rfl, hx, hg, .inr ⟨dx, [("part", y)], upd_same, by rw [upd_ne h2, upd_same], show 1 ≤ 900 by decide, ?_⟩⟩⟩⟩
    exact q dx h1 h2
theorem kb_IV (T : TEv K mg cV cP fV fdV mp) : KBn K fdV ["self", "part", "index"] 1 ["part", "index"] (fun us ws => us ++ ws) (fun vs zs => vs ++ zs) := by
  obtain ⟨oc, od, kV, doc, pm, an, cdv, ct, osl, rfl, lk, hcd⟩ := T.fu.ex
  refine ⟨fun s us ws _ h1 h2 => ?_, fun a b => a.append b⟩
  match us, ws, h1, h2 with
  | [u], [x, y], _, _ => exact .of_eq rfl
theorem ok_vn {f : Addr} {fd : FuncData} {k : Nat} (F : Fun K "validate_numbers" "validate_numbers" sVN f fd) (T : TEv K mg cV cP fV fdV mp) (mE : mg "enumerate" = none) : FnOk P w K mg base (L2.CX P w) (k + 4) f fd ["part", "numbers", "largest", "most"] (spVN K cV) := by
  have GI : FnOk P w K mg base CX0 1 fV fdV ["self", "part", "index"] (spX2 K "part" "index") := ok_IV T
  have kb := kb_IV T
  refine F.okX scVN (fun vs H Q E h => ?_) (fun cdv A outer s H vs Q E hr h => ?_)
  · obtain ⟨pt, v, ns, lg, mo, rfl, _⟩ := h
    rfl
  · obtain ⟨pt, v, ns, lg, mo, rfl, ⟨p, rfl, hp⟩, hlen, q1, q2⟩ := h
    refine ⟨_, pss_one (ps_for (passes_of rfl) rfl (pi_enumT (by rfl) mE (pa_cons (pv 1) pa_nil)) (pg_tup rfl (pgs_cons (pg_name (i := 4) scVN.nd rfl (.inl rfl)) (pgs_cons (pg_name (i := 5) scVN.nd rfl (.inl rfl)) pgs_nil)))
      (pss_one (ps_if (PW.pt (pw_or (pt_cmpR op_eq (pv 4) (pv 3) (nomark _)) (pw_or (pt_not (pt_chain op_le op_le pe_int (pv 5) (pv 2))) (pw_or1 (PW.pt (pw_and (pt_cmpR op_gt (pv 4) pe_int (nomark _)) (pw_and1 (pt_cmpR op_le (pv 5) (pe_ixt (pv 1) (pe_op op_sub (pv 4) pe_int)) (nomark _)))))))))
        (pss_one (ps_raise rfl (takes_of rfl rfl rfl rfl) (pmk_kw T.xV T.iV T.tV GI (hr.mono (by omega)) kb pass0 (by rfl) T.gV (pk_cons (pv 0) (pk_cons (pv 4) pk_nil))))) pss_nil))), ?_⟩
    have hll : (ns.map V.int).length = ns.length := List.length_map ..
    refine ⟨_, rfl, p, _, rfl, hp, for_rounds (I := IteT K p (ns.map V.int)) (ns.map V.int).length (fun i σ H' => ∃ v4 v5, σ = [some (.str pt), some (.ref p), some (.int lg), some (.int mo), v4, v5] ∧ Same H H' ∧ ∀ j, j < i → nbad ns lg mo j = false)
      ⟨none, none, rfl, Same.refl H, fun j hj => absurd hj (Nat.not_lt_zero _)⟩ ?_ ?_⟩
    · rintro i σ H' hi ⟨v4, v5, rfl, sm, hall⟩
      refine ⟨⟨hi, (TK.same sm) _ _ hp⟩, ?_⟩
      rintro y HT ⟨x, TT, hx, nT, rfl, rfl⟩
      rw [hll] at hi
      obtain rfl : x = .int ns[i] := by
        rw [List.getElem?_map, List.getElem?_eq_getElem hi] at hx
        exact (Option.some.inj hx).symm
      have sT : Same H' (upd H' TT (.tup [.int (i : Nat), .int ns[i]])) := same_new nT
      have hp2 := (TK.same (sm.trans sT)) _ _ hp
      have gi : ns.getD i 0 = ns[i] := by rw [List.getD_eq_getElem?_getD, List.getElem?_eq_getElem hi]; rfl
      refine ⟨TT, _, rfl, .of upd_same, rfl, _, _, rfl, _, _, rfl, rfl, ?_⟩
      refine s_when (b := nbad ns lg mo i) ?_ (fun hb H2 e2 => ?_) (fun hb H2 e2 => ⟨_, _, rfl, (sm.trans sT).trans e2, fun j hj => ?_⟩)
      · unfold nbad
        rw [gi]
        refine et_or (et_test (ev_op (ev_var rfl) (ev_var rfl) (rv_eq rfl))) fun _ => et_or (et_not (et_test (ev_chainI (p := fun i j => decide (i ≤ j)) (q := fun i j => decide (i ≤ j)) ev_c (ev_var rfl) (ev_var rfl)))) fun _ => et_and (et_test (ev_op (ev_var rfl) ev_c rv_I0)) fun h0 => ?_
        have h0' : 0 < i := by
          have := of_decide_eq_true h0
          omega
        have hi1 : i - 1 < ns.length := by omega
        have g1 : ns.getD (i - 1) 0 = ns[i - 1] := by rw [List.getD_eq_getElem?_getD, List.getElem?_eq_getElem hi1]; rfl
        rw [g1]
        have ha : atI (ns.map V.int) (((i : Nat) : Int) - 1) = some (.int ns[i - 1]) := by
          rw [show ((i : Nat) : Int) - 1 = ((i - 1 : Nat) : Int) by omega]
          refine at_nat (by rw [hll]; exact hi1) ?_
          rw [List.getElem?_map, List.getElem?_eq_getElem hi1]
          rfl
        exact et_test (ev_op (ev_var rfl) (ev_op (ev_var rfl) (ev_op (ev_var rfl) ev_c rv_I0) (rv_ixT hp2 ha)) rv_I0)
      · refine ⟨_, rfl, _, rfl, mk2_in T.xV T.nP T.nI fun d hd => q2 i d _ ?_ (((sm.trans sT).trans e2).trans (same_new hd)) upd_same⟩
        exact first_at hb hall hi
      · by_cases hji : j < i
        · exact hall j hji
        · obtain rfl : j = i := by omega
          exact hb
    · rintro σ H' ⟨v4, v5, rfl, sm, hall⟩
      refine ⟨⟨rfl, (TK.same sm) _ _ hp⟩, ?_⟩
      rw [hll] at hall
      exact q1 (first_none hall) H' sm
end
def Good (ns : List Int) (lg : Int) : Prop := ∀ j, j < ns.length → 0 ≤ ns.getD j 0 ∧ ns.getD j 0 ≤ lg ∧ (0 < j → ns.getD (j - 1) 0 < ns.getD j 0)
theorem Good.mono {ns : List Int} {l m : Int} (h : Good ns l) (e : l ≤ m) : Good ns m := fun j hj => ⟨(h j hj).1, Int.le_trans (h j hj).2.1 e, (h j hj).2.2⟩
theorem getD_app1 {ns : List Int} {x : Int} {j : Nat} (h : j < ns.length) : (ns ++ [x]).getD j 0 = ns.getD j 0 := by
  rw [List.getD_eq_getElem?_getD, List.getD_eq_getElem?_getD, List.getElem?_append_left h]
theorem getD_app2 {ns : List Int} {x : Int} : (ns ++ [x]).getD ns.length 0 = x := by
  rw [List.getD_eq_getElem?_getD, List.getElem?_append_right (Nat.le_refl _), Nat.sub_self]
  rfl
theorem Good.snoc {ns : List Int} {x : Int} (h : Good ns (x - 1)) (h0 : 0 ≤ x) : Good (ns ++ [x]) x := fun j hj => by
  rw [List.length_append, List.length_singleton] at hj
  by_cases e : j < ns.length
  · rw [getD_app1 e]
    obtain ⟨a, b, c⟩ := h j e
    refine ⟨a, by omega, fun hp => ?_⟩
    rw [getD_app1 (by omega)]
    exact c hp
  · obtain rfl : j = ns.length := by omega
    rw [getD_app2]
    refine ⟨h0, Int.le_refl _, fun hp => ?_⟩
    rw [getD_app1 (by omega)]
    have := (h (ns.length - 1) (by omega)).2.1
    omega
theorem vbad_good {ns : List Int} {lg mo : Int} (h : Good ns lg) (hl : (ns.length : Int) ≤ mo) : vbad ns lg mo = none := first_none fun j hj => by
  obtain ⟨a, b, c⟩ := h j hj
  unfold nbad
  rw [decide_eq_true a, decide_eq_true b, show decide (V.int ((j : Nat) : Int) = V.int mo) = false from by rw [dec_int]; simp; omega]
  by_cases hp : 0 < j
  · have := c hp
    rw [show decide (ns.getD j 0 ≤ ns.getD (j - 1) 0) = false from decide_eq_false (by omega)]
    simp
  · rw [show decide ((0 : Int) < (j : Nat)) = false from decide_eq_false (by omega)]
    rfl
theorem scTvI : FnScope ["self", "length", "days", "exceptions"] ["self", "length", "days", "exceptions"] (defScope sTvI) := ⟨rfl, rfl, rfl, by decide +kernel, rfl, by decide +kernel, by decide +kernel⟩
/-- what is wrong with a travel -/
def tbad (ln : Int) (ds os : List Int) : Option (Str × Nat) :=
  if 1 ≤ ln ∧ ln ≤ 14 then (match vbad ds (ln - 1) 14 with
    | some i => some ("days", i)
    | none => match vbad os 1000000000000000000 6 with
      | some i => some ("exceptions", i)
      | none => none) else some ("length", 0)
/-- the travel's class and its constants -/
structure TTv (K : PySem.W.Frag) (mg : Str → Option Value) (C fVN : Addr) (dVN : FuncData) : Prop where
  cl : Cls K C
  nS : NoAttr K C "size"
  nP : NoAttr K C "pattern"
  nO : NoAttr K C "odd_days"
  gC : mg "Travel" = some (.ref C)
  mR : ∃ u, mg "MAX_ROUND" = some u ∧ RelV (.int 14) u
  mX : ∃ u, mg "MAX_EXCEPTIONS" = some u ∧ RelV (.int 6) u
  mD : ∃ u, mg "MAX_DAYS" = some u ∧ RelV (.int 1000000000000000000) u
  mE : mg "enumerate" = none
  gVN : mg "validate_numbers" = some (.ref fVN)
  kVN : PySem.W.keepIn K (.ref fVN) = true
  uVN : Fun K "validate_numbers" "validate_numbers" sVN fVN dVN
theorem TTv.bVN {K : PySem.W.Frag} {mg : Str → Option Value} {C fVN : Addr} {dVN : FuncData} (T : TTv K mg C fVN dVN) : Binds K dVN ["part", "numbers", "largest", "most"] [] := T.uVN.binds (ps := ["part", "numbers", "largest", "most"]) fun _ _ _ _ _ _ us hl => match us, hl with | [_, _, _, _], _ => rfl
theorem putF_len (f : Str) (v : V) : ∀ fs : List (Str × V), (putF f v fs).length ≤ fs.length + 1
  | [] => Nat.le_refl _
  | (g, u) :: r => by
    show (if g = f then (g, v) :: r else (g, u) :: putF f v r).length ≤ r.length + 1 + 1
    by_cases e : g = f
    · rw [if_pos e]
      exact Nat.le_succ _
    · rw [if_neg e]
      exact Nat.succ_le_succ (putF_len f v r)
/-- the fields of a travel -/
abbrev tvF (ln : Int) (d o : V) : List (Str × V) := putF "odd_days" o (putF "pattern" d (putF "size" (.int ln) []))
def spTvI (K : PySem.W.Frag) (C cV : Addr) : Sp := fun vs H Q E => ∃ (a dx : Addr) (ln : Int) (d o : V) (ds os : List Int), vs = [.ref a, .int ln, d, o] ∧ H a = some (.ins C dx []) ∧ TiA K H d ds ∧ TiA K H o os ∧ ds.length ≤ 1000 ∧ os.length ≤ 1000 ∧
  (tbad ln ds os = none → ∀ H', (∀ b o, H b = some o → b ≠ a → H' b = some o) → H' a = some (.ins C dx (tvF ln d o)) → Q .non H') ∧
  (∀ pt i dd H', tbad ln ds os = some (pt, i) → Same H H' → H' dd = some (.xd [("index", .int (i : Nat)), ("part", .str pt)]) → E (.ref cV) (some dd) H')
section
variable {P : Program} {w : World} {K : PySem.W.Frag} {mg : Str → Option Value} {base : Heap} {cV cP fV C fVN : Addr} {fdV dVN : FuncData} {mp : Value}
theorem ok_tvI {f : Addr} {fd : FuncData} (F : Fun K "__init__" "Travel.__init__" sTvI f fd) (T : TEv K mg cV cP fV fdV mp) (W : TTv K mg C fVN dVN) : FnOk P w K mg base (L2.CX P w) 5 f fd ["self", "length", "days", "exceptions"] (spTvI K C cV) := by
  have GI : FnOk P w K mg base CX0 1 fV fdV ["self", "part", "index"] (spX2 K "part" "index") := ok_IV T
  have kb := kb_IV T
  refine F.okX scTvI (fun vs H Q E h => ?_) (fun cdv A outer s H vs Q E hr h => ?_)
  · obtain ⟨a, dx, ln, d, o, ds, os, rfl, _⟩ := h
    rfl
  · obtain ⟨a, dx, ln, d, o, ds, os, rfl, ha, hd, ho, ld, lo, q1, q2⟩ := h
    have PX : Passes (L2.CX P w) (cxOf (L2.CX P w) P w K mg base ["self", "length", "days", "exceptions"] "Travel.__init__" (defScope sTvI) f cdv A outer s H E) E := passes_call (takes_of rfl rfl rfl rfl) (fun _ _ _ _ h => h)
    have G : FnOk P w K mg base (L2.CX P w) 4 fVN dVN ["part", "numbers", "largest", "most"] (spVN K cV) := ok_vn (k := 0) W.uVN T W.mE
    refine ⟨_, pss_cons (ps_if (pt_not (pt_chain op_le op_le pe_int (pv 1) (C8.pe_gc (by rfl) W.mR))) (pss_one (ps_raise rfl (takes_of rfl rfl rfl rfl) (pmk_kw T.xV T.iV T.tV GI (hr.mono (by omega)) kb pass0 (by rfl) T.gV (pk_cons pe_str (pk_cons pe_int pk_nil))))) pss_nil)
      (pss_cons (ps_expr (pe_call (E := E) G hr (by rfl) W.gVN W.kVN W.bVN .nil PX (pa_cons pe_str (pa_cons (pv 2) (pa_cons (pe_op op_sub (pv 1) pe_int) (pa_cons (C8.pe_gc (by rfl) W.mR) pa_nil))))))
      (pss_cons (ps_expr (pe_call (E := E) G hr (by rfl) W.gVN W.kVN W.bVN .nil PX (pa_cons pe_str (pa_cons (pv 3) (pa_cons (C8.pe_gc (by rfl) W.mD) (pa_cons (C8.pe_gc (by rfl) W.mX) pa_nil))))))
      (pss_cons (ps_fld (pv 0) (pv 1) rfl) (pss_cons (ps_fld (pv 0) (pv 2) rfl) (pss_one (ps_fld (pv 0) (pv 3) rfl)))))), ?_⟩
    refine q_when (b := !(decide (1 ≤ ln) && decide (ln ≤ 14))) (et_not (et_test (ev_chainI (p := fun i j => decide (i ≤ j)) (q := fun i j => decide (i ≤ j)) ev_c (ev_var rfl) ev_c))) (fun hb H1 e1 => ?_) (fun hb H1 e1 => ?_)
    · refine mk2_in T.xV T.nP T.nI fun dd hdd => q2 "length" 0 dd _ ?_ (Same.trans e1 (same_new hdd)) upd_same
      unfold tbad
      rw [if_neg fun hc => by
        rw [decide_eq_true hc.1, decide_eq_true hc.2] at hb
        cases hb]
    · have hc : 1 ≤ ln ∧ ln ≤ 14 := by
        have : (decide (1 ≤ ln) && decide (ln ≤ 14)) = true := by
          cases h : (decide (1 ≤ ln) && decide (ln ≤ 14)) with
          | true => rfl
          | false =>
            rw [h] at hb
            cases hb
        rw [Bool.and_eq_true] at this
        exact ⟨of_decide_eq_true this.1, of_decide_eq_true this.2⟩
      have hd1 := hd.tk (.same e1)
      refine ⟨_, rfl, _, rfl, _, _, rfl, rfl, "days", d, ds, ln - 1, 14, rfl, hd1, ld, fun hv H2 s2 => ?_, fun i dd H2 hv s2 hx => q2 "days" i dd H2 ?_ (Same.trans e1 s2) hx⟩
      · have ho2 := (ho.tk (.same e1)).tk (.same s2)
        refine ⟨_, rfl, "exceptions", o, os, 1000000000000000000, 6, rfl, ho2, lo, fun hv2 H3 s3 => ?_, fun i dd H3 hv2 s3 hx => q2 "exceptions" i dd H3 ?_ (Same.trans (Same.trans e1 s2) s3) hx⟩
        · have ha3 := s3 _ _ (s2 _ _ (e1 _ _ ha))
          refine ⟨_, rfl, _, rfl, a, C, dx, [], rfl, ha3, W.cl, W.nS, by decide, ?_⟩
          refine ⟨_, rfl, _, rfl, a, C, dx, _, rfl, upd_same, W.cl, W.nP, (show 1 < 1000 by decide), ?_⟩
          refine ⟨_, rfl, _, rfl, a, C, dx, _, rfl, upd_same, W.cl, W.nO, Nat.lt_of_le_of_lt (putF_len _ _ _) (show 2 < 1000 by decide), ?_⟩
          refine q1 ?_ _ (fun b x e n => ?_) upd_same
          · unfold tbad
            rw [if_pos hc, hv, hv2]
          · rw [upd_ne n, upd_ne n, upd_ne n]
            exact s3 _ _ (s2 _ _ (e1 _ _ e))
        · unfold tbad
          rw [if_pos hc, hv, hv2]
      · unfold tbad
        rw [if_pos hc, hv]
end
theorem tvF_size (ln : Int) (d o : V) : (tvF ln d o).lookup ("size" : Str) = some (.int ln) := by
  unfold tvF
  rw [lookup_putF, if_neg (by decide +kernel), lookup_putF, if_neg (by decide +kernel), lookup_putF, if_pos rfl]
theorem tvF_pat (ln : Int) (d o : V) : (tvF ln d o).lookup ("pattern" : Str) = some d := by
  unfold tvF
  rw [lookup_putF, if_neg (by decide +kernel), lookup_putF, if_pos rfl]
theorem tvF_odd (ln : Int) (d o : V) : (tvF ln d o).lookup ("odd_days" : Str) = some o := by
  unfold tvF
  rw [lookup_putF, if_pos rfl]
theorem tvF_no (ln : Int) (d o : V) {m : Str} (h1 : ¬ m = "odd_days") (h2 : ¬ m = "pattern") (h3 : ¬ m = "size") : (tvF ln d o).lookup m = none := by
  unfold tvF
  rw [lookup_putF, if_neg h1, lookup_putF, if_neg h2, lookup_putF, if_neg h3]
  rfl
def Tv (K : PySem.W.Frag) (C : Addr) (H : Hp) (a : Addr) (ln : Int) (d o : V) (ds os : List Int) : Prop := (∃ dx, H a = some (.ins C dx (tvF ln d o))) ∧ TiA K H d ds ∧ TiA K H o os
theorem Tv.same {K : PySem.W.Frag} {C : Addr} {H H' : Hp} {a : Addr} {ln : Int} {d o : V} {ds os : List Int} (t : Tv K C H a ln d o ds os) (s : Same H H') : Tv K C H' a ln d o ds os := by
  obtain ⟨⟨dx, h⟩, h1, h2⟩ := t
  exact ⟨⟨dx, s _ _ h⟩, h1.tk (.same s), h2.tk (.same s)⟩
end Sea

set_option Elab.async false
set_option linter.all false
set_option maxRecDepth 100000
set_option maxHeartbeats 4000000
namespace Sea
open PySem PySem.Spec PyProof.Rows L2 LamX NdefX ClX Evl StX
structure TDn (K : PySem.W.Frag) (mg : Str → Option Value) (fD : Addr) (fdD : FuncData) : Prop where
  g : mg "_law_drawn" = some (.ref fD)
  kp : PySem.W.keepIn K (.ref fD) = true
  fu : Fun K "_law_drawn" "_law_drawn" sDrawn fD fdD
  mN : mg "len" = none
theorem TDn.b {K : PySem.W.Frag} {mg : Str → Option Value} {fD : Addr} {fdD : FuncData} (T : TDn K mg fD fdD) : Binds K fdD ["_law_state", "_law_count"] [] := T.fu.binds (ps := ["_law_state", "_law_count"]) fun _ _ _ _ _ _ us hl => match us, hl with | [_, _], _ => rfl
section
variable {X : Cx} {a b : Expr} {ta tb : TE} {p pos : Pos} {fD : Addr} {fdD : FuncData}
/-- _law_drawn(a, b) -/
theorem pe_dr {K : PySem.W.Frag} (T : TDn K X.mg fD fdD) (hr : Room 1 X.A) (hg : Gl X "_law_drawn") (ha : PE X a ta) (hb : PE X b tb) (he : starEach (a :: [b]) X.env = (false, eval a X.env) :: starEach [b] X.env := by rfl) (he2 : starEach (b :: []) X.env = (false, eval b X.env) :: starEach [] X.env := by rfl) (hpl : (backTo pos (starEach [b] X.env)).any (·.1) = false := by rfl) (hK : X.K = K := by rfl) :
    PE X (.Call (.Name "_law_drawn" p) [a, b] [] pos) (tCall (spDrawn K) [] E0 (tCons ta (tCons tb tNil))) := by
  subst hK
  exact pe_call (ok_drawn (k := 0) T.fu T.mN) hr hg T.g T.kp T.b .nil pass0 (pa_cons ha (pa_cons hb pa_nil he2) he) (by decide) he hpl
end
/-! ### expressions that draw -/
def EvS (K : PySem.W.Frag) (te : TE) (σ : L2.St) (H : Hp) (h c : Addr) (P : Int → Prop) : Prop := ∀ H1, Kh h H H1 → Ds K H1 h c → ∀ Q : VK, (∀ v H2, P v → Ds K H2 h c → Kh h H1 H2 → Q (.int v) H2) → te σ H1 Q
section
variable {K : PySem.W.Frag} {te ta tb tl : TE} {σ : L2.St} {H : Hp} {h c : Addr} {P P1 P2 : Int → Prop}
theorem es_of {k : Int} (e : ∀ H1, Kh h H H1 → Ev te σ H1 (.int k)) : EvS K te σ H h c (fun v => v = k) := fun H1 k1 d Q q => e H1 k1 H1 (Ex.refl _) _ fun H2 e2 => q k H2 rfl (d.same e2) (Kh.same e2)
theorem es_c {k : Int} : EvS K (tC (.int k)) σ H h c (fun v => v = k) := es_of fun _ _ => ev_c
theorem es_var {i : Nat} {k : Int} (hs : σ[i]? = some (some (.int k))) : EvS K (tVar i) σ H h c (fun v => v = k) := es_of fun _ _ => ev_var hs
theorem EvS.imp (e : EvS K te σ H h c P1) (i : ∀ v, P1 v → P2 v) : EvS K te σ H h c P2 := fun H1 k1 d Q q => e H1 k1 d Q fun v H2 hv => q v H2 (i v hv)
theorem EvS.later {H' : Hp} (e : EvS K te σ H h c P) (k : Kh h H H') : EvS K te σ H' h c P := fun H1 k1 d Q q => e H1 (k.trans k1) d Q q
theorem es_add (ea : EvS K ta σ H h c P1) (eb : EvS K tb σ H h c P2) : EvS K (tOp rAd ta tb) σ H h c (fun v => ∃ x y, P1 x ∧ P2 y ∧ v = x + y) := fun H1 k1 d Q q =>
  ea H1 k1 d _ fun x H2 px d2 k2 => eb H2 (k1.trans k2) d2 _ fun y H3 py d3 k3 => ⟨x, y, rfl, rfl, q _ H3 ⟨x, y, px, py, rfl⟩ d3 (k2.trans k3)⟩
theorem es_dr {i : Nat} (hs : σ[i]? = some (some (.ref h))) (eb : EvS K tb σ H h c P1) (ok : ∀ m, P1 m → 0 < m ∧ m.natAbs.log2 < 9000 ∧ ∀ v, 0 ≤ v → v < m → P v) : EvS K (tCall (spDrawn K) [] E0 (tCons (tVar i) (tCons tb tNil))) σ H h c P := fun H1 k1 d Q q =>
  ⟨_, hs, eb H1 k1 d _ fun m H2 pm d2 k2 => ⟨h, c, m, rfl, (ok m pm).1, (ok m pm).2.1, d2, fun v H3 v0 v1 d3 k3 => q v H3 ((ok m pm).2.2 v v0 v1) d3 (k2.trans k3)⟩⟩
theorem es_pick {xs : List Int} (el : ∀ H1, EvL tl σ H1 (xs.map V.int)) (eb : EvS K tb σ H h c (fun v => 0 ≤ v ∧ v < xs.length)) : EvS K (tOp (rIxL K) tl tb) σ H h c (fun v => v ∈ xs) := fun H1 k1 d Q q =>
  el H1 H1 (Ex.refl _) _ fun p H2 np e2 hp => eb H2 (k1.trans (Kh.same e2)) (d.same e2) _ fun v H3 hv d3 k3 => by
    obtain ⟨j, rfl⟩ := Int.eq_ofNat_of_zero_le hv.1
    have hj : j < xs.length := by omega
    have at_ : (xs.map V.int)[j]? = some (.int xs[j]) := by
      rw [List.getElem?_map, List.getElem?_eq_getElem hj]
      rfl
    exact ⟨p, _, _, _, rfl, rfl, .of (k3 _ _ hp ((d.nh np))), at_nat (by rw [List.length_map]; exact hj) at_, q _ H3 (List.getElem_mem hj) d3 ((Kh.same e2).trans k3)⟩
/-- a draw below a number of a small table, itself drawn -/
theorem es_tab {i : Nat} {a b d : Int} (hs : σ[i]? = some (some (.ref h))) (el : ∀ H1, EvL tl σ H1 ([a, b, d].map V.int)) (ok : ∀ m, m = a ∨ m = b ∨ m = d → 0 < m ∧ m.natAbs.log2 < 9000 ∧ ∀ v, 0 ≤ v → v < m → P v) :
    EvS K (tCall (spDrawn K) [] E0 (tCons (tVar i) (tCons (tOp (rIxL K) tl (tCall (spDrawn K) [] E0 (tCons (tVar i) (tCons (tC (.int 3)) tNil)))) tNil))) σ H h c P :=
  es_dr hs (es_pick el (es_dr hs es_c fun m e => by
    subst e
    exact ⟨by decide, by decide +kernel, fun v v0 v1 => ⟨v0, v1⟩⟩)) fun m hm => ok m (by simpa using hm)
end
abbrev NPa : List Str := ["_law_state", "_law_most", "_law_result", "_law_k", "_law_length"]
theorem scPas : FnScope NPa ["_law_state", "_law_most"] (defScope sPas) := ⟨rfl, rfl, rfl, by decide +kernel, rfl, by decide +kernel, by decide +kernel⟩
def spPas (K : PySem.W.Frag) : Sp := fun vs H Q _ => ∃ (h c : Addr) (m : Int), vs = [.ref h, .int m] ∧ 0 < m ∧ m ≤ 100 ∧ Ds K H h c ∧
  ∀ l vs L H', Ds K H' h c → Kh h H H' → H l = none → H' l = some (.lst vs) → PsV K H' vs L → 1 ≤ L.length → (L.length : Int) ≤ m → (∀ x ∈ L, okP x = true) → Q (.ref l) H'
section
variable {P : Program} {w : World} {K : PySem.W.Frag} {mg : Str → Option Value} {base : Heap} {fD : Addr} {fdD : FuncData}
theorem ok_pas {f : Addr} {fd : FuncData} {k : Nat} (F : Fun K "_law_passes" "_law_passes" sPas f fd) (T : TDn K mg fD fdD) (mR : mg "range" = none) : FnOk P w K mg base CX0 (k + 2) f fd ["_law_state", "_law_most"] (spPas K) := by
  refine F.ok scPas (fun vs H Q E h => ?_) (fun cdv A outer s H vs Q E hr h => ?_)
  · obtain ⟨h, c, m, rfl, _⟩ := h
    rfl
  · obtain ⟨h, c, m, rfl, m0, m1, d, q⟩ := h
    have h1 := hr.mono (show 1 ≤ k + 1 by omega)
    refine ⟨_, pss_cons (ps_set (i := 2) scPas.nd rfl (.inl rfl) (pe_lst pa_nil))
      (pss_cons (ps_for PassesOwn.never rfl (pi_range1 (by rfl) mR (pa_cons (pe_op op_add pe_int (pe_dr T h1 (by rfl) (pv 0) (pv 1))) pa_nil)) (pg_name (i := 3) scPas.nd rfl (.inl rfl))
        (pss_cons (ps_set (i := 4) scPas.nd rfl (.inl rfl) (pe_op op_add pe_int (pe_dr T h1 (by rfl) (pv 0) (pe_ixl (pe_lst (pa_cons pe_int (pa_cons pe_int (pa_cons pe_int pa_nil)))) (pe_dr T h1 (by rfl) (pv 0) pe_int)))))
        (pss_one (ps_expr (pe_bm PySem.F.plainAttrs_list PySem.F.slot_list_append PySem.F.type_list_append mt_append (pv 2) (pa_cons (pe_tup (pa_cons (pv 4) (pa_cons (pe_op op_add pe_int (pe_dr T h1 (by rfl) (pv 0) (pe_ixl (pe_lst (pa_cons pe_int (pa_cons pe_int (pa_cons (pe_op op_pow pe_int pe_int) pa_nil)))) (pe_dr T h1 (by rfl) (pv 0) pe_int)))) pa_nil))) pa_nil))))))
      (pss_one (ps_ret (pv 2)))), ?_⟩
    refine q_asgL (el_lst ea_nil (by decide)) fun l H1 nl e1 hl => ?_
    have d1 := d.same e1
    have nlh : l ≠ h := d.nh nl
    have eN : EvS K (tOp rAd (tC (.int 1)) (tCall (spDrawn K) [] E0 (tCons (tVar 0) (tCons (tVar 1) tNil)))) [some (.ref h), some (.int m), some (.ref l), none, none] H1 h c (fun v => 1 ≤ v ∧ v ≤ m) :=
      (es_add es_c (es_dr (P := fun v => 0 ≤ v ∧ v < m) rfl (es_var rfl) fun x e => by
        subst e
        exact ⟨m0, Nat.lt_of_le_of_lt (Nat.log2_le_self _) (by omega), fun v v0 v1 => ⟨v0, v1⟩⟩)).imp fun v ⟨x, y, hx, hy, e⟩ => by omega
    refine eN H1 Kh.refl d1 _ fun n H2 hn d2 k2 => ⟨n, rfl, by omega, by omega, for_range (lo := 0) (n := n.toNat) (fun i σ' H' => (∃ v3 v4 vs L, σ' = [some (.ref h), some (.int m), some (.ref l), v3, v4] ∧ H' l = some (.lst vs) ∧ PsV K H' vs L ∧ L.length = i ∧ (∀ x ∈ L, okP x = true)) ∧ Ds K H' h c ∧ Kh h H H') ?_ ?_ ?_⟩
    · exact ⟨⟨none, none, [], [], rfl, k2 _ _ hl nlh, .nil, rfl, fun x hx => nomatch hx⟩, d2, (Kh.same e1).trans k2⟩
    · rintro i σ' H' hi ⟨⟨v3, v4, vs, L, rfl, hl', hps, hL, good⟩, d', kk⟩
      have eA : EvS K (tOp rAd (tC (.int 1)) (tCall (spDrawn K) [] E0 (tCons (tVar 0) (tCons (tOp (rIxL K) (tLst (tCons (tC (.int 4)) (tCons (tC (.int 10)) (tCons (tC (.int 28)) tNil)))) (tCall (spDrawn K) [] E0 (tCons (tVar 0) (tCons (tC (.int 3)) tNil)))) tNil)))) [some (.ref h), some (.int m), some (.ref l), some (.int (0 + (i : Int))), v4] H' h c (fun v => 1 ≤ v ∧ v ≤ 28) :=
        (es_add es_c (es_tab (a := 4) (b := 10) (d := 28) (P := fun v => 0 ≤ v ∧ v < 28) rfl (fun _ => el_lst (ea_cons ev_c (ea_cons ev_c (ea_cons ev_c ea_nil))) (show 3 ≤ 100000 by decide)) fun x e => ⟨by omega, by rcases e with rfl | rfl | rfl <;> decide +kernel, fun v v0 v1 => ⟨v0, by omega⟩⟩)).imp fun v ⟨x, y, hx, hy, e⟩ => by omega
      refine eA H' Kh.refl d' _ fun ln H3 hln d3 k3 => ?_
      refine ⟨_, rfl, .inl ⟨rfl, vs, .of (k3 _ _ hl' nlh)⟩, _, rfl, ?_⟩
      have eB : EvS K (tOp rAd (tC (.int 1)) (tCall (spDrawn K) [] E0 (tCons (tVar 0) (tCons (tOp (rIxL K) (tLst (tCons (tC (.int 5)) (tCons (tC (.int 30)) (tCons (tOp rPw (tC (.int 10)) (tC (.int 6))) tNil)))) (tCall (spDrawn K) [] E0 (tCons (tVar 0) (tCons (tC (.int 3)) tNil)))) tNil)))) [some (.ref h), some (.int m), some (.ref l), some (.int (0 + (i : Int))), some (.int ln)] H3 h c (fun v => 1 ≤ v ∧ v ≤ 1000000) :=
        (es_add es_c (es_tab (a := 5) (b := 30) (d := 1000000) (P := fun v => 0 ≤ v ∧ v < 1000000) rfl (fun _ => el_lst (ea_cons ev_c (ea_cons ev_c (ea_cons (ev_pw ev_c ev_c ⟨by decide, by decide, by decide⟩) ea_nil))) (show 3 ≤ 100000 by decide)) fun x e => ⟨by omega, by rcases e with rfl | rfl | rfl <;> decide +kernel, fun v v0 v1 => ⟨v0, by omega⟩⟩)).imp fun v ⟨x, y, hx, hy, e⟩ => by omega
      refine eB H3 Kh.refl d3 _ fun pr H4 hpr d4 k4 => ⟨Nat.le_of_lt (small1000 (show 2 ≤ 1000 by decide)), fun p np => ?_⟩
      have hl4 : H4 l = some (.lst vs) := k4 _ _ (k3 _ _ hl' nlh) nlh
      have hl5 : upd H4 p (.tup [.int ln, .int pr]) l = some (.lst vs) := by
        rw [upd_ne (ne_of_none hl4 np)]
        exact hl4
      have len : vs.length = L.length := hps.len
      refine ⟨l, vs, .ref p, rfl, rfl, hl5, small1000 (by omega), ?_⟩
      have pl : p ≠ l := (ne_of_none hl4 np).symm
      have ph : p ≠ h := d4.nh np
      have k6 : TK K (upd H4 p (.tup [.int ln, .int pr])) (upd (upd H4 p (.tup [.int ln, .int pr])) l (.lst (vs ++ [.ref p]))) := .but (fun b => b = l) (fun b o e n => by rw [upd_ne n]; exact e) fun b xs z => by
        rw [z]
        exact Rd.lst_no hl5
      have kall : Kh h H (upd (upd H4 p (.tup [.int ln, .int pr])) l (.lst (vs ++ [.ref p]))) := fun b o e n => by
        rw [upd_ne (ne_of_none e nl)]
        exact same_new np _ _ (k4 _ _ (k3 _ _ (kk _ _ e n) n) n)
      refine ⟨⟨_, _, vs ++ [.ref p], L ++ [(ln, pr)], rfl, upd_same, PsV.app (((hps.tk (d'.tk (k3.trans k4))).tk (TK.new np)).tk k6) (.cons ⟨p, rfl, .of (by rw [upd_ne pl, upd_same])⟩ .nil), by rw [List.length_append, hL]; rfl, fun x hx => ?_⟩, d.put kall (d4.new np) nlh, kall⟩
      · rcases List.mem_append.mp hx with hx | hx
        · exact good x hx
        · rw [List.mem_singleton.mp hx]
          unfold okP
          rw [decide_eq_true hln.1, decide_eq_true hln.2, decide_eq_true hpr.1, decide_eq_true hpr.2]
          rfl
    · rintro σ' H' ⟨⟨v3, v4, vs, L, rfl, hl', hps, hL, good⟩, d', kk⟩
      exact ⟨_, rfl, q l vs L H' d' kk nl hl' hps (by omega) (by omega) good⟩
end
end Sea

set_option Elab.async false
set_option linter.all false
set_option maxRecDepth 100000
set_option maxHeartbeats 4000000
namespace Sea
open PySem PySem.Spec PyProof.Rows L2 LamX NdefX ClX Evl StX
abbrev NDy : List Str := ["_law_state", "_law_length", "_law_dense", "_law_date"]
theorem scDay : FnScope NDy ["_law_state"] (defScope sDay) := ⟨rfl, rfl, rfl, by decide +kernel, rfl, by decide +kernel, by decide +kernel⟩
/-- a pair of a round's length and its travel days -/
def PtA (K : PySem.W.Frag) (H : Hp) (v : V) (ln : Int) (ds : List Int) : Prop := ∃ a d, v = .ref a ∧ SqT K H a [.int ln, d] ∧ TiA K H d ds
def spDay (K : PySem.W.Frag) : Sp := fun vs H Q _ => ∃ (h c : Addr), vs = [.ref h] ∧ Ds K H h c ∧ ∀ (v : V) (ln : Int) (ds : List Int) (H' : Hp), PtA K H' v ln ds → 1 ≤ ln → ln ≤ 14 → Good ds (ln - 1) → (ds.length : Int) ≤ ln → Ds K H' h c → Kh h H H' → Q v H'
section
variable {P : Program} {w : World} {K : PySem.W.Frag} {mg : Str → Option Value} {base : Heap} {fD : Addr} {fdD : FuncData}
theorem ok_day {f : Addr} {fd : FuncData} {k : Nat} (F : Fun K "_law_days" "_law_days" sDay f fd) (T : TDn K mg fD fdD) (mR : mg "range" = none) (mT : mg "tuple" = none) : FnOk P w K mg base CX0 (k + 2) f fd ["_law_state"] (spDay K) := by
  refine F.ok scDay (fun vs H Q E h => ?_) (fun cdv A outer s H vs Q E hr h => ?_)
  · obtain ⟨h, c, rfl, _⟩ := h
    rfl
  · obtain ⟨h, c, rfl, d, q⟩ := h
    have h1 := hr.mono (show 1 ≤ k + 1 by omega)
    have ltb : ∀ {n : Nat}, n ≤ 1000 → n ≤ sizeLine := fun h => Nat.le_of_lt (small1000 h)
    refine ⟨_, pss_cons (ps_asg (pe_tup (pa_cons (pe_op op_add pe_int (pe_dr T h1 (by rfl) (pv 0) pe_int)) (pa_cons (pe_op op_add pe_int (pe_dr T h1 (by rfl) (pv 0) pe_int)) pa_nil))) (pg_tup rfl (pgs_cons (pg_name (i := 1) scDay.nd rfl (.inl rfl)) (pgs_cons (pg_name (i := 2) scDay.nd rfl (.inr rfl)) pgs_nil))))
      (pss_one (ps_ret (pe_tup (pa_cons (pv 1) (pa_cons (pe_callTy call_tuple_of (by rfl) mT (by rfl) (pa_cons (pe_lc (own := [("_law_date", 3)]) (g := gName 3) (by rfl) scDay.nd (pi_range1 (by rfl) mR (pa_cons (pv 1) pa_nil))
        (blkOk_by (own := [("_law_date", 3)]) (N := NDy) (sc := defScope sDay) (by decide +kernel)) (fun _ _ _ _ _ => pg_name (i := 3) scDay.nd rfl (Or.inl rfl))
        (fun _ _ _ _ _ => pts_one (pt_cmpR L2.op_le (pe_dr T h1 (by rfl) (pv 0) pe_int) (pv 2) (nomark _))) (fun _ _ _ _ _ => pv 3)) pa_nil)) pa_nil))))), ?_⟩
    have one : ∀ {σ : L2.St} {H0 : Hp} {m : Int}, 0 < m → m ≤ 100 → σ[0]? = some (some (.ref h)) → EvS K (tOp rAd (tC (.int 1)) (tCall (spDrawn K) [] E0 (tCons (tVar 0) (tCons (tC (.int m)) tNil)))) σ H0 h c (fun v => 1 ≤ v ∧ v ≤ m) := fun {σ H0 m} m0 m1 hs =>
      (es_add es_c (es_dr (P := fun v => 0 ≤ v ∧ v < m) hs es_c fun x e => by
        subst e
        exact ⟨m0, Nat.lt_of_le_of_lt (Nat.log2_le_self _) (by omega), fun v v0 v1 => ⟨v0, v1⟩⟩)).imp fun v ⟨x, y, hx, hy, e⟩ => by omega
    refine one (m := 14) (by decide) (by decide) rfl H Kh.refl d _ fun ln H1 hl d1 k1 => one (m := 4) (by decide) (by decide) rfl H1 Kh.refl d1 _ fun de H2' hd d2' k2' => ⟨ltb (show 2 ≤ 1000 by decide), fun tp ntp => ⟨tp, _, rfl, .of upd_same, rfl, _, _, rfl, _, _, rfl, rfl, ?_⟩⟩
    generalize hH2 : upd H2' tp (.tup [.int ln, .int de]) = H2
    have d2 : Ds K H2 h c := hH2 ▸ d2'.new ntp
    have k2 : Kh h H1 H2 := hH2 ▸ k2'.trans (Kh.same (same_new ntp))
    refine ⟨_, rfl, _, rfl, ln, rfl, by omega, by omega, fun D nD => ?_⟩
    have n1 := d2.nh nD
    refine lc_range (lo := 0) (n := ln.toNat) (fun i H' => ∃ ds : List Int, Ds K H' h c ∧ Kh h H2 H' ∧ H' D = some (.lst (ds.map V.int)) ∧ Good ds ((i : Nat) - 1) ∧ ds.length ≤ i) ⟨[], d2.new nD, Kh.same (same_new nD), upd_same, fun j hj => absurd hj (Nat.not_lt_zero _), Nat.le_refl _⟩ ?_ ?_
    · rintro i H' hi ⟨ds, d3, k3, hD, hg, hlen⟩
      refine ⟨rfl, _, rfl, h, c, 5, rfl, by decide, by decide +kernel, d3, fun y H4 y0 y1 d4 k4 => ⟨_, rfl, _, _, rfl, rfl, _, rfl, ?_⟩⟩
      have hD4 := k4 _ _ hD n1
      refine ite2 (fun _ => ?_) (fun _ => ⟨ds, d4, k3.trans k4, hD4, hg.mono (by omega), by omega⟩)
      have kall : ∀ o, Kh h H2 (upd H4 D o) := fun _ b o e n => by
        rw [upd_ne (ne_of_none e nD)]
        exact (k3.trans k4) b o e n
      refine ⟨_, rfl, _, hD4, by rw [List.length_map]; exact small1000 (by omega), ds ++ [((i : Nat) : Int)], d2.put (kall _) d4 n1, kall _, ?_, ?_, ?_⟩
      · rw [upd_same, List.map_append, Int.zero_add]
        rfl
      · rw [show (((i + 1 : Nat) : Int)) - 1 = (i : Int) by omega]
        exact hg.snoc (by omega)
      · rw [List.length_append, List.length_singleton]
        omega
    · rintro H' ⟨ds, d3, k3, hD, hg, hlen⟩
      refine ⟨D, _, rfl, .inl ⟨.of hD, fun l nl => ⟨ltb (show 2 ≤ 1000 by decide), fun r nr => ?_⟩⟩⟩
      have nlr : l ≠ r := fun z => by
        rw [← z, upd_same] at nr
        cases nr
      refine q _ ln ds _ ⟨r, .ref l, rfl, .of upd_same, l, rfl, .of ?_⟩ (by omega) (by omega) (hg.mono (by omega)) (by omega) ((d3.new nl).new nr) ((((k1.trans k2).trans k3).trans (Kh.same (same_new nl))).trans (Kh.same (same_new nr)))
      rw [upd_ne nlr, upd_same]
end
end Sea

set_option Elab.async false
set_option linter.all false
set_option maxRecDepth 100000
set_option maxHeartbeats 4000000
namespace Sea
open PySem PySem.Spec PyProof.Rows L2 LamX NdefX ClX Evl StX
theorem scTar : FnScope ["_law_passes_here"] ["_law_passes_here"] (defScope sTar) := ⟨rfl, rfl, rfl, by decide +kernel, rfl, by decide +kernel, by decide +kernel⟩
theorem bad_ok {L : List (Int × Int)} (h1 : 1 ≤ L.length) (h2 : L.length ≤ 6) (h : ∀ x ∈ L, okP x = true) : bad L = none := by
  unfold bad
  rw [if_neg fun e => by rw [e] at h1; cases h1]
  refine fb_all L 0 fun j x hx => ?_
  have hj := (List.getElem?_eq_some_iff.mp hx).1
  unfold badI
  rw [h x (List.mem_of_getElem? hx), dec_int, beq_eq_false_iff_ne.mpr (by omega)]
  rfl
def spTar (K : PySem.W.Frag) (C : Addr) : Sp := fun vs H Q _ => ∃ (l : Addr) (ws : List V) (L : List (Int × Int)), vs = [.ref l] ∧ H l = some (.lst ws) ∧ PsV K H ws L ∧ 1 ≤ L.length ∧ L.length ≤ 3 ∧ (∀ x ∈ L, okP x = true) ∧
  ∀ a p H', Same H H' → H a = none → Tar K C H' a p L → Q (.ref a) H'
section
variable {P : Program} {w : World} {K : PySem.W.Frag} {mg : Str → Option Value} {base : Heap} {C cI cU cP fI fT : Addr} {mc mp : Value} {fdI fdT : FuncData}
theorem ok_tar {f : Addr} {fd : FuncData} (F : Fun K "_law_tariff" "_law_tariff" sTar f fd) (X1 : TX K mg C cI cU cP fI mc mp) (I : TMk K C fI fT fdI fdT) : FnOk P w K mg base (L2.CX P w) 6 f fd ["_law_passes_here"] (spTar K C) := by
  refine F.okX scTar (fun vs H Q E h => ?_) (fun cdv A outer s H vs Q E hr h => ?_)
  · obtain ⟨l, ws, L, rfl, _⟩ := h
    rfl
  · obtain ⟨l, ws, L, rfl, hl, hps, l1, l3, good, q⟩ := h
    have PX : Passes (L2.CX P w) (cxOf (L2.CX P w) P w K mg base ["_law_passes_here"] "_law_tariff" (defScope sTar) f cdv A outer s H E) E := passes_call (takes_of rfl rfl rfl rfl) (fun _ _ _ _ h => h)
    refine ⟨_, pss_cons (ps_if (pt_cmpR op_eq (pe_callB call_len_seq (by rfl) X1.mN PySem.boot_len (pa_cons (pv 0) pa_nil)) pe_int (nomark _)) (pss_one (ps_ret (pe_tar X1 I hr PX (by rfl) (pa_cons (pe_ixl (pv 0) pe_int) pa_nil)))) pss_nil)
      (pss_cons (ps_if (pt_cmpR op_eq (pe_callB call_len_seq (by rfl) X1.mN PySem.boot_len (pa_cons (pv 0) pa_nil)) pe_int (nomark _)) (pss_one (ps_ret (pe_tar X1 I hr PX (by rfl) (pa_cons (pe_ixl (pv 0) pe_int) (pa_cons (pe_ixl (pv 0) pe_int) pa_nil))))) pss_nil)
      (pss_one (ps_ret (pe_tar X1 I hr PX (by rfl) (pa_cons (pe_ixl (pv 0) pe_int) (pa_cons (pe_ixl (pv 0) pe_int) (pa_cons (pe_ixl (pv 0) pe_int) pa_nil))))))), ?_⟩
    have hb : bad L = none := bad_ok l1 (by omega) good
    have fin : ∀ H' : Hp, Ex H H' → spMk K C cI ws H' Q E := fun _ e => ⟨L, hps.tk (.same e), by omega, fun _ a p H2 sm na t => q a p H2 (Same.trans e sm) (fresh_back e na) t, fun i d H2 hb2 => by rw [hb] at hb2; cases hb2⟩
    have hlen := hps.len
    have eT : ∀ (H' : Hp) (n : Nat), Ex H H' → EvT (tTest (tOp rEq (tCB (rLenS K) (tCons (tVar 0) tNil)) (tC (.int (n : Int))))) [some (.ref l)] H' (decide (V.int (ws.length : Nat) = V.int (n : Int))) := fun _ n e => et_test (ev_op (ev_len (ev_var rfl) (sq_of (e _ _ hl))) ev_c (rv_eq rfl))
    match ws, hl, hlen, fin, eT with
    | [x], hl, hlen, fin, eT =>
      refine q_when (b := decide (V.int (1 : Nat) = V.int 1)) (eT _ 1 (Ex.refl _)) (fun _ H1 e1 => ?_) (fun h => by simp at h)
      exact ⟨_, rfl, l, _, 0, x, rfl, rfl, sq_of (e1 _ _ hl), rfl, fin _ e1⟩
    | [x, y], hl, hlen, fin, eT =>
      refine q_when (b := decide (V.int (2 : Nat) = V.int 1)) (eT _ 1 (Ex.refl _)) (fun h => by simp at h) (fun _ H1 e1 => ?_)
      refine q_when (b := decide (V.int (2 : Nat) = V.int 2)) (eT _ 2 e1) (fun _ H2 e2 => ?_) (fun h => by simp at h)
      exact ⟨_, rfl, l, _, 0, x, rfl, rfl, sq_of (e2 _ _ (e1 _ _ hl)), rfl, _, rfl, l, _, 1, y, rfl, rfl, sq_of (e2 _ _ (e1 _ _ hl)), rfl, fin _ (e1.trans e2)⟩
    | [x, y, z], hl, hlen, fin, eT =>
      refine q_when (b := decide (V.int (3 : Nat) = V.int 1)) (eT _ 1 (Ex.refl _)) (fun h => by simp at h) (fun _ H1 e1 => ?_)
      refine q_when (b := decide (V.int (3 : Nat) = V.int 2)) (eT _ 2 e1) (fun h => by simp at h) (fun _ H2 e2 => ?_)
      have h2 := sq_of (K := K) (e2 _ _ (e1 _ _ hl))
      exact ⟨_, rfl, l, _, 0, x, rfl, rfl, h2, rfl, _, rfl, l, _, 1, y, rfl, rfl, h2, rfl, _, rfl, l, _, 2, z, rfl, rfl, h2, rfl, fin _ (e1.trans e2)⟩
    | [], hl, hlen, _, _ => rw [← hlen] at l1; cases l1
    | _ :: _ :: _ :: _ :: _, hl, hlen, _, _ => simp at hlen; omega
end
end Sea

set_option Elab.async false
set_option linter.all false
set_option maxRecDepth 100000
set_option maxHeartbeats 4000000
namespace Sea
open PySem PySem.Spec PyProof.Rows L2 LamX NdefX ClX Evl StX
theorem scLengths : FnScope ["self", "length", "price"] ["self"] (defScope sLengths) := ⟨rfl, rfl, rfl, by decide +kernel, rfl, by decide +kernel, by decide +kernel⟩
/-- a new tuple of one number of each pass -/
def spCol (K : PySem.W.Frag) (C : Addr) (f : Int × Int → Int) : Sp := fun vs H Q _ => ∃ (a p : Addr) (L : List (Int × Int)), vs = [.ref a] ∧ Tar K C H a p L ∧ L.length ≤ 1000 ∧ ∀ q H', Same H H' → H' q = some (.tup (L.map fun x => .int (f x))) → Q (.ref q) H'
section
variable {P : Program} {w : World} {K : PySem.W.Frag} {mg : Str → Option Value} {base : Heap} {C cI cU cP fI fT fP pP : Addr} {mc mp : Value} {fdP fdI fdT : FuncData}
theorem ok_lengths {f : Addr} {fd : FuncData} {k : Nat} (F : Fun K "lengths" "Tariff.lengths" sLengths f fd) (T : TX K mg C cI cU cP fI mc mp) : FnOk P w K mg base CX0 (k + 1) f fd ["self"] (spCol K C Prod.fst) := by
  refine F.ok scLengths (fun vs H Q E h => ?_) (fun cdv A outer s H vs Q E hr h => ?_)
  · obtain ⟨a, p, L, rfl, _⟩ := h
    rfl
  · obtain ⟨a, p, L, rfl, ht, hlen, q⟩ := h
    refine ⟨_, pss_one (ps_ret (pe_callTy call_tuple_of (by rfl) T.mT (by rfl) (pa_cons (pe_lc (own := [("length", 1), ("price", 2)]) (g := gTup K 2 (gCons (gName 1) (gCons (gName 2) gNil))) (by rfl) scLengths.nd (pi_tup (pe_fld (pv 0) rfl))
      (blkOk_by (own := [("length", 1), ("price", 2)]) (N := ["self", "length", "price"]) (sc := defScope sLengths) (by decide +kernel))
      (fun _ _ _ _ _ => pg_tup rfl (pgs_cons (pg_name (i := 1) scLengths.nd rfl (Or.inl rfl)) (pgs_cons (pg_name (i := 2) scLengths.nd rfl (Or.inl rfl)) pgs_nil))) (fun _ _ _ _ _ => pts_nil) (fun _ _ _ _ _ => pv 1)) pa_nil))), ?_⟩
    obtain ⟨vs, h1, hl, hv⟩ := ht.len_eq
    obtain ⟨⟨dx, ha⟩, _⟩ := ht
    refine ⟨_, rfl, a, C, dx, _, _, rfl, ha, T.cl, T.no, rfl, p, rfl, ?_⟩
    refine ⟨⟨vs, h1⟩, fun D nD => ?_⟩
    have nDb : ∀ {b : Addr} {o : HO}, H b = some o → b ≠ D := fun e => ne_of_none e nD
    refine lc_tup (K := K) (a := p) (xs := vs) (fun i H' => Same H H' ∧ H' D = some (.lst ((L.take i).map fun x => V.int x.1))) ⟨same_new nD, upd_same⟩ (fun i H' _ z => (TK.same z.1) _ _ h1) ?_ ?_
    · rintro i x H' hx ⟨sm, hD⟩
      obtain ⟨⟨l, pr⟩, hLi, b, rfl, hb⟩ := hv.get hx
      refine ⟨b, _, rfl, (TK.same sm) _ _ hb, rfl, _, _, rfl, _, _, rfl, rfl, rfl, ?_⟩
      refine iteT (B := True) ?_
      refine ⟨_, rfl, _, hD, ?_, ?_, ?_⟩
      · rw [List.length_map, List.length_take]
        exact Nat.lt_of_le_of_lt (Nat.min_le_right _ _) (small1000 hlen)
      · intro c o e
        rw [upd_ne (nDb e)]
        exact sm _ _ e
      · rw [upd_same, take_snoc hLi, List.map_append]
        rfl
    · rintro H' ⟨sm, hD⟩
      refine ⟨D, _, rfl, .inl ⟨.of hD, fun l nl => q l _ (sm.trans (same_new nl)) ?_⟩⟩
      rw [upd_same, hl, List.take_length]
end
end Sea

set_option Elab.async false
set_option linter.all false
set_option maxRecDepth 100000
set_option maxHeartbeats 4000000
namespace Sea
open PySem PySem.Spec PyProof.Rows L2 LamX NdefX ClX Evl StX
/-! ### a, *b = a list -/
def gStar (K : PySem.W.Frag) (t : TGs) : TG := fun v σ H Q => ∃ (a : Addr) (x : V) (xs : List V), v = .ref a ∧ SqL K H a (x :: xs) ∧ ∀ p, H p = none → t [x, .ref p] σ (upd H p (.lst xs)) Q
/-- what a, *b takes from a list: the first item, a new list of the others -/
theorem star_items {prog : Program} {w : World} {A : Around} {E : Value → Shared → Prop} {s : Shared} {l : Addr} {u : Value} {us : List Value} {Q : List Value → Shared → Prop}
    (hh : A.handled = none) (hl : s.heap.IsList l (u :: us).toArray) (hz : us.length < sizeLine)
    (h : ∀ (h1 : Heap) (tk : Tok), (∀ b o, s.heap.get? b = some o → h1.get? b = some o) → Q [u, .ref h1.objs.size] { s with heap := h1.push { cls := .type "list", data := .seq us.toArray }, toks := tk }) :
    wpAny (model prog w) A (unpackItems (.ref l) 2 (some 1)) Q E s := by
  have below : l < s.heap.objs.size := match hl with | ⟨_, e, _⟩ => Heap.lt_size e
  have apart : l ≠ s.heap.objs.size := Nat.ne_of_lt below
  have can : wpAny (model prog w) A (notIterableAtAll (.ref l)) (fun b s' => b = false ∧ s' = s) E s := by
    unfold notIterableAtAll
    exact wpAny_bind (wpAny_specialOf hl.typeIs slot_list_iter.lookup (wpAny_pure ⟨rfl, rfl⟩))
  unfold unpackItems
  refine wpAny_bind (thn can fun b s' z => ?_)
  obtain ⟨rfl, rfl⟩ := z
  refine wpAny_bind (wpAny_holding (wpAny_pyIter_list hl ?_))
  refine wpAny_bind (wpAny_holding (PySem.W.kun_draw apart 1 0 _ _ ⟨_, Heap.get?_push_size _ rfl, rfl, rfl⟩ (hl.push _) (by simp) fun g it1 same1 => ?_))
  have lg : g.IsList l (u :: us).toArray := (hl.push _).extBut same1.extBut apart
  have old : ∀ b o, s'.heap.get? b = some o → b ≠ s'.heap.objs.size ∧ g.get? b = some o := fun b o e =>
    have n : b ≠ s'.heap.objs.size := Nat.ne_of_lt (Heap.lt_size e)
    ⟨n, same1.extBut b o n (Heap.get?_push_of_some _ e)⟩
  have itIn : s'.heap.objs.size < g.objs.size := match it1 with | ⟨_, e, _⟩ => Heap.lt_size e
  have W := Walks.list (prog := prog) (w := w) (A := A.in1) hh s'.heap.objs.size l apart (u :: us).toArray
  refine wpAny_bind (wpAny_holding (wpAny_collect_iter (s := { s' with heap := g }) (T := "list_iterator") (.inr (.inr (.inl rfl))) (PySem.W.kun_shift W (show 1 ≤ (u :: us).toArray.size by simp)).toS (fun j v st => st.1.typeIs) ⟨it1, lg⟩
    (fun b hb => ?_) (List.mem_cons_self ..) (fun z acc mv got => ?_) (by simp; omega)))
  · rcases List.mem_cons.mp hb with rfl | hb
    · exact itIn
    · rw [List.mem_singleton.mp hb]
      exact match lg with | ⟨_, e, _⟩ => Heap.lt_size e
  · obtain ⟨g2, ga, dr, tk, os2⟩ := z
    obtain ⟨kept, same2, same3, same4, same5⟩ := mv
    cases same2
    cases same3
    cases same4
    have ea : acc.toList = us := PySem.W.kun_acc (items := (u :: us).toArray) (k := 1) (by simp) got
    rw [ea]
    refine wpAny_bind (wpAny_newList (wpAny_pure ?_) (by simp; omega))
    have q := h g2 tk (fun b o e => kept b o (by simpa using (old b o e).1) (old b o e).2)
    simp
    exact q
section
variable {X : Cx} {pos : Pos}
theorem pgs_starN {x : Str} {px p : Pos} {es : List Expr} {t : TGs} (h : PGs X (.Name x px :: es) t) : PGs X (.Starred (.Name x px) p :: es) t := ⟨h.run⟩
theorem pg_star {es : List Expr} {k : Nat} {t : TGs} (hc : X.calm = true) (h : PGs X es t)
    (hn : (assignEach es X.env).length = 2 := by rfl) (hst : (assignEach es X.env).findIdx? (·.1) = some 1 := by rfl) : PG X (.Tuple es k pos) (gStar X.K t) := ⟨by
  rintro pins s σ H v u Q I r ⟨a, x, xs, rfl, hq, hw⟩
  cases r
  obtain ⟨its, rv, ⟨o, n, e1, e2, e3, e4⟩, hz⟩ := I.list hq
  cases rv with
  | cons r0 rs =>
    rw [PyProof.Rows.assign_Tuple]
    refine wpAny_bind (wpAny_standAt ?_)
    unfold unpack
    rw [hn, hst]
    refine wpAny_bind (wpAny_holding (star_items (I.ok.hd hc) ⟨o, e1, e2, n, e4⟩ (by rw [List.length_cons] at hz; rw [← rs.length]; omega) fun h1 tk keep => ?_))
    have I1 : Inv X pins σ H { s with heap := h1, toks := tk } := I.kept (t' := tk) keep
    have hp := I1.hok.fresh (Nat.le_refl _)
    refine h.run pins _ σ _ [x, .ref h1.objs.size] _ Q (I1.laid (o := .lst xs) (t' := tk) (fun b o e => Heap.get?_push_of_some _ e) (Nat.le_refl _) ⟨?_, _, 0, rs, Heap.get?_push_size _ rfl⟩) (.cons r0 (.cons rfl .nil)) (hw _ hp)
    rw [List.length_cons] at hz
    omega⟩
end
end Sea

set_option Elab.async false
set_option linter.all false
set_option maxRecDepth 100000
set_option maxHeartbeats 4000000
/-! texts: what the layer's lemmas on evaluation lack, no program in sight -/
namespace Sea
open PySem PySem.Spec PyProof.Rows L2 LamX NdefX ClX Evl StX
section
variable {K : PySem.W.Frag} {te ta tb : TE} {t : TT} {σ : L2.St} {H : Hp}
theorem given_all (n : Nat) (v : Nat → V) : given n (fun _ => true) v = (List.range n).map v := by
  unfold given
  rw [List.filter_eq_self.mpr fun _ _ => rfl]
/-- a comprehension over a text -/
theorem el_lcSt {z : Str} {j : Nat} {vs : List Nat} (f : Nat → Bool) (v : Nat → V) (h : Ev te σ H (.str z)) (hz : z.length ≤ 40000) (hw : ∀ x, wipe ((wipe σ vs).set j (some x)) vs = wipe σ vs)
    (ht : ∀ i c H1, Ex H H1 → z.cps[i]? = some c → EvT t ((wipe σ vs).set j (some (.str ⟨#[c]⟩))) H1 (f i)) (he : ∀ i c H1, Ex H H1 → z.cps[i]? = some c → f i = true → Ev tb ((wipe σ vs).set j (some (.str ⟨#[c]⟩))) H1 (v i)) :
    EvL (tLc (iStr te) (gName j) t tb vs) σ H (given z.cps.size f v) := fun H0 e Q q => h H0 e _ fun H1 e1 => ⟨z, rfl, fun Dl hD =>
  lc_it walk_str (Cw H1 f v Dl) ⟨hD, Ex.new hD, upd_same⟩ (fun _ _ _ _ => trivial) (fun i x G G' hi p y => by
    obtain ⟨rfl, c, hc, rfl⟩ := y
    exact ⟨hw _, cw_turn p (Nat.lt_of_lt_of_le hi (Nat.le_trans (show z.cps.size ≤ 40000 from hz) (by decide))) (ht i c H1 (e.trans e1) hc) (fun hf => he i c H1 (e.trans e1) hc hf)⟩) (fun H' p => q Dl H' (fresh_back e1 p.1) (e1.trans p.2.1) p.2.2)⟩
theorem ev_allL {bs : List Bool} (h : EvL te σ H (bs.map V.bl)) : Ev (tCB (rAll K) (tCons te tNil)) σ H (.bl (bs.all id)) := fun H1 e Q q =>
  h H1 e _ fun p H2 _ e2 hx => ⟨p, bs, rfl, sq_of hx, q H2 e2⟩
theorem ev_lenZ {z : Str} (h : Ev te σ H (.str z)) (hz : z.length ≤ 100000) : Ev (tCB (fun xs H Q => ∃ z, xs = [.str z] ∧ z.length ≤ sizeLine ∧ Q (.int z.length) H) (tCons te tNil)) σ H (.int (z.length : Int)) := fun H1 e Q q =>
  h H1 e _ fun H2 e2 => ⟨z, rfl, sz_of hz, q H2 e2⟩
theorem ev_inSign {c : Nat} {z : Str} (h : Ev ta σ H (.str ⟨#[c]⟩)) (g : Ev tb σ H (.str z)) : Ev (tOp (fun x y H Q => ∃ (c : Nat) (z : Str), x = .str ⟨#[c]⟩ ∧ y = .str z ∧ Q (.bl (decide (c ∈ z.cps.toList))) H) ta tb) σ H (.bl (decide (c ∈ z.cps.toList))) :=
  ev_op h g fun H1 _ Q q => ⟨c, z, rfl, rfl, q H1 (Ex.refl _)⟩
theorem ev_intS {z : Str} {n : Int} (h : Ev te σ H (.str z)) (hn : PySem.intText? z = some n) (hz : z.length ≤ 640) : Ev (tCB (fun xs H Q => ∃ a n, xs = [.str a] ∧ PySem.intText? a = some n ∧ a.length ≤ 640 ∧ Q (.int n) H) (tCons te tNil)) σ H (.int n) := fun H1 e Q q =>
  h H1 e _ fun H2 e2 => ⟨z, n, rfl, hn, hz, q H2 e2⟩
theorem ev_strI {i : Int} (h : Ev te σ H (.int i)) (hi : i.natAbs.log2 < 1920) : Ev (tCB (fun xs H Q => ∃ i, xs = [.int i] ∧ i.natAbs.log2 < 1920 ∧ Q (.str (toString i)) H) (tCons te tNil)) σ H (.str (toString i)) := fun H1 e Q q =>
  h H1 e _ fun H2 e2 => ⟨i, rfl, hi, q H2 e2⟩
end
section
variable {K : PySem.W.Frag} {te ta tb tl : TE} {t : TT} {tr : TA} {σ : L2.St} {H : Hp}
theorem el_lcTup {K : PySem.W.Frag} {σ : L2.St} {H : Hp} {a : Addr} {xs : List V} {tl te : TE} {t : TT} {j : Nat} {vs : List Nat} (f : Nat → Bool) (v : Nat → V) (h : Ev tl σ H (.ref a)) (hx : SqT K H a xs) (hz : xs.length ≤ 40000) (hw : ∀ x, wipe ((wipe σ vs).set j (some x)) vs = wipe σ vs)
    (ht : ∀ (i : Nat) (x : V) H1, Ex H H1 → xs[i]? = some x → EvT t ((wipe σ vs).set j (some x)) H1 (f i)) (he : ∀ (i : Nat) (x : V) H1, Ex H H1 → xs[i]? = some x → f i = true → Ev te ((wipe σ vs).set j (some x)) H1 (v i)) : EvL (tLc (iTup K tl) (gName j) t te vs) σ H (given xs.length f v) := by
  rintro H0 e Q q
  refine h H0 e _ fun H1 e1 => ?_
  have stays : ∀ {H2}, Ex H1 H2 → SqT K H2 a xs := fun e2 => ex_t (e.trans (e1.trans e2)) hx
  refine ⟨a, rfl, ⟨xs, stays (Ex.refl _)⟩, fun D new => ?_⟩
  refine lc_tup (xs := xs) (Cw H1 f v D) ⟨new, Ex.new new, upd_same⟩ (fun _ _ _ w => stays w.2.1) ?_ fun H2 w => q D H2 (fresh_back e1 w.1) (e1.trans w.2.1) w.2.2
  intro i x H2 at_ w
  have few := (List.getElem?_eq_some_iff.mp at_).1
  exact ⟨hw x, cw_turn w (by omega) (ht i x H1 (e.trans e1) at_) (he i x H1 (e.trans e1) at_)⟩
/-- a list that is walked, or a tuple -/
def iSeq (K : PySem.W.Frag) (te : TE) : TI := fun σ H R => iList K te σ H R ∨ iTup K te σ H R
theorem pi_seq {X : Cx} {tg l : Expr} (hl : PE X l tl) : PI X tg l (iSeq X.K tl) := ⟨fun pins s σ H R I h => h.elim ((pi_list hl).run pins s σ H R I) ((pi_tup hl).run pins s σ H R I)⟩
theorem el_lcSeq {a : Addr} {xs : List V} {j : Nat} {vs : List Nat} (f : Nat → Bool) (v : Nat → V) (h : Ev tl σ H (.ref a)) (hx : SqL K H a xs ∨ SqT K H a xs) (hz : xs.length ≤ 40000) (hw : ∀ x, wipe ((wipe σ vs).set j (some x)) vs = wipe σ vs)
    (ht : ∀ (i : Nat) (x : V) H1, Ex H H1 → xs[i]? = some x → EvT t ((wipe σ vs).set j (some x)) H1 (f i)) (he : ∀ (i : Nat) (x : V) H1, Ex H H1 → xs[i]? = some x → f i = true → Ev te ((wipe σ vs).set j (some x)) H1 (v i)) :
    EvL (tLc (iSeq K tl) (gName j) t te vs) σ H (given xs.length f v) := fun H1 e Q q => hx.elim (fun hx => .inl (el_lcL f v h hx hz hw ht he H1 e Q q)) (fun hx => .inr (el_lcTup f v h hx hz hw ht he H1 e Q q))
theorem eu_tupL {p : Addr} {xs : List V} (h : Ev te σ H (.ref p)) (hx : H p = some (.lst xs)) : EvU (tCB (fun xs H Q => ∃ p ys, xs = [.ref p] ∧ ((SqL K H p ys ∧ ∀ l, H l = none → Q (.ref l) (upd H l (.tup ys))) ∨ (SqT K H p ys ∧ Q (.ref p) H))) (tCons te tNil)) σ H xs := fun H1 e Q q =>
  h H1 e _ fun H2 e2 => ⟨p, xs, rfl, .inl ⟨sq_of (e2 _ _ (e _ _ hx)), fun l nl => q l _ (fresh_back e2 nl) (e2.trans (Ex.new nl)) upd_same⟩⟩
theorem et_isV {i : Nat} {v : V} (hs : σ[i]? = some (some v)) : EvT (tTest (tOp (fun x y H Q => y = .non ∧ Q (.bl (decide (x = .non))) H) (tVar i) (tC .non))) σ H (decide (v = .non)) := et_isN hs
theorem ea_star {xs ys : List V} (h : EvL tl σ H xs) (hr : EvA tr σ H ys) : EvA (tStar K tl tr) σ H (xs ++ ys) := fun H1 e Q q =>
  h H1 e _ fun p H2 _ e2 hx => ⟨p, xs, rfl, .inr (sq_of hx), hr H2 (e.trans e2) _ fun H3 e3 => q H3 (e2.trans e3)⟩
theorem ea_star1 {xs : List V} (h : EvL tl σ H xs) : EvA (tStar K tl tNil) σ H xs := by
  have z := ea_star (K := K) h (ea_nil (σ := σ) (H := H))
  rw [List.append_nil] at z
  exact z
theorem sum_le {ys : List Str} {m : Nat} (h : ∀ y ∈ ys, y.length ≤ m) : (ys.map (·.length)).sum ≤ ys.length * m := by
  induction ys with
  | nil => simp
  | cons y r ih =>
    rw [List.map_cons, List.sum_cons, List.length_cons, Nat.succ_mul]
    have h1 := h y (List.mem_cons_self ..)
    have h2 := ih fun z hz => h z (List.mem_cons_of_mem _ hz)
    omega
theorem ev_join {sp : Str} {ys : List Str} (h : Ev ta σ H (.str sp)) (g : EvL tb σ H (ys.map V.str)) (hz : (ys.map (·.length)).sum + ys.length * sp.length ≤ 16777216) :
    Ev (tM1 (fun x xs H Q => ∃ a p, ∃ ys : List Str, x = .str a ∧ xs = [.ref p] ∧ (SqL K H p (ys.map V.str) ∨ SqT K H p (ys.map V.str)) ∧ (ys.map (·.length)).sum + ys.length * a.length ≤ 16777216 ∧ Q (.str (Txt.join a ys)) H) ta tb) σ H (.str (Txt.join sp ys)) := fun H1 e Q q =>
  h H1 e _ fun H2 e2 => ⟨⟨sp, rfl⟩, g H2 (e.trans e2) _ fun p H3 _ e3 hx => ⟨sp, p, ys, rfl, rfl, .inl (sq_of hx), hz, q H3 (e2.trans e3)⟩⟩
/-- a split into a new list -/
theorem el_split {z sp : Str} (h : Ev ta σ H (.str z)) (g : Ev tb σ H (.str sp)) (hs : (sp.length == 0) = false) (hz : z.length ≤ 100000) :
    EvL (tM1 (fun x xs H Q => ∃ a b, x = .str a ∧ xs = [.str b] ∧ (b.length == 0) = false ∧ a.length + 2 ≤ sizeLine ∧ rNewStrs (Txt.split a b) H Q) ta tb) σ H ((Txt.split z sp).map V.str) := fun H1 e Q q =>
  h H1 e _ fun H2 e2 => ⟨⟨z, rfl⟩, g H2 (e.trans e2) _ fun H3 e3 => ⟨z, sp, rfl, rfl, hs, Nat.le_trans (Nat.add_le_add_right hz 2) (by decide), fun p hp => q p _ (fresh_back (e2.trans e3) hp) ((e2.trans e3).trans (Ex.new hp)) upd_same⟩⟩
end
theorem map_getD {α β : Type} (f : α → β) (d : α) (xs : List α) : (List.range xs.length).map (fun i => f (xs.getD i d)) = xs.map f := by
  refine List.ext_getElem? fun i => ?_
  rw [List.getElem?_map, List.getElem?_map]
  by_cases h : i < xs.length
  · rw [List.getElem?_range h, List.getElem?_eq_getElem h]
    show some (f (xs.getD i d)) = some (f xs[i])
    rw [List.getD_eq_getElem?_getD, List.getElem?_eq_getElem h]
    rfl
  · rw [List.getElem?_eq_none (by rw [List.length_range]; omega), List.getElem?_eq_none (by omega)]
    rfl
theorem map_at {α β : Type} {f : α → β} {xs : List α} {i : Nat} {y : β} (h : (xs.map f)[i]? = some y) : ∃ x, xs[i]? = some x ∧ y = f x := by
  rw [List.getElem?_map] at h
  cases e : xs[i]? with
  | none => rw [e] at h; cases h
  | some x => rw [e] at h; exact ⟨x, rfl, (Option.some.inj h).symm⟩
theorem el_is {te : TE} {σ : L2.St} {H : Hp} {xs ys : List V} (h : EvL te σ H xs) (e : xs = ys) : EvL te σ H ys := e ▸ h
theorem et_yes {σ : L2.St} {H : Hp} : EvT (fun _ H Q => Q true H) σ H true := fun H1 _ Q q => q H1 (Ex.refl _)
theorem sgn_eq (c d : Nat) : decide (V.str ⟨#[c]⟩ = V.str ⟨#[d]⟩) = decide (c = d) := by
  by_cases h : c = d
  · rw [h, decide_eq_true rfl, decide_eq_true rfl]
  · rw [decide_eq_false h, decide_eq_false fun e => h (by simpa using e)]
/-- a sign of a number -/
def digC (c : Nat) : Bool := decide (c ∈ ("0123456789" : Str).cps.toList)
theorem digC_iff {c : Nat} (h : digC c = true) : 48 ≤ c ∧ c ≤ 57 := by
  have m : c ∈ ("0123456789" : Str).cps.toList := of_decide_eq_true h
  have e : ("0123456789" : Str).cps.toList = [48, 49, 50, 51, 52, 53, 54, 55, 56, 57] := by decide +kernel
  rw [e] at m
  simp at m
  omega
/-- a word that is no number -/
def badW (z : Str) : Bool := decide (V.str z = V.str "") || (!(((List.range z.cps.size).map fun i => digC (z.cps.getD i 0)).all id) || (decide ((1 : Int) < (z.length : Int)) && decide (z.cps.getD 0 0 = 48)))
def valW (z : Str) : Int := (PySem.intText? z).getD 0
theorem badW_val {z : Str} (h : badW z = false) (hz : z.length ≤ 640) : PySem.intText? z = some (valW z) ∧ 0 ≤ valW z := by
  unfold badW at h
  rw [Bool.or_eq_false_iff, Bool.or_eq_false_iff, Bool.not_eq_false'] at h
  obtain ⟨h1, h2, _⟩ := h
  have dig : NumText.AllDigits z.cps.toList := fun c hc => by
    obtain ⟨i, hi, rfl⟩ := List.mem_iff_getElem.mp hc
    rw [Array.length_toList] at hi
    have := List.all_eq_true.mp h2 (digC (z.cps.getD i 0)) (List.mem_map.mpr ⟨i, List.mem_range.mpr hi, rfl⟩)
    have := digC_iff this
    simpa [Array.getD, hi] using this
  have ne : z.cps.toList ≠ [] := fun e => by
    have : z = "" := by
      cases z with
      | mk a =>
        have : a = #[] := by simpa using e
        rw [this]
        rfl
    rw [this] at h1
    simp at h1
  have e := intText_digits dig ne (Nat.le_trans hz (by decide))
  unfold valW
  rw [e]
  exact ⟨rfl, Int.natCast_nonneg _⟩
def numsW (ws : List Str) : Option (List Int) := if ws.all (fun z => !badW z) = true then some (ws.map valW) else none
end Sea

set_option Elab.async false
set_option linter.all false
set_option maxRecDepth 100000
set_option maxHeartbeats 4000000
namespace Sea
open PySem PySem.Spec PyProof.Rows L2 LamX NdefX ClX Evl StX
theorem scVC : FnScope ["count", "smallest", "largest"] ["count", "smallest", "largest"] (defScope sVC) := ⟨rfl, rfl, rfl, by decide +kernel, rfl, by decide +kernel, by decide +kernel⟩
/-- InvalidCount as the code raises it -/
structure TNc (K : PySem.W.Frag) (mg : Str → Option Value) (cN : Addr) : Prop where
  qN : PySem.W.excIn K cN [.type "ValueError", .type "Exception", .type "BaseException", .type "object"] "ValueError.__new__" = true
  gN : mg "InvalidCount" = some (.ref cN)
  kN : PySem.W.keepIn K (.ref cN) = true
  sN : PySem.W.subIn K (.ref cN) (.type "BaseException") = some true
  yN : PySem.W.typeIn K (.ref cN) = some (.type "type")
def spVC (cN : Addr) : Sp := fun vs H Q E => ∃ c x l : Int, vs = [.int c, .int x, .int l] ∧ (x ≤ c ∧ c ≤ l → ∀ H', Same H H' → Q .non H') ∧ (¬ (x ≤ c ∧ c ≤ l) → ∀ H', Same H H' → E (.ref cN) none H')
section
variable {P : Program} {w : World} {K : PySem.W.Frag} {mg : Str → Option Value} {base : Heap} {cN : Addr}
theorem ok_vc {f : Addr} {fd : FuncData} {k : Nat} (F : Fun K "validate_count" "validate_count" sVC f fd) (T : TNc K mg cN) : FnOk P w K mg base (L2.CX P w) (k + 1) f fd ["count", "smallest", "largest"] (spVC cN) := by
  refine F.okX scVC (fun vs H Q E h => ?_) (fun cdv A outer s H vs Q E hr h => ?_)
  · obtain ⟨c, x, l, rfl, _⟩ := h
    rfl
  · obtain ⟨c, x, l, rfl, q1, q2⟩ := h
    refine ⟨_, pss_one (ps_if (pt_not (pt_chain op_le op_le (pv 1) (pv 0) (pv 2))) (pss_one (ps_raise rfl (takes_of rfl rfl rfl rfl) (pmk_own PySem.F.excBase_ValueError T.qN T.gN T.kN (raises_own T.sN T.yN) (by rfl)))) pss_nil), ?_⟩
    refine s_when (b := !(decide (x ≤ c) && decide (c ≤ l))) (et_not (et_test (ev_chainI (p := fun i j => decide (i ≤ j)) (q := fun i j => decide (i ≤ j)) (ev_var rfl) (ev_var rfl) (ev_var rfl)))) (fun hb H1 e1 => q2 (fun hc => ?_) H1 e1) (fun hb H1 e1 => q1 ?_ H1 e1)
    · rw [decide_eq_true hc.1, decide_eq_true hc.2] at hb
      cases hb
    · have : (decide (x ≤ c) && decide (c ≤ l)) = true := by
        cases h : (decide (x ≤ c) && decide (c ≤ l)) with
        | true => rfl
        | false =>
          rw [h] at hb
          cases hb
      rw [Bool.and_eq_true] at this
      exact ⟨of_decide_eq_true this.1, of_decide_eq_true this.2⟩
end
end Sea

set_option Elab.async false
set_option linter.all false
set_option maxRecDepth 100000
set_option maxHeartbeats 4000000
/-! errors of wallets; contents; a wallet as it stands -/
namespace Sea
open PySem PySem.Spec PyProof.Rows L2 LamX NdefX ClX Evl StX
theorem scNpI : FnScope ["self", "day"] ["self", "day"] (defScope sNpI) := ⟨rfl, rfl, rfl, by decide +kernel, rfl, by decide +kernel, by decide +kernel⟩
theorem scIoI : FnScope ["self", "index"] ["self", "index"] (defScope sIoI) := ⟨rfl, rfl, rfl, by decide +kernel, rfl, by decide +kernel, by decide +kernel⟩
theorem scCtI : FnScope ["self", "day", "total", "bought", "until"] ["self", "day", "total", "bought", "until"] (defScope sCtI) := ⟨rfl, rfl, rfl, by decide +kernel, rfl, by decide +kernel, by decide +kernel⟩
theorem scWlI : FnScope ["self", "tariff", "day"] ["self", "tariff", "day"] (defScope sWlI) := ⟨rfl, rfl, rfl, by decide +kernel, rfl, by decide +kernel, by decide +kernel⟩
theorem scWlTd : FnScope ["self"] ["self"] (defScope sWlTd) := ⟨rfl, rfl, rfl, by decide +kernel, rfl, by decide +kernel, by decide +kernel⟩
theorem scWlSp : FnScope ["self"] ["self"] (defScope sWlSp) := ⟨rfl, rfl, rfl, by decide +kernel, rfl, by decide +kernel, by decide +kernel⟩
theorem scWlPu : FnScope ["self"] ["self"] (defScope sWlPu) := ⟨rfl, rfl, rfl, by decide +kernel, rfl, by decide +kernel, by decide +kernel⟩
theorem scWlIc : FnScope ["self"] ["self"] (defScope sWlIc) := ⟨rfl, rfl, rfl, by decide +kernel, rfl, by decide +kernel, by decide +kernel⟩
theorem scWlRe : FnScope ["self", "content"] ["self", "content"] (defScope sWlRe) := ⟨rfl, rfl, rfl, by decide +kernel, rfl, by decide +kernel, by decide +kernel⟩
/-- an own error with one field -/
structure TE1 (K : PySem.W.Frag) (mg : Str → Option Value) (nm fl : Str) (st : Stmt) (cE cP fE : Addr) (dE : FuncData) (mp : Value) : Prop where
  x : OexC K cE
  n : PySem.W.findIn K (.ref cE) fl = some none
  g : mg nm = some (.ref cE)
  i : PySem.W.findIn K (.ref cE) "__init__" = some (some (.ref fE))
  t : PySem.W.typeIn K (.ref fE) = some (.type "function")
  p : PIn K mg "PassError" cP mp
  u : Fun K "__init__" (nm ++ ".__init__") st fE dE
/-- what a content holds -/
structure Ct where
  day : Int
  total : Int
  bt : List (Int × Int)
  un : Int
def ctF (c : Ct) (q : Addr) : List (Str × V) := [("day", .int c.day), ("total", .int c.total), ("bought", .ref q), ("until", .int c.un)]
def wlF (t co E : Addr) : List (Str × V) := [("offer", .ref t), ("content", .ref co), ("earlier", .ref E)]
/-- the text's facts -/
structure TW (K : PySem.W.Frag) (mg : Str → Option Value) (CT CW cN cNp cP fCt fWi fVC fVP fNp : Addr) (dCt dWi dVC dVP dNp : FuncData) (mp : Value) : Prop where
  clT : Cls K CT
  nD : NoAttr K CT "day"
  nT : NoAttr K CT "total"
  nB : NoAttr K CT "bought"
  nU : NoAttr K CT "until"
  gT : mg "Content" = some (.ref CT)
  mkT : Mk K CT fCt
  uT : Fun K "__init__" "Content.__init__" sCtI fCt dCt
  clW : Cls K CW
  nO : NoAttr K CW "offer"
  nC : NoAttr K CW "content"
  nE : NoAttr K CW "earlier"
  gW : mg "Wallet" = some (.ref CW)
  mkW : Mk K CW fWi
  uW : Fun K "__init__" "Wallet.__init__" sWlI fWi dWi
  gVC : mg "validate_count" = some (.ref fVC)
  kVC : PySem.W.keepIn K (.ref fVC) = true
  uVC : Fun K "validate_count" "validate_count" sVC fVC dVC
  nc : TNc K mg cN
  gVP : mg "validate_pass" = some (.ref fVP)
  kVP : PySem.W.keepIn K (.ref fVP) = true
  uVP : Fun K "validate_pass" "validate_pass" sValid fVP dVP
  mD : ∃ u, mg "MAX_DAYS" = some u ∧ RelV (.int 1000000000000000000) u
  mY : ∃ u, mg "MAX_YIELDED" = some u ∧ RelV (.int 10000) u
  mPd : ∃ u, mg "MAX_PASSED" = some u ∧ RelV (.int 10000) u
  np : TE1 K mg "NoPass" "day" sNpI cNp cP fNp dNp mp
  mX : mg "max" = none
  mM : mg "min" = none
  mL : mg "list" = none
  mR : mg "range" = none
  mA : mg "any" = none
section
variable {K : PySem.W.Frag} {C CT CW : Addr} {H H' : Hp} {x E t p co : Addr} {L : List (Int × Int)} {c : Ct} {es : List Ct} {as : List V}
/-- a content -/
def CtA (K : PySem.W.Frag) (CT : Addr) (H : Hp) (v : V) (c : Ct) : Prop := ∃ co dx q ws, v = .ref co ∧ H co = some (.ins CT dx (ctF c q)) ∧ SqT K H q ws ∧ PsV K H ws c.bt
inductive CtsA (K : PySem.W.Frag) (CT : Addr) (H : Hp) : List V → List Ct → Prop
  | nil : CtsA K CT H [] []
  | cons {v : V} {c : Ct} {vs : List V} {cs : List Ct} : CtA K CT H v c → CtsA K CT H vs cs → CtsA K CT H (v :: vs) (c :: cs)
/-- all else is kept -/
def But (S : List Addr) (H H' : Hp) : Prop := ∀ b o, H b = some o → b ∉ S → H' b = some o
theorem But.refl {S : List Addr} : But S H H := fun _ _ e _ => e
theorem But.same {S : List Addr} (s : Same H H') : But S H H' := fun b o e _ => s b o e
theorem But.trans {S : List Addr} {H1 H2 : Hp} (a : But S H H1) (b : But S H1 H2) : But S H H2 := fun x o e n => b x o (a x o e n) n
theorem But.mono {S T : List Addr} (a : But S H H') (h : ∀ b ∈ S, b ∈ T) : But T H H' := fun x o e n => a x o e fun z => n (h x z)
theorem But.put {S : List Addr} {a : Addr} {o : HO} (h : a ∈ S) : But S H (upd H a o) := fun b u e n => by
  rw [upd_ne (fun z => n (by rw [z]; exact h))]
  exact e
/-- a wallet's own objects are neither tuples nor contents -/
structure Own45 (CW : Addr) (H : Hp) (x E : Addr) : Prop where
  x : ∃ dx t co, H x = some (.ins CW dx (wlF t co E))
  e : ∃ as, H E = some (.lst as)
theorem Own45.tup (o : Own45 CW H x E) {a : Addr} {ws : List V} (h : SqT K H a ws) (k : But [x, E] H H') : SqT K H' a ws := by
  rcases h with (h | ⟨u, h⟩) | h
  · refine .inl (.inl (k _ _ h fun z => ?_))
    rcases List.mem_cons.mp z with rfl | z
    · obtain ⟨dx, t, co, e⟩ := o.x
      rw [e] at h
      cases h
    · rw [List.mem_singleton.mp z] at h
      obtain ⟨as, e⟩ := o.e
      rw [e] at h
      cases h
  · refine .inl (.inr ⟨u, k _ _ h fun z => ?_⟩)
    rcases List.mem_cons.mp z with rfl | z
    · obtain ⟨dx, t, co, e⟩ := o.x
      rw [e] at h
      cases h
    · rw [List.mem_singleton.mp z] at h
      obtain ⟨as, e⟩ := o.e
      rw [e] at h
      cases h
  · exact .inr h
theorem Own45.tk (o : Own45 CW H x E) (k : But [x, E] H H') : TK K H H' := fun _ _ h => o.tup h k
theorem Own45.ct (o : Own45 CW H x E) {v : V} (h : CtA K CT H v c) (k : But [x, E] H H') : CtA K CT H' v c := by
  obtain ⟨co, dx, q, ws, rfl, h1, h2, h3⟩ := h
  refine ⟨co, dx, q, ws, rfl, k _ _ h1 fun z => ?_, o.tup h2 k, h3.tk (o.tk k)⟩
  rcases List.mem_cons.mp z with rfl | z
  · obtain ⟨dx', t, co', e⟩ := o.x
    rw [h1] at e
    injection e with e
    injection e with _ _ e
    unfold ctF wlF at e
    injection e with e
    injection e with e
    exact absurd e (by decide)
  · rw [List.mem_singleton.mp z] at h1
    obtain ⟨as, e⟩ := o.e
    rw [e] at h1
    cases h1
theorem Own45.cts (o : Own45 CW H x E) {vs : List V} {cs : List Ct} (h : CtsA K CT H vs cs) (k : But [x, E] H H') : CtsA K CT H' vs cs := by
  induction h with
  | nil => exact .nil
  | cons a _ ih => exact .cons (o.ct a k) ih
theorem CtA.same {v : V} (h : CtA K CT H v c) (s : Same H H') : CtA K CT H' v c := by
  obtain ⟨co, dx, q, ws, rfl, h1, h2, h3⟩ := h
  exact ⟨co, dx, q, ws, rfl, s _ _ h1, (TK.same s) _ _ h2, h3.tk (.same s)⟩
theorem CtsA.same {vs : List V} {cs : List Ct} (h : CtsA K CT H vs cs) (s : Same H H') : CtsA K CT H' vs cs := by
  induction h with
  | nil => exact .nil
  | cons a _ ih => exact .cons (a.same s) ih
theorem CtsA.snoc {vs : List V} {cs : List Ct} {v : V} (h : CtsA K CT H vs cs) (a : CtA K CT H v c) : CtsA K CT H (vs ++ [v]) (cs ++ [c]) := by
  induction h with
  | nil => exact .cons a .nil
  | cons b _ ih => exact .cons b ih
theorem CtsA.len {vs : List V} {cs : List Ct} (h : CtsA K CT H vs cs) : vs.length = cs.length := by
  induction h with
  | nil => rfl
  | cons _ _ ih => rw [List.length_cons, List.length_cons, ih]
theorem Tar.same (h : Tar K C H t p L) (s : Same H H') : Tar K C H' t p L := by
  obtain ⟨⟨dx, h1⟩, h2⟩ := h
  exact ⟨⟨dx, s _ _ h1⟩, h2.tk (.same s)⟩
/-- a wallet: its present content, the earlier ones -/
structure WlA (K : PySem.W.Frag) (C CT CW : Addr) (H : Hp) (x E t p : Addr) (L : List (Int × Int)) (c : Ct) (es : List Ct) : Prop where
  ix : ∃ dx co, H x = some (.ins CW dx (wlF t co E)) ∧ CtA K CT H (.ref co) c
  ie : ∃ as, H E = some (.lst as) ∧ CtsA K CT H as es
  ta : Tar K C H t p L
theorem WlA.same (h : WlA K C CT CW H x E t p L c es) (s : Same H H') : WlA K C CT CW H' x E t p L c es := by
  obtain ⟨⟨dx, co, h1, h2⟩, ⟨as, h3, h4⟩, h5⟩ := h
  exact ⟨⟨dx, co, s _ _ h1, h2.same s⟩, ⟨as, s _ _ h3, h4.same s⟩, h5.same s⟩
theorem WlA.own (h : WlA K C CT CW H x E t p L c es) : Own45 CW H x E := by
  obtain ⟨⟨dx, co, h1, h2⟩, ⟨as, h3, h4⟩, h5⟩ := h
  exact ⟨⟨dx, t, co, h1⟩, as, h3⟩
theorem Own45.tar (o : Own45 CW H x E) (h : Tar K C H t p L) (k : But [x, E] H H') : Tar K C H' t p L := by
  obtain ⟨⟨dx, h1⟩, h2⟩ := h
  refine ⟨⟨dx, k _ _ h1 fun z => ?_⟩, h2.tk (o.tk k)⟩
  rcases List.mem_cons.mp z with rfl | z
  · obtain ⟨dx', t', co', e⟩ := o.x
    rw [h1] at e
    injection e with e
    injection e with _ _ e
    unfold wlF at e
    injection e with e
    injection e with e
    exact absurd e (by decide)
  · rw [List.mem_singleton.mp z] at h1
    obtain ⟨as, e⟩ := o.e
    rw [e] at h1
    cases h1
theorem WlA.ne (h : WlA K C CT CW H x E t p L c es) : x ≠ E := fun z => by
  obtain ⟨⟨dx, t', co, h1⟩, as, h3⟩ := h.own
  rw [z, h3] at h1
  cases h1
end
section
variable {P : Program} {w : World} {K : PySem.W.Frag} {mg : Str → Option Value} {base : Heap} {CT CW cN cNp cP fCt fWi fVC fVP fNp : Addr} {dCt dWi dVC dVP dNp : FuncData} {mp : Value}
theorem ok_NpI {k : Nat} (T : TE1 K mg "NoPass" "day" sNpI cNp cP fNp dNp mp) : FnOk P w K mg base CX0 (k + 1) fNp dNp ["self", "day"] (spX1 K "day") := by
  have u : Fun K "__init__" "NoPass.__init__" sNpI fNp dNp := T.u
  refine u.ok scNpI (fun vs H Q E h => ?_) (fun cdv A outer s H vs Q E hr h => ?_)
  · obtain ⟨a, C', y, rfl, _⟩ := h
    rfl
  · obtain ⟨a, C', y, rfl, hx, hf, ha, q⟩ := h
    refine ⟨_, pss_cons (ps_expr (pe_pinit (by rfl) T.p.gB T.p.rd T.p.ga T.p.at_ (pa_cons (pv 0) (pa_cons pe_str pa_nil)))) (pss_one (ps_ost (pv 0) (pv 1))), ?_⟩
    refine ⟨_, rfl, a, C', _, rfl, by decide, hx, ha, _, rfl, _, rfl, a, C', rfl, hx, hf, .inl ⟨ha, fun dx h1 h2 => q dx h1 h2⟩⟩
theorem ok_IoI {k : Nat} {cIo fIo : Addr} {dIo : FuncData} (T : TE1 K mg "InvalidOperation" "index" sIoI cIo cP fIo dIo mp) : FnOk P w K mg base CX0 (k + 1) fIo dIo ["self", "index"] (spX1 K "index") := by
  have u : Fun K "__init__" "InvalidOperation.__init__" sIoI fIo dIo := T.u
  refine u.ok scIoI (fun vs H Q E h => ?_) (fun cdv A outer s H vs Q E hr h => ?_)
  · obtain ⟨a, C', y, rfl, _⟩ := h
    rfl
  · obtain ⟨a, C', y, rfl, hx, hf, ha, q⟩ := h
    refine ⟨_, pss_cons (ps_expr (pe_pinit (by rfl) T.p.gB T.p.rd T.p.ga T.p.at_ (pa_cons (pv 0) (pa_cons pe_str pa_nil)))) (pss_one (ps_ost (pv 0) (pv 1))), ?_⟩
    refine ⟨_, rfl, a, C', _, rfl, by decide, hx, ha, _, rfl, _, rfl, a, C', rfl, hx, hf, .inl ⟨ha, fun dx h1 h2 => q dx h1 h2⟩⟩
def spCtI (CT : Addr) : Sp := fun vs H Q _ => ∃ (a dx q : Addr) (c : Ct), vs = [.ref a, .int c.day, .int c.total, .ref q, .int c.un] ∧ H a = some (.ins CT dx []) ∧ ∀ H', (∀ b o, H b = some o → b ≠ a → H' b = some o) → H' a = some (.ins CT dx (ctF c q)) → Q .non H'
theorem ok_ctI {k : Nat} (T : TW K mg CT CW cN cNp cP fCt fWi fVC fVP fNp dCt dWi dVC dVP dNp mp) : FnOk P w K mg base CX0 (k + 1) fCt dCt ["self", "day", "total", "bought", "until"] (spCtI CT) := by
  refine T.uT.ok scCtI (fun vs H Q E h => ?_) (fun cdv A outer s H vs Q E hr h => ?_)
  · obtain ⟨a, dx, q, c, rfl, _⟩ := h
    rfl
  · obtain ⟨a, dx, qa, c, rfl, ha, q⟩ := h
    refine ⟨_, pss_cons (ps_fld (pv 0) (pv 1) rfl) (pss_cons (ps_fld (pv 0) (pv 2) rfl) (pss_cons (ps_fld (pv 0) (pv 3) rfl) (pss_one (ps_fld (pv 0) (pv 4) rfl)))), ?_⟩
    refine ⟨_, rfl, _, rfl, a, CT, dx, [], rfl, ha, T.clT, T.nD, by decide, ?_⟩
    refine ⟨_, rfl, _, rfl, a, CT, dx, _, rfl, upd_same, T.clT, T.nT, show 1 < 1000 by decide, ?_⟩
    refine ⟨_, rfl, _, rfl, a, CT, dx, _, rfl, upd_same, T.clT, T.nB, show 2 < 1000 by decide, ?_⟩
    refine ⟨_, rfl, _, rfl, a, CT, dx, _, rfl, upd_same, T.clT, T.nU, show 3 < 1000 by decide, ?_⟩
    exact q _ (fun b o e n => by rw [upd_ne n, upd_ne n, upd_ne n, upd_ne n]; exact e) upd_same
end
end Sea

set_option Elab.async false
set_option linter.all false
set_option maxRecDepth 100000
set_option maxHeartbeats 4000000
/-! class Wallet: the getters, replace, buy -/
namespace Sea
open PySem PySem.Spec PyProof.Rows L2 LamX NdefX ClX Evl StX
abbrev NBy : List Str := ["self", "index", "length", "price", "now", "until"]
theorem scWlBy : FnScope NBy ["self", "index"] (defScope sWlBy) := ⟨rfl, rfl, rfl, by decide +kernel, rfl, by decide +kernel, by decide +kernel⟩
theorem ev_fldx {K : PySem.W.Frag} {σ : L2.St} {H : Hp} {te : TE} {f : Str} {a D dx : Addr} {fs : List (Str × V)} {v : V} (h : Ev te σ H (.ref a)) (ha : H a = some (.ins D dx fs)) (c : Cls K D) (n : NoAttr K D f) (l : fs.lookup f = some v) : Ev (tFld K te f) σ H v :=
  fun H1 e Q q => h H1 e _ fun H2 e2 => ⟨a, D, dx, _, v, rfl, (e.trans e2) _ _ ha, c, n, l, q H2 e2⟩
theorem ev_passes {K : PySem.W.Frag} {σ : L2.St} {H : Hp} {te : TE} {C t p : Addr} {L : List (Int × Int)} (h : Ev te σ H (.ref t)) (ta : Tar K C H t p L) : Ev (tProp C (getSp C "offers") [] E0 te) σ H (.ref p) := fun H1 e Q q =>
  h H1 e _ fun H2 e2 => (ta.same (e.trans e2)).1.elim fun dx hx => ⟨t, dx, _, rfl, hx, t, dx, _, .ref p, rfl, hx, rfl, q H2 e2⟩
/-- the methods' facts -/
structure TWm (K : PySem.W.Frag) (CW fTd pTd fSp pSp fPu pPu fIc pIc fRe fBy fPd fPs fUn : Addr) (dTd dSp dPu dIc dRe dBy dPd dPs dUn : FuncData) : Prop where
  pTd : PropOf K CW "today" pTd fTd
  uTd : Fun K "today" "Wallet.today" sWlTd fTd dTd
  pSp : PropOf K CW "spent" pSp fSp
  uSp : Fun K "spent" "Wallet.spent" sWlSp fSp dSp
  pPu : PropOf K CW "purchases" pPu fPu
  uPu : Fun K "purchases" "Wallet.purchases" sWlPu fPu dPu
  pIc : PropOf K CW "is_covered" pIc fIc
  uIc : Fun K "is_covered" "Wallet.is_covered" sWlIc fIc dIc
  mRe : Meth K CW "replace" fRe
  uRe : Fun K "replace" "Wallet.replace" sWlRe fRe dRe
  mBy : Meth K CW "buy" fBy
  uBy : Fun K "buy" "Wallet.buy" sWlBy fBy dBy
  mPd : Meth K CW "pass_day" fPd
  uPd : Fun K "pass_day" "Wallet.pass_day" sWlPd fPd dPd
  mPs : Meth K CW "pass_days" fPs
  uPs : Fun K "pass_days" "Wallet.pass_days" sWlPs fPs dPs
  mUn : Meth K CW "undo" fUn
  uUn : Fun K "undo" "Wallet.undo" sWlUn fUn dUn
def spInt (K : PySem.W.Frag) (C CT CW : Addr) (f : Ct → Int) : Sp := fun vs H Q _ => ∃ (x E t p : Addr) (L : List (Int × Int)) (c : Ct) (es : List Ct), vs = [.ref x] ∧ WlA K C CT CW H x E t p L c es ∧ ∀ H', Same H H' → Q (.int (f c)) H'
def spPu (K : PySem.W.Frag) (C CT CW : Addr) : Sp := fun vs H Q _ => ∃ (x E t p : Addr) (L : List (Int × Int)) (c : Ct) (es : List Ct), vs = [.ref x] ∧ WlA K C CT CW H x E t p L c es ∧ ∀ r ws H', Same H H' → H r = none → H' r = some (.lst ws) → PsV K H' ws c.bt → Q (.ref r) H'
def spIc (K : PySem.W.Frag) (C CT CW : Addr) : Sp := fun vs H Q _ => ∃ (x E t p : Addr) (L : List (Int × Int)) (c : Ct) (es : List Ct), vs = [.ref x] ∧ WlA K C CT CW H x E t p L c es ∧ ∀ H', Same H H' → Q (.bl (decide (c.day < c.un))) H'
/-- another content: the present one is kept -/
def spRe (K : PySem.W.Frag) (C CT CW : Addr) : Sp := fun vs H Q _ => ∃ (x E t p : Addr) (L : List (Int × Int)) (c c' : Ct) (es : List Ct) (v : V), vs = [.ref x, v] ∧ WlA K C CT CW H x E t p L c es ∧ CtA K CT H v c' ∧ es.length ≤ 1000 ∧
  ∀ H', But [x, E] H H' → WlA K C CT CW H' x E t p L c' (es ++ [c]) → Q .non H'
/-- what a purchase makes of a content -/
def byC (c : Ct) (i : Int) (z : Int × Int) : Ct := ⟨c.day, c.total + z.2, c.bt ++ [(c.day, i)], if c.day + z.1 > c.un then c.day + z.1 else c.un⟩
def spBy (K : PySem.W.Frag) (C CT CW cU : Addr) : Sp := fun vs H Q E => ∃ (x El t p : Addr) (L : List (Int × Int)) (c : Ct) (es : List Ct) (i : Int), vs = [.ref x, .int i] ∧ WlA K C CT CW H x El t p L c es ∧ L.length ≤ 1000 ∧ es.length ≤ 1000 ∧ c.bt.length ≤ 1000 ∧
  (∀ (n : Nat) z, i = (n : Int) → L[n]? = some z → ∀ H', But [x, El] H H' → WlA K C CT CW H' x El t p L (byC c i z) (es ++ [c]) → Q (.int ((byC c i z).un - 1)) H') ∧ (¬ (0 ≤ i ∧ i < L.length) → ∀ H', Same H H' → E (.ref cU) none H')
section
variable {P : Program} {w : World} {K : PySem.W.Frag} {mg : Str → Option Value} {base : Heap} {C cI cU fI fP pP CT CW cN cNp cP fCt fWi fVC fVP fNp fTd pTd fSp pSp fPu pPu fIc pIc fRe fBy fPd fPs fUn : Addr} {mc mp : Value} {fdP dCt dWi dVC dVP dNp dTd dSp dPu dIc dRe dBy dPd dPs dUn : FuncData}
/-- its present content, read off it -/
theorem WlA.cont (T : TW K mg CT CW cN cNp cP fCt fWi fVC fVP fNp dCt dWi dVC dVP dNp mp) {H : Hp} {x E t p : Addr} {L : List (Int × Int)} {c : Ct} {es : List Ct} (h : WlA K C CT CW H x E t p L c es) :
    ∃ co dc q ws, H co = some (.ins CT dc (ctF c q)) ∧ SqT K H q ws ∧ PsV K H ws c.bt ∧ ∀ {σ : L2.St} {te : TE} {H1 : Hp}, Ex H H1 → Ev te σ H1 (.ref x) → Ev (tFld K te "content") σ H1 (.ref co) := by
  obtain ⟨⟨dx, co, h1, co', dc, q, ws, e, h2, h3, h4⟩, _⟩ := h
  cases e
  exact ⟨co, dc, q, ws, h2, h3, h4, fun e1 hv => ev_fldx hv (e1 _ _ h1) T.clW T.nC rfl⟩
theorem ev_off (T : TW K mg CT CW cN cNp cP fCt fWi fVC fVP fNp dCt dWi dVC dVP dNp mp) {H : Hp} {x E t p : Addr} {L : List (Int × Int)} {c : Ct} {es : List Ct} (h : WlA K C CT CW H x E t p L c es) {σ : L2.St} {te : TE} (hv : Ev te σ H (.ref x)) : Ev (tFld K te "offer") σ H (.ref t) := by
  obtain ⟨⟨dx, co, h1, _⟩, _⟩ := h
  exact ev_fldx hv h1 T.clW T.nO rfl
/-- a content is made -/
theorem ct_new {H : Hp} {Q : VK} {E : XK} {x dx q : Addr} {c : Ct} {ws : List V} (hq : SqT K H q ws) (hp : PsV K H ws c.bt) (nx : H x = none) (ndx : H dx = none) (k : ∀ H', Same H H' → CtA K CT H' (.ref x) c → Q .non H') :
    spCtI CT [.ref x, .int c.day, .int c.total, .ref q, .int c.un] (upd (upd H dx (.own x)) x (.ins CT dx [])) Q E := by
  refine ⟨x, dx, q, c, rfl, upd_same, fun H' keep at_ => ?_⟩
  have s : Same H H' := fun b o e => keep b o (by
    rw [upd_ne (ne_of_none e nx), upd_ne (ne_of_none e ndx)]
    exact e) (ne_of_none e nx)
  exact k H' s ⟨x, dx, q, ws, rfl, at_, (TK.same s) _ _ hq, hp.tk (.same s)⟩
theorem ok_td {k : Nat} (T : TW K mg CT CW cN cNp cP fCt fWi fVC fVP fNp dCt dWi dVC dVP dNp mp) (M : TWm K CW fTd pTd fSp pSp fPu pPu fIc pIc fRe fBy fPd fPs fUn dTd dSp dPu dIc dRe dBy dPd dPs dUn) : FnOk P w K mg base CX0 (k + 1) fTd dTd ["self"] (spInt K C CT CW Ct.day) := by
  refine M.uTd.ok scWlTd (fun vs H Q E h => ?_) (fun cdv A outer s H vs Q E hr h => ?_)
  · obtain ⟨x, El, t, p, L, c, es, rfl, _⟩ := h
    rfl
  · obtain ⟨x, El, t, p, L, c, es, rfl, wl, q⟩ := h
    refine ⟨_, pss_one (ps_ret (pe_fld (pe_fld (pv 0) rfl) rfl)), ?_⟩
    obtain ⟨co, dc, qa, ws, h2, h3, h4, ec⟩ := wl.cont T
    exact s_ret (ev_fldx (ec (Ex.refl _) (ev_var rfl)) h2 T.clT T.nD rfl) fun H1 e1 => q H1 e1
theorem ok_sp {k : Nat} (T : TW K mg CT CW cN cNp cP fCt fWi fVC fVP fNp dCt dWi dVC dVP dNp mp) (M : TWm K CW fTd pTd fSp pSp fPu pPu fIc pIc fRe fBy fPd fPs fUn dTd dSp dPu dIc dRe dBy dPd dPs dUn) : FnOk P w K mg base CX0 (k + 1) fSp dSp ["self"] (spInt K C CT CW Ct.total) := by
  refine M.uSp.ok scWlSp (fun vs H Q E h => ?_) (fun cdv A outer s H vs Q E hr h => ?_)
  · obtain ⟨x, El, t, p, L, c, es, rfl, _⟩ := h
    rfl
  · obtain ⟨x, El, t, p, L, c, es, rfl, wl, q⟩ := h
    refine ⟨_, pss_one (ps_ret (pe_fld (pe_fld (pv 0) rfl) rfl)), ?_⟩
    obtain ⟨co, dc, qa, ws, h2, h3, h4, ec⟩ := wl.cont T
    exact s_ret (ev_fldx (ec (Ex.refl _) (ev_var rfl)) h2 T.clT T.nT rfl) fun H1 e1 => q H1 e1
theorem ok_ic {k : Nat} (T : TW K mg CT CW cN cNp cP fCt fWi fVC fVP fNp dCt dWi dVC dVP dNp mp) (M : TWm K CW fTd pTd fSp pSp fPu pPu fIc pIc fRe fBy fPd fPs fUn dTd dSp dPu dIc dRe dBy dPd dPs dUn) : FnOk P w K mg base CX0 (k + 1) fIc dIc ["self"] (spIc K C CT CW) := by
  refine M.uIc.ok scWlIc (fun vs H Q E h => ?_) (fun cdv A outer s H vs Q E hr h => ?_)
  · obtain ⟨x, El, t, p, L, c, es, rfl, _⟩ := h
    rfl
  · obtain ⟨x, El, t, p, L, c, es, rfl, wl, q⟩ := h
    refine ⟨_, pss_one (ps_ret (pe_cmpR op_gt (pe_fld (pe_fld (pv 0) rfl) rfl) (pe_fld (pe_fld (pv 0) rfl) rfl) (nomark _))), ?_⟩
    obtain ⟨co, dc, qa, ws, h2, h3, h4, ec⟩ := wl.cont T
    exact s_ret (ev_op (ev_fldx (ec (Ex.refl _) (ev_var rfl)) h2 T.clT T.nU rfl) (ev_fldx (ec (Ex.refl _) (ev_var rfl)) h2 T.clT T.nD rfl) (rv_I0 (g := fun i j => .bl (decide (j < i))))) fun H1 e1 => q H1 e1
theorem ok_pu {k : Nat} (T : TW K mg CT CW cN cNp cP fCt fWi fVC fVP fNp dCt dWi dVC dVP dNp mp) (M : TWm K CW fTd pTd fSp pSp fPu pPu fIc pIc fRe fBy fPd fPs fUn dTd dSp dPu dIc dRe dBy dPd dPs dUn) : FnOk P w K mg base CX0 (k + 1) fPu dPu ["self"] (spPu K C CT CW) := by
  refine M.uPu.ok scWlPu (fun vs H Q E h => ?_) (fun cdv A outer s H vs Q E hr h => ?_)
  · obtain ⟨x, El, t, p, L, c, es, rfl, _⟩ := h
    rfl
  · obtain ⟨x, El, t, p, L, c, es, rfl, wl, q⟩ := h
    refine ⟨_, pss_one (ps_ret (pe_callTy call_list_of (by rfl) T.mL (by rfl) (pa_cons (pe_fld (pe_fld (pv 0) rfl) rfl) pa_nil))), ?_⟩
    obtain ⟨co, dc, qa, ws, h2, h3, h4, ec⟩ := wl.cont T
    refine (ev_fldx (ec (Ex.refl _) (ev_var rfl)) h2 T.clT T.nB rfl : Ev _ [some (.ref x)] H (.ref qa)) H (Ex.refl _) _ fun H1 e1 => ?_
    refine ⟨qa, ws, rfl, .inr ((TK.same e1) _ _ h3), fun l nl => ?_⟩
    have s2 := same_new (o := .lst ws) nl
    have nl0 : H l = none := by
      cases e : H l with
      | none => rfl
      | some o => rw [e1 _ _ e] at nl; cases nl
    exact q l ws _ (Same.trans e1 s2) nl0 upd_same (h4.tk (.same (Same.trans e1 s2)))
theorem ok_re {k : Nat} (T : TW K mg CT CW cN cNp cP fCt fWi fVC fVP fNp dCt dWi dVC dVP dNp mp) (M : TWm K CW fTd pTd fSp pSp fPu pPu fIc pIc fRe fBy fPd fPs fUn dTd dSp dPu dIc dRe dBy dPd dPs dUn) : FnOk P w K mg base CX0 (k + 1) fRe dRe ["self", "content"] (spRe K C CT CW) := by
  refine M.uRe.ok scWlRe (fun vs H Q E h => ?_) (fun cdv A outer s H vs Q E hr h => ?_)
  · obtain ⟨x, El, t, p, L, c, c', es, v, rfl, _⟩ := h
    rfl
  · obtain ⟨x, El, t, p, L, c, c', es, v, rfl, wl, hc', few, q⟩ := h
    refine ⟨_, pss_cons (ps_expr (pe_bm PySem.F.plainAttrs_list PySem.F.slot_list_append PySem.F.type_list_append mt_append (pe_fld (pv 0) rfl) (pa_cons (pe_fld (pv 0) rfl) pa_nil))) (pss_one (ps_fld (pv 0) (pv 1) rfl)), ?_⟩
    have own := wl.own
    have ne := wl.ne
    obtain ⟨⟨dx, co, h1, hc⟩, ⟨as, h3, h4⟩, h5⟩ := wl
    have few2 := h4.len
    refine ⟨_, rfl, x, CW, dx, _, _, rfl, h1, T.clW, T.nE, rfl, .inl ⟨rfl, as, .of h3⟩, _, rfl, x, CW, dx, _, _, rfl, h1, T.clW, T.nC, rfl, El, as, .ref co, rfl, rfl, h3, by rw [sizeLine_eq]; omega, ?_⟩
    have h1' : (upd H El (.lst (as ++ [.ref co]))) x = some (.ins CW dx (wlF t co El)) := by
      rw [upd_ne ne]
      exact h1
    refine ⟨v, rfl, .ref x, rfl, x, CW, dx, _, rfl, h1', T.clW, T.nC, show 3 < 1000 by decide, ?_⟩
    have k1 : But [x, El] H (upd (upd H El (.lst (as ++ [.ref co]))) x (.ins CW dx (putF "content" v (wlF t co El)))) := (But.put (List.mem_cons_of_mem _ List.mem_cons_self)).trans (But.put List.mem_cons_self)
    obtain ⟨co', dc', q', ws', rfl, _⟩ := id hc'
    refine q _ k1 ⟨⟨dx, co', upd_same, own.ct hc' k1⟩, ⟨as ++ [.ref co], ?_, own.cts (h4.snoc hc) k1⟩, own.tar h5 k1⟩
    rw [upd_ne (Ne.symm ne)]
    exact upd_same
end
end Sea

set_option Elab.async false
set_option linter.all false
set_option maxRecDepth 100000
set_option maxHeartbeats 4000000
/-! a list == [] -/
namespace Sea
open PySem PySem.Spec PyProof.Rows L2
/-- xs == [] -/
def rEqNil : R2 := fun x y H Q => ∃ a b xs, x = .ref a ∧ y = .ref b ∧ H a = some (.lst xs) ∧ H b = some (.lst []) ∧ Q (.bl (decide (xs.length = 0))) H
theorem op_eqNil {X : Cx} (hu : X.A.units < cLine) : OpR X (compareOp .Eq) rEqNil := by
  intro pins s σ H x y v u Q I rx ry h
  obtain ⟨a, b, xs, rfl, rfl, ha, hb, q⟩ := h
  obtain rfl : v = .ref a := rx
  obtain rfl : u = .ref b := ry
  obtain ⟨its, r, pl, hz⟩ := I.list (.of ha)
  obtain ⟨its2, r2, pl2, hz2⟩ := I.list (.of hb)
  cases r2
  have ln := r.length
  show wpAny _ _ (richCompare .Eq (.ref a) (.ref b)) _ _ _
  by_cases c : xs.length = 0
  · rw [decide_eq_true c] at q
    refine PySem.SeqAt.rcP_lists (e := fun _ => true) pl.isList pl2.isList (by rw [List.size_toArray, List.size_toArray]; show its.length = 0; omega) hu (fun j h1 h2 => absurd h2 (Nat.not_lt_zero _)) _ _ ?_
    exact ⟨.bl true, H, I, by
      show Value.bool _ = Value.bool true
      congr 1
      simp, q⟩
  · rw [decide_eq_false c] at q
    have ne : (its.toArray.size != (#[] : Array Value).size) = true := by
      simp
      intro z
      rw [z] at ln
      exact c (by rw [ln]; rfl)
    exact PySem.SeqAt.RcAt.lists_lengths pl.isList pl2.isList ne hu _ _ _ _ ⟨.bl false, H, I, rfl, q⟩
end Sea

set_option Elab.async false
set_option linter.all false
set_option maxRecDepth 100000
set_option maxHeartbeats 4000000
/-! class Wallet: buy, pass_day, undo -/
namespace Sea
open PySem PySem.Spec PyProof.Rows L2 LamX NdefX ClX Evl StX
abbrev NPd : List Str := ["self", "travels", "now"]
theorem scWlPd : FnScope NPd ["self", "travels"] (defScope sWlPd) := ⟨rfl, rfl, rfl, by decide +kernel, rfl, by decide +kernel, by decide +kernel⟩
theorem scWlUn : FnScope ["self"] ["self"] (defScope sWlUn) := ⟨rfl, rfl, rfl, by decide +kernel, rfl, by decide +kernel, by decide +kernel⟩
theorem ev_max2 {ta tb : TE} {σ : L2.St} {H : Hp} {i j : Int} (h1 : Ev ta σ H (.int i)) (h2 : Ev tb σ H (.int j)) : Ev (tCB (fun xs H Q => ∃ i j, xs = [V.int i, .int j] ∧ Q (.int (if j > i then j else i)) H) (tCons ta (tCons tb tNil))) σ H (.int (if j > i then j else i)) := fun H1 e Q q =>
  h1 H1 e _ fun H2 e2 => h2 H2 (e.trans e2) _ fun H3 e3 => ⟨i, j, rfl, q H3 (e2.trans e3)⟩
theorem ev_min2 {ta tb : TE} {σ : L2.St} {H : Hp} {i j : Int} (h1 : Ev ta σ H (.int i)) (h2 : Ev tb σ H (.int j)) : Ev (tCB (fun xs H Q => ∃ i j, xs = [V.int i, .int j] ∧ Q (.int (if j < i then j else i)) H) (tCons ta (tCons tb tNil))) σ H (.int (if j < i then j else i)) := fun H1 e Q q =>
  h1 H1 e _ fun H2 e2 => h2 H2 (e.trans e2) _ fun H3 e3 => ⟨i, j, rfl, q H3 (e2.trans e3)⟩
/-- a day later, or some -/
def dayC (c : Ct) (d : Int) : Ct := ⟨d, c.total, c.bt, if d > c.un then d else c.un⟩
/-- a day passes -/
def spPd (K : PySem.W.Frag) (C CT CW cN cNp : Addr) : Sp := fun vs H Q E => ∃ (x El t p : Addr) (L : List (Int × Int)) (c : Ct) (es : List Ct) (b : Bool), vs = [.ref x, .bl b] ∧ WlA K C CT CW H x El t p L c es ∧ es.length ≤ 1000 ∧
  (¬ (b = true ∧ c.un ≤ c.day) → c.day ≠ 1000000000000000000 → ∀ H', But [x, El] H H' → WlA K C CT CW H' x El t p L (dayC c (c.day + 1)) (es ++ [c]) → Q (.int (c.day + 1)) H') ∧
  (¬ (b = true ∧ c.un ≤ c.day) → c.day = 1000000000000000000 → ∀ H', Same H H' → E (.ref cN) none H') ∧
  (b = true → c.un ≤ c.day → ∀ dd H', Same H H' → H' dd = some (.xd [("day", .int c.day)]) → E (.ref cNp) (some dd) H')
/-- the latest operation is taken back -/
def spUn (K : PySem.W.Frag) (C CT CW : Addr) : Sp := fun vs H Q _ => ∃ (x El t p : Addr) (L : List (Int × Int)) (c : Ct) (es : List Ct), vs = [.ref x] ∧ WlA K C CT CW H x El t p L c es ∧ es.length ≤ 1000 ∧
  (es = [] → ∀ H', Same H H' → Q (.bl false) H') ∧ (∀ es' c', es = es' ++ [c'] → ∀ H', But [x, El] H H' → WlA K C CT CW H' x El t p L c' es' → Q (.bl true) H')
theorem PsV.snoc {K : PySem.W.Frag} {H : Hp} {vs : List V} {L : List (Int × Int)} {v : V} {z : Int × Int} (h : PsV K H vs L) (a : PrV K H v z) : PsV K H (vs ++ [v]) (L ++ [z]) := by
  induction h with
  | nil => exact .cons a .nil
  | cons b _ ih => exact .cons b ih
theorem CtsA.back {K : PySem.W.Frag} {CT : Addr} {H : Hp} {vs : List V} : ∀ {es : List Ct} {c : Ct}, CtsA K CT H vs (es ++ [c]) → ∃ us v, vs = us ++ [v] ∧ CtsA K CT H us es ∧ CtA K CT H v c := by
  induction vs with
  | nil =>
    intro es c h
    cases es <;> cases h
  | cons a vs ih =>
    intro es c h
    cases es with
    | nil =>
      cases h with
      | cons h1 h2 =>
        cases h2
        exact ⟨[], a, rfl, .nil, h1⟩
    | cons e es =>
      cases h with
      | cons h1 h2 =>
        obtain ⟨us, v, rfl, h3, h4⟩ := ih h2
        exact ⟨a :: us, v, rfl, .cons h1 h3, h4⟩
section
variable {P : Program} {w : World} {K : PySem.W.Frag} {mg : Str → Option Value} {base : Heap} {C cI cU fI fP pP CT CW cN cNp cP fCt fWi fVC fVP fNp fTd pTd fSp pSp fPu pPu fIc pIc fRe fBy fPd fPs fUn : Addr} {mc mp mq : Value} {fdP dCt dWi dVC dVP dNp dTd dSp dPu dIc dRe dBy dPd dPs dUn : FuncData}
theorem ok_by {k : Nat} (T : TW K mg CT CW cN cNp cP fCt fWi fVC fVP fNp dCt dWi dVC dVP dNp mq) (M : TWm K CW fTd pTd fSp pSp fPu pPu fIc pIc fRe fBy fPd fPs fUn dTd dSp dPu dIc dRe dBy dPd dPs dUn) (TX : TX K mg C cI cU cP fI mc mp) (TQ : TP K C fP pP fdP) :
    FnOk P w K mg base (L2.CX P w) (k + 4) fBy dBy ["self", "index"] (spBy K C CT CW cU) := by
  have bVP : Binds K dVP ["tariff", "index"] [] := T.uVP.binds (ps := ["tariff", "index"]) fun _ _ _ _ _ _ us hl => match us, hl with | [_, _], _ => rfl
  have bRe : Binds K dRe ["self", "content"] [] := M.uRe.binds (ps := ["self", "content"]) fun _ _ _ _ _ _ us hl => match us, hl with | [_, _], _ => rfl
  have bCt : Binds K dCt ["self", "day", "total", "bought", "until"] [] := T.uT.binds (ps := ["self", "day", "total", "bought", "until"]) fun _ _ _ _ _ _ us hl => match us, hl with | [_, _, _, _, _], _ => rfl
  refine M.uBy.okX scWlBy (fun vs H Q E h => ?_) (fun cdv A outer s H vs Q E hr h => ?_)
  · obtain ⟨x, El, t, p, L, c, es, i, rfl, _⟩ := h
    rfl
  · obtain ⟨x, El, t, p, L, c, es, i, rfl, wl, lL, le, lb, q1, q2⟩ := h
    refine ⟨_, pss_cons (ps_expr (pe_call (E := E) (ok_valid (k := 0) T.uVP TX TQ) (hr.mono (by omega)) (by rfl) T.gVP T.kVP bVP .nil (passes_call (takes_of rfl rfl rfl rfl) (fun _ _ _ _ h => h)) (pa_cons (pe_fld (pv 0) rfl) (pa_cons (pv 1) pa_nil))))
      (pss_cut (ps_asg (pe_ixt (pe_passes TQ TX.cl TX.no (hr.mono (by omega)) (pe_fld (pv 0) rfl)) (pv 1)) (pg_tup rfl (pgs_cons (pg_name (i := 2) scWlBy.nd rfl (.inl rfl)) (pgs_cons (pg_name (i := 3) scWlBy.nd rfl (.inl rfl)) pgs_nil))))
      (pss_cut (ps_set (i := 4) scWlBy.nd rfl (.inl rfl) (pe_fld (pv 0) rfl))
      (pss_cut (ps_set (i := 5) scWlBy.nd rfl (.inl rfl) (pe_callB (call_max2 rfl) (by rfl) T.mX (by decide +kernel) (pa_cons (pe_fld (pv 4) rfl) (pa_cons (pe_op op_add (pe_fld (pv 4) rfl) (pv 2)) pa_nil))))
      (pss_cons (ps_expr (pe_meth (E := E0) (pv 0) T.clW M.mRe (ok_re (C := C) (k := 0) T M) (hr.mono (by omega)) bRe .nil pass0 (pa_cons (pe_make (E := E0) T.mkT (ok_ctI (k := 0) T) (hr.mono (by omega)) (by rfl) T.gT bCt .nil pass0 (pa_cons (pe_fld (pv 4) rfl) (pa_cons (pe_op op_add (pe_fld (pv 4) rfl) (pv 3)) (pa_cons (pe_op op_catA (pe_fld (pv 4) rfl) (pe_tup (pa_cons (pe_tup (pa_cons (pe_fld (pv 4) rfl) (pa_cons (pv 1) pa_nil))) pa_nil))) (pa_cons (pv 5) pa_nil))))) pa_nil)))
      (pss_one (ps_ret (pe_op op_sub (pv 5) pe_int))))))), ?_⟩
    have lt : ∀ {n : Nat}, n ≤ 1000 → n ≤ sizeLine := fun h => Nat.le_of_lt (small1000 h)
    obtain ⟨⟨dx0, co0, ix0, _⟩, _⟩ := id wl
    refine ⟨.ref x, rfl, x, CW, dx0, _, .ref t, rfl, ix0, T.clW, T.nO, rfl, _, rfl, t, p, i, L, rfl, wl.ta, fun hi => ?_, fun ni => q2 ni H (Same.refl _)⟩
    dsimp only
    obtain ⟨n, rfl⟩ := Int.eq_ofNat_of_zero_le hi.1
    have hn : n < L.length := by omega
    obtain ⟨z, hz⟩ : ∃ z, L[n]? = some z := ⟨_, List.getElem?_eq_getElem hn⟩
    have q1 := q1 n z rfl hz
    refine ⟨fun σ H' => σ = ([some (.ref x), some (.int (n : Int)), some (.int z.1), some (.int z.2), none, none] : L2.St) ∧ Same H H', ?_, ?_⟩
    · have wl1 := wl
      obtain ⟨ws, hvs, hl, hps⟩ := wl1.ta.len_eq
      obtain ⟨v, hv⟩ : ∃ v, ws[n]? = some v := ⟨_, List.getElem?_eq_getElem (by omega)⟩
      obtain ⟨r, hr', ra, rfl, hra⟩ := hps.get hv
      rw [hz] at hr'
      cases hr'
      refine (ev_op (ev_passes (ev_off (te := tVar 0) T wl1 (ev_var rfl)) wl1.ta) (ev_var rfl) (rv_ixT (v := .ref ra) (i := (n : Int)) hvs (at_nat (by omega) hv)) : Ev _ [some (.ref x), some (.int (n : Int)), none, none, none, none] H (.ref ra)) H (Ex.refl _) _ fun H2 e2 => ?_
      exact ⟨ra, _, rfl, (TK.same e2) _ _ hra, rfl, _, _, rfl, _, _, rfl, rfl, rfl, e2⟩
    rintro σ H2 ⟨rfl, s2⟩
    have wl2 := wl.same s2
    obtain ⟨co, dc, qa, ws, h2, h3, h4, ec⟩ := wl2.cont T
    refine ⟨fun σ H' => σ = ([some (.ref x), some (.int (n : Int)), some (.int z.1), some (.int z.2), some (.ref co), none] : L2.St) ∧ Same H2 H', ?_, ?_⟩
    · exact s_asg (ec (Ex.refl _) (ev_var rfl)) fun H3 e3 => ⟨rfl, e3⟩
    rintro σ H3 ⟨rfl, s3⟩
    have h23 := s3 _ _ h2
    refine ⟨fun σ H' => σ = ([some (.ref x), some (.int (n : Int)), some (.int z.1), some (.int z.2), some (.ref co), some (.int (byC c n z).un)] : L2.St) ∧ Same H3 H', ?_, ?_⟩
    · exact s_asg (ev_max2 (ev_fldx (ev_var rfl) h23 T.clT T.nU rfl) (ev_op (ev_fldx (ev_var rfl) h23 T.clT T.nD rfl) (ev_var rfl) (rv_I0 (g := fun i j => .int (i + j)) (i := c.day) (j := z.1)))) fun H4 e4 => ⟨rfl, e4⟩
    rintro σ H4 ⟨rfl, s4⟩
    have s24 := Same.trans s3 s4
    have wl4 := wl2.same s24
    have h24 := s24 _ _ h2
    obtain ⟨⟨dx, co', h1', _⟩, _⟩ := id wl4
    refine ⟨_, rfl, x, dx, _, rfl, h1', rfl, ?_⟩
    refine ⟨_, rfl, co, CT, dc, _, _, rfl, h24, T.clT, T.nD, rfl, _, rfl, co, CT, dc, _, _, rfl, h24, T.clT, T.nT, rfl, _, rfl, _, _, rfl, rfl, ?_⟩
    refine ⟨_, rfl, co, CT, dc, _, _, rfl, h24, T.clT, T.nB, rfl, _, rfl, co, CT, dc, _, _, rfl, h24, T.clT, T.nD, rfl, _, rfl, lt (show 2 ≤ 1000 by decide), fun p1 np1 => ⟨lt (show 1 ≤ 1000 by decide), fun p2 np2 => ?_⟩⟩
    have s9 : Same H4 (upd (upd H4 p1 (.tup [V.int c.day, .int (n : Int)])) p2 (.tup [V.ref p1])) := Same.trans (same_new np1) (same_new np2)
    have t1 : (upd (upd H4 p1 (.tup [V.int c.day, .int (n : Int)])) p2 (.tup [V.ref p1])) p1 = some (.tup [V.int c.day, .int (n : Int)]) := same_new np2 _ _ upd_same
    have t2 : (upd (upd H4 p1 (.tup [V.int c.day, .int (n : Int)])) p2 (.tup [V.ref p1])) p2 = some (.tup [V.ref p1]) := upd_same
    revert s9 t1 t2
    generalize upd (upd H4 p1 (.tup [V.int c.day, .int (n : Int)])) p2 (.tup [V.ref p1]) = H9
    intro s9 t1 t2
    have s29 : Same H2 H9 := Same.trans s24 s9
    have hq9 : SqT K H9 qa ws := (TK.same s29) _ _ h3
    have hp9 : PsV K H9 ws c.bt := h4.tk (.same s29)
    have hpr : PrV K H9 (.ref p1) (c.day, (n : Int)) := ⟨p1, rfl, .of t1⟩
    have lw := hp9.len
    have fin : ∀ (r : Addr) (us : List V) (H10 : Hp), Same H9 H10 → SqT K H10 r us → PsV K H10 us (byC c n z).bt → (fun v5 : V => True) (.ref r) →
        (tCons (tVar 5) tNil) ([some (.ref x), some (.int (n : Int)), some (.int z.1), some (.int z.2), some (.ref co), some (.int (byC c n z).un)] : L2.St) H10 (fun vs H1 => ∀ y dy, H1 y = none → H1 dy = none → dy ≠ y → spCtI CT (.ref y :: ((V.int c.day :: .int (c.total + z.2) :: .ref r :: vs) ++ [])) (upd (upd H1 dy (.own y)) y (.ins CT dy [])) (fun v H2 => v = .non ∧
          spRe K C CT CW (.ref x :: ([.ref y] ++ [])) H2 (fun _ H3 => (tOp (rI0 fun i j => .int (i - j)) (tVar 5) (tC (.int 1))) ([some (.ref x), some (.int (n : Int)), some (.int z.1), some (.int z.2), some (.ref co), some (.int (byC c n z).un)] : L2.St) H3 Q) E0) E0) := by
      intro r us H10 s10 hr10 hp10 _
      refine ⟨_, rfl, fun y dy ny ndy _ => ?_⟩
      refine ct_new (c := byC c n z) hr10 hp10 ny ndy fun H11 s11 hc => ⟨rfl, ?_⟩
      refine ⟨x, El, t, p, L, c, byC c n z, es, .ref y, rfl, (wl2.same s29).same (Same.trans s10 s11), hc, le, fun H12 k12 wl12 => ?_⟩
      refine (ev_op (ev_var (i := 5) rfl) ev_c (rv_I0 (g := fun i j => .int (i - j))) : Ev _ ([some (.ref x), some (.int (n : Int)), some (.int z.1), some (.int z.2), some (.ref co), some (.int (byC c n z).un)] : L2.St) H12 (.int ((byC c n z).un - 1))) H12 (Ex.refl _) _ fun H13 e13 => ?_
      exact q1 H13 (((But.same (Same.trans s2 (Same.trans s29 (Same.trans s10 s11)))).trans k12).trans (.same e13)) (wl12.same e13)
    refine ⟨qa, p2, ws, [.ref p1], rfl, rfl, hq9, .of t2, by rw [sizeLine_eq]; show ws.length + 1 ≤ _; omega, fun e => ?_, fun _ e => (by cases e), fun _ _ p3 np3 => ?_⟩
    · subst e
      refine fin p2 [.ref p1] H9 (Same.refl _) (.of t2) ?_ trivial
      have eb : c.bt = [] := by
        rw [show ([] : List V).length = 0 from rfl] at lw
        exact List.eq_nil_of_length_eq_zero lw.symm
      show PsV K H9 [.ref p1] (c.bt ++ [(c.day, (n : Int))])
      rw [eb]
      exact .cons hpr .nil
    · have s10 := same_new (o := .tup (ws ++ [V.ref p1])) np3
      exact fin p3 _ _ s10 (.of upd_same) ((hp9.snoc hpr).tk (.same s10)) trivial
theorem ok_un {k : Nat} (T : TW K mg CT CW cN cNp cP fCt fWi fVC fVP fNp dCt dWi dVC dVP dNp mq) (M : TWm K CW fTd pTd fSp pSp fPu pPu fIc pIc fRe fBy fPd fPs fUn dTd dSp dPu dIc dRe dBy dPd dPs dUn) :
    FnOk P w K mg base CX0 (k + 1) fUn dUn ["self"] (spUn K C CT CW) := by
  refine M.uUn.ok scWlUn (fun vs H Q E h => ?_) (fun cdv A outer s H vs Q E hr h => ?_)
  · obtain ⟨x, El, t, p, L, c, es, rfl, _⟩ := h
    rfl
  · obtain ⟨x, El, t, p, L, c, es, rfl, wl, le, q1, q2⟩ := h
    have hul : (A.deeper (envOfC "Wallet.undo" (defScope sWlUn) s.heap.objs.size fUn cdv)).units < cLine := by
      have := hr.un
      omega
    refine ⟨_, pss_cut (ps_if (pt_cmpR (op_eqNil hul) (pe_fld (pv 0) rfl) (pe_lst pa_nil) (nomark _)) (pss_one (ps_ret pe_bl)) pss_nil)
      (pss_cons (ps_fld (pv 0) (pe_bm0 PySem.F.plainAttrs_list PySem.F.slot_list_pop PySem.F.type_list_pop mt_pop (pe_fld (pv 0) rfl)) rfl)
      (pss_one (ps_ret pe_bl))), ?_⟩
    have own := wl.own
    have ne := wl.ne
    obtain ⟨⟨dx, co, h1, hc⟩, ⟨as, h3, h4⟩, h5⟩ := id wl
    have la := h4.len
    refine ⟨fun σ H' => σ = ([some (.ref x)] : L2.St) ∧ Same H H' ∧ es ≠ [], ?_, ?_⟩
    · refine ⟨_, rfl, x, CW, dx, _, _, rfl, h1, T.clW, T.nE, rfl, Nat.zero_le _, fun l nl => ?_⟩
      have s1 := same_new (o := .lst []) nl
      refine ⟨El, l, as, rfl, rfl, s1 _ _ h3, upd_same, ?_⟩
      refine ⟨_, rfl, ?_⟩
      by_cases c0 : as.length = 0
      · rw [decide_eq_true c0]
        exact q1 (List.eq_nil_of_length_eq_zero (by omega)) _ s1
      · rw [decide_eq_false c0]
        exact ⟨rfl, s1, fun z => c0 (by rw [la, z]; rfl)⟩
    rintro σ H1 ⟨rfl, s1, nn⟩
    obtain ⟨es', c', rfl⟩ : ∃ es' c', es = es' ++ [c'] := ⟨es.dropLast, es.getLast nn, (List.dropLast_concat_getLast nn).symm⟩
    obtain ⟨us, v, rfl, h6, h7⟩ := h4.back
    have ix1 := s1 _ _ h1
    have ie1 := s1 _ _ h3
    refine ⟨_, rfl, x, CW, dx, _, _, rfl, ix1, T.clW, T.nE, rfl, .inl ⟨rfl, us ++ [v], .of ie1⟩, El, us ++ [v], v, rfl, rfl, ie1, by rw [List.length_append]; simp, ?_⟩
    rw [List.dropLast_concat]
    have ix2 : (upd H1 El (.lst us)) x = some (.ins CW dx (wlF t co El)) := by
      rw [upd_ne ne]
      exact ix1
    refine ⟨.ref x, rfl, x, CW, dx, _, rfl, ix2, T.clW, T.nC, show 3 < 1000 by decide, ?_⟩
    have k1 : But [x, El] H1 (upd (upd H1 El (.lst us)) x (.ins CW dx (putF "content" v (wlF t co El)))) := (But.put (List.mem_cons_of_mem _ List.mem_cons_self)).trans (But.put List.mem_cons_self)
    have kk := (But.same (S := [x, El]) s1).trans k1
    obtain ⟨co', dc', q', ws', rfl, _⟩ := id h7
    refine q2 es' c' rfl _ kk ⟨⟨dx, co', upd_same, own.ct h7 kk⟩, ⟨us, ?_, own.cts h6 kk⟩, own.tar h5 kk⟩
    rw [upd_ne (Ne.symm ne)]
    exact upd_same
end
end Sea

set_option Elab.async false
set_option linter.all false
set_option maxRecDepth 100000
set_option maxHeartbeats 4000000
/-! travels_on, is_travel_day; class Wallet: pass_day, pass_days -/
namespace Sea
open PySem PySem.Spec PyProof.Rows L2 LamX NdefX ClX Evl StX
theorem scTo : FnScope ["self", "day"] ["self", "day"] (defScope sTo) := ⟨rfl, rfl, rfl, by decide +kernel, rfl, by decide +kernel, by decide +kernel⟩
theorem scItd : FnScope ["self", "day"] ["self", "day"] (defScope sItd) := ⟨rfl, rfl, rfl, by decide +kernel, rfl, by decide +kernel, by decide +kernel⟩
abbrev NPs : List Str := ["self", "travel", "count", "now", "day", "later"]
theorem scWlPs : FnScope NPs ["self", "travel", "count"] (defScope sWlPs) := ⟨rfl, rfl, rfl, by decide +kernel, rfl, by decide +kernel, by decide +kernel⟩
/-- a travel day -/
def goT (ln : Int) (ds : List Int) (i : Int) : Bool := inV (.int (i.fmod ln)) (ds.map V.int)
section
variable {te : TE} {σ : L2.St} {H : Hp}
theorem flat_ints (ns : List Int) : (ns.map V.int).all flatV = true := by
  rw [List.all_map]
  exact List.all_eq_true.mpr fun _ _ => rfl
theorem ev_int1 {n : Int} (h : Ev te σ H (.int n)) : Ev (tCB (fun xs H Q => (∃ n, xs = [V.int n] ∧ Q (.int n) H) ∨ ∃ b : Bool, xs = [V.bl b] ∧ Q (.int (if b then 1 else 0)) H) (tCons te tNil)) σ H (.int n) := fun H1 e Q q => h H1 e _ fun H2 e2 => .inl ⟨n, rfl, q H2 e2⟩
end
/-- the travel's methods -/
structure TTd (K : PySem.W.Frag) (mg : Str → Option Value) (CV fTo fItd : Addr) (dTo dItd : FuncData) : Prop where
  mT : Meth K CV "travels_on" fTo
  uT : Fun K "travels_on" "Travel.travels_on" sTo fTo dTo
  mI : Meth K CV "is_travel_day" fItd
  uI : Fun K "is_travel_day" "Travel.is_travel_day" sItd fItd dItd
  nI : mg "int" = none
def spTo (K : PySem.W.Frag) (CV : Addr) : Sp := fun vs H Q _ => ∃ (tv : Addr) (ln i : Int) (dv ov : V) (ds : List Int), vs = [.ref tv, .int i] ∧ Tv K CV H tv ln dv ov ds [] ∧ 1 ≤ ln ∧ ∀ H', Same H H' → Q (.bl (goT ln ds i)) H'
def spItd (K : PySem.W.Frag) (CV : Addr) : Sp := fun vs H Q _ => ∃ (tv : Addr) (ln i : Int) (dv ov : V) (ds : List Int), vs = [.ref tv, .int i] ∧ Tv K CV H tv ln dv ov ds [] ∧ 1 ≤ ln ∧ 0 ≤ i ∧ i ≤ 1000000000000000000 ∧ ∀ H', Same H H' → Q (.bl (goT ln ds i)) H'
/-- how far days may pass -/
def psMax (c : Ct) : Int := if 1000000000000000000 - c.day < 10000 then 1000000000000000000 - c.day else 10000
def spPs (K : PySem.W.Frag) (C CT CW CV cN cNp : Addr) : Sp := fun vs H Q E => ∃ (x El t p tv : Addr) (L : List (Int × Int)) (c : Ct) (es : List Ct) (n ln : Int) (dv ov : V) (ds : List Int), vs = [.ref x, .ref tv, .int n] ∧ WlA K C CT CW H x El t p L c es ∧ Tv K CV H tv ln dv ov ds [] ∧ 1 ≤ ln ∧ es.length ≤ 1000 ∧ 0 ≤ c.day ∧ c.day ≤ 1000000000000000000 ∧
  (¬ (0 ≤ n ∧ n ≤ psMax c) → ∀ H', Same H H' → E (.ref cN) none H') ∧
  (0 ≤ n → n ≤ psMax c → (∀ j : Nat, (j : Int) < n → ¬ (goT ln ds (c.day + j) = true ∧ c.un ≤ c.day + j)) → ∀ H', But [x, El] H H' → WlA K C CT CW H' x El t p L (dayC c (c.day + n)) (es ++ [c]) → Q (.int (c.day + n)) H') ∧
  (0 ≤ n → n ≤ psMax c → ∀ j : Nat, (j : Int) < n → (∀ i : Nat, i < j → ¬ (goT ln ds (c.day + i) = true ∧ c.un ≤ c.day + i)) → goT ln ds (c.day + j) = true → c.un ≤ c.day + j → ∀ dd H', Same H H' → H' dd = some (.xd [("day", .int (c.day + j))]) → E (.ref cNp) (some dd) H')
section
variable {P : Program} {w : World} {K : PySem.W.Frag} {mg : Str → Option Value} {base : Heap} {C CV cI cU fI fP pP CT CW cN cNp cP fCt fWi fVC fVP fVN fNp fTd pTd fSp pSp fPu pPu fIc pIc fRe fBy fPd fPs fUn fTo fItd : Addr} {mc mp mq : Value} {fdP dCt dWi dVC dVP dVN dNp dTd dSp dPu dIc dRe dBy dPd dPs dUn dTo dItd : FuncData}
theorem ok_to {k : Nat} (TV : TTv K mg CV fVN dVN) (Y : TTd K mg CV fTo fItd dTo dItd) : FnOk P w K mg base CX0 (k + 1) fTo dTo ["self", "day"] (spTo K CV) := by
  refine Y.uT.ok scTo (fun vs H Q E h => ?_) (fun cdv A outer s H vs Q E hr h => ?_)
  · obtain ⟨tv, ln, i, dv, ov, ds, rfl, _⟩ := h
    rfl
  · obtain ⟨tv, ln, i, dv, ov, ds, rfl, ht, l1, q⟩ := h
    refine ⟨_, pss_one (ps_ret (pe_cmpR op_ne (pe_cmpR op_in_seq (pe_op op_modN (pe_callTy call_int1 (by rfl) Y.nI (by rfl) (pa_cons (pv 1) pa_nil)) (pe_fld (pv 0) rfl)) (pe_fld (pv 0) rfl) (by rfl)) (pe_cmpR op_in_seq (pv 1) (pe_fld (pv 0) rfl) (by rfl)) (nomark _))), ?_⟩
    obtain ⟨⟨dx, ha⟩, ⟨pd, rfl, hd⟩, ⟨po, rfl, ho⟩⟩ := ht
    have e1 : Ev _ [some (.ref tv), some (.int i)] H (.int (i.fmod ln)) := ev_op (ev_int1 (ev_var (i := 1) rfl)) (ev_fldx (te := tVar 0) (ev_var rfl) ha TV.cl TV.nS (tvF_size ..)) (rv_I (C := fun _ j => j ≠ 0) (g := fun i j => .int (i.fmod j)) (i := i) (j := ln) (by omega))
    refine s_ret (v := .bl (goT ln ds i)) (ev_is (ev_op (ev_op e1 (ev_fldx (te := tVar 0) (ev_var rfl) ha TV.cl TV.nP (tvF_pat ..)) (rv_isT hd rfl (flat_ints _))) (ev_op (ev_var rfl) (ev_fldx (te := tVar 0) (ev_var rfl) ha TV.cl TV.nO (tvF_odd ..)) (rv_isT ho rfl (flat_ints []))) (rv_ne rfl)) ?_) fun H1 e1 => q H1 e1
    show V.bl (!decide (V.bl (goT ln ds i) = V.bl false)) = V.bl (goT ln ds i)
    cases goT ln ds i <;> rfl
theorem ok_itd {k : Nat} (T : TW K mg CT CW cN cNp cP fCt fWi fVC fVP fNp dCt dWi dVC dVP dNp mq) (TV : TTv K mg CV fVN dVN) (Y : TTd K mg CV fTo fItd dTo dItd) : FnOk P w K mg base CX0 (k + 2) fItd dItd ["self", "day"] (spItd K CV) := by
  have bV : Binds K dVC ["count", "smallest", "largest"] [] := T.uVC.binds (ps := ["count", "smallest", "largest"]) fun _ _ _ _ _ _ us hl => match us, hl with | [_, _, _], _ => rfl
  have bT : Binds K dTo ["self", "day"] [] := Y.uT.binds (ps := ["self", "day"]) fun _ _ _ _ _ _ us hl => match us, hl with | [_, _], _ => rfl
  refine Y.uI.ok scItd (fun vs H Q E h => ?_) (fun cdv A outer s H vs Q E hr h => ?_)
  · obtain ⟨tv, ln, i, dv, ov, ds, rfl, _⟩ := h
    rfl
  · obtain ⟨tv, ln, i, dv, ov, ds, rfl, ht, l1, i0, i1, q⟩ := h
    refine ⟨_, pss_cons (ps_expr (pe_call (E := E0) (ok_vc (k := 0) T.uVC T.nc) (hr.mono (by omega)) (by rfl) T.gVC T.kVC bV .nil passL (pa_cons (pv 1) (pa_cons pe_int (pa_cons (C8.pe_gc (by rfl) T.mD) pa_nil)))))
      (pss_one (ps_ret (pe_meth (E := E0) (pv 0) TV.cl Y.mT (ok_to (k := 0) TV Y) (hr.mono (by omega)) bT .nil pass0 (pa_cons (pv 1) pa_nil)))), ?_⟩
    refine ⟨_, rfl, i, 0, 1000000000000000000, rfl, fun _ H1 s1 => ?_, fun n => absurd ⟨i0, i1⟩ n⟩
    have ht1 := ht.same s1
    obtain ⟨⟨dx, ha⟩, _⟩ := id ht1
    refine ⟨_, rfl, tv, dx, _, rfl, ha, rfl, _, rfl, tv, ln, i, dv, _, ds, rfl, ht1, l1, fun H2 s2 => q H2 (s1.trans s2)⟩
theorem kb_Np (T : TE1 K mg "NoPass" "day" sNpI cNp cP fNp dNp mq) : KBn K dNp ["self", "day"] 1 ["day"] (fun us ws => us ++ ws) (fun vs zs => vs ++ zs) := by
  obtain ⟨oc, od, kV, doc, pm, an, cdv, ct, osl, rfl, lk, hcd⟩ := T.u.ex
  refine ⟨fun s us ws _ h1 h2 => ?_, fun a b => a.append b⟩
  match us, ws, h1, h2 with
  | [u], [x], _, _ => exact .of_eq rfl
end
end Sea

set_option Elab.async false
set_option linter.all false
set_option maxRecDepth 100000
set_option maxHeartbeats 4000000
/-! class Wallet: pass_day, pass_days -/
namespace Sea
open PySem PySem.Spec PyProof.Rows L2 LamX NdefX ClX Evl StX
section
variable {σ : L2.St} {H : Hp}
theorem d_call {ta : TA} {sp : Sp} {vs dvs : List V} {E : XK} {D : Ends} (hA : EvA ta σ H vs) (h : ∀ H2, Ex H H2 → sp (vs ++ dvs) H2 (fun _ H3 => D.nx σ H3) E) : tDrop (tCall sp dvs E ta) D σ H := hA H (Ex.refl _) _ fun H2 e2 => h H2 e2
theorem s_forR3 {ta : TA} {tu : TS} {D : Ends} {j : Nat} {lo n : Int} (h : EvA ta σ H [.int lo, .int n]) (hn : -(2 ^ 62) ≤ lo ∧ lo < 2 ^ 62 ∧ -(2 ^ 62) ≤ n ∧ n < 2 ^ 62) (Pv : Nat → L2.St → Hp → Prop) (h0 : ∀ H1, Ex H H1 → Pv 0 σ H1)
    (hs : ∀ (i : Nat) σ' H', lo + (i : Int) < n → Pv i σ' H' → tu { D with nx := Pv (i + 1), ct := Pv (i + 1), bk := D.nx } (σ'.set j (some (.int (lo + (i : Int))))) H') (hd : ∀ σ' H', Pv (n - lo).toNat σ' H' → D.nx σ' H') : tFor (iRng2 ta) (gName j) tu D σ H :=
  h H (Ex.refl H) _ fun H1 e => ⟨lo, n, rfl, hn, for_range (lo := lo) (n := (n - lo).toNat) Pv (h0 H1 e) (fun i σ' H' hi p => hs i σ' H' (by omega) p) hd⟩
end
section
variable {P : Program} {w : World} {K : PySem.W.Frag} {mg : Str → Option Value} {base : Heap} {C CV cI cU fI fP pP CT CW cN cNp cP fCt fWi fVC fVP fVN fNp fTd pTd fSp pSp fPu pPu fIc pIc fRe fBy fPd fPs fUn fTo fItd : Addr} {mc mp mq : Value} {fdP dCt dWi dVC dVP dVN dNp dTd dSp dPu dIc dRe dBy dPd dPs dUn dTo dItd : FuncData}
theorem ok_pd {k : Nat} (T : TW K mg CT CW cN cNp cP fCt fWi fVC fVP fNp dCt dWi dVC dVP dNp mq) (M : TWm K CW fTd pTd fSp pSp fPu pPu fIc pIc fRe fBy fPd fPs fUn dTd dSp dPu dIc dRe dBy dPd dPs dUn) :
    FnOk P w K mg base (L2.CX P w) (k + 3) fPd dPd ["self", "travels"] (spPd K C CT CW cN cNp) := by
  have bRe : Binds K dRe ["self", "content"] [] := M.uRe.binds (ps := ["self", "content"]) fun _ _ _ _ _ _ us hl => match us, hl with | [_, _], _ => rfl
  have bCt : Binds K dCt ["self", "day", "total", "bought", "until"] [] := T.uT.binds (ps := ["self", "day", "total", "bought", "until"]) fun _ _ _ _ _ _ us hl => match us, hl with | [_, _, _, _, _], _ => rfl
  have bIc : Binds K dIc ["self"] [] := M.uIc.binds (ps := ["self"]) fun _ _ _ _ _ _ us hl => match us, hl with | [_], _ => rfl
  refine M.uPd.okX scWlPd (fun vs H Q E h => ?_) (fun cdv A outer s H vs Q E hr h => ?_)
  · obtain ⟨x, El, t, p, L, c, es, b, rfl, _⟩ := h
    rfl
  · obtain ⟨x, El, t, p, L, c, es, b, rfl, wl, le, q1, q2, q3⟩ := h
    refine ⟨_, pss_cut (ps_set (i := 2) scWlPd.nd rfl (.inl rfl) (pe_fld (pv 0) rfl))
      (pss_cut (ps_if (PW.pt (pw_and (pt_val (pv 1)) (pw_and1 (pt_not (pt_val (pe_prop (pv 0) T.clW M.pIc (ok_ic (C := C) (k := 0) T M) (hr.mono (by omega)) bIc .nil pass0 rfl))))))
        (pss_one (ps_raise rfl (takes_of rfl rfl rfl rfl) (pmk_kw T.np.x T.np.i T.np.t (ok_NpI (k := 0) T.np) (hr.mono (by omega)) (kb_Np T.np) pass0 (by rfl) T.np.g (pk_cons (pe_fld (pv 2) rfl) pk_nil)))) pss_nil)
      (pss_cut (ps_if (pt_cmpR op_eq (pe_fld (pv 2) rfl) (C8.pe_gc (by rfl) T.mD) (nomark _))
        (pss_one (ps_raise rfl (takes_of rfl rfl rfl rfl) (pmk_own PySem.F.excBase_ValueError T.nc.qN T.nc.gN T.nc.kN (raises_own T.nc.sN T.nc.yN) (by rfl)))) pss_nil)
      (pss_cons (ps_expr (pe_meth (E := E0) (pv 0) T.clW M.mRe (ok_re (C := C) (k := 0) T M) (hr.mono (by omega)) bRe .nil pass0 (pa_cons (pe_make (E := E0) T.mkT (ok_ctI (k := 0) T) (hr.mono (by omega)) (by rfl) T.gT bCt .nil pass0 (pa_cons (pe_op op_add (pe_fld (pv 2) rfl) pe_int) (pa_cons (pe_fld (pv 2) rfl) (pa_cons (pe_fld (pv 2) rfl) (pa_cons (pe_callB (call_max2 rfl) (by rfl) T.mX (by decide +kernel) (pa_cons (pe_fld (pv 2) rfl) (pa_cons (pe_op op_add (pe_fld (pv 2) rfl) pe_int) pa_nil))) pa_nil))))) pa_nil)))
      (pss_one (ps_ret (pe_op op_add (pe_fld (pv 2) rfl) pe_int)))))), ?_⟩
    obtain ⟨co, dc, qa, ws, h2, h3, h4, ec⟩ := wl.cont T
    refine ⟨fun σ H' => σ = ([some (.ref x), some (.bl b), some (.ref co)] : L2.St) ∧ Same H H', ?_, ?_⟩
    · exact s_asg (ec (Ex.refl _) (ev_var rfl)) fun H3 e3 => ⟨rfl, e3⟩
    rintro σ H1 ⟨rfl, s1⟩
    have wl1 := wl.same s1
    have h21 := s1 _ _ h2
    refine ⟨fun σ H' => σ = ([some (.ref x), some (.bl b), some (.ref co)] : L2.St) ∧ Same H1 H' ∧ ¬ (b = true ∧ c.un ≤ c.day), ?_, ?_⟩
    · obtain ⟨⟨dxw, cow, hxw, _⟩, _⟩ := id wl1
      have et1 : EvT (tNot (tB (tProp CW (spIc K C CT CW) [] E0 (tVar 0)))) ([some (.ref x), some (.bl b), some (.ref co)] : L2.St) H1 (!decide (c.day < c.un)) := fun H2 e2 Q q =>
        ⟨_, rfl, x, dxw, _, rfl, e2 _ _ hxw, x, El, t, p, L, c, es, rfl, wl1.same e2, fun H3 s3 => ⟨_, rfl, q H3 s3⟩⟩
      refine s_when (b := b && !decide (c.day < c.un)) (et_and (fun H2 e2 Q q => ⟨_, rfl, b, rfl, q H2 (Ex.refl _)⟩) fun _ => et1) (fun hb H2 e2 => ?_) (fun hb H2 e2 => ⟨rfl, e2, fun z => ?_⟩)
      · rw [Bool.and_eq_true] at hb
        have hu : c.un ≤ c.day := by
          have := hb.2
          simp at this
          exact this
        refine ⟨_, rfl, co, CT, dc, _, _, rfl, e2 _ _ h21, T.clT, T.nD, rfl, mk1_in T.np.x T.np.n fun d hd => q3 hb.1 hu d _ (s1.trans (e2.trans (same_new hd))) upd_same⟩
      · rw [z.1] at hb
        simp at hb
        omega
    rintro σ H2 ⟨rfl, s2, nb⟩
    have wl2 := wl1.same s2
    have h22 := s2 _ _ h21
    refine ⟨fun σ H' => σ = ([some (.ref x), some (.bl b), some (.ref co)] : L2.St) ∧ Same H2 H' ∧ c.day ≠ 1000000000000000000, ?_, ?_⟩
    · refine s_when (b := decide (V.int c.day = V.int 1000000000000000000)) (et_test (ev_op (ev_fldx (te := tVar 2) (ev_var rfl) h22 T.clT T.nD rfl) ev_c (rv_eq rfl))) (fun hb H3 e3 => q2 nb ?_ H3 (s1.trans (s2.trans e3))) (fun hb H3 e3 => ⟨rfl, e3, fun z => ?_⟩)
      · have := of_decide_eq_true hb
        injection this
      · rw [z] at hb
        exact absurd rfl (of_decide_eq_false hb)
    rintro σ H3 ⟨rfl, s3, nm⟩
    have wl3 := wl2.same s3
    have h23 := s3 _ _ h22
    obtain ⟨⟨dx, co', h1', _⟩, _⟩ := id wl3
    have s03 := s1.trans (s2.trans s3)
    have hq := (TK.same s03) _ _ h3
    have hp := h4.tk (.same s03)
    have ef : ∀ {H4 : Hp} {f : Str} {v : V}, Same H3 H4 → NoAttr K CT f → (ctF c qa).lookup f = some v → Ev (tFld K (tVar 2) f) ([some (.ref x), some (.bl b), some (.ref co)] : L2.St) H4 v := fun s4 nf l => ev_fldx (te := tVar 2) (ev_var rfl) (s4 _ _ h23) T.clT nf l
    refine ⟨_, rfl, x, dx, _, rfl, h1', rfl, ?_⟩
    refine ⟨_, rfl, co, CT, dc, _, _, rfl, h23, T.clT, T.nD, rfl, _, _, rfl, rfl, _, rfl, co, CT, dc, _, _, rfl, h23, T.clT, T.nT, rfl, _, rfl, co, CT, dc, _, _, rfl, h23, T.clT, T.nB, rfl, ?_⟩
    refine (ev_max2 (ef (Same.refl _) T.nU rfl) (ev_op (ef (Same.refl _) T.nD rfl) ev_c (rv_I0 (g := fun i j => .int (i + j)) (i := c.day) (j := 1))) : Ev _ _ H3 (.int (dayC c (c.day + 1)).un)) H3 (Ex.refl _) _ fun H4 e4 => ?_
    intro y dy ny ndy _
    refine ct_new (c := dayC c (c.day + 1)) ((TK.same e4) _ _ hq) (hp.tk (.same e4)) ny ndy fun H5 s5 hc => ⟨rfl, ?_⟩
    refine ⟨x, El, t, p, L, c, dayC c (c.day + 1), es, .ref y, rfl, (wl3.same e4).same s5, hc, le, fun H6 k6 wl6 => ?_⟩
    have o3 := (wl3.same e4).same s5
    have h26 : H6 co = some (.ins CT dc (ctF c qa)) := by
      refine k6 _ _ (s5 _ _ (e4 _ _ h23)) fun z => ?_
      rcases List.mem_cons.mp z with rfl | z
      · obtain ⟨dx', t', co', e⟩ := wl3.own.x
        rw [h23] at e
        injection e with e
        injection e with _ _ e
        unfold ctF wlF at e
        injection e with e
        injection e with e
        exact absurd e (by decide)
      · rw [List.mem_singleton.mp z] at h23
        obtain ⟨as, e⟩ := wl3.own.e
        rw [e] at h23
        cases h23
    exact s_ret (v := .int (c.day + 1)) (ev_op (ev_fldx (te := tVar 2) (ev_var rfl) h26 T.clT T.nD rfl) ev_c (rv_I0 (g := fun i j => .int (i + j)) (i := c.day) (j := 1))) fun H7 e7 => q1 nb nm H7 (((But.same (s03.trans (e4.trans s5))).trans k6).trans (.same e7)) (wl6.same e7)
theorem ok_ps {k : Nat} (T : TW K mg CT CW cN cNp cP fCt fWi fVC fVP fNp dCt dWi dVC dVP dNp mq) (M : TWm K CW fTd pTd fSp pSp fPu pPu fIc pIc fRe fBy fPd fPs fUn dTd dSp dPu dIc dRe dBy dPd dPs dUn) (TV : TTv K mg CV fVN dVN) (Y : TTd K mg CV fTo fItd dTo dItd) :
    FnOk P w K mg base (L2.CX P w) (k + 4) fPs dPs ["self", "travel", "count"] (spPs K C CT CW CV cN cNp) := by
  have bVC : Binds K dVC ["count", "smallest", "largest"] [] := T.uVC.binds (ps := ["count", "smallest", "largest"]) fun _ _ _ _ _ _ us hl => match us, hl with | [_, _, _], _ => rfl
  have bI : Binds K dItd ["self", "day"] [] := Y.uI.binds (ps := ["self", "day"]) fun _ _ _ _ _ _ us hl => match us, hl with | [_, _], _ => rfl
  have bRe : Binds K dRe ["self", "content"] [] := M.uRe.binds (ps := ["self", "content"]) fun _ _ _ _ _ _ us hl => match us, hl with | [_, _], _ => rfl
  have bCt : Binds K dCt ["self", "day", "total", "bought", "until"] [] := T.uT.binds (ps := ["self", "day", "total", "bought", "until"]) fun _ _ _ _ _ _ us hl => match us, hl with | [_, _, _, _, _], _ => rfl
  refine M.uPs.okX scWlPs (fun vs H Q E h => ?_) (fun cdv A outer s H vs Q E hr h => ?_)
  · obtain ⟨x, El, t, p, tv, L, c, es, n, ln, dv, ov, ds, rfl, _⟩ := h
    rfl
  · obtain ⟨x, El, t, p, tv, L, c, es, n, ln, dv, ov, ds, rfl, wl, ht, l1, le, d0, d1, q1, q2, q3⟩ := h
    refine ⟨_, pss_cut (ps_expr (pe_call (E := E) (ok_vc (k := 0) T.uVC T.nc) (hr.mono (by omega)) (by rfl) T.gVC T.kVC bVC .nil (passes_call (takes_of rfl rfl rfl rfl) (fun _ _ _ _ h => h)) (pa_cons (pv 2) (pa_cons pe_int (pa_cons (pe_callB (call_min2 rfl) (by rfl) T.mM (by decide +kernel) (pa_cons (C8.pe_gc (by rfl) T.mPd) (pa_cons (pe_op op_sub (C8.pe_gc (by rfl) T.mD) (pe_fld (pe_fld (pv 0) rfl) rfl)) pa_nil))) pa_nil)))))
      (pss_cut (ps_set (i := 3) scWlPs.nd rfl (.inl rfl) (pe_fld (pv 0) rfl))
      (pss_cut (ps_for (passes_of rfl) rfl (pi_range2 (by rfl) T.mR (pa_cons (pe_fld (pv 3) rfl) (pa_cons (pe_op op_add (pe_fld (pv 3) rfl) (pv 2)) pa_nil))) (pg_name (i := 4) scWlPs.nd rfl (.inl rfl))
        (pss_one (ps_if (PW.pt (pw_and (pt_val (pe_meth (E := E0) (pv 1) TV.cl Y.mI (ok_itd (k := 0) T TV Y) (hr.mono (by omega)) bI .nil pass0 (pa_cons (pv 4) pa_nil))) (pw_and1 (pt_cmpR op_ge (pv 4) (pe_fld (pv 3) rfl) (nomark _)))))
          (pss_one (ps_raise rfl (takes_of rfl rfl rfl rfl) (pmk_kw T.np.x T.np.i T.np.t (ok_NpI (k := 0) T.np) (hr.mono (by omega)) (kb_Np T.np) pass0 (by rfl) T.np.g (pk_cons (pv 4) pk_nil)))) pss_nil)))
      (pss_cut (ps_set (i := 5) scWlPs.nd rfl (.inl rfl) (pe_op op_add (pe_fld (pv 3) rfl) (pv 2)))
      (pss_cons (ps_expr (pe_meth (E := E0) (pv 0) T.clW M.mRe (ok_re (C := C) (k := 0) T M) (hr.mono (by omega)) bRe .nil pass0 (pa_cons (pe_make (E := E0) T.mkT (ok_ctI (k := 0) T) (hr.mono (by omega)) (by rfl) T.gT bCt .nil pass0 (pa_cons (pv 5) (pa_cons (pe_fld (pv 3) rfl) (pa_cons (pe_fld (pv 3) rfl) (pa_cons (pe_callB (call_max2 rfl) (by rfl) T.mX (by decide +kernel) (pa_cons (pe_fld (pv 3) rfl) (pa_cons (pv 5) pa_nil))) pa_nil))))) pa_nil)))
      (pss_one (ps_ret (pv 5))))))), ?_⟩
    obtain ⟨co, dc, qa, ws, h2, h3, h4, ec⟩ := wl.cont T
    have em : Ev _ ([some (.ref x), some (.ref tv), some (.int n), none, none, none] : L2.St) H (.int (psMax c)) := ev_min2 (i := 10000) (j := 1000000000000000000 - c.day) ev_c (ev_op ev_c (ev_fldx (ec (te := tVar 0) (Ex.refl _) (ev_var rfl)) h2 T.clT T.nD rfl) (rv_I0 (g := fun i j => .int (i - j)) (i := 1000000000000000000) (j := c.day)))
    refine ⟨fun σ H' => σ = ([some (.ref x), some (.ref tv), some (.int n), none, none, none] : L2.St) ∧ Same H H' ∧ 0 ≤ n ∧ n ≤ psMax c, ?_, ?_⟩
    · refine d_call (ea_cons (ev_var rfl) (ea_cons ev_c (ea_cons em ea_nil))) fun H1 e1 => ?_
      exact ⟨n, 0, psMax c, rfl, fun hc H2 s2 => ⟨rfl, e1.trans s2, hc⟩, fun hc H2 s2 => q1 hc H2 (e1.trans s2)⟩
    rintro σ H1 ⟨rfl, s1, n0, n1⟩
    have nm : n ≤ 10000 ∧ n ≤ 1000000000000000000 - c.day := by
      unfold psMax at n1
      split at n1 <;> omega
    have h21 := s1 _ _ h2
    refine ⟨fun σ H' => σ = ([some (.ref x), some (.ref tv), some (.int n), some (.ref co), none, none] : L2.St) ∧ Same H1 H', ?_, ?_⟩
    · exact s_asg (ec s1 (ev_var rfl)) fun H3 e3 => ⟨rfl, e3⟩
    rintro σ H2 ⟨rfl, s2⟩
    have h22 := s2 _ _ h21
    have s02 := s1.trans s2
    have ht2 := ht.same s02
    refine ⟨fun σ H' => (∃ v4, σ = ([some (.ref x), some (.ref tv), some (.int n), some (.ref co), v4, none] : L2.St)) ∧ Same H2 H' ∧ ∀ j : Nat, (j : Int) < n → ¬ (goT ln ds (c.day + j) = true ∧ c.un ≤ c.day + j), ?_, ?_⟩
    · have ea : EvA _ ([some (.ref x), some (.ref tv), some (.int n), some (.ref co), none, none] : L2.St) H2 [.int c.day, .int (c.day + n)] := ea_cons (ev_fldx (te := tVar 3) (ev_var rfl) h22 T.clT T.nD rfl) (ea_cons (ev_op (ev_fldx (te := tVar 3) (ev_var rfl) h22 T.clT T.nD rfl) (ev_var (i := 2) rfl) (rv_I0 (g := fun i j => .int (i + j)) (i := c.day) (j := n))) ea_nil)
      refine s_forR3 ea ⟨by omega, by omega, by omega, by omega⟩ (fun i σ H' => (∃ v4, σ = ([some (.ref x), some (.ref tv), some (.int n), some (.ref co), v4, none] : L2.St)) ∧ Same H2 H' ∧ ∀ j : Nat, j < i → ¬ (goT ln ds (c.day + j) = true ∧ c.un ≤ c.day + j)) (fun H3 e3 => ⟨⟨none, rfl⟩, e3, fun j hj => absurd hj (Nat.not_lt_zero _)⟩) ?_ ?_
      · rintro i σ H4 hi0 ⟨⟨v4, rfl⟩, s4, hall⟩
        have hi : (i : Int) < n := by omega
        have ht4 := ht2.same s4
        have h24 := s4 _ _ h22
        obtain ⟨⟨dxv, hv⟩, _⟩ := id ht4
        have et1 : EvT (tB (tMeth CV "is_travel_day" (spItd K CV) [] E0 (tVar 1) (tCons (tVar 4) tNil))) ([some (.ref x), some (.ref tv), some (.int n), some (.ref co), some (.int (c.day + i)), none] : L2.St) H4 (goT ln ds (c.day + i)) := fun H5 e5 Q q =>
          ⟨_, rfl, tv, dxv, _, rfl, e5 _ _ hv, rfl, _, rfl, tv, ln, c.day + i, dv, ov, ds, rfl, ht4.same e5, l1, by omega, by omega, fun H6 s6 => ⟨_, rfl, q H6 s6⟩⟩
        refine s_when (σ := ([some (.ref x), some (.ref tv), some (.int n), some (.ref co), some (.int (c.day + i)), none] : L2.St)) (b := goT ln ds (c.day + i) && decide (c.un ≤ c.day + i)) (et_and et1 fun _ => et_test (ev_op (ev_var rfl) (ev_fldx (te := tVar 3) (ev_var rfl) h24 T.clT T.nU rfl) (rv_I0 (g := fun i j => .bl (decide (j ≤ i)))))) (fun hb H5 e5 => ?_) (fun hb H5 e5 => ⟨⟨_, rfl⟩, s4.trans e5, fun j hj => ?_⟩)
        · rw [Bool.and_eq_true] at hb
          refine ⟨_, rfl, mk1_in T.np.x T.np.n fun d hd => q3 n0 n1 i (by omega) hall hb.1 (of_decide_eq_true hb.2) d _ (s02.trans (s4.trans (e5.trans (same_new hd)))) upd_same⟩
        · by_cases hji : j < i
          · exact hall j hji
          · obtain rfl : j = i := by omega
            intro z
            rw [z.1, decide_eq_true z.2] at hb
            cases hb
      · rintro σ H4 ⟨⟨v4, rfl⟩, s4, hall⟩
        exact ⟨⟨v4, rfl⟩, s4, fun j hj => hall j (by omega)⟩
    rintro σ H3 ⟨⟨v4, rfl⟩, s3, hall⟩
    have h23 := s3 _ _ h22
    refine ⟨fun σ H' => σ = ([some (.ref x), some (.ref tv), some (.int n), some (.ref co), v4, some (.int (c.day + n))] : L2.St) ∧ Same H3 H', ?_, ?_⟩
    · exact s_asg (ev_op (ev_fldx (te := tVar 3) (ev_var rfl) h23 T.clT T.nD rfl) (ev_var (i := 2) rfl) (rv_I0 (g := fun i j => .int (i + j)) (i := c.day) (j := n))) fun H4 e4 => ⟨rfl, e4⟩
    rintro σ H4 ⟨rfl, s4⟩
    have h24 := s4 _ _ h23
    have s04 := s02.trans (s3.trans s4)
    have wl4 := wl.same s04
    obtain ⟨⟨dx, co', h1', _⟩, _⟩ := id wl4
    have hq := (TK.same s04) _ _ h3
    have hp := h4.tk (.same s04)
    refine ⟨_, rfl, x, dx, _, rfl, h1', rfl, ?_⟩
    refine ⟨_, rfl, _, rfl, co, CT, dc, _, _, rfl, h24, T.clT, T.nT, rfl, _, rfl, co, CT, dc, _, _, rfl, h24, T.clT, T.nB, rfl, ?_⟩
    refine (ev_max2 (ev_fldx (te := tVar 3) (ev_var rfl) h24 T.clT T.nU rfl) (ev_var rfl) : Ev _ ([some (.ref x), some (.ref tv), some (.int n), some (.ref co), v4, some (.int (c.day + n))] : L2.St) H4 (.int (dayC c (c.day + n)).un)) H4 (Ex.refl _) _ fun H5 e5 => ?_
    intro y dy ny ndy _
    refine ct_new (c := dayC c (c.day + n)) ((TK.same e5) _ _ hq) (hp.tk (.same e5)) ny ndy fun H6 s6 hc => ⟨rfl, ?_⟩
    refine ⟨x, El, t, p, L, c, dayC c (c.day + n), es, .ref y, rfl, (wl4.same e5).same s6, hc, le, fun H7 k7 wl7 => ?_⟩
    exact s_ret (v := .int (c.day + n)) (ev_var (i := 5) rfl) fun H8 e8 => q2 n0 n1 hall H8 (((But.same (s04.trans (e5.trans s6))).trans k7).trans (.same e8)) (wl7.same e8)
end
end Sea

set_option Elab.async false
set_option linter.all false
set_option maxRecDepth 100000
set_option maxHeartbeats 4000000
/-! class Wallet: covered_days -/
namespace Sea
open PySem PySem.Spec PyProof.Rows L2 LamX NdefX ClX Evl StX
abbrev NCd : List Str := ["self", "first", "last", "day"]
abbrev NAny : List Str := ["day", "self", "start", "index"]
theorem scWlCd : GScope NCd ["self", "first", "last"] (defScope sWlCd) := ⟨rfl, rfl, rfl, by decide +kernel, rfl, by decide +kernel, by decide +kernel⟩
def freeB (sc sc' : Scope) : Bool := sc'.names.all fun y => !decide (y.2 = NameKind.free) || (decide (sc.names.lookup y.1 = some .cell) || decide (sc.names.lookup y.1 = some .free))
theorem free_by {sc sc' : Scope} (h : freeB sc sc' = true) : ∀ y ∈ sc'.names, y.2 = .free → sc.names.lookup y.1 = some .cell ∨ sc.names.lookup y.1 = some .free := fun y hy e => by
  have := List.all_eq_true.mp h y hy
  rw [e] at this
  simpa using this
/-- an item's bound names do not repeat -/
theorem ndAny : NAny.Nodup := by decide +kernel
section
variable {X : Cx}
theorem pe_fldK {X : Cx} {e : Expr} {ta : TE} {f : Str} {pos : Pos} (K : PySem.W.Frag) (hK : X.K = K) (he : PE X e ta) (hb : attributeBase e f X.env (eval e X.env) = eval e X.env) : PE X (.Attribute e f pos) (tFld K ta f) := hK ▸ pe_fld he hb
theorem pg_tupK {X : Cx} {K : PySem.W.Frag} (hK : X.K = K) {es : List Expr} {k : Nat} {t : TGs} {n : Nat} {pos : Pos} (hc : X.calm = true) (h : PGs X es t) (hn : (assignEach es X.env).length = n := by rfl) (hst : (assignEach es X.env).findIdx? (·.1) = none := by rfl) : PG X (.Tuple es k pos) (gTup K n t) := hK ▸ pg_tup hc h hn hst
/-- the lengths of a tariff, X's written part named -/
theorem pe_lengthsK {X : Cx} {K : PySem.W.Frag} {mg : Str → Option Value} {C cI cU cP fI pL fL : Addr} {mc mp : Value} {dL : FuncData} {e : Expr} {ta : TE} {pos : Pos} (hK : X.K = K) (hM : X.mg = mg) (T : TX K mg C cI cU cP fI mc mp) (pr : PropOf K C "lengths" pL fL) (F : Fun K "lengths" "Tariff.lengths" sLengths fL dL) (hr : Room 2 X.A) (he : PE X e ta)
    (hab : attributeBase e "lengths" X.env (eval e X.env) = eval e X.env := by rfl) : PE X (.Attribute e "lengths" pos) (tProp C (spCol K C Prod.fst) [] E0 ta) := by
  subst hK hM
  exact pe_prop he T.cl pr (ok_lengths (k := 0) F T) hr (F.binds (ps := ["self"]) fun _ _ _ _ _ _ us hl => match us, hl with | [_], _ => rfl) .nil pass0 hab
end
/-- a purchase covers a day -/
def covB (L : List (Int × Int)) (d : Int) (z : Int × Int) : Bool := decide (z.1 ≤ d) && decide (d < z.1 + (L.getD z.2.toNat (0, 0)).1)
def covL (L bt : List (Int × Int)) (f : Int) (n : Nat) : List Int := ((List.range n).map fun (i : Nat) => f + (i : Int)).filter fun d => bt.any (covB L d)
def cdOk (f l : Int) : Prop := (0 ≤ f ∧ f ≤ 1000000000000000000) ∧ f ≤ l ∧ l ≤ (if f + 10000 - 1 < 1000000000000000000 then f + 10000 - 1 else 1000000000000000000)
/-- purchases of passes that there are -/
def BtOk (L bt : List (Int × Int)) : Prop := ∀ z ∈ bt, 0 ≤ z.2 ∧ z.2 < L.length
def spCd (K : PySem.W.Frag) (C CT CW P cN : Addr) : SpG := fun vs H Q E => ∃ (x El t p : Addr) (L : List (Int × Int)) (c : Ct) (es : List Ct) (f l : Int), vs = [.ref x, .int f, .int l] ∧ WlA K C CT CW H x El t p L c es ∧ GxR.TabG H P ∧ L.length ≤ 1000 ∧ BtOk L c.bt ∧
  (cdOk f l → ∀ H', But [P] H H' → GxR.TabG H' P → Q ((covL L c.bt f (l + 1 - f).toNat).map V.int) H') ∧ (¬ cdOk f l → ∀ H', Same H H' → E (.ref cN) none H')
theorem But.extN {P : Addr} {H H' : Hp} (t : GxR.TabG H P) (k : But [P] H H') : ExtN H H' := fun b o e n => k b o e fun z => by
  rw [List.mem_singleton.mp z] at e
  obtain ⟨ps, h, _⟩ := t
  rw [h] at e
  exact n ps (Option.some.inj e).symm
theorem But.tabbed {P : Addr} {H H' : Hp} (h : GxR.Tabbed P H H') : But [P] H H' := fun b o e n => by
  rw [h.2 b fun z => n (List.mem_singleton.mpr z)]
  exact e
theorem TabG.same {P : Addr} {H H' : Hp} (t : GxR.TabG H P) (s : Same H H') : GxR.TabG H' P := t.elim fun ps h => ⟨ps, s _ _ h.1, h.2⟩
section
variable {K : PySem.W.Frag} {CT C CW : Addr} {H H' : Hp} {c : Ct} {x E t p : Addr} {L : List (Int × Int)} {es : List Ct}
theorem CtA.extN {v : V} (h : CtA K CT H v c) (s : ExtN H H') : CtA K CT H' v c := by
  obtain ⟨co, dx, q, ws, rfl, h1, h2, h3⟩ := h
  exact ⟨co, dx, q, ws, rfl, s _ _ h1 (fun ps z => by cases z), (TK.extN s) _ _ h2, h3.tk (.extN s)⟩
theorem CtsA.extN {vs : List V} {cs : List Ct} (h : CtsA K CT H vs cs) (s : ExtN H H') : CtsA K CT H' vs cs := by
  induction h with
  | nil => exact .nil
  | cons a _ ih => exact .cons (a.extN s) ih
theorem Tar.extN (h : Tar K C H t p L) (e : ExtN H H') : Tar K C H' t p L := ⟨h.1.elim fun dx i => ⟨dx, e _ _ i (fun ps z => by cases z)⟩, h.2.tk (.extN e)⟩
theorem WlA.extN (h : WlA K C CT CW H x E t p L c es) (s : ExtN H H') : WlA K C CT CW H' x E t p L c es := by
  obtain ⟨⟨dx, co, h1, h2⟩, ⟨as, h3, h4⟩, h5⟩ := h
  exact ⟨⟨dx, co, s _ _ h1 (fun ps z => by cases z), h2.extN s⟩, ⟨as, s _ _ h3 (fun ps z => by cases z), h4.extN s⟩, h5.extN s⟩
theorem WlA.tnw (h : WlA K C CT CW H x E t p L c es) {P : Addr} (tg : GxR.TabG H P) : P ≠ x ∧ P ≠ E := by
  obtain ⟨ps, hp, _⟩ := tg
  obtain ⟨⟨dx, t', co, h1⟩, as, h3⟩ := h.own
  refine ⟨fun z => ?_, fun z => ?_⟩
  · rw [z, h1] at hp
    cases hp
  · rw [z, h3] at hp
    cases hp
end
theorem covL_succ (L bt : List (Int × Int)) (f : Int) (n : Nat) : covL L bt f (n + 1) = covL L bt f n ++ (if bt.any (covB L (f + (n : Int))) = true then [f + (n : Int)] else []) := by
  unfold covL
  rw [List.range_succ, List.map_append, List.filter_append]
  congr 1
  show List.filter _ [f + (n : Int)] = _
  rw [List.filter_cons]
  rfl
theorem covL_len (L bt : List (Int × Int)) (f : Int) (n : Nat) : (covL L bt f n).length ≤ n := by
  unfold covL
  refine Nat.le_trans (List.length_filter_le _ _) ?_
  rw [List.length_map, List.length_range]
  exact Nat.le_refl _
/-- whether any purchase covers the day: the generator's turns -/
theorem any_cov {K : PySem.W.Frag} {mg : Str → Option Value} {C cP CT CW cN cNp fCt fWi fVC fVP fNp P : Addr} {mq : Value} {dCt dWi dVC dVP dNp : FuncData} (T : TW K mg CT CW cN cNp cP fCt fWi fVC fVP fNp dCt dWi dVC dVP dNp mq) {te0 : TE}
    {σ : L2.St} {H : Hp} {x El t p : Addr} {L : List (Int × Int)} {c : Ct} {es : List Ct} {d : Int} {Q : Bool → Hp → Prop} {js : List Nat}
    (wl : WlA K C CT CW H x El t p L c es) (tg : GxR.TabG H P) (lL : L.length ≤ 1000) (ok : BtOk L c.bt) (hs : js.map (slotAt σ) = [some (.int d), some (.ref x)]) (hv : Ev te0 σ H (.ref x))
    (q : ∀ H', But [P] H H' → GxR.TabG H' P → Q (c.bt.any (covB L d)) H') :
    tB (tAnyG P (iTup K (tFld K (tFld K te0 "content") "bought")) NAny js (gTup K 2 (gCons (gName 2) (gCons (gName 3) gNil)))
      (tChain (rI0 fun i j => .bl (decide (i ≤ j))) (rI0 fun i j => .bl (decide (i < j))) (tVar 2) (tVar 0) (tOp (rI0 fun i j => .int (i + j)) (tVar 2) (tOp (rIxT K) (tProp C (spCol K C Prod.fst) [] E0 (tFld K (tVar 1) "offer")) (tVar 3))))) σ H Q := by
  obtain ⟨co, dc, qa, ws, h2, h3, h4, ec⟩ := wl.cont T
  refine (ev_fldx (ec (Ex.refl _) hv) h2 T.clT T.nB rfl : Ev (tFld K (tFld K te0 "content") "bought") σ H (.ref qa)) H (Ex.refl _) _ fun H1 e1 => ?_
  have sq1 := (TK.same e1) _ _ h3
  refine ⟨qa, rfl, ⟨ws, sq1⟩, TabG.same tg e1, fun H2 tb => ?_⟩
  have x2 : ExtN H1 H2 := (But.tabbed tb).extN (TabG.same tg e1)
  have wl2 := (wl.same e1).extN x2
  have sq2 := (TK.extN x2) _ _ sq1
  have ps2 := (h4.tk (.same e1)).tk (.extN x2)
  have lw := ps2.len
  have up : ∀ {H3}, Same H2 H3 → But [P] H H3 := fun s => (But.same e1).trans ((But.tabbed tb).trans (.same s))
  refine ⟨fun i m σ' H' => m = ws.length - i ∧ i ≤ ws.length ∧ (∃ u v, σ' = ([some (.int d), some (.ref x), u, v] : L2.St)) ∧ Same H2 H' ∧ (c.bt.take i).any (covB L d) = false, ⟨ws.length, by omega, Nat.zero_le _, ⟨none, none, ?_⟩, Same.refl _, rfl⟩, ?_⟩
  · rw [hs]
    rfl
  rintro i m σ' H3 ⟨rfl, hi, ⟨u, v, rfl⟩, s3, na⟩
  have sq3 := (TK.same s3) _ _ sq2
  have tg3 : GxR.TabG H3 P := TabG.same tb.1 s3
  by_cases hlt : i < ws.length
  rotate_left
  · obtain rfl : i = ws.length := by omega
    refine .inl ⟨⟨ws, sq3, Nat.le_refl _⟩, ⟨_, rfl, ?_⟩⟩
    rw [List.take_of_length_le (by omega)] at na
    have := q H3 (up s3) tg3
    rw [na] at this
    exact this
  refine .inr ⟨⟨ws, ws[i], sq3, by simp [hlt]⟩, fun σ' H' => (∃ u v, σ' = ([some (.int d), some (.ref x), u, v] : L2.St)) ∧ Same H2 H' ∧ (c.bt.take (i + 1)).any (covB L d) = false, fun σ' H' p' => ⟨ws.length - (i + 1), by omega, rfl, hlt, p'⟩, fun y H' hy => ?_⟩
  obtain ⟨rfl, hy⟩ := hy
  have hyi := hy ws sq3
  obtain ⟨z, hz, ra, rfl, hra⟩ := ps2.get hyi
  have hra3 := (TK.same s3) _ _ hra
  refine ⟨ra, _, rfl, hra3, rfl, _, _, rfl, _, _, rfl, rfl, ?_⟩
  have hzm : z ∈ c.bt := List.mem_of_getElem? hz
  obtain ⟨z0, z1⟩ := ok z hzm
  obtain ⟨n, hn⟩ := Int.eq_ofNat_of_zero_le z0
  have hnL : n < L.length := by omega
  have nxt : (c.bt.take (i + 1)).any (covB L d) = covB L d z := by
    rw [take_snoc hz, List.any_append, na]
    simp
  have fin : ∀ b : Bool, covB L d z = b → ∀ H4, Same H' H4 → ∃ b' : Bool, V.bl b = V.bl b' ∧ (b' = true → (∃ k, V.bl true = V.bl k ∧ Q k H4)) ∧ (b' = false → ((∃ u v, ([some (.int d), some (.ref x), some (.int z.1), some (.int z.2)] : L2.St) = [some (.int d), some (.ref x), u, v]) ∧ Same H2 H4 ∧ (c.bt.take (i + 1)).any (covB L d) = false)) := fun b hb H4 s4 => by
    refine ⟨b, rfl, fun h => ⟨_, rfl, ?_⟩, fun h => ⟨⟨_, _, rfl⟩, s3.trans s4, by rw [nxt, hb, h]⟩⟩
    have := q H4 (up (s3.trans s4)) (TabG.same tg3 s4)
    rw [List.any_eq_true.mpr ⟨z, hzm, by rw [hb, h]⟩] at this
    exact this
  refine ⟨_, rfl, _, rfl, _, _, rfl, rfl, _, rfl, ite2 (fun hk => ?_) (fun nk => ?_)⟩
  · have wl3 := wl2.same s3
    have ta3 := wl3.ta
    obtain ⟨⟨dxw, cow, hxw, _⟩, _, ⟨dxt, hxt⟩, _⟩ := id wl3
    refine ⟨_, rfl, .ref x, rfl, x, CW, dxw, _, .ref t, rfl, hxw, T.clW, T.nO, rfl, t, dxt, _, rfl, hxt, t, p, L, rfl, ta3, lL, fun q5 H5 s5 hq5 => ⟨_, rfl, q5, L.map fun y => V.int y.1, z.2, .int L[n].1, rfl, rfl, .of hq5, ?_, _, _, rfl, rfl, _, _, rfl, rfl, ?_⟩⟩
    · rw [hn]
      refine at_nat (by rw [List.length_map]; exact hnL) ?_
      rw [List.getElem?_map, List.getElem?_eq_getElem hnL]
      rfl
    · refine fin _ ?_ H5 s5
      unfold covB
      rw [hk, hn, Int.toNat_natCast, List.getD_eq_getElem?_getD, List.getElem?_eq_getElem hnL]
      rfl
  · refine fin _ ?_ H' (Same.refl _)
    unfold covB
    rw [Bool.eq_false_iff.mpr nk]
    rfl
section
variable {P : Program} {w : World} {K : PySem.W.Frag} {mg : Str → Option Value} {base : Heap} {C CV cI cU fI fP pP CT CW cN cNp cP fCt fWi fVC fVP fVN fNp fTd pTd fSp pSp fPu pPu fIc pIc fRe fBy fPd fPs fUn pL fL fCd cc Pt : Addr} {mc mp mq : Value} {fdP dCt dWi dVC dVP dVN dNp dTd dSp dPu dIc dRe dBy dPd dPs dUn dL : FuncData}
theorem both_cd (T : TW K mg CT CW cN cNp cP fCt fWi fVC fVP fNp dCt dWi dVC dVP dNp mq) (TX : TX K mg C cI cU cP fI mc mp) (pr : PropOf K C "lengths" pL fL) (F : Fun K "lengths" "Tariff.lengths" sLengths fL dL) (TB : GxR.TabB base mg cc Pt)
    {oc : Value} {od : Option Addr} {kV doc pm ct : Value} {an : Option Addr} {osl : Array (Option Value)} (lk : K.lookup fCd = some ⟨oc, od, .func (PySem.W.fnOf "covered_days" "Wallet.covered_days" (defArgs sWlCd) (defBody sWlCd) (defScope sWlCd) .none kV doc pm an (.ref cc) ct), osl⟩) (hcd : PySem.W.codeIn K (.ref cc) "Wallet.covered_days" = true) :
    GFn P w K mg base 6 fCd (PySem.W.fnOf "covered_days" "Wallet.covered_days" (defArgs sWlCd) (defBody sWlCd) (defScope sWlCd) .none kV doc pm an (.ref cc) ct) ["self", "first", "last"] (spCd K C CT CW Pt cN) ∧
    CFn P w K mg base 6 fCd (PySem.W.fnOf "covered_days" "Wallet.covered_days" (defArgs sWlCd) (defBody sWlCd) (defScope sWlCd) .none kV doc pm an (.ref cc) ct) ["self", "first", "last"] (spCd K C CT CW Pt cN) := by
  have bV : Binds K dVC ["count", "smallest", "largest"] [] := T.uVC.binds (ps := ["count", "smallest", "largest"]) fun _ _ _ _ _ _ us hl => match us, hl with | [_, _, _], _ => rfl
  refine both_of (N := NCd) lk hcd scWlCd ?_ fun A outer s H vs Q E pn hr h => ?_
  · rintro vs H Q E ⟨x, El, t, p, L, c, es, f, l, rfl, _⟩
    rfl
  · obtain ⟨x, El, t, p, L, c, es, f, l, rfl, wl, tg, lL, ok, q1, q2⟩ := h
    refine ⟨_, bs_cons (b_ps (ps_expr (pe_call (E := E) (ok_vc (k := 0) T.uVC T.nc) (hr.mono (by omega)) (by rfl) T.gVC T.kVC bV .nil (passes_call takes_gcx (fun _ _ _ _ h => h)) (pa_cons (pv 1) (pa_cons pe_int (pa_cons (C8.pe_gc (by rfl) T.mD) pa_nil))))))
      (bs_cons (b_ps (ps_expr (pe_call (E := E) (ok_vc (k := 0) T.uVC T.nc) (hr.mono (by omega)) (by rfl) T.gVC T.kVC bV .nil (passes_call takes_gcx (fun _ _ _ _ h => h)) (pa_cons (pv 2) (pa_cons (pv 1) (pa_cons (pe_callB (call_min2 rfl) (by rfl) T.mM (by decide +kernel) (pa_cons (C8.pe_gc (by rfl) T.mD) (pa_cons (pe_op op_sub (pe_op op_add (pv 1) (C8.pe_gc (by rfl) T.mY)) pe_int) pa_nil))) pa_nil))))))
      (bs_cons (b_for owns_gcx rfl (pi_range2 (by rfl) T.mR (pa_cons (pv 1) (pa_cons (pe_op op_add (pv 2) pe_int) pa_nil))) (pg_name (i := 3) scWlCd.nd rfl (.inr rfl) (.inl rfl))
        (bs_cons (b_if (pt_val (pe_anyG (c := cc) (P := Pt) (N := NAny) (fr := ["day", "self"]) (js := [3, 0]) (k := 2) (g := gTup K 2 (gCons (gName 2) (gCons (gName 3) gNil))) (hr.mono (by omega)) (by rfl) T.mA TB rfl (escope_by (by decide +kernel)) (free_by (sc := defScope sWlCd) (by decide +kernel)) (by rfl) (pi_tup (pe_fld (pe_fld (pv 0) rfl) rfl))
          (fun _ _ _ _ _ _ _ => pg_tupK (K := K) rfl rfl (pgs_cons (pg_name (i := 2) ndAny rfl (.inl rfl)) (pgs_cons (pg_name (i := 3) ndAny rfl (.inl rfl)) pgs_nil)))
          (fun _ _ _ _ _ _ hroom => pe_chain op_le op_lt (pv 2) (pv 0) (pe_op op_add (pv 2) (pe_ixtK K rfl (pe_lengthsK (K := K) (mg := mg) rfl rfl TX pr F hroom (pe_fldK K rfl (pv 1) rfl)) (pv 3))))
          (fun _ => rfl)))
          (bs_cons (b_yield (pv 3)) bs_nil) bs_nil) bs_nil)) bs_nil)), ?_⟩
    refine ⟨_, rfl, f, 0, 1000000000000000000, rfl, fun hb H1 s1 => ?_, fun nb H1 s1 => q2 (fun ok => nb ok.1) H1 s1⟩
    refine ⟨_, rfl, _, rfl, _, rfl, _, _, rfl, rfl, _, _, rfl, rfl, _, _, rfl, l, f, _, rfl, fun hb2 H2 s2 => ?_, fun nb H2 s2 => q2 (fun ok => nb ok.2) H2 (Same.trans s1 s2)⟩
    have okd : cdOk f l := ⟨hb, hb2⟩
    have s02 := Same.trans s1 s2
    have la1 : l ≤ 1000000000000000000 := by
      have := okd.2.2
      split at this <;> omega
    have many : (l + 1 - f).toNat ≤ 10000 := by
      have := okd.2.2
      split at this <;> omega
    refine ⟨_, rfl, _, rfl, _, _, rfl, rfl, f, l + 1, rfl, ⟨by omega, by omega, by omega, by omega⟩, ?_⟩
    refine gfor_rounds (I := Itr f (l + 1 - f).toNat) (l + 1 - f).toNat (fun i ys σ H' => ys = (covL L c.bt f i).map V.int ∧ (∃ v3, σ = [some (.ref x), some (.int f), some (.int l), v3]) ∧ But [Pt] H H' ∧ GxR.TabG H' Pt) ⟨rfl, ⟨none, rfl⟩, .same s02, TabG.same tg s02⟩ ?_ ?_
    · rintro i ys σ H3 hi ⟨rfl, ⟨v3, rfl⟩, b3, t3⟩
      refine ⟨hi, ?_⟩
      rintro y H4 ⟨rfl, rfl⟩
      have wl3 := wl.extN (b3.extN tg)
      refine any_cov (te0 := tVar 0) (d := f + (i : Int)) T wl3 t3 lL ok rfl (ev_var rfl) fun H5 b5 t5 => ?_
      cases e : c.bt.any (covB L (f + (i : Int))) with
      | true =>
        refine ⟨?_, _, rfl, ?_, ⟨_, rfl⟩, b3.trans b5, t5⟩
        · rw [List.length_map]
          have := covL_len L c.bt f i
          rw [sizeLine_eq]
          omega
        · rw [covL_succ, if_pos e, List.map_append]
          rfl
      | false =>
        refine ⟨?_, ⟨_, rfl⟩, b3.trans b5, t5⟩
        rw [covL_succ, if_neg (by rw [e]; decide), List.append_nil]
    · rintro ys σ H3 ⟨rfl, _, b3, t3⟩
      exact ⟨Nat.le_refl _, q1 okd H3 b3 t3⟩
end
end Sea

set_option Elab.async false
set_option linter.all false
set_option maxRecDepth 100000
set_option maxHeartbeats 4000000
/-! class Wallet: __init__, replay -/
namespace Sea
open PySem PySem.Spec PyProof.Rows L2 LamX NdefX ClX Evl StX
abbrev NRp : List Str := ["cls", "tariff", "day", "operations", "wallet", "index", "operation", "number", "travels"]
theorem scWlRp : FnScope NRp ["cls", "tariff", "day", "operations"] (defScope sWlRp) := ⟨rfl, rfl, rfl, by decide +kernel, rfl, by decide +kernel, by decide +kernel⟩
/-- a content at the start -/
def ct0 (d : Int) : Ct := ⟨d, 0, [], d⟩
def spWi (K : PySem.W.Frag) (C CT CW cN : Addr) : Sp := fun vs H Q E => ∃ (a dx t p : Addr) (L : List (Int × Int)) (d : Int), vs = [.ref a, .ref t, .int d] ∧ H a = some (.ins CW dx []) ∧ Tar K C H t p L ∧
  (0 ≤ d ∧ d ≤ 1000000000000000000 → ∀ El H', (∀ b o, H b = some o → b ≠ a → H' b = some o) → H El = none → WlA K C CT CW H' a El t p L (ct0 d) [] → Q .non H') ∧ (¬ (0 ≤ d ∧ d ≤ 1000000000000000000) → ∀ H', Same H H' → E (.ref cN) none H')
/-- what a caller of Wallet(tariff, day=d) shows -/
def mkW (K : PySem.W.Frag) (C CT CW cN : Addr) (H : Hp) (t p : Addr) (L : List (Int × Int)) (d : Int) (Q : VK) (E : XK) : Prop := Tar K C H t p L ∧
  (0 ≤ d ∧ d ≤ 1000000000000000000 → ∀ x El H', Same H H' → H x = none → H El = none → WlA K C CT CW H' x El t p L (ct0 d) [] → Q (.ref x) H') ∧ (¬ (0 ≤ d ∧ d ≤ 1000000000000000000) → ∀ H', Same H H' → E (.ref cN) none H')
/-- operations -/
inductive Op where
  | buy (i : Int)
  | pass (b : Bool)
  | undo
  | bad
/-- errors of operations -/
inductive Er where
  | cnt
  | pas
  | nop (d : Int)
  | op (i : Nat)
def lastC : Ct → List Ct → Ct × List Ct
  | c, [] => (c, [])
  | _, e :: es => ((e :: es).getLast (by simp), (e :: es).dropLast)
def stepO (L : List (Int × Int)) (k : Nat) (s : Ct × List Ct) : Op → Except Er (Ct × List Ct)
  | .buy i => if 0 ≤ i ∧ i < L.length then .ok (byC s.1 i (L.getD i.toNat (0, 0)), s.2 ++ [s.1]) else .error .pas
  | .pass b => if b = true ∧ s.1.un ≤ s.1.day then .error (.nop s.1.day) else if s.1.day = 1000000000000000000 then .error .cnt else .ok (dayC s.1 (s.1.day + 1), s.2 ++ [s.1])
  | .undo => .ok (lastC s.1 s.2)
  | .bad => .error (.op k)
def runO (L : List (Int × Int)) : Nat → List Op → Ct × List Ct → Except Er (Ct × List Ct)
  | _, [], s => .ok s
  | k, o :: r, s => match stepO L k s o with
    | .ok s' => runO L (k + 1) r s'
    | .error e => .error e
/-- an operation at v -/
def OpV (K : PySem.W.Frag) (H : Hp) (v : V) : Op → Prop
  | .buy i => ∃ a, v = .ref a ∧ SqT K H a [.str "buy", .int i]
  | .pass b => ∃ a, v = .ref a ∧ SqT K H a [.str "pass_day", .bl b]
  | .undo => ∃ a, v = .ref a ∧ SqT K H a [.str "undo"]
  | .bad => (∃ a w, v = .ref a ∧ SqT K H a [.str w] ∧ w ≠ "undo") ∨ ∃ a w y, v = .ref a ∧ SqT K H a [.str w, y] ∧ w ≠ "buy" ∧ w ≠ "pass_day"
theorem OpV.tk {K : PySem.W.Frag} {H H' : Hp} {v : V} {o : Op} (h : OpV K H v o) (t : TK K H H') : OpV K H' v o := by
  cases o with
  | buy i => exact h.elim fun a z => ⟨a, z.1, t _ _ z.2⟩
  | pass b => exact h.elim fun a z => ⟨a, z.1, t _ _ z.2⟩
  | undo => exact h.elim fun a z => ⟨a, z.1, t _ _ z.2⟩
  | bad => exact h.elim (fun ⟨a, w, e, z, n⟩ => .inl ⟨a, w, e, t _ _ z, n⟩) fun ⟨a, w, y, e, z, n⟩ => .inr ⟨a, w, y, e, t _ _ z, n⟩
def OpsV (K : PySem.W.Frag) (H : Hp) (ws : List V) (os : List Op) : Prop := ws.length = os.length ∧ ∀ (i : Nat) v o, ws[i]? = some v → os[i]? = some o → OpV K H v o
theorem OpsV.tk {K : PySem.W.Frag} {H H' : Hp} {ws : List V} {os : List Op} (h : OpsV K H ws os) (t : TK K H H') : OpsV K H' ws os := ⟨h.1, fun i v o a b => (h.2 i v o a b).tk t⟩
/-- how an error comes out -/
def erX (cN cU cNp cIo : Addr) (E : XK) (H : Hp) : Er → Prop
  | .cnt => ∀ H', Same H H' → E (.ref cN) none H'
  | .pas => ∀ H', Same H H' → E (.ref cU) none H'
  | .nop d => ∀ dd H', Same H H' → H' dd = some (.xd [("day", .int d)]) → E (.ref cNp) (some dd) H'
  | .op i => ∀ dd H', Same H H' → H' dd = some (.xd [("index", .int (i : Nat))]) → E (.ref cIo) (some dd) H'
theorem erX.up {cN cU cNp cIo : Addr} {E : XK} {H H1 : Hp} {e : Er} (h : erX cN cU cNp cIo E H e) (s : Same H H1) : erX cN cU cNp cIo E H1 e := by
  cases e with
  | cnt => exact fun H' s' => h H' (s.trans s')
  | pas => exact fun H' s' => h H' (s.trans s')
  | nop d => exact fun dd H' s' => h dd H' (s.trans s')
  | op i => exact fun dd H' s' => h dd H' (s.trans s')
/-- .. told of the def's own heap -/
def spRp (K : PySem.W.Frag) (C CT CW cN cU cNp cIo : Addr) : Sp := fun vs H Q E => ∃ (t p o : Addr) (L : List (Int × Int)) (d : Int) (ws : List V) (os : List Op), vs = [.ref CW, .ref t, .int d, .ref o] ∧ Tar K C H t p L ∧ L.length ≤ 1000 ∧ 0 ≤ d ∧ d ≤ 1000000000000000000 ∧ SqT K H o ws ∧ OpsV K H ws os ∧ os.length ≤ 100 ∧
  (∀ c es, runO L 0 os (ct0 d, []) = .ok (c, es) → ∀ x El H', Same H H' → WlA K C CT CW H' x El t p L c es → Q (.ref x) H') ∧ (∀ e, runO L 0 os (ct0 d, []) = .error e → erX cN cU cNp cIo E H e)
section
variable {P : Program} {w : World} {K : PySem.W.Frag} {mg : Str → Option Value} {base : Heap} {C CV cI cU fI fP pP CT CW cN cNp cP fCt fWi fVC fVP fVN fNp fTd pTd fSp pSp fPu pPu fIc pIc fRe fBy fPd fPs fUn cIo fIo fRp : Addr} {mc mp mq mr : Value} {fdP dCt dWi dVC dVP dVN dNp dTd dSp dPu dIc dRe dBy dPd dPs dUn dIo : FuncData}
theorem ok_wi {k : Nat} (T : TW K mg CT CW cN cNp cP fCt fWi fVC fVP fNp dCt dWi dVC dVP dNp mq) : FnOk P w K mg base (L2.CX P w) (k + 3) fWi dWi ["self", "tariff", "day"] (spWi K C CT CW cN) := by
  have bV : Binds K dVC ["count", "smallest", "largest"] [] := T.uVC.binds (ps := ["count", "smallest", "largest"]) fun _ _ _ _ _ _ us hl => match us, hl with | [_, _, _], _ => rfl
  have bCt : Binds K dCt ["self", "day", "total", "bought", "until"] [] := T.uT.binds (ps := ["self", "day", "total", "bought", "until"]) fun _ _ _ _ _ _ us hl => match us, hl with | [_, _, _, _, _], _ => rfl
  refine T.uW.okX scWlI (fun vs H Q E h => ?_) (fun cdv A outer s H vs Q E hr h => ?_)
  · obtain ⟨a, dx, t, p, L, d, rfl, _⟩ := h
    rfl
  · obtain ⟨a, dx, t, p, L, d, rfl, ha, ta, q1, q2⟩ := h
    refine ⟨_, pss_cons (ps_expr (pe_call (E := E) (ok_vc (k := 0) T.uVC T.nc) (hr.mono (by omega)) (by rfl) T.gVC T.kVC bV .nil (passes_call (takes_of rfl rfl rfl rfl) (fun _ _ _ _ h => h)) (pa_cons (pv 2) (pa_cons pe_int (pa_cons (C8.pe_gc (by rfl) T.mD) pa_nil)))))
      (pss_cons (ps_fld (pv 0) (pv 1) rfl) (pss_cons (ps_fld (pv 0) (pe_make (E := E0) T.mkT (ok_ctI (k := 0) T) (hr.mono (by omega)) (by rfl) T.gT bCt .nil pass0 (pa_cons (pv 2) (pa_cons pe_int (pa_cons (pe_tup pa_nil) (pa_cons (pv 2) pa_nil))))) rfl) (pss_one (ps_fld (pv 0) (pe_lst pa_nil) rfl)))), ?_⟩
    have lt : ∀ {n : Nat}, n ≤ 1000 → n ≤ sizeLine := fun h => Nat.le_of_lt (small1000 h)
    refine ⟨_, rfl, d, 0, 1000000000000000000, rfl, fun hd H1 s1 => ?_, fun nd H1 s1 => q2 nd H1 s1⟩
    have ha1 := s1 _ _ ha
    refine ⟨_, rfl, _, rfl, a, CW, dx, [], rfl, ha1, T.clW, T.nO, by decide, ?_⟩
    have k2 : ∀ b o, H b = some o → b ≠ a → (upd H1 a (.ins CW dx (putF "offer" (.ref t) []))) b = some o := fun b o e n => by
      rw [upd_ne n]
      exact s1 _ _ e
    have h2a : (upd H1 a (.ins CW dx (putF "offer" (.ref t) []))) a = some (.ins CW dx (putF "offer" (.ref t) [])) := upd_same
    revert k2 h2a
    generalize upd H1 a (.ins CW dx (putF "offer" (.ref t) [])) = H2
    intro k2 h2a
    refine ⟨_, rfl, lt (show 0 ≤ 1000 by decide), fun pq npq => ⟨_, rfl, fun y dy ny ndy _ => ?_⟩⟩
    have s3 := same_new (o := .tup ([] : List V)) npq
    refine ct_new (K := K) (c := ct0 d) (ws := []) (.of upd_same) .nil ny ndy fun H4 s4 hc => ⟨rfl, ?_⟩
    have s24 := s3.trans s4
    have h4a := s24 _ _ h2a
    obtain ⟨co, dc, q, us, e, c1, c2, c3⟩ := hc
    cases e
    have ya : y ≠ a := fun z => by
      rw [z] at ny
      rw [s3 _ _ h2a] at ny
      cases ny
    refine ⟨.ref a, rfl, a, CW, dx, _, rfl, h4a, T.clW, T.nC, show 1 < 1000 by decide, lt (show 0 ≤ 1000 by decide), fun l nl => ?_⟩
    have la : l ≠ a := fun z => by
      rw [z, upd_same] at nl
      cases nl
    refine ⟨.ref a, rfl, a, CW, dx, _, rfl, (upd_ne (Ne.symm la)).trans upd_same, T.clW, T.nE, show 2 < 1000 by decide, ?_⟩
    have b4 : ∀ b o, H4 b = some o → b ≠ a → (upd (upd (upd H4 a (.ins CW dx (putF "content" (.ref y) (putF "offer" (.ref t) [])))) l (.lst [])) a (.ins CW dx (putF "earlier" (.ref l) (putF "content" (.ref y) (putF "offer" (.ref t) []))))) b = some o := fun b o e n => by
      rw [upd_ne n, upd_ne (fun z => by
        rw [z] at e
        rw [upd_ne la, e] at nl
        cases nl), upd_ne n]
      exact e
    have end_l : (upd (upd (upd H4 a (.ins CW dx (putF "content" (.ref y) (putF "offer" (.ref t) [])))) l (.lst [])) a (.ins CW dx (putF "earlier" (.ref l) (putF "content" (.ref y) (putF "offer" (.ref t) []))))) l = some (.lst []) := by
      rw [upd_ne la]
      exact upd_same
    have keep : ∀ b o, H b = some o → b ≠ a → _ := fun b o e n => b4 b o (s24 _ _ (k2 b o e n)) n
    have hnl : H l = none := by
      cases e : H l with
      | none => rfl
      | some o =>
        rw [upd_ne la, s24 _ _ (k2 l o e la)] at nl
        cases nl
    have tk4 : TK K H4 _ := .but (fun b => b = a) (fun b o e n => b4 b o e n) fun b xs z => by
      rw [z]
      exact Rd.ins_no h4a
    have tkH : TK K H _ := .but (fun b => b = a) (fun b o e n => keep b o e n) fun b xs z => by
      rw [z]
      exact Rd.ins_no ha
    refine q1 hd l _ keep hnl ⟨⟨dx, y, upd_same, y, dc, q, us, rfl, b4 _ _ c1 ya, tk4 _ _ c2, c3.tk tk4⟩, ⟨[], end_l, .nil⟩, ?_⟩
    obtain ⟨⟨dxt, ht⟩, ht2⟩ := ta
    refine ⟨⟨dxt, keep _ _ ht fun z => ?_⟩, ht2.tk tkH⟩
    rw [z, ha] at ht
    cases ht
theorem kb_Wi (T : TW K mg CT CW cN cNp cP fCt fWi fVC fVP fNp dCt dWi dVC dVP dNp mq) : KBn K dWi ["self", "tariff", "day"] 2 ["day"] (fun us ws => us ++ ws) (fun vs zs => vs ++ zs) := by
  obtain ⟨oc, od, kV, doc, pm, an, cdv, ct, osl, rfl, lk, hcd⟩ := T.uW.ex
  refine ⟨fun s us ws _ h1 h2 => ?_, fun a b => a.append b⟩
  match us, ws, h1, h2 with
  | [u, v], [x], _, _ => exact .of_eq rfl
/-- Wallet(t, day=d): what a caller shows -/
theorem mkW_in {H : Hp} {Q : VK} {E : XK} {t p : Addr} {L : List (Int × Int)} {d : Int} (h : mkW K C CT CW cN H t p L d Q E) :
    [V.ref t].length = 1 ∧ [V.int d].length = ["day"].length ∧ ∀ x dx, H x = none → H dx = none → dx ≠ x → spWi K C CT CW cN ((.ref x :: [V.ref t]) ++ [V.int d]) (upd (upd H dx (.own x)) x (.ins CW dx [])) (fun v H3 => v = .non ∧ Q (.ref x) H3) E := by
  obtain ⟨ta, q1, q2⟩ := h
  refine ⟨rfl, rfl, fun x dx nx ndx ne => ?_⟩
  have s0 : Same H (upd (upd H dx (.own x)) x (.ins CW dx [])) := fun b u e => by
    rw [upd_ne (ne_of_none e nx), upd_ne (ne_of_none e ndx)]
    exact e
  refine ⟨x, dx, t, p, L, d, rfl, upd_same, ta.same s0, fun hd El H' keep nEl wl => ⟨rfl, q1 hd x El H' (fun b o e => keep b o (s0 _ _ e) (ne_of_none e nx)) nx ?_ wl⟩, fun nd H' s' => q2 nd H' (s0.trans s')⟩
  cases e : H El with
  | none => rfl
  | some o =>
    rw [s0 _ _ e] at nEl
    cases nEl
end
section
variable {X : Cx} {CX : CXT} {k n : Nat} {f C : Addr} {fd : FuncData} {ps ks : List Str} {sp : Sp} {E : XK} {x : Str} {p pos : Pos} {e : Expr} {es : List Expr} {kws : List Keyword} {t tk : TA} {g : List Value → List Value → List Value} {gV : List V → List V → List V} {i : Nat}
/-- cls(e, .., k = v, ..), cls a local that holds the class -/
theorem pe_makeKL (M : Mk X.K C f) (F : FnOk X.prog X.w X.K X.mg X.base CX k f fd ps sp) (hr : Room (k + 1) X.A) (hN : X.N[i]? = some x) (hv : Vis X.env.scope x) (hb : KBn X.K fd ps (n + 1) ks g gV) (hx : Passes CX X E) (ha : PA X (e :: es) t) (hkw : PK X kws tk)
    (hall : (backToKw pos (keywordEach kws X.env)).all (·.1.isSome) = true := by rfl) (hks : (backToKw pos (keywordEach kws X.env)).filterMap (·.1) = ks := by rfl) (hdb : (x == ("__debug__" : Str)) = false := by decide) (hcd : (x == ("__classdict__" : Str)) = false := by decide)
    (he : starEach (e :: es) X.env = (false, eval e X.env) :: starEach es X.env := by rfl) (hpl : ((backTo pos (starEach (e :: es) X.env)).any (·.1) || (backToKw pos (keywordEach kws X.env)).any (·.1.isNone)) = false := by rfl) :
    PE X (.Call (.Name x p) (e :: es) kws pos) (fun σ H Q => σ[i]? = some (some (.ref C)) ∧ tMakeK C n ks.length sp gV E t tk σ H Q) := by
  constructor
  intro pins s σ H Q J ⟨slot, h⟩
  refine wpAny_Call_Name_kw (name_at hN hv hdb hcd J slot ?_)
  rintro u s0 (rfl : u = .ref C) I0
  refine PySem.W.callWith_KW (h₀ := X.base) J.ok.mod.kin M.kp hall (thn (ha.run pos pins s0 σ H _ I0 h) fun us s1 ⟨vs, H1, I1, r, q⟩ => ?_) hpl he
  refine thn (hkw.run pos pins s1 σ H1 _ I1 q) fun ws s2 ⟨zs, H2, I2, rz, l1, l2, q2⟩ => ⟨I2.kIn, ?_⟩
  rw [hks]
  exact run_makeK M F hr hb hx I2 r rz l1 l2 q2
end
end Sea

set_option Elab.async false
set_option linter.all false
set_option maxRecDepth 100000
set_option maxHeartbeats 4000000
/-! class Wallet: replay -/
namespace Sea
open PySem PySem.Spec PyProof.Rows L2 LamX NdefX ClX Evl StX
theorem stepO_len {L : List (Int × Int)} {k n : Nat} {s s' : Ct × List Ct} {o : Op} (h : stepO L k s o = .ok s') (h1 : s.1.bt.length ≤ n) (h2 : s.2.length ≤ n) (h3 : ∀ c ∈ s.2, c.bt.length ≤ n) : s'.1.bt.length ≤ n + 1 ∧ s'.2.length ≤ n + 1 ∧ ∀ c ∈ s'.2, c.bt.length ≤ n + 1 := by
  have mem : ∀ c ∈ s.2 ++ [s.1], c.bt.length ≤ n + 1 := fun c hc => by
    rcases List.mem_append.mp hc with hc | hc
    · exact Nat.le_succ_of_le (h3 c hc)
    · rw [List.mem_singleton.mp hc]
      exact Nat.le_succ_of_le h1
  have ln : (s.2 ++ [s.1]).length ≤ n + 1 := by
    rw [List.length_append]
    show s.2.length + 1 ≤ n + 1
    omega
  cases o with
  | buy i =>
    have h : (if 0 ≤ i ∧ i < L.length then Except.ok (byC s.1 i (L.getD i.toNat (0, 0)), s.2 ++ [s.1]) else Except.error Er.pas) = Except.ok s' := h
    split at h
    · cases h
      refine ⟨?_, ln, mem⟩
      show (s.1.bt ++ [_]).length ≤ n + 1
      rw [List.length_append]
      show s.1.bt.length + 1 ≤ n + 1
      omega
    · cases h
  | pass b =>
    have h : (if b = true ∧ s.1.un ≤ s.1.day then Except.error (Er.nop s.1.day) else if s.1.day = 1000000000000000000 then Except.error Er.cnt else Except.ok (dayC s.1 (s.1.day + 1), s.2 ++ [s.1])) = Except.ok s' := h
    split at h
    · cases h
    split at h
    · cases h
    · cases h
      exact ⟨Nat.le_succ_of_le h1, ln, mem⟩
  | undo =>
    have h : Except.ok (lastC s.1 s.2) = Except.ok s' := h
    cases h
    obtain ⟨c, es⟩ := s
    cases es with
    | nil => exact ⟨Nat.le_succ_of_le h1, Nat.zero_le _, fun c hc => nomatch hc⟩
    | cons e es =>
      unfold lastC
      refine ⟨Nat.le_succ_of_le (h3 _ (List.getLast_mem _)), ?_, fun c hc => Nat.le_succ_of_le (h3 c ((List.dropLast_sublist _).subset hc))⟩
      show (e :: es).dropLast.length ≤ n + 1
      rw [List.length_dropLast]
      have h2 : (e :: es).length ≤ n := h2
      omega
  | bad =>
    have h : Except.error (Er.op k) = Except.ok s' := h
    cases h
section
variable {P : Program} {w : World} {K : PySem.W.Frag} {mg : Str → Option Value} {base : Heap} {C CV cI cU fI fP pP CT CW cN cNp cP fCt fWi fVC fVP fVN fNp fTd pTd fSp pSp fPu pPu fIc pIc fRe fBy fPd fPs fUn cIo fIo fRp : Addr} {mc mp mq mr : Value} {fdP dCt dWi dVC dVP dVN dNp dTd dSp dPu dIc dRe dBy dPd dPs dUn dIo dRp : FuncData}
theorem kb_Io (T : TE1 K mg "InvalidOperation" "index" sIoI cIo cP fIo dIo mr) : KBn K dIo ["self", "index"] 1 ["index"] (fun us ws => us ++ ws) (fun vs zs => vs ++ zs) := by
  obtain ⟨oc, od, kV, doc, pm, an, cdv, ct, osl, rfl, lk, hcd⟩ := T.u.ex
  refine ⟨fun s us ws _ h1 h2 => ?_, fun a b => a.append b⟩
  match us, ws, h1, h2 with
  | [u], [x], _, _ => exact .of_eq rfl
theorem old {H H' : Hp} (s : Same H H') {b : Addr} (n : H' b = none) : H b = none := by
  cases e : H b with
  | none => rfl
  | some o =>
    rw [s _ _ e] at n
    cases n
theorem mkW_go {σ : L2.St} {H : Hp} {Q : VK} {E : XK} {t p : Addr} {L : List (Int × Int)} {d : Int} {te : TE} {tk : TA} (ht : Ev te σ H (.ref t)) (hk : EvA tk σ H [.int d]) (h : ∀ H1, Same H H1 → mkW K C CT CW cN H1 t p L d Q E) :
    tMakeK CW 1 1 (spWi K C CT CW cN) (fun vs zs => vs ++ zs) E (tCons te tNil) tk σ H Q := ht H (Ex.refl _) _ fun H1 e1 => hk H1 e1 _ fun H2 e2 => mkW_in (h H2 (e1.trans e2))
/-- the classmethod replay: what its callers show -/
def spRpS (K : PySem.W.Frag) (C CT CW cN cU cNp cIo : Addr) : Sp := fun vs H Q E => ∃ ws rest, vs = ws ++ rest ∧ ws.length = ["cls", "tariff", "day"].length ∧ rest.length ≤ sizeLine ∧ ∀ p, H p = Option.none → spRp K C CT CW cN cU cNp cIo (ws ++ [V.ref p]) (upd H p (.tup rest)) Q E
theorem ok_rp (T : TW K mg CT CW cN cNp cP fCt fWi fVC fVP fNp dCt dWi dVC dVP dNp mq) (M : TWm K CW fTd pTd fSp pSp fPu pPu fIc pIc fRe fBy fPd fPs fUn dTd dSp dPu dIc dRe dBy dPd dPs dUn) (TX : TX K mg C cI cU cP fI mc mp) (TQ : TP K C fP pP fdP) (TI : TE1 K mg "InvalidOperation" "index" sIoI cIo cP fIo dIo mr) (mE : mg "enumerate" = none)
    (F : Fun K "replay" "Wallet.replay" sWlRp fRp dRp) : FnR P w K mg base (L2.CX P w) 6 fRp (spRpS K C CT CW cN cU cNp cIo) := by
  have bBy : Binds K dBy ["self", "index"] [] := M.uBy.binds (ps := ["self", "index"]) fun _ _ _ _ _ _ us hl => match us, hl with | [_, _], _ => rfl
  have bPd : Binds K dPd ["self", "travels"] [] := M.uPd.binds (ps := ["self", "travels"]) fun _ _ _ _ _ _ us hl => match us, hl with | [_, _], _ => rfl
  have bUn : Binds K dUn ["self"] [] := M.uUn.binds (ps := ["self"]) fun _ _ _ _ _ _ us hl => match us, hl with | [_], _ => rfl
  obtain ⟨oc, od, kV, doc, pm, an, cdv, ct, osl, rfl, lk, hcd⟩ := F.ex
  refine fn_star (ps := ["cls", "tariff", "day"]) (pv := "operations") lk hcd scWlRp cxUp (fun us rest hl => ?_) fun A outer s H vs Q E hr h => ?_
  · match us, hl with
    | [u1, u2, u3], _ =>
      unfold bindArgs
      have e : ∀ b : Bool, (b && (defArgs sWlRp).vararg.isNone) = false := fun b => by
        rw [show (defArgs sWlRp).vararg.isNone = false from rfl, Bool.and_false]
      show _ = _
      simp only [PySem.W.fnOf, e]
      rfl
  · obtain ⟨t, p, o, L, d, ws, os, rfl, ta, lL, d0, d1, hws, ho, few, q1, q2⟩ := h
    refine ⟨_, pss_cut (ps_set (i := 4) scWlRp.nd rfl (.inl rfl) (pe_makeKL (i := 0) (E := E) T.mkW (ok_wi (C := C) (k := 0) T) (hr.mono (by omega)) rfl (.inl rfl) (kb_Wi T) (passes_call (takes_of rfl rfl rfl rfl) (fun _ _ _ _ h => h)) (pa_cons (pv 1) pa_nil) (pk_cons (pv 2) pk_nil)))
      (pss_cut (ps_for (passes_of rfl) rfl (pi_enumT (by rfl) mE (pa_cons (pv 3) pa_nil)) (pg_tup rfl (pgs_cons (pg_name (i := 5) scWlRp.nd rfl (.inl rfl)) (pgs_cons (pg_name (i := 6) scWlRp.nd rfl (.inl rfl)) pgs_nil)))
        (pss_one (ps_match (pv 6)
          (mc_two (i := 7) scWlRp.nd rfl rfl (pss_one (ps_expr (pe_meth (E := E) (pv 4) T.clW M.mBy (ok_by (C := C) (k := 0) T M TX TQ) (hr.mono (by omega)) bBy .nil (passes_call (takes_of rfl rfl rfl rfl) (fun _ _ _ _ h => h)) (pa_cons (pv 7) pa_nil))))
          (mc_two (i := 8) scWlRp.nd rfl rfl (pss_one (ps_expr (pe_meth (E := E) (pv 4) T.clW M.mPd (ok_pd (C := C) (k := 0) T M) (hr.mono (by omega)) bPd .nil (passes_call (takes_of rfl rfl rfl rfl) (fun _ _ _ _ h => h)) (pa_cons (pv 8) pa_nil))))
          (mc_one (pss_one (ps_expr (pe_meth0 (E := E0) (pv 4) T.clW M.mUn (ok_un (C := C) (k := 0) T M) (hr.mono (by omega)) bUn .nil pass0)))
          (mc_any (pss_one (ps_raise rfl (takes_of rfl rfl rfl rfl) (pmk_kw TI.x TI.i TI.t (ok_IoI (k := 0) TI) (hr.mono (by omega)) (kb_Io TI) pass0 (by rfl) TI.g (pk_cons (pv 5) pk_nil))))) rfl) rfl) rfl))))
      (pss_one (ps_ret (pv 4)))), ?_⟩
    refine ⟨fun σ H' => ∃ x El, σ = ([some (.ref CW), some (.ref t), some (.int d), some (.ref o), some (.ref x), none, none, none, none] : L2.St) ∧ Same H H' ∧ H x = none ∧ H El = none ∧ WlA K C CT CW H' x El t p L (ct0 d) [], ?_, ?_⟩
    · exact ⟨rfl, mkW_go (p := p) (L := L) (d := d) (ev_var rfl) (ea_cons (ev_var rfl) ea_nil) fun H1 e1 => ⟨ta.same e1, fun _ x El H' s' nx nE wl => ⟨x, El, rfl, e1.trans s', old e1 nx, old e1 nE, wl⟩, fun nd => absurd ⟨d0, d1⟩ nd⟩⟩
    rintro σ H1 ⟨x, El, rfl, s1, nx, nE, wl1⟩
    have up : ∀ {H2 H3 : Hp}, Same H H2 → But [x, El] H2 H3 → Same H H3 := fun s k b u e => k b u (s b u e) fun z => by
      rcases List.mem_cons.mp z with rfl | z
      · rw [nx] at e
        cases e
      · rw [List.mem_singleton.mp z, nE] at e
        cases e
    have hlen := ho.1
    generalize hres : runO L 0 os (ct0 d, []) = res at q1 q2
    refine ⟨fun σ H' => (∃ v5 v6 v7 v8, σ = ([some (.ref CW), some (.ref t), some (.int d), some (.ref o), some (.ref x), v5, v6, v7, v8] : L2.St)) ∧ Same H H' ∧ ∃ s, res = .ok s ∧ WlA K C CT CW H' x El t p L s.1 s.2, ?_, ?_⟩
    · refine ⟨_, rfl, o, ws, rfl, (TK.same s1) _ _ hws, for_rounds (I := IteT K o ws) ws.length (fun i σ H' => (∃ v5 v6 v7 v8, σ = ([some (.ref CW), some (.ref t), some (.int d), some (.ref o), some (.ref x), v5, v6, v7, v8] : L2.St)) ∧ Same H H' ∧ ∃ s, runO L i (os.drop i) s = res ∧ s.1.bt.length ≤ i ∧ s.2.length ≤ i ∧ (∀ c ∈ s.2, c.bt.length ≤ i) ∧ WlA K C CT CW H' x El t p L s.1 s.2)
        ⟨⟨none, none, none, none, rfl⟩, s1, (ct0 d, []), hres, Nat.le_refl _, Nat.le_refl _, (fun c hc => nomatch hc), wl1⟩ ?_ ?_⟩
      · rintro i σ H2 hi ⟨⟨v5, v6, v7, v8, rfl⟩, s2, st, hrun, b1, b2, b3, wl2⟩
        have hws2 := (TK.same s2) _ _ hws
        refine ⟨⟨hi, hws2⟩, ?_⟩
        rintro y HT ⟨v, TT, hv, nT, rfl, rfl⟩
        have sT : Same H2 (upd H2 TT (.tup [.int (i : Nat), v])) := same_new nT
        have hio : i < os.length := by omega
        have hoi : os[i]? = some os[i] := List.getElem?_eq_getElem hio
        have hop : OpV K (upd H2 TT (.tup [.int (i : Nat), v])) v os[i] := ((ho.2 i v _ hv hoi).tk (.same s2)).tk (.same sT)
        have wlT := wl2.same sT
        have tT : SqT K (upd H2 TT (.tup [.int (i : Nat), v])) TT [.int (i : Nat), v] := .of upd_same
        revert sT hop wlT tT
        generalize upd H2 TT (.tup [.int (i : Nat), v]) = H3
        intro s3 hop wl3 tT
        have s03 := s2.trans s3
        refine ⟨TT, _, rfl, tT, rfl, _, _, rfl, _, _, rfl, rfl, ?_⟩
        rw [List.drop_eq_getElem_cons hio] at hrun
        have few1 : i ≤ 100 := by omega
        have hrun : (match stepO L i st os[i] with | .ok s' => runO L (i + 1) (os.drop (i + 1)) s' | .error e => .error e) = res := hrun
        generalize os[i] = op at hop hrun
        have next : ∀ st' v7 v8 H4, stepO L i st op = .ok st' → But [x, El] H3 H4 → WlA K C CT CW H4 x El t p L st'.1 st'.2 → (∃ v5 v6 v7' v8', ([some (.ref CW), some (.ref t), some (.int d), some (.ref o), some (.ref x), some (.int (i : Nat)), some v, v7, v8] : L2.St) = [some (.ref CW), some (.ref t), some (.int d), some (.ref o), some (.ref x), v5, v6, v7', v8']) ∧ Same H H4 ∧ ∃ s, runO L (i + 1) (os.drop (i + 1)) s = res ∧ s.1.bt.length ≤ i + 1 ∧ s.2.length ≤ i + 1 ∧ (∀ c ∈ s.2, c.bt.length ≤ i + 1) ∧ WlA K C CT CW H4 x El t p L s.1 s.2 := fun st' v7 v8 H4 hs k4 wl4 => by
          obtain ⟨c1, c2, c3⟩ := stepO_len hs b1 b2 b3
          rw [hs] at hrun
          exact ⟨⟨_, _, _, _, rfl⟩, up s03 k4, st', hrun, c1, c2, c3, wl4⟩
        have fail : ∀ e, stepO L i st op = .error e → erX cN cU cNp cIo E H3 e := fun e he => by
          rw [he] at hrun
          exact (q2 e hrun.symm).up s03
        obtain ⟨⟨dx3, co3, ix3, _⟩, _⟩ := id wl3
        refine ⟨_, rfl, ?_⟩
        cases op with
        | buy n =>
          obtain ⟨a, rfl, ha⟩ := hop
          refine ⟨a, _, rfl, ha, .inl ⟨_, rfl, ?_⟩⟩
          have e1 : stepO L i st (.buy n) = if 0 ≤ n ∧ n < L.length then .ok (byC st.1 n (L.getD n.toNat (0, 0)), st.2 ++ [st.1]) else .error .pas := rfl
          refine ⟨_, rfl, x, dx3, _, rfl, ix3, rfl, _, rfl, x, El, t, p, L, st.1, st.2, n, rfl, wl3, lL, by omega, by omega, fun m z hn hz H4 k4 wl4 => ?_, fun nn H4 s4 => ?_⟩
          · have hm := (List.getElem?_eq_some_iff.mp hz).1
            refine next (byC st.1 n z, st.2 ++ [st.1]) _ _ H4 ?_ k4 wl4
            rw [e1, if_pos (by omega), hn, Int.toNat_natCast, List.getD_eq_getElem?_getD, hz]
            rfl
          · rw [if_neg nn] at e1
            exact fail _ e1 H4 s4
        | pass b =>
          obtain ⟨a, rfl, ha⟩ := hop
          refine ⟨a, _, rfl, ha, .inr (.inr ⟨"pass_day", .bl b, rfl, by decide +kernel, ?_⟩)⟩
          refine ⟨a, _, rfl, ha, .inl ⟨_, rfl, ?_⟩⟩
          have e1 : stepO L i st (.pass b) = if b = true ∧ st.1.un ≤ st.1.day then .error (.nop st.1.day) else if st.1.day = 1000000000000000000 then .error .cnt else .ok (dayC st.1 (st.1.day + 1), st.2 ++ [st.1]) := rfl
          refine ⟨_, rfl, x, dx3, _, rfl, ix3, rfl, _, rfl, x, El, t, p, L, st.1, st.2, b, rfl, wl3, by omega, fun n1 n2 H4 k4 wl4 => ?_, fun n1 n2 H4 s4 => ?_, fun n1 n2 dd H4 s4 hd => ?_⟩
          · refine next (dayC st.1 (st.1.day + 1), st.2 ++ [st.1]) _ _ H4 ?_ k4 wl4
            rw [e1, if_neg n1, if_neg n2]
          · rw [if_neg n1, if_pos n2] at e1
            exact fail _ e1 H4 s4
          · rw [if_pos ⟨n1, n2⟩] at e1
            exact fail _ e1 dd H4 s4 hd
        | undo =>
          obtain ⟨a, rfl, ha⟩ := hop
          refine ⟨a, _, rfl, ha, .inr (.inl ⟨by decide, ?_⟩)⟩
          refine ⟨a, _, rfl, ha, .inr (.inl ⟨by decide, ?_⟩)⟩
          refine ⟨a, _, rfl, ha, .inl ⟨rfl, ?_⟩⟩
          refine ⟨_, rfl, x, dx3, _, rfl, ix3, rfl, x, El, t, p, L, st.1, st.2, rfl, wl3, by omega, fun he H4 s4 => ?_, fun es' c' he H4 k4 wl4 => ?_⟩
          · obtain ⟨c, es⟩ := st
            have he : es = [] := he
            subst he
            exact next (c, []) _ _ H4 rfl (.same s4) (wl3.same s4)
          · obtain ⟨c, es⟩ := st
            have he : es = es' ++ [c'] := he
            subst he
            refine next (c', es') _ _ H4 ?_ k4 wl4
            show Except.ok (lastC c (es' ++ [c'])) = _
            congr 1
            cases hh : es' ++ [c'] with
            | nil => simp at hh
            | cons e1 e2 =>
              unfold lastC
              simp only [← hh]
              simp
        | bad =>
          have er := fail (.op i) rfl
          have fin : ∀ H4, Same H3 H4 → _ := fun H4 s4 d hd => er d _ (s4.trans (same_new hd)) upd_same
          rcases hop with ⟨a, w', rfl, ha, nw⟩ | ⟨a, w', y', rfl, ha, n1, n2⟩
          · refine ⟨a, _, rfl, ha, .inr (.inl ⟨show (1 : Nat) ≠ 2 by decide, ?_⟩)⟩
            refine ⟨a, _, rfl, ha, .inr (.inl ⟨show (1 : Nat) ≠ 2 by decide, ?_⟩)⟩
            refine ⟨a, _, rfl, ha, .inr (.inr ⟨w', rfl, nw, ?_⟩)⟩
            exact ⟨_, rfl, mk1_in TI.x TI.n (fin H3 (Same.refl _))⟩
          · refine ⟨a, _, rfl, ha, .inr (.inr ⟨w', y', rfl, n1, ?_⟩)⟩
            refine ⟨a, _, rfl, ha, .inr (.inr ⟨w', y', rfl, n2, ?_⟩)⟩
            refine ⟨a, _, rfl, ha, .inr (.inl ⟨show (2 : Nat) ≠ 1 by decide, ?_⟩)⟩
            exact ⟨_, rfl, mk1_in TI.x TI.n (fin H3 (Same.refl _))⟩
      · rintro σ H2 ⟨⟨v5, v6, v7, v8, rfl⟩, s2, st, hrun, b1, b2, b3, wl2⟩
        refine ⟨⟨rfl, (TK.same s2) _ _ hws⟩, ⟨_, _, _, _, rfl⟩, s2, st, ?_, wl2⟩
        rw [List.drop_eq_nil_of_le (by omega)] at hrun
        exact hrun.symm
    rintro σ H2 ⟨⟨v5, v6, v7, v8, rfl⟩, s2, st, hr', wl2⟩
    exact s_ret (v := .ref x) (ev_var (i := 4) rfl) fun H3 e3 => q1 st.1 st.2 hr' x El H3 (s2.trans e3) (wl2.same e3)
end
end Sea

set_option Elab.async false
set_option linter.all false
set_option maxRecDepth 100000
set_option maxHeartbeats 4000000
namespace Sea
open PySem PySem.Spec PyProof.Rows L2 LamX NdefX ClX Evl StX
theorem scSm : FnScope ["_law_result", "_law_expected", "_law_k"] ["_law_result", "_law_expected"] (defScope sSm) := ⟨rfl, rfl, rfl, by decide +kernel, rfl, by decide +kernel, by decide +kernel⟩
/-- whole numbers and texts in lists and tuples -/
inductive SmD : Nat → PyData → Prop
  | int (n : Nat) (i : Int) : SmD n (.int i)
  | str (n : Nat) (z : Str) : SmD n (.str z)
  | bl (n : Nat) (b : Bool) : SmD n (.bool b)
  | lst {n : Nat} {ds : List PyData} (h : ∀ (i : Nat) (d : PyData), ds[i]? = some d → SmD n d) (hl : ds.length ≤ 1000) : SmD (n + 1) (.list ds)
  | tup {n : Nat} {ds : List PyData} (h : ∀ (i : Nat) (d : PyData), ds[i]? = some d → SmD n d) (hl : ds.length ≤ 1000) : SmD (n + 1) (.tuple ds)
def spSm (K : PySem.W.Frag) (n : Nat) : Sp := fun vs H Q _ => ∃ (m : Nat) (x y : V) (d : PyData), m < n ∧ vs = [x, y] ∧ Dp K H x d ∧ Dp K H y d ∧ SmD m d ∧ ∀ H', Same H H' → Q (.bl true) H'
structure TSm (K : PySem.W.Frag) (mg : Str → Option Value) (fA : Addr) (fdA : FuncData) : Prop where
  g : mg "_law_same" = some (.ref fA)
  kp : PySem.W.keepIn K (.ref fA) = true
  fu : Fun K "_law_same" "_law_same" sSm fA fdA
  mI : mg "isinstance" = none
  mN : mg "len" = none
  mR : mg "range" = none
  m_list : mg "list" = none
  m_tuple : mg "tuple" = none
  m_int : mg "int" = none
  m_bool : mg "bool" = none
theorem ka_str {K : PySem.W.Frag} : PySem.W.kitAny K (.type "str") [.type "tuple", .type "list"] = some false := kitAny_cons (b := false) (kit_ty (by decide +kernel)) (fun _ => kitAny_cons (b := false) (kit_ty (by decide +kernel)) (fun _ => rfl) (fun z => by cases z)) (fun z => by cases z)
theorem ka_bl {K : PySem.W.Frag} : PySem.W.kitAny K (.type "bool") [.type "tuple", .type "list"] = some false := kitAny_cons (b := false) (kit_ty (by decide +kernel)) (fun _ => kitAny_cons (b := false) (kit_ty (by decide +kernel)) (fun _ => rfl) (fun z => by cases z)) (fun z => by cases z)
section
variable {P : Program} {w : World} {K : PySem.W.Frag} {mg : Str → Option Value} {base : Heap} {fA : Addr} {fdA : FuncData}
theorem ok_sm (T : TSm K mg fA fdA) : ∀ n, FnOk P w K mg base CX0 n fA fdA ["_law_result", "_law_expected"] (spSm K n)
  | 0 => ⟨fun vs H Q E h => by obtain ⟨m, _, _, _, hm, _⟩ := h; exact absurd hm (Nat.not_lt_zero _), by
      intros
      rename_i h
      obtain ⟨m, _, _, _, hm, _⟩ := h
      exact absurd hm (Nat.not_lt_zero _)⟩
  | n + 1 => by
    have ih := ok_sm T n
    have bA : Binds K fdA ["_law_result", "_law_expected"] [] := T.fu.binds (ps := ["_law_result", "_law_expected"]) fun _ _ _ _ _ _ us hl => match us, hl with | [_, _], _ => rfl
    refine T.fu.ok scSm (fun vs H Q E h => ?_) (fun cdv A outer s H vs Q E hr h => ?_)
    · obtain ⟨m, x, y, d, hm, rfl, _⟩ := h
      rfl
    · obtain ⟨m, x, y, d, hm, rfl, h1, h2, hd, q⟩ := h
      have hu := hr.units
      refine ⟨_, pss_cons (ps_if (pt_val (pe_callB call_isiT (by rfl) T.mI PyProof.Rows.boot_isinstance (pa_cons (pv 1) (pa_cons (pe_tup (pa_cons (pe_bltn (v := .ty "tuple") (by rfl) T.m_tuple (by decide +kernel) rfl) (pa_cons (pe_bltn (v := .ty "list") (by rfl) T.m_list (by decide +kernel) rfl) pa_nil))) pa_nil)))) (pss_cons (ps_if (PW.pt (pw_or (pt_not (pt_val (pe_callB call_isiT (by rfl) T.mI PyProof.Rows.boot_isinstance (pa_cons (pv 0) (pa_cons (pe_tup (pa_cons (pe_bltn (v := .ty "tuple") (by rfl) T.m_tuple (by decide +kernel) rfl) (pa_cons (pe_bltn (v := .ty "list") (by rfl) T.m_list (by decide +kernel) rfl) pa_nil))) pa_nil))))) (pw_or1 (pt_cmpR op_ne (pe_callB call_isi (by rfl) T.mI PyProof.Rows.boot_isinstance (pa_cons (pv 0) (pa_cons (pe_bltn (v := .ty "list") (by rfl) T.m_list (by decide +kernel) rfl) pa_nil))) (pe_callB call_isi (by rfl) T.mI PyProof.Rows.boot_isinstance (pa_cons (pv 1) (pa_cons (pe_bltn (v := .ty "list") (by rfl) T.m_list (by decide +kernel) rfl) pa_nil))) (nomark _))))) pss_never pss_nil)
        (pss_cons (ps_if (pt_cmpR op_ne (pe_callB call_len_seq (by rfl) T.mN PySem.boot_len (pa_cons (pv 0) pa_nil)) (pe_callB call_len_seq (by rfl) T.mN PySem.boot_len (pa_cons (pv 1) pa_nil)) (nomark _)) pss_never pss_nil)
        (pss_one (ps_ret (pe_cmpR (op_eqD hu) (pe_lc (X := (cxOf CX0 P w K mg base ["_law_result", "_law_expected", "_law_k"] "_law_same" (defScope sSm) fA cdv A outer s H E).nox) (own := [("_law_k", 2)]) (g := gName 2) (by rfl) scSm.nd (pi_range1 (by rfl) T.mR (pa_cons (pe_callB call_len_seq (by rfl) T.mN PySem.boot_len (pa_cons (pv 1) pa_nil)) pa_nil))
          (blkOk_by (own := [("_law_k", 2)]) (N := ["_law_result", "_law_expected", "_law_k"]) (sc := defScope sSm) (by decide +kernel)) (fun _ _ _ _ _ => pg_name (i := 2) scSm.nd rfl (Or.inl rfl))
          (fun _ _ _ _ _ => pts_one (pt_not (pt_val (pe_call (E := E0) ih hr (by rfl) T.g T.kp bA .nil pass0 (pa_cons (pe_ixsK K rfl (pv 0) (pv 2)) (pa_cons (pe_ixsK K rfl (pv 1) (pv 2)) pa_nil)))))) (fun _ _ _ _ _ => pv 2)) (pe_lst pa_nil) (nomark _)))))) pss_nil)
      (pss_cons (ps_if (pt_cmpR op_ne (pe_callB call_isi (by rfl) T.mI PyProof.Rows.boot_isinstance (pa_cons (pv 0) (pa_cons (pe_bltn (v := .ty "bool") (by rfl) T.m_bool (by decide +kernel) rfl) pa_nil))) (pe_callB call_isi (by rfl) T.mI PyProof.Rows.boot_isinstance (pa_cons (pv 1) (pa_cons (pe_bltn (v := .ty "bool") (by rfl) T.m_bool (by decide +kernel) rfl) pa_nil))) (nomark _)) pss_never pss_nil)
      (pss_one (ps_ret (pe_and (pe_cmpR op_eq (pe_callB call_isi (by rfl) T.mI PyProof.Rows.boot_isinstance (pa_cons (pv 0) (pa_cons (pe_bltn (v := .ty "int") (by rfl) T.m_int (by decide +kernel) rfl) pa_nil))) (pe_callB call_isi (by rfl) T.mI PyProof.Rows.boot_isinstance (pa_cons (pv 1) (pa_cons (pe_bltn (v := .ty "int") (by rfl) T.m_int (by decide +kernel) rfl) pa_nil))) (nomark _)) (pe_one (pe_cmpR op_eq (pv 0) (pv 1) (nomark _))))))), ?_⟩
      dsimp only
      cases hd with
      | int m i =>
        cases h1
        cases h2
        refine q_when (b := false) (et_B (ev_isiT rfl (fun H2 _ => .base (.int i)) ka_int)) (fun z => by cases z) fun _ H2 e2 => ?_
        refine q_when (b := false) (et_is (et_test (ev_op (ev_isi (b := false) rfl (fun H3 _ => .base (.int i)) (kit_ty (by decide +kernel))) (ev_isi (b := false) rfl (fun H3 _ => .base (.int i)) (kit_ty (by decide +kernel))) (rv_ne rfl))) (by decide +kernel)) (fun z => by cases z) fun _ H3 e3 => ?_
        refine s_ret (v := .bl true) (ev_is (ev_andV (ev_op (ev_isi (b := true) rfl (fun H3 _ => .base (.int i)) (kit_ty (by decide +kernel))) (ev_isi (b := true) rfl (fun H3 _ => .base (.int i)) (kit_ty (by decide +kernel))) (rv_eq rfl)) fun _ => ev_op (ev_var rfl) (ev_var rfl) (rv_eq rfl)) ?_) fun H4 e4 => q H4 ((Same.trans e2 e3).trans e4)
        simp
      | str m i =>
        cases h1
        cases h2
        refine q_when (b := false) (et_B (ev_isiT rfl (fun H2 _ => .base (.str i)) ka_str)) (fun z => by cases z) fun _ H2 e2 => ?_
        refine q_when (b := false) (et_is (et_test (ev_op (ev_isi (b := false) rfl (fun H3 _ => .base (.str i)) (kit_ty (by decide +kernel))) (ev_isi (b := false) rfl (fun H3 _ => .base (.str i)) (kit_ty (by decide +kernel))) (rv_ne rfl))) (by decide +kernel)) (fun z => by cases z) fun _ H3 e3 => ?_
        refine s_ret (v := .bl true) (ev_is (ev_andV (ev_op (ev_isi (b := false) rfl (fun H3 _ => .base (.str i)) (kit_ty (by decide +kernel))) (ev_isi (b := false) rfl (fun H3 _ => .base (.str i)) (kit_ty (by decide +kernel))) (rv_eq rfl)) fun _ => ev_op (ev_var rfl) (ev_var rfl) (rv_eq rfl)) ?_) fun H4 e4 => q H4 ((Same.trans e2 e3).trans e4)
        simp
      | bl m i =>
        cases h1
        cases h2
        refine q_when (b := false) (et_B (ev_isiT rfl (fun H2 _ => .base (.bl i)) ka_bl)) (fun z => by cases z) fun _ H2 e2 => ?_
        refine q_when (b := false) (et_is (et_test (ev_op (ev_isi (b := true) rfl (fun H3 _ => .base (.bl i)) (kit_ty (by decide +kernel))) (ev_isi (b := true) rfl (fun H3 _ => .base (.bl i)) (kit_ty (by decide +kernel))) (rv_ne rfl))) (by decide +kernel)) (fun z => by cases z) fun _ H3 e3 => ?_
        refine s_ret (v := .bl true) (ev_is (ev_andV (ev_op (ev_isi (b := true) rfl (fun H3 _ => .base (.bl i)) (kit_ty (by decide +kernel))) (ev_isi (b := true) rfl (fun H3 _ => .base (.bl i)) (kit_ty (by decide +kernel))) (rv_eq rfl)) fun _ => ev_op (ev_var rfl) (ev_var rfl) (rv_eq rfl)) ?_) fun H4 e4 => q H4 ((Same.trans e2 e3).trans e4)
        simp
      | @lst m ds hds hl =>
        cases h1 with
        | @lst a xs _ ha hxs =>
        cases h2 with
        | @lst b ys _ hb hys =>
        have lx := dps_len hxs
        have ly := dps_len hys
        have tx : ∀ H1, Ex H H1 → TyX K H1 (.ref a) (.type "list") := fun H1 e => tyx_lst (ex_l e ha)
        have tyy : ∀ H1, Ex H H1 → TyX K H1 (.ref b) (.type "list") := fun H1 e => tyx_lst (ex_l e hb)
        refine q_when (b := true) (et_B (ev_isiT rfl tyy ka_list)) (fun _ H2 e12 => ?_) (fun z => by cases z)
        refine q_when (b := false) (et_is (et_or (a := false) (b := false) (et_is (et_not (et_B (ev_isiT rfl (fun H3 e3 => tx H3 (e12.trans e3)) ka_list))) rfl) fun _ => et_is (et_test (ev_op (ev_isi (b := true) rfl (fun H3 e3 => tx H3 (e12.trans e3)) (kit_ty (by decide +kernel))) (ev_isi (b := true) rfl (fun H3 e3 => tyy H3 (e12.trans e3)) (kit_ty (by decide +kernel))) (rv_ne rfl))) (by decide +kernel)) rfl) (fun z => by cases z) fun _ H3 e3 => ?_
        have e13 := e12.trans e3
        refine q_when (b := false) (et_is (et_test (ev_op (ev_lenS rfl (.inl (ex_l e13 ha))) (ev_lenS rfl (.inl (ex_l e13 hb))) (rv_ne rfl))) (by rw [lx, ly]; simp)) (fun z => by cases z) fun _ H4 e4 => ?_
        have e14 := e13.trans e4
        refine s_ret (v := .bl true) (ev_is (ev_opLL (xs := []) (ys := []) ?_ (el_lst ea_nil (by decide)) (fun p r H5 hp hr5 e5 => rv_eqD (d := .list []) (e := .list []) (fun H6 e6 => .lst (.of (e6 _ _ hp)) .nil) (fun H6 e6 => .lst (.of (e6 _ _ hr5)) .nil) rfl rfl)) rfl) fun H5 e5 => q H5 (Same.trans e14 e5)
        have eL := el_lcR1 (n := ((ys.length : Nat) : Int)) (fun _ => false) (fun k => V.int (k : Nat)) (σ := L2.start ["_law_result", "_law_expected", "_law_k"] [.ref a, .ref b]) (H := H4) (j := 2) (vs := [2]) (t := tNot (tB (tCall (spSm K n) [] E0 (tCons (tOp (rIx K) (tVar 0) (tVar 2)) (tCons (tOp (rIx K) (tVar 1) (tVar 2)) tNil))))) (te := tVar 2)
          (ta := tCons (tCB (fun xs H Q => ∃ p ys, xs = [V.ref p] ∧ (SqL K H p ys ∨ SqT K H p ys) ∧ Q (.int ys.length) H) (tCons (tVar 1) tNil)) tNil) (ea_cons (ev_lenS rfl (.inl (ex_l e14 hb))) ea_nil) ⟨by omega, by omega⟩ (fun x => rfl) (fun i H5 e5 hi => ?_) (fun i H5 e5 hi _ => ev_var rfl)
        · rw [given_none] at eL
          exact eL
        · have hi2 : i < ds.length := by omega
          obtain ⟨v, d1, gv, gd, dv⟩ := dps_get hxs hi2
          obtain ⟨u, d2, gu, gd2, du⟩ := dps_get hys hi2
          obtain rfl : d1 = d2 := Option.some.inj (gd.symm.trans gd2)
          have e15 := e14.trans e5
          have av : atI xs ((i : Nat) : Int) = some v := at_nat (by rw [lx]; exact hi2) gv
          have au : atI ys ((i : Nat) : Int) = some u := at_nat (by rw [ly]; exact hi2) gu
          refine et_is (et_not (et_B (ev_call (vs := [v, u]) (z := .bl true) (ea_cons (ev_op (ev_var rfl) (ev_var rfl) (fun H6 e6 Q6 q6 => .inl (rv_ixL (ex_l e15 ha) av H6 e6 Q6 q6))) (ea_cons (ev_op (ev_var rfl) (ev_var rfl) (fun H6 e6 Q6 q6 => .inl (rv_ixL (ex_l e15 hb) au H6 e6 Q6 q6))) ea_nil)) ?_))) rfl
          exact fun H6 e6 Q6 q6 E6 => ⟨m, v, u, d1, by omega, rfl, dp_ex (e15.trans e6) dv, dp_ex (e15.trans e6) du, hds i d1 gd, fun H7 s7 => q6 H7 s7⟩
      | @tup m ds hds hl =>
        cases h1 with
        | @tup a xs _ ha hxs =>
        cases h2 with
        | @tup b ys _ hb hys =>
        have lx := dps_len hxs
        have ly := dps_len hys
        have tx : ∀ H1, Ex H H1 → TyX K H1 (.ref a) (.type "tuple") := fun H1 e => tyx_tup (ex_t e ha)
        have tyy : ∀ H1, Ex H H1 → TyX K H1 (.ref b) (.type "tuple") := fun H1 e => tyx_tup (ex_t e hb)
        refine q_when (b := true) (et_B (ev_isiT rfl tyy ka_tuple)) (fun _ H2 e12 => ?_) (fun z => by cases z)
        refine q_when (b := false) (et_is (et_or (a := false) (b := false) (et_is (et_not (et_B (ev_isiT rfl (fun H3 e3 => tx H3 (e12.trans e3)) ka_tuple))) rfl) fun _ => et_is (et_test (ev_op (ev_isi (b := false) rfl (fun H3 e3 => tx H3 (e12.trans e3)) (kit_ty (by decide +kernel))) (ev_isi (b := false) rfl (fun H3 e3 => tyy H3 (e12.trans e3)) (kit_ty (by decide +kernel))) (rv_ne rfl))) (by decide +kernel)) rfl) (fun z => by cases z) fun _ H3 e3 => ?_
        have e13 := e12.trans e3
        refine q_when (b := false) (et_is (et_test (ev_op (ev_lenS rfl (.inr (ex_t e13 ha))) (ev_lenS rfl (.inr (ex_t e13 hb))) (rv_ne rfl))) (by rw [lx, ly]; simp)) (fun z => by cases z) fun _ H4 e4 => ?_
        have e14 := e13.trans e4
        refine s_ret (v := .bl true) (ev_is (ev_opLL (xs := []) (ys := []) ?_ (el_lst ea_nil (by decide)) (fun p r H5 hp hr5 e5 => rv_eqD (d := .list []) (e := .list []) (fun H6 e6 => .lst (.of (e6 _ _ hp)) .nil) (fun H6 e6 => .lst (.of (e6 _ _ hr5)) .nil) rfl rfl)) rfl) fun H5 e5 => q H5 (Same.trans e14 e5)
        have eL := el_lcR1 (n := ((ys.length : Nat) : Int)) (fun _ => false) (fun k => V.int (k : Nat)) (σ := L2.start ["_law_result", "_law_expected", "_law_k"] [.ref a, .ref b]) (H := H4) (j := 2) (vs := [2]) (t := tNot (tB (tCall (spSm K n) [] E0 (tCons (tOp (rIx K) (tVar 0) (tVar 2)) (tCons (tOp (rIx K) (tVar 1) (tVar 2)) tNil))))) (te := tVar 2)
          (ta := tCons (tCB (fun xs H Q => ∃ p ys, xs = [V.ref p] ∧ (SqL K H p ys ∨ SqT K H p ys) ∧ Q (.int ys.length) H) (tCons (tVar 1) tNil)) tNil) (ea_cons (ev_lenS rfl (.inr (ex_t e14 hb))) ea_nil) ⟨by omega, by omega⟩ (fun x => rfl) (fun i H5 e5 hi => ?_) (fun i H5 e5 hi _ => ev_var rfl)
        · rw [given_none] at eL
          exact eL
        · have hi2 : i < ds.length := by omega
          obtain ⟨v, d1, gv, gd, dv⟩ := dps_get hxs hi2
          obtain ⟨u, d2, gu, gd2, du⟩ := dps_get hys hi2
          obtain rfl : d1 = d2 := Option.some.inj (gd.symm.trans gd2)
          have e15 := e14.trans e5
          have av : atI xs ((i : Nat) : Int) = some v := at_nat (by rw [lx]; exact hi2) gv
          have au : atI ys ((i : Nat) : Int) = some u := at_nat (by rw [ly]; exact hi2) gu
          refine et_is (et_not (et_B (ev_call (vs := [v, u]) (z := .bl true) (ea_cons (ev_op (ev_var rfl) (ev_var rfl) (fun H6 e6 Q6 q6 => .inr (.inl (rv_ixT (ex_t e15 ha) av H6 e6 Q6 q6)))) (ea_cons (ev_op (ev_var rfl) (ev_var rfl) (fun H6 e6 Q6 q6 => .inr (.inl (rv_ixT (ex_t e15 hb) au H6 e6 Q6 q6)))) ea_nil)) ?_))) rfl
          exact fun H6 e6 Q6 q6 E6 => ⟨m, v, u, d1, by omega, rfl, dp_ex (e15.trans e6) dv, dp_ex (e15.trans e6) du, hds i d1 gd, fun H7 s7 => q6 H7 s7⟩
end
end Sea

set_option Elab.async false
set_option linter.all false
set_option maxRecDepth 100000
set_option maxHeartbeats 4000000
/-! _law_outcome -/
namespace Sea
open PySem PySem.Spec PyProof.Rows L2 LamX NdefX ClX Evl StX
abbrev NOu : List Str := ["_law_work", "_law_e"]
theorem scOut : FnScope NOu ["_law_work"] (defScope sOut) := ⟨rfl, rfl, rfl, by decide +kernel, rfl, by decide +kernel, by decide +kernel⟩
structure TOu (K : PySem.W.Frag) (mg : Str → Option Value) (cN cIo cNp cU : Addr) : Prop where
  gN : mg "InvalidCount" = some (.ref cN)
  gI : mg "InvalidOperation" = some (.ref cIo)
  gP : mg "NoPass" = some (.ref cNp)
  gU : mg "UnknownPass" = some (.ref cU)
  fI : XfC K cIo
  fP : XfC K cNp
  nI : PySem.W.findIn K (.ref cIo) "index" = some none
  nP : PySem.W.findIn K (.ref cNp) "day" = some none
  NN : PySem.W.exmOne K (.ref cN) (.ref cN) = some true
  IN : PySem.W.exmOne K (.ref cIo) (.ref cN) = some false
  II : PySem.W.exmOne K (.ref cIo) (.ref cIo) = some true
  PN : PySem.W.exmOne K (.ref cNp) (.ref cN) = some false
  PI : PySem.W.exmOne K (.ref cNp) (.ref cIo) = some false
  PP : PySem.W.exmOne K (.ref cNp) (.ref cNp) = some true
  UN : PySem.W.exmOne K (.ref cU) (.ref cN) = some false
  UI : PySem.W.exmOne K (.ref cU) (.ref cIo) = some false
  UP : PySem.W.exmOne K (.ref cU) (.ref cNp) = some false
  UU : PySem.W.exmOne K (.ref cU) (.ref cU) = some true
/-- what _law_outcome answers: of a thunk that gives a value, the value; of one that raises, a tuple -/
def spOut (cN cIo cNp cU : Addr) : (Hp → VK → XK → Prop) → Hp → VK → XK → Prop := fun tl H Q _ => tl H Q fun cls d H1 =>
  (cls = .ref cN ∧ ∀ r H', Same H1 H' → H1 r = none → H' r = some (.tup [.str "InvalidCount"]) → Q (.ref r) H') ∨
  (cls = .ref cIo ∧ ∃ (dx : Addr) (i : Int), d = some dx ∧ H1 dx = some (.xd [("index", .int i)]) ∧ ∀ r H', Same H1 H' → H1 r = none → H' r = some (.tup [.str "InvalidOperation", .int i]) → Q (.ref r) H') ∨
  (cls = .ref cNp ∧ ∃ (dx : Addr) (i : Int), d = some dx ∧ H1 dx = some (.xd [("day", .int i)]) ∧ ∀ r H', Same H1 H' → H1 r = none → H' r = some (.tup [.str "NoPass", .int i]) → Q (.ref r) H') ∨
  (cls = .ref cU ∧ ∀ r H', Same H1 H' → H1 r = none → H' r = some (.tup [.str "UnknownPass"]) → Q (.ref r) H')
section
variable {P : Program} {w : World} {K : PySem.W.Frag} {mg : Str → Option Value} {base : Heap} {cN cIo cNp cU : Addr}
theorem ok_out {f : Addr} {fd : FuncData} {j k : Nat} (F : Fun K "_law_outcome" "_law_outcome" sOut f fd) (T : TOu K mg cN cIo cNp cU) (hjk : j ≤ k) : FnS P w K mg base CX0 (L2.CX P w) (k + 1) j f (spOut cN cIo cNp cU) := by
  intro A outer s H fl tl Q E hr e0 hT h
  obtain ⟨oc, od, kV, doc, pm, an, cdv, ct, osl, rfl, lk, hcd⟩ := F.ex
  refine run_ofS (N := NOu) (ps := ["_law_work"]) (us := [.ref fl]) (vs := [.ref fl]) (k := k) lk hcd scOut hr e0 (.of_eq rfl) (.cons rfl .nil) rfl fun hr' => ?_
  refine ⟨_, pss_one (ps_try_cls (X := (cxOf CX0 P w K mg base NOu "_law_outcome" (defScope sOut) f cdv A outer s H E)) (W := fun _ _ _ _ => False) rfl rfl L2.takes0
      (fun U pn xe tk hp => pss_one (ps_ret (show PE ((cxOf CX0 P w K mg base NOu "_law_outcome" (defScope sOut) f cdv A outer s H E).tr pn xe) _ (tActM (cxOf CX0 P w K mg base NOu "_law_outcome" (defScope sOut) f cdv A outer s H E) j 0 fun σ => WE U σ) from
        pe_actM (X := (cxOf CX0 P w K mg base NOu "_law_outcome" (defScope sOut) f cdv A outer s H E).tr pn xe) (j := j) (i := 0) (E := fun σ => WE U σ) (hr'.mono hjk) rfl (fun σ => passAt tk σ) rfl (.inl rfl))))
      (.cons (.bare ⟨by rfl, by decide, .inl T.gN⟩ (fun a oe cls d pn hz hf => pss_one (ps_ret (pe_tup (pa_cons pe_str pa_nil)))))
      (.cons (.named (i := 1) scOut.nd rfl rfl ⟨by rfl, by decide, .inl T.gI⟩ (fun a oe cls d pn hz hf => pss_one (ps_ret (pe_tup (pa_cons pe_str (pa_cons (pe_xf (X := (cxOf CX0 P w K mg base NOu "_law_outcome" (defScope sOut) f cdv A outer s H E)) (pn := pn) K rfl hz hf (pv 1)) pa_nil))))))
      (.cons (.named (i := 1) scOut.nd rfl rfl ⟨by rfl, by decide, .inl T.gP⟩ (fun a oe cls d pn hz hf => pss_one (ps_ret (pe_tup (pa_cons pe_str (pa_cons (pe_xf (X := (cxOf CX0 P w K mg base NOu "_law_outcome" (defScope sOut) f cdv A outer s H E)) (pn := pn) K rfl hz hf (pv 1)) pa_nil))))))
      (.cons (.bare ⟨by rfl, by decide, .inl T.gU⟩ (fun a oe cls d pn hz hf => pss_one (ps_ret (pe_tup (pa_cons pe_str pa_nil))))) .nil))))), ?_⟩
  refine ⟨fl, tl, _, _, rfl, rfl, hT, h, fun v H1 q => q, fun cls d H1 hc => ?_⟩
  rcases hc with ⟨rfl, q⟩ | ⟨rfl, dx, i, rfl, hx, q⟩ | ⟨rfl, dx, i, rfl, hx, q⟩ | ⟨rfl, q⟩
  · refine ⟨true, T.NN, fun a na => ?_⟩
    exact ⟨Nat.le_of_lt (small1000 (show 1 ≤ 1000 by decide)), fun r nr => q r _ (same_new nr) nr upd_same⟩
  · refine ⟨false, T.IN, true, T.II, fun a na => ?_⟩
    exact ⟨cIo, rfl, T.fI, T.nI, .ref a, rfl, rfl, rfl, dx, _, _, rfl, hx, rfl, Nat.le_of_lt (small1000 (show 2 ≤ 1000 by decide)), fun r nr => q r _ (same_new nr) nr upd_same⟩
  · refine ⟨false, T.PN, false, T.PI, true, T.PP, fun a na => ?_⟩
    exact ⟨cNp, rfl, T.fP, T.nP, .ref a, rfl, rfl, rfl, dx, _, _, rfl, hx, rfl, Nat.le_of_lt (small1000 (show 2 ≤ 1000 by decide)), fun r nr => q r _ (same_new nr) nr upd_same⟩
  · refine ⟨false, T.UN, false, T.UI, false, T.UP, true, T.UU, fun a na => ?_⟩
    exact ⟨Nat.le_of_lt (small1000 (show 1 ≤ 1000 by decide)), fun r nr => q r _ (same_new nr) nr upd_same⟩
end
end Sea

set_option Elab.async false
set_option linter.all false
set_option maxRecDepth 100000
set_option maxHeartbeats 4000000
/-! the law's model of a wallet: _law_covered -/
namespace Sea
open PySem PySem.Spec PyProof.Rows L2 LamX NdefX ClX Evl StX
theorem scCv : FnScope ["_law_w", "_law_date", "_law_row"] ["_law_w", "_law_date"] (defScope sCv) := ⟨rfl, rfl, rfl, by decide +kernel, rfl, by decide +kernel, by decide +kernel⟩
theorem scKe : FnScope ["_law_w"] ["_law_w"] (defScope sKe) := ⟨rfl, rfl, rfl, by decide +kernel, rfl, by decide +kernel, by decide +kernel⟩
section
variable {K : PySem.W.Frag} {td te ta tb : TE} {σ : L2.St} {H H' : Hp}
theorem pe_dgetK {X : Cx} {o : Expr} {z : Str} {k : Nat} {p1 pos : Pos} (hu : X.A.units + 1 < cLine) (ho : PE X o td) : PE X (.Subscript o (.Constant (.str z) k p1) pos) (tDGet td (tC (.str z))) := pe_dget hu ho pe_str (fun _ _ => rfl)
theorem ev_dget {w : Addr} {kvs : List (Key × V)} {z : Str} {v : V} (h : Ev td σ H (.ref w)) (hw : H w = some (.dK kvs)) (hv : valV kvs (.inr z) = some v) : Ev (tDGet td (tC (.str z))) σ H v := fun H1 e Q q =>
  h H1 e _ fun H2 e2 => ⟨w, v, rfl, hv ▸ DGet.k (k := .inr z) ((e.trans e2) _ _ hw), q H2 e2⟩
/-- the pairs of a list, chosen by what they are -/
theorem PsV.given {ws : List V} {bt : List (Int × Int)} (h : PsV K H ws bt) (q : Int × Int → Bool) : PsV K H (given ws.length (fun i => q (bt.getD i (0, 0))) (fun i => ws.getD i .non)) (bt.filter q) := by
  have hl := h.len
  have key : ∀ n, n ≤ ws.length → PsV K H (Evl.given n (fun i => q (bt.getD i (0, 0))) (fun i => ws.getD i .non)) ((bt.take n).filter q) := by
    intro n
    induction n with
    | zero => exact fun _ => .nil
    | succ n ih =>
      intro hn
      have hw : ws[n]? = some ws[n] := List.getElem?_eq_getElem (by omega)
      obtain ⟨z, hz, pz⟩ := h.get hw
      have gz : bt.getD n (0, 0) = z := by rw [List.getD_eq_getElem?_getD, hz]; rfl
      have gw : ws.getD n .non = ws[n] := by rw [List.getD_eq_getElem?_getD, hw]; rfl
      rw [take_snoc hz, List.filter_append]
      by_cases c : q z = true
      · rw [given_yes (by rw [gz]; exact c), gw]
        rw [List.filter_cons, if_pos c]
        exact (ih (by omega)).snoc pz
      · rw [given_no (by rw [gz]; exact Bool.eq_false_iff.mpr c)]
        rw [List.filter_cons, if_neg c, List.filter_nil, List.append_nil]
        exact ih (by omega)
  have := key ws.length (Nat.le_refl _)
  rwa [List.take_of_length_le (by omega)] at this
theorem lsD_sh (L : List (Int × Int)) : SeqAt.shaped (.list (L.map fun x => .tuple [.int x.1, .int x.2])) = true := psD_sh L
theorem lsD_nil (L : List (Int × Int)) : PyData.eqv (.list (L.map fun x => .tuple [.int x.1, .int x.2])) (.list []) = decide (L = []) := by
  cases L <;> rfl
end
/-- what the model's past holds: contents, their lists at ls -/
inductive PastV (K : PySem.W.Frag) (H : Hp) : List V → List Ct → List Addr → Prop
  | nil : PastV K H [] [] []
  | cons {v : V} {c : Ct} {l a : Addr} {ws vs : List V} {cs : List Ct} {ls : List Addr} : v = .ref a → SqT K H a [.int c.day, .ref l] → H l = some (.lst ws) → PsV K H ws c.bt → PastV K H vs cs ls → PastV K H (v :: vs) (c :: cs) (l :: ls)
def moD (pl : Addr) (d : Int) (bl pa : Addr) : List (Key × V) := [(.inr "passes", .ref pl), (.inr "day", .int d), (.inr "bought", .ref bl), (.inr "past", .ref pa)]
/-- the model at w -/
structure MoA (K : PySem.W.Frag) (H : Hp) (w pl pa bl : Addr) (ls : List Addr) (L : List (Int × Int)) (c : Ct) (es : List Ct) : Prop where
  iw : H w = some (.dK (moD pl c.day bl pa))
  ip : ∃ ws, H pl = some (.lst ws) ∧ PsV K H ws L
  ib : ∃ ws, H bl = some (.lst ws) ∧ PsV K H ws c.bt
  ia : ∃ vs, H pa = some (.lst vs) ∧ PastV K H vs es ls
  nd : (pl :: pa :: bl :: ls).Nodup
section
variable {K : PySem.W.Frag} {H H' : Hp} {w pl pa bl : Addr} {ls : List Addr} {L : List (Int × Int)} {c : Ct} {es : List Ct} {S : List Addr}
/-- what changes are lists, dicts and tables -/
def Mu (S : List Addr) (H : Hp) : Prop := ∀ b ∈ S, (∃ xs, H b = some (.lst xs)) ∨ (∃ kvs, H b = some (.dK kvs)) ∨ (∃ ps, H b = some (.tbl ps)) ∨ H b = none
theorem But.tk (k : But S H H') (m : Mu S H) : TK K H H' := by
  intro a ws h
  rcases h with (h | ⟨u, h⟩) | h
  · refine .inl (.inl (k _ _ h fun z => ?_))
    rcases m a z with ⟨_, e⟩ | ⟨_, e⟩ | ⟨_, e⟩ | e <;> rw [h] at e <;> cases e
  · refine .inl (.inr ⟨u, k _ _ h fun z => ?_⟩)
    rcases m a z with ⟨_, e⟩ | ⟨_, e⟩ | ⟨_, e⟩ | e <;> rw [h] at e <;> cases e
  · exact .inr h
theorem But.ins (k : But S H H') (m : Mu S H) {a C dx : Addr} {fs : List (Str × V)} (h : H a = some (.ins C dx fs)) : H' a = some (.ins C dx fs) := k _ _ h fun z => by
  rcases m a z with ⟨_, e⟩ | ⟨_, e⟩ | ⟨_, e⟩ | e <;> rw [h] at e <;> cases e
theorem PastV.but {vs : List V} (h : PastV K H vs es ls) (k : But S H H') (m : Mu S H) (n : ∀ l ∈ ls, l ∉ S) : PastV K H' vs es ls := by
  induction h with
  | nil => exact .nil
  | cons e h1 h2 h3 _ ih => exact .cons e (k.tk m _ _ h1) (k _ _ h2 (n _ List.mem_cons_self)) (h3.tk (k.tk m)) (ih fun l hl => n l (List.mem_cons_of_mem _ hl))
theorem MoA.but (h : MoA K H w pl pa bl ls L c es) (k : But S H H') (m : Mu S H) (nw : w ∉ S) (n : ∀ l ∈ pl :: pa :: bl :: ls, l ∉ S) : MoA K H' w pl pa bl ls L c es := by
  obtain ⟨h1, ⟨ws, h2, h3⟩, ⟨us, h4, h5⟩, ⟨vs, h6, h7⟩, h8⟩ := h
  refine ⟨k _ _ h1 nw, ⟨ws, k _ _ h2 (n _ (by simp)), h3.tk (k.tk m)⟩, ⟨us, k _ _ h4 (n _ (by simp)), h5.tk (k.tk m)⟩, ⟨vs, k _ _ h6 (n _ (by simp)), h7.but k m fun l hl => n l (by simp [hl])⟩, h8⟩
theorem Mu.nil {H : Hp} : Mu [] H := fun b hb => nomatch hb
theorem MoA.same (h : MoA K H w pl pa bl ls L c es) (s : Same H H') : MoA K H' w pl pa bl ls L c es := h.but (S := []) (.same s) .nil (fun z => nomatch z) fun _ _ z => nomatch z
theorem WlA.but {C CT CW x E t p : Addr} (h : WlA K C CT CW H x E t p L c es) (k : But S H H') (m : Mu S H) (n : E ∉ S) : WlA K C CT CW H' x E t p L c es := by
  obtain ⟨⟨dx, co, h1, h2⟩, ⟨as, h3, h4⟩, ⟨dt, h5⟩, h6⟩ := h
  have ct : ∀ {v : V} {c : Ct}, CtA K CT H v c → CtA K CT H' v c := fun h => by
    obtain ⟨co, dx, q, ws, rfl, h1, h2, h3⟩ := h
    exact ⟨co, dx, q, ws, rfl, k.ins m h1, k.tk m _ _ h2, h3.tk (k.tk m)⟩
  have cts : ∀ {vs : List V} {cs : List Ct}, CtsA K CT H vs cs → CtsA K CT H' vs cs := fun h => by
    induction h with
    | nil => exact .nil
    | cons a _ ih => exact .cons (ct a) ih
  exact ⟨⟨dx, co, k.ins m h1, ct h2⟩, ⟨as, k _ _ h3 n, cts h4⟩, ⟨dt, k.ins m h5⟩, h6.tk (k.tk m)⟩
theorem MoA.dw (h : MoA K H w pl pa bl ls L c es) {te : TE} {σ : L2.St} (hv : Ev te σ H (.ref w)) :
    Ev (tDGet te (tC (.str "passes"))) σ H (.ref pl) ∧ Ev (tDGet te (tC (.str "day"))) σ H (.int c.day) ∧ Ev (tDGet te (tC (.str "bought"))) σ H (.ref bl) ∧ Ev (tDGet te (tC (.str "past"))) σ H (.ref pa) :=
  ⟨ev_dget hv h.iw rfl, ev_dget hv h.iw rfl, ev_dget hv h.iw rfl, ev_dget hv h.iw rfl⟩
end
def spCv (K : PySem.W.Frag) : Sp := fun vs H Q _ => ∃ (w pl pa bl : Addr) (ls : List Addr) (L : List (Int × Int)) (c : Ct) (es : List Ct) (d : Int), vs = [.ref w, .int d] ∧ MoA K H w pl pa bl ls L c es ∧ BtOk L c.bt ∧ c.bt.length ≤ 1000 ∧ ∀ H', Same H H' → Q (.bl (c.bt.any (covB L d))) H'
section
variable {P : Program} {w : World} {K : PySem.W.Frag} {mg : Str → Option Value} {base : Heap}
theorem ok_cv {f : Addr} {fd : FuncData} {k : Nat} (F : Fun K "_law_covered" "_law_covered" sCv f fd) : FnOk P w K mg base CX0 (k + 1) f fd ["_law_w", "_law_date"] (spCv K) := by
  refine F.ok scCv (fun vs H Q E h => ?_) (fun cdv A outer s H vs Q E hr h => ?_)
  · obtain ⟨w, pl, pa, bl, ls, L, c, es, d, rfl, _⟩ := h
    rfl
  · obtain ⟨w, pl, pa, bl, ls, L, c, es, d, rfl, mo, ok, few, q⟩ := h
    have hu := hr.units
    have hu1 : (A.deeper (envOfC "_law_covered" (defScope sCv) s.heap.objs.size f cdv)).units + 1 < cLine := by
      have := hr.un
      omega
    refine ⟨_, pss_one (ps_ret (pe_cmpR (op_neD hu) (pe_lc (own := [("_law_row", 2)]) (g := gName 2) (by rfl) scCv.nd (pi_list (pe_dgetK hu1 (pv 0))) (blkOk_by (own := [("_law_row", 2)]) (N := ["_law_w", "_law_date", "_law_row"]) (sc := defScope sCv) (by decide +kernel))
      (fun _ _ _ _ _ => pg_name (i := 2) scCv.nd rfl (Or.inl rfl))
      (fun _ _ _ _ _ => pts_one (pt_chain op_le op_lt (pe_ixtK K rfl (pv 2) pe_int) (pv 1) (pe_op op_add (pe_ixtK K rfl (pv 2) pe_int) (pe_ixtK K rfl (pe_ixlK K rfl (pe_dgetK hu1 (pv 0)) (pe_ixtK K rfl (pv 2) pe_int)) pe_int))))
      (fun _ _ _ _ _ => pv 2)) (pe_lst pa_nil) (nomark _))), ?_⟩
    obtain ⟨ew, ed, eb, ea⟩ := mo.dw (te := tVar 0) (σ := ([some (.ref w), some (.int d), none] : L2.St)) (ev_var rfl)
    obtain ⟨wb, hb, pb⟩ := mo.ib
    obtain ⟨wp, hp, pp⟩ := mo.ip
    have lb := pb.len
    have lp := pp.len
    refine s_ret (v := .bl (c.bt.any (covB L d))) (ev_is (ev_opLL (ys := []) (el_lcL (K := K) (fun i => covB L d (c.bt.getD i (0, 0))) (fun i => wb.getD i .non) eb (.inl (.inl hb)) (by omega) (fun _ => rfl) (fun i x H1 e1 hx => ?_) (fun i x H1 e1 hx _ => ?_)) (el_lst ea_nil (by decide))
      (fun p r H5 hp5 hr5 e5 => rv_neD (d := .list ((c.bt.filter (covB L d)).map fun x => .tuple [.int x.1, .int x.2])) (e := .list []) (fun H6 e6 => .lst (.of (e6 _ _ hp5)) ((pb.given (covB L d)).tk (.same (e5.trans e6))).dp) (fun H6 e6 => .lst (.of (e6 _ _ hr5)) .nil) (lsD_sh _) rfl)) ?_) fun H1 e1 => q H1 e1
    · obtain ⟨z, hz, ra, rfl, hra⟩ := pb.get hx
      have gz : c.bt.getD i (0, 0) = z := by rw [List.getD_eq_getElem?_getD, hz]; rfl
      rw [gz]
      obtain ⟨z0, z1⟩ := ok z (List.mem_of_getElem? hz)
      obtain ⟨n, hn⟩ := Int.eq_ofNat_of_zero_le z0
      have hnL : n < L.length := by omega
      obtain ⟨v, hv⟩ : ∃ v, wp[n]? = some v := ⟨_, List.getElem?_eq_getElem (by omega)⟩
      obtain ⟨y, hy, rb, rfl, hrb⟩ := pp.get hv
      have hra1 := (TK.same e1) _ _ hra
      have hrb1 := (TK.same e1) _ _ hrb
      have e0 : Ev _ ([some (.ref w), some (.int d), some (.ref ra)] : L2.St) H1 (.int z.1) := ev_op (r := rIxT K) (ev_var (i := 2) rfl) ev_c (rv_ixT (i := 0) hra1 rfl)
      have ei : Ev _ ([some (.ref w), some (.int d), some (.ref ra)] : L2.St) H1 (.int z.2) := ev_op (r := rIxT K) (ev_var (i := 2) rfl) ev_c (rv_ixT (i := 1) hra1 rfl)
      have el : Ev _ ([some (.ref w), some (.int d), some (.ref ra)] : L2.St) H1 (.int y.1) := ev_op (r := rIxT K) (ev_op (r := rIxL K) ((mo.same e1).dw (te := tVar 0) (ev_var rfl)).1 ei (rv_ixL (v := .ref rb) (i := z.2) (.inl (.inl (e1 _ _ hp))) (by rw [hn]; exact at_nat (by omega) hv))) ev_c (rv_ixT (i := 0) hrb1 rfl)
      have eq : covB L d z = (decide (z.1 ≤ d) && decide (d < z.1 + y.1)) := by
        unfold covB
        rw [hn, Int.toNat_natCast, List.getD_eq_getElem?_getD, hy]
        rfl
      rw [eq]
      exact et_test (ev_chainI (p := fun i j => decide (i ≤ j)) (q := fun i j => decide (i < j)) e0 (ev_var rfl) (ev_op e0 el (rv_I0 (g := fun i j => .int (i + j)))))
    · have gw : wb.getD i .non = x := by rw [List.getD_eq_getElem?_getD, hx]; rfl
      rw [gw]
      exact ev_var rfl
    · rw [lsD_nil]
      cases e : c.bt.any (covB L d) with
      | true =>
        obtain ⟨z, hz, hc⟩ := List.any_eq_true.mp e
        have : c.bt.filter (covB L d) ≠ [] := fun h => by
          have := List.mem_filter.mpr ⟨hz, hc⟩
          rw [h] at this
          cases this
        rw [decide_eq_false this]
        rfl
      | false =>
        have : c.bt.filter (covB L d) = [] := by
          rw [List.filter_eq_nil_iff]
          exact fun z hz => Bool.eq_false_iff.mp (List.any_eq_false.mp e z hz |> fun h => by simpa using h)
        rw [this]
        rfl
end
end Sea

set_option Elab.async false
set_option linter.all false
set_option maxRecDepth 100000
set_option maxHeartbeats 4000000
/-! the law's model: _law_kept, _law_buy -/
namespace Sea
open PySem PySem.Spec PyProof.Rows L2 LamX NdefX ClX Evl StX
abbrev NBu : List Str := ["_law_w", "_law_index", "_law_date", "_law_one"]
theorem scBu : FnScope NBu ["_law_w", "_law_index"] (defScope sBu) := ⟨rfl, rfl, rfl, by decide +kernel, rfl, by decide +kernel, by decide +kernel⟩
theorem t_yes {σ : L2.St} {H : Hp} {Q : Bool → Hp → Prop} (h : Q true H) : tYes σ H Q := h
theorem el_pairsL {K : PySem.W.Frag} {σ : L2.St} {H : Hp} {tl te : TE} {i j : Nat} {vs : List Nat} {p : Addr} {ws : List V} {L : List (Int × Int)} (v : Int × Int → V) (h : Ev tl σ H (.ref p)) (hx : SqL K H p ws) (hp : PsV K H ws L) (few : L.length ≤ 40000)
    (hw : ∀ x y, wipe (((wipe σ vs).set i (some x)).set j (some y)) vs = wipe σ vs) (he : ∀ (z : Int × Int) H1, Ex H H1 → z ∈ L → Ev te (((wipe σ vs).set i (some (.int z.1))).set j (some (.int z.2))) H1 (v z)) :
    EvL (tLc (iList K tl) (gTup K 2 (gCons (gName i) (gCons (gName j) gNil))) tYes te vs) σ H (L.map v) := fun H0 e Q q => h H0 e _ fun H1 e1 => by
  have len := hp.len
  refine ⟨p, rfl, ⟨ws, ex_l (e.trans e1) hx⟩, fun D nD => ?_⟩
  refine lc_list (K := K) (xs := ws) (fun n H' => Ex H1 H' ∧ H' D = some (.lst ((L.take n).map v))) ⟨Ex.new nD, upd_same⟩ (fun n H' _ z => ex_l ((e.trans e1).trans z.1) hx) (fun n x H2 hn z => ?_) fun H2 z => ?_
  · obtain ⟨y, hy, b, rfl, hb⟩ := hp.get hn
    have e2 := (e.trans e1).trans z.1
    have lt := (List.getElem?_eq_some_iff.mp hn).1
    refine ⟨b, _, rfl, ex_t e2 hb, rfl, _, _, rfl, _, _, rfl, rfl, hw _ _, t_yes (Eq.mpr (if_pos rfl) ?_)⟩
    refine he y H2 e2 (List.mem_of_getElem? hy) H2 (Ex.refl _) _ fun H3 e3 => ⟨_, e3 _ _ z.2, sz_lt (by rw [List.length_map, List.length_take]; omega), ?_, ?_⟩
    · exact Ex.mut (z.1.trans e3) nD
    · rw [upd_same, take_snoc hy, List.map_append]
      rfl
  · have e2 := z.2
    rw [len, List.take_length] at e2
    exact q D H2 (fresh_back e1 nD) (e1.trans z.1) e2
/-- the length of a purchase's pass, its price -/
def lenP (L : List (Int × Int)) (z : Int × Int) : Int := (L.getD z.2.toNat (0, 0)).1
def priP (L : List (Int × Int)) (z : Int × Int) : Int := (L.getD z.2.toNat (0, 0)).2
/-- what stands of a content -/
structure Ok45 (L : List (Int × Int)) (c : Ct) : Prop where
  d0 : 0 ≤ c.day
  d1 : c.day ≤ 1000000000000000000
  to : c.total = (c.bt.map (priP L)).sum
  bo : BtOk L c.bt
  st : ∀ z ∈ c.bt, 0 ≤ z.1 ∧ z.1 ≤ c.day
  u0 : c.day ≤ c.un
  u1 : ∀ z ∈ c.bt, z.1 + lenP L z ≤ c.un
  u2 : c.un = c.day ∨ ∃ z ∈ c.bt, c.un = z.1 + lenP L z
theorem sum_snoc (xs : List Int) (x : Int) : (xs ++ [x]).sum = xs.sum + x := by
  rw [List.sum_append]
  simp
theorem Ok45.start {L : List (Int × Int)} {d : Int} (h0 : 0 ≤ d) (h1 : d ≤ 1000000000000000000) : Ok45 L (ct0 d) := ⟨h0, h1, rfl, (fun _ h => nomatch h), (fun _ h => nomatch h), Int.le_refl _, (fun _ h => nomatch h), .inl rfl⟩
theorem Ok45.by_ {L : List (Int × Int)} {c : Ct} (h : Ok45 L c) {n : Nat} {z : Int × Int} (hz : L[n]? = some z) (z1 : 1 ≤ z.1) : Ok45 L (byC c n z) ∧ ∃ y ∈ (byC c n z).bt, (byC c n z).un = y.1 + lenP L y := by
  have hn := (List.getElem?_eq_some_iff.mp hz).1
  have gz : L.getD ((n : Nat) : Int).toNat (0, 0) = z := by rw [Int.toNat_natCast, List.getD_eq_getElem?_getD, hz]; rfl
  have lz : lenP L (c.day, (n : Int)) = z.1 := congrArg Prod.fst gz
  have pz : priP L (c.day, (n : Int)) = z.2 := congrArg Prod.snd gz
  have hbt : (byC c n z).bt = c.bt ++ [(c.day, (n : Int))] := rfl
  have hun : (byC c n z).un = if c.day + z.1 > c.un then c.day + z.1 else c.un := rfl
  have hu2 : ∃ y ∈ (byC c n z).bt, (byC c n z).un = y.1 + lenP L y := by
    rw [hbt, hun]
    split
    · exact ⟨(c.day, (n : Int)), by simp, by rw [lz]⟩
    · rcases h.u2 with e | ⟨y, hy, e⟩
      · omega
      · exact ⟨y, List.mem_append_left _ hy, e⟩
  refine ⟨⟨h.d0, h.d1, ?_, ?_, ?_, ?_, ?_, .inr hu2⟩, hu2⟩
  · show c.total + z.2 = _
    rw [hbt, List.map_append, show [(c.day, (n : Int))].map (priP L) = [z.2] from by rw [← pz]; rfl, sum_snoc, h.to]
  · rw [hbt]
    intro y hy
    rcases List.mem_append.mp hy with hy | hy
    · exact h.bo y hy
    · rw [List.mem_singleton.mp hy]
      exact ⟨Int.natCast_nonneg _, by show (n : Int) < _; omega⟩
  · rw [hbt]
    intro y hy
    rcases List.mem_append.mp hy with hy | hy
    · exact h.st y hy
    · rw [List.mem_singleton.mp hy]
      exact ⟨h.d0, Int.le_refl _⟩
  · have := h.u0
    rw [hun]
    show c.day ≤ _
    split <;> omega
  · rw [hbt, hun]
    intro y hy
    rcases List.mem_append.mp hy with hy | hy
    · have := h.u1 y hy
      split <;> omega
    · rw [List.mem_singleton.mp hy, lz]
      show c.day + z.1 ≤ _
      split <;> omega
theorem Ok45.day {L : List (Int × Int)} {c : Ct} (h : Ok45 L c) {d : Int} (h0 : c.day ≤ d) (h1 : d ≤ 1000000000000000000) : Ok45 L (dayC c d) := by
  have hun : (dayC c d).un = if d > c.un then d else c.un := rfl
  have := h.d0
  refine ⟨by show 0 ≤ d; omega, h1, h.to, h.bo, fun y hy => ⟨(h.st y hy).1, by have := (h.st y hy).2; show y.1 ≤ d; omega⟩, ?_, fun y hy => ?_, ?_⟩
  · rw [hun]
    show d ≤ _
    split <;> omega
  · have := h.u1 y hy
    rw [hun]
    split <;> omega
  · rw [hun]
    show _ = d ∨ _
    split
    · exact .inl rfl
    · rcases h.u2 with e | ⟨y, hy, e⟩
      · exact .inl (by omega)
      · exact .inr ⟨y, hy, e⟩
/-- a day at hand or ahead: whether a pass covers it -/
theorem Ok45.cov {L : List (Int × Int)} {c : Ct} (h : Ok45 L c) {d : Int} (hd : c.day ≤ d) : c.bt.any (covB L d) = decide (d < c.un) := by
  rw [Bool.eq_iff_iff, List.any_eq_true, decide_eq_true_iff]
  constructor
  · rintro ⟨z, hz, hc⟩
    have := h.u1 z hz
    unfold covB at hc
    rw [Bool.and_eq_true, decide_eq_true_iff, decide_eq_true_iff] at hc
    unfold lenP at this
    omega
  · intro hu
    rcases h.u2 with e | ⟨z, hz, e⟩
    · omega
    · refine ⟨z, hz, ?_⟩
      have := (h.st z hz).2
      unfold covB
      rw [Bool.and_eq_true, decide_eq_true_iff, decide_eq_true_iff]
      unfold lenP at e
      omega
section
variable {K : PySem.W.Frag} {H H' : Hp} {w pl pa bl : Addr} {ls : List Addr} {L : List (Int × Int)} {c : Ct} {es : List Ct}
theorem MoA.gP (h : MoA K H w pl pa bl ls L c es) : DGet H w (.str "passes") (some (.ref pl)) := DGet.k (k := .inr "passes") h.iw
theorem MoA.gD (h : MoA K H w pl pa bl ls L c es) : DGet H w (.str "day") (some (.int c.day)) := DGet.k (k := .inr "day") h.iw
theorem MoA.gB (h : MoA K H w pl pa bl ls L c es) : DGet H w (.str "bought") (some (.ref bl)) := DGet.k (k := .inr "bought") h.iw
theorem MoA.gA (h : MoA K H w pl pa bl ls L c es) : DGet H w (.str "past") (some (.ref pa)) := DGet.k (k := .inr "past") h.iw
theorem PastV.snoc {vs : List V} {v : V} {e : Ct} {l a : Addr} {ws : List V} (h : PastV K H vs es ls) (hv : v = .ref a) (h1 : SqT K H a [.int e.day, .ref l]) (h2 : H l = some (.lst ws)) (h3 : PsV K H ws e.bt) : PastV K H (vs ++ [v]) (es ++ [e]) (ls ++ [l]) := by
  induction h with
  | nil => exact .cons hv h1 h2 h3 .nil
  | cons a b c d _ ih => exact .cons a b c d ih
theorem PastV.len {vs : List V} (h : PastV K H vs es ls) : vs.length = es.length ∧ ls.length = es.length := by
  induction h with
  | nil => exact ⟨rfl, rfl⟩
  | cons _ _ _ _ _ ih =>
    refine ⟨?_, ?_⟩
    · rw [List.length_cons, List.length_cons, ih.1]
    · rw [List.length_cons, List.length_cons, ih.2]
theorem PastV.at_ls {vs : List V} (h : PastV K H vs es ls) : ∀ l ∈ ls, ∃ ws, H l = some (.lst ws) := by
  induction h with
  | nil => exact fun l hl => nomatch hl
  | cons _ _ h2 _ _ ih => exact fun l hl => (List.mem_cons.mp hl).elim (fun e => e ▸ ⟨_, h2⟩) (ih l)
/-- all that the model owns -/
theorem MoA.own (h : MoA K H w pl pa bl ls L c es) : ∀ l ∈ pl :: pa :: bl :: ls, ∃ ws, H l = some (.lst ws) := by
  obtain ⟨_, ⟨ws, h2, _⟩, ⟨us, h4, _⟩, ⟨vs, h6, h7⟩, _⟩ := h
  intro l hl
  simp only [List.mem_cons] at hl
  rcases hl with rfl | rfl | rfl | hl
  · exact ⟨_, h2⟩
  · exact ⟨_, h6⟩
  · exact ⟨_, h4⟩
  · exact h7.at_ls l hl
theorem MoA.nw (h : MoA K H w pl pa bl ls L c es) : ∀ l ∈ pl :: pa :: bl :: ls, w ≠ l := fun l hl z => by
  obtain ⟨ws, e⟩ := h.own l hl
  rw [← z, h.iw] at e
  cases e
end
/-- what is there is remembered -/
def spKe (K : PySem.W.Frag) : Sp := fun vs H Q _ => ∃ (w pl pa bl : Addr) (ls : List Addr) (L : List (Int × Int)) (c : Ct) (es : List Ct), vs = [.ref w] ∧ MoA K H w pl pa bl ls L c es ∧ es.length ≤ 1000 ∧ ∀ l H', H l = none → But [pa] H H' → MoA K H' w pl pa bl (ls ++ [l]) L c (es ++ [c]) → Q .non H'
section
variable {P : Program} {w : World} {K : PySem.W.Frag} {mg : Str → Option Value} {base : Heap}
theorem ok_ke {f : Addr} {fd : FuncData} {k : Nat} (F : Fun K "_law_kept" "_law_kept" sKe f fd) (mL : mg "list" = none) : FnOk P w K mg base CX0 (k + 1) f fd ["_law_w"] (spKe K) := by
  refine F.ok scKe (fun vs H Q E h => ?_) (fun cdv A outer s H vs Q E hr h => ?_)
  · obtain ⟨w, pl, pa, bl, ls, L, c, es, rfl, _⟩ := h
    rfl
  · obtain ⟨w, pl, pa, bl, ls, L, c, es, rfl, mo, few, q⟩ := h
    have hu1 : (A.deeper (envOfC "_law_kept" (defScope sKe) s.heap.objs.size f cdv)).units + 1 < cLine := by
      have := hr.un
      omega
    refine ⟨_, pss_one (ps_expr (pe_bm PySem.F.plainAttrs_list PySem.F.slot_list_append PySem.F.type_list_append mt_append (pe_dgetK hu1 (pv 0)) (pa_cons (pe_tup (pa_cons (pe_dgetK hu1 (pv 0)) (pa_cons (pe_callTy call_list_of (by rfl) mL (by rfl) (pa_cons (pe_dgetK hu1 (pv 0)) pa_nil)) pa_nil))) pa_nil))), ?_⟩
    obtain ⟨wb, hb, pb⟩ := mo.ib
    obtain ⟨vs, hv, pv⟩ := mo.ia
    have lv := pv.len
    have nd := mo.nd
    refine ⟨_, rfl, w, .ref pa, rfl, mo.gA, .inl ⟨rfl, vs, .of hv⟩, _, rfl, w, .int c.day, rfl, mo.gD, _, rfl, w, .ref bl, rfl, mo.gB, bl, wb, rfl, .inl (.inl (.inl hb)), fun l nl => ⟨Nat.le_of_lt (small1000 (show 2 ≤ 1000 by decide)), fun p np => ?_⟩⟩
    have s1 := same_new (o := .lst wb) nl
    have s2 := same_new (o := .tup [.int c.day, .ref l]) np
    have s12 := s1.trans s2
    have h2l := s2 _ _ (upd_same (H := H) (a := l) (o := .lst wb))
    have h2p : (upd (upd H l (.lst wb)) p (.tup [.int c.day, .ref l])) p = some (.tup [.int c.day, .ref l]) := upd_same
    revert s12 h2l h2p
    generalize upd (upd H l (.lst wb)) p (.tup [.int c.day, .ref l]) = H2
    intro s12 h2l h2p
    have mo2 := mo.same s12
    have hv2 := s12 _ _ hv
    refine ⟨pa, vs, .ref p, rfl, rfl, hv2, by rw [sizeLine_eq]; omega, ?_⟩
    have nlo : ∀ a o, H a = some o → l ≠ a := fun a o e z => by
      rw [z, e] at nl
      cases nl
    have lpa := nlo _ _ hv
    have k3 : But [pa] H2 (upd H2 pa (.lst (vs ++ [.ref p]))) := .put List.mem_cons_self
    have m3 : Mu [pa] H2 := fun b hb => by
      rw [List.mem_singleton.mp hb]
      exact .inl ⟨_, hv2⟩
    have npa : ∀ a ∈ pl :: bl :: ls, a ∉ [pa] := fun a ha z => by
      rw [List.mem_singleton.mp z] at ha
      simp only [List.nodup_cons, List.mem_cons] at nd
      simp only [List.mem_cons] at ha
      rcases ha with e | ha
      · exact nd.1 (.inl e.symm)
      · exact nd.2.1 ha
    obtain ⟨wp, hp, pp⟩ := mo2.ip
    have nw : w ∉ [pa] := fun z => mo.nw pa (by simp) (List.mem_singleton.mp z)
    refine q l _ nl ((But.same s12).trans k3) ⟨k3 _ _ mo2.iw nw, ⟨wp, k3 _ _ hp (npa _ (by simp)), pp.tk (k3.tk m3)⟩, ⟨wb, k3 _ _ (s12 _ _ hb) (npa _ (by simp)), (pb.tk (.same s12)).tk (k3.tk m3)⟩, ⟨_, upd_same, ?_⟩, ?_⟩
    · have old : PastV K H2 vs es ls := by
        obtain ⟨vs', hv', pv'⟩ := mo2.ia
        rw [hv2] at hv'
        cases hv'
        exact pv'
      exact (old.but k3 m3 fun a ha => npa a (by simp [ha])).snoc rfl (k3.tk m3 _ _ (.of h2p)) (k3 _ _ h2l fun z => lpa (List.mem_singleton.mp z)) ((pb.tk (.same s12)).tk (k3.tk m3))
    · have fresh : ∀ a ∈ pl :: pa :: bl :: ls, a ≠ l := fun a ha z => by
        obtain ⟨ws, e⟩ := mo.own a ha
        exact nlo _ _ e z.symm
      have : (pl :: pa :: bl :: (ls ++ [l])) = (pl :: pa :: bl :: ls) ++ [l] := rfl
      rw [this, List.nodup_append]
      refine ⟨nd, by simp, fun a ha b hb => ?_⟩
      rw [List.mem_singleton.mp hb]
      exact fresh a ha
end
end Sea

set_option Elab.async false
set_option linter.all false
set_option maxRecDepth 100000
set_option maxHeartbeats 4000000
/-! the law's model: _law_buy -/
namespace Sea
open PySem PySem.Spec PyProof.Rows L2 LamX NdefX ClX Evl StX
section
variable {K : PySem.W.Frag} {te : TE} {σ : L2.St} {H H' : Hp}
theorem q_callD {ta : TA} {sp : Sp} {vs dvs : List V} {E : XK} {D : Ends} {tz : TS} (hA : EvA ta σ H vs) (h : ∀ H2, Ex H H2 → sp (vs ++ dvs) H2 (fun _ H3 => tz D σ H3) E) : tSeq (tDrop (tCall sp dvs E ta)) tz D σ H := hA H (Ex.refl _) _ fun H2 e2 => h H2 e2
theorem ev_lenE {p : Addr} {xs : List V} (h : Ev te σ H (.ref p)) (hx : SqL K H p xs) : Ev (tCB (fun xs H Q => ∃ p ys, xs = [V.ref p] ∧ (SqL K H p ys ∨ SqT K H p ys) ∧ Q (.int ys.length) H) (tCons te tNil)) σ H (.int (xs.length : Int)) := fun H1 e Q q =>
  h H1 e _ fun H2 e2 => ⟨p, xs, rfl, .inl (ex_l (e.trans e2) hx), q H2 e2⟩
theorem ev_maxL {tl : TE} {ns : List Int} {m : Int} (h : EvL tl σ H (ns.map V.int)) (hm : m ∈ ns) (hle : ∀ y ∈ ns, y ≤ m) : Ev (tCB (rMax K) (tCons tl tNil)) σ H (.int m) := fun H1 e Q q =>
  h H1 e _ fun r H2 nr e2 hr => ⟨r, ns, rfl, .inl (.inl hr), List.length_pos_of_mem hm, fun k hk hkle => by
    have : k = m := Int.le_antisymm (hle k hk) (hkle m hm)
    rw [this]
    exact q H2 e2⟩
variable {w pl pa bl : Addr} {ls : List Addr} {L : List (Int × Int)} {c c' : Ct} {es : List Ct}
theorem MoA.cast (h : MoA K H w pl pa bl ls L c es) (e1 : c'.day = c.day) (e2 : c'.bt = c.bt) : MoA K H w pl pa bl ls L c' es := by
  obtain ⟨h1, h2, h3, h4, h5⟩ := h
  exact ⟨by rw [e1]; exact h1, h2, by rw [e2]; exact h3, h4, h5⟩
/-- a purchase more -/
theorem MoA.more (h : MoA K H w pl pa bl ls L c es) {wb : List V} {p : Addr} {i : Int} (hb : H bl = some (.lst wb)) (hp : SqT K H p [.int c.day, .int i]) (e1 : c'.day = c.day) (e2 : c'.bt = c.bt ++ [(c.day, i)]) : MoA K (upd H bl (.lst (wb ++ [.ref p]))) w pl pa bl ls L c' es := by
  have own := h.own
  have nw0 := h.nw
  obtain ⟨h1, ⟨ws, h2, h3⟩, ⟨us, h4, h5⟩, ⟨vs, h6, h7⟩, h8⟩ := h
  rw [hb] at h4
  cases h4
  have k : But [bl] H (upd H bl (.lst (wb ++ [.ref p]))) := .put List.mem_cons_self
  have m : Mu [bl] H := fun b hb' => by
    rw [List.mem_singleton.mp hb']
    exact .inl ⟨_, hb⟩
  have nb : ∀ a ∈ pl :: pa :: ls, a ∉ [bl] := fun a ha z => by
    rw [List.mem_singleton.mp z] at ha
    simp only [List.nodup_cons, List.mem_cons] at h8
    simp only [List.mem_cons] at ha
    rcases ha with e | e | ha
    · exact h8.1 (.inr (.inl e.symm))
    · exact h8.2.1 (.inl e.symm)
    · exact h8.2.2.1 ha
  refine ⟨by rw [e1]; exact k _ _ h1 fun z => nw0 bl (by simp) (List.mem_singleton.mp z), ⟨ws, k _ _ h2 (nb _ (by simp)), h3.tk (k.tk m)⟩, ⟨_, upd_same, ?_⟩, ⟨vs, k _ _ h6 (nb _ (by simp)), h7.but k m fun a ha => nb a (by simp [ha])⟩, h8⟩
  rw [e2]
  exact (h5.tk (k.tk m)).snoc ⟨p, rfl, k.tk m _ _ hp⟩
end
def spBu (K : PySem.W.Frag) : Sp := fun vs H Q _ => ∃ (w pl pa bl : Addr) (ls : List Addr) (L : List (Int × Int)) (c : Ct) (es : List Ct) (i : Int), vs = [.ref w, .int i] ∧ MoA K H w pl pa bl ls L c es ∧ Ok45 L c ∧ es.length ≤ 1000 ∧ c.bt.length ≤ 1000 ∧ L.length ≤ 1000 ∧ (∀ z ∈ L, 1 ≤ z.1) ∧
  (¬ (0 ≤ i ∧ i < L.length) → ∀ r H', Same H H' → H' r = some (.tup [.str "UnknownPass"]) → Q (.ref r) H') ∧
  (∀ (n : Nat) z, i = (n : Int) → L[n]? = some z → ∀ l H', H l = none → But [pa, bl] H H' → MoA K H' w pl pa bl (ls ++ [l]) L (byC c i z) (es ++ [c]) → Q (.int ((byC c i z).un - 1)) H')
section
variable {P : Program} {w : World} {K : PySem.W.Frag} {mg : Str → Option Value} {base : Heap}
/-- the model's defs -/
structure TMo (K : PySem.W.Frag) (mg : Str → Option Value) (fCv fKe : Addr) (dCv dKe : FuncData) : Prop where
  uCv : Fun K "_law_covered" "_law_covered" sCv fCv dCv
  gCv : mg "_law_covered" = some (.ref fCv)
  kCv : PySem.W.keepIn K (.ref fCv) = true
  uKe : Fun K "_law_kept" "_law_kept" sKe fKe dKe
  gKe : mg "_law_kept" = some (.ref fKe)
  kKe : PySem.W.keepIn K (.ref fKe) = true
  mL : mg "list" = none
  mN : mg "len" = none
  mX : mg "max" = none
  mM : mg "min" = none
  mR : mg "range" = none
  mS : mg "sum" = none
  mI : mg "int" = none
theorem TMo.bCv {fCv fKe : Addr} {dCv dKe : FuncData} (T : TMo K mg fCv fKe dCv dKe) : Binds K dCv ["_law_w", "_law_date"] [] := T.uCv.binds (ps := ["_law_w", "_law_date"]) fun _ _ _ _ _ _ us hl => match us, hl with | [_, _], _ => rfl
theorem TMo.bKe {fCv fKe : Addr} {dCv dKe : FuncData} (T : TMo K mg fCv fKe dCv dKe) : Binds K dKe ["_law_w"] [] := T.uKe.binds (ps := ["_law_w"]) fun _ _ _ _ _ _ us hl => match us, hl with | [_], _ => rfl
theorem ok_bu {f fCv fKe : Addr} {fd dCv dKe : FuncData} {k : Nat} (F : Fun K "_law_buy" "_law_buy" sBu f fd) (T : TMo K mg fCv fKe dCv dKe) : FnOk P w K mg base CX0 (k + 2) f fd ["_law_w", "_law_index"] (spBu K) := by
  refine F.ok scBu (fun vs H Q E h => ?_) (fun cdv A outer s H vs Q E hr h => ?_)
  · obtain ⟨w, pl, pa, bl, ls, L, c, es, i, rfl, _⟩ := h
    rfl
  · obtain ⟨w, pl, pa, bl, ls, L, c, es, i, rfl, mo, ok, few, fb, fL, l1, q1, q2⟩ := h
    have hu1 : (A.deeper (envOfC "_law_buy" (defScope sBu) s.heap.objs.size f cdv)).units + 1 < cLine := by
      have := hr.un
      omega
    refine ⟨_, pss_cons (ps_if (pt_not (pt_chain op_le op_lt pe_int (pv 1) (pe_callB call_len_seq (by rfl) T.mN PySem.boot_len (pa_cons (pe_dgetK hu1 (pv 0)) pa_nil)))) (pss_one (ps_ret (pe_tup (pa_cons pe_str pa_nil)))) pss_nil)
      (pss_cons (ps_expr (pe_call (E := E0) (ok_ke (k := 0) T.uKe T.mL) (hr.mono (by omega)) (by rfl) T.gKe T.kKe T.bKe .nil pass0 (pa_cons (pv 0) pa_nil)))
      (pss_cons (ps_expr (pe_bm PySem.F.plainAttrs_list PySem.F.slot_list_append PySem.F.type_list_append mt_append (pe_dgetK hu1 (pv 0)) (pa_cons (pe_tup (pa_cons (pe_dgetK hu1 (pv 0)) (pa_cons (pv 1) pa_nil))) pa_nil)))
      (pss_one (ps_ret (pe_callB (cr_max rfl) (by rfl) T.mX (by decide +kernel) (pa_cons (pe_lc (own := [("_law_date", 2), ("_law_one", 3)]) (g := gTup K 2 (gCons (gName 2) (gCons (gName 3) gNil))) (by rfl) scBu.nd (pi_list (pe_dgetK hu1 (pv 0))) (blkOk_by (own := [("_law_date", 2), ("_law_one", 3)]) (N := NBu) (sc := defScope sBu) (by decide +kernel))
        (fun _ _ _ _ _ => pg_tupK rfl rfl (pgs_cons (pg_name (i := 2) scBu.nd rfl (Or.inl rfl)) (pgs_cons (pg_name (i := 3) scBu.nd rfl (Or.inl rfl)) pgs_nil))) (fun _ _ _ _ _ => pts_nil)
        (fun _ _ _ _ _ => pe_op op_sub (pe_op op_add (pv 2) (pe_ixtK K rfl (pe_ixlK K rfl (pe_dgetK hu1 (pv 0)) (pv 3)) pe_int)) pe_int)) pa_nil)))))), ?_⟩
    obtain ⟨wp, hp, pp⟩ := mo.ip
    have lp := pp.len
    refine q_when (b := !(decide (0 ≤ i) && decide (i < (wp.length : Int)))) (et_not (et_test (ev_chainI (p := fun i j => decide (i ≤ j)) (q := fun i j => decide (i < j)) ev_c (ev_var rfl) (ev_lenE (mo.dw (te := tVar 0) (ev_var rfl)).1 (.inl (.inl hp)))))) (fun hb H1 e1 => ?_) (fun hb H1 e1 => ?_)
    · refine ⟨Nat.le_of_lt (small1000 (show 1 ≤ 1000 by decide)), fun r nr => q1 (fun z => ?_) r _ (e1.trans (same_new nr)) upd_same⟩
      rw [decide_eq_true z.1, decide_eq_true (by omega)] at hb
      cases hb
    have hi : 0 ≤ i ∧ i < L.length := by
      have : (decide (0 ≤ i) && decide (i < (wp.length : Int))) = true := by
        cases h : (decide (0 ≤ i) && decide (i < (wp.length : Int))) with
        | true => rfl
        | false =>
          rw [h] at hb
          cases hb
      rw [Bool.and_eq_true] at this
      exact ⟨of_decide_eq_true this.1, by have := of_decide_eq_true this.2; omega⟩
    obtain ⟨n, rfl⟩ := Int.eq_ofNat_of_zero_le hi.1
    obtain ⟨z, hz⟩ : ∃ z, L[n]? = some z := ⟨_, List.getElem?_eq_getElem (by omega)⟩
    have q2 := q2 n z rfl hz
    refine q_callD (ea_cons (ev_var rfl) ea_nil) fun H2 e2 => ⟨w, pl, pa, bl, ls, L, c, es, rfl, (mo.same e1).same e2, few, fun l H3 nl k3 mo3 => ?_⟩
    have nl0 : H l = none := old (e1.trans e2) nl
    have b03 : But [pa] H H3 := (But.same (e1.trans e2)).trans k3
    obtain ⟨wb, hb3, pb3⟩ := mo3.ib
    have lb := pb3.len
    refine ⟨_, rfl, w, .ref bl, rfl, mo3.gB, .inl ⟨rfl, wb, .of hb3⟩, _, rfl, w, .int c.day, rfl, mo3.gD, _, rfl, Nat.le_of_lt (small1000 (show 2 ≤ 1000 by decide)), fun p np => ?_⟩
    have s4 := same_new (o := .tup [.int c.day, .int (n : Int)]) np
    refine ⟨bl, wb, .ref p, rfl, rfl, s4 _ _ hb3, by rw [sizeLine_eq]; omega, ?_⟩
    have mo5 := (mo3.same s4).more (c' := byC c n z) (s4 _ _ hb3) (.of upd_same) rfl rfl
    have k5 : But [pa, bl] H (upd (upd H3 p (.tup [.int c.day, .int (n : Int)])) bl (.lst (wb ++ [.ref p]))) := (b03.mono fun b hb => by simp at hb ⊢; exact .inl hb).trans ((But.same s4).trans (.put (by simp)))
    revert mo5 k5
    generalize upd (upd H3 p (.tup [.int c.day, .int (n : Int)])) bl (.lst (wb ++ [.ref p])) = H5
    intro mo5 k5
    obtain ⟨wb5, hb5, pb5⟩ := mo5.ib
    obtain ⟨wp5, hp5, pp5⟩ := mo5.ip
    have z1 := l1 z (List.mem_of_getElem? hz)
    obtain ⟨ok5, y, hy, ey⟩ := ok.by_ hz z1
    have l5 : (byC c n z).bt.length ≤ 1001 := by
      show (c.bt ++ [_]).length ≤ 1001
      rw [List.length_append]
      show c.bt.length + 1 ≤ 1001
      omega
    have el : EvL _ ([some (.ref w), some (.int (n : Int)), none, none] : L2.St) H5 ((byC c n z).bt.map fun y => V.int (y.1 + lenP L y - 1)) := el_pairsL (K := K) (i := 2) (j := 3) (vs := [2, 3]) (fun y => .int (y.1 + lenP L y - 1)) (mo5.dw (te := tVar 0) (ev_var rfl)).2.2.1 (.inl (.inl hb5)) pb5 (by omega) (fun _ _ => rfl) (fun y H6 e6 hy => by
      obtain ⟨y0, y1⟩ := ok5.bo y hy
      obtain ⟨m, hm⟩ := Int.eq_ofNat_of_zero_le y0
      have hmL : m < L.length := by omega
      have lp5 := pp5.len
      obtain ⟨v, hv⟩ : ∃ v, wp5[m]? = some v := ⟨_, List.getElem?_eq_getElem (by omega)⟩
      obtain ⟨u, hu, rb, rfl, hrb⟩ := pp5.get hv
      have gl : lenP L y = u.1 := by
        unfold lenP
        rw [hm, Int.toNat_natCast, List.getD_eq_getElem?_getD, hu]
        rfl
      rw [gl]
      exact ev_op (ev_op (ev_var (i := 2) rfl) (ev_op (r := rIxT K) (ev_op (r := rIxL K) ((mo5.same e6).dw (te := tVar 0) (ev_var rfl)).1 (ev_var (i := 3) rfl) (rv_ixL (v := .ref rb) (i := y.2) (.inl (.inl (e6 _ _ hp5))) (by rw [hm]; exact at_nat (by omega) hv))) ev_c (rv_ixT (i := 0) ((TK.same e6) _ _ hrb) rfl)) (rv_I0 (g := fun i j => .int (i + j)))) ev_c (rv_I0 (g := fun i j => .int (i - j))))
    refine s_ret (v := .int ((byC c n z).un - 1)) (ev_maxL (ns := (byC c n z).bt.map fun y => y.1 + lenP L y - 1) (el_is el (by rw [List.map_map]; rfl)) ?_ fun a ha => ?_) fun H6 e6 => q2 l H6 nl0 (k5.trans (.same e6)) (mo5.same e6)
    · rw [ey]
      exact List.mem_map.mpr ⟨y, hy, rfl⟩
    · obtain ⟨a, ha', rfl⟩ := List.mem_map.mp ha
      have h1 := ok5.u1 a ha'
      omega
end
end Sea

set_option Elab.async false
set_option linter.all false
set_option maxRecDepth 100000
set_option maxHeartbeats 4000000
/-! the law's model: _law_pass_day, _law_undo, _law_pass_days -/
namespace Sea
open PySem PySem.Spec PyProof.Rows L2 LamX NdefX ClX Evl StX
abbrev NMs : List Str := ["_law_w", "_law_travel", "_law_count", "_law_date"]
theorem scMs : FnScope NMs ["_law_w", "_law_travel", "_law_count"] (defScope sMs) := ⟨rfl, rfl, rfl, by decide +kernel, rfl, by decide +kernel, by decide +kernel⟩
theorem scMd : FnScope ["_law_w", "_law_travels"] ["_law_w", "_law_travels"] (defScope sMd) := ⟨rfl, rfl, rfl, by decide +kernel, rfl, by decide +kernel, by decide +kernel⟩
theorem scMu : FnScope ["_law_w"] ["_law_w"] (defScope sMu) := ⟨rfl, rfl, rfl, by decide +kernel, rfl, by decide +kernel, by decide +kernel⟩
section
variable {K : PySem.W.Frag} {te : TE} {σ : L2.St} {H H' : Hp} {w pl pa bl : Addr} {ls : List Addr} {L : List (Int × Int)} {c c' : Ct} {es : List Ct}
theorem ev_p18 {σ : L2.St} {H : Hp} : Ev (tOp (rI CPow fun i j => .int (i ^ j.toNat)) (tC (.int 10)) (tC (.int 18))) σ H (.int 1000000000000000000) := ev_is (ev_op ev_c ev_c (rv_I (C := CPow) (g := fun i j => .int (i ^ j.toNat)) (i := 10) (j := 18) ⟨by decide, by decide, by decide⟩)) (by decide +kernel)
/-- another day is written -/
theorem MoA.put (h : MoA K H w pl pa bl ls L c es) {d : Int} (e1 : c'.day = d) (e2 : c'.bt = c.bt) : ∃ H', DPut H w (.str "day") (.int d) H' ∧ But [w] H H' ∧ MoA K H' w pl pa bl ls L c' es := by
  have k : But [w] H (upd H w (.dK (moD pl d bl pa))) := .put List.mem_cons_self
  have m : Mu [w] H := fun b hb => by
    rw [List.mem_singleton.mp hb]
    exact .inr (.inl ⟨_, h.iw⟩)
  refine ⟨upd H w (.dK (moD pl d bl pa)), DPut.k (k := .inr "day") h.iw (by rw [sizeLine_eq]; show (4 : Nat) < 16777216; decide), k, ?_⟩
  have nw := h.nw
  have nn : ∀ a ∈ pl :: pa :: bl :: ls, a ∉ [w] := fun a ha z => nw a ha (List.mem_singleton.mp z).symm
  obtain ⟨h1, ⟨ws, h2, h3⟩, ⟨us, h4, h5⟩, ⟨vs, h6, h7⟩, h8⟩ := h
  exact ⟨by rw [e1]; exact upd_same, ⟨ws, k _ _ h2 (nn _ (by simp)), h3.tk (k.tk m)⟩, ⟨us, k _ _ h4 (nn _ (by simp)), by rw [e2]; exact h5.tk (k.tk m)⟩, ⟨vs, k _ _ h6 (nn _ (by simp)), h7.but k m fun a ha => nn a (by simp [ha])⟩, h8⟩
theorem PastV.back {vs : List V} : ∀ {es : List Ct} {e : Ct} {ls : List Addr}, PastV K H vs (es ++ [e]) ls → ∃ us a ws ls' l, vs = us ++ [.ref a] ∧ ls = ls' ++ [l] ∧ PastV K H us es ls' ∧ SqT K H a [.int e.day, .ref l] ∧ H l = some (.lst ws) ∧ PsV K H ws e.bt := by
  induction vs with
  | nil =>
    intro es e ls h
    cases es <;> cases h
  | cons v vs ih =>
    intro es e ls h
    cases es with
    | nil =>
      cases h with
      | @cons _ _ l a ws _ _ _ hv h1 h2 h3 h4 =>
        cases h4
        exact ⟨[], a, ws, [], l, by rw [hv]; rfl, rfl, .nil, h1, h2, h3⟩
    | cons e0 es =>
      cases h with
      | cons hv h1 h2 h3 h4 =>
        obtain ⟨us, a, ws, ls', l, rfl, rfl, h5, h6⟩ := ih h4
        exact ⟨v :: us, a, ws, _ :: ls', l, rfl, rfl, .cons hv h1 h2 h3 h5, h6⟩
end
def spMd (K : PySem.W.Frag) : Sp := fun vs H Q _ => ∃ (w pl pa bl : Addr) (ls : List Addr) (L : List (Int × Int)) (c : Ct) (es : List Ct) (b : Bool), vs = [.ref w, .bl b] ∧ MoA K H w pl pa bl ls L c es ∧ Ok45 L c ∧ es.length ≤ 1000 ∧ c.bt.length ≤ 1000 ∧
  (b = true → c.un ≤ c.day → ∀ r H', Same H H' → H' r = some (.tup [.str "NoPass", .int c.day]) → Q (.ref r) H') ∧
  (¬ (b = true ∧ c.un ≤ c.day) → c.day = 1000000000000000000 → ∀ r H', Same H H' → H' r = some (.tup [.str "InvalidCount"]) → Q (.ref r) H') ∧
  (¬ (b = true ∧ c.un ≤ c.day) → c.day ≠ 1000000000000000000 → ∀ l H', H l = none → But [pa, w] H H' → MoA K H' w pl pa bl (ls ++ [l]) L (dayC c (c.day + 1)) (es ++ [c]) → Q (.int (c.day + 1)) H')
def spMu (K : PySem.W.Frag) : Sp := fun vs H Q _ => ∃ (w pl pa bl : Addr) (ls : List Addr) (L : List (Int × Int)) (c : Ct) (es : List Ct), vs = [.ref w] ∧ MoA K H w pl pa bl ls L c es ∧ (es = [] → ∀ H', Same H H' → Q (.bl false) H') ∧
  (∀ es' c' ls' l, es = es' ++ [c'] → ls = ls' ++ [l] → ∀ H', But [pa, w] H H' → MoA K H' w pl pa l ls' L c' es' → Q (.bl true) H')
section
variable {P : Program} {w : World} {K : PySem.W.Frag} {mg : Str → Option Value} {base : Heap}
theorem ok_md {f fCv fKe : Addr} {fd dCv dKe : FuncData} {k : Nat} (F : Fun K "_law_pass_day" "_law_pass_day" sMd f fd) (T : TMo K mg fCv fKe dCv dKe) : FnOk P w K mg base CX0 (k + 2) f fd ["_law_w", "_law_travels"] (spMd K) := by
  refine F.ok scMd (fun vs H Q E h => ?_) (fun cdv A outer s H vs Q E hr h => ?_)
  · obtain ⟨w, pl, pa, bl, ls, L, c, es, b, rfl, _⟩ := h
    rfl
  · obtain ⟨w, pl, pa, bl, ls, L, c, es, b, rfl, mo, ok, few, fb, q1, q2, q3⟩ := h
    have hu1 : (A.deeper (envOfC "_law_pass_day" (defScope sMd) s.heap.objs.size f cdv)).units + 1 < cLine := by
      have := hr.un
      omega
    refine ⟨_, pss_cons (ps_if (PW.pt (pw_and (pt_val (pv 1)) (pw_and1 (pt_not (pt_val (pe_call (E := E0) (ok_cv (k := 0) T.uCv) (hr.mono (by omega)) (by rfl) T.gCv T.kCv T.bCv .nil pass0 (pa_cons (pv 0) (pa_cons (pe_dgetK hu1 (pv 0)) pa_nil)))))))) (pss_one (ps_ret (pe_tup (pa_cons pe_str (pa_cons (pe_dgetK hu1 (pv 0)) pa_nil))))) pss_nil)
      (pss_cons (ps_if (pt_cmpR op_eq (pe_dgetK hu1 (pv 0)) (pe_op op_pow pe_int pe_int) (nomark _)) (pss_one (ps_ret (pe_tup (pa_cons pe_str pa_nil)))) pss_nil)
      (pss_cons (ps_expr (pe_call (E := E0) (ok_ke (k := 0) T.uKe T.mL) (hr.mono (by omega)) (by rfl) T.gKe T.kKe T.bKe .nil pass0 (pa_cons (pv 0) pa_nil)))
      (pss_cons (ps_dput hu1 (pv 0) pe_str (pe_op op_add (pe_dgetK hu1 (pv 0)) pe_int) (by rfl))
      (pss_one (ps_ret (pe_dgetK hu1 (pv 0))))))), ?_⟩
    have lt : ∀ {n : Nat}, n ≤ 1000 → n ≤ sizeLine := fun h => Nat.le_of_lt (small1000 h)
    have ecv : EvT (tNot (tB (tCall (spCv K) [] E0 (tCons (tVar 0) (tCons (tDGet (tVar 0) (tC (.str "day"))) tNil))))) ([some (.ref w), some (.bl b)] : L2.St) H (!decide (c.day < c.un)) := et_not (et_B (ev_call (vs := [.ref w, .int c.day]) (z := .bl (decide (c.day < c.un))) (ea_cons (ev_var rfl) (ea_cons (mo.dw (te := tVar 0) (ev_var rfl)).2.1 ea_nil)) fun H1 e1 Q1 q1 E1 =>
      ⟨w, pl, pa, bl, ls, L, c, es, c.day, rfl, mo.same e1, ok.bo, fb, fun H2 s2 => by rw [ok.cov (Int.le_refl _)]; exact q1 H2 s2⟩))
    refine q_when (b := b && !decide (c.day < c.un)) (et_and (fun H2 e2 Q q => ⟨_, rfl, b, rfl, q H2 (Ex.refl _)⟩) fun _ => ecv) (fun hb H1 e1 => ?_) (fun hb H1 e1 => ?_)
    · rw [Bool.and_eq_true] at hb
      have hu : c.un ≤ c.day := by
        have := hb.2
        simp at this
        exact this
      exact ⟨_, rfl, w, .int c.day, rfl, (mo.same e1).gD, lt (show 2 ≤ 1000 by decide), fun r nr => q1 hb.1 hu r _ (e1.trans (same_new nr)) upd_same⟩
    have nb : ¬ (b = true ∧ c.un ≤ c.day) := fun z => by
      rw [z.1] at hb
      simp at hb
      omega
    have mo1 := mo.same e1
    refine q_when (b := decide (V.int c.day = V.int 1000000000000000000)) (et_test (ev_op (mo1.dw (te := tVar 0) (ev_var rfl)).2.1 ev_p18 (rv_eq rfl))) (fun hb2 H2 e2 => ?_) (fun hb2 H2 e2 => ?_)
    · have hd : c.day = 1000000000000000000 := by
        have := of_decide_eq_true hb2
        injection this
      exact ⟨lt (show 1 ≤ 1000 by decide), fun r nr => q2 nb hd r _ (e1.trans (e2.trans (same_new nr))) upd_same⟩
    have nd : c.day ≠ 1000000000000000000 := fun z => by
      rw [z] at hb2
      exact absurd rfl (of_decide_eq_false hb2)
    refine q_callD (ea_cons (ev_var rfl) ea_nil) fun H3 e3 => ⟨w, pl, pa, bl, ls, L, c, es, rfl, (mo1.same e2).same e3, few, fun l H4 nl k4 mo4 => ?_⟩
    have s03 := e1.trans (e2.trans e3)
    refine ⟨_, rfl, w, .int c.day, rfl, mo4.gD, _, _, rfl, rfl, _, rfl, ?_⟩
    obtain ⟨H5, p5, k5, mo5⟩ := mo4.put (c' := dayC c (c.day + 1)) (d := c.day + 1) rfl rfl
    refine ⟨w, H5, rfl, p5, ?_⟩
    exact s_ret (v := .int (c.day + 1)) (mo5.dw (te := tVar 0) (ev_var rfl)).2.1 fun H6 e6 => q3 nb nd l H6 (old s03 nl) ((((But.same s03).trans k4).mono fun b hb => by simp at hb ⊢; exact .inl hb).trans ((k5.trans (.same e6)).mono fun b hb => by simp at hb ⊢; exact .inr hb)) (mo5.same e6)
theorem ok_mu {f : Addr} {fd : FuncData} {k : Nat} (F : Fun K "_law_undo" "_law_undo" sMu f fd) : FnOk P w K mg base CX0 (k + 1) f fd ["_law_w"] (spMu K) := by
  refine F.ok scMu (fun vs H Q E h => ?_) (fun cdv A outer s H vs Q E hr h => ?_)
  · obtain ⟨w, pl, pa, bl, ls, L, c, es, rfl, _⟩ := h
    rfl
  · obtain ⟨w, pl, pa, bl, ls, L, c, es, rfl, mo, q1, q2⟩ := h
    have hu1 : (A.deeper (envOfC "_law_undo" (defScope sMu) s.heap.objs.size f cdv)).units + 1 < cLine := by
      have := hr.un
      omega
    have hul : (A.deeper (envOfC "_law_undo" (defScope sMu) s.heap.objs.size f cdv)).units < cLine := by
      have := hr.un
      omega
    refine ⟨_, pss_cut (ps_if (pt_cmpR (op_eqNil hul) (pe_dgetK hu1 (pv 0)) (pe_lst pa_nil) (nomark _)) (pss_one (ps_ret pe_bl)) pss_nil)
      (pss_cons (ps_asg (pe_bm0 PySem.F.plainAttrs_list PySem.F.slot_list_pop PySem.F.type_list_pop mt_pop (pe_dgetK hu1 (pv 0))) (pg_tup rfl (pgs_cons (pg_sub (pv 0) pe_str (set_dict hu1)) (pgs_cons (pg_sub (pv 0) pe_str (set_dict hu1)) pgs_nil))))
      (pss_one (ps_ret pe_bl))), ?_⟩
    obtain ⟨vs, hv, pv⟩ := mo.ia
    have lv := pv.len
    refine ⟨fun σ H' => σ = ([some (.ref w)] : L2.St) ∧ Same H H' ∧ es ≠ [], ?_, ?_⟩
    · refine ⟨_, rfl, w, .ref pa, rfl, mo.gA, Nat.zero_le _, fun l nl => ?_⟩
      have s1 := same_new (o := .lst []) nl
      refine ⟨pa, l, vs, rfl, rfl, s1 _ _ hv, upd_same, ?_⟩
      refine ⟨_, rfl, ?_⟩
      by_cases c0 : vs.length = 0
      · rw [decide_eq_true c0]
        exact q1 (List.eq_nil_of_length_eq_zero (by omega)) _ s1
      · rw [decide_eq_false c0]
        exact ⟨rfl, s1, fun z => c0 (by rw [lv.1, z]; rfl)⟩
    rintro σ H1 ⟨rfl, s1, nn⟩
    obtain ⟨es', c', rfl⟩ : ∃ es' c', es = es' ++ [c'] := ⟨es.dropLast, es.getLast nn, (List.dropLast_concat_getLast nn).symm⟩
    obtain ⟨us, a, ws, ls', l, rfl, rfl, h5, h6, h7, h8⟩ := pv.back
    have mo1 := mo.same s1
    have hv1 := s1 _ _ hv
    have h6 := (TK.same s1) _ _ h6
    have h7 := s1 _ _ h7
    have h8 := h8.tk (.same s1)
    have own := mo.own
    have nd := mo.nd
    obtain ⟨wp, hp, pp⟩ := mo1.ip
    have nw := mo1.nw
    refine ⟨_, rfl, w, .ref pa, rfl, mo1.gA, .inl ⟨rfl, us ++ [.ref a], .of hv1⟩, pa, us ++ [.ref a], .ref a, rfl, rfl, hv1, by rw [List.length_append]; simp, ?_⟩
    rw [List.dropLast_concat]
    have k2 : But [pa] H1 (upd H1 pa (.lst us)) := .put List.mem_cons_self
    have m2 : Mu [pa] H1 := fun b hb => by
      rw [List.mem_singleton.mp hb]
      exact .inl ⟨_, hv1⟩
    have mem : ∀ b ∈ pl :: bl :: (ls' ++ [l]), b ∉ [pa] := fun b hb z => by
      rw [List.mem_singleton.mp z] at hb
      simp only [List.nodup_cons, List.mem_cons] at nd
      simp only [List.mem_cons] at hb
      rcases hb with e | hb
      · exact nd.1 (.inl e.symm)
      · exact nd.2.1 hb
    have iw2 : (upd H1 pa (.lst us)) w = some (.dK (moD pl c.day bl pa)) := k2 _ _ mo1.iw fun z => nw pa (by simp) (List.mem_singleton.mp z)
    refine ⟨a, _, rfl, k2.tk m2 _ _ h6, rfl, _, _, rfl, ?_⟩
    refine ⟨_, rfl, w, _, rfl, DPut.k (k := .inr "day") iw2 (by rw [sizeLine_eq]; show (4 : Nat) < 16777216; decide), ?_⟩
    refine ⟨_, _, rfl, _, rfl, w, _, rfl, DPut.k (k := .inr "bought") upd_same (by rw [sizeLine_eq]; show (4 : Nat) < 16777216; decide), rfl, ?_⟩
    refine q2 es' c' ls' l rfl rfl _ (((But.same s1).trans (k2.mono fun b hb => by simp at hb ⊢; exact .inl hb)).trans ((But.put (by simp)).trans (.put (by simp)))) ?_
    have kw : But [w] (upd H1 pa (.lst us)) (upd (upd (upd H1 pa (.lst us)) w (.dK (putK (moD pl c.day bl pa) (.inr "day") (.int c'.day)))) w (.dK (putK (putK (moD pl c.day bl pa) (.inr "day") (.int c'.day)) (.inr "bought") (.ref l)))) := (But.put (by simp)).trans (.put (by simp))
    have mw : Mu [w] (upd H1 pa (.lst us)) := fun b hb => by
      rw [List.mem_singleton.mp hb]
      exact .inr (.inl ⟨_, iw2⟩)
    have nn2 : ∀ b ∈ pl :: pa :: bl :: (ls' ++ [l]), b ∉ [w] := fun b hb z => nw b hb (List.mem_singleton.mp z).symm
    have tk2 : TK K H1 _ := fun x y h => kw.tk mw x y (k2.tk m2 x y h)
    refine ⟨upd_same, ⟨wp, kw _ _ (k2 _ _ hp (mem _ (by simp))) (nn2 _ (by simp)), pp.tk tk2⟩, ⟨ws, kw _ _ (k2 _ _ h7 (mem _ (by simp))) (nn2 _ (by simp)), h8.tk tk2⟩, ⟨us, kw _ _ upd_same (nn2 _ (by simp)), ?_⟩, ?_⟩
    · have h5 : PastV K H1 us es' ls' := h5.but (.same s1) .nil fun _ _ z => nomatch z
      exact (h5.but k2 m2 fun b hb => mem b (by simp [hb])).but kw mw fun b hb => nn2 b (by simp [hb])
    · have nd2 : (pl :: pa :: (ls' ++ [l])).Nodup := by
        refine nd.sublist ?_
        exact (List.Sublist.cons₂ _ (List.Sublist.cons₂ _ (List.sublist_cons_self _ _)))
      have pm : (pl :: pa :: (ls' ++ [l])).Perm (pl :: pa :: l :: ls') := .cons _ (.cons _ (List.perm_append_comm (l₁ := ls') (l₂ := [l])))
      exact pm.nodup_iff.mp nd2
end
end Sea

set_option Elab.async false
set_option linter.all false
set_option maxRecDepth 100000
set_option maxHeartbeats 4000000
/-! the law's model: _law_pass_days -/
namespace Sea
open PySem PySem.Spec PyProof.Rows L2 LamX NdefX ClX Evl StX
def badD (ln : Int) (ds : List Int) (c : Ct) (j : Nat) : Prop := goT ln ds (c.day + j) = true ∧ c.un ≤ c.day + j
def spMs (K : PySem.W.Frag) (CV : Addr) : Sp := fun vs H Q _ => ∃ (w pl pa bl tv : Addr) (ls : List Addr) (L : List (Int × Int)) (c : Ct) (es : List Ct) (n ln : Int) (dv ov : V) (ds : List Int), vs = [.ref w, .ref tv, .int n] ∧ MoA K H w pl pa bl ls L c es ∧ Ok45 L c ∧ es.length ≤ 1000 ∧ c.bt.length ≤ 1000 ∧ Tv K CV H tv ln dv ov ds [] ∧ 1 ≤ ln ∧
  (¬ (0 ≤ n ∧ n ≤ psMax c) → ∀ r H', Same H H' → H' r = some (.tup [.str "InvalidCount"]) → Q (.ref r) H') ∧
  (0 ≤ n → n ≤ psMax c → ∀ j : Nat, (j : Int) < n → (∀ i : Nat, i < j → ¬ badD ln ds c i) → badD ln ds c j → ∀ r H', Same H H' → H' r = some (.tup [.str "NoPass", .int (c.day + j)]) → Q (.ref r) H') ∧
  (0 ≤ n → n ≤ psMax c → (∀ j : Nat, (j : Int) < n → ¬ badD ln ds c j) → ∀ l H', H l = none → But [pa, w] H H' → MoA K H' w pl pa bl (ls ++ [l]) L (dayC c (c.day + n)) (es ++ [c]) → Q (.int (c.day + n)) H')
section
variable {P : Program} {w : World} {K : PySem.W.Frag} {mg : Str → Option Value} {base : Heap} {CV CT CW cN cNp cP fCt fWi fVC fVP fVN fNp fTo fItd : Addr} {mq : Value} {dCt dWi dVC dVP dVN dNp dTo dItd : FuncData}
theorem ok_ms {f fCv fKe : Addr} {fd dCv dKe : FuncData} {k : Nat} (F : Fun K "_law_pass_days" "_law_pass_days" sMs f fd) (T : TMo K mg fCv fKe dCv dKe) (TW : TW K mg CT CW cN cNp cP fCt fWi fVC fVP fNp dCt dWi dVC dVP dNp mq) (TV : TTv K mg CV fVN dVN) (Y : TTd K mg CV fTo fItd dTo dItd) :
    FnOk P w K mg base CX0 (k + 3) f fd ["_law_w", "_law_travel", "_law_count"] (spMs K CV) := by
  have bI : Binds K dItd ["self", "day"] [] := Y.uI.binds (ps := ["self", "day"]) fun _ _ _ _ _ _ us hl => match us, hl with | [_, _], _ => rfl
  refine F.ok scMs (fun vs H Q E h => ?_) (fun cdv A outer s H vs Q E hr h => ?_)
  · obtain ⟨w, pl, pa, bl, tv, ls, L, c, es, n, ln, dv, ov, ds, rfl, _⟩ := h
    rfl
  · obtain ⟨w, pl, pa, bl, tv, ls, L, c, es, n, ln, dv, ov, ds, rfl, mo, ok, few, fb, ht, l1, q1, q2, q3⟩ := h
    have hu1 : (A.deeper (envOfC "_law_pass_days" (defScope sMs) s.heap.objs.size f cdv)).units + 1 < cLine := by
      have := hr.un
      omega
    refine ⟨_, pss_cons (ps_if (pt_not (pt_chain op_le op_le pe_int (pv 2) (pe_callB (call_min2 rfl) (by rfl) T.mM (by decide +kernel) (pa_cons pe_int (pa_cons (pe_op op_sub (pe_op op_pow pe_int pe_int) (pe_dgetK hu1 (pv 0))) pa_nil))))) (pss_one (ps_ret (pe_tup (pa_cons pe_str pa_nil)))) pss_nil)
      (pss_cut (ps_for PassesOwn.never rfl (pi_range2 (by rfl) T.mR (pa_cons (pe_dgetK hu1 (pv 0)) (pa_cons (pe_op op_add (pe_dgetK hu1 (pv 0)) (pv 2)) pa_nil))) (pg_name (i := 3) scMs.nd rfl (.inl rfl))
        (pss_one (ps_if (PW.pt (pw_and (pt_val (pe_meth (E := E0) (pv 1) TV.cl Y.mI (ok_itd (k := 0) TW TV Y) (hr.mono (by omega)) bI .nil pass0 (pa_cons (pv 3) pa_nil))) (pw_and1 (pt_not (pt_val (pe_call (E := E0) (ok_cv (k := 0) T.uCv) (hr.mono (by omega)) (by rfl) T.gCv T.kCv T.bCv .nil pass0 (pa_cons (pv 0) (pa_cons (pv 3) pa_nil))))))))
          (pss_one (ps_ret (pe_tup (pa_cons pe_str (pa_cons (pv 3) pa_nil))))) pss_nil)))
      (pss_cons (ps_expr (pe_call (E := E0) (ok_ke (k := 0) T.uKe T.mL) (hr.mono (by omega)) (by rfl) T.gKe T.kKe T.bKe .nil pass0 (pa_cons (pv 0) pa_nil)))
      (pss_cons (ps_dput hu1 (pv 0) pe_str (pe_op op_add (pe_dgetK hu1 (pv 0)) (pv 2)) (by rfl))
      (pss_one (ps_ret (pe_dgetK hu1 (pv 0))))))), ?_⟩
    have lt : ∀ {n : Nat}, n ≤ 1000 → n ≤ sizeLine := fun h => Nat.le_of_lt (small1000 h)
    have d0 := ok.d0
    have d1 := ok.d1
    refine q_when (b := !(decide (0 ≤ n) && decide (n ≤ psMax c))) (et_not (et_test (ev_chainI (p := fun i j => decide (i ≤ j)) (q := fun i j => decide (i ≤ j)) ev_c (ev_var rfl) (ev_min2 (i := 10000) (j := 1000000000000000000 - c.day) ev_c (ev_op ev_p18 (mo.dw (te := tVar 0) (ev_var rfl)).2.1 (rv_I0 (g := fun i j => .int (i - j)))))))) (fun hb H1 e1 => ?_) (fun hb H1 e1 => ?_)
    · refine ⟨lt (show 1 ≤ 1000 by decide), fun r nr => q1 (fun z => ?_) r _ (e1.trans (same_new nr)) upd_same⟩
      rw [decide_eq_true z.1, decide_eq_true z.2] at hb
      cases hb
    have hn : 0 ≤ n ∧ n ≤ psMax c := by
      have : (decide (0 ≤ n) && decide (n ≤ psMax c)) = true := by
        cases h : (decide (0 ≤ n) && decide (n ≤ psMax c)) with
        | true => rfl
        | false =>
          rw [h] at hb
          cases hb
      rw [Bool.and_eq_true] at this
      exact ⟨of_decide_eq_true this.1, of_decide_eq_true this.2⟩
    obtain ⟨n0, n1⟩ := hn
    have nm : n ≤ 10000 ∧ n ≤ 1000000000000000000 - c.day := by
      unfold psMax at n1
      split at n1 <;> omega
    have mo1 := mo.same e1
    refine ⟨fun σ H' => (∃ v3, σ = ([some (.ref w), some (.ref tv), some (.int n), v3] : L2.St)) ∧ Same H H' ∧ ∀ j : Nat, (j : Int) < n → ¬ badD ln ds c j, ?_, ?_⟩
    · have ea : EvA _ ([some (.ref w), some (.ref tv), some (.int n), none] : L2.St) H1 [.int c.day, .int (c.day + n)] := ea_cons (mo1.dw (te := tVar 0) (ev_var rfl)).2.1 (ea_cons (ev_op (mo1.dw (te := tVar 0) (ev_var rfl)).2.1 (ev_var (i := 2) rfl) (rv_I0 (g := fun i j => .int (i + j)) (i := c.day) (j := n))) ea_nil)
      refine s_forR3 ea ⟨by omega, by omega, by omega, by omega⟩ (fun i σ H' => (∃ v3, σ = ([some (.ref w), some (.ref tv), some (.int n), v3] : L2.St)) ∧ Same H H' ∧ ∀ j : Nat, j < i → ¬ badD ln ds c j) (fun H3 e3 => ⟨⟨none, rfl⟩, e1.trans e3, fun j hj => absurd hj (Nat.not_lt_zero _)⟩) ?_ ?_
      · rintro i σ H4 hi0 ⟨⟨v4, rfl⟩, s4, hall⟩
        have hi : (i : Int) < n := by omega
        have ht4 := ht.same s4
        have mo4 := mo.same s4
        obtain ⟨⟨dxv, hv⟩, _⟩ := id ht4
        have et1 : EvT (tB (tMeth CV "is_travel_day" (spItd K CV) [] E0 (tVar 1) (tCons (tVar 3) tNil))) ([some (.ref w), some (.ref tv), some (.int n), some (.int (c.day + i))] : L2.St) H4 (goT ln ds (c.day + i)) := fun H5 e5 Q q =>
          ⟨_, rfl, tv, dxv, _, rfl, e5 _ _ hv, rfl, _, rfl, tv, ln, c.day + i, dv, ov, ds, rfl, ht4.same e5, l1, by omega, by omega, fun H6 s6 => ⟨_, rfl, q H6 s6⟩⟩
        have et2 : EvT (tNot (tB (tCall (spCv K) [] E0 (tCons (tVar 0) (tCons (tVar 3) tNil))))) ([some (.ref w), some (.ref tv), some (.int n), some (.int (c.day + i))] : L2.St) H4 (!decide (c.day + (i : Int) < c.un)) := et_not (et_B (ev_call (vs := [.ref w, .int (c.day + i)]) (z := .bl (decide (c.day + (i : Int) < c.un))) (ea_cons (ev_var rfl) (ea_cons (ev_var rfl) ea_nil)) fun H1 e1 Q1 q1 E1 =>
          ⟨w, pl, pa, bl, ls, L, c, es, c.day + i, rfl, mo4.same e1, ok.bo, fb, fun H2 s2 => by rw [ok.cov (by omega)]; exact q1 H2 s2⟩))
        refine s_when (σ := ([some (.ref w), some (.ref tv), some (.int n), some (.int (c.day + i))] : L2.St)) (b := goT ln ds (c.day + i) && !decide (c.day + (i : Int) < c.un)) (et_and et1 fun _ => et2) (fun hb H5 e5 => ?_) (fun hb H5 e5 => ⟨⟨_, rfl⟩, s4.trans e5, fun j hj => ?_⟩)
        · rw [Bool.and_eq_true] at hb
          have hu : c.un ≤ c.day + i := by
            have := hb.2
            simp at this
            exact this
          exact ⟨_, rfl, lt (show 2 ≤ 1000 by decide), fun r nr => q2 n0 n1 i hi hall ⟨hb.1, hu⟩ r _ (s4.trans (e5.trans (same_new nr))) upd_same⟩
        · by_cases hji : j < i
          · exact hall j hji
          · obtain rfl : j = i := by omega
            intro z
            rw [z.1, decide_eq_false (by have := z.2; omega)] at hb
            cases hb
      · rintro σ H4 ⟨⟨v4, rfl⟩, s4, hall⟩
        exact ⟨⟨v4, rfl⟩, s4, fun j hj => hall j (by omega)⟩
    rintro σ H3 ⟨⟨v3, rfl⟩, s3, hall⟩
    refine q_callD (ea_cons (ev_var rfl) ea_nil) fun H4 e4 => ⟨w, pl, pa, bl, ls, L, c, es, rfl, (mo.same s3).same e4, few, fun l H5 nl k5 mo5 => ?_⟩
    have s04 := s3.trans e4
    refine ⟨_, rfl, w, .int c.day, rfl, mo5.gD, _, rfl, _, _, rfl, rfl, _, rfl, ?_⟩
    obtain ⟨H6, p6, k6, mo6⟩ := mo5.put (c' := dayC c (c.day + n)) (d := c.day + n) rfl rfl
    refine ⟨w, H6, rfl, p6, ?_⟩
    exact s_ret (v := .int (c.day + n)) (mo6.dw (te := tVar 0) (ev_var rfl)).2.1 fun H7 e7 => q3 n0 n1 hall l H7 (old s04 nl) ((((But.same s04).trans k5).mono fun b hb => by simp at hb ⊢; exact .inl hb).trans ((k6.trans (.same e7)).mono fun b hb => by simp at hb ⊢; exact .inr hb)) (mo6.same e7)
end
end Sea

set_option Elab.async false
set_option linter.all false
set_option maxRecDepth 100000
set_option maxHeartbeats 4000000
/-! the law's model: _law_agrees -/
namespace Sea
open PySem PySem.Spec PyProof.Rows L2 LamX NdefX ClX Evl StX
section
variable {X : Cx} {k : Nat} {f C : Addr} {fd : FuncData} {ps : List Str} {sp : SpG} {dvs : List V} {ds : List Value} {m : Str} {o : Expr} {apos pos' : Pos} {ta : TE}
theorem pcgen_meth {pl : Sem Bool} {e : Expr} {es : List Expr} {t : TA} (ho : PE X o ta) (cl : Cls X.K C) (hm : Meth X.K C m f) (F : CFn X.prog X.w X.K X.mg X.base k f fd ps sp) (hr : Room k X.A) (hb : Binds X.K fd ps ds) (hd : Vals dvs ds) (ha : PA X (e :: es) t)
    (hst : starEach (e :: es) X.env = (false, eval e X.env) :: starEach es X.env := by rfl) (hpl : (backTo pos' (starEach es X.env)).any (·.1) = false := by rfl)
    (ht : eval (.Call (.Attribute o m apos) (e :: es) [] pos') X.env = (do
      let ov ← eval o X.env
      standAt apos.atName
      let (f, first) ← holding [ov] (getMethod ov m pl)
      callWith pos' f first (backTo pos' (starEach (e :: es) X.env)) (backToKw pos' (keywordEach [] X.env))) := by rfl) :
    PCGen X k (.Call (.Attribute o m apos) (e :: es) [] pos') (tMethG C m sp dvs (fun _ _ _ => False) ta t) := by
  refine ⟨fun pins s σ H cont I h => PySem.W.methodCall_KW (pl := pl) (thn (ho.run pins s σ H _ I h) ?_) ht⟩
  rintro u s1 ⟨x, H1, I1, rx, a, dx, fs, rfl, ea, l, q⟩
  obtain rfl : u = Value.ref a := rx
  refine getmeth_ok I1 ea cl hm l (PySem.W.callWith_K (first := [.ref a]) (h₀ := X.base) I.ok.mod.kin hm.kp (thn (ha.run pos' pins s1 σ H1 _ I1 q) ?_) hst hpl)
  rintro us s2 ⟨vs, H2, I2, r, q2⟩
  refine ⟨I2.kIn, ?_⟩
  have all : Vals (V.ref a :: (vs ++ dvs)) (Value.ref a :: (us ++ ds)) := .cons rfl (r.append hd)
  have many : (Value.ref a :: (us ++ ds)).length = ps.length := all.length ▸ F.len _ _ _ _ q2
  refine wpAny_call (codeAny_mono (F.run X.A X.stack s2 H2 ⟨.ref a :: us, []⟩ (.ref a :: (us ++ ds)) (.ref a :: (vs ++ dvs)) cont _ hr I2.env0 (hb s2 (.ref a :: us) I2.kIn many) all q2) fun r s3 z => ?_)
  match r, z with
  | .ok (.ret u), z => exact ⟨H2, s2, I2, z⟩
end
abbrev NAg : List Str := ["_law_w", "_law_shutet", "_law_spent", "_law_first", "_law_last", "_law_days_here", "_law_date", "_law_index"]
theorem scAg : FnScope NAg ["_law_w", "_law_shutet"] (defScope sAg) := ⟨rfl, rfl, rfl, by decide +kernel, rfl, by decide +kernel, by decide +kernel⟩
theorem tri_sh (i j : Int) (L : List (Int × Int)) : SeqAt.shaped (.tuple [.int i, .int j, .list (L.map fun x => .tuple [.int x.1, .int x.2])]) = true := by
  have h := lsD_sh L
  have h1 := SeqAt.canLay_of_shaped h
  have h2 := psD_dep L
  unfold SeqAt.shaped
  rw [Bool.and_eq_true, decide_eq_true_iff]
  refine ⟨?_, ?_⟩
  · show (true && (true && (PyData.canLay0 _ && true))) = true
    rw [h1]
    rfl
  · simp only [PyData.depth, PyData.depthAll]
    omega
theorem given_map (n : Nat) (f : Nat → Bool) (v : Nat → Int) : given n f (fun i => V.int (v i)) = (((List.range n).filter f).map v).map V.int := by
  unfold given
  rw [List.map_map]
  rfl
theorem covL_given (L bt : List (Int × Int)) (f : Int) (n : Nat) : given n (fun i => bt.any (covB L (f + (i : Int)))) (fun i => .int (f + (i : Int))) = (covL L bt f n).map V.int := by
  rw [given_map]
  unfold covL
  rw [List.filter_map]
  rfl
section
variable {K : PySem.W.Frag} {σ : L2.St} {H : Hp} {te tb : TE} {t : TT}
theorem ev_sumL {tl : TE} {ns : List Int} (h : EvL tl σ H (ns.map V.int)) : Ev (tCB (rSum K) (tCons tl tNil)) σ H (.int ns.sum) := fun H1 e Q q =>
  h H1 e _ fun r H2 nr e2 hr => ⟨r, ns, rfl, .inl (.inl hr), q H2 e2⟩
theorem el_lcR2 {ta : TA} {lo n : Int} {j : Nat} {vs : List Nat} (f : Nat → Bool) (v : Nat → V) (h : EvA ta σ H [.int lo, .int n]) (hn : -(2 ^ 62) ≤ lo ∧ lo < 2 ^ 62 ∧ -(2 ^ 62) ≤ n ∧ n < 2 ^ 62) (few : n - lo ≤ 40000) (hw : ∀ x, wipe ((wipe σ vs).set j (some x)) vs = wipe σ vs)
    (ht : ∀ (i : Nat) H1, Ex H H1 → lo + (i : Int) < n → EvT t ((wipe σ vs).set j (some (.int (lo + (i : Int))))) H1 (f i)) (he : ∀ (i : Nat) H1, Ex H H1 → lo + (i : Int) < n → f i = true → Ev te ((wipe σ vs).set j (some (.int (lo + (i : Int))))) H1 (v i)) :
    EvL (tLc (iRng2 ta) (gName j) t te vs) σ H (given (n - lo).toNat f v) := fun H0 e Q q => h H0 e _ fun H1 e1 => ⟨lo, n, rfl, hn, fun Dl hD =>
  lc_range (lo := lo) (n := (n - lo).toNat) (Cw H1 f v Dl) ⟨hD, Ex.new hD, upd_same⟩ (fun i H' hi p => ⟨hw _, cw_turn p (by omega) (ht i H1 (e.trans e1) (by omega)) (fun hf => he i H1 (e.trans e1) (by omega) hf)⟩) (fun H' p => q Dl H' (fresh_back e1 p.1) (e1.trans p.2.1) p.2.2)⟩
theorem q_par {i j : Nat} {ta : TA} {v w : V} {tz : TS} {D : Ends} (h : EvA ta σ H [v, w]) (k : ∀ H1, Ex H H1 → tz D ((σ.set i (some v)).set j (some w)) H1) : tSeq (tPar i j ta) tz D σ H := h H (Ex.refl H) _ fun H1 e => ⟨v, w, rfl, k H1 e⟩
variable {C CT CW x El t' p : Addr} {L : List (Int × Int)} {c : Ct} {es : List Ct}
theorem WlA.pI (wl : WlA K C CT CW H x El t' p L c es) (h : Ev te σ H (.ref x)) (f : Ct → Int) : Ev (tProp CW (spInt K C CT CW f) [] E0 te) σ H (.int (f c)) := fun H1 e Q q =>
  h H1 e _ fun H2 e2 => by
    have wl2 := wl.same (e.trans e2)
    obtain ⟨⟨dx, co, hx, _⟩, _⟩ := id wl2
    exact ⟨x, dx, _, rfl, hx, x, El, t', p, L, c, es, rfl, wl2, fun H3 s3 => q H3 (e2.trans s3)⟩
theorem WlA.pC (wl : WlA K C CT CW H x El t' p L c es) (h : Ev te σ H (.ref x)) : Ev (tProp CW (spIc K C CT CW) [] E0 te) σ H (.bl (decide (c.day < c.un))) := fun H1 e Q q =>
  h H1 e _ fun H2 e2 => by
    have wl2 := wl.same (e.trans e2)
    obtain ⟨⟨dx, co, hx, _⟩, _⟩ := id wl2
    exact ⟨x, dx, _, rfl, hx, x, El, t', p, L, c, es, rfl, wl2, fun H3 s3 => q H3 (e2.trans s3)⟩
theorem WlA.pP (wl : WlA K C CT CW H x El t' p L c es) (h : Ev te σ H (.ref x)) : EvDp K (tProp CW (spPu K C CT CW) [] E0 te) σ H (.list (c.bt.map fun x => .tuple [.int x.1, .int x.2])) := fun H1 e Q q =>
  h H1 e _ fun H2 e2 => by
    have wl2 := wl.same (e.trans e2)
    obtain ⟨⟨dx, co, hx, _⟩, _⟩ := id wl2
    exact ⟨x, dx, _, rfl, hx, x, El, t', p, L, c, es, rfl, wl2, fun r ws H3 s3 nr hr hp => q (.ref r) H3 (e2.trans s3) (.lst (.of hr) hp.dp)⟩
theorem TabG.nl {P D : Addr} {xs : List V} (t : GxR.TabG H P) (h : H D = some (.lst xs)) : D ∉ [P] := fun z => by
  rw [List.mem_singleton.mp z] at h
  obtain ⟨ps, e, _⟩ := t
  rw [h] at e
  cases e
end
/-- the wallet is as its model says -/
def spAg (K : PySem.W.Frag) (C CT CW Pt : Addr) : Sp := fun vs H Q _ => ∃ (w pl pa bl x El t p : Addr) (ls : List Addr) (L : List (Int × Int)) (c : Ct) (es es' : List Ct), vs = [.ref w, .ref x] ∧ MoA K H w pl pa bl ls L c es ∧ WlA K C CT CW H x El t p L c es' ∧ Ok45 L c ∧ GxR.TabG H Pt ∧ c.bt.length ≤ 1000 ∧ L.length ≤ 1000 ∧
  ∀ H', But [Pt] H H' → GxR.TabG H' Pt → Q (.bl true) H'
section
variable {P : Program} {w : World} {K : PySem.W.Frag} {mg : Str → Option Value} {base : Heap} {C CV cI cU fI fP pP CT CW cN cNp cP fCt fWi fVC fVP fVN fNp fTd pTd fSp pSp fPu pPu fIc pIc fRe fBy fPd fPs fUn fCd fCv fKe Pt : Addr} {mq : Value} {dCt dWi dVC dVP dVN dNp dTd dSp dPu dIc dRe dBy dPd dPs dUn dCd dCv dKe : FuncData}
theorem ok_ag {f : Addr} {fd : FuncData} (F : Fun K "_law_agrees" "_law_agrees" sAg f fd) (T : TMo K mg fCv fKe dCv dKe) (TW : TW K mg CT CW cN cNp cP fCt fWi fVC fVP fNp dCt dWi dVC dVP dNp mq) (M : TWm K CW fTd pTd fSp pSp fPu pPu fIc pIc fRe fBy fPd fPs fUn dTd dSp dPu dIc dRe dBy dPd dPs dUn)
    (CD : CFn P w K mg base 6 fCd dCd ["self", "first", "last"] (spCd K C CT CW Pt cN)) (mCd : Meth K CW "covered_days" fCd) (bCd : Binds K dCd ["self", "first", "last"] []) : FnOk P w K mg base CX0 8 f fd ["_law_w", "_law_shutet"] (spAg K C CT CW Pt) := by
  have bTd : Binds K dTd ["self"] [] := M.uTd.binds (ps := ["self"]) fun _ _ _ _ _ _ us hl => match us, hl with | [_], _ => rfl
  have bSp : Binds K dSp ["self"] [] := M.uSp.binds (ps := ["self"]) fun _ _ _ _ _ _ us hl => match us, hl with | [_], _ => rfl
  have bPu : Binds K dPu ["self"] [] := M.uPu.binds (ps := ["self"]) fun _ _ _ _ _ _ us hl => match us, hl with | [_], _ => rfl
  have bIc : Binds K dIc ["self"] [] := M.uIc.binds (ps := ["self"]) fun _ _ _ _ _ _ us hl => match us, hl with | [_], _ => rfl
  refine F.ok scAg (fun vs H Q E h => ?_) (fun cdv A outer s H vs Q E hr h => ?_)
  · obtain ⟨w, pl, pa, bl, x, El, t, p, ls, L, c, es, es', rfl, _⟩ := h
    rfl
  · obtain ⟨w, pl, pa, bl, x, El, t, p, ls, L, c, es, es', rfl, mo, wl, ok, tg, fb, fL, q⟩ := h
    have hu := hr.units
    have hu1 : (A.deeper (envOfC "_law_agrees" (defScope sAg) s.heap.objs.size f cdv)).units + 1 < cLine := by
      have := hr.un
      omega
    have d0 := ok.d0
    have d1 := ok.d1
    refine ⟨_, pss_cons (ps_set (i := 2) scAg.nd rfl (.inl rfl) (pe_callB (cr_sum rfl) (by rfl) T.mS (by decide +kernel) (pa_cons (pe_lc (own := [("_law_date", 6), ("_law_index", 7)]) (g := gTup K 2 (gCons (gName 6) (gCons (gName 7) gNil))) (by rfl) scAg.nd (pi_list (pe_dgetK hu1 (pv 0))) (blkOk_by (own := [("_law_date", 6), ("_law_index", 7)]) (N := NAg) (sc := defScope sAg) (by decide +kernel)) (fun _ _ _ _ _ => pg_tupK rfl rfl (pgs_cons (pg_name (i := 6) scAg.nd rfl (Or.inl rfl)) (pgs_cons (pg_name (i := 7) scAg.nd rfl (Or.inl rfl)) pgs_nil))) (fun _ _ _ _ _ => pts_nil) (fun _ _ _ _ _ => pe_ixtK K rfl (pe_ixlK K rfl (pe_dgetK hu1 (pv 0)) (pv 7)) pe_int)) pa_nil)))
      (pss_cons (ps_if (pt_cmpR (op_neD hu) (pe_tup (pa_cons (pe_prop (E := E0) (pv 1) TW.clW M.pTd (ok_td (C := C) (k := 0) TW M) (hr.mono (by omega)) bTd .nil pass0 (by rfl)) (pa_cons (pe_prop (E := E0) (pv 1) TW.clW M.pSp (ok_sp (C := C) (k := 0) TW M) (hr.mono (by omega)) bSp .nil pass0 (by rfl)) (pa_cons (pe_prop (E := E0) (pv 1) TW.clW M.pPu (ok_pu (C := C) (k := 0) TW M) (hr.mono (by omega)) bPu .nil pass0 (by rfl)) pa_nil)))) (pe_tup (pa_cons (pe_dgetK hu1 (pv 0)) (pa_cons (pv 2) (pa_cons (pe_dgetK hu1 (pv 0)) pa_nil)))) (nomark _)) pss_never pss_nil)
      (pss_cons (ps_expr (pe_bm PySem.F.plainAttrs_list PySem.F.slot_list_append PySem.F.type_list_append mt_append (pe_prop (E := E0) (pv 1) TW.clW M.pPu (ok_pu (C := C) (k := 0) TW M) (hr.mono (by omega)) bPu .nil pass0 (by rfl)) (pa_cons pe_int pa_nil)))
      (pss_cons (ps_par (i := 3) (j := 4) rfl scAg.nd rfl rfl (by decide) rfl rfl (pa_cons (pe_callB (call_max2 rfl) (by rfl) T.mX (by decide +kernel) (pa_cons pe_int (pa_cons (pe_op op_sub (pe_dgetK hu1 (pv 0)) pe_int) pa_nil))) (pa_cons (pe_callB (call_min2 rfl) (by rfl) T.mM (by decide +kernel) (pa_cons (pe_op op_pow pe_int pe_int) (pa_cons (pe_op op_add (pe_dgetK hu1 (pv 0)) pe_int) pa_nil))) pa_nil)) (by rfl))
      (pss_cons (ps_setLc (i := 5) (own := [("_law_date", 6)]) (g := gName 6) (by rfl) scAg.nd rfl rfl (by rfl) (pi_range2 (by rfl) T.mR (pa_cons (pv 3) (pa_cons (pe_op op_add (pv 4) pe_int) pa_nil))) (blkOk_by (own := [("_law_date", 6)]) (N := NAg) (sc := defScope sAg) (by decide +kernel)) (fun _ _ _ _ _ => pg_name (i := 6) scAg.nd rfl (Or.inl rfl)) (fun _ _ _ _ _ => pts_one (pt_val (pe_call (E := E0) (ok_cv (k := 0) T.uCv) (hr.mono (by omega)) (by rfl) T.gCv T.kCv T.bCv .nil pass0 (pa_cons (pv 0) (pa_cons (pv 6) pa_nil))))) (fun _ _ _ _ _ => pv 6))
      (pss_cons (ps_if (pt_cmpR (op_neD hu) (pe_lcG (own := [("_law_date", 6)]) (pcgen_meth (pv 1) TW.clW mCd CD (hr.mono (by omega)) bCd .nil (pa_cons (pv 3) (pa_cons (pv 4) pa_nil))) (hr.mono (by omega)) (blkOk_by (own := [("_law_date", 6)]) (N := NAg) (sc := defScope sAg) (by decide +kernel)) (by rfl)) (pv 5) (nomark _)) pss_never pss_nil)
      (pss_one (ps_ret (pe_cmpR op_eq (pe_prop (E := E0) (pv 1) TW.clW M.pIc (ok_ic (C := C) (k := 0) TW M) (hr.mono (by omega)) bIc .nil pass0 (by rfl)) (pe_call (E := E0) (ok_cv (k := 0) T.uCv) (hr.mono (by omega)) (by rfl) T.gCv T.kCv T.bCv .nil pass0 (pa_cons (pv 0) (pa_cons (pe_dgetK hu1 (pv 0)) pa_nil))) (nomark _))))))))), ?_⟩
    obtain ⟨wb, hb, pb⟩ := mo.ib
    obtain ⟨wp, hp, pp⟩ := mo.ip
    have lb := pb.len
    have lp := pp.len
    have el : EvL _ ([some (.ref w), some (.ref x), none, none, none, none, none, none] : L2.St) H (c.bt.map fun y => V.int (priP L y)) := el_pairsL (K := K) (i := 6) (j := 7) (vs := [6, 7]) (fun y => .int (priP L y)) (mo.dw (te := tVar 0) (ev_var rfl)).2.2.1 (.inl (.inl hb)) pb (by omega) (fun _ _ => rfl) (fun y H6 e6 hy => by
      obtain ⟨y0, y1⟩ := ok.bo y hy
      obtain ⟨m, hm⟩ := Int.eq_ofNat_of_zero_le y0
      have hmL : m < L.length := by omega
      obtain ⟨v, hv⟩ : ∃ v, wp[m]? = some v := ⟨_, List.getElem?_eq_getElem (by omega)⟩
      obtain ⟨u, hu, rb, rfl, hrb⟩ := pp.get hv
      have gl : priP L y = u.2 := by
        unfold priP
        rw [hm, Int.toNat_natCast, List.getD_eq_getElem?_getD, hu]
        rfl
      rw [gl]
      exact ev_op (r := rIxT K) (ev_op (r := rIxL K) ((mo.same e6).dw (te := tVar 0) (ev_var rfl)).1 (ev_var (i := 7) rfl) (rv_ixL (v := .ref rb) (i := y.2) (.inl (.inl (e6 _ _ hp))) (by rw [hm]; exact at_nat (by omega) hv))) ev_c (rv_ixT (i := 1) ((TK.same e6) _ _ hrb) rfl))
    refine q_asg (v := .int c.total) (ev_is (ev_sumL (K := K) (ns := c.bt.map (priP L)) (el_is el (by rw [List.map_map]; rfl))) (by rw [ok.to])) fun H1 e1 => ?_
    have mo1 := mo.same e1
    have wl1 := wl.same e1
    have ev0 : ∀ {v2 v3 v4 v5 : Option V} {H : Hp}, Ev (tVar 0) ([some (.ref w), some (.ref x), v2, v3, v4, v5, none, none] : L2.St) H (.ref w) := ev_var rfl
    have ev1 : ∀ {v2 v3 v4 v5 : Option V} {H : Hp}, Ev (tVar 1) ([some (.ref w), some (.ref x), v2, v3, v4, v5, none, none] : L2.St) H (.ref x) := ev_var rfl
    obtain ⟨wb1, hb1, pb1⟩ := mo1.ib
    have tr1 : EvDp K _ ([some (.ref w), some (.ref x), some (.int c.total), none, none, none, none, none] : L2.St) H1 (.tuple [.int c.day, .int c.total, .list (c.bt.map fun x => .tuple [.int x.1, .int x.2])]) := edp_tup (eda_cons (edp_int (wl1.pI ev1 Ct.day)) (eda_cons (edp_int (wl1.pI ev1 Ct.total)) (eda_cons (wl1.pP ev1) eda_nil))) (show 3 ≤ 1000 by decide)
    have tr2 : EvDp K _ ([some (.ref w), some (.ref x), some (.int c.total), none, none, none, none, none] : L2.St) H1 (.tuple [.int c.day, .int c.total, .list (c.bt.map fun x => .tuple [.int x.1, .int x.2])]) := edp_tup (eda_cons (edp_int (mo1.dw ev0).2.1) (eda_cons (edp_int (ev_var (i := 2) rfl)) (eda_cons (edp_ev (mo1.dw ev0).2.2.1 fun H2 e2 => .lst (.of (e2 _ _ hb1)) (pb1.tk (.same e2)).dp) eda_nil))) (show 3 ≤ 1000 by decide)
    refine q_when (b := false) (et_same (K := K) tr1 tr2 (tri_sh _ _ _)) (fun z => by cases z) fun _ H2 e2 => ?_
    have s02 := e1.trans e2
    have mo2 := mo.same s02
    have wl2 := wl.same s02
    obtain ⟨⟨dx, co, hx2, _⟩, _⟩ := id wl2
    refine ⟨_, rfl, x, dx, _, rfl, hx2, x, El, t, p, L, c, es', rfl, wl2, fun r ws H3 s3 nr hr pr => ⟨.inl ⟨rfl, ws, .of hr⟩, r, ws, .int 0, rfl, rfl, hr, by rw [sizeLine_eq]; have := pr.len; omega, ?_⟩⟩
    have s4 : Same H2 (upd H3 r (.lst (ws ++ [.int 0]))) := Ex.mut s3 nr
    revert s4
    generalize upd H3 r (.lst (ws ++ [.int 0])) = H4
    intro s4
    have s04 := s02.trans s4
    have mo4 := mo.same s04
    have ea : EvA _ ([some (.ref w), some (.ref x), some (.int c.total), none, none, none, none, none] : L2.St) H4 [.int (if c.day - 9 > 0 then c.day - 9 else 0), .int (if c.day + 30 < 1000000000000000000 then c.day + 30 else 1000000000000000000)] :=
      ea_cons (ev_max2 (i := 0) (j := c.day - 9) ev_c (ev_op (mo4.dw ev0).2.1 ev_c (rv_I0 (g := fun i j => .int (i - j))))) (ea_cons (ev_min2 (i := 1000000000000000000) (j := c.day + 30) ev_p18 (ev_op (mo4.dw ev0).2.1 ev_c (rv_I0 (g := fun i j => .int (i + j))))) ea_nil)
    obtain ⟨fi, la, ef, el, f0, fd, dl, l1, lf⟩ : ∃ fi la : Int, fi = (if c.day - 9 > 0 then c.day - 9 else 0) ∧ la = (if c.day + 30 < 1000000000000000000 then c.day + 30 else 1000000000000000000) ∧ 0 ≤ fi ∧ fi ≤ c.day ∧ c.day ≤ la ∧ la ≤ 1000000000000000000 ∧ la ≤ fi + 39 := by
      refine ⟨_, _, rfl, rfl, ?_, ?_, ?_, ?_, ?_⟩ <;> (repeat' split) <;> omega
    rw [← ef, ← el] at ea
    dsimp only
    refine q_par ea fun H5 e5 => ?_
    have s05 := s04.trans e5
    have mo5 := mo.same s05
    refine q_asgL (el_is (el_lcR2 (n := la + 1) (j := 6) (vs := [6]) (fun i => c.bt.any (covB L (fi + (i : Int)))) (fun i => .int (fi + (i : Int))) (ea_cons (ev_var (i := 3) rfl) (ea_cons (ev_op (ev_var (i := 4) rfl) ev_c (rv_I0 (g := fun i j => .int (i + j)) (i := la) (j := 1))) ea_nil)) ⟨by omega, by omega, by omega, by omega⟩ (by omega) (fun _ => rfl) (fun i H6 e6 hi => ?_) (fun i H6 e6 hi _ => ev_var rfl)) (covL_given L c.bt fi _)) fun D H6 nD e6 hD => ?_
    · exact et_B (ev_call (vs := [.ref w, .int (fi + i)]) (z := .bl (c.bt.any (covB L (fi + (i : Int))))) (ea_cons (ev_var rfl) (ea_cons (ev_var rfl) ea_nil)) fun H7 e7 Q7 q7 E7 =>
        ⟨w, pl, pa, bl, ls, L, c, es, fi + i, rfl, (mo5.same e6).same e7, ok.bo, fb, fun H8 s8 => q7 H8 s8⟩)
    have s06 := s05.trans e6
    have wl6 := wl.same s06
    have tg6 := TabG.same tg s06
    obtain ⟨⟨dx6, co6, hx6, _⟩, _⟩ := id wl6
    have okd : cdOk fi la := ⟨⟨f0, by omega⟩, by omega, by split <;> omega⟩
    refine ⟨_, rfl, x, dx6, _, rfl, hx6, rfl, (ea_cons (ev_var (i := 3) rfl) (ea_cons (ev_var (i := 4) rfl) ea_nil) : EvA _ ([some (.ref w), some (.ref x), some (.int c.total), some (.int fi), some (.int la), some (.ref D), none, none] : L2.St) H6 [.int fi, .int la]) H6 (Ex.refl _) _ fun H7 e7 => ?_⟩
    refine ⟨x, El, t, p, L, c, es', fi, la, rfl, wl6.same e7, TabG.same tg6 e7, fL, ok.bo, fun _ H8 k8 t8 r nr => ?_, fun nb => absurd okd nb⟩
    have tg7 := TabG.same tg6 e7
    have hD7 := e7 _ _ hD
    have hD8 := k8 _ _ hD7 (TabG.nl tg7 hD7)
    have s9 := same_new (o := .lst ((covL L c.bt fi (la + 1 - fi).toNat).map V.int)) nr
    have dpi : ∀ (H : Hp) (a : Addr) (ns : List Int), H a = some (.lst (ns.map V.int)) → Dp K H (.ref a) (.list (ns.map PyData.int)) := fun H a ns h => .lst (.of h) (intsDp ns)
    refine ⟨.ref D, rfl, _, _, dpi _ _ _ upd_same, dpi _ _ _ (s9 _ _ hD8), ints_sh _, ints_sh _, _, rfl, ite2 (fun hb => ?_) (fun hb => ?_)⟩
    · rw [eqv_self _ (ints_sh _)] at hb
      cases hb
    have k9 : But [Pt] H (upd H8 r (.lst ((covL L c.bt fi (la + 1 - fi).toNat).map V.int))) := (But.same (s06.trans e7)).trans (k8.trans (.same s9))
    have t9 := TabG.same t8 s9
    revert k9 t9
    generalize upd H8 r (.lst ((covL L c.bt fi (la + 1 - fi).toNat).map V.int)) = H9
    intro k9 t9
    have wl9 := wl.extN (k9.extN tg)
    have mPt : Mu [Pt] H := fun b hb => by
      rw [List.mem_singleton.mp hb]
      exact tg.elim fun ps z => .inr (.inr (.inl ⟨ps, z.1⟩))
    have mo9 := mo.but k9 mPt (fun z => by
      rw [← List.mem_singleton.mp z] at tg
      obtain ⟨ps, e, _⟩ := tg
      rw [mo.iw] at e
      cases e) fun a ha => by
        obtain ⟨xs, e⟩ := mo.own a ha
        exact TabG.nl tg e
    refine s_ret (v := .bl true) (ev_is (ev_op (wl9.pC ev1) (ev_call (vs := [.ref w, .int c.day]) (z := .bl (decide (c.day < c.un))) (ea_cons ev0 (ea_cons (mo9.dw ev0).2.1 ea_nil)) fun H7 e7 Q7 q7 E7 =>
        ⟨w, pl, pa, bl, ls, L, c, es, c.day, rfl, mo9.same e7, ok.bo, fb, fun H8 s8 => by rw [ok.cov (Int.le_refl _)]; exact q7 H8 s8⟩) (rv_eq rfl)) (by simp)) fun H10 e10 => q H10 (k9.trans (.same e10)) (TabG.same t9 e10)
end
end Sea

set_option Elab.async false
set_option linter.all false
set_option maxRecDepth 100000
set_option maxHeartbeats 4000000
/-! lambdas whose making leaves all but the maker's table as it is (ExtA's rules, told so) -/
namespace Sea
open PySem PySem.Spec PyProof.Rows L2 LamX NdefX
section
variable {X : Cx} {pins : List (Addr × Obj)} {σ : L2.St} {H : Hp} {s : Shared}
/-- the lambda's object is made -/
theorem lam_trB {T : List (Addr × Str)} {c P : Addr} {params : Arguments} {body : Expr} {scope : Scope} {pos : Pos} {dV : Value} {E : Value → Shared → Prop} {Q : Value → Shared → Prop} (I : Inv X pins σ H s) (TB : TabB X.base X.mg c P) (hcode : X.env.code = .ref c)
    (hm : (P, X.env.qual ++ "<lambda>") ∈ T) (hu : ∀ p ∈ T, p.1 = P → p.2 = X.env.qual ++ "<lambda>") (hT : Tabs T H) (hfree : ∀ y ∈ scope.names, y.2 = .free → ∃ c, X.env.cells.lookup y.1 = some c)
    (h : ∀ (f c' : Addr) (H1 : Hp) (s' : Shared), Inv X pins σ H1 s' → But [P] H H1 → ExtN H H1 → Tabs T H1 → H f = none →
      H1 f = some (LamO f ⟨X.env.qual ++ "<lambda>", params, body, scope, cloFrom X.env.cells scope.names [], c', dV⟩) → H1 c' = some (CodeO c' (X.env.qual ++ "<lambda>")) → Q (.ref f) s') :
    wpAny (model X.prog X.w) X.A (makeTail "<lambda>" (X.env.qual ++ "<lambda>") params (.expr body) scope X.env dV .none none pos pos.line) Q E s := by
  obtain ⟨ps, table, triples, told⟩ := hT _ hm
  have main := TB.bm.keeps I.bk
  have glob := I.mod.glob.keeps I.bk
  have code := TB.code.keeps I.bk
  -- whichever way the code object was got: the function object is laid last
  have last : ∀ (c' : Addr) (H1 : Hp) (hp : Heap) (tk : Nat) (doc pm ctv : Value), Inv X pins σ H1 { s with heap := hp, toks := tk } → s.heap.objs.size ≤ hp.objs.size → But [P] H H1 → ExtN H H1 → Tabs T H1 → H1 c' = some (CodeO c' (X.env.qual ++ "<lambda>")) →
      Q (.ref hp.objs.size) { s with heap := hp.push ⟨.type "function", none, .func ((LF.mk (X.env.qual ++ "<lambda>") params body scope (cloFrom X.env.cells scope.names []) c' dV).fd doc pm ctv), #[]⟩, toks := tk } := by
    intro c' H1 hp tk doc pm ctv J le bu ext tabs hc
    have fresh : H1 hp.objs.size = none := J.hok.fresh (Nat.le_refl _)
    exact h _ c' _ _ (Stands.laid J (LamAs.mk none #[] doc pm ctv) rfl) (bu.trans (.same (same_new fresh))) (ext.trans (extN_new fresh)) (tabs_keep tabs fresh) (I.hok.fresh le) upd_same ((upd_ne (ne_of_none hc fresh)).trans hc)
  match hk : codeAmong pos ps.toList with
  | some cv =>
    obtain ⟨c', rfl, known⟩ := told pos cv hk
    exact PySem.W.kdv_makeTailHit (closure_ok hfree) I.ok.glob glob hcode code (I.hok P _ table) triples hk main fun ctv doc hp tk old le => last c' H hp tk doc _ ctv (I.kept old) le .refl (.refl H) hT known
  | none =>
    refine PySem.W.kdv_makeTail (closure_ok hfree) I.ok.glob glob hcode code (I.hok P _ table) triples hk TB.gP main ?_
    rintro c' ctv doc hp tk old ge lt ⟨_, oc, vs, t, z, rec⟩ row
    cases z
    have grown := tabs_more (pos := pos) hT table triples told hu (I.hok.fresh ge)
    exact last c' _ hp tk doc _ ctv (inv_table (t' := tk) I table (fun b o hb e => old b o hb e) row ge ⟨oc, vs, t, rec⟩) (Nat.le_trans ge (Nat.le_of_lt lt)) ((But.put (by simp)).trans (.same (same_new (by rw [upd_ne (ne_of_none table (I.hok.fresh ge)).symm]; exact I.hok.fresh ge)))) grown.2 grown.1 upd_same
end

/-- a lambda as a value: without defaults -/
def tLamVB (P : Addr) (T : List (Addr × Str)) (mk : Addr → LF) : TE := fun _ H Q => Tabs T H ∧ ∀ (f c' : Addr) (H1 : Hp), But [P] H H1 → ExtN H H1 → Tabs T H1 → H f = none → H1 f = some (LamO f (mk c')) → H1 c' = some (CodeO c' (mk c').qual) → Q (.ref f) H1
/-- .. with one default, an int -/
def tLamDB (P : Addr) (T : List (Addr × Str)) (d : Int) (mk : Addr → Addr → LF) : TE := fun _ H Q => Tabs T H ∧ ∀ (f c' t : Addr) (H1 : Hp), But [P] H H1 → ExtN H H1 → Tabs T H1 → H f = none → H t = none → H1 t = some (.tup [.int d]) → H1 f = some (LamO f (mk c' t)) → H1 c' = some (CodeO c' (mk c' t).qual) → Q (.ref f) H1
section
variable {X : Cx} {T : List (Addr × Str)} {c P : Addr} {params : Arguments} {body : Expr} {scope : Scope} {pos : Pos}
theorem pe_lamVB (TB : TabB X.base X.mg c P) (hcode : X.env.code = .ref c) (hm : (P, X.env.qual ++ "<lambda>") ∈ T) (hu : ∀ p ∈ T, p.1 = P → p.2 = X.env.qual ++ "<lambda>")
    (hf : ∀ y ∈ scope.names, y.2 = .free → X.env.scope.names.lookup y.1 = some .cell ∨ X.env.scope.names.lookup y.1 = some .free) (hdef : defaultsOf params X.env = ([], []) := by rfl) :
    PE X (.Lambda params body scope pos) (tLamVB P T fun c' => ⟨X.env.qual ++ "<lambda>", params, body, scope, cloFrom X.env.cells scope.names [], c', .none⟩) := by
  refine ⟨fun pins s σ H Q I h => ?_⟩
  obtain ⟨hT, h⟩ := h
  refine PySem.W.kla_eval hdef ?_
  rw [makeFunction_eq]
  simp only [List.zip_nil_right, List.filterMap_nil, List.isEmpty_nil, if_true, pure_bind]
  exact lam_trB I TB hcode hm hu hT (free_has hf I.ok) fun f c' H1 s' I1 bu eN T1 f0 f1 c1 => ⟨.ref f, H1, I1, rfl, h f c' H1 bu eN T1 f0 f1 c1⟩
theorem pe_lamDB {d : Int} {j : Nat} {dp : Pos} (TB : TabB X.base X.mg c P) (hcode : X.env.code = .ref c) (hm : (P, X.env.qual ++ "<lambda>") ∈ T) (hu : ∀ p ∈ T, p.1 = P → p.2 = X.env.qual ++ "<lambda>")
    (hf : ∀ y ∈ scope.names, y.2 = .free → X.env.scope.names.lookup y.1 = some .cell ∨ X.env.scope.names.lookup y.1 = some .free) (hd : params.defaults = [.Constant (.int d) j dp]) (hk0 : params.kw_defaults = []) :
    PE X (.Lambda params body scope pos) (tLamDB P T d fun c' t => ⟨X.env.qual ++ "<lambda>", params, body, scope, cloFrom X.env.cells scope.names [], c', .ref t⟩) := by
  refine ⟨fun pins s σ H Q I h => ?_⟩
  obtain ⟨hT, h⟩ := h
  refine PySem.W.kdv_lam (by rw [hd]; rfl) hk0 ?_
  rw [hd]
  refine PySem.W.kdv_all1 (wpAny_Constant_int (PySem.W.kdv_all0 ?_))
  rw [makeFunction_eq]
  simp only [List.zip_nil_right, List.filterMap_nil, List.isEmpty_nil, if_true, pure_bind, List.isEmpty_cons, Bool.false_eq_true, if_false]
  refine wpAny_bind (wpAny_newTextTuple ?_)
  have nT : H s.heap.objs.size = none := I.hok.fresh (Nat.le_refl _)
  have I1 := I.laid (t' := s.toks + 1) (a := s.heap.objs.size) (o := .tup [.int d]) (h' := s.heap.push ({ cls := .type "tuple", data := .seq #[.int d s.toks] } : Obj)) (fun b u e => Heap.get?_push_of_some _ e) (Nat.le_refl _)
    ⟨(by show 1 ≤ sizeLine; decide), [.int d s.toks], .cons ⟨_, rfl⟩ .nil, ⟨_, Heap.get?_push_size _ rfl, rfl, _, rfl⟩⟩
  refine lam_trB I1 TB hcode hm hu (tabs_keep hT nT) (free_has hf I.ok) fun f c' H1 s' I2 bu eN T1 f0 f1 c1 => ⟨.ref f, H1, I2, rfl, ?_⟩
  have ft : f ≠ s.heap.objs.size := fun z => by
    rw [z, upd_same] at f0
    cases f0
  have f0' : H f = none := by
    rw [upd_ne ft] at f0
    exact f0
  exact h f c' s.heap.objs.size H1 ((But.same (same_new nT)).trans bu) ((extN_new nT).trans eN) T1 f0' nT (eN _ _ upd_same (fun ps z => by cases z)) f1 c1
end
end Sea

set_option Elab.async false
set_option linter.all false
set_option maxRecDepth 100000
set_option maxHeartbeats 4000000
/-! the draws, the model and the wallet beside each other: what a change of one leaves of the others -/
namespace Sea
open PySem PySem.Spec PyProof.Rows L2 LamX NdefX ClX Evl StX
/-- the draws' list and the script are apart from S -/
def Ap (K : PySem.W.Frag) (h c : Addr) (S : List Addr) : Prop := (∀ b ∈ S, b ≠ h) ∧ (c ∈ S → ∃ ns : List Int, ns.length ≤ 63 ∧ ∀ H, SqL K H c (ns.map V.int))
/-- what changes are lists, dicts, instances -/
def Mx (S : List Addr) (H : Hp) : Prop := ∀ b ∈ S, ∀ o, H b = some o → (∃ xs, o = .lst xs) ∨ (∃ kvs, o = .dK kvs) ∨ (∃ C dx fs, o = .ins C dx fs)
section
variable {K : PySem.W.Frag} {H H' : Hp} {h c l : Addr} {S S' : List Addr}
theorem Ap.sub (a : Ap K h c S) (s : ∀ b ∈ S', b ∈ S) : Ap K h c S' := ⟨fun b hb => a.1 b (s b hb), fun hc => a.2 (s c hc)⟩
theorem Ap.nil : Ap K h c [] := ⟨(fun b hb => nomatch hb), (fun hc => nomatch hc)⟩
theorem Ap.app (a : Ap K h c S) (b : Ap K h c S') : Ap K h c (S ++ S') := ⟨fun x hx => (List.mem_append.mp hx).elim (a.1 x) (b.1 x), fun hc => (List.mem_append.mp hc).elim a.2 b.2⟩
/-- a new object -/
theorem Ap.new (d : Ds K H h c) (n : H l = none) : Ap K h c [l] := by
  refine ⟨fun b hb => ?_, fun hc => ?_⟩
  · rw [List.mem_singleton.mp hb]
    exact d.nh n
  · obtain ⟨p, m, r, ns, _, _, e2, l2⟩ := d
    rw [List.mem_singleton.mp hc] at e2 ⊢
    refine ⟨ns, l2, fun H2 => ?_⟩
    rcases e2 with (e2 | ⟨o, e2⟩) | e2
    · rw [n] at e2
      cases e2
    · rw [n] at e2
      cases e2
    · exact .inr e2
theorem Ds.but (d : Ds K H h c) (a : Ap K h c S) (k : But S H H') : Ds K H' h c := by
  obtain ⟨p, m, r, ns, p0, e1, e2, l2⟩ := d
  have e1' := k _ _ e1 fun z => a.1 h z rfl
  by_cases hc : c ∈ S
  · obtain ⟨ns', l', st⟩ := a.2 hc
    exact ⟨p, m, r, ns', p0, e1', st H', l'⟩
  · refine ⟨p, m, r, ns, p0, e1', ?_, l2⟩
    rcases e2 with (e2 | ⟨o, e2⟩) | e2
    · exact .inl (.inl (k _ _ e2 hc))
    · exact .inl (.inr ⟨o, k _ _ e2 hc⟩)
    · exact .inr e2
theorem Mx.tk (m : Mx S H) (k : But S H H') : TK K H H' := by
  intro a ws e
  rcases e with (e | ⟨u, e⟩) | e
  · refine .inl (.inl (k _ _ e fun z => ?_))
    rcases m a z _ e with ⟨_, e⟩ | ⟨_, e⟩ | ⟨_, _, _, e⟩ <;> cases e
  · refine .inl (.inr ⟨u, k _ _ e fun z => ?_⟩)
    rcases m a z _ e with ⟨_, e⟩ | ⟨_, e⟩ | ⟨_, _, _, e⟩ <;> cases e
  · exact .inr e
theorem Mx.tabG (m : Mx S H) (k : But S H H') {P : Addr} (t : GxR.TabG H P) : GxR.TabG H' P := by
  obtain ⟨ps, e, n⟩ := t
  refine ⟨ps, k _ _ e fun z => ?_, n⟩
  rcases m P z _ e with ⟨_, e⟩ | ⟨_, e⟩ | ⟨_, _, _, e⟩ <;> cases e
theorem Mx.tabs (m : Mx S H) (k : But S H H') {T : List (Addr × Str)} (t : Tabs T H) : Tabs T H' := fun p hp => by
  obtain ⟨ps, h1, h2, h3⟩ := t p hp
  refine ⟨ps, k _ _ h1 fun z => ?_, h2, fun pos cv hc => ?_⟩
  · rcases m _ z _ h1 with ⟨_, e⟩ | ⟨_, e⟩ | ⟨_, _, _, e⟩ <;> cases e
  · obtain ⟨c, e1, e2⟩ := h3 pos cv hc
    refine ⟨c, e1, k _ _ e2 fun z => ?_⟩
    unfold CodeO at e2
    rcases m _ z _ e2 with ⟨_, e⟩ | ⟨_, e⟩ | ⟨_, _, _, e⟩ <;> cases e
/-- another table changes -/
theorem tabs_tbl {T : List (Addr × Str)} {P : Addr} (t : Tabs T H) (tg : GxR.TabG H P) (n : ∀ p ∈ T, p.1 ≠ P) (k : But [P] H H') : Tabs T H' := fun p hp => by
  obtain ⟨ps, h1, h2, h3⟩ := t p hp
  refine ⟨ps, k _ _ h1 fun z => n p hp (List.mem_singleton.mp z), h2, fun pos cv hc => ?_⟩
  obtain ⟨c, e1, e2⟩ := h3 pos cv hc
  refine ⟨c, e1, k _ _ e2 fun z => ?_⟩
  obtain ⟨qs, e, _⟩ := tg
  rw [List.mem_singleton.mp z, e] at e2
  unfold CodeO at e2
  cases e2
theorem tabG_tbl {P P' : Addr} (t : GxR.TabG H P') (n : P' ≠ P) (k : But [P] H H') : GxR.TabG H' P' := t.elim fun ps e => ⟨ps, k _ _ e.1 fun z => n (List.mem_singleton.mp z), e.2⟩
theorem Tabs.tg {T : List (Addr × Str)} {P : Addr} {q : Str} (t : Tabs T H) (m : (P, q) ∈ T) : GxR.TabG H P := by
  obtain ⟨ps, h1, h2, _⟩ := t _ m
  exact ⟨ps, h1, h2⟩
variable {w pl pa bl : Addr} {ls : List Addr} {L : List (Int × Int)} {co : Ct} {es : List Ct}
theorem PastV.butT {vs : List V} (h : PastV K H vs es ls) (k : But S H H') (t : TK K H H') (n : ∀ l ∈ ls, l ∉ S) : PastV K H' vs es ls := by
  induction h with
  | nil => exact .nil
  | cons e h1 h2 h3 _ ih => exact .cons e (t _ _ h1) (k _ _ h2 (n _ List.mem_cons_self)) (h3.tk t) (ih fun l hl => n l (List.mem_cons_of_mem _ hl))
theorem MoA.butT (m : MoA K H w pl pa bl ls L co es) (k : But S H H') (t : TK K H H') (nw : w ∉ S) (n : ∀ l ∈ pl :: pa :: bl :: ls, l ∉ S) : MoA K H' w pl pa bl ls L co es := by
  obtain ⟨h1, ⟨ws, h2, h3⟩, ⟨us, h4, h5⟩, ⟨vs, h6, h7⟩, h8⟩ := m
  exact ⟨k _ _ h1 nw, ⟨ws, k _ _ h2 (n _ (by simp)), h3.tk t⟩, ⟨us, k _ _ h4 (n _ (by simp)), h5.tk t⟩, ⟨vs, k _ _ h6 (n _ (by simp)), h7.butT k t fun l hl => n l (by simp [hl])⟩, h8⟩
end
/-- what stays all along -/
structure Fx where
  h : Addr
  c : Addr
  x : Addr
  El : Addr
  t : Addr
  p : Addr
  w : Addr
  pl : Addr
  pa : Addr
  tv : Addr
  L : List (Int × Int)
  ln : Int
  dv : V
  ov : V
  ds : List Int
/-- the model's content c1, the wallet's c2 -/
structure St5 (K : PySem.W.Frag) (C CT CW CV Pt : Addr) (T : List (Addr × Str)) (F : Fx) (bl : Addr) (ls : List Addr) (c1 : Ct) (e1 : List Ct) (c2 : Ct) (e2 : List Ct) (H : Hp) : Prop where
  d : Ds K H F.h F.c
  mo : MoA K H F.w F.pl F.pa bl ls F.L c1 e1
  wl : WlA K C CT CW H F.x F.El F.t F.p F.L c2 e2
  tv : Tv K CV H F.tv F.ln F.dv F.ov F.ds []
  tx : F.tv ≠ F.x
  ap : Ap K F.h F.c (F.w :: F.x :: F.El :: F.pl :: F.pa :: bl :: ls)
  el : F.El ∉ F.pl :: F.pa :: bl :: ls
  tg : GxR.TabG H Pt
  tb : Tabs T H
section
variable {K : PySem.W.Frag} {C CT CW CV Pt : Addr} {T : List (Addr × Str)} {F : Fx} {bl : Addr} {ls : List Addr} {c1 c2 c' : Ct} {e1 e2 e' : List Ct} {H H' : Hp}
theorem St5.same (s : St5 K C CT CW CV Pt T F bl ls c1 e1 c2 e2 H) (e : Same H H') : St5 K C CT CW CV Pt T F bl ls c1 e1 c2 e2 H' :=
  ⟨s.d.same e, s.mo.same e, s.wl.same e, s.tv.same e, s.tx, s.ap, s.el, TabG.same s.tg e, tabs_same s.tb e⟩
theorem St5.wh (s : St5 K C CT CW CV Pt T F bl ls c1 e1 c2 e2 H) : F.w ≠ F.x ∧ F.w ≠ F.El ∧ ∀ a ∈ F.pl :: F.pa :: bl :: ls, a ≠ F.x := by
  obtain ⟨⟨dx, t, co, h1⟩, as, h2⟩ := s.wl.own
  refine ⟨fun z => ?_, fun z => ?_, fun a ha z => ?_⟩
  · have := s.mo.iw
    rw [z, h1] at this
    cases this
  · have := s.mo.iw
    rw [z, h2] at this
    cases this
  · obtain ⟨xs, e⟩ := s.mo.own a ha
    rw [z, h1] at e
    cases e
/-- a draw -/
theorem St5.draw (s : St5 K C CT CW CV Pt T F bl ls c1 e1 c2 e2 H) (k : Kh F.h H H') (d : Ds K H' F.h F.c) : St5 K C CT CW CV Pt T F bl ls c1 e1 c2 e2 H' := by
  have b : But [F.h] H H' := fun a o e n => k a o e fun z => n (List.mem_singleton.mpr z)
  obtain ⟨p, m, r, ns, _, eh, _⟩ := id s.d
  have mx : Mx [F.h] H := fun a ha o e => by
    rw [List.mem_singleton.mp ha, eh] at e
    cases e
    exact .inl ⟨_, rfl⟩
  have mu : Mu [F.h] H := fun a ha => by
    rw [List.mem_singleton.mp ha]
    exact .inl ⟨_, eh⟩
  have nh : ∀ a ∈ F.w :: F.x :: F.El :: F.pl :: F.pa :: bl :: ls, a ∉ [F.h] := fun a ha z => s.ap.1 a ha (List.mem_singleton.mp z)
  refine ⟨d, s.mo.butT b (mx.tk b) (nh _ (by simp)) fun a ha => nh a (List.mem_cons_of_mem _ (List.mem_cons_of_mem _ (List.mem_cons_of_mem _ ha))), s.wl.but b mu (nh _ (by simp)), ?_, s.tx, s.ap, s.el, mx.tabG b s.tg, mx.tabs b s.tb⟩
  obtain ⟨⟨dx, hx⟩, h1, h2⟩ := s.tv
  refine ⟨⟨dx, b.ins mu hx⟩, h1.tk (mx.tk b), h2.tk (mx.tk b)⟩
/-- the wallet changes -/
theorem St5.wal (s : St5 K C CT CW CV Pt T F bl ls c1 e1 c2 e2 H) (k : But [F.x, F.El] H H') (wl : WlA K C CT CW H' F.x F.El F.t F.p F.L c' e') : St5 K C CT CW CV Pt T F bl ls c1 e1 c' e' H' := by
  obtain ⟨n1, n2, n3⟩ := s.wh
  obtain ⟨⟨dx, t, co, h1⟩, as, h2⟩ := s.wl.own
  have mx : Mx [F.x, F.El] H := fun a ha o e => by
    simp only [List.mem_cons, List.not_mem_nil, or_false] at ha
    rcases ha with rfl | rfl
    · rw [h1] at e
      cases e
      exact .inr (.inr ⟨_, _, _, rfl⟩)
    · rw [h2] at e
      cases e
      exact .inl ⟨_, rfl⟩
  have two : ∀ {a}, a ≠ F.x → a ≠ F.El → a ∉ [F.x, F.El] := fun p q z => by
    simp only [List.mem_cons, List.not_mem_nil, or_false] at z
    exact z.elim p q
  refine ⟨s.d.but (s.ap.sub fun b hb => ?_) k, s.mo.butT k (mx.tk k) (two n1 n2) fun a ha => two (n3 a ha) fun z => s.el (z ▸ ha), wl, ?_, s.tx, s.ap, s.el, mx.tabG k s.tg, mx.tabs k s.tb⟩
  · simp only [List.mem_cons, List.not_mem_nil, or_false] at hb ⊢
    rcases hb with rfl | rfl <;> simp
  · obtain ⟨⟨dx', hx⟩, g1, g2⟩ := s.tv
    refine ⟨⟨dx', k _ _ hx (two s.tx fun z => ?_)⟩, g1.tk (mx.tk k), g2.tk (mx.tk k)⟩
    rw [z, h2] at hx
    cases hx
/-- the model changes -/
theorem St5.mod {bl' : Addr} {ls' S : List Addr} (s : St5 K C CT CW CV Pt T F bl ls c1 e1 c2 e2 H) (k : But S H H') (hS : ∀ b ∈ S, b ∈ F.w :: F.pa :: bl :: ls) (mo : MoA K H' F.w F.pl F.pa bl' ls' F.L c' e') (hn : ∀ a ∈ bl' :: ls', a ∈ bl :: ls ∨ H a = none) : St5 K C CT CW CV Pt T F bl' ls' c' e' c2 e2 H' := by
  obtain ⟨n1, n2, n3⟩ := s.wh
  obtain ⟨⟨dx, t, co, h1⟩, as, h2⟩ := s.wl.own
  have kd : ∀ b ∈ S, (∃ xs, H b = some (.lst xs)) ∨ (∃ kvs, H b = some (.dK kvs)) := fun b hb => by
    have := hS b hb
    rw [List.mem_cons] at this
    rcases this with rfl | this
    · exact .inr ⟨_, s.mo.iw⟩
    · exact .inl (s.mo.own b (List.mem_cons_of_mem _ this))
  have mx : Mx S H := fun a ha o e => by
    rcases kd a ha with ⟨xs, e2⟩ | ⟨kvs, e2⟩ <;> rw [e2] at e <;> cases e
    · exact .inl ⟨_, rfl⟩
    · exact .inr (.inl ⟨_, rfl⟩)
  have mu : Mu S H := fun a ha => (kd a ha).elim .inl fun z => .inr (.inl z)
  have sub : ∀ b ∈ S, b ∈ F.w :: F.x :: F.El :: F.pl :: F.pa :: bl :: ls := fun b hb => by
    have := hS b hb
    simp only [List.mem_cons] at this ⊢
    rcases this with z | z | z | z
    · exact .inl z
    · exact .inr (.inr (.inr (.inr (.inl z))))
    · exact .inr (.inr (.inr (.inr (.inr (.inl z)))))
    · exact .inr (.inr (.inr (.inr (.inr (.inr z)))))
  have nE : F.El ∉ S := fun z => by
    have := hS _ z
    rw [List.mem_cons] at this
    exact this.elim (fun z => n2 z.symm) fun z => s.el (List.mem_cons_of_mem _ z)
  refine ⟨s.d.but (s.ap.sub sub) k, mo, s.wl.but k mu nE, ?_, s.tx, ?_, ?_, mx.tabG k s.tg, mx.tabs k s.tb⟩
  · obtain ⟨⟨dx', hx⟩, g1, g2⟩ := s.tv
    exact ⟨⟨dx', k.ins mu hx⟩, g1.tk (mx.tk k), g2.tk (mx.tk k)⟩
  · have one : ∀ a ∈ bl' :: ls', Ap K F.h F.c [a] := fun a ha => (hn a ha).elim (fun z => s.ap.sub fun b hb => by
      rw [List.mem_singleton.mp hb]
      simp only [List.mem_cons] at z ⊢
      rcases z with z | z
      · exact .inr (.inr (.inr (.inr (.inr (.inl z)))))
      · exact .inr (.inr (.inr (.inr (.inr (.inr z)))))) fun z => Ap.new s.d z
    have all : Ap K F.h F.c (bl' :: ls') := ⟨fun b hb => (one b hb).1 b (by simp), fun hc => (one _ hc).2 (by simp)⟩
    have five : Ap K F.h F.c [F.w, F.x, F.El, F.pl, F.pa] := s.ap.sub fun b hb => by
      simp only [List.mem_cons, List.not_mem_nil, or_false] at hb ⊢
      rcases hb with z | z | z | z | z
      · exact .inl z
      · exact .inr (.inl z)
      · exact .inr (.inr (.inl z))
      · exact .inr (.inr (.inr (.inl z)))
      · exact .inr (.inr (.inr (.inr (.inl z))))
    exact five.app all
  · intro z
    rw [List.mem_cons, List.mem_cons] at z
    rcases z with z | z | z
    · exact s.el (by rw [z]; simp)
    · exact s.el (by rw [z]; simp)
    · rcases hn _ z with y | y
      · exact s.el (List.mem_cons_of_mem _ (List.mem_cons_of_mem _ y))
      · rw [h2] at y
        cases y
/-- the generator's table grows -/
theorem St5.tbl (s : St5 K C CT CW CV Pt T F bl ls c1 e1 c2 e2 H) (n : ∀ p ∈ T, p.1 ≠ Pt) (k : But [Pt] H H') (tg : GxR.TabG H' Pt) : St5 K C CT CW CV Pt T F bl ls c1 e1 c2 e2 H' := by
  have e := k.extN s.tg
  have mu : Mu [Pt] H := fun b hb => by
    rw [List.mem_singleton.mp hb]
    exact s.tg.elim fun ps z => .inr (.inr (.inl ⟨ps, z.1⟩))
  have nt : ∀ {a o}, H a = some o → (∀ ps, o ≠ .tbl ps) → a ∉ [Pt] := fun h z y => by
    rw [List.mem_singleton.mp y] at h
    obtain ⟨ps, e, _⟩ := s.tg
    rw [h] at e
    cases e
    exact z _ rfl
  obtain ⟨p, m, r, ns, p0, eh, ec, l⟩ := id s.d
  refine ⟨⟨p, m, r, ns, p0, e _ _ eh (fun ps z => by cases z), ?_, l⟩, s.mo.butT k (.extN e) (nt s.mo.iw (fun ps z => by cases z)) (fun a ha => by
    obtain ⟨xs, z⟩ := s.mo.own a ha
    exact nt z (fun ps z => by cases z)), s.wl.extN e, ?_, s.tx, s.ap, s.el, tg, tabs_tbl s.tb s.tg n k⟩
  · exact ec.elim (fun z => .inl (z.elim (fun z => .inl (e _ _ z fun ps z => (by cases z))) fun ⟨o, z⟩ => .inr ⟨o, e _ _ z fun ps z => (by cases z)⟩)) .inr
  · obtain ⟨⟨dx', hx⟩, g1, g2⟩ := s.tv
    exact ⟨⟨dx', e _ _ hx (fun ps z => by cases z)⟩, g1.tk (.extN e), g2.tk (.extN e)⟩
/-- a lambda is made -/
theorem St5.lam {P : Addr} {q : Str} (s : St5 K C CT CW CV Pt T F bl ls c1 e1 c2 e2 H) (m : (P, q) ∈ T) (n : P ≠ Pt) (k : But [P] H H') (e : ExtN H H') (tb : Tabs T H') : St5 K C CT CW CV Pt T F bl ls c1 e1 c2 e2 H' := by
  have tgP : GxR.TabG H P := Tabs.tg s.tb m
  have nt : ∀ {a o}, H a = some o → (∀ ps, o ≠ .tbl ps) → a ∉ [P] := fun h z y => by
    rw [List.mem_singleton.mp y] at h
    obtain ⟨ps, e, _⟩ := tgP
    rw [h] at e
    cases e
    exact z _ rfl
  obtain ⟨p, m, r, ns, p0, eh, ec, l⟩ := id s.d
  refine ⟨⟨p, m, r, ns, p0, e _ _ eh (fun ps z => by cases z), ?_, l⟩, s.mo.butT k (.extN e) (nt s.mo.iw (fun ps z => by cases z)) (fun a ha => by
    obtain ⟨xs, z⟩ := s.mo.own a ha
    exact nt z (fun ps z => by cases z)), s.wl.extN e, ?_, s.tx, s.ap, s.el, tabG_tbl s.tg (Ne.symm n) k, tb⟩
  · exact ec.elim (fun z => .inl (z.elim (fun z => .inl (e _ _ z fun ps z => (by cases z))) fun ⟨o, z⟩ => .inr ⟨o, e _ _ z fun ps z => (by cases z)⟩)) .inr
  · obtain ⟨⟨dx', hx⟩, g1, g2⟩ := s.tv
    exact ⟨⟨dx', e _ _ hx (fun ps z => by cases z)⟩, g1.tk (.extN e), g2.tk (.extN e)⟩
end
end Sea

set_option Elab.async false
set_option linter.all false
set_option maxRecDepth 100000
set_option maxHeartbeats 4000000
/-! _law_step: its lambdas, its promise -/
namespace Sea
open PySem PySem.Spec PyProof.Rows L2 LamX NdefX ClX Evl StX
abbrev NStp : List Str := ["_law_state", "_law_w", "_law_shutet", "_law_travel", "_law_branch", "_law_index", "_law_count", "_law_travels", "_law_expected"]
theorem scStp : FnScope NStp ["_law_state", "_law_w", "_law_shutet", "_law_travel"] (defScope sStp) := ⟨rfl, rfl, rfl, by decide +kernel, rfl, by decide +kernel, by decide +kernel⟩
def retE5 : Stmt → Expr
  | .Return (some e) _ => e
  | _ => noE
def mkF (q : Str) (e : Expr) (cl : List (Str × Addr)) (c : Addr) (dV : Value) : LF := ⟨q, lamP e, lamB e, lamS e, cl, c, dV⟩
def qStp : Str := (envOfC "_law_step" (defScope sStp) 0 0 .none).qual ++ "<lambda>"
def stpB : List Stmt := defBody sStp
abbrev lamBy : Expr := callA (callA (retE5 ((ifB (stpB.getD 3 noS)).getD 0 noS)))
abbrev lamPd : Expr := callA (callA (retE5 ((ifB (stpB.getD 4 noS)).getD 0 noS)))
abbrev lamPs : Expr := callA (callA (retE5 ((ifB (stpB.getD 5 noS)).getD 2 noS)))
abbrev fBy5 : List Str := ["_law_shutet", "_law_index"]
abbrev fPd5 : List Str := ["_law_shutet", "_law_travels"]
abbrev fPs5 : List Str := ["_law_shutet", "_law_travel", "_law_count"]
theorem scLBy : NScope fBy5 [] fBy5 (lamS lamBy) := nscope_by (by decide +kernel)
theorem scLPd : NScope ("_law_a" :: fPd5) ["_law_a"] fPd5 (lamS lamPd) := nscope_by (by decide +kernel)
theorem scLPs : NScope ("_law_b" :: fPs5) ["_law_b"] fPs5 (lamS lamPs) := nscope_by (by decide +kernel)
theorem hfBy : ∀ y ∈ (lamS lamBy).names, y.2 = .free → (defScope sStp).names.lookup y.1 = some .cell ∨ (defScope sStp).names.lookup y.1 = some .free := by decide +kernel
theorem hfPd : ∀ y ∈ (lamS lamPd).names, y.2 = .free → (defScope sStp).names.lookup y.1 = some .cell ∨ (defScope sStp).names.lookup y.1 = some .free := by decide +kernel
theorem hfPs : ∀ y ∈ (lamS lamPs).names, y.2 = .free → (defScope sStp).names.lookup y.1 = some .cell ∨ (defScope sStp).names.lookup y.1 = some .free := by decide +kernel
theorem hrBy : ∀ y ∈ fBy5, (y, NameKind.free) ∈ (lamS lamBy).names := by decide +kernel
theorem hrPd : ∀ y ∈ fPd5, (y, NameKind.free) ∈ (lamS lamPd).names := by decide +kernel
theorem hrPs : ∀ y ∈ fPs5, (y, NameKind.free) ∈ (lamS lamPs).names := by decide +kernel
def tsBy (K : PySem.W.Frag) (C CT CW cU : Addr) : TSp := fun ws H Q E => ∃ (x dx : Addr) (fs : List (Str × V)) (i : Int), ws = [some (.ref x), some (.int i)] ∧ H x = some (.ins CW dx fs) ∧ fs.lookup ("buy" : Str) = none ∧ spBy K C CT CW cU [.ref x, .int i] H Q E
def tsPd (K : PySem.W.Frag) (C CT CW cN cNp : Addr) : TSp := fun ws H Q E => ∃ (x dx : Addr) (fs : List (Str × V)) (b : Bool), ws = [some (.ref x), some (.bl b)] ∧ H x = some (.ins CW dx fs) ∧ fs.lookup ("pass_day" : Str) = none ∧ spPd K C CT CW cN cNp [.ref x, .bl b] H Q E
def tsPs (K : PySem.W.Frag) (C CT CW CV cN cNp : Addr) : TSp := fun ws H Q E => ∃ (x dx tv : Addr) (fs : List (Str × V)) (n : Int), ws = [some (.ref x), some (.ref tv), some (.int n)] ∧ H x = some (.ins CW dx fs) ∧ fs.lookup ("pass_days" : Str) = none ∧ spPs K C CT CW CV cN cNp [.ref x, .ref tv, .int n] H Q E
section
variable {P : Program} {w : World} {K : PySem.W.Frag} {mg : Str → Option Value} {base : Heap} {f c t : Addr} {cl : List (Str × Addr)} {C CV cI cU fI fP pP CT CW cN cNp cP fCt fWi fVC fVP fVN fNp fTd pTd fSp pSp fPu pPu fIc pIc fRe fBy fPd fPs fUn fTo fItd : Addr} {mc mp mq : Value} {fdP dCt dWi dVC dVP dVN dNp dTd dSp dPu dIc dRe dBy dPd dPs dUn dTo dItd : FuncData}
theorem lokBy (TW : TW K mg CT CW cN cNp cP fCt fWi fVC fVP fNp dCt dWi dVC dVP dNp mq) (M : TWm K CW fTd pTd fSp pSp fPu pPu fIc pIc fRe fBy fPd fPs fUn dTd dSp dPu dIc dRe dBy dPd dPs dUn) (TX : TX K mg C cI cU cP fI mc mp) (TQ : TP K C fP pP fdP) : LOk P w K mg base (L2.CX P w) 5 f (mkF qStp lamBy cl c .none) fBy5 (tsBy K C CT CW cU) := by
  have bBy : Binds K dBy ["self", "index"] [] := M.uBy.binds (ps := ["self", "index"]) fun _ _ _ _ _ _ us hl => match us, hl with | [_, _], _ => rfl
  refine lok_of0 (k := 4) scLBy (fun _ _ _ => rfl) fun A outer s H ws Q E hr hl h => ?_
  obtain ⟨x, dx, fs, i, rfl, hx, hf, q⟩ := h
  exact ⟨_, pe_meth (E := E) (pv 0) TW.clW M.mBy (ok_by (C := C) (k := 0) TW M TX TQ) (hr.mono (by omega)) bBy .nil (passes_call (takes_of rfl rfl rfl rfl) (fun _ _ _ _ h => h)) (pa_cons (pv 1) pa_nil), ⟨_, rfl, x, dx, fs, rfl, hx, hf, _, rfl, q⟩⟩
theorem lokPd (TW : TW K mg CT CW cN cNp cP fCt fWi fVC fVP fNp dCt dWi dVC dVP dNp mq) (M : TWm K CW fTd pTd fSp pSp fPu pPu fIc pIc fRe fBy fPd fPs fUn dTd dSp dPu dIc dRe dBy dPd dPs dUn) : LOk P w K mg base (L2.CX P w) 5 f (mkF qStp lamPd cl c (.ref t)) fPd5 (tsPd K C CT CW cN cNp) := by
  have bPd : Binds K dPd ["self", "travels"] [] := M.uPd.binds (ps := ["self", "travels"]) fun _ _ _ _ _ _ us hl => match us, hl with | [_, _], _ => rfl
  refine lok_ofD (k := 4) (a := "_law_a") (t := t) scLPd rfl (fun _ _ _ => ⟨_, rfl, fun _ => rfl⟩) fun A outer s H ws Q E d hr hl h => ?_
  obtain ⟨x, dx, fs, i, rfl, hx, hf, q⟩ := h
  exact ⟨_, pe_meth (E := E) (pv 1) TW.clW M.mPd (ok_pd (C := C) (k := 0) TW M) (hr.mono (by omega)) bPd .nil (passes_call (takes_of rfl rfl rfl rfl) (fun _ _ _ _ h => h)) (pa_cons (pv 2) pa_nil), ⟨_, rfl, x, dx, fs, rfl, hx, hf, _, rfl, q⟩⟩
theorem lokPs (TW : TW K mg CT CW cN cNp cP fCt fWi fVC fVP fNp dCt dWi dVC dVP dNp mq) (M : TWm K CW fTd pTd fSp pSp fPu pPu fIc pIc fRe fBy fPd fPs fUn dTd dSp dPu dIc dRe dBy dPd dPs dUn) (TV : TTv K mg CV fVN dVN) (Y : TTd K mg CV fTo fItd dTo dItd) : LOk P w K mg base (L2.CX P w) 5 f (mkF qStp lamPs cl c (.ref t)) fPs5 (tsPs K C CT CW CV cN cNp) := by
  have bPs : Binds K dPs ["self", "travel", "count"] [] := M.uPs.binds (ps := ["self", "travel", "count"]) fun _ _ _ _ _ _ us hl => match us, hl with | [_, _, _], _ => rfl
  refine lok_ofD (k := 4) (a := "_law_b") (t := t) scLPs rfl (fun _ _ _ => ⟨_, rfl, fun _ => rfl⟩) fun A outer s H ws Q E d hr hl h => ?_
  obtain ⟨x, dx, tv, fs, i, rfl, hx, hf, q⟩ := h
  exact ⟨_, pe_meth (E := E) (pv 1) TW.clW M.mPs (ok_ps (C := C) (k := 0) TW M TV Y) (hr.mono (by omega)) bPs .nil (passes_call (takes_of rfl rfl rfl rfl) (fun _ _ _ _ h => h)) (pa_cons (pv 2) (pa_cons (pv 3) pa_nil)), ⟨_, rfl, x, dx, fs, rfl, hx, hf, _, rfl, _, rfl, q⟩⟩
end
/-- contents after at most n steps -/
structure Wd (L : List (Int × Int)) (n : Nat) (c : Ct) (es : List Ct) : Prop where
  ok : Ok45 L c
  oks : ∀ e ∈ es, Ok45 L e
  lc : c.bt.length ≤ n
  le : es.length ≤ n
  ls : ∀ e ∈ es, e.bt.length ≤ n
section
variable {L : List (Int × Int)} {n : Nat} {c c' : Ct} {es : List Ct}
theorem Wd.keep (h : Wd L n c es) : Wd L (n + 1) c es := ⟨h.ok, h.oks, Nat.le_succ_of_le h.lc, Nat.le_succ_of_le h.le, fun e he => Nat.le_succ_of_le (h.ls e he)⟩
theorem Wd.more (h : Wd L n c es) (k : Ok45 L c') (l : c'.bt.length ≤ n + 1) : Wd L (n + 1) c' (es ++ [c]) := by
  refine ⟨k, fun e he => ?_, l, ?_, fun e he => ?_⟩
  · rcases List.mem_append.mp he with z | z
    · exact h.oks e z
    · rw [List.mem_singleton.mp z]
      exact h.ok
  · rw [List.length_append]
    exact Nat.succ_le_succ h.le
  · rcases List.mem_append.mp he with z | z
    · exact Nat.le_succ_of_le (h.ls e z)
    · rw [List.mem_singleton.mp z]
      exact Nat.le_succ_of_le h.lc
theorem Wd.undo (h : Wd L n c (es ++ [c'])) : Wd L (n + 1) c' es := by
  refine ⟨h.oks c' (by simp), fun e he => h.oks e (List.mem_append_left _ he), Nat.le_succ_of_le (h.ls c' (by simp)), ?_, fun e he => Nat.le_succ_of_le (h.ls e (List.mem_append_left _ he))⟩
  have := h.le
  rw [List.length_append] at this
  have h1 : [c'].length = 1 := rfl
  omega
theorem Wd.buy (h : Wd L n c es) {i : Nat} {z : Int × Int} (hz : L[i]? = some z) (z1 : 1 ≤ z.1) : Wd L (n + 1) (byC c i z) (es ++ [c]) := h.more (h.ok.by_ hz z1).1 (by
  show (c.bt ++ [_]).length ≤ n + 1
  rw [List.length_append]
  exact Nat.succ_le_succ h.lc)
theorem Wd.day (h : Wd L n c es) {d : Int} (h0 : c.day ≤ d) (h1 : d ≤ 1000000000000000000) : Wd L (n + 1) (dayC c d) (es ++ [c]) := h.more (h.ok.day h0 h1) (Nat.le_succ_of_le h.lc)
end
theorem smU (z : Str) : SmD 1 (.tuple [.str z]) := .tup (fun i d h => by
  match i, h with
  | 0, h => cases h; exact .str 0 z) (show 1 ≤ 1000 by decide)
theorem smI (z : Str) (k : Int) : SmD 1 (.tuple [.str z, .int k]) := .tup (fun i d h => by
  match i, h with
  | 0, h => cases h; exact .str 0 z
  | 1, h => cases h; exact .int 0 k) (show 2 ≤ 1000 by decide)
structure FxOk (F : Fx) : Prop where
  l1 : 1 ≤ F.ln
  n1 : 1 ≤ F.L.length
  n3 : F.L.length ≤ 3
  ps : ∀ z ∈ F.L, 1 ≤ z.1
/-- a step: the wallet and its model answer alike and stay alike -/
def spStp (K : PySem.W.Frag) (C CT CW CV Pt : Addr) (T : List (Addr × Str)) : Sp := fun vs H Q _ => ∃ (F : Fx) (bl : Addr) (ls : List Addr) (c : Ct) (es : List Ct) (n : Nat), vs = [.ref F.h, .ref F.w, .ref F.x, .ref F.tv] ∧ St5 K C CT CW CV Pt T F bl ls c es c es H ∧ Wd F.L n c es ∧ FxOk F ∧ n ≤ 900 ∧
  ∀ bl' ls' c' es' H', St5 K C CT CW CV Pt T F bl' ls' c' es' c' es' H' → Wd F.L (n + 1) c' es' → Q (.bl true) H'
end Sea

set_option Elab.async false
set_option linter.all false
set_option maxRecDepth 100000
set_option maxHeartbeats 4000000
/-! _law_step -/
namespace Sea
open PySem PySem.Spec PyProof.Rows L2 LamX NdefX ClX Evl StX
/-- the defs that a step calls -/
structure TStp (K : PySem.W.Frag) (mg : Str → Option Value) (fOu fBu fMd fMs fMu : Addr) (dOu dBu dMd dMs dMu : FuncData) : Prop where
  uOu : Fun K "_law_outcome" "_law_outcome" sOut fOu dOu
  gOu : mg "_law_outcome" = some (.ref fOu)
  kOu : PySem.W.keepIn K (.ref fOu) = true
  uBu : Fun K "_law_buy" "_law_buy" sBu fBu dBu
  gBu : mg "_law_buy" = some (.ref fBu)
  kBu : PySem.W.keepIn K (.ref fBu) = true
  uMd : Fun K "_law_pass_day" "_law_pass_day" sMd fMd dMd
  gMd : mg "_law_pass_day" = some (.ref fMd)
  kMd : PySem.W.keepIn K (.ref fMd) = true
  uMs : Fun K "_law_pass_days" "_law_pass_days" sMs fMs dMs
  gMs : mg "_law_pass_days" = some (.ref fMs)
  kMs : PySem.W.keepIn K (.ref fMs) = true
  uMu : Fun K "_law_undo" "_law_undo" sMu fMu dMu
  gMu : mg "_law_undo" = some (.ref fMu)
  kMu : PySem.W.keepIn K (.ref fMu) = true
theorem dr_in {K : PySem.W.Frag} {σ : L2.St} {H : Hp} {Q : VK} {te : TE} {i : Nat} {h c : Addr} {lim : Int} (hs : σ[i]? = some (some (.ref h))) (he : Ev te σ H (.int lim)) (l0 : 0 < lim) (lg : lim.natAbs.log2 < 9000) (d : Ds K H h c) (k : ∀ v H2, 0 ≤ v → v < lim → Ds K H2 h c → Kh h H H2 → Q (.int v) H2) :
    tCall (spDrawn K) [] E0 (tCons (tVar i) (tCons te tNil)) σ H Q := ⟨_, hs, he H (Ex.refl _) _ fun H1 e1 => ⟨h, c, lim, rfl, l0, lg, d.same e1, fun v H2 v0 v1 d2 k2 => k v H2 v0 v1 d2 ((Kh.same e1).trans k2)⟩⟩
section
variable {P : Program} {w : World} {K : PySem.W.Frag} {mg : Str → Option Value} {base : Heap} {C CV cI cU fI fP pP CT CW cN cNp cIo cP fCt fWi fVC fVP fVN fNp fTd pTd fSp pSp fPu pPu fIc pIc fRe fBy fPd fPs fUn fTo fItd fCv fKe fSm fOu fBu fMd fMs fMu fD Ps Pt : Addr} {mc mp mq : Value} {fdP dCt dWi dVC dVP dVN dNp dTd dSp dPu dIc dRe dBy dPd dPs dUn dTo dItd dCv dKe dSm dOu dBu dMd dMs dMu fdD : FuncData}
theorem ok_stp {T : List (Addr × Str)} {f cc : Addr} {oc kV doc pm ct : Value} {od an : Option Addr} {osl : Array (Option Value)} (lk : K.lookup f = some ⟨oc, od, .func (PySem.W.fnOf "_law_step" "_law_step" (defArgs sStp) (defBody sStp) (defScope sStp) .none kV doc pm an (.ref cc) ct), osl⟩)
    (hcd : PySem.W.codeIn K (.ref cc) "_law_step" = true) (TB : TabB base mg cc Ps) (hTm : (Ps, qStp) ∈ T) (hTu : ∀ p ∈ T, p.1 = Ps → p.2 = qStp) (nP : Ps ≠ Pt) (DN : TDn K mg fD fdD) (SM : TSm K mg fSm dSm) (TO : TOu K mg cN cIo cNp cU) (TS : TStp K mg fOu fBu fMd fMs fMu dOu dBu dMd dMs dMu) (TM : TMo K mg fCv fKe dCv dKe)
    (TW : TW K mg CT CW cN cNp cP fCt fWi fVC fVP fNp dCt dWi dVC dVP dNp mq) (M : TWm K CW fTd pTd fSp pSp fPu pPu fIc pIc fRe fBy fPd fPs fUn dTd dSp dPu dIc dRe dBy dPd dPs dUn) (TX : TX K mg C cI cU cP fI mc mp) (TQ : TP K C fP pP fdP) (TV : TTv K mg CV fVN dVN) (Y : TTd K mg CV fTo fItd dTo dItd) :
    FnOk P w K mg base CX0 7 f (PySem.W.fnOf "_law_step" "_law_step" (defArgs sStp) (defBody sStp) (defScope sStp) .none kV doc pm an (.ref cc) ct) ["_law_state", "_law_w", "_law_shutet", "_law_travel"] (spStp K C CT CW CV Pt T) := by
  have bSm : Binds K dSm ["_law_result", "_law_expected"] [] := SM.fu.binds (ps := ["_law_result", "_law_expected"]) fun _ _ _ _ _ _ us hl => match us, hl with | [_, _], _ => rfl
  have bBu : Binds K dBu ["_law_w", "_law_index"] [] := TS.uBu.binds (ps := ["_law_w", "_law_index"]) fun _ _ _ _ _ _ us hl => match us, hl with | [_, _], _ => rfl
  have bMd : Binds K dMd ["_law_w", "_law_travels"] [] := TS.uMd.binds (ps := ["_law_w", "_law_travels"]) fun _ _ _ _ _ _ us hl => match us, hl with | [_, _], _ => rfl
  have bMs : Binds K dMs ["_law_w", "_law_travel", "_law_count"] [] := TS.uMs.binds (ps := ["_law_w", "_law_travel", "_law_count"]) fun _ _ _ _ _ _ us hl => match us, hl with | [_, _, _], _ => rfl
  have bMu : Binds K dMu ["_law_w"] [] := TS.uMu.binds (ps := ["_law_w"]) fun _ _ _ _ _ _ us hl => match us, hl with | [_], _ => rfl
  have bUn : Binds K dUn ["self"] [] := M.uUn.binds (ps := ["self"]) fun _ _ _ _ _ _ us hl => match us, hl with | [_], _ => rfl
  refine fn_of (N := NStp) lk hcd scStp (fun vs H Q E h => ?_) (fun A outer s H vs Q E hr h => ?_)
  · obtain ⟨F, bl, ls, c, es, n, rfl, _⟩ := h
    rfl
  · have hu := hr.units
    have hu1 : (A.deeper (envOfC "_law_step" (defScope sStp) s.heap.objs.size f (.ref cc))).units + 1 < cLine := by
      have := hr.un
      omega
    have h1 := hr.mono (show 1 ≤ 6 by decide)
    have h6 := hr.mono (show 6 ≤ 6 by decide)
    obtain ⟨F, bl, ls, c, es, n, rfl, s0, wd, fx, few, q⟩ := h
    suffices hh : ∃ t, PSs (cxOf CX0 P w K mg base NStp "_law_step" (defScope sStp) f (.ref cc) A outer s H E).nox (defBody sStp) t ∧ t { nx := fun _ H' => Q .non H', rt := Q } (start NStp [.ref F.h, .ref F.w, .ref F.x, .ref F.tv]) H by
      obtain ⟨t, ht, hq⟩ := hh
      exact ⟨t, ht.nox, hq⟩
    refine ⟨_, (pss_cut (ps_set (i := 4) scStp.nd rfl (.inl rfl) (pe_dr DN h1 (by rfl) (pv 0) pe_int))
      (pss_cut (ps_asg (pe_tup (pa_cons (pe_op op_sub (pe_dr DN h1 (by rfl) (pv 0) (pe_op op_add (pe_callB call_len_seq (by rfl) TM.mN PySem.boot_len (pa_cons (pe_dgetK hu1 (pv 1)) pa_nil)) pe_int)) (pe_callTy call_int1 (by rfl) TM.mI (by rfl) (pa_cons (pe_cmpR op_eq (pe_dr DN h1 (by rfl) (pv 0) pe_int) pe_int (nomark _)) pa_nil))) (pa_cons (pe_dr DN h1 (by rfl) (pv 0) pe_int) pa_nil))) (pg_tup rfl (pgs_cons (pg_name (i := 5) scStp.nd rfl (.inr rfl)) (pgs_cons (pg_name (i := 6) scStp.nd rfl (.inr rfl)) pgs_nil))))
      (pss_cut (ps_set (i := 7) scStp.nd rfl (.inr rfl) (pe_cmpR op_eq (pe_dr DN h1 (by rfl) (pv 0) pe_int) pe_int (nomark _)))
      (pss_cut (ps_if (pt_cmpR op_lt (pv 4) pe_int (nomark _)) (pss_one (ps_ret (pe_call (E := E0) (ok_sm SM 3) (hr.mono (by omega)) (by rfl) SM.g SM.kp bSm .nil pass0 (pa_cons (pe_give (ok_out TS.uOu TO (Nat.le_refl 5)) rfl h6 (by rfl) TS.gOu TS.kOu (pe_lamVB (T := T) TB rfl hTm hTu hfBy)) (pa_cons (pe_call (E := E0) (ok_bu (k := 0) TS.uBu TM) (hr.mono (by omega)) (by rfl) TS.gBu TS.kBu bBu .nil pass0 (pa_cons (pv 1) (pa_cons (pv 5) pa_nil))) pa_nil))))) pss_nil)
      (pss_cut (ps_if (pt_cmpR op_lt (pv 4) pe_int (nomark _)) (pss_one (ps_ret (pe_call (E := E0) (ok_sm SM 3) (hr.mono (by omega)) (by rfl) SM.g SM.kp bSm .nil pass0 (pa_cons (pe_give (ok_out TS.uOu TO (Nat.le_refl 5)) rfl h6 (by rfl) TS.gOu TS.kOu (pe_lamDB (T := T) TB rfl hTm hTu hfPd rfl rfl)) (pa_cons (pe_call (E := E0) (ok_md (k := 0) TS.uMd TM) (hr.mono (by omega)) (by rfl) TS.gMd TS.kMd bMd .nil pass0 (pa_cons (pv 1) (pa_cons (pv 7) pa_nil))) pa_nil))))) pss_nil)
      (pss_cut (ps_if (pt_cmpR op_lt (pv 4) pe_int (nomark _)) (pss_cut (ps_set (i := 6) scStp.nd rfl (.inr rfl) (pe_ixl (pe_lst (pa_cons (pv 6) (pa_cons (pe_op op_sub pe_int pe_int) (pa_cons pe_int pa_nil)))) (pe_callB (call_max2 rfl) (by rfl) TM.mX (by decide +kernel) (pa_cons pe_int (pa_cons (pe_op op_sub (pe_dr DN h1 (by rfl) (pv 0) pe_int) pe_int) pa_nil)))))
        (pss_cut (ps_set (i := 8) scStp.nd rfl (.inl rfl) (pe_call (E := E0) (ok_ms (k := 0) TS.uMs TM TW TV Y) (hr.mono (by omega)) (by rfl) TS.gMs TS.kMs bMs .nil pass0 (pa_cons (pv 1) (pa_cons (pv 3) (pa_cons (pv 6) pa_nil)))))
        (pss_one (ps_ret (pe_call (E := E0) (ok_sm SM 3) (hr.mono (by omega)) (by rfl) SM.g SM.kp bSm .nil pass0 (pa_cons (pe_give (ok_out TS.uOu TO (Nat.le_refl 5)) rfl h6 (by rfl) TS.gOu TS.kOu (pe_lamDB (T := T) TB rfl hTm hTu hfPs rfl rfl)) (pa_cons (pv 8) pa_nil))))))) pss_nil)
      (pss_one (ps_ret (pe_call (E := E0) (ok_sm SM 3) (hr.mono (by omega)) (by rfl) SM.g SM.kp bSm .nil pass0 (pa_cons (pe_meth0 (E := E0) (pv 2) TW.clW M.mUn (ok_un (C := C) (k := 0) TW M) (hr.mono (by omega)) bUn .nil pass0) (pa_cons (pe_call (E := E0) (ok_mu (k := 0) TS.uMu) (hr.mono (by omega)) (by rfl) TS.gMu TS.kMu bMu .nil pass0 (pa_cons (pv 1) pa_nil)) pa_nil))))))))))), ?_⟩
    have n3 := fx.n3
    have wle := wd.le
    have wlc := wd.lc
    have ltz : ∀ {n : Nat}, n ≤ 1000 → n ≤ sizeLine := fun h => Nat.le_of_lt (small1000 h)
    refine ⟨fun σ H' => ∃ b : Int, σ = ([some (.ref F.h), some (.ref F.w), some (.ref F.x), some (.ref F.tv), some (.int b), none, none, none, none] : L2.St) ∧ St5 K C CT CW CV Pt T F bl ls c es c es H', ?_, ?_⟩
    · exact dr_in rfl ev_c (by decide) (by decide +kernel) s0.d fun v H1 v0 v1 d1 k1 => ⟨v, rfl, s0.draw k1 d1⟩
    clear s0
    rintro σ H1 ⟨b, rfl, s1⟩
    refine ⟨fun σ H' => ∃ i n : Int, σ = ([some (.ref F.h), some (.ref F.w), some (.ref F.x), some (.ref F.tv), some (.int b), some (.int i), some (.int n), none, none] : L2.St) ∧ St5 K C CT CW CV Pt T F bl ls c es c es H', ?_, ?_⟩
    · obtain ⟨wp, hp, pp⟩ := s1.mo.ip
      have lp := pp.len
      refine dr_in (lim := (wp.length : Int) + 1) rfl (ev_op (ev_lenE (s1.mo.dw (te := tVar 1) (ev_var rfl)).1 (.inl (.inl hp))) ev_c (rv_I0 (g := fun i j => .int (i + j)))) (by omega) (Nat.lt_of_le_of_lt (Nat.log2_le_self _) (by omega)) s1.d fun j H2 j0 j1 d2 k2 => dr_in rfl ev_c (by decide) (by decide +kernel) d2 fun v H3 v0 v1 d3 k3 => ?_
      have s3 := (s1.draw k2 d2).draw k3 d3
      refine ⟨rfl, .inr ⟨_, rfl, j, _, rfl, rfl, ?_⟩⟩
      exact dr_in rfl ev_c (by decide) (by decide +kernel) d3 fun n H4 n0 n1 d4 k4 => ⟨ltz (show 2 ≤ 1000 by decide), fun p np => ⟨p, _, rfl, .of upd_same, rfl, _, _, rfl, _, _, rfl, rfl, _, _, rfl, (s3.draw k4 d4).same (same_new np)⟩⟩
    clear s1
    rintro σ H2 ⟨i, n0, rfl, s2⟩
    refine ⟨fun σ H' => ∃ tr : Bool, σ = ([some (.ref F.h), some (.ref F.w), some (.ref F.x), some (.ref F.tv), some (.int b), some (.int i), some (.int n0), some (.bl tr), none] : L2.St) ∧ St5 K C CT CW CV Pt T F bl ls c es c es H', ?_, ?_⟩
    · exact dr_in rfl ev_c (by decide) (by decide +kernel) s2.d fun v H3 v0 v1 d3 k3 => ⟨rfl, _, rfl, s2.draw k3 d3⟩
    clear s2
    rintro σ H3 ⟨tr, rfl, s3⟩
    -- a purchase
    refine ⟨fun σ H' => σ = ([some (.ref F.h), some (.ref F.w), some (.ref F.x), some (.ref F.tv), some (.int b), some (.int i), some (.int n0), some (.bl tr), none] : L2.St) ∧ St5 K C CT CW CV Pt T F bl ls c es c es H', ?_, ?_⟩
    · refine s_when (b := decide (b < 3)) (et_test (ev_op (ev_var rfl) ev_c (rv_I0 (g := fun i j => .bl (decide (i < j)))))) (fun _ H4 e4 => ?_) (fun _ H4 e4 => ⟨rfl, s3.same e4⟩)
      have s4 := s3.same e4
      refine ⟨s4.tb, fun f1 c1 H5 bu5 eN5 T5 nf hf hc => ⟨f1, _, fBy5, [2, 5], _, rfl, lokBy TW M TX TQ, hf, hc, (fun t z => by cases z), (fun ok => Caps.made ok hfBy hrBy rfl), ?_⟩⟩
      have s5 := s4.lam hTm nP bu5 eN5 T5
      obtain ⟨⟨dx, co, hx, _⟩, _⟩ := id s5.wl
      refine ⟨F.x, dx, _, i, rfl, hx, rfl, F.x, F.El, F.t, F.p, F.L, c, es, i, rfl, s5.wl, by omega, by omega, by omega, fun k z hk hz H6 k6 wl6 => ?_, fun nn H6 e6 => .inr (.inr (.inr ⟨rfl, fun r H7 e7 nr hr => ?_⟩))⟩
      · have s6 := s5.wal k6 wl6
        have hkl := (List.getElem?_eq_some_iff.mp hz).1
        refine ⟨_, rfl, _, rfl, F.w, F.pl, F.pa, bl, ls, F.L, c, es, i, rfl, s6.mo, wd.ok, by omega, by omega, by omega, fx.ps, fun nn => absurd ⟨by omega, by omega⟩ nn, fun k' z' hk' hz' l H7 nl k7 mo7 => ?_⟩
        obtain rfl : k = k' := by omega
        obtain rfl : z = z' := Option.some.inj (hz.symm.trans hz')
        subst hk
        have s7 := s6.mod k7 (by simp) mo7 (by
          intro a ha
          simp only [List.mem_cons, List.mem_append, List.not_mem_nil, or_false] at ha ⊢
          rcases ha with z | z | z
          · exact .inl (.inl z)
          · exact .inl (.inr z)
          · exact .inr (z ▸ nl))
        exact ⟨0, _, _, .int _, by decide, rfl, .int _, .int _, .int 0 _, fun H8 e8 => q _ _ _ _ H8 (s7.same e8) (wd.buy hz (fx.ps z (List.mem_of_getElem? hz)))⟩
      · have s7 := (s5.same e6).same e7
        refine ⟨_, rfl, _, rfl, F.w, F.pl, F.pa, bl, ls, F.L, c, es, i, rfl, s7.mo, wd.ok, by omega, by omega, by omega, fx.ps, fun _ r' H8 e8 hr' => ?_, fun k z hk hz => absurd ⟨by omega, by have := (List.getElem?_eq_some_iff.mp hz).1; omega⟩ nn⟩
        exact ⟨1, .ref r, .ref r', .tuple [.str "UnknownPass"], by decide, rfl, .tup (.of (e8 _ _ hr)) (.cons (.str _) .nil), .tup (.of hr') (.cons (.str _) .nil), smU _, fun H9 e9 => q bl ls c es H9 ((s7.same e8).same e9) wd.keep⟩
    clear s3
    rintro σ H3 ⟨rfl, s3⟩
    -- a day
    refine ⟨fun σ H' => σ = ([some (.ref F.h), some (.ref F.w), some (.ref F.x), some (.ref F.tv), some (.int b), some (.int i), some (.int n0), some (.bl tr), none] : L2.St) ∧ St5 K C CT CW CV Pt T F bl ls c es c es H', ?_, ?_⟩
    · refine s_when (b := decide (b < 5)) (et_test (ev_op (ev_var rfl) ev_c (rv_I0 (g := fun i j => .bl (decide (i < j)))))) (fun _ H4 e4 => ?_) (fun _ H4 e4 => ⟨rfl, s3.same e4⟩)
      have s4 := s3.same e4
      refine ⟨s4.tb, fun f1 c1 t1 H5 bu5 eN5 T5 nf nt ht hf hc => ⟨f1, _, fPd5, [2, 7], _, rfl, lokPd (C := C) TW M, hf, hc, (fun t z => by cases z; exact ⟨_, ht⟩), (fun ok => Caps.made ok hfPd hrPd rfl), ?_⟩⟩
      have s5 := s4.lam hTm nP bu5 eN5 T5
      obtain ⟨⟨dx, co, hx, _⟩, _⟩ := id s5.wl
      refine ⟨F.x, dx, _, tr, rfl, hx, rfl, F.x, F.El, F.t, F.p, F.L, c, es, tr, rfl, s5.wl, by omega, fun n1 n2 H6 k6 wl6 => ?_, fun n1 n2 H6 e6 => .inl ⟨rfl, fun r H7 e7 nr hr => ?_⟩, fun n1 n2 dd H6 e6 hd => .inr (.inr (.inl ⟨rfl, dd, c.day, rfl, hd, fun r H7 e7 nr hr => ?_⟩))⟩
      · have s6 := s5.wal k6 wl6
        refine ⟨_, rfl, _, rfl, F.w, F.pl, F.pa, bl, ls, F.L, c, es, tr, rfl, s6.mo, wd.ok, by omega, by omega, fun m1 m2 => absurd ⟨m1, m2⟩ n1, fun _ m2 => absurd m2 n2, fun _ _ l H7 nl k7 mo7 => ?_⟩
        have s7 := s6.mod k7 (by simp) mo7 (by
          intro a ha
          simp only [List.mem_cons, List.mem_append, List.not_mem_nil, or_false] at ha ⊢
          rcases ha with z | z | z
          · exact .inl (.inl z)
          · exact .inl (.inr z)
          · exact .inr (z ▸ nl))
        exact ⟨0, _, _, .int _, by decide, rfl, .int _, .int _, .int 0 _, fun H8 e8 => q _ _ _ _ H8 (s7.same e8) (wd.day (by omega) (by have := wd.ok.d1; omega))⟩
      · have s7 := (s5.same e6).same e7
        refine ⟨_, rfl, _, rfl, F.w, F.pl, F.pa, bl, ls, F.L, c, es, tr, rfl, s7.mo, wd.ok, by omega, by omega, fun m1 m2 => absurd ⟨m1, m2⟩ n1, fun _ _ r' H8 e8 hr' => ?_, fun _ m2 => absurd n2 m2⟩
        exact ⟨1, .ref r, .ref r', .tuple [.str "InvalidCount"], by decide, rfl, .tup (.of (e8 _ _ hr)) (.cons (.str _) .nil), .tup (.of hr') (.cons (.str _) .nil), smU _, fun H9 e9 => q bl ls c es H9 ((s7.same e8).same e9) wd.keep⟩
      · have s7 := (s5.same e6).same e7
        refine ⟨_, rfl, _, rfl, F.w, F.pl, F.pa, bl, ls, F.L, c, es, tr, rfl, s7.mo, wd.ok, by omega, by omega, fun _ _ r' H8 e8 hr' => ?_, fun m1 => absurd ⟨n1, n2⟩ m1, fun m1 => absurd ⟨n1, n2⟩ m1⟩
        exact ⟨1, .ref r, .ref r', .tuple [.str "NoPass", .int c.day], by decide, rfl, .tup (.of (e8 _ _ hr)) (.cons (.str _) (.cons (.int _) .nil)), .tup (.of hr') (.cons (.str _) (.cons (.int _) .nil)), smI _ _, fun H9 e9 => q bl ls c es H9 ((s7.same e8).same e9) wd.keep⟩
    clear s3
    rintro σ H3 ⟨rfl, s3⟩
    -- days
    refine ⟨fun σ H' => σ = ([some (.ref F.h), some (.ref F.w), some (.ref F.x), some (.ref F.tv), some (.int b), some (.int i), some (.int n0), some (.bl tr), none] : L2.St) ∧ St5 K C CT CW CV Pt T F bl ls c es c es H', ?_, ?_⟩
    · refine s_when (b := decide (b < 7)) (et_test (ev_op (ev_var rfl) ev_c (rv_I0 (g := fun i j => .bl (decide (i < j)))))) (fun _ H4 e4 => ?_) (fun _ H4 e4 => ⟨rfl, s3.same e4⟩)
      have s4 := s3.same e4
      refine ⟨fun σ H' => ∃ m : Int, σ = ([some (.ref F.h), some (.ref F.w), some (.ref F.x), some (.ref F.tv), some (.int b), some (.int i), some (.int m), some (.bl tr), none] : L2.St) ∧ St5 K C CT CW CV Pt T F bl ls c es c es H', ?_, ?_⟩
      · refine ⟨_, rfl, _, _, rfl, rfl, ltz (show 3 ≤ 1000 by decide), fun p np => ?_⟩
        have e5 : Same H4 (upd H4 p (.lst [.int n0, .int (-1), .int 10001])) := same_new np
        have hp : (upd H4 p (.lst [.int n0, .int (-1), .int 10001])) p = some (.lst [.int n0, .int (-1), .int 10001]) := upd_same
        have s5 := s4.same e5
        have nh := s4.d.nh np
        refine dr_in rfl ev_c (by decide) (by decide +kernel) s5.d fun j H6 j0 j1 d6 k6 => ⟨j, 6, rfl, rfl, 0, j - 6, rfl, ?_⟩
        obtain ⟨m, hm, _⟩ := pick3 n0 (-1) 10001 (if j - 6 > 0 then j - 6 else 0) (by split <;> omega) (by split <;> omega)
        exact ⟨p, _, _, .int m, rfl, rfl, .of (k6 _ _ hp nh), hm, m, rfl, s5.draw k6 d6⟩
      clear s4
      rintro σ H4 ⟨m, rfl, s4⟩
      refine ⟨fun σ H' => ∃ (e : V) (bl' : Addr) (ls' : List Addr) (c' : Ct) (es' : List Ct), σ = ([some (.ref F.h), some (.ref F.w), some (.ref F.x), some (.ref F.tv), some (.int b), some (.int i), some (.int m), some (.bl tr), some e] : L2.St) ∧ St5 K C CT CW CV Pt T F bl' ls' c' es' c es H' ∧
          ((¬ (0 ≤ m ∧ m ≤ psMax c) ∧ c' = c ∧ es' = es ∧ ∃ r, e = .ref r ∧ H' r = some (.tup [.str "InvalidCount"])) ∨
           (0 ≤ m ∧ m ≤ psMax c ∧ c' = c ∧ es' = es ∧ ∃ (j : Nat) (r : Addr), (j : Int) < m ∧ (∀ i : Nat, i < j → ¬ badD F.ln F.ds c i) ∧ badD F.ln F.ds c j ∧ e = .ref r ∧ H' r = some (.tup [.str "NoPass", .int (c.day + j)])) ∨
           (0 ≤ m ∧ m ≤ psMax c ∧ (∀ j : Nat, (j : Int) < m → ¬ badD F.ln F.ds c j) ∧ e = .int (c.day + m) ∧ c' = dayC c (c.day + m) ∧ es' = es ++ [c])), ?_, ?_⟩
      · refine ⟨_, rfl, _, rfl, _, rfl, F.w, F.pl, F.pa, bl, F.tv, ls, F.L, c, es, m, F.ln, F.dv, F.ov, F.ds, rfl, s4.mo, wd.ok, by omega, by omega, s4.tv, fx.l1, fun nn r H5 e5 hr => ?_, fun m0 m1 j hj hall hbad r H5 e5 hr => ?_, fun m0 m1 hall l H5 nl k5 mo5 => ?_⟩
        · exact ⟨_, bl, ls, c, es, rfl, s4.same e5, .inl ⟨nn, rfl, rfl, r, rfl, hr⟩⟩
        · exact ⟨_, bl, ls, c, es, rfl, s4.same e5, .inr (.inl ⟨m0, m1, rfl, rfl, j, r, hj, hall, hbad, rfl, hr⟩)⟩
        · refine ⟨_, bl, ls ++ [l], _, _, rfl, s4.mod k5 (by simp) mo5 ?_, .inr (.inr ⟨m0, m1, hall, rfl, rfl, rfl⟩)⟩
          intro a ha
          simp only [List.mem_cons, List.mem_append, List.not_mem_nil, or_false] at ha ⊢
          rcases ha with z | z | z
          · exact .inl (.inl z)
          · exact .inl (.inr z)
          · exact .inr (z ▸ nl)
      clear s4
      rintro σ H4 ⟨e, bl', ls', c', es', rfl, s4, hres⟩
      refine ⟨s4.tb, fun f1 c1 t1 H5 bu5 eN5 T5 nf nt ht hf hc => ⟨f1, _, fPs5, [2, 3, 6], _, rfl, lokPs (C := C) TW M TV Y, hf, hc, (fun t z => by cases z; exact ⟨_, ht⟩), (fun ok => Caps.made ok hfPs hrPs rfl), ?_⟩⟩
      have s5 := s4.lam hTm nP bu5 eN5 T5
      obtain ⟨⟨dx, co, hx, _⟩, _⟩ := id s5.wl
      have d0 := wd.ok.d0
      have d1 := wd.ok.d1
      have pmx : psMax c ≤ 1000000000000000000 - c.day := by
        unfold psMax
        split <;> omega
      refine ⟨F.x, dx, F.tv, _, m, rfl, hx, rfl, F.x, F.El, F.t, F.p, F.tv, F.L, c, es, m, F.ln, F.dv, F.ov, F.ds, rfl, s5.wl, s5.tv, fx.l1, by omega, d0, d1, fun nn H6 e6 => .inl ⟨rfl, fun r H7 e7 nr hr => ?_⟩, fun m0 m1 hall H6 k6 wl6 => ?_, fun m0 m1 j hj hall hb1 hb2 dd H6 e6 hd => .inr (.inr (.inl ⟨rfl, dd, _, rfl, hd, fun r H7 e7 nr hr => ?_⟩))⟩
      · have s7 := (s5.same e6).same e7
        rcases hres with ⟨_, rfl, rfl, r', rfl, hr'⟩ | ⟨m0, m1, _⟩ | ⟨m0, m1, _⟩
        · have h7 := e7 _ _ (e6 _ _ (eN5 _ _ hr' (fun ps z => by cases z)))
          exact ⟨_, rfl, 1, .ref r, .ref r', .tuple [.str "InvalidCount"], by decide, rfl, .tup (.of hr) (.cons (.str _) .nil), .tup (.of h7) (.cons (.str _) .nil), smU _, fun H9 e9 => q bl' ls' _ _ H9 (s7.same e9) wd.keep⟩
        · exact absurd ⟨m0, m1⟩ nn
        · exact absurd ⟨m0, m1⟩ nn
      · have s6 := s5.wal k6 wl6
        rcases hres with ⟨nn, _⟩ | ⟨_, _, _, _, j, r, hj, _, hbad, _⟩ | ⟨_, _, _, rfl, rfl, rfl⟩
        · exact absurd ⟨m0, m1⟩ nn
        · exact absurd hbad (hall j hj)
        · exact ⟨_, rfl, 0, _, _, .int _, by decide, rfl, .int _, .int _, .int 0 _, fun H8 e8 => q _ _ _ _ H8 (s6.same e8) (wd.day (by omega) (by omega))⟩
      · have s7 := (s5.same e6).same e7
        rcases hres with ⟨nn, _⟩ | ⟨_, _, rfl, rfl, j', r', hj', hall', hbad', rfl, hr'⟩ | ⟨_, _, hno, _⟩
        · exact absurd ⟨m0, m1⟩ nn
        · obtain rfl : j = j' := by
            rcases Nat.lt_trichotomy j j' with z | z | z
            · exact absurd ⟨hb1, hb2⟩ (hall' j z)
            · exact z
            · exact absurd hbad' (hall j' z)
          have h7 := e7 _ _ (e6 _ _ (eN5 _ _ hr' (fun ps z => by cases z)))
          exact ⟨_, rfl, 1, .ref r, .ref r', .tuple [.str "NoPass", .int (c'.day + j)], by decide, rfl, .tup (.of hr) (.cons (.str _) (.cons (.int _) .nil)), .tup (.of h7) (.cons (.str _) (.cons (.int _) .nil)), smI _ _, fun H9 e9 => q bl' ls' _ _ H9 (s7.same e9) wd.keep⟩
        · exact absurd ⟨hb1, hb2⟩ (hno j hj)
    clear s3
    rintro σ H3 ⟨rfl, s3⟩
    -- back
    obtain ⟨⟨dx, co, hx, _⟩, _⟩ := id s3.wl
    refine ⟨_, rfl, F.x, dx, _, rfl, hx, rfl, F.x, F.El, F.t, F.p, F.L, c, es, rfl, s3.wl, by omega, fun he H4 e4 => ?_, fun es' c' he H4 k4 wl4 => ?_⟩
    · have s4 := s3.same e4
      refine ⟨_, rfl, F.w, F.pl, F.pa, bl, ls, F.L, c, es, rfl, s4.mo, fun _ H5 e5 => ?_, fun es' c' ls' l he' => ?_⟩
      · exact ⟨0, _, _, .bool false, by decide, rfl, .bl _, .bl _, .bl 0 _, fun H8 e8 => q _ _ _ _ H8 ((s4.same e5).same e8) wd.keep⟩
      · rw [he] at he'
        simp at he'
    · have s4 := s3.wal k4 wl4
      refine ⟨_, rfl, F.w, F.pl, F.pa, bl, ls, F.L, c, es, rfl, s4.mo, fun he' => ?_, fun es2 c2 ls' l he' hl H5 k5 mo5 => ?_⟩
      · rw [he] at he'
        simp at he'
      · obtain ⟨rfl, h2⟩ := List.append_inj' (he.symm.trans he') rfl
        obtain rfl : c' = c2 := by simpa using h2
        have s5 := s4.mod k5 (by simp) mo5 (by
          intro a ha
          rw [hl]
          simp only [List.mem_cons, List.mem_append, List.not_mem_nil, or_false] at ha ⊢
          rcases ha with z | z
          · exact .inl (.inr (.inr z))
          · exact .inl (.inr (.inl z)))
        exact ⟨0, _, _, .bool true, by decide, rfl, .bl _, .bl _, .bl 0 _, fun H8 e8 => q _ _ _ _ H8 (s5.same e8) (Wd.undo (he ▸ wd))⟩
end
end Sea

set_option Elab.async false
set_option linter.all false
set_option maxRecDepth 100000
set_option maxHeartbeats 4000000
/-! lists of lambdas whose outcomes are known, one by one -/
namespace Sea
open PySem PySem.Spec PyProof.Rows L2 LamX NdefX ClX Evl StX
/-- kept: all but tables and lists -/
def KN (H H' : Hp) : Prop := ∀ b o, H b = some o → (∀ ps, o ≠ .tbl ps) → (∀ xs, o ≠ .lst xs) → H' b = some o
theorem KN.refl (H : Hp) : KN H H := fun _ _ e _ _ => e
theorem KN.trans {H H1 H2 : Hp} (a : KN H H1) (b : KN H1 H2) : KN H H2 := fun x o e n m => b x o (a x o e n m) n m
theorem KN.ex {H H' : Hp} (e : Ex H H') : KN H H' := fun b o h _ _ => e b o h
theorem KN.extN {H H' : Hp} (e : ExtN H H') : KN H H' := fun b o h n _ => e b o h n
theorem KN.put {H : Hp} {D : Addr} {xs ys : List V} (h : H D = some (.lst xs)) : KN H (upd H D (.lst ys)) := fun b o e _ m => by
  rw [upd_ne (fun z => by rw [z, h] at e; cases e; exact m _ rfl)]
  exact e
theorem KN.tk {K : PySem.W.Frag} {H H' : Hp} (k : KN H H') : TK K H H' := fun a xs h => by
  rcases h with (h | ⟨o, h⟩) | h
  · exact .inl (.inl (k _ _ h (fun ps z => by cases z) (fun ys z => by cases z)))
  · exact .inl (.inr ⟨o, k _ _ h (fun ps z => by cases z) (fun ys z => by cases z)⟩)
  · exact .inr h
theorem Tar.kn {K : PySem.W.Frag} {C t p : Addr} {L : List (Int × Int)} {H H' : Hp} (h : Tar K C H t p L) (k : KN H H') : Tar K C H' t p L := by
  obtain ⟨⟨dx, h1⟩, h2⟩ := h
  exact ⟨⟨dx, k _ _ h1 (fun ps z => by cases z) (fun ys z => by cases z)⟩, h2.tk k.tk⟩
/-- the lambda F stands at f, with its code object and its defaults -/
structure LamHere (H : Hp) (f : Addr) (F : LF) : Prop where
  f : H f = some (LamO f F)
  c : H F.c = some (CodeO F.c F.qual)
  d : DvOk F H
theorem LamHere.kn {H H' : Hp} {f : Addr} {F : LF} (l : LamHere H f F) (k : KN H H') : LamHere H' f F :=
  ⟨k _ _ l.f lam_ne (fun xs z => by unfold LamO Stands at z; cases z), k _ _ l.c code_ne (fun xs z => by unfold CodeO at z; cases z), fun t ht => let ⟨d, h⟩ := l.d t ht; ⟨d, k _ _ h (fun ps z => by cases z) (fun xs z => by cases z)⟩⟩
structure Ready (X : Cx) (j : Nat) (fr : List Str) (js : List Nat) (lsp : TSp) (F : LF) : Prop where
  ok : ∀ f, LOk X.prog X.w X.K X.mg X.base (L2.CX X.prog X.w) j f F fr lsp
  cp : X.Ok → Caps X F.cl fr js
def EvLam (te : TE) (σ : L2.St) (T : List (Addr × Str)) (R : LF → Prop) : Prop := ∀ (H : Hp) (Q : VK), Tabs T H → (∀ f F H1, ExtN H H1 → Tabs T H1 → H f = none → R F → LamHere H1 f F → Q (.ref f) H1) → te σ H Q
section
variable {X : Cx} {T : List (Addr × Str)} {σ : L2.St} {j : Nat} {fr : List Str} {js : List Nat} {lsp : TSp}
theorem evlam_V {mk : Addr → LF} (dv : ∀ c, (mk c).dV = .none) (cc : ∀ c, (mk c).c = c) (R : ∀ c, Ready X j fr js lsp (mk c)) : EvLam (tLamV T mk) σ T (Ready X j fr js lsp) := fun H Q hT q => by
  refine ⟨hT, fun f c H1 e T1 nf hf hc => q f (mk c) H1 e T1 nf (R c) ⟨hf, by rw [cc c]; exact hc, fun t z => ?_⟩⟩
  rw [dv c] at z
  cases z
theorem evlam_D {i : Int} {mk : Addr → Addr → LF} (dv : ∀ c t, (mk c t).dV = .ref t) (cc : ∀ c t, (mk c t).c = c) (R : ∀ c t, Ready X j fr js lsp (mk c t)) : EvLam (tLamD T i mk) σ T (Ready X j fr js lsp) := fun H Q hT q => by
  refine ⟨hT, fun f c t H1 e T1 nf nt ht hf hc => q f (mk c t) H1 e T1 nf (R c t) ⟨hf, by rw [cc c t]; exact hc, fun t' z => ?_⟩⟩
  rw [dv c t] at z
  cases z
  exact ⟨i, ht⟩
end
/-- a thunk whose outcome is the tuple out -/
def Ans (X : Cx) (j : Nat) (cN cIo cNp cU : Addr) (sl : L2.St → Prop) (out : List V) (H : Hp) (v : V) : Prop := ∃ (f : Addr) (F : LF) (fr : List Str) (js : List Nat) (lsp : TSp) (ws : List (Option V)), v = .ref f ∧ Ready X j fr js lsp F ∧ LamHere H f F ∧ (∀ σ, sl σ → js.map (slotAt σ) = ws) ∧
  ∀ (H' : Hp) (Q : VK) (E : XK), KN H H' → (∀ r H2, Same H' H2 → H2 r = some (.tup out) → Q (.ref r) H2) → spOut cN cIo cNp cU (lsp ws) H' Q E
/-- one by one -/
inductive AnsL (X : Cx) (j : Nat) (cN cIo cNp cU : Addr) (sl : L2.St → Prop) (H : Hp) : List V → List (List V) → Prop
  | nil : AnsL X j cN cIo cNp cU sl H [] []
  | cons {v : V} {out : List V} {vs : List V} {os : List (List V)} : Ans X j cN cIo cNp cU sl out H v → AnsL X j cN cIo cNp cU sl H vs os → AnsL X j cN cIo cNp cU sl H (v :: vs) (out :: os)
/-- tuples that hold these -/
inductive OutL (H : Hp) : List V → List (List V) → Prop
  | nil : OutL H [] []
  | cons {p : Addr} {out : List V} {vs : List V} {os : List (List V)} : H p = some (.tup out) → OutL H vs os → OutL H (.ref p :: vs) (out :: os)
section
variable {X : Cx} {j : Nat} {cN cIo cNp cU : Addr} {sl sl' : L2.St → Prop} {out : List V} {σ : L2.St} {T : List (Addr × Str)} {H H' : Hp} {v : V} {vs : List V} {os : List (List V)}
theorem Ans.kn (h : Ans X j cN cIo cNp cU sl out H v) (k : KN H H') : Ans X j cN cIo cNp cU sl out H' v := by
  obtain ⟨f, F, fr, js, lsp, ws, e, r, l, s, q⟩ := h
  exact ⟨f, F, fr, js, lsp, ws, e, r, l.kn k, s, fun H2 Q E k2 => q H2 Q E (k.trans k2)⟩
theorem Ans.imp (h : Ans X j cN cIo cNp cU sl out H v) (i : ∀ σ, sl' σ → sl σ) : Ans X j cN cIo cNp cU sl' out H v := by
  obtain ⟨f, F, fr, js, lsp, ws, e, r, l, s, q⟩ := h
  exact ⟨f, F, fr, js, lsp, ws, e, r, l, fun σ z => s σ (i σ z), q⟩
theorem AnsL.kn (h : AnsL X j cN cIo cNp cU sl H vs os) (k : KN H H') : AnsL X j cN cIo cNp cU sl H' vs os := by
  induction h with
  | nil => exact .nil
  | cons a _ ih => exact .cons (a.kn k) ih
theorem AnsL.imp (h : AnsL X j cN cIo cNp cU sl H vs os) (i : ∀ σ, sl' σ → sl σ) : AnsL X j cN cIo cNp cU sl' H vs os := by
  induction h with
  | nil => exact .nil
  | cons a _ ih => exact .cons (a.imp i) ih
theorem AnsL.snoc (h : AnsL X j cN cIo cNp cU sl H vs os) (a : Ans X j cN cIo cNp cU sl out H v) : AnsL X j cN cIo cNp cU sl H (vs ++ [v]) (os ++ [out]) := by
  induction h with
  | nil => exact .cons a .nil
  | cons b _ ih => exact .cons b ih
theorem AnsL.len (h : AnsL X j cN cIo cNp cU sl H vs os) : vs.length = os.length := by
  induction h with
  | nil => rfl
  | cons _ _ ih => rw [List.length_cons, List.length_cons, ih]
theorem OutL.ex (h : OutL H vs os) (e : Ex H H') : OutL H' vs os := by
  induction h with
  | nil => exact .nil
  | cons a _ ih => exact .cons (e _ _ a) ih
theorem OutL.snoc {p : Addr} (h : OutL H vs os) (a : H p = some (.tup out)) : OutL H (vs ++ [.ref p]) (os ++ [out]) := by
  induction h with
  | nil => exact .cons a .nil
  | cons b _ ih => exact .cons b ih
/-- [_law_outcome(work) for work in works] -/
theorem gAll_one (hs : sl σ) {a : Addr} {xs : List V} {Q : VK} : ∀ (r acc : List V) (os0 os : List (List V)) (H : Hp), SqL X.K H a xs → AnsL X j cN cIo cNp cU sl H r os → OutL H acc os0 →
    (∀ (us : List V) (H' : Hp), Ex H H' → OutL H' us (os0 ++ os) → ∀ D, H' D = none → Q (.ref D) (upd H' D (.lst us))) →
    gAll X (L2.CX X.prog X.w) j (spOut cN cIo cNp cU) σ a xs Q r acc H
  | [], acc, os0, os, H, h, t, c, q => by
    cases t
    exact ⟨h, q acc H (Ex.refl _) (by rw [List.append_nil]; exact c)⟩
  | v :: r, acc, os0, os, H, h, t, c, q => by
    cases t with
    | @cons _ out _ os t ts =>
      obtain ⟨f, F, fr, js, lsp, ws, rfl, R, l, hw, raise⟩ := t
      refine ⟨h, f, F, fr, js, lsp, rfl, R.ok f, l.f, l.c, l.d, R.cp, ?_⟩
      rw [hw σ hs]
      refine raise H _ _ (KN.refl _) fun p H2 s2 hp => ?_
      have e : Ex H H2 := s2
      refine gAll_one hs r (acc ++ [.ref p]) (os0 ++ [out]) os H2 (ex_l e h) (ts.kn (.ex e)) ((c.ex e).snoc hp) fun us H3 e3 all => q us H3 (e.trans e3) (by rwa [List.append_assoc] at all)
end
theorem OpsV.nil {K : PySem.W.Frag} {H : Hp} : OpsV K H [] [] := ⟨rfl, fun i v o hv => by simp at hv⟩
theorem OpsV.cons {K : PySem.W.Frag} {H : Hp} {v : V} {o : Op} {vs : List V} {os : List Op} (a : OpV K H v o) (h : OpsV K H vs os) : OpsV K H (v :: vs) (o :: os) := ⟨by rw [List.length_cons, List.length_cons, h.1], fun i u q hu hq => by
  cases i with
  | zero =>
    cases hu
    cases hq
    exact a
  | succ i => exact h.2 i u q hu hq⟩
end Sea

set_option Elab.async false
set_option linter.all false
set_option maxRecDepth 100000
set_option maxHeartbeats 4000000
/-! _law_replayed: its lambdas -/
namespace Sea
open PySem PySem.Spec PyProof.Rows L2 LamX NdefX ClX Evl StX
abbrev NRpd : List Str := ["_law_tariff_here", "_law_date", "_law_shutet", "_law_works", "_law_buy_here", "_law_back", "_law_expected", "_law_work"]
theorem scRpd : FnScope NRpd ["_law_tariff_here", "_law_date"] (defScope sRpd) := ⟨rfl, rfl, rfl, by decide +kernel, rfl, by decide +kernel, by decide +kernel⟩
def qRpd : Str := (envOfC "_law_replayed" (defScope sRpd) 0 0 .none).qual ++ "<lambda>"
def rpdB : List Stmt := defBody sRpd
abbrev lamR0 : Expr := lisI 0 (asgE (rpdB.getD 2 noS))
abbrev lamR1 : Expr := lisI 1 (asgE (rpdB.getD 2 noS))
abbrev lamR2 : Expr := callA (asgE (rpdB.getD 3 noS))
abbrev lamR3 : Expr := callA (asgE (rpdB.getD 4 noS))
abbrev lamR4 : Expr := callA (asgE (rpdB.getD 6 noS))
abbrev fR : List Str := ["_law_tariff_here", "_law_date"]
abbrev fR4 : List Str := ["_law_tariff_here", "_law_date", "_law_buy_here", "_law_back"]
theorem scR0 : NScope fR [] fR (lamS lamR0) := nscope_by (by decide +kernel)
theorem scR1 : NScope ("_law_a" :: fR) ["_law_a"] fR (lamS lamR1) := nscope_by (by decide +kernel)
theorem scR2 : NScope ("_law_b" :: fR) ["_law_b"] fR (lamS lamR2) := nscope_by (by decide +kernel)
theorem scR3 : NScope ("_law_c" :: fR) ["_law_c"] fR (lamS lamR3) := nscope_by (by decide +kernel)
theorem scR4 : NScope ("_law_e" :: fR4) ["_law_e"] fR4 (lamS lamR4) := nscope_by (by decide +kernel)
theorem hfR0 : ∀ y ∈ (lamS lamR0).names, y.2 = .free → (defScope sRpd).names.lookup y.1 = some .cell ∨ (defScope sRpd).names.lookup y.1 = some .free := by decide +kernel
theorem hfR1 : ∀ y ∈ (lamS lamR1).names, y.2 = .free → (defScope sRpd).names.lookup y.1 = some .cell ∨ (defScope sRpd).names.lookup y.1 = some .free := by decide +kernel
theorem hfR2 : ∀ y ∈ (lamS lamR2).names, y.2 = .free → (defScope sRpd).names.lookup y.1 = some .cell ∨ (defScope sRpd).names.lookup y.1 = some .free := by decide +kernel
theorem hfR3 : ∀ y ∈ (lamS lamR3).names, y.2 = .free → (defScope sRpd).names.lookup y.1 = some .cell ∨ (defScope sRpd).names.lookup y.1 = some .free := by decide +kernel
theorem hfR4 : ∀ y ∈ (lamS lamR4).names, y.2 = .free → (defScope sRpd).names.lookup y.1 = some .cell ∨ (defScope sRpd).names.lookup y.1 = some .free := by decide +kernel
theorem hrR0 : ∀ y ∈ fR, (y, NameKind.free) ∈ (lamS lamR0).names := by decide +kernel
theorem hrR1 : ∀ y ∈ fR, (y, NameKind.free) ∈ (lamS lamR1).names := by decide +kernel
theorem hrR2 : ∀ y ∈ fR, (y, NameKind.free) ∈ (lamS lamR2).names := by decide +kernel
theorem hrR3 : ∀ y ∈ fR, (y, NameKind.free) ∈ (lamS lamR3).names := by decide +kernel
theorem hrR4 : ∀ y ∈ fR4, (y, NameKind.free) ∈ (lamS lamR4).names := by decide +kernel
/-- how an error is told -/
def outE : Er → List V
  | .cnt => [.str "InvalidCount"]
  | .pas => [.str "UnknownPass"]
  | .nop d => [.str "NoPass", .int d]
  | .op i => [.str "InvalidOperation", .int (i : Nat)]
def outDt : Er → List PyData
  | .cnt => [.str "InvalidCount"]
  | .pas => [.str "UnknownPass"]
  | .nop d => [.str "NoPass", .int d]
  | .op i => [.str "InvalidOperation", .int (i : Nat)]
section
variable {K : PySem.W.Frag} {C CT CW cN cU cNp cIo : Addr} {H : Hp} {Q : VK} {E : XK} {t p : Addr} {L : List (Int × Int)} {d : Int}
theorem outE_dp : ∀ e : Er, DpAll K H (outE e) (outDt e)
  | .cnt => .cons (.str _) .nil
  | .pas => .cons (.str _) .nil
  | .nop d => .cons (.str _) (.cons (.int _) .nil)
  | .op i => .cons (.str _) (.cons (.int _) .nil)
theorem outL_dp {vs : List V} : ∀ {es : List Er}, OutL H vs (es.map outE) → DpAll K H vs (es.map fun e => .tuple (outDt e)) := by
  intro es
  induction es generalizing vs with
  | nil =>
    intro h
    cases h
    exact .nil
  | cons e es ih =>
    intro h
    cases h with
    | cons a b => exact .cons (.tup (.of a) (outE_dp e)) (ih b)
/-- an outcome, whatever the error -/
theorem out_er {e : Er} (k : ∀ r H2, Same H H2 → H2 r = some (.tup (outE e)) → Q (.ref r) H2) : erX cN cU cNp cIo (fun cls d H1 =>
  (cls = .ref cN ∧ ∀ r H', Same H1 H' → H1 r = none → H' r = some (.tup [.str "InvalidCount"]) → Q (.ref r) H') ∨
  (cls = .ref cIo ∧ ∃ (dx : Addr) (i : Int), d = some dx ∧ H1 dx = some (.xd [("index", .int i)]) ∧ ∀ r H', Same H1 H' → H1 r = none → H' r = some (.tup [.str "InvalidOperation", .int i]) → Q (.ref r) H') ∨
  (cls = .ref cNp ∧ ∃ (dx : Addr) (i : Int), d = some dx ∧ H1 dx = some (.xd [("day", .int i)]) ∧ ∀ r H', Same H1 H' → H1 r = none → H' r = some (.tup [.str "NoPass", .int i]) → Q (.ref r) H') ∨
  (cls = .ref cU ∧ ∀ r H', Same H1 H' → H1 r = none → H' r = some (.tup [.str "UnknownPass"]) → Q (.ref r) H')) H e := by
  cases e with
  | cnt => exact fun H1 s1 => .inl ⟨rfl, fun r H2 s2 _ hr => k r H2 (s1.trans s2) hr⟩
  | pas => exact fun H1 s1 => .inr (.inr (.inr ⟨rfl, fun r H2 s2 _ hr => k r H2 (s1.trans s2) hr⟩))
  | nop d => exact fun dd H1 s1 hd => .inr (.inr (.inl ⟨rfl, dd, d, rfl, hd, fun r H2 s2 _ hr => k r H2 (s1.trans s2) hr⟩))
  | op i => exact fun dd H1 s1 hd => .inr (.inl ⟨rfl, dd, _, rfl, hd, fun r H2 s2 _ hr => k r H2 (s1.trans s2) hr⟩)
theorem rp_go {vs : List V} {os : List Op} (ta : Tar K C H t p L) (lL : L.length ≤ 1000) (d0 : 0 ≤ d) (d1 : d ≤ 1000000000000000000) (hv : OpsV K H vs os) (few : os.length ≤ 100) (q1 : ∀ c es, runO L 0 os (ct0 d, []) = .ok (c, es) → ∀ x El H', Same H H' → WlA K C CT CW H' x El t p L c es → Q (.ref x) H')
    (q2 : ∀ e, runO L 0 os (ct0 d, []) = .error e → erX cN cU cNp cIo E H e) : spRpS K C CT CW cN cU cNp cIo (.ref CW :: .ref t :: .int d :: vs) H Q E :=
  ⟨[.ref CW, .ref t, .int d], vs, rfl, rfl, Nat.le_of_lt (small1000 (by rw [hv.1]; omega)), fun o no => by
    have s0 := same_new (o := .tup vs) no
    exact ⟨t, p, o, L, d, vs, os, rfl, ta.same s0, lL, d0, d1, .of upd_same, hv.tk (.same s0), few, fun c es h x El H' s' wl => q1 c es h x El H' (Same.trans s0 s') wl, fun e he => (q2 e he).up s0⟩⟩
end
/-- a replay that fails -/
def tsR (K : PySem.W.Frag) (C cN cU cNp cIo : Addr) (os : List Op) : TSp := fun ws H Q E => ∃ (t p : Addr) (L : List (Int × Int)) (d : Int) (e : Er), ws = [some (.ref t), some (.int d)] ∧ Tar K C H t p L ∧ L.length ≤ 1000 ∧ 0 ≤ d ∧ d ≤ 1000000000000000000 ∧ runO L 0 os (ct0 d, []) = .error e ∧ erX cN cU cNp cIo E H e
def tsR4 (K : PySem.W.Frag) (C cN cU cNp cIo : Addr) (os : List Op) : TSp := fun ws H Q E => ∃ (t p b k : Addr) (L : List (Int × Int)) (d : Int) (e : Er), ws = [some (.ref t), some (.int d), some (.ref b), some (.ref k)] ∧ SqT K H b [.str "buy", .int 0] ∧ SqT K H k [.str "undo"] ∧ Tar K C H t p L ∧ L.length ≤ 1000 ∧ 0 ≤ d ∧ d ≤ 1000000000000000000 ∧ runO L 0 os (ct0 d, []) = .error e ∧ erX cN cU cNp cIo E H e
abbrev oR0 : List Op := [.undo, .bad]
abbrev oR1 : List Op := [.bad]
abbrev oR2 : List Op := [.buy 9, .bad]
abbrev oR3 : List Op := [.pass true]
abbrev oR4 : List Op := [.buy 0, .undo, .buy 0, .undo, .buy 0, .bad]
abbrev oRk : List Op := [.buy 0, .pass true, .buy 0, .undo, .undo]
section
variable {L : List (Int × Int)} {d : Int}
theorem runR0 : runO L 0 oR0 (ct0 d, []) = .error (.op 1) := rfl
theorem runR1 : runO L 0 oR1 (ct0 d, []) = .error (.op 0) := rfl
theorem step_buy {k : Nat} {c : Ct} {es : List Ct} (h : 1 ≤ L.length) : stepO L k (c, es) (.buy 0) = .ok (byC c 0 (L.getD 0 (0, 0)), es ++ [c]) := by
  show (if (0 : Int) ≤ 0 ∧ (0 : Int) < L.length then _ else _) = _
  rw [if_pos ⟨Int.le_refl _, by omega⟩]
  rfl
theorem runR2 (h : L.length ≤ 3) : runO L 0 oR2 (ct0 d, []) = .error .pas := by
  unfold runO
  have e : stepO L 0 (ct0 d, []) (.buy 9) = .error .pas := by
    show (if (0 : Int) ≤ 9 ∧ (9 : Int) < L.length then _ else _) = _
    rw [if_neg (by omega)]
  rw [e]
theorem runR3 : runO L 0 oR3 (ct0 d, []) = .error (.nop d) := by
  unfold runO
  have e : stepO L 0 (ct0 d, []) (.pass true) = .error (.nop d) := by
    show (if true = true ∧ (ct0 d).un ≤ (ct0 d).day then _ else _) = _
    rw [if_pos ⟨rfl, Int.le_refl _⟩]
    rfl
  rw [e]
theorem runR4 (h : 1 ≤ L.length) : runO L 0 oR4 (ct0 d, []) = .error (.op 5) := by
  unfold runO
  rw [step_buy h]
  show runO L 1 _ _ = _
  unfold runO
  show runO L 2 _ (ct0 d, []) = _
  unfold runO
  rw [step_buy h]
  show runO L 3 _ _ = _
  unfold runO
  show runO L 4 _ (ct0 d, []) = _
  unfold runO
  rw [step_buy h]
  rfl
theorem runRk (h : 1 ≤ L.length) (l1 : ∀ z ∈ L, 1 ≤ z.1) (d1 : d ≤ 100000000000000000) : ∃ z, runO L 0 oRk (ct0 d, []) = .ok (byC (ct0 d) 0 z, [ct0 d]) := by
  have hz : 1 ≤ (L.getD 0 (0, 0)).1 := by
    cases L with
    | nil => exact absurd h (by decide)
    | cons z r => exact l1 z List.mem_cons_self
  refine ⟨L.getD 0 (0, 0), ?_⟩
  generalize hL : L.getD 0 (0, 0) = z at hz
  have hb : ∀ {k : Nat} {c : Ct} {es : List Ct}, stepO L k (c, es) (.buy 0) = .ok (byC c 0 z, es ++ [c]) := fun {k c es} => by rw [step_buy h, hL]
  unfold runO
  rw [hb]
  show runO L 1 _ _ = _
  unfold runO
  have e : stepO L 1 (byC (ct0 d) 0 z, [ct0 d]) (.pass true) = .ok (dayC (byC (ct0 d) 0 z) (d + 1), [ct0 d, byC (ct0 d) 0 z]) := by
    have un : (byC (ct0 d) 0 z).un = if d + z.1 > d then d + z.1 else d := rfl
    show (if true = true ∧ (byC (ct0 d) 0 z).un ≤ d then _ else if d = 1000000000000000000 then _ else _) = _
    rw [un, if_neg (by
      intro z
      have := z.2
      split at this <;> omega), if_neg (by omega)]
    rfl
  rw [show ([] ++ [ct0 d] : List Ct) = [ct0 d] from rfl, e]
  show runO L 2 _ _ = _
  unfold runO
  rw [hb]
  show runO L 3 _ _ = _
  unfold runO
  show runO L 4 _ (dayC (byC (ct0 d) 0 z) (d + 1), [ct0 d, byC (ct0 d) 0 z]) = _
  rfl
end
section
variable {P : Program} {w : World} {K : PySem.W.Frag} {mg : Str → Option Value} {base : Heap} {f c t : Addr} {cl : List (Str × Addr)} {C CV cI cU fI fP pP CT CW cN cNp cP cIo fCt fWi fVC fVP fNp fRp pRp : Addr} {mq mcl : Value} {dCt dWi dVC dVP dNp : FuncData}
theorem lokR0 (TW : TW K mg CT CW cN cNp cP fCt fWi fVC fVP fNp dCt dWi dVC dVP dNp mq) (cr : CRead K CW mcl) (cm : CMet K CW mcl "replay" pRp fRp) (RP : FnR P w K mg base (L2.CX P w) 6 fRp (spRpS K C CT CW cN cU cNp cIo)) : LOk P w K mg base (L2.CX P w) 7 f (mkF qRpd lamR0 cl c .none) fR (tsR K C cN cU cNp cIo oR0) := by
  refine lok_of0 (k := 6) scR0 (fun _ _ _ => rfl) fun A outer s H ws Q E hr hl h => ?_
  obtain ⟨t, p, L, d, e, rfl, ta, lL, d0, d1, hrun, hE⟩ := h
  refine ⟨_, pe_cmeth (E := E) (pe_glob (v := .ref CW) (by rfl) TW.gW rfl) cr cm RP (hr.mono (by omega)) (passes_call (takes_of rfl rfl rfl rfl) (fun _ _ _ _ h => h)) (pa_cons (pv 0) (pa_cons (pv 1) (pa_cons (pe_tup (pa_cons pe_str pa_nil)) (pa_cons (pe_tup (pa_cons pe_str pa_nil)) pa_nil)))), ?_⟩
  have lt : ∀ {n : Nat}, n ≤ 1000 → n ≤ sizeLine := fun h => Nat.le_of_lt (small1000 h)
  refine ⟨rfl, _, rfl, _, rfl, lt (show 1 ≤ 1000 by decide), fun a na => ⟨lt (show 1 ≤ 1000 by decide), fun b nb => ?_⟩⟩
  have s1 := same_new (o := .tup [.str "undo"]) na
  have s2 := same_new (o := .tup [.str "go"]) nb
  exact rp_go (os := oR0) (ta.same (s1.trans s2)) lL d0 d1 (.cons ⟨a, rfl, .of (s2 _ _ upd_same)⟩ (.cons (Or.inl ⟨b, _, rfl, .of upd_same, by decide⟩) .nil)) (by decide) (fun c es h => by rw [hrun] at h; cases h) fun e' he => by
    rw [hrun] at he
    cases he
    exact hE.up (s1.trans s2)
theorem lokR1 (TW : TW K mg CT CW cN cNp cP fCt fWi fVC fVP fNp dCt dWi dVC dVP dNp mq) (cr : CRead K CW mcl) (cm : CMet K CW mcl "replay" pRp fRp) (RP : FnR P w K mg base (L2.CX P w) 6 fRp (spRpS K C CT CW cN cU cNp cIo)) : LOk P w K mg base (L2.CX P w) 7 f (mkF qRpd lamR1 cl c (.ref t)) fR (tsR K C cN cU cNp cIo oR1) := by
  refine lok_ofD (k := 6) (a := "_law_a") (t := t) scR1 rfl (fun _ _ _ => ⟨_, rfl, fun _ => rfl⟩) fun A outer s H ws Q E dd hr hl h => ?_
  obtain ⟨t, p, L, d, e, rfl, ta, lL, d0, d1, hrun, hE⟩ := h
  refine ⟨_, pe_cmeth (E := E) (pe_glob (v := .ref CW) (by rfl) TW.gW rfl) cr cm RP (hr.mono (by omega)) (passes_call (takes_of rfl rfl rfl rfl) (fun _ _ _ _ h => h)) (pa_cons (pv 1) (pa_cons (pv 2) (pa_cons (pe_tup (pa_cons pe_str pa_nil)) pa_nil))), ?_⟩
  have lt : ∀ {n : Nat}, n ≤ 1000 → n ≤ sizeLine := fun h => Nat.le_of_lt (small1000 h)
  refine ⟨rfl, _, rfl, _, rfl, lt (show 1 ≤ 1000 by decide), fun a na => ?_⟩
  have s1 := same_new (o := .tup [.str "buy"]) na
  exact rp_go (os := oR1) (ta.same s1) lL d0 d1 (.cons (Or.inl ⟨a, _, rfl, .of upd_same, by decide⟩) .nil) (by decide) (fun c es h => by rw [hrun] at h; cases h) fun e' he => by
    rw [hrun] at he
    cases he
    exact hE.up s1
theorem lokR2 (TW : TW K mg CT CW cN cNp cP fCt fWi fVC fVP fNp dCt dWi dVC dVP dNp mq) (cr : CRead K CW mcl) (cm : CMet K CW mcl "replay" pRp fRp) (RP : FnR P w K mg base (L2.CX P w) 6 fRp (spRpS K C CT CW cN cU cNp cIo)) : LOk P w K mg base (L2.CX P w) 7 f (mkF qRpd lamR2 cl c (.ref t)) fR (tsR K C cN cU cNp cIo oR2) := by
  refine lok_ofD (k := 6) (a := "_law_b") (t := t) scR2 rfl (fun _ _ _ => ⟨_, rfl, fun _ => rfl⟩) fun A outer s H ws Q E dd hr hl h => ?_
  obtain ⟨t, p, L, d, e, rfl, ta, lL, d0, d1, hrun, hE⟩ := h
  refine ⟨_, pe_cmeth (E := E) (pe_glob (v := .ref CW) (by rfl) TW.gW rfl) cr cm RP (hr.mono (by omega)) (passes_call (takes_of rfl rfl rfl rfl) (fun _ _ _ _ h => h)) (pa_cons (pv 1) (pa_cons (pv 2) (pa_cons (pe_tup (pa_cons pe_str (pa_cons pe_int pa_nil))) (pa_cons (pe_tup (pa_cons pe_str pa_nil)) pa_nil)))), ?_⟩
  have lt : ∀ {n : Nat}, n ≤ 1000 → n ≤ sizeLine := fun h => Nat.le_of_lt (small1000 h)
  refine ⟨rfl, _, rfl, _, rfl, lt (show 2 ≤ 1000 by decide), fun a na => ⟨lt (show 1 ≤ 1000 by decide), fun b nb => ?_⟩⟩
  have s1 := same_new (o := .tup [.str "buy", .int 9]) na
  have s2 := same_new (o := .tup [.str "go"]) nb
  exact rp_go (os := oR2) (ta.same (s1.trans s2)) lL d0 d1 (.cons ⟨a, rfl, .of (s2 _ _ upd_same)⟩ (.cons (Or.inl ⟨b, _, rfl, .of upd_same, by decide⟩) .nil)) (by decide) (fun c es h => by rw [hrun] at h; cases h) fun e' he => by
    rw [hrun] at he
    cases he
    exact hE.up (s1.trans s2)
theorem lokR3 (TW : TW K mg CT CW cN cNp cP fCt fWi fVC fVP fNp dCt dWi dVC dVP dNp mq) (cr : CRead K CW mcl) (cm : CMet K CW mcl "replay" pRp fRp) (RP : FnR P w K mg base (L2.CX P w) 6 fRp (spRpS K C CT CW cN cU cNp cIo)) : LOk P w K mg base (L2.CX P w) 7 f (mkF qRpd lamR3 cl c (.ref t)) fR (tsR K C cN cU cNp cIo oR3) := by
  refine lok_ofD (k := 6) (a := "_law_c") (t := t) scR3 rfl (fun _ _ _ => ⟨_, rfl, fun _ => rfl⟩) fun A outer s H ws Q E dd hr hl h => ?_
  obtain ⟨t, p, L, d, e, rfl, ta, lL, d0, d1, hrun, hE⟩ := h
  refine ⟨_, pe_cmeth (E := E) (pe_glob (v := .ref CW) (by rfl) TW.gW rfl) cr cm RP (hr.mono (by omega)) (passes_call (takes_of rfl rfl rfl rfl) (fun _ _ _ _ h => h)) (pa_cons (pv 1) (pa_cons (pv 2) (pa_cons (pe_tup (pa_cons pe_str (pa_cons pe_bl pa_nil))) pa_nil))), ?_⟩
  have lt : ∀ {n : Nat}, n ≤ 1000 → n ≤ sizeLine := fun h => Nat.le_of_lt (small1000 h)
  refine ⟨rfl, _, rfl, _, rfl, lt (show 2 ≤ 1000 by decide), fun a na => ?_⟩
  have s1 := same_new (o := .tup [.str "pass_day", .bl true]) na
  exact rp_go (os := oR3) (ta.same s1) lL d0 d1 (.cons ⟨a, rfl, .of upd_same⟩ .nil) (by decide) (fun c es h => by rw [hrun] at h; cases h) fun e' he => by
    rw [hrun] at he
    cases he
    exact hE.up s1
theorem lokR4 (TW : TW K mg CT CW cN cNp cP fCt fWi fVC fVP fNp dCt dWi dVC dVP dNp mq) (cr : CRead K CW mcl) (cm : CMet K CW mcl "replay" pRp fRp) (RP : FnR P w K mg base (L2.CX P w) 6 fRp (spRpS K C CT CW cN cU cNp cIo)) : LOk P w K mg base (L2.CX P w) 7 f (mkF qRpd lamR4 cl c (.ref t)) fR4 (tsR4 K C cN cU cNp cIo oR4) := by
  refine lok_ofD (k := 6) (a := "_law_e") (t := t) scR4 rfl (fun _ _ _ => ⟨_, rfl, fun _ => rfl⟩) fun A outer s H ws Q E dd hr hl h => ?_
  obtain ⟨t, p, b, k, L, d, e, rfl, hb, hk, ta, lL, d0, d1, hrun, hE⟩ := h
  refine ⟨_, pe_cmeth (E := E) (pe_glob (v := .ref CW) (by rfl) TW.gW rfl) cr cm RP (hr.mono (by omega)) (passes_call (takes_of rfl rfl rfl rfl) (fun _ _ _ _ h => h)) (pa_cons (pv 1) (pa_cons (pv 2) (pa_cons (pv 3) (pa_cons (pv 4) (pa_cons (pv 3) (pa_cons (pv 4) (pa_cons (pv 3) (pa_cons (pe_tup (pa_cons pe_str (pa_cons pe_int pa_nil))) pa_nil)))))))), ?_⟩
  have lt : ∀ {n : Nat}, n ≤ 1000 → n ≤ sizeLine := fun h => Nat.le_of_lt (small1000 h)
  refine ⟨rfl, _, rfl, _, rfl, _, rfl, _, rfl, _, rfl, _, rfl, _, rfl, lt (show 2 ≤ 1000 by decide), fun a na => ?_⟩
  have s1 := same_new (o := .tup [.str "undo", .int 1]) na
  have hb1 := (TK.same (K := K) s1) _ _ hb
  have hk1 := (TK.same (K := K) s1) _ _ hk
  exact rp_go (os := oR4) (ta.same s1) lL d0 d1 (.cons ⟨b, rfl, hb1⟩ (.cons ⟨k, rfl, hk1⟩ (.cons ⟨b, rfl, hb1⟩ (.cons ⟨k, rfl, hk1⟩ (.cons ⟨b, rfl, hb1⟩ (.cons (Or.inr ⟨a, _, _, rfl, .of upd_same, by decide, by decide⟩) .nil)))))) (by decide) (fun c es h => by rw [hrun] at h; cases h) fun e' he => by
    rw [hrun] at he
    cases he
    exact hE.up s1
end
end Sea

set_option Elab.async false
set_option linter.all false
set_option maxRecDepth 100000
set_option maxHeartbeats 4000000
/-! _law_replayed -/
namespace Sea
open PySem PySem.Spec PyProof.Rows L2 LamX NdefX ClX Evl StX
def spRpd (K : PySem.W.Frag) (C : Addr) (T : List (Addr × Str)) : Sp := fun vs H Q _ => ∃ (t p : Addr) (L : List (Int × Int)) (d : Int), vs = [.ref t, .int d] ∧ Tar K C H t p L ∧ 1 ≤ L.length ∧ L.length ≤ 3 ∧ (∀ z ∈ L, 1 ≤ z.1) ∧ 0 ≤ d ∧ d ≤ 100000000000000000 ∧ Tabs T H ∧ ∀ H', Q (.bl true) H'
theorem exp_sh (d : Int) : SeqAt.shaped (.list ([Er.op 1, .op 0, .pas, .nop d, .op 5].map fun e => .tuple (outDt e))) = true := by
  have h : SeqAt.shaped (.list ([Er.op 1, .op 0, .pas, .nop d, .op 5].map fun e => .tuple (outDt e))) = SeqAt.shaped (.list ([Er.op 1, .op 0, .pas, .nop 0, .op 5].map fun e => .tuple (outDt e))) := rfl
  rw [h]
  decide +kernel
theorem mxD {H : Hp} {D : Addr} {xs : List V} (h : H D = some (.lst xs)) : Mx [D] H := fun b hb o e => by
  rw [List.mem_singleton.mp hb, h] at e
  cases e
  exact .inl ⟨_, rfl⟩
theorem OutL.kn {H H' : Hp} {vs : List V} {os : List (List V)} (h : OutL H vs os) (k : KN H H') : OutL H' vs os := by
  induction h with
  | nil => exact .nil
  | cons a _ ih => exact .cons (k _ _ a (fun ps z => by cases z) (fun xs z => by cases z)) ih
theorem OutL.len {H : Hp} {vs : List V} {os : List (List V)} (h : OutL H vs os) : vs.length = os.length := by
  induction h with
  | nil => rfl
  | cons _ _ ih => rw [List.length_cons, List.length_cons, ih]
section
variable {P : Program} {w : World} {K : PySem.W.Frag} {mg : Str → Option Value} {base : Heap} {C CV cI cU fI fP pP CT CW cN cNp cIo cP fCt fWi fVC fVP fVN fNp fTd pTd fSp pSp fPu pPu fIc pIc fRe fBy fPd fPs fUn fRp pRp fOu fBu fMd fMs fMu Ps : Addr} {mc mp mq mcl : Value} {fdP dCt dWi dVC dVP dVN dNp dTd dSp dPu dIc dRe dBy dPd dPs dUn dOu dBu dMd dMs dMu : FuncData}
theorem an_R {X : Cx} {fr : List Str} {f : Addr} {F : LF} {H : Hp} {os : List Op} {e : Er} {t p : Addr} {L : List (Int × Int)} {d : Int} (r : Ready X 7 fr [0, 1] (tsR X.K C cN cU cNp cIo os) F) (l : LamHere H f F) (ta : Tar X.K C H t p L) (lL : L.length ≤ 1000) (d0 : 0 ≤ d) (d1 : d ≤ 1000000000000000000) (hrun : runO L 0 os (ct0 d, []) = .error e) :
    Ans X 7 cN cIo cNp cU (fun σ => [0, 1].map (slotAt σ) = [some (.ref t), some (.int d)]) (outE e) H (.ref f) :=
  ⟨f, F, fr, [0, 1], _, _, rfl, r, l, fun σ h => h, fun H' Q E k q => ⟨t, p, L, d, e, rfl, ta.kn k, lL, d0, d1, hrun, out_er q⟩⟩
theorem an_R4 {X : Cx} {fr : List Str} {f : Addr} {F : LF} {H : Hp} {os : List Op} {e : Er} {t p b k : Addr} {L : List (Int × Int)} {d : Int} (r : Ready X 7 fr [0, 1, 4, 5] (tsR4 X.K C cN cU cNp cIo os) F) (l : LamHere H f F) (hb : SqT X.K H b [.str "buy", .int 0]) (hk : SqT X.K H k [.str "undo"]) (ta : Tar X.K C H t p L) (lL : L.length ≤ 1000) (d0 : 0 ≤ d) (d1 : d ≤ 1000000000000000000) (hrun : runO L 0 os (ct0 d, []) = .error e) :
    Ans X 7 cN cIo cNp cU (fun σ => [0, 1, 4, 5].map (slotAt σ) = [some (.ref t), some (.int d), some (.ref b), some (.ref k)]) (outE e) H (.ref f) :=
  ⟨f, F, fr, [0, 1, 4, 5], _, _, rfl, r, l, fun σ h => h, fun H' Q E kk q => ⟨t, p, b, k, L, d, e, rfl, kk.tk _ _ hb, kk.tk _ _ hk, ta.kn kk, lL, d0, d1, hrun, out_er q⟩⟩
theorem ok_rpd {T : List (Addr × Str)} {f cc : Addr} {oc kV doc pm ct : Value} {od an : Option Addr} {osl : Array (Option Value)} (lk : K.lookup f = some ⟨oc, od, .func (PySem.W.fnOf "_law_replayed" "_law_replayed" (defArgs sRpd) (defBody sRpd) (defScope sRpd) .none kV doc pm an (.ref cc) ct), osl⟩)
    (hcd : PySem.W.codeIn K (.ref cc) "_law_replayed" = true) (TB : TabB base mg cc Ps) (hTm : (Ps, qRpd) ∈ T) (hTu : ∀ p ∈ T, p.1 = Ps → p.2 = qRpd) (TO : TOu K mg cN cIo cNp cU) (TS : TStp K mg fOu fBu fMd fMs fMu dOu dBu dMd dMs dMu)
    (TW : TW K mg CT CW cN cNp cP fCt fWi fVC fVP fNp dCt dWi dVC dVP dNp mq) (M : TWm K CW fTd pTd fSp pSp fPu pPu fIc pIc fRe fBy fPd fPs fUn dTd dSp dPu dIc dRe dBy dPd dPs dUn) (cr : CRead K CW mcl) (cm : CMet K CW mcl "replay" pRp fRp) (RP : FnR P w K mg base (L2.CX P w) 6 fRp (spRpS K C CT CW cN cU cNp cIo)) :
    FnOk P w K mg base CX0 9 f (PySem.W.fnOf "_law_replayed" "_law_replayed" (defArgs sRpd) (defBody sRpd) (defScope sRpd) .none kV doc pm an (.ref cc) ct) ["_law_tariff_here", "_law_date"] (spRpd K C T) := by
  have bTd : Binds K dTd ["self"] [] := M.uTd.binds (ps := ["self"]) fun _ _ _ _ _ _ us hl => match us, hl with | [_], _ => rfl
  have bPu : Binds K dPu ["self"] [] := M.uPu.binds (ps := ["self"]) fun _ _ _ _ _ _ us hl => match us, hl with | [_], _ => rfl
  refine fn_of (N := NRpd) lk hcd scRpd (fun vs H Q E h => ?_) (fun A outer s H vs Q E hr h => ?_)
  · obtain ⟨t, p, L, d, rfl, _⟩ := h
    rfl
  · have hu := hr.units
    have h8 := hr.mono (show 8 ≤ 8 by decide)
    obtain ⟨t, p, L, d, rfl, ta, n1, n3, l1, d0, d1, hT, q⟩ := h
    suffices hh : ∃ t', PSs (cxOf CX0 P w K mg base NRpd "_law_replayed" (defScope sRpd) f (.ref cc) A outer s H E).nox (defBody sRpd) t' ∧ t' { nx := fun _ H' => Q .non H', rt := Q } (start NRpd [.ref t, .int d]) H by
      obtain ⟨t', ht, hq⟩ := hh
      exact ⟨t', ht.nox, hq⟩
    refine ⟨_, (pss_cut (ps_set (i := 2) scRpd.nd rfl (.inl rfl) (pe_cmeth (E := E0) (pe_glob (v := .ref CW) (by rfl) TW.gW rfl) cr cm RP (hr.mono (by omega)) passL (pa_cons (pv 0) (pa_cons (pv 1) (pa_cons (pe_tup (pa_cons pe_str (pa_cons pe_int pa_nil))) (pa_cons (pe_tup (pa_cons pe_str (pa_cons pe_bl pa_nil))) (pa_cons (pe_tup (pa_cons pe_str (pa_cons pe_int pa_nil))) (pa_cons (pe_tup (pa_cons pe_str pa_nil)) (pa_cons (pe_tup (pa_cons pe_str pa_nil)) pa_nil)))))))))
      (pss_cut (ps_if (pt_cmpR (op_neD hu) (pe_tup (pa_cons (pe_prop (E := E0) (pv 2) TW.clW M.pTd (ok_td (C := C) (k := 0) TW M) (hr.mono (by omega)) bTd .nil pass0 (by rfl)) (pa_cons (pe_prop (E := E0) (pv 2) TW.clW M.pPu (ok_pu (C := C) (k := 0) TW M) (hr.mono (by omega)) bPu .nil pass0 (by rfl)) pa_nil))) (pe_tup (pa_cons (pv 1) (pa_cons (pe_lst (pa_cons (pe_tup (pa_cons (pv 1) (pa_cons pe_int pa_nil))) pa_nil)) pa_nil))) (nomark _)) pss_never pss_nil)
      (pss_cut (ps_set (i := 3) scRpd.nd rfl (.inl rfl) (pe_lst (pa_cons (pe_lamV (T := T) TB rfl hTm hTu hfR0) (pa_cons (pe_lamD (T := T) TB rfl hTm hTu hfR1 rfl rfl) pa_nil))))
      (pss_cut (ps_expr (pe_bm PySem.F.plainAttrs_list PySem.F.slot_list_append PySem.F.type_list_append mt_append (pv 3) (pa_cons (pe_lamD (T := T) TB rfl hTm hTu hfR2 rfl rfl) pa_nil)))
      (pss_cut (ps_expr (pe_bm PySem.F.plainAttrs_list PySem.F.slot_list_append PySem.F.type_list_append mt_append (pv 3) (pa_cons (pe_lamD (T := T) TB rfl hTm hTu hfR3 rfl rfl) pa_nil)))
      (pss_cut (ps_asg (pe_tup (pa_cons (pe_tup (pa_cons pe_str (pa_cons pe_int pa_nil))) (pa_cons (pe_tup (pa_cons pe_str pa_nil)) pa_nil))) (pg_tup rfl (pgs_cons (pg_name (i := 4) scRpd.nd rfl (.inr rfl)) (pgs_cons (pg_name (i := 5) scRpd.nd rfl (.inr rfl)) pgs_nil))))
      (pss_cut (ps_expr (pe_bm PySem.F.plainAttrs_list PySem.F.slot_list_append PySem.F.type_list_append mt_append (pv 3) (pa_cons (pe_lamD (T := T) TB rfl hTm hTu hfR4 rfl rfl) pa_nil)))
      (pss_cut (ps_set (i := 6) scRpd.nd rfl (.inl rfl) (pe_lst (pa_cons (pe_tup (pa_cons pe_str (pa_cons pe_int pa_nil))) (pa_cons (pe_tup (pa_cons pe_str (pa_cons pe_int pa_nil))) (pa_cons (pe_tup (pa_cons pe_str pa_nil)) (pa_cons (pe_tup (pa_cons pe_str (pa_cons (pv 1) pa_nil))) pa_nil))))))
      (pss_cut (ps_expr (pe_bm PySem.F.plainAttrs_list PySem.F.slot_list_append PySem.F.type_list_append mt_append (pv 6) (pa_cons (pe_tup (pa_cons pe_str (pa_cons pe_int pa_nil))) pa_nil)))
      (pss_one (ps_ret (pe_cmpR (op_eqD hu) (pe_lcT (i := 7) (ok_out TS.uOu TO (Nat.le_refl 7)) rfl rfl scRpd.nd rfl (plainBlk_by (by decide +kernel)) rfl rfl TS.gOu TS.kOu h8 (pv 3)) (pv 6) (nomark _))))))))))))), ?_⟩
    have ltz : ∀ {n : Nat}, n ≤ 1000 → n ≤ sizeLine := fun h => Nat.le_of_lt (small1000 h)
    have d18 : d ≤ 1000000000000000000 := by omega
    have lL : L.length ≤ 1000 := by omega
    obtain ⟨z, hrun⟩ := runRk (d := d) n1 l1 d1
    refine ⟨fun σ H' => ∃ x El, σ = ([some (.ref t), some (.int d), some (.ref x), none, none, none, none, none] : L2.St) ∧ Tar K C H' t p L ∧ Tabs T H' ∧ WlA K C CT CW H' x El t p L (byC (ct0 d) 0 z) [ct0 d], ?_, ?_⟩
    · refine ⟨rfl, _, rfl, _, rfl, ltz (show 2 ≤ 1000 by decide), fun a na => ⟨ltz (show 2 ≤ 1000 by decide), fun b nb => ⟨ltz (show 2 ≤ 1000 by decide), fun c nc => ⟨ltz (show 1 ≤ 1000 by decide), fun e ne => ⟨ltz (show 1 ≤ 1000 by decide), fun g ng => ?_⟩⟩⟩⟩⟩
      have s1 := same_new (o := .tup [.str "buy", .int 0]) na
      have s2 := same_new (o := .tup [.str "pass_day", .bl true]) nb
      have s3 := same_new (o := .tup [.str "buy", .int 0]) nc
      have s4 := same_new (o := .tup [.str "undo"]) ne
      have s5 := same_new (o := .tup [.str "undo"]) ng
      have s := (s1.trans s2).trans ((s3.trans s4).trans s5)
      refine rp_go (os := oRk) (ta.same s) lL d0 d18 (.cons ⟨a, rfl, .of ((s2.trans ((s3.trans s4).trans s5)) _ _ upd_same)⟩ (.cons ⟨b, rfl, .of (((s3.trans s4).trans s5) _ _ upd_same)⟩ (.cons ⟨c, rfl, .of ((s4.trans s5) _ _ upd_same)⟩ (.cons ⟨e, rfl, .of (s5 _ _ upd_same)⟩ (.cons ⟨g, rfl, .of upd_same⟩ .nil))))) (by decide) (fun c' es' h x El H' s' wl => ?_) fun e' he => by rw [hrun] at he; cases he
      rw [hrun] at h
      cases h
      exact ⟨x, El, rfl, (ta.same s).same s', tabs_same (tabs_same hT s) s', wl⟩
    clear ta hT
    rintro σ H1 ⟨x, El, rfl, ta1, T1, wl1⟩
    refine ⟨fun σ H' => σ = ([some (.ref t), some (.int d), some (.ref x), none, none, none, none, none] : L2.St) ∧ Tar K C H' t p L ∧ Tabs T H', ?_, ?_⟩
    · have e1 : EvDp K _ ([some (.ref t), some (.int d), some (.ref x), none, none, none, none, none] : L2.St) H1 (.tuple [.int d, .list [.tuple [.int d, .int 0]]]) := edp_tup (eda_cons (edp_int (wl1.pI (ev_var (i := 2) rfl) Ct.day)) (eda_cons (wl1.pP (ev_var (i := 2) rfl)) eda_nil)) (show 2 ≤ 1000 by decide)
      have e2 : EvDp K _ ([some (.ref t), some (.int d), some (.ref x), none, none, none, none, none] : L2.St) H1 (.tuple [.int d, .list [.tuple [.int d, .int 0]]]) := edp_tup (eda_cons (edp_int (ev_var (i := 1) rfl)) (eda_cons (edp_lst (eda_cons (edp_tup (eda_cons (edp_int (ev_var (i := 1) rfl)) (eda_cons (edp_int ev_c) eda_nil)) (show 2 ≤ 1000 by decide)) eda_nil) (show 1 ≤ 1000 by decide)) eda_nil)) (show 2 ≤ 1000 by decide)
      exact s_when (b := false) (et_same (K := K) e1 e2 (by rfl)) (fun z => by cases z) fun _ H2 e2 => ⟨rfl, ta1.same e2, tabs_same T1 e2⟩
    clear wl1 ta1 T1
    rintro σ H1 ⟨rfl, ta1, T1⟩
    -- the first two
    refine ⟨fun σ H' => ∃ D xs, σ = ([some (.ref t), some (.int d), some (.ref x), some (.ref D), none, none, none, none] : L2.St) ∧ Tar K C H' t p L ∧ Tabs T H' ∧ H' D = some (.lst xs) ∧ AnsL (cxOf CX0 P w K mg base NRpd "_law_replayed" (defScope sRpd) f (.ref cc) A outer s H E).nox 7 cN cIo cNp cU (fun σ => [0, 1].map (slotAt σ) = [some (.ref t), some (.int d)]) H' xs [outE (.op 1), outE (.op 0)], ?_, ?_⟩
    · refine ⟨T1, fun f0 c0 H3 eN3 T3 nf0 hf0 hc0 => ⟨T3, fun f1 c1 t1 H4 eN4 T4 nf1 nt1 ht1 hf1 hc1 => ⟨ltz (show 2 ≤ 1000 by decide), fun D nD => ?_⟩⟩⟩
      have sD := same_new (o := .lst [.ref f0, .ref f1]) nD
      have ta4 := (ta1.extN eN3).extN eN4
      have a0 : Ans (cxOf CX0 P w K mg base NRpd "_law_replayed" (defScope sRpd) f (.ref cc) A outer s H E).nox 7 cN cIo cNp cU (fun σ => [0, 1].map (slotAt σ) = [some (.ref t), some (.int d)]) (outE (.op 1)) H4 (.ref f0) := an_R (os := oR0) (fr := fR) ⟨fun f' => lokR0 TW cr cm RP, fun ok => Caps.made ok hfR0 hrR0 rfl⟩ ⟨eN4 _ _ hf0 lam_ne, eN4 _ _ hc0 code_ne, fun t z => by cases z⟩ ta4 lL d0 d18 runR0
      have a1 : Ans (cxOf CX0 P w K mg base NRpd "_law_replayed" (defScope sRpd) f (.ref cc) A outer s H E).nox 7 cN cIo cNp cU (fun σ => [0, 1].map (slotAt σ) = [some (.ref t), some (.int d)]) (outE (.op 0)) H4 (.ref f1) := an_R (os := oR1) (fr := fR) ⟨fun f' => lokR1 TW cr cm RP, fun ok => Caps.made ok hfR1 hrR1 rfl⟩ ⟨hf1, hc1, fun t z => by cases z; exact ⟨_, ht1⟩⟩ ta4 lL d0 d18 runR1
      exact ⟨D, _, rfl, ta4.same sD, tabs_same T4 sD, upd_same, .cons (a0.kn (.ex sD)) (.cons (a1.kn (.ex sD)) .nil)⟩
    clear ta1 T1
    rintro σ H1 ⟨D, xs, rfl, ta1, T1, hD, an⟩
    -- the third
    refine ⟨fun σ H' => ∃ xs, σ = ([some (.ref t), some (.int d), some (.ref x), some (.ref D), none, none, none, none] : L2.St) ∧ Tar K C H' t p L ∧ Tabs T H' ∧ H' D = some (.lst xs) ∧ AnsL (cxOf CX0 P w K mg base NRpd "_law_replayed" (defScope sRpd) f (.ref cc) A outer s H E).nox 7 cN cIo cNp cU (fun σ => [0, 1].map (slotAt σ) = [some (.ref t), some (.int d)]) H' xs [outE (.op 1), outE (.op 0), outE .pas], ?_, ?_⟩
    · refine ⟨_, rfl, .inl ⟨rfl, xs, .of hD⟩, T1, fun f1 c1 t1 H4 eN4 T4 nf1 nt1 ht1 hf1 hc1 => ?_⟩
      have hD4 := eN4 _ _ hD (fun ps z => by cases z)
      have ta4 := ta1.extN eN4
      have a1 : Ans (cxOf CX0 P w K mg base NRpd "_law_replayed" (defScope sRpd) f (.ref cc) A outer s H E).nox 7 cN cIo cNp cU (fun σ => [0, 1].map (slotAt σ) = [some (.ref t), some (.int d)]) (outE .pas) H4 (.ref f1) := an_R (os := oR2) (fr := fR) ⟨fun f' => lokR2 TW cr cm RP, fun ok => Caps.made ok hfR2 hrR2 rfl⟩ ⟨hf1, hc1, fun t z => by cases z; exact ⟨_, ht1⟩⟩ ta4 lL d0 d18 (runR2 n3)
      have len := an.len
      have kp : KN H4 (upd H4 D (.lst (xs ++ [.ref f1]))) := KN.put hD4
      exact ⟨D, xs, .ref f1, rfl, rfl, hD4, by rw [sizeLine_eq, len]; decide, _, rfl, ta4.kn kp, (mxD hD4).tabs (.put List.mem_cons_self) T4, upd_same, ((an.kn (.extN eN4)).kn kp).snoc (a1.kn kp)⟩
    clear ta1 T1 hD an xs
    rintro σ H1 ⟨xs, rfl, ta1, T1, hD, an⟩
    -- the fourth
    refine ⟨fun σ H' => ∃ xs, σ = ([some (.ref t), some (.int d), some (.ref x), some (.ref D), none, none, none, none] : L2.St) ∧ Tar K C H' t p L ∧ Tabs T H' ∧ H' D = some (.lst xs) ∧ AnsL (cxOf CX0 P w K mg base NRpd "_law_replayed" (defScope sRpd) f (.ref cc) A outer s H E).nox 7 cN cIo cNp cU (fun σ => [0, 1].map (slotAt σ) = [some (.ref t), some (.int d)]) H' xs [outE (.op 1), outE (.op 0), outE .pas, outE (.nop d)], ?_, ?_⟩
    · refine ⟨_, rfl, .inl ⟨rfl, xs, .of hD⟩, T1, fun f1 c1 t1 H4 eN4 T4 nf1 nt1 ht1 hf1 hc1 => ?_⟩
      have hD4 := eN4 _ _ hD (fun ps z => by cases z)
      have ta4 := ta1.extN eN4
      have a1 : Ans (cxOf CX0 P w K mg base NRpd "_law_replayed" (defScope sRpd) f (.ref cc) A outer s H E).nox 7 cN cIo cNp cU (fun σ => [0, 1].map (slotAt σ) = [some (.ref t), some (.int d)]) (outE (.nop d)) H4 (.ref f1) := an_R (os := oR3) (fr := fR) ⟨fun f' => lokR3 TW cr cm RP, fun ok => Caps.made ok hfR3 hrR3 rfl⟩ ⟨hf1, hc1, fun t z => by cases z; exact ⟨_, ht1⟩⟩ ta4 lL d0 d18 runR3
      have len := an.len
      have kp : KN H4 (upd H4 D (.lst (xs ++ [.ref f1]))) := KN.put hD4
      exact ⟨D, xs, .ref f1, rfl, rfl, hD4, by rw [sizeLine_eq, len]; decide, _, rfl, ta4.kn kp, (mxD hD4).tabs (.put List.mem_cons_self) T4, upd_same, ((an.kn (.extN eN4)).kn kp).snoc (a1.kn kp)⟩
    clear ta1 T1 hD an xs
    rintro σ H1 ⟨xs, rfl, ta1, T1, hD, an⟩
    -- two operations
    refine ⟨fun σ H' => ∃ b k, σ = ([some (.ref t), some (.int d), some (.ref x), some (.ref D), some (.ref b), some (.ref k), none, none] : L2.St) ∧ Tar K C H' t p L ∧ Tabs T H' ∧ H' D = some (.lst xs) ∧ SqT K H' b [.str "buy", .int 0] ∧ SqT K H' k [.str "undo"] ∧ AnsL (cxOf CX0 P w K mg base NRpd "_law_replayed" (defScope sRpd) f (.ref cc) A outer s H E).nox 7 cN cIo cNp cU (fun σ => [0, 1].map (slotAt σ) = [some (.ref t), some (.int d)]) H' xs [outE (.op 1), outE (.op 0), outE .pas, outE (.nop d)], ?_, ?_⟩
    · refine ⟨ltz (show 2 ≤ 1000 by decide), fun b nb => ⟨ltz (show 1 ≤ 1000 by decide), fun k nk => ⟨ltz (show 2 ≤ 1000 by decide), fun o no => ?_⟩⟩⟩
      have s1 := same_new (o := .tup [.str "buy", .int 0]) nb
      have s2 := same_new (o := .tup [.str "undo"]) nk
      have s3 := same_new (o := .tup [.ref b, .ref k]) no
      have s := s1.trans (s2.trans s3)
      exact ⟨o, _, rfl, .of upd_same, rfl, _, _, rfl, _, _, rfl, rfl, b, k, rfl, ta1.same s, tabs_same T1 s, s _ _ hD, .of ((s2.trans s3) _ _ upd_same), .of (s3 _ _ upd_same), an.kn (.ex s)⟩
    clear ta1 T1
    rintro σ H2 ⟨b, k, rfl, ta1, T1, hD2, hb, hk, an2⟩
    clear hD an
    -- the fifth
    refine ⟨fun σ H' => ∃ xs, σ = ([some (.ref t), some (.int d), some (.ref x), some (.ref D), some (.ref b), some (.ref k), none, none] : L2.St) ∧ H' D = some (.lst xs) ∧ AnsL (cxOf CX0 P w K mg base NRpd "_law_replayed" (defScope sRpd) f (.ref cc) A outer s H E).nox 7 cN cIo cNp cU (fun σ => [0, 1, 4, 5].map (slotAt σ) = [some (.ref t), some (.int d), some (.ref b), some (.ref k)]) H' xs [outE (.op 1), outE (.op 0), outE .pas, outE (.nop d), outE (.op 5)], ?_, ?_⟩
    · refine ⟨_, rfl, .inl ⟨rfl, xs, .of hD2⟩, T1, fun f1 c1 t1 H4 eN4 T4 nf1 nt1 ht1 hf1 hc1 => ?_⟩
      have hD4 := eN4 _ _ hD2 (fun ps z => by cases z)
      have ta4 := ta1.extN eN4
      have a1 : Ans (cxOf CX0 P w K mg base NRpd "_law_replayed" (defScope sRpd) f (.ref cc) A outer s H E).nox 7 cN cIo cNp cU (fun σ => [0, 1, 4, 5].map (slotAt σ) = [some (.ref t), some (.int d), some (.ref b), some (.ref k)]) (outE (.op 5)) H4 (.ref f1) := an_R4 (os := oR4) (fr := fR4) ⟨fun f' => lokR4 TW cr cm RP, fun ok => Caps.made ok hfR4 hrR4 rfl⟩ ⟨hf1, hc1, fun t z => by cases z; exact ⟨_, ht1⟩⟩ ((TK.extN eN4) _ _ hb) ((TK.extN eN4) _ _ hk) ta4 lL d0 d18 (runR4 n1)
      have len := an2.len
      have kp : KN H4 (upd H4 D (.lst (xs ++ [.ref f1]))) := KN.put hD4
      refine ⟨D, xs, .ref f1, rfl, rfl, hD4, by rw [sizeLine_eq, len]; show (4 : Nat) < 16777216; decide, _, rfl, upd_same, (((an2.kn (.extN eN4)).kn kp).imp fun σ h => ?_).snoc (a1.kn kp)⟩
      have h0 : slotAt σ 0 = some (.ref t) := (List.cons.inj h).1
      have h1 : slotAt σ 1 = some (.int d) := (List.cons.inj (List.cons.inj h).2).1
      show [slotAt σ 0, slotAt σ 1] = _
      rw [h0, h1]
    clear ta1 T1 hD2 an2 xs
    rintro σ H3 ⟨xs, rfl, hD, an⟩
    -- what is expected
    refine ⟨fun σ H' => ∃ EL ws, σ = ([some (.ref t), some (.int d), some (.ref x), some (.ref D), some (.ref b), some (.ref k), some (.ref EL), none] : L2.St) ∧ H' D = some (.lst xs) ∧ H' EL = some (.lst ws) ∧ D ≠ EL ∧ OutL H' ws ([.op 1, .op 0, .pas, .nop d].map outE) ∧ AnsL (cxOf CX0 P w K mg base NRpd "_law_replayed" (defScope sRpd) f (.ref cc) A outer s H E).nox 7 cN cIo cNp cU (fun σ => [0, 1, 4, 5].map (slotAt σ) = [some (.ref t), some (.int d), some (.ref b), some (.ref k)]) H' xs [outE (.op 1), outE (.op 0), outE .pas, outE (.nop d), outE (.op 5)], ?_, ?_⟩
    · refine ⟨ltz (show 2 ≤ 1000 by decide), fun p1 m1 => ⟨ltz (show 2 ≤ 1000 by decide), fun p2 m2 => ⟨ltz (show 1 ≤ 1000 by decide), fun p3 m3 => ⟨_, rfl, ltz (show 2 ≤ 1000 by decide), fun p4 m4 => ⟨ltz (show 4 ≤ 1000 by decide), fun EL m5 => ?_⟩⟩⟩⟩⟩
      have s1 := same_new (o := .tup [.str "InvalidOperation", .int 1]) m1
      have s2 := same_new (o := .tup [.str "InvalidOperation", .int 0]) m2
      have s3 := same_new (o := .tup [.str "UnknownPass"]) m3
      have s4 := same_new (o := .tup [.str "NoPass", .int d]) m4
      have s5 := same_new (o := .lst [.ref p1, .ref p2, .ref p3, .ref p4]) m5
      have s := (s1.trans (s2.trans (s3.trans s4)))
      have hD4 := s _ _ hD
      exact ⟨EL, _, rfl, s5 _ _ hD4, upd_same, ne_of_none hD4 m5, .cons ((s2.trans (s3.trans (s4.trans s5))) _ _ upd_same) (.cons ((s3.trans (s4.trans s5)) _ _ upd_same) (.cons ((s4.trans s5) _ _ upd_same) (.cons (s5 _ _ upd_same) .nil))), an.kn (.ex (s.trans s5))⟩
    clear hD an
    rintro σ H3 ⟨EL, ws, rfl, hD, hE, ne, ol, an⟩
    refine ⟨fun σ H' => ∃ ws, σ = ([some (.ref t), some (.int d), some (.ref x), some (.ref D), some (.ref b), some (.ref k), some (.ref EL), none] : L2.St) ∧ H' D = some (.lst xs) ∧ H' EL = some (.lst ws) ∧ OutL H' ws ([.op 1, .op 0, .pas, .nop d, .op 5].map outE) ∧ AnsL (cxOf CX0 P w K mg base NRpd "_law_replayed" (defScope sRpd) f (.ref cc) A outer s H E).nox 7 cN cIo cNp cU (fun σ => [0, 1, 4, 5].map (slotAt σ) = [some (.ref t), some (.int d), some (.ref b), some (.ref k)]) H' xs [outE (.op 1), outE (.op 0), outE .pas, outE (.nop d), outE (.op 5)], ?_, ?_⟩
    · refine ⟨_, rfl, .inl ⟨rfl, ws, .of hE⟩, ltz (show 2 ≤ 1000 by decide), fun p5 m5 => ?_⟩
      have s5 := same_new (o := .tup [.str "InvalidOperation", .int 5]) m5
      have hE5 := s5 _ _ hE
      have hD5 := s5 _ _ hD
      have h5 : (upd H3 p5 (.tup [.str "InvalidOperation", .int 5])) p5 = some (.tup [.str "InvalidOperation", .int 5]) := upd_same
      revert s5 hE5 hD5 h5
      generalize upd H3 p5 (.tup [.str "InvalidOperation", .int 5]) = H5
      intro s5 hE5 hD5 h5
      have kp : KN H5 (upd H5 EL (.lst (ws ++ [.ref p5]))) := KN.put hE5
      have len := ol.len
      exact ⟨EL, ws, .ref p5, rfl, rfl, hE5, by rw [sizeLine_eq, len]; show (4 : Nat) < 16777216; decide, _, rfl, (upd_ne ne).trans hD5, upd_same, ((ol.ex s5).kn kp).snoc (kp _ _ h5 (fun ps z => by cases z) (fun xs z => by cases z)), (an.kn (.ex s5)).kn kp⟩
    clear hD hE ol an ws
    rintro σ H4 ⟨ws, rfl, hD, hE, ol, an⟩
    have len := an.len
    refine s_ret (v := .bl true) (ev_eqD (K := K) (d := .list ([Er.op 1, .op 0, .pas, .nop d, .op 5].map fun e => .tuple (outDt e))) (fun H5 e5 Q5 q5 => ⟨_, rfl, D, xs, rfl, by rw [len]; show (5 : Nat) ≤ 1000; decide, gAll_one (X := (cxOf CX0 P w K mg base NRpd "_law_replayed" (defScope sRpd) f (.ref cc) A outer s H E).nox) (sl := fun σ => [0, 1, 4, 5].map (slotAt σ) = [some (.ref t), some (.int d), some (.ref b), some (.ref k)]) (os := [Er.op 1, .op 0, .pas, .nop d, .op 5].map outE) rfl xs [] [] H5 (.of (e5 _ _ hD)) (an.kn (.ex e5)) .nil fun us H6 e6 all D' nD' => q5 _ _ (e6.trans (Ex.new nD')) (.lst (.of upd_same) (outL_dp (all.ex (Ex.new nD'))))⟩) (edp_ev (v := .ref EL) (ev_var (i := 6) rfl) fun H5 e5 => .lst (.of (e5 _ _ hE)) (outL_dp (ol.ex e5))) (exp_sh d)) fun H5 e5 => q H5
end
end Sea

set_option Elab.async false
set_option linter.all false
set_option maxRecDepth 100000
set_option maxHeartbeats 4000000
/-! all that the law leans on; its lambdas -/
namespace Sea
open PySem PySem.Spec PyProof.Rows L2 LamX NdefX ClX Evl StX
/-- a def whose code object is at cc -/
def FunCd (K : PySem.W.Frag) (name qual : Str) (st : Stmt) (f cc : Addr) (fd : FuncData) : Prop := ∃ (oc : Value) (od : Option Addr) (kV doc pm ct : Value) (an : Option Addr) (osl : Array (Option Value)),
  fd = PySem.W.fnOf name qual (defArgs st) (defBody st) (defScope st) .none kV doc pm an (.ref cc) ct ∧ K.lookup f = some ⟨oc, od, .func (PySem.W.fnOf name qual (defArgs st) (defBody st) (defScope st) .none kV doc pm an (.ref cc) ct), osl⟩ ∧ PySem.W.codeIn K (.ref cc) qual = true
/-- a travel is made -/
theorem tv_new {K : PySem.W.Frag} {C cV : Addr} {H : Hp} {Q : VK} {E : XK} {ln : Int} {d o : V} {ds os : List Int} {x dx : Addr} (hd : TiA K H d ds) (ho : TiA K H o os) (ld : ds.length ≤ 1000) (lo : os.length ≤ 1000) (hb : tbad ln ds os = none) (nx : H x = none) (ndx : H dx = none)
    (q : ∀ H', Same H H' → Tv K C H' x ln d o ds os → Q .non H') : spTvI K C cV [V.ref x, .int ln, d, o] (upd (upd H dx (.own x)) x (.ins C dx [])) Q E := by
  have s0 : Same H (upd (upd H dx (.own x)) x (.ins C dx [])) := fun b u e => by
    rw [upd_ne (ne_of_none e nx), upd_ne (ne_of_none e ndx)]
    exact e
  refine ⟨x, dx, ln, d, o, ds, os, rfl, upd_same, hd.tk (.same s0), ho.tk (.same s0), ld, lo, fun _ H' keep at_ => ?_, fun pt i dd H' e => ?_⟩
  · have sm : Same H H' := fun b u e => keep b u (s0 b u e) (ne_of_none e nx)
    exact q H' sm ⟨⟨dx, at_⟩, hd.tk (.same sm), ho.tk (.same sm)⟩
  · rw [hb] at e
    cases e
theorem tbad_ok {ln : Int} {ds os : List Int} (l1 : 1 ≤ ln) (l2 : ln ≤ 14) (g : Good ds (ln - 1)) (n : (ds.length : Int) ≤ ln) (h : Good os 1000000000000000000) (m : os.length ≤ 6) : tbad ln ds os = none := by
  unfold tbad
  rw [if_pos ⟨l1, l2⟩, vbad_good g (by omega), vbad_good h (by omega)]
theorem good_nil {l : Int} : Good [] l := fun j hj => absurd hj (Nat.not_lt_zero _)
/-- all that the law leans on -/
structure Gd (K : PySem.W.Frag) (mg : Str → Option Value) where
  C : Addr
  CV : Addr
  CT : Addr
  CW : Addr
  cP : Addr
  cI : Addr
  cV : Addr
  cU : Addr
  cN : Addr
  cNp : Addr
  cIo : Addr
  fI : Addr
  fV : Addr
  fT : Addr
  fTv : Addr
  fVN : Addr
  fVP : Addr
  fVC : Addr
  fP : Addr
  pP : Addr
  fL : Addr
  pL : Addr
  fTo : Addr
  fItd : Addr
  fCt : Addr
  fWi : Addr
  fNp : Addr
  fIo : Addr
  fTd : Addr
  pTd : Addr
  fSp : Addr
  pSp : Addr
  fPu : Addr
  pPu : Addr
  fIc : Addr
  pIc : Addr
  fRe : Addr
  fBy : Addr
  fPd : Addr
  fPs : Addr
  fUn : Addr
  fRp : Addr
  pRp : Addr
  fCd : Addr
  xCd : Addr
  fD : Addr
  fSt : Addr
  fPas : Addr
  fTar : Addr
  fDay : Addr
  fSm : Addr
  fOu : Addr
  fBu : Addr
  fMd : Addr
  fMs : Addr
  fMu : Addr
  fCv : Addr
  fKe : Addr
  fAg : Addr
  fStp : Addr
  xStp : Addr
  fRpd : Addr
  xRpd : Addr
  eT : Addr
  Pc : Addr
  Ps : Addr
  Pr : Addr
  Pt : Addr
  mc : Value
  mp : Value
  dI : FuncData
  dT : FuncData
  dTv : FuncData
  dVN : FuncData
  dVP : FuncData
  dVC : FuncData
  dP : FuncData
  dL : FuncData
  dTo : FuncData
  dItd : FuncData
  dCt : FuncData
  dWi : FuncData
  dNp : FuncData
  dIo : FuncData
  dTd : FuncData
  dSp : FuncData
  dPu : FuncData
  dIc : FuncData
  dRe : FuncData
  dBy : FuncData
  dPd : FuncData
  dPs : FuncData
  dUn : FuncData
  dRp : FuncData
  dCd : FuncData
  dD : FuncData
  dSt : FuncData
  dPas : FuncData
  dTar : FuncData
  dDay : FuncData
  dSm : FuncData
  dOu : FuncData
  dBu : FuncData
  dMd : FuncData
  dMs : FuncData
  dMu : FuncData
  dCv : FuncData
  dKe : FuncData
  dAg : FuncData
  dStp : FuncData
  dRpd : FuncData
  dV : FuncData
  X : TX K mg C cI cU cP fI mc mp
  I : TMk K C fI fT dI dT
  Q : TP K C fP pP dP
  pL_ : PropOf K C "lengths" pL fL
  uL : Fun K "lengths" "Tariff.lengths" sLengths fL dL
  EV : TEv K mg cV cP fV dV mp
  TV : TTv K mg CV fVN dVN
  mkV : Mk K CV fTv
  uTv : Fun K "__init__" "Travel.__init__" sTvI fTv dTv
  kTv : FunD K "__init__" "Travel.__init__" (defArgs sTvI) (defBody sTvI) (defScope sTvI) [] [("exceptions", V.ref eT)] fTv dTv
  eTv : ∃ (o : Obj) (n : Nat), K.lookup eT = some o ∧ o.cls = .type "tuple" ∧ o.data = .seq #[] n
  Y : TTd K mg CV fTo fItd dTo dItd
  DN : TDn K mg fD dD
  TW : TW K mg CT CW cN cNp cP fCt fWi fVC fVP fNp dCt dWi dVC dVP dNp mp
  M : TWm K CW fTd pTd fSp pSp fPu pPu fIc pIc fRe fBy fPd fPs fUn dTd dSp dPu dIc dRe dBy dPd dPs dUn
  IO : TE1 K mg "InvalidOperation" "index" sIoI cIo cP fIo dIo mp
  SM : TSm K mg fSm dSm
  OU : TOu K mg cN cIo cNp cU
  TS : TStp K mg fOu fBu fMd fMs fMu dOu dBu dMd dMs dMu
  TM : TMo K mg fCv fKe dCv dKe
  cr : CRead K CW mc
  cm : CMet K CW mc "replay" pRp fRp
  uRp : Fun K "replay" "Wallet.replay" sWlRp fRp dRp
  mCd : Meth K CW "covered_days" fCd
  uCd : Fun K "covered_days" "Wallet.covered_days" sWlCd fCd dCd
  kCd : FunCd K "covered_days" "Wallet.covered_days" sWlCd fCd xCd dCd
  kStp_ : FunCd K "_law_step" "_law_step" sStp fStp xStp dStp
  kRpd_ : FunCd K "_law_replayed" "_law_replayed" sRpd fRpd xRpd dRpd
  nSt : PySem.W.subIn K (.ref cN) (.type "StopIteration") = some false
  n1 : Ps ≠ Pc
  n2 : Pr ≠ Pc
  n3 : Pt ≠ Pc
  n4 : Pr ≠ Ps
  n5 : Pt ≠ Ps
  n6 : Pt ≠ Pr
  gSt : mg "_law_start" = some (.ref fSt)
  kSt : PySem.W.keepIn K (.ref fSt) = true
  uSt : Fun K "_law_start" "_law_start" sStart fSt dSt
  gPas : mg "_law_passes" = some (.ref fPas)
  kPas : PySem.W.keepIn K (.ref fPas) = true
  uPas : Fun K "_law_passes" "_law_passes" sPas fPas dPas
  gTar : mg "_law_tariff" = some (.ref fTar)
  kTar : PySem.W.keepIn K (.ref fTar) = true
  uTar : Fun K "_law_tariff" "_law_tariff" sTar fTar dTar
  gDay : mg "_law_days" = some (.ref fDay)
  kDay : PySem.W.keepIn K (.ref fDay) = true
  uDay : Fun K "_law_days" "_law_days" sDay fDay dDay
  gAg : mg "_law_agrees" = some (.ref fAg)
  kAg : PySem.W.keepIn K (.ref fAg) = true
  uAg : Fun K "_law_agrees" "_law_agrees" sAg fAg dAg
  gStp : mg "_law_step" = some (.ref fStp)
  kStp : PySem.W.keepIn K (.ref fStp) = true
  uStp : Fun K "_law_step" "_law_step" sStp fStp dStp
  gRpd : mg "_law_replayed" = some (.ref fRpd)
  kRpd : PySem.W.keepIn K (.ref fRpd) = true
  uRpd : Fun K "_law_replayed" "_law_replayed" sRpd fRpd dRpd
  m_range : mg "range" = none
  m_tuple : mg "tuple" = none
  m_list : mg "list" = none
  m_enumerate : mg "enumerate" = none
section
variable {K : PySem.W.Frag} {mg : Str → Option Value}
theorem Gd.bSt (G : Gd K mg) : Binds K G.dSt ["_law_script"] [] := G.uSt.binds (ps := ["_law_script"]) fun _ _ _ _ _ _ us hl => match us, hl with | [_], _ => rfl
theorem Gd.bPas (G : Gd K mg) : Binds K G.dPas ["_law_state", "_law_most"] [] := G.uPas.binds (ps := ["_law_state", "_law_most"]) fun _ _ _ _ _ _ us hl => match us, hl with | [_, _], _ => rfl
theorem Gd.bTar (G : Gd K mg) : Binds K G.dTar ["_law_passes_here"] [] := G.uTar.binds (ps := ["_law_passes_here"]) fun _ _ _ _ _ _ us hl => match us, hl with | [_], _ => rfl
theorem Gd.bDay (G : Gd K mg) : Binds K G.dDay ["_law_state"] [] := G.uDay.binds (ps := ["_law_state"]) fun _ _ _ _ _ _ us hl => match us, hl with | [_], _ => rfl
theorem Gd.bAg (G : Gd K mg) : Binds K G.dAg ["_law_w", "_law_shutet"] [] := G.uAg.binds (ps := ["_law_w", "_law_shutet"]) fun _ _ _ _ _ _ us hl => match us, hl with | [_, _], _ => rfl
theorem Gd.bStp (G : Gd K mg) : Binds K G.dStp ["_law_state", "_law_w", "_law_shutet", "_law_travel"] [] := G.uStp.binds (ps := ["_law_state", "_law_w", "_law_shutet", "_law_travel"]) fun _ _ _ _ _ _ us hl => match us, hl with | [_, _, _, _], _ => rfl
theorem Gd.bRpd (G : Gd K mg) : Binds K G.dRpd ["_law_tariff_here", "_law_date"] [] := G.uRpd.binds (ps := ["_law_tariff_here", "_law_date"]) fun _ _ _ _ _ _ us hl => match us, hl with | [_, _], _ => rfl
theorem Gd.bCd (G : Gd K mg) : Binds K G.dCd ["self", "first", "last"] [] := G.uCd.binds (ps := ["self", "first", "last"]) fun _ _ _ _ _ _ us hl => match us, hl with | [_, _, _], _ => rfl
/-- Travel(a, b): the exceptions lack -/
theorem Gd.bTv0 (G : Gd K mg) : ∃ ds, Vals [V.ref G.eT] ds ∧ Binds K G.dTv ["self", "length", "days", "exceptions"] ds :=
  G.kTv.binds0 (ps := ["self", "length", "days", "exceptions"]) 3 (by simp) rfl fun D doc pm an cdv ct us ks l1 l2 => match us, ks, l1, l2 with
    | [u, v, x], [y], _, _ => ⟨_, _, _, _, _, _, rfl, rfl, rfl⟩
theorem Gd.nil (G : Gd K mg) (H : Hp) : TiA K H (.ref G.eT) [] := by
  obtain ⟨o, n, h1, h2, h3⟩ := G.eTv
  exact ⟨_, rfl, .inr ⟨o, #[], n, h1, h2, h3, Nat.zero_le _, .nil⟩⟩
end
/-! ### the lambdas -/
def qLam : Str := (envOfC "law" (defScope sLaw) 0 0 .none).qual ++ "<lambda>"
def lawB : List Stmt := defBody sLaw
abbrev lamW : Expr := callA (cmpL (ifC ((forB (lawB.getD 7 noS)).getD 0 noS)))
abbrev lamC : Expr := callA (cmpL (ifC ((forB (lawB.getD 8 noS)).getD 0 noS)))
abbrev fW : List Str := ["_law_tariff_here", "_law_wrong"]
abbrev fC : List Str := ["_law_shutet", "_law_first", "_law_last"]
theorem scLW : NScope fW [] fW (lamS lamW) := nscope_by (by decide +kernel)
theorem scLC : NScope fC [] fC (lamS lamC) := nscope_by (by decide +kernel)
theorem hfW : ∀ y ∈ (lamS lamW).names, y.2 = .free → (defScope sLaw).names.lookup y.1 = some .cell ∨ (defScope sLaw).names.lookup y.1 = some .free := by decide +kernel
theorem hfC : ∀ y ∈ (lamS lamC).names, y.2 = .free → (defScope sLaw).names.lookup y.1 = some .cell ∨ (defScope sLaw).names.lookup y.1 = some .free := by decide +kernel
theorem hrW : ∀ y ∈ fW, (y, NameKind.free) ∈ (lamS lamW).names := by decide +kernel
theorem hrC : ∀ y ∈ fC, (y, NameKind.free) ∈ (lamS lamC).names := by decide +kernel
abbrev Gd.tb {K : PySem.W.Frag} {mg : Str → Option Value} (G : Gd K mg) : List (Addr × Str) := [(G.Ps, qStp), (G.Pr, qRpd), (G.Pt, qLam)]
/-- only InvalidCount leaves -/
abbrev onlyN (cN : Addr) (E : XK) : XK := fun cls d H => E cls d H ∧ cls = .ref cN
theorem noStopN {K : PySem.W.Frag} {cN : Addr} {E : XK} (h : PySem.W.subIn K (.ref cN) (.type "StopIteration") = some false) : NoStop K (onlyN cN E) := fun cls d H ⟨_, e⟩ => by rw [e]; exact h
def tsW (K : PySem.W.Frag) (C cN : Addr) : TSp := fun ws H _ E => ∃ (t p : Addr) (L : List (Int × Int)) (d : Int), ws = [some (.ref t), some (.int d)] ∧ Tar K C H t p L ∧ ¬ (0 ≤ d ∧ d ≤ 1000000000000000000) ∧ ∀ H', Same H H' → E (.ref cN) none H'
def tsC (K : PySem.W.Frag) (C CT CW Pc cN : Addr) : TSp := fun ws H _ E => ∃ (x El t p : Addr) (L : List (Int × Int)) (c : Ct) (es : List Ct) (f l : Int), ws = [some (.ref x), some (.int f), some (.int l)] ∧ WlA K C CT CW H x El t p L c es ∧ GxR.TabG H Pc ∧ L.length ≤ 1000 ∧ BtOk L c.bt ∧ ¬ cdOk f l ∧ ∀ H', Same H H' → E (.ref cN) none H'
section
variable {P : Program} {w : World} {K : PySem.W.Frag} {mg : Str → Option Value} {base : Heap} {f c : Addr} {cl : List (Str × Addr)}
theorem lokW (G : Gd K mg) : LOk P w K mg base (L2.CX P w) 5 f (mkF qLam lamW cl c .none) fW (tsW K G.C G.cN) := by
  refine lok_of0 (k := 4) scLW (fun _ _ _ => rfl) fun A outer s H ws Q E hr hl h => ?_
  obtain ⟨t, p, L, d, rfl, ta, no, q⟩ := h
  refine ⟨_, pe_makeK (E := E) G.TW.mkW (ok_wi (C := G.C) (k := 0) G.TW) (hr.mono (by omega)) (by rfl) G.TW.gW (kb_Wi G.TW) (passes_call (takes_of rfl rfl rfl rfl) (fun _ _ _ _ h => h)) (pa_cons (pv 0) pa_nil) (pk_cons (pv 1) pk_nil), ?_⟩
  exact mkW_go (p := p) (L := L) (d := d) (ev_var rfl) (ea_cons (ev_var rfl) ea_nil) fun H1 e1 => ⟨ta.same e1, fun yes => absurd yes no, fun _ H2 s2 => q H2 (e1.trans s2)⟩
theorem g_cd (G : Gd K mg) (TC : GxR.TabB base mg G.xCd G.Pc) : GFn P w K mg base 6 G.fCd G.dCd ["self", "first", "last"] (spCd K G.C G.CT G.CW G.Pc G.cN) ∧ CFn P w K mg base 6 G.fCd G.dCd ["self", "first", "last"] (spCd K G.C G.CT G.CW G.Pc G.cN) := by
  obtain ⟨oc, od, kV, doc, pm, ct, an, osl, e, lk, hcd⟩ := G.kCd
  rw [e]
  exact both_cd (dL := G.dL) G.TW G.X G.pL_ G.uL TC lk hcd
theorem lokC (G : Gd K mg) (TC : GxR.TabB base mg G.xCd G.Pc) : LOk P w K mg base (L2.CX P w) 10 f (mkF qLam lamC cl c .none) fC (tsC K G.C G.CT G.CW G.Pc G.cN) := by
  refine lok_of0 (k := 9) scLC (fun _ _ _ => rfl) fun A outer s H ws Q E hr hl h => ?_
  obtain ⟨x, El, t, p, L, c, es, fi, la, rfl, wl, tg, lL, ok, no, q⟩ := h
  refine ⟨_, pe_listG (E := onlyN G.cN E) (pgen_meth (E := onlyN G.cN E) (pv 0) G.TW.clW G.mCd (g_cd G TC).1 (hr.mono (by decide)) G.bCd .nil (pa_cons (pv 1) (pa_cons (pv 2) pa_nil))) (passes_call (takes_of rfl rfl rfl rfl) (fun _ _ _ _ h => h.1)) (noStopN G.nSt) (hr.mono (by decide)) (by rfl) G.m_list (by rfl), ?_⟩
  obtain ⟨⟨dx, co, hx, _⟩, _⟩ := id wl
  exact ⟨_, rfl, x, dx, _, rfl, hx, rfl, _, rfl, _, rfl, x, El, t, p, L, c, es, fi, la, rfl, wl, tg, lL, ok, fun okd => absurd okd no, fun _ H' s' => ⟨q H' s', rfl⟩⟩
theorem g_rp (G : Gd K mg) : FnR P w K mg base (L2.CX P w) 6 G.fRp (spRpS K G.C G.CT G.CW G.cN G.cU G.cNp G.cIo) := ok_rp G.TW G.M G.X G.Q G.IO G.m_enumerate G.uRp
theorem g_ag (G : Gd K mg) (TC : GxR.TabB base mg G.xCd G.Pc) : FnOk P w K mg base CX0 8 G.fAg G.dAg ["_law_w", "_law_shutet"] (spAg K G.C G.CT G.CW G.Pc) := ok_ag G.uAg G.TM G.TW G.M (g_cd G TC).2 G.mCd G.bCd
theorem g_stp (G : Gd K mg) (TB : TabB base mg G.xStp G.Ps) : FnOk P w K mg base CX0 7 G.fStp G.dStp ["_law_state", "_law_w", "_law_shutet", "_law_travel"] (spStp K G.C G.CT G.CW G.CV G.Pc G.tb) := by
  obtain ⟨oc, od, kV, doc, pm, ct, an, osl, e, lk, hcd⟩ := G.kStp_
  rw [e]
  refine ok_stp lk hcd TB (List.mem_cons_self) (fun p hp z => ?_) G.n1 G.DN G.SM G.OU G.TS G.TM G.TW G.M G.X G.Q G.TV G.Y
  simp only [List.mem_cons, List.not_mem_nil, or_false] at hp
  rcases hp with rfl | rfl | rfl
  · rfl
  · exact absurd z G.n4
  · exact absurd z G.n5
theorem g_rpd (G : Gd K mg) (TB : TabB base mg G.xRpd G.Pr) : FnOk P w K mg base CX0 9 G.fRpd G.dRpd ["_law_tariff_here", "_law_date"] (spRpd K G.C G.tb) := by
  obtain ⟨oc, od, kV, doc, pm, ct, an, osl, e, lk, hcd⟩ := G.kRpd_
  rw [e]
  refine ok_rpd lk hcd TB (by simp) (fun p hp z => ?_) G.OU G.TS G.TW G.M G.cr G.cm (g_rp G)
  simp only [List.mem_cons, List.not_mem_nil, or_false] at hp
  rcases hp with rfl | rfl | rfl
  · exact absurd z.symm G.n4
  · rfl
  · exact absurd z G.n6
end
end Sea

set_option Elab.async false
set_option linter.all false
set_option maxRecDepth 100000
set_option maxHeartbeats 4000000
/-! the law -/
namespace Sea
open PySem PySem.Spec PyProof.Rows L2 LamX NdefX ClX Evl StX
abbrev NL : List Str := ["_law_script", "_law_state", "_law_passes_here", "_law_length", "_law_days_here", "_law_tariff_here", "_law_travel", "_law_date", "_law_w", "_law_shutet", "_law_turn", "_law_wrong", "_law_first", "_law_last"]
theorem scLaw : FnScope NL ["_law_script"] (defScope sLaw) := ⟨rfl, rfl, rfl, by decide +kernel, rfl, by decide +kernel, by decide +kernel⟩
def spLaw (K : PySem.W.Frag) (T : List (Addr × Str)) (Pc : Addr) : Sp := fun vs H Q _ => ∃ (a : Addr) (ns : List Int), vs = [.ref a] ∧ SqL K H a (ns.map V.int) ∧ ns.length ≤ 63 ∧ (∀ p ∈ T, H p.1 = some (.tbl #[])) ∧ H Pc = some (.tbl #[]) ∧ ∀ H', Q (.bl true) H'
/-- what is out of covered_days' range -/
def badR : List (Int × Int) := [(-1, 3), (5, 4), (7, 10007), (1000000000000000000, 1000000000000000001), (1000000000000000001, 1000000000000000001)]
theorem badR_no : ∀ z ∈ badR, ¬ cdOk z.1 z.2 := by
  intro z hz
  simp only [badR, List.mem_cons, List.not_mem_nil, or_false] at hz
  rcases hz with rfl | rfl | rfl | rfl | rfl <;> (rintro ⟨⟨h1, h2⟩, h3, h4⟩; first | omega | (simp at h4))
theorem ev_p17 {σ : L2.St} {H : Hp} : Ev (tOp (rI CPow fun i j => .int (i ^ j.toNat)) (tC (.int 10)) (tC (.int 17))) σ H (.int 100000000000000000) := ev_is (ev_op ev_c ev_c (rv_I (C := CPow) (g := fun i j => .int (i ^ j.toNat)) (i := 10) (j := 17) ⟨by decide, by decide, by decide⟩)) (by decide +kernel)
theorem pw18 : (10 : Int) ^ (18 : Int).toNat = 1000000000000000000 := by decide +kernel
theorem Ds.mx {K : PySem.W.Frag} {H : Hp} {h c : Addr} (d : Ds K H h c) : Mx [h] H := fun a ha o e => by
  obtain ⟨p, m, r, ns, _, eh, _⟩ := d
  rw [List.mem_singleton.mp ha, eh] at e
  cases e
  exact .inl ⟨_, rfl⟩
theorem Kh.bu {H H' : Hp} {h : Addr} (k : Kh h H H') : But [h] H H' := fun a o e n => k a o e fun z => n (List.mem_singleton.mpr z)
theorem dp_ps {K : PySem.W.Frag} {H : Hp} : ∀ {L : List (Int × Int)} {xs : List V}, DpAll K H xs (L.map fun z => .tuple [.int z.1, .int z.2]) → PsV K H xs L
  | [], _, h => by
    cases h
    exact .nil
  | z :: L, _, h => by
    cases h with
    | cons a b =>
      cases a with
      | tup sq da =>
        cases da with
        | cons a1 r1 =>
          cases r1 with
          | cons a2 r2 =>
            cases a1
            cases a2
            cases r2
            exact .cons ⟨_, rfl, sq⟩ (dp_ps b)
section
variable {K : PySem.W.Frag} {σ : L2.St} {H : Hp} {te : TE} {g : TG} {tu : TS} {D : Ends}
/-- over a new tuple of whole numbers -/
theorem s_forNT {xs : List V} (h : EvU te σ H xs) (Pv : Addr → Nat → L2.St → Hp → Prop) (h0 : ∀ p H1, Ex H H1 → H1 p = some (.tup xs) → Pv p 0 σ H1) (hl : ∀ p i σ' H', i ≤ xs.length → Pv p i σ' H' → SqT K H' p xs)
    (hs : ∀ p i x σ' H', xs[i]? = some x → Pv p i σ' H' → g x σ' H' fun σ2 H2 => tu { D with nx := Pv p (i + 1), ct := Pv p (i + 1), bk := D.nx } σ2 H2) (hd : ∀ p σ' H', Pv p xs.length σ' H' → D.nx σ' H') : tFor (iTup K te) g tu D σ H :=
  h H (Ex.refl H) _ fun p H1 np e hp => ⟨p, rfl, ⟨xs, .of hp⟩, for_tup (Pv p) (h0 p H1 e hp) (hl p) (hs p) (hd p)⟩
/-- .. of pairs -/
theorem s_forPT {L : List (Int × Int)} (h : EvDp K te σ H (.tuple (L.map fun z => .tuple [.int z.1, .int z.2]))) (Pv : Addr → List V → Nat → L2.St → Hp → Prop) (h0 : ∀ p xs H1, Ex H H1 → SqT K H1 p xs → PsV K H1 xs L → Pv p xs 0 σ H1) (hl : ∀ p xs i σ' H', i ≤ xs.length → Pv p xs i σ' H' → SqT K H' p xs)
    (hs : ∀ p xs i x σ' H', xs[i]? = some x → Pv p xs i σ' H' → g x σ' H' fun σ2 H2 => tu { D with nx := Pv p xs (i + 1), ct := Pv p xs (i + 1), bk := D.nx } σ2 H2) (hd : ∀ p xs σ' H', Pv p xs xs.length σ' H' → D.nx σ' H') : tFor (iTup K te) g tu D σ H :=
  h H (Ex.refl H) _ fun v H1 e dv => by
    cases dv with
    | @tup a xs _ sq da => exact ⟨_, rfl, ⟨xs, sq⟩, for_tup (Pv a xs) (h0 _ _ H1 e sq (dp_ps da)) (hl _ _) (hs _ _) (hd _ _)⟩
end
theorem okP_1 {z : Int × Int} (h : okP z = true) : 1 ≤ z.1 := by
  unfold okP at h
  rw [Bool.and_eq_true, Bool.and_eq_true, Bool.and_eq_true] at h
  exact of_decide_eq_true h.1.1
/-- what is drawn first -/
structure Lw (K : PySem.W.Frag) (C CV Pc : Addr) (T : List (Addr × Str)) (h c l : Addr) (ws : List V) (L : List (Int × Int)) (t p tv : Addr) (ln : Int) (dv ov : V) (ds : List Int) (H : Hp) : Prop where
  d : Ds K H h c
  tb : Tabs T H
  tg : GxR.TabG H Pc
  ap : Ap K h c [l]
  hl : H l = some (.lst ws)
  ps : PsV K H ws L
  ta : Tar K C H t p L
  tv : Tv K CV H tv ln dv ov ds []
section
variable {K : PySem.W.Frag} {C CV Pc : Addr} {T : List (Addr × Str)} {h c l : Addr} {ws : List V} {L : List (Int × Int)} {t p tv : Addr} {ln : Int} {dv ov : V} {ds : List Int} {H H' : Hp}
theorem Lw.same (s : Lw K C CV Pc T h c l ws L t p tv ln dv ov ds H) (e : Same H H') : Lw K C CV Pc T h c l ws L t p tv ln dv ov ds H' :=
  ⟨s.d.same e, tabs_same s.tb e, TabG.same s.tg e, s.ap, e _ _ s.hl, s.ps.tk (.same e), s.ta.same e, s.tv.same e⟩
theorem Lw.draw (s : Lw K C CV Pc T h c l ws L t p tv ln dv ov ds H) (k : Kh h H H') (d : Ds K H' h c) : Lw K C CV Pc T h c l ws L t p tv ln dv ov ds H' := by
  have mx := s.d.mx
  have b := k.bu
  obtain ⟨p0, m, r, ns, _, eh, _⟩ := id s.d
  have ins : ∀ {a C dx : Addr} {fs : List (Str × V)}, H a = some (.ins C dx fs) → H' a = some (.ins C dx fs) := fun e => k _ _ e fun z => by
    rw [z, eh] at e
    cases e
  refine ⟨d, mx.tabs b s.tb, mx.tabG b s.tg, s.ap, k _ _ s.hl (s.ap.1 l (by simp)), s.ps.tk (mx.tk b), ?_, ?_⟩
  · obtain ⟨⟨dx, h1⟩, h2⟩ := s.ta
    exact ⟨⟨dx, ins h1⟩, h2.tk (mx.tk b)⟩
  · obtain ⟨⟨dx, h1⟩, h2, h3⟩ := s.tv
    exact ⟨⟨dx, ins h1⟩, h2.tk (mx.tk b), h3.tk (mx.tk b)⟩
end
section
variable {P : Program} {w : World} {K : PySem.W.Frag} {mg : Str → Option Value} {base : Heap}
theorem ok_law {f cc : Addr} {oc kV doc pm ct : Value} {od an : Option Addr} {osl : Array (Option Value)} (G : Gd K mg) (lk : K.lookup f = some ⟨oc, od, .func (PySem.W.fnOf "law" "law" (defArgs sLaw) (defBody sLaw) (defScope sLaw) .none kV doc pm an (.ref cc) ct), osl⟩)
    (hcd : PySem.W.codeIn K (.ref cc) "law" = true) (TC : GxR.TabB base mg G.xCd G.Pc) (TS : TabB base mg G.xStp G.Ps) (TR : TabB base mg G.xRpd G.Pr) (TB : TabB base mg cc G.Pt) : FnOk P w K mg base CX0 12 f (PySem.W.fnOf "law" "law" (defArgs sLaw) (defBody sLaw) (defScope sLaw) .none kV doc pm an (.ref cc) ct) ["_law_script"] (spLaw K G.tb G.Pc) := by
  obtain ⟨dsT, rT, bT⟩ := G.bTv0
  have hTm : (G.Pt, qLam) ∈ G.tb := by simp
  have hTu : ∀ p ∈ G.tb, p.1 = G.Pt → p.2 = qLam := fun p hp z => by
    simp only [List.mem_cons, List.not_mem_nil, or_false] at hp
    rcases hp with rfl | rfl | rfl
    · exact absurd z.symm G.n5
    · exact absurd z.symm G.n6
    · rfl
  have nT : ∀ p ∈ G.tb, p.1 ≠ G.Pc := fun p hp => by
    simp only [List.mem_cons, List.not_mem_nil, or_false] at hp
    rcases hp with rfl | rfl | rfl
    · exact G.n1
    · exact G.n2
    · exact G.n3
  refine fn_of (N := NL) lk hcd scLaw (fun vs H Q E h => ?_) (fun A outer s0 H vs Q E hr h => ?_)
  · obtain ⟨a, ns, rfl, _⟩ := h
    rfl
  · have hu := hr.units
    have h1 := hr.mono (show 1 ≤ 11 by decide)
    obtain ⟨a0, ns, rfl, hS, hlen, hTb, hPc, q⟩ := h
    suffices hh : ∃ t', PSs (cxOf CX0 P w K mg base NL "law" (defScope sLaw) f (.ref cc) A outer s0 H E).nox (defBody sLaw) t' ∧ t' { nx := fun _ H' => Q .non H', rt := Q } (start NL [.ref a0]) H by
      obtain ⟨t', ht, hq⟩ := hh
      exact ⟨t', ht.nox, hq⟩
    refine ⟨_, (pss_cut (ps_set (i := 1) scLaw.nd rfl (.inl rfl) (pe_call (E := E0) (ok_start (k := 0) G.uSt) (hr.mono (by decide)) (by rfl) G.gSt G.kSt G.bSt .nil pass0 (pa_cons (pv 0) pa_nil)))
      (pss_cut (ps_asg (pe_tup (pa_cons (pe_call (E := E0) (ok_pas (k := 0) G.uPas G.DN G.m_range) (hr.mono (by decide)) (by rfl) G.gPas G.kPas G.bPas .nil pass0 (pa_cons (pv 1) (pa_cons pe_int pa_nil))) (pa_cons (pe_call (E := E0) (ok_day (k := 0) G.uDay G.DN G.m_range G.m_tuple) (hr.mono (by decide)) (by rfl) G.gDay G.kDay G.bDay .nil pass0 (pa_cons (pv 1) pa_nil)) pa_nil))) (pg_tup rfl (pgs_cons (pg_name (i := 2) scLaw.nd rfl (.inl rfl)) (pgs_cons (pg_tup rfl (pgs_cons (pg_name (i := 3) scLaw.nd rfl (.inl rfl)) (pgs_cons (pg_name (i := 4) scLaw.nd rfl (.inl rfl)) pgs_nil))) pgs_nil))))
      (pss_cut (ps_asg (pe_tup (pa_cons (pe_call (E := E0) (ok_tar G.uTar G.X G.I) (hr.mono (by decide)) (by rfl) G.gTar G.kTar G.bTar .nil passL (pa_cons (pv 2) pa_nil)) (pa_cons (pe_make (E := E0) G.mkV (ok_tvI G.uTv G.EV G.TV) (hr.mono (by decide)) (by rfl) G.TV.gC bT rT passL (pa_cons (pv 3) (pa_cons (pv 4) pa_nil))) pa_nil))) (pg_tup rfl (pgs_cons (pg_name (i := 5) scLaw.nd rfl (.inr rfl)) (pgs_cons (pg_name (i := 6) scLaw.nd rfl (.inl rfl)) pgs_nil))))
      (pss_cut (ps_set (i := 7) scLaw.nd rfl (.inl rfl) (pe_ixl (pe_lst (pa_cons pe_int (pa_cons (pe_dr G.DN h1 (by rfl) (pv 1) pe_int) (pa_cons (pe_op op_sub (pe_op op_pow pe_int pe_int) (pe_dr G.DN h1 (by rfl) (pv 1) pe_int)) pa_nil)))) (pe_dr G.DN h1 (by rfl) (pv 1) pe_int)))
      (pss_cut (ps_set (i := 8) scLaw.nd rfl (.inl rfl) (pe_disp (pps_cons pe_str (pv 2) (pps_cons pe_str (pv 7) (pps_cons pe_str (pe_lst pa_nil) (pps_cons pe_str (pe_lst pa_nil) pps_nil)))) rfl rfl (by simp) (by decide)))
      (pss_cut (ps_set (i := 9) scLaw.nd rfl (.inr rfl) (pe_makeK (E := E0) G.TW.mkW (ok_wi (C := G.C) (k := 0) G.TW) (hr.mono (by decide)) (by rfl) G.TW.gW (kb_Wi G.TW) passL (pa_cons (pv 5) pa_nil) (pk_cons (pv 7) pk_nil)))
      (pss_cut (ps_for PassesOwn.never rfl (pi_range1 (by rfl) G.m_range (pa_cons (pe_dr G.DN h1 (by rfl) (pv 1) pe_int) pa_nil)) (pg_name (i := 10) scLaw.nd rfl (.inl rfl))
        (pss_one (ps_if (PW.pt (pw_or (pt_not (pt_val (pe_call (E := E0) (g_stp G TS) (hr.mono (by decide)) (by rfl) G.gStp G.kStp G.bStp .nil pass0 (pa_cons (pv 1) (pa_cons (pv 8) (pa_cons (pv 9) (pa_cons (pv 6) pa_nil))))))) (pw_or1 (pt_not (pt_val (pe_call (E := E0) (g_ag G TC) (hr.mono (by decide)) (by rfl) G.gAg G.kAg G.bAg .nil pass0 (pa_cons (pv 8) (pa_cons (pv 9) pa_nil)))))))) (pss_one (ps_ret pe_bl)) pss_nil)))
      (pss_cut (ps_for PassesOwn.never rfl (pi_tup (pe_tup (pa_cons (pe_op op_sub pe_int pe_int) (pa_cons (pe_op op_add (pe_op op_pow pe_int pe_int) pe_int) pa_nil)))) (pg_name (i := 11) scLaw.nd rfl (.inr rfl))
        (pss_one (ps_if (pt_cmpR (op_neD hu) (pe_give (ok_out G.TS.uOu G.OU (Nat.le_refl 5)) rfl (hr.mono (by decide)) (by rfl) G.TS.gOu G.TS.kOu (pe_lamVB (T := G.tb) TB rfl hTm hTu hfW)) (pe_tup (pa_cons pe_str pa_nil)) (nomark _)) (pss_one (ps_ret pe_bl)) pss_nil)))
      (pss_cut (ps_for PassesOwn.never rfl (pi_tup (pe_tup (pa_cons (pe_tup (pa_cons (pe_op op_sub pe_int pe_int) (pa_cons pe_int pa_nil))) (pa_cons (pe_tup (pa_cons pe_int (pa_cons pe_int pa_nil))) (pa_cons (pe_tup (pa_cons pe_int (pa_cons pe_int pa_nil))) (pa_cons (pe_tup (pa_cons (pe_op op_pow pe_int pe_int) (pa_cons (pe_op op_add (pe_op op_pow pe_int pe_int) pe_int) pa_nil))) (pa_cons (pe_tup (pa_cons (pe_op op_add (pe_op op_pow pe_int pe_int) pe_int) (pa_cons (pe_op op_add (pe_op op_pow pe_int pe_int) pe_int) pa_nil))) pa_nil))))))) (pg_tup rfl (pgs_cons (pg_name (i := 12) scLaw.nd rfl (.inr rfl)) (pgs_cons (pg_name (i := 13) scLaw.nd rfl (.inr rfl)) pgs_nil)))
        (pss_one (ps_if (pt_cmpR (op_neD hu) (pe_give (ok_out G.TS.uOu G.OU (Nat.le_refl 10)) rfl (hr.mono (by decide)) (by rfl) G.TS.gOu G.TS.kOu (pe_lamVB (T := G.tb) TB rfl hTm hTu hfC)) (pe_tup (pa_cons pe_str pa_nil)) (nomark _)) (pss_one (ps_ret pe_bl)) pss_nil)))
      (pss_one (ps_ret (pe_call (E := E0) (g_rpd G TR) (hr.mono (by decide)) (by rfl) G.gRpd G.kRpd G.bRpd .nil pass0 (pa_cons (pv 5) (pa_cons (pe_dr G.DN h1 (by rfl) (pv 1) (pe_op op_pow pe_int pe_int)) pa_nil)))))))))))))), ?_⟩
    have ltz : ∀ {n : Nat}, n ≤ 1000 → n ≤ sizeLine := fun h => Nat.le_of_lt (small1000 h)
    -- the state
    refine ⟨fun σ H' => ∃ h : Addr, σ = ([some (.ref a0), some (.ref h), none, none, none, none, none, none, none, none, none, none, none, none] : L2.St) ∧ Ds K H' h a0 ∧ Tabs G.tb H' ∧ GxR.TabG H' G.Pc, ?_, ?_⟩
    · exact ⟨_, rfl, a0, ns, rfl, hS, hlen, fun h H' sm nh d => ⟨h, rfl, d, tabs_same (fun p hp => TabS.nil (hTb p hp)) sm, TabG.same ⟨#[], hPc, True.intro⟩ sm⟩⟩
    clear hTb hPc hS
    rintro σ H1 ⟨h, rfl, d1, T1, g1⟩
    -- passes, days
    refine ⟨fun σ H' => ∃ (l : Addr) (ws : List V) (L : List (Int × Int)) (ln : Int) (dv : V) (ds : List Int), σ = ([some (.ref a0), some (.ref h), some (.ref l), some (.int ln), some (dv), none, none, none, none, none, none, none, none, none] : L2.St) ∧ Ds K H' h a0 ∧ Tabs G.tb H' ∧ GxR.TabG H' G.Pc ∧ Ap K h a0 [l] ∧ H' l = some (.lst ws) ∧ PsV K H' ws L ∧ 1 ≤ L.length ∧ L.length ≤ 3 ∧ (∀ x ∈ L, okP x = true) ∧ TiA K H' dv ds ∧ 1 ≤ ln ∧ ln ≤ 14 ∧ Good ds (ln - 1) ∧ (ds.length : Int) ≤ ln, ?_, ?_⟩
    · refine ⟨_, rfl, h, a0, 3, rfl, by decide, by decide, d1, fun l ws L H2 d2 k2 nl hl ps m1 m3 okL => ⟨_, rfl, h, a0, rfl, d2, fun v ln ds H3 hpt l1 l2 gd nd d3 k3 => ⟨ltz (show 2 ≤ 1000 by decide), fun p np => ?_⟩⟩⟩
      obtain ⟨pa, dv, rfl, hpa, hda⟩ := hpt
      have s4 := same_new (o := .tup [.ref l, .ref pa]) np
      have T2 := d1.mx.tabs k2.bu T1
      have g2 := d1.mx.tabG k2.bu g1
      exact ⟨p, _, rfl, .of upd_same, rfl, _, _, rfl, _, _, rfl, pa, _, rfl, (TK.same s4) _ _ hpa, rfl, _, _, rfl, _, _, rfl, rfl, rfl, l, ws, L, ln, dv, ds, rfl, d3.same s4, tabs_same (d2.mx.tabs k3.bu T2) s4, TabG.same (d2.mx.tabG k3.bu g2) s4, Ap.new d1 nl, s4 _ _ (k3 _ _ hl (d1.nh nl)), (ps.tk (d2.tk k3)).tk (.same s4), m1, by omega, okL, hda.tk (.same s4), l1, l2, gd, nd⟩
    clear d1 T1 g1
    rintro σ H2 ⟨l, ws, L, ln, dv, ds, rfl, d2, T2, g2, ap, hl, ps, m1, m3, okL, hda, l1, l2, gd, nd⟩
    -- the tariff, the travel
    refine ⟨fun σ H' => ∃ t p tv : Addr, σ = ([some (.ref a0), some (.ref h), some (.ref l), some (.int ln), some (dv), some (.ref t), some (.ref tv), none, none, none, none, none, none, none] : L2.St) ∧ Lw K G.C G.CV G.Pc G.tb h a0 l ws L t p tv ln dv (.ref G.eT) ds H', ?_, ?_⟩
    · refine ⟨_, rfl, l, ws, L, rfl, hl, ps, m1, m3, okL, fun t p H3 s3 nt ta => ⟨_, rfl, _, rfl, fun x dx nx ndx _ => ?_⟩⟩
      refine tv_new (hda.tk (.same s3)) (G.nil _) (by omega) (Nat.zero_le _) (tbad_ok l1 l2 gd nd good_nil (Nat.zero_le _)) nx ndx fun H4 s4 tv => ⟨rfl, ltz (show 2 ≤ 1000 by decide), fun o no => ?_⟩
      have s5 := same_new (o := .tup [.ref t, .ref x]) no
      have s := Same.trans (Same.trans s3 s4) s5
      exact ⟨o, _, rfl, .of upd_same, rfl, _, _, rfl, _, _, rfl, rfl, t, p, x, rfl, d2.same s, tabs_same T2 s, TabG.same g2 s, ap, s _ _ hl, ps.tk (.same s), ta.same (Same.trans s4 s5), tv.same s5⟩
    clear d2 T2 g2 ap hl ps hda
    rintro σ H3 ⟨t, p, tv, rfl, w3⟩
    -- the day
    refine ⟨fun σ H' => ∃ d : Int, 0 ≤ d ∧ d ≤ 1000000000000000000 ∧ σ = ([some (.ref a0), some (.ref h), some (.ref l), some (.int ln), some (dv), some (.ref t), some (.ref tv), some (.int d), none, none, none, none, none, none] : L2.St) ∧ Lw K G.C G.CV G.Pc G.tb h a0 l ws L t p tv ln dv (.ref G.eT) ds H', ?_, ?_⟩
    · refine dr_in rfl ev_c (by decide) (by decide +kernel) w3.d fun a H4 a0' a1 d4 k4 => ⟨_, _, rfl, rfl, ⟨by decide, by decide, by decide⟩, dr_in rfl ev_c (by decide) (by decide +kernel) d4 fun b H5 b0 b1 d5 k5 => ⟨_, _, rfl, rfl, ltz (show 3 ≤ 1000 by decide), fun D nD => ?_⟩⟩
      have w5 := (w3.draw k4 d4).draw k5 d5
      rw [pw18]
      have w6 := w5.same (same_new (o := .lst [.int 0, .int a, .int (1000000000000000000 - b)]) nD)
      refine dr_in rfl ev_c (by decide) (by decide +kernel) w6.d fun i H7 i0 i1 d7 k7 => ?_
      obtain ⟨d, hd, hd3⟩ := pick3 0 a (1000000000000000000 - b) i i0 i1
      exact ⟨D, _, _, .int d, rfl, rfl, .of (k7 _ _ upd_same (d5.nh nD)), hd, d, by omega, by omega, rfl, w6.draw k7 d7⟩
    clear w3
    rintro σ H4 ⟨d, dd0, dd1, rfl, w4⟩
    -- the model
    refine ⟨fun σ H' => ∃ w bl pa : Addr, σ = ([some (.ref a0), some (.ref h), some (.ref l), some (.int ln), some (dv), some (.ref t), some (.ref tv), some (.int d), some (.ref w), none, none, none, none, none] : L2.St) ∧ Lw K G.C G.CV G.Pc G.tb h a0 l ws L t p tv ln dv (.ref G.eT) ds H' ∧ MoA K H' w l pa bl [] L (ct0 d) [] ∧ Ap K h a0 [w, l, pa, bl], ?_, ?_⟩
    · intro w nw
      refine ⟨_, rfl, _, rfl, ltz (show 0 ≤ 1000 by decide), fun bl nbl => ⟨ltz (show 0 ≤ 1000 by decide), fun pa npa => ?_⟩⟩
      have wb : bl ≠ w := fun z => by
        rw [z, upd_same] at nbl
        cases nbl
      have nbl0 : H4 bl = none := by rwa [upd_ne wb] at nbl
      have pb : pa ≠ bl := fun z => by
        rw [z, upd_same] at npa
        cases npa
      have pw : pa ≠ w := fun z => by
        rw [z, upd_ne wb.symm, upd_same] at npa
        cases npa
      have npa0 : H4 pa = none := by rwa [upd_ne pb, upd_ne pw] at npa
      refine ⟨?_, moD l d bl pa, rfl, by show (4 : Nat) ≤ 15; decide, ?_⟩
      · rw [upd_ne pw.symm, upd_ne wb.symm]
        exact upd_same
      have e : mergeK [] (moD l d bl pa) = moD l d bl pa := rfl
      rw [e]
      have s : Same H4 (upd (upd (upd (upd H4 w (.dK [])) bl (.lst [])) pa (.lst [])) w (.dK (moD l d bl pa))) := fun b o e => by
        rw [upd_ne (ne_of_none e nw), upd_ne (ne_of_none e npa0), upd_ne (ne_of_none e nbl0), upd_ne (ne_of_none e nw)]
        exact e
      have hw : (upd (upd (upd (upd H4 w (.dK [])) bl (.lst [])) pa (.lst [])) w (.dK (moD l d bl pa))) w = some (.dK (moD l d bl pa)) := upd_same
      have hb : (upd (upd (upd (upd H4 w (.dK [])) bl (.lst [])) pa (.lst [])) w (.dK (moD l d bl pa))) bl = some (.lst []) := by
        rw [upd_ne wb, upd_ne pb.symm]
        exact upd_same
      have hp : (upd (upd (upd (upd H4 w (.dK [])) bl (.lst [])) pa (.lst [])) w (.dK (moD l d bl pa))) pa = some (.lst []) := by
        rw [upd_ne pw]
        exact upd_same
      revert s hw hb hp
      generalize upd (upd (upd (upd H4 w (.dK [])) bl (.lst [])) pa (.lst [])) w (.dK (moD l d bl pa)) = H5
      intro s hw hb hp
      have w5 := w4.same s
      refine ⟨w, bl, pa, rfl, w5, ⟨hw, ⟨ws, w5.hl, w5.ps⟩, ⟨[], hb, .nil⟩, ⟨[], hp, .nil⟩, ?_⟩, ?_⟩
      · have z1 := ne_of_none w4.hl npa0
        have z2 := ne_of_none w4.hl nbl0
        simp [z1, z2, pb]
      · exact ((Ap.new w4.d nw).app w4.ap).app ((Ap.new w4.d npa0).app (Ap.new w4.d nbl0))
    clear w4
    rintro σ H5 ⟨w, bl, pa, rfl, w5, mo5, ap5⟩
    have fxd : ∀ x El, FxOk ⟨h, a0, x, El, t, p, w, l, pa, tv, L, ln, dv, .ref G.eT, ds⟩ := fun x El => ⟨l1, m1, m3, fun z hz => okP_1 (okL z hz)⟩
    -- the wallet
    refine ⟨fun σ H' => ∃ x El : Addr, σ = ([some (.ref a0), some (.ref h), some (.ref l), some (.int ln), some (dv), some (.ref t), some (.ref tv), some (.int d), some (.ref w), some (.ref x), none, none, none, none] : L2.St) ∧ St5 K G.C G.CT G.CW G.CV G.Pc G.tb ⟨h, a0, x, El, t, p, w, l, pa, tv, L, ln, dv, .ref G.eT, ds⟩ bl [] (ct0 d) [] (ct0 d) [] H', ?_, ?_⟩
    · refine mkW_go (p := p) (L := L) (d := d) (ev_var rfl) (ea_cons (ev_var rfl) ea_nil) fun H6 e6 => ⟨w5.ta.same e6, fun _ x El H7 s7 nx nEl wl => ?_, fun no => absurd ⟨dd0, dd1⟩ no⟩
      have w6 := w5.same e6
      have mo6 := mo5.same e6
      obtain ⟨⟨dxv, hv⟩, _⟩ := id w6.tv
      refine ⟨x, El, rfl, w6.d.same s7, mo6.same s7, wl, w6.tv.same s7, ne_of_none hv nx, ?_, fun z => ?_, TabG.same w6.tg s7, tabs_same w6.tb s7⟩
      · refine (((Ap.new w6.d nx).app (Ap.new w6.d nEl)).app ap5).sub fun b hb => ?_
        simp only [List.mem_cons, List.mem_append, List.not_mem_nil, or_false, false_or] at hb ⊢
        rcases hb with z | z | z | z | z | z
        · exact .inr (.inl z)
        · exact .inl (.inl z)
        · exact .inl (.inr z)
        · exact .inr (.inr (.inl z))
        · exact .inr (.inr (.inr (.inl z)))
        · exact .inr (.inr (.inr (.inr z)))
      · obtain ⟨xs, e⟩ := mo6.own _ z
        rw [nEl] at e
        cases e
    clear w5 mo5 ap5
    rintro σ H6 ⟨x, El, rfl, s6⟩
    have fx := fxd x El
    have wd0 : Wd L 0 (ct0 d) [] := ⟨.start dd0 dd1, (fun e he => nomatch he), Nat.le_refl _, Nat.le_refl _, (fun e he => nomatch he)⟩
    -- the turns
    refine ⟨fun σ H' => ∃ (v10 : Option V) (bl : Addr) (ls : List Addr) (c : Ct) (es : List Ct), σ = ([some (.ref a0), some (.ref h), some (.ref l), some (.int ln), some (dv), some (.ref t), some (.ref tv), some (.int d), some (.ref w), some (.ref x), v10, none, none, none] : L2.St) ∧ St5 K G.C G.CT G.CW G.CV G.Pc G.tb ⟨h, a0, x, El, t, p, w, l, pa, tv, L, ln, dv, .ref G.eT, ds⟩ bl ls c es c es H' ∧ Ok45 L c, ?_, ?_⟩
    · refine dr_in rfl ev_c (by decide) (by decide +kernel) s6.d fun n H7 n0 n1 d7 k7 => ⟨n, rfl, by omega, by omega, ?_⟩
      refine for_range (lo := 0) (n := n.toNat) (fun i σ H' => ∃ (v10 : Option V) (bl : Addr) (ls : List Addr) (c : Ct) (es : List Ct), σ = ([some (.ref a0), some (.ref h), some (.ref l), some (.int ln), some (dv), some (.ref t), some (.ref tv), some (.int d), some (.ref w), some (.ref x), v10, none, none, none] : L2.St) ∧ St5 K G.C G.CT G.CW G.CV G.Pc G.tb ⟨h, a0, x, El, t, p, w, l, pa, tv, L, ln, dv, .ref G.eT, ds⟩ bl ls c es c es H' ∧ Wd L i c es) ⟨none, bl, [], ct0 d, [], rfl, s6.draw k7 d7, wd0⟩ ?_ ?_
      · rintro i σ H8 hi ⟨v10, bl', ls', c', es', rfl, s8, wd⟩
        have i31 : i < 31 := by omega
        refine ⟨_, rfl, _, rfl, _, rfl, _, rfl, ⟨h, a0, x, El, t, p, w, l, pa, tv, L, ln, dv, .ref G.eT, ds⟩, bl', ls', c', es', i, rfl, s8, wd, fx, by omega, fun bl2 ls2 c2 es2 H9 s9 wd2 => ⟨true, rfl, ?_⟩⟩
        refine ite2 (fun z => by cases z) fun _ => ?_
        have lc2 := wd2.lc
        refine ⟨_, rfl, _, rfl, w, l, pa, bl2, x, El, t, p, ls2, L, c2, es2, es2, rfl, s9.mo, s9.wl, wd2.ok, s9.tg, by omega, by omega, fun H10 k10 t10 => ⟨true, rfl, ?_⟩⟩
        exact ite2 (fun z => by cases z) fun _ => ⟨_, bl2, ls2, c2, es2, rfl, s9.tbl nT k10 t10, wd2⟩
      · rintro σ H8 ⟨v10, bl', ls', c', es', rfl, s8, wd⟩
        exact ⟨v10, bl', ls', c', es', rfl, s8, wd.ok⟩
    clear s6 wd0
    rintro σ H7 ⟨v10, bl7, ls7, c7, es7, rfl, s7, ok7⟩
    -- days out of range
    refine ⟨fun σ H' => ∃ v11 : Option V, σ = ([some (.ref a0), some (.ref h), some (.ref l), some (.int ln), some (dv), some (.ref t), some (.ref tv), some (.int d), some (.ref w), some (.ref x), v10, v11, none, none] : L2.St) ∧ St5 K G.C G.CT G.CW G.CV G.Pc G.tb ⟨h, a0, x, El, t, p, w, l, pa, tv, L, ln, dv, .ref G.eT, ds⟩ bl7 ls7 c7 es7 c7 es7 H', ?_, ?_⟩
    · refine s_forNT (K := K) (xs := [V.int (-1), .int 1000000000000000001]) (eu_tup (ea_cons (ev_is (ev_op ev_c ev_c (rv_I0 (g := fun i j => .int (i - j)) (i := 0) (j := 1))) rfl) (ea_cons (ev_is (ev_op ev_p18 ev_c (rv_I0 (g := fun i j => .int (i + j)) (i := 1000000000000000000) (j := 1))) rfl) ea_nil)) (show 2 ≤ 100000 by decide)) (fun o _ σ H' => (∃ v11 : Option V, σ = ([some (.ref a0), some (.ref h), some (.ref l), some (.int ln), some (dv), some (.ref t), some (.ref tv), some (.int d), some (.ref w), some (.ref x), v10, v11, none, none] : L2.St) ∧ St5 K G.C G.CT G.CW G.CV G.Pc G.tb ⟨h, a0, x, El, t, p, w, l, pa, tv, L, ln, dv, .ref G.eT, ds⟩ bl7 ls7 c7 es7 c7 es7 H') ∧ H' o = some (.tup [V.int (-1), .int 1000000000000000001])) (fun o H8 e8 ho => ⟨⟨none, rfl, s7.same e8⟩, ho⟩) (fun o i σ' H' _ z => .of z.2) ?_ (fun o σ' H' z => z.1)
      rintro o i y σ' H8 hy ⟨⟨v11, rfl, s8⟩, ho⟩
      obtain ⟨z, rfl, hz⟩ : ∃ z : Int, y = .int z ∧ ¬ (0 ≤ z ∧ z ≤ 1000000000000000000) := by
        match i, hy with
        | 0, hy => cases hy; exact ⟨-1, rfl, by decide⟩
        | 1, hy => cases hy; exact ⟨1000000000000000001, rfl, by decide⟩
      refine ⟨s8.tb, fun f1 c1 H9 bu9 eN9 T9 nf hf hc => ⟨f1, _, fW, [5, 11], _, rfl, lokW G, hf, hc, (fun t z => by cases z), (fun ok => Caps.made ok hfW hrW rfl), ?_⟩⟩
      have s9 := s8.lam hTm G.n3 bu9 eN9 T9
      refine ⟨t, p, L, z, rfl, s9.wl.ta, hz, fun H10 e10 => .inl ⟨rfl, fun r H11 e11 nr hr => ⟨ltz (show 1 ≤ 1000 by decide), fun o2 no2 => ?_⟩⟩⟩
      have e12 := same_new (o := .tup [.str "InvalidCount"]) no2
      refine ⟨.tuple [.str "InvalidCount"], .tuple [.str "InvalidCount"], .tup (.of (e12 _ _ hr)) (.cons (.str _) .nil), .tup (.of upd_same) (.cons (.str _) .nil), by decide +kernel, by decide +kernel, _, rfl, ite2 (fun hb => ?_) fun _ => ?_⟩
      · rw [eqv_self _ (by decide +kernel)] at hb
        cases hb
      · exact ⟨⟨_, rfl, ((s9.same e10).same e11).same e12⟩, e12 _ _ (e11 _ _ (e10 _ _ (eN9 _ _ ho (fun ps z => by cases z))))⟩
    clear s7
    rintro σ H8 ⟨v11, rfl, s8⟩
    -- ranges out of range
    refine ⟨fun σ H' => ∃ v12 v13 : Option V, σ = ([some (.ref a0), some (.ref h), some (.ref l), some (.int ln), some (dv), some (.ref t), some (.ref tv), some (.int d), some (.ref w), some (.ref x), v10, v11, v12, v13] : L2.St) ∧ St5 K G.C G.CT G.CW G.CV G.Pc G.tb ⟨h, a0, x, El, t, p, w, l, pa, tv, L, ln, dv, .ref G.eT, ds⟩ bl7 ls7 c7 es7 c7 es7 H', ?_, ?_⟩
    · have two : ∀ {σ : L2.St} {H : Hp} {ta tb : TE} {i j : Int}, Ev ta σ H (.int i) → Ev tb σ H (.int j) → EvDp K (tTup (tCons ta (tCons tb tNil))) σ H (.tuple [.int i, .int j]) := fun a b => edp_tup (eda_cons (edp_int a) (eda_cons (edp_int b) eda_nil)) (show 2 ≤ 1000 by decide)
      have p19 : ∀ {σ : L2.St} {H : Hp}, Ev (tOp (rI0 fun i j => .int (i + j)) (tOp (rI CPow fun i j => .int (i ^ j.toNat)) (tC (.int 10)) (tC (.int 18))) (tC (.int 1))) σ H (.int 1000000000000000001) := ev_is (ev_op ev_p18 ev_c (rv_I0 (g := fun i j => .int (i + j)) (i := 1000000000000000000) (j := 1))) rfl
      refine s_forPT (K := K) (L := badR) (edp_tup (eda_cons (two (ev_is (ev_op ev_c ev_c (rv_I0 (g := fun i j => .int (i - j)) (i := 0) (j := 1))) rfl) ev_c) (eda_cons (two ev_c ev_c) (eda_cons (two ev_c ev_c) (eda_cons (two ev_p18 p19) (eda_cons (two p19 p19) eda_nil))))) (show 5 ≤ 1000 by decide)) (fun o xs _ σ H' => (∃ v12 v13 : Option V, σ = ([some (.ref a0), some (.ref h), some (.ref l), some (.int ln), some (dv), some (.ref t), some (.ref tv), some (.int d), some (.ref w), some (.ref x), v10, v11, v12, v13] : L2.St) ∧ St5 K G.C G.CT G.CW G.CV G.Pc G.tb ⟨h, a0, x, El, t, p, w, l, pa, tv, L, ln, dv, .ref G.eT, ds⟩ bl7 ls7 c7 es7 c7 es7 H') ∧ SqT K H' o xs ∧ PsV K H' xs badR) (fun o xs H9 e9 sq ps => ⟨⟨none, none, rfl, s8.same e9⟩, sq, ps⟩) (fun o xs i σ' H' _ z => z.2.1) ?_ (fun o xs σ' H' z => z.1)
      rintro o xs i y σ' H9 hy ⟨⟨v12, v13, rfl, s9⟩, sq, ps⟩
      obtain ⟨z, hz, r, rfl, hr⟩ := ps.get hy
      have hzm : z ∈ badR := List.mem_of_getElem? hz
      refine ⟨r, _, rfl, hr, rfl, _, _, rfl, _, _, rfl, rfl, ?_⟩
      refine ⟨s9.tb, fun f1 c1 H10 bu10 eN10 T10 nf hf hc => ⟨f1, _, fC, [9, 12, 13], _, rfl, lokC G TC, hf, hc, (fun t z => by cases z), (fun ok => Caps.made ok hfC hrC rfl), ?_⟩⟩
      have s10 := s9.lam hTm G.n3 bu10 eN10 T10
      refine ⟨x, El, t, p, L, c7, es7, z.1, z.2, rfl, s10.wl, s10.tg, by omega, ok7.bo, badR_no z hzm, fun H11 e11 => .inl ⟨rfl, fun r2 H12 e12 nr2 hr2 => ⟨ltz (show 1 ≤ 1000 by decide), fun o2 no2 => ?_⟩⟩⟩
      have e13 := same_new (o := .tup [.str "InvalidCount"]) no2
      refine ⟨.tuple [.str "InvalidCount"], .tuple [.str "InvalidCount"], .tup (.of (e13 _ _ hr2)) (.cons (.str _) .nil), .tup (.of upd_same) (.cons (.str _) .nil), by decide +kernel, by decide +kernel, _, rfl, ite2 (fun hb => ?_) fun _ => ?_⟩
      · rw [eqv_self _ (by decide +kernel)] at hb
        cases hb
      · have s := Same.trans (Same.trans e11 e12) e13
        exact ⟨⟨_, _, rfl, s10.same s⟩, (TK.same s) _ _ ((TK.extN eN10) _ _ sq), (ps.tk (.extN eN10)).tk (.same s)⟩
    clear s8
    rintro σ H9 ⟨v12, v13, rfl, s9⟩
    refine ⟨_, rfl, dr_in rfl ev_p17 (by decide) (by decide +kernel) s9.d fun v H10 v0 v1 d10 k10 => ?_⟩
    have s10 := s9.draw k10 d10
    exact ⟨t, p, L, v, rfl, s10.wl.ta, m1, m3, fx.ps, v0, by omega, s10.tb, fun H' => q H'⟩
end
end Sea

set_option Elab.async false
set_option linter.all false
set_option maxRecDepth 100000
set_option maxHeartbeats 8000000
namespace Sea
open PySem PySem.Spec PyProof.Rows L2 LamX NdefX ClX StX
theorem law_at {l : PySem.W.OpenLaw} {w : World} {K : PySem.W.Frag} {h : Heap} {mg : Str → Option Value} {fa cc : Addr} {oc kV doc pm ct : Value} {od an : Option Addr} {osl : Array (Option Value)} (X : K.In h) (G : Gd K mg)
    (hT : ∀ p ∈ [(G.xCd, G.Pc), (G.xStp, G.Ps), (G.xRpd, G.Pr), (cc, G.Pt)], h.get? p.2 = some { cls := .none, data := .fields #[] } ∧ K.lookup p.2 = none ∧ PySem.W.codeHdIn K p.1 p.2 = true)
    (lLaw : K.lookup fa = some ⟨oc, od, .func (PySem.W.fnOf "law" "law" (defArgs sLaw) (defBody sLaw) (defScope sLaw) .none kV doc pm an (.ref cc) ct), osl⟩) (cd_Law : PySem.W.codeIn K (.ref cc) "law" = true) : LawAtS l w K CX0 12 63 "_law_script" mg fa h := by
  refine ⟨PySem.W.fnOf "law" "law" (defArgs sLaw) (defBody sLaw) (defScope sLaw) .none kV doc pm an (.ref cc) ct, [(G.xCd, G.Pc), (G.xStp, G.Ps), (G.xRpd, G.Pr), (cc, G.Pt)], spLaw K G.tb G.Pc, fun p hp => (hT p hp).1, fun p hp => (hT p hp).2.1, fun p hp => PySem.W.codeHd_of_K X (hT p hp).2.2, fun s v => .of_eq rfl, fun H a ns hl _ hH hS => ⟨a, ns, rfl, hS, hl, fun p hp => ?_, hH (G.xCd, G.Pc) (by simp), fun _ => rfl⟩, fun base _ _ hB => ?_⟩
  · simp only [List.mem_cons, List.not_mem_nil, or_false] at hp
    rcases hp with rfl | rfl | rfl
    · exact hH (G.xStp, G.Ps) (by simp)
    · exact hH (G.xRpd, G.Pr) (by simp)
    · exact hH (cc, G.Pt) (by simp)
  · have t := hB (G.xCd, G.Pc) (by simp)
    exact ok_law (P := l.prog) (w := w) (base := base) G lLaw cd_Law ⟨t.code, t.bm, t.gP⟩ (hB (G.xStp, G.Ps) (by simp)) (hB (G.xRpd, G.Pr) (by simp)) (hB (cc, G.Pt) (by simp))
theorem all_mk {l : PySem.W.OpenLaw} {w : World} {K : PySem.W.Frag} {h : Heap} {mg : Str → Option Value} {fa : Addr} (X : K.In h) (Gn : h.Ns mainGlobals mg) (hfa : mg "law" = some (.ref fa))
    {C CV CT CW cP cI cV cU cN cNp cIo cc Pc Ps Pr Pt pP pL eT fI fV fT fTv fP fL fTo fItd fCt fWi fNp fIo fTd pTd fSp pSp fPu pPu fIc pIc fRe fBy fPd fPs fUn fRp pRp fCd xCd xStp xRpd fStp fRpd fVN fVP fVC fSt fD fSm fOu fPas fTar fDay fCv fKe fBu fMs fMd fMu fAg fLaw : Addr}
    {t0 : Tok} {t1 : Tok} {t2 : Tok} {u0 : Tok} {u1 : Tok} {u2 : Tok} {u3 : Tok} {u4 : Tok} {nmI qI : Str} {xNI : Addr} {xbsI xbmI xsubI : List Value} {xsnI : List Str} {xabI : Bool} {xcolI : Option Bool} {xddI : Option Addr} {xm0I xm1I xm2I xm3I xm5I : Option Value} {nmV qV : Str} {xNV : Addr} {xbsV xbmV xsubV : List Value} {xsnV : List Str} {xabV : Bool} {xcolV : Option Bool} {xddV : Option Addr} {xm0V xm1V xm2V xm3V xm5V : Option Value} {nmNp qNp : Str} {xNNp : Addr} {xbsNp xbmNp xsubNp : List Value} {xsnNp : List Str} {xabNp : Bool} {xcolNp : Option Bool} {xddNp : Option Addr} {xm0Np xm1Np xm2Np xm3Np xm5Np : Option Value} {nmIo qIo : Str} {xNIo : Addr} {xbsIo xbmIo xsubIo : List Value} {xsnIo : List Str} {xabIo : Bool} {xcolIo : Option Bool} {xddIo : Option Addr} {xm0Io xm1Io xm2Io xm3Io xm5Io : Option Value} {ocT : Value} {dcT : Value} {pmT : Value} {ctT : Value} {cdT : Value} {kVT : Value} {odT anT : Option Addr} {slT : Array (Option Value)} {ocI : Value} {dcI : Value} {pmI : Value} {ctI : Value} {cdI : Value} {kVI : Value} {odI anI : Option Addr} {slI : Array (Option Value)} {ocXV : Value} {dcXV : Value} {pmXV : Value} {ctXV : Value} {cdXV : Value} {kVXV : Value} {odXV anXV : Option Addr} {slXV : Array (Option Value)} {ocXNp : Value} {dcXNp : Value} {pmXNp : Value} {ctXNp : Value} {cdXNp : Value} {kVXNp : Value} {odXNp anXNp : Option Addr} {slXNp : Array (Option Value)} {ocXIo : Value} {dcXIo : Value} {pmXIo : Value} {ctXIo : Value} {cdXIo : Value} {kVXIo : Value} {odXIo anXIo : Option Addr} {slXIo : Array (Option Value)} {reP : List Value} {ocP : Value} {dcP : Value} {pmP : Value} {ctP : Value} {cdP : Value} {kVP : Value} {odP anP : Option Addr} {slP : Array (Option Value)} {reL : List Value} {ocL : Value} {dcL : Value} {pmL : Value} {ctL : Value} {cdL : Value} {kVL : Value} {odL anL : Option Addr} {slL : Array (Option Value)} {ocTv : Value} {dcTv : Value} {pmTv : Value} {ctTv : Value} {cdTv : Value} {odTv anTv : Option Addr} {slTv : Array (Option Value)} {kD : Addr} {eTd : Option Addr} {eTn : Nat} {eTs : Array (Option Value)} {ocTo : Value} {dcTo : Value} {pmTo : Value} {ctTo : Value} {cdTo : Value} {kVTo : Value} {odTo anTo : Option Addr} {slTo : Array (Option Value)} {ocItd : Value} {dcItd : Value} {pmItd : Value} {ctItd : Value} {cdItd : Value} {kVItd : Value} {odItd anItd : Option Addr} {slItd : Array (Option Value)} {ocCt : Value} {dcCt : Value} {pmCt : Value} {ctCt : Value} {cdCt : Value} {kVCt : Value} {odCt anCt : Option Addr} {slCt : Array (Option Value)} {ocWi : Value} {dcWi : Value} {pmWi : Value} {ctWi : Value} {cdWi : Value} {kVWi : Value} {odWi anWi : Option Addr} {slWi : Array (Option Value)} {reTd : List Value} {ocTd : Value} {dcTd : Value} {pmTd : Value} {ctTd : Value} {cdTd : Value} {kVTd : Value} {odTd anTd : Option Addr} {slTd : Array (Option Value)} {reSp : List Value} {ocSp : Value} {dcSp : Value} {pmSp : Value} {ctSp : Value} {cdSp : Value} {kVSp : Value} {odSp anSp : Option Addr} {slSp : Array (Option Value)} {rePu : List Value} {ocPu : Value} {dcPu : Value} {pmPu : Value} {ctPu : Value} {cdPu : Value} {kVPu : Value} {odPu anPu : Option Addr} {slPu : Array (Option Value)} {reIc : List Value} {ocIc : Value} {dcIc : Value} {pmIc : Value} {ctIc : Value} {cdIc : Value} {kVIc : Value} {odIc anIc : Option Addr} {slIc : Array (Option Value)} {ocRe : Value} {dcRe : Value} {pmRe : Value} {ctRe : Value} {cdRe : Value} {kVRe : Value} {odRe anRe : Option Addr} {slRe : Array (Option Value)} {ocBy : Value} {dcBy : Value} {pmBy : Value} {ctBy : Value} {cdBy : Value} {kVBy : Value} {odBy anBy : Option Addr} {slBy : Array (Option Value)} {ocPd : Value} {dcPd : Value} {pmPd : Value} {ctPd : Value} {cdPd : Value} {kVPd : Value} {odPd anPd : Option Addr} {slPd : Array (Option Value)} {ocPd2 : Value} {dcPd2 : Value} {pmPd2 : Value} {ctPd2 : Value} {cdPd2 : Value} {kVPd2 : Value} {odPd2 anPd2 : Option Addr} {slPd2 : Array (Option Value)} {ocUn : Value} {dcUn : Value} {pmUn : Value} {ctUn : Value} {cdUn : Value} {kVUn : Value} {odUn anUn : Option Addr} {slUn : Array (Option Value)} {ocCd : Value} {dcCd : Value} {pmCd : Value} {ctCd : Value} {kVCd : Value} {odCd anCd : Option Addr} {slCd : Array (Option Value)} {reRp : List Value} {ocRp : Value} {dcRp : Value} {pmRp : Value} {ctRp : Value} {cdRp : Value} {kVRp : Value} {odRp anRp : Option Addr} {slRp : Array (Option Value)} {ocVN : Value} {dcVN : Value} {pmVN : Value} {ctVN : Value} {cdVN : Value} {kVVN : Value} {odVN anVN : Option Addr} {slVN : Array (Option Value)} {ocVP : Value} {dcVP : Value} {pmVP : Value} {ctVP : Value} {cdVP : Value} {kVVP : Value} {odVP anVP : Option Addr} {slVP : Array (Option Value)} {ocVC : Value} {dcVC : Value} {pmVC : Value} {ctVC : Value} {cdVC : Value} {kVVC : Value} {odVC anVC : Option Addr} {slVC : Array (Option Value)} {ocSt : Value} {dcSt : Value} {pmSt : Value} {ctSt : Value} {cdSt : Value} {kVSt : Value} {odSt anSt : Option Addr} {slSt : Array (Option Value)} {ocD : Value} {dcD : Value} {pmD : Value} {ctD : Value} {cdD : Value} {kVD : Value} {odD anD : Option Addr} {slD : Array (Option Value)} {ocSm : Value} {dcSm : Value} {pmSm : Value} {ctSm : Value} {cdSm : Value} {kVSm : Value} {odSm anSm : Option Addr} {slSm : Array (Option Value)} {ocOu : Value} {dcOu : Value} {pmOu : Value} {ctOu : Value} {cdOu : Value} {kVOu : Value} {odOu anOu : Option Addr} {slOu : Array (Option Value)} {ocPas : Value} {dcPas : Value} {pmPas : Value} {ctPas : Value} {cdPas : Value} {kVPas : Value} {odPas anPas : Option Addr} {slPas : Array (Option Value)} {ocTar : Value} {dcTar : Value} {pmTar : Value} {ctTar : Value} {cdTar : Value} {kVTar : Value} {odTar anTar : Option Addr} {slTar : Array (Option Value)} {ocDay : Value} {dcDay : Value} {pmDay : Value} {ctDay : Value} {cdDay : Value} {kVDay : Value} {odDay anDay : Option Addr} {slDay : Array (Option Value)} {ocCv : Value} {dcCv : Value} {pmCv : Value} {ctCv : Value} {cdCv : Value} {kVCv : Value} {odCv anCv : Option Addr} {slCv : Array (Option Value)} {ocKe : Value} {dcKe : Value} {pmKe : Value} {ctKe : Value} {cdKe : Value} {kVKe : Value} {odKe anKe : Option Addr} {slKe : Array (Option Value)} {ocBu : Value} {dcBu : Value} {pmBu : Value} {ctBu : Value} {cdBu : Value} {kVBu : Value} {odBu anBu : Option Addr} {slBu : Array (Option Value)} {ocMs : Value} {dcMs : Value} {pmMs : Value} {ctMs : Value} {cdMs : Value} {kVMs : Value} {odMs anMs : Option Addr} {slMs : Array (Option Value)} {ocMd : Value} {dcMd : Value} {pmMd : Value} {ctMd : Value} {cdMd : Value} {kVMd : Value} {odMd anMd : Option Addr} {slMd : Array (Option Value)} {ocMu : Value} {dcMu : Value} {pmMu : Value} {ctMu : Value} {cdMu : Value} {kVMu : Value} {odMu anMu : Option Addr} {slMu : Array (Option Value)} {ocAg : Value} {dcAg : Value} {pmAg : Value} {ctAg : Value} {cdAg : Value} {kVAg : Value} {odAg anAg : Option Addr} {slAg : Array (Option Value)} {ocStp : Value} {dcStp : Value} {pmStp : Value} {ctStp : Value} {kVStp : Value} {odStp anStp : Option Addr} {slStp : Array (Option Value)} {ocRpd : Value} {dcRpd : Value} {pmRpd : Value} {ctRpd : Value} {kVRpd : Value} {odRpd anRpd : Option Addr} {slRpd : Array (Option Value)} {ocLaw : Value} {dcLaw : Value} {pmLaw : Value} {ctLaw : Value} {kVLaw : Value} {odLaw anLaw : Option Addr} {slLaw : Array (Option Value)} {codPc : Option Addr} {cvsPc : Array Value} {cslPc : Array (Option Value)} {codPs : Option Addr} {cvsPs : Array Value} {cslPs : Array (Option Value)} {codPr : Option Addr} {cvsPr : Array Value} {cslPr : Array (Option Value)} {codPt : Option Addr} {cvsPt : Array Value} {cslPt : Array (Option Value)}
    (aC : PySem.W.nsIn K mainGlobals "Tariff" = some (some (.ref C)))
    (aCV : PySem.W.nsIn K mainGlobals "Travel" = some (some (.ref CV)))
    (aCT : PySem.W.nsIn K mainGlobals "Content" = some (some (.ref CT)))
    (aCW : PySem.W.nsIn K mainGlobals "Wallet" = some (some (.ref CW)))
    (aP : PySem.W.nsIn K mainGlobals "PassError" = some (some (.ref cP)))
    (aI : PySem.W.nsIn K mainGlobals "InvalidTariff" = some (some (.ref cI)))
    (aV : PySem.W.nsIn K mainGlobals "InvalidTravel" = some (some (.ref cV)))
    (aU : PySem.W.nsIn K mainGlobals "UnknownPass" = some (some (.ref cU)))
    (aN : PySem.W.nsIn K mainGlobals "InvalidCount" = some (some (.ref cN)))
    (aNp : PySem.W.nsIn K mainGlobals "NoPass" = some (some (.ref cNp)))
    (aIo : PySem.W.nsIn K mainGlobals "InvalidOperation" = some (some (.ref cIo)))
    (z_enumerate : PySem.W.nsIn K mainGlobals "enumerate" = some none)
    (z_len : PySem.W.nsIn K mainGlobals "len" = some none)
    (z_tuple : PySem.W.nsIn K mainGlobals "tuple" = some none)
    (z_int : PySem.W.nsIn K mainGlobals "int" = some none)
    (z_range : PySem.W.nsIn K mainGlobals "range" = some none)
    (z_max : PySem.W.nsIn K mainGlobals "max" = some none)
    (z_min : PySem.W.nsIn K mainGlobals "min" = some none)
    (z_list : PySem.W.nsIn K mainGlobals "list" = some none)
    (z_sum : PySem.W.nsIn K mainGlobals "sum" = some none)
    (z_any : PySem.W.nsIn K mainGlobals "any" = some none)
    (z_isinstance : PySem.W.nsIn K mainGlobals "isinstance" = some none)
    (z_bool : PySem.W.nsIn K mainGlobals "bool" = some none)
    (pgC : PySem.W.plainGet K C Str.empty = true)
    (hdC : PySem.W.hasDictIn K C = true)
    (poC : PySem.W.plainOver K C = true)
    (saC : PySem.W.findIn K (.ref C) "__setattr__" = some (some (.builtin "object.__setattr__")))
    (mkC : PySem.W.makesIn K C = true)
    (kpCC : PySem.W.keepIn K (.ref C) = true)
    (pgV : PySem.W.plainGet K CV Str.empty = true)
    (hdV : PySem.W.hasDictIn K CV = true)
    (poV : PySem.W.plainOver K CV = true)
    (saV : PySem.W.findIn K (.ref CV) "__setattr__" = some (some (.builtin "object.__setattr__")))
    (mkV : PySem.W.makesIn K CV = true)
    (kpCV : PySem.W.keepIn K (.ref CV) = true)
    (pgT : PySem.W.plainGet K CT Str.empty = true)
    (hdT : PySem.W.hasDictIn K CT = true)
    (poT : PySem.W.plainOver K CT = true)
    (saT : PySem.W.findIn K (.ref CT) "__setattr__" = some (some (.builtin "object.__setattr__")))
    (mkT : PySem.W.makesIn K CT = true)
    (kpCT : PySem.W.keepIn K (.ref CT) = true)
    (pgW : PySem.W.plainGet K CW Str.empty = true)
    (hdW : PySem.W.hasDictIn K CW = true)
    (poW : PySem.W.plainOver K CW = true)
    (saW : PySem.W.findIn K (.ref CW) "__setattr__" = some (some (.builtin "object.__setattr__")))
    (mkW : PySem.W.makesIn K CW = true)
    (kpCW : PySem.W.keepIn K (.ref CW) = true)
    (nO : PySem.W.findIn K (.ref C) "offers" = some none)
    (rd : PySem.W.readsIn K C (.type "type") = true)
    (ga : PySem.W.specialIn K (.ref C) "__getattribute__" = some (some (.builtin "type.__getattribute__")))
    (rdW : PySem.W.readsIn K CW (.type "type") = true)
    (gaW : PySem.W.specialIn K (.ref CW) "__getattribute__" = some (some (.builtin "type.__getattribute__")))
    (v0 : PySem.W.findCls K (.ref C) (.type "type") "MAX_LENGTH" = some (.val (.int 28 t0)))
    (v1 : PySem.W.findCls K (.ref C) (.type "type") "MAX_PRICE" = some (.val (.int 1000000 t1)))
    (v2 : PySem.W.findCls K (.ref C) (.type "type") "MAX_PASSES" = some (.val (.int 6 t2)))
    (nA0 : PySem.W.findIn K (.ref CV) "size" = some none)
    (nA1 : PySem.W.findIn K (.ref CV) "pattern" = some none)
    (nA2 : PySem.W.findIn K (.ref CV) "odd_days" = some none)
    (nB0 : PySem.W.findIn K (.ref CT) "day" = some none)
    (nB1 : PySem.W.findIn K (.ref CT) "total" = some none)
    (nB2 : PySem.W.findIn K (.ref CT) "bought" = some none)
    (nB3 : PySem.W.findIn K (.ref CT) "until" = some none)
    (nW0 : PySem.W.findIn K (.ref CW) "offer" = some none)
    (nW1 : PySem.W.findIn K (.ref CW) "content" = some none)
    (nW2 : PySem.W.findIn K (.ref CW) "earlier" = some none)
    (w0 : PySem.W.nsIn K mainGlobals "MAX_ROUND" = some (some (.int 14 u0)))
    (w1 : PySem.W.nsIn K mainGlobals "MAX_EXCEPTIONS" = some (some (.int 6 u1)))
    (w2 : PySem.W.nsIn K mainGlobals "MAX_DAYS" = some (some (.int 1000000000000000000 u2)))
    (w3 : PySem.W.nsIn K mainGlobals "MAX_YIELDED" = some (some (.int 10000 u3)))
    (w4 : PySem.W.nsIn K mainGlobals "MAX_PASSED" = some (some (.int 10000 u4)))
    (xLI : K.lookup cI = some (excClassObj nmI qI cI xNI xbsI xbmI true xsnI xsubI xabI xcolI xddI xm0I xm1I xm2I xm3I xm5I "ValueError.__new__"))
    (xrvI : PySem.HandSPX.refsVE xbmI = true)
    (xsaI : PySem.W.findIn K (.ref cI) "__setattr__" = some (some (.builtin "object.__setattr__")))
    (sI : PySem.W.subIn K (.ref cI) (.type "BaseException") = some true)
    (yI : PySem.W.typeIn K (.ref cI) = some (.type "type"))
    (kpI : PySem.W.keepIn K (.ref cI) = true)
    (nI_index : PySem.W.findIn K (.ref cI) "index" = some none)
    (iI : PySem.W.findIn K (.ref cI) "__init__" = some (some (.ref fI)))
    (tI : PySem.W.typeIn K (.ref fI) = some (.type "function"))
    (egI : PySem.W.findIn K (.ref cI) "__getattribute__" = some (some (.builtin "BaseException.__getattribute__")))
    (ekI : PySem.W.findIn K (.ref cI) "__getattr__" = some none)
    (ehI : PySem.W.hasDictIn K cI = true)
    (xLV : K.lookup cV = some (excClassObj nmV qV cV xNV xbsV xbmV true xsnV xsubV xabV xcolV xddV xm0V xm1V xm2V xm3V xm5V "ValueError.__new__"))
    (xrvV : PySem.HandSPX.refsVE xbmV = true)
    (xsaV : PySem.W.findIn K (.ref cV) "__setattr__" = some (some (.builtin "object.__setattr__")))
    (sV : PySem.W.subIn K (.ref cV) (.type "BaseException") = some true)
    (yV : PySem.W.typeIn K (.ref cV) = some (.type "type"))
    (kpV : PySem.W.keepIn K (.ref cV) = true)
    (nV_part : PySem.W.findIn K (.ref cV) "part" = some none)
    (nV_index : PySem.W.findIn K (.ref cV) "index" = some none)
    (iV : PySem.W.findIn K (.ref cV) "__init__" = some (some (.ref fV)))
    (tV : PySem.W.typeIn K (.ref fV) = some (.type "function"))
    (egV : PySem.W.findIn K (.ref cV) "__getattribute__" = some (some (.builtin "BaseException.__getattribute__")))
    (ekV : PySem.W.findIn K (.ref cV) "__getattr__" = some none)
    (ehV : PySem.W.hasDictIn K cV = true)
    (xLNp : K.lookup cNp = some (excClassObj nmNp qNp cNp xNNp xbsNp xbmNp true xsnNp xsubNp xabNp xcolNp xddNp xm0Np xm1Np xm2Np xm3Np xm5Np "ValueError.__new__"))
    (xrvNp : PySem.HandSPX.refsVE xbmNp = true)
    (xsaNp : PySem.W.findIn K (.ref cNp) "__setattr__" = some (some (.builtin "object.__setattr__")))
    (sNp : PySem.W.subIn K (.ref cNp) (.type "BaseException") = some true)
    (yNp : PySem.W.typeIn K (.ref cNp) = some (.type "type"))
    (kpNp : PySem.W.keepIn K (.ref cNp) = true)
    (nNp_day : PySem.W.findIn K (.ref cNp) "day" = some none)
    (iNp : PySem.W.findIn K (.ref cNp) "__init__" = some (some (.ref fNp)))
    (tNp : PySem.W.typeIn K (.ref fNp) = some (.type "function"))
    (egNp : PySem.W.findIn K (.ref cNp) "__getattribute__" = some (some (.builtin "BaseException.__getattribute__")))
    (ekNp : PySem.W.findIn K (.ref cNp) "__getattr__" = some none)
    (ehNp : PySem.W.hasDictIn K cNp = true)
    (xLIo : K.lookup cIo = some (excClassObj nmIo qIo cIo xNIo xbsIo xbmIo true xsnIo xsubIo xabIo xcolIo xddIo xm0Io xm1Io xm2Io xm3Io xm5Io "ValueError.__new__"))
    (xrvIo : PySem.HandSPX.refsVE xbmIo = true)
    (xsaIo : PySem.W.findIn K (.ref cIo) "__setattr__" = some (some (.builtin "object.__setattr__")))
    (sIo : PySem.W.subIn K (.ref cIo) (.type "BaseException") = some true)
    (yIo : PySem.W.typeIn K (.ref cIo) = some (.type "type"))
    (kpIo : PySem.W.keepIn K (.ref cIo) = true)
    (nIo_index : PySem.W.findIn K (.ref cIo) "index" = some none)
    (iIo : PySem.W.findIn K (.ref cIo) "__init__" = some (some (.ref fIo)))
    (tIo : PySem.W.typeIn K (.ref fIo) = some (.type "function"))
    (egIo : PySem.W.findIn K (.ref cIo) "__getattribute__" = some (some (.builtin "BaseException.__getattribute__")))
    (ekIo : PySem.W.findIn K (.ref cIo) "__getattr__" = some none)
    (ehIo : PySem.W.hasDictIn K cIo = true)
    (prd : PySem.W.readsIn K cP (.type "type") = true)
    (pga : PySem.W.specialIn K (.ref cP) "__getattribute__" = some (some (.builtin "type.__getattribute__")))
    (pat : PySem.W.findCls K (.ref cP) (.type "type") "__init__" = some (.val (.builtin "ValueError.__init__")))
    (qU : PySem.W.excIn K cU [.type "ValueError", .type "Exception", .type "BaseException", .type "object"] "ValueError.__new__" = true)
    (kU : PySem.W.keepIn K (.ref cU) = true)
    (sU : PySem.W.subIn K (.ref cU) (.type "BaseException") = some true)
    (yU : PySem.W.typeIn K (.ref cU) = some (.type "type"))
    (qN : PySem.W.excIn K cN [.type "ValueError", .type "Exception", .type "BaseException", .type "object"] "ValueError.__new__" = true)
    (kN : PySem.W.keepIn K (.ref cN) = true)
    (sN : PySem.W.subIn K (.ref cN) (.type "BaseException") = some true)
    (yN : PySem.W.typeIn K (.ref cN) = some (.type "type"))
    (nSt : PySem.W.subIn K (.ref cN) (.type "StopIteration") = some false)
    (atT : PySem.W.findIn K (.ref C) "__init__" = some (some (.ref fT)))
    (ifT : PySem.W.isFn K (.ref fT) = true)
    (lT : K.lookup fT = some ⟨ocT, odT, .func (PySem.W.fnOf "__init__" "Tariff.__init__" (defArgs sInit) (defBody sInit) (defScope sInit) .none kVT dcT pmT anT cdT ctT), slT⟩)
    (cd_T : PySem.W.codeIn K cdT "Tariff.__init__" = true)
    (kp_T : PySem.W.keepIn K (.ref fT) = true)
    (lI : K.lookup fI = some ⟨ocI, odI, .func (PySem.W.fnOf "__init__" "InvalidTariff.__init__" (defArgs sIT) (defBody sIT) (defScope sIT) .none kVI dcI pmI anI cdI ctI), slI⟩)
    (cd_I : PySem.W.codeIn K cdI "InvalidTariff.__init__" = true)
    (kp_I : PySem.W.keepIn K (.ref fI) = true)
    (lXV : K.lookup fV = some ⟨ocXV, odXV, .func (PySem.W.fnOf "__init__" "InvalidTravel.__init__" (defArgs sIV) (defBody sIV) (defScope sIV) .none kVXV dcXV pmXV anXV cdXV ctXV), slXV⟩)
    (cd_XV : PySem.W.codeIn K cdXV "InvalidTravel.__init__" = true)
    (kp_XV : PySem.W.keepIn K (.ref fV) = true)
    (lXNp : K.lookup fNp = some ⟨ocXNp, odXNp, .func (PySem.W.fnOf "__init__" "NoPass.__init__" (defArgs sNpI) (defBody sNpI) (defScope sNpI) .none kVXNp dcXNp pmXNp anXNp cdXNp ctXNp), slXNp⟩)
    (cd_XNp : PySem.W.codeIn K cdXNp "NoPass.__init__" = true)
    (kp_XNp : PySem.W.keepIn K (.ref fNp) = true)
    (lXIo : K.lookup fIo = some ⟨ocXIo, odXIo, .func (PySem.W.fnOf "__init__" "InvalidOperation.__init__" (defArgs sIoI) (defBody sIoI) (defScope sIoI) .none kVXIo dcXIo pmXIo anXIo cdXIo ctXIo), slXIo⟩)
    (cd_XIo : PySem.W.codeIn K cdXIo "InvalidOperation.__init__" = true)
    (kp_XIo : PySem.W.keepIn K (.ref fIo) = true)
    (atP : PySem.W.findIn K (.ref C) "passes" = some (some (.ref pP)))
    (geP : PySem.W.specialIn K (.ref pP) "__get__" = some (some (.builtin "property.__get__")))
    (taP : PySem.W.takesIn K (.ref pP) = some true)
    (rcP : PySem.W.recIn K pP "property" = some (.ref fP :: reP))
    (lP : K.lookup fP = some ⟨ocP, odP, .func (PySem.W.fnOf "passes" "Tariff.passes" (defArgs sPasses) (defBody sPasses) (defScope sPasses) .none kVP dcP pmP anP cdP ctP), slP⟩)
    (cd_P : PySem.W.codeIn K cdP "Tariff.passes" = true)
    (kp_P : PySem.W.keepIn K (.ref fP) = true)
    (atL : PySem.W.findIn K (.ref C) "lengths" = some (some (.ref pL)))
    (geL : PySem.W.specialIn K (.ref pL) "__get__" = some (some (.builtin "property.__get__")))
    (taL : PySem.W.takesIn K (.ref pL) = some true)
    (rcL : PySem.W.recIn K pL "property" = some (.ref fL :: reL))
    (lL : K.lookup fL = some ⟨ocL, odL, .func (PySem.W.fnOf "lengths" "Tariff.lengths" (defArgs sLengths) (defBody sLengths) (defScope sLengths) .none kVL dcL pmL anL cdL ctL), slL⟩)
    (cd_L : PySem.W.codeIn K cdL "Tariff.lengths" = true)
    (kp_L : PySem.W.keepIn K (.ref fL) = true)
    (atTv : PySem.W.findIn K (.ref CV) "__init__" = some (some (.ref fTv)))
    (ifTv : PySem.W.isFn K (.ref fTv) = true)
    (lTv : K.lookup fTv = some ⟨ocTv, odTv, .func (PySem.W.fnOf "__init__" "Travel.__init__" (defArgs sTvI) (defBody sTvI) (defScope sTvI) .none (.ref kD) dcTv pmTv anTv cdTv ctTv), slTv⟩)
    (cd_Tv : PySem.W.codeIn K cdTv "Travel.__init__" = true)
    (kp_Tv : PySem.W.keepIn K (.ref fTv) = true)
    (kx : PySem.W.nsIn K kD "exceptions" = some (some (.ref eT)))
    (eTl : K.lookup eT = some ⟨.type "tuple", eTd, .seq #[] eTn, eTs⟩)
    (atTo : PySem.W.findIn K (.ref CV) "travels_on" = some (some (.ref fTo)))
    (ifTo : PySem.W.isFn K (.ref fTo) = true)
    (lTo : K.lookup fTo = some ⟨ocTo, odTo, .func (PySem.W.fnOf "travels_on" "Travel.travels_on" (defArgs sTo) (defBody sTo) (defScope sTo) .none kVTo dcTo pmTo anTo cdTo ctTo), slTo⟩)
    (cd_To : PySem.W.codeIn K cdTo "Travel.travels_on" = true)
    (kp_To : PySem.W.keepIn K (.ref fTo) = true)
    (atItd : PySem.W.findIn K (.ref CV) "is_travel_day" = some (some (.ref fItd)))
    (ifItd : PySem.W.isFn K (.ref fItd) = true)
    (lItd : K.lookup fItd = some ⟨ocItd, odItd, .func (PySem.W.fnOf "is_travel_day" "Travel.is_travel_day" (defArgs sItd) (defBody sItd) (defScope sItd) .none kVItd dcItd pmItd anItd cdItd ctItd), slItd⟩)
    (cd_Itd : PySem.W.codeIn K cdItd "Travel.is_travel_day" = true)
    (kp_Itd : PySem.W.keepIn K (.ref fItd) = true)
    (atCt : PySem.W.findIn K (.ref CT) "__init__" = some (some (.ref fCt)))
    (ifCt : PySem.W.isFn K (.ref fCt) = true)
    (lCt : K.lookup fCt = some ⟨ocCt, odCt, .func (PySem.W.fnOf "__init__" "Content.__init__" (defArgs sCtI) (defBody sCtI) (defScope sCtI) .none kVCt dcCt pmCt anCt cdCt ctCt), slCt⟩)
    (cd_Ct : PySem.W.codeIn K cdCt "Content.__init__" = true)
    (kp_Ct : PySem.W.keepIn K (.ref fCt) = true)
    (atWi : PySem.W.findIn K (.ref CW) "__init__" = some (some (.ref fWi)))
    (ifWi : PySem.W.isFn K (.ref fWi) = true)
    (lWi : K.lookup fWi = some ⟨ocWi, odWi, .func (PySem.W.fnOf "__init__" "Wallet.__init__" (defArgs sWlI) (defBody sWlI) (defScope sWlI) .none kVWi dcWi pmWi anWi cdWi ctWi), slWi⟩)
    (cd_Wi : PySem.W.codeIn K cdWi "Wallet.__init__" = true)
    (kp_Wi : PySem.W.keepIn K (.ref fWi) = true)
    (atTd : PySem.W.findIn K (.ref CW) "today" = some (some (.ref pTd)))
    (geTd : PySem.W.specialIn K (.ref pTd) "__get__" = some (some (.builtin "property.__get__")))
    (taTd : PySem.W.takesIn K (.ref pTd) = some true)
    (rcTd : PySem.W.recIn K pTd "property" = some (.ref fTd :: reTd))
    (lTd : K.lookup fTd = some ⟨ocTd, odTd, .func (PySem.W.fnOf "today" "Wallet.today" (defArgs sWlTd) (defBody sWlTd) (defScope sWlTd) .none kVTd dcTd pmTd anTd cdTd ctTd), slTd⟩)
    (cd_Td : PySem.W.codeIn K cdTd "Wallet.today" = true)
    (kp_Td : PySem.W.keepIn K (.ref fTd) = true)
    (atSp : PySem.W.findIn K (.ref CW) "spent" = some (some (.ref pSp)))
    (geSp : PySem.W.specialIn K (.ref pSp) "__get__" = some (some (.builtin "property.__get__")))
    (taSp : PySem.W.takesIn K (.ref pSp) = some true)
    (rcSp : PySem.W.recIn K pSp "property" = some (.ref fSp :: reSp))
    (lSp : K.lookup fSp = some ⟨ocSp, odSp, .func (PySem.W.fnOf "spent" "Wallet.spent" (defArgs sWlSp) (defBody sWlSp) (defScope sWlSp) .none kVSp dcSp pmSp anSp cdSp ctSp), slSp⟩)
    (cd_Sp : PySem.W.codeIn K cdSp "Wallet.spent" = true)
    (kp_Sp : PySem.W.keepIn K (.ref fSp) = true)
    (atPu : PySem.W.findIn K (.ref CW) "purchases" = some (some (.ref pPu)))
    (gePu : PySem.W.specialIn K (.ref pPu) "__get__" = some (some (.builtin "property.__get__")))
    (taPu : PySem.W.takesIn K (.ref pPu) = some true)
    (rcPu : PySem.W.recIn K pPu "property" = some (.ref fPu :: rePu))
    (lPu : K.lookup fPu = some ⟨ocPu, odPu, .func (PySem.W.fnOf "purchases" "Wallet.purchases" (defArgs sWlPu) (defBody sWlPu) (defScope sWlPu) .none kVPu dcPu pmPu anPu cdPu ctPu), slPu⟩)
    (cd_Pu : PySem.W.codeIn K cdPu "Wallet.purchases" = true)
    (kp_Pu : PySem.W.keepIn K (.ref fPu) = true)
    (atIc : PySem.W.findIn K (.ref CW) "is_covered" = some (some (.ref pIc)))
    (geIc : PySem.W.specialIn K (.ref pIc) "__get__" = some (some (.builtin "property.__get__")))
    (taIc : PySem.W.takesIn K (.ref pIc) = some true)
    (rcIc : PySem.W.recIn K pIc "property" = some (.ref fIc :: reIc))
    (lIc : K.lookup fIc = some ⟨ocIc, odIc, .func (PySem.W.fnOf "is_covered" "Wallet.is_covered" (defArgs sWlIc) (defBody sWlIc) (defScope sWlIc) .none kVIc dcIc pmIc anIc cdIc ctIc), slIc⟩)
    (cd_Ic : PySem.W.codeIn K cdIc "Wallet.is_covered" = true)
    (kp_Ic : PySem.W.keepIn K (.ref fIc) = true)
    (atRe : PySem.W.findIn K (.ref CW) "replace" = some (some (.ref fRe)))
    (ifRe : PySem.W.isFn K (.ref fRe) = true)
    (lRe : K.lookup fRe = some ⟨ocRe, odRe, .func (PySem.W.fnOf "replace" "Wallet.replace" (defArgs sWlRe) (defBody sWlRe) (defScope sWlRe) .none kVRe dcRe pmRe anRe cdRe ctRe), slRe⟩)
    (cd_Re : PySem.W.codeIn K cdRe "Wallet.replace" = true)
    (kp_Re : PySem.W.keepIn K (.ref fRe) = true)
    (atBy : PySem.W.findIn K (.ref CW) "buy" = some (some (.ref fBy)))
    (ifBy : PySem.W.isFn K (.ref fBy) = true)
    (lBy : K.lookup fBy = some ⟨ocBy, odBy, .func (PySem.W.fnOf "buy" "Wallet.buy" (defArgs sWlBy) (defBody sWlBy) (defScope sWlBy) .none kVBy dcBy pmBy anBy cdBy ctBy), slBy⟩)
    (cd_By : PySem.W.codeIn K cdBy "Wallet.buy" = true)
    (kp_By : PySem.W.keepIn K (.ref fBy) = true)
    (atPd : PySem.W.findIn K (.ref CW) "pass_day" = some (some (.ref fPd)))
    (ifPd : PySem.W.isFn K (.ref fPd) = true)
    (lPd : K.lookup fPd = some ⟨ocPd, odPd, .func (PySem.W.fnOf "pass_day" "Wallet.pass_day" (defArgs sWlPd) (defBody sWlPd) (defScope sWlPd) .none kVPd dcPd pmPd anPd cdPd ctPd), slPd⟩)
    (cd_Pd : PySem.W.codeIn K cdPd "Wallet.pass_day" = true)
    (kp_Pd : PySem.W.keepIn K (.ref fPd) = true)
    (atPd2 : PySem.W.findIn K (.ref CW) "pass_days" = some (some (.ref fPs)))
    (ifPd2 : PySem.W.isFn K (.ref fPs) = true)
    (lPd2 : K.lookup fPs = some ⟨ocPd2, odPd2, .func (PySem.W.fnOf "pass_days" "Wallet.pass_days" (defArgs sWlPs) (defBody sWlPs) (defScope sWlPs) .none kVPd2 dcPd2 pmPd2 anPd2 cdPd2 ctPd2), slPd2⟩)
    (cd_Pd2 : PySem.W.codeIn K cdPd2 "Wallet.pass_days" = true)
    (kp_Pd2 : PySem.W.keepIn K (.ref fPs) = true)
    (atUn : PySem.W.findIn K (.ref CW) "undo" = some (some (.ref fUn)))
    (ifUn : PySem.W.isFn K (.ref fUn) = true)
    (lUn : K.lookup fUn = some ⟨ocUn, odUn, .func (PySem.W.fnOf "undo" "Wallet.undo" (defArgs sWlUn) (defBody sWlUn) (defScope sWlUn) .none kVUn dcUn pmUn anUn cdUn ctUn), slUn⟩)
    (cd_Un : PySem.W.codeIn K cdUn "Wallet.undo" = true)
    (kp_Un : PySem.W.keepIn K (.ref fUn) = true)
    (atCd : PySem.W.findIn K (.ref CW) "covered_days" = some (some (.ref fCd)))
    (ifCd : PySem.W.isFn K (.ref fCd) = true)
    (lCd : K.lookup fCd = some ⟨ocCd, odCd, .func (PySem.W.fnOf "covered_days" "Wallet.covered_days" (defArgs sWlCd) (defBody sWlCd) (defScope sWlCd) .none kVCd dcCd pmCd anCd (.ref xCd) ctCd), slCd⟩)
    (cd_Cd : PySem.W.codeIn K (.ref xCd) "Wallet.covered_days" = true)
    (kp_Cd : PySem.W.keepIn K (.ref fCd) = true)
    (atRp : PySem.W.findCls K (.ref CW) (.type "type") "replay" = some (.get (.builtin "classmethod.__get__") (.ref pRp) .none (.ref CW)))
    (rcRp : PySem.W.recIn K pRp "classmethod" = some (.ref fRp :: reRp))
    (fiRp : PySem.W.fnIn K fRp = true)
    (lRp : K.lookup fRp = some ⟨ocRp, odRp, .func (PySem.W.fnOf "replay" "Wallet.replay" (defArgs sWlRp) (defBody sWlRp) (defScope sWlRp) .none kVRp dcRp pmRp anRp cdRp ctRp), slRp⟩)
    (cd_Rp : PySem.W.codeIn K cdRp "Wallet.replay" = true)
    (kp_Rp : PySem.W.keepIn K (.ref fRp) = true)
    (atVN : PySem.W.nsIn K mainGlobals "validate_numbers" = some (some (.ref fVN)))
    (lVN : K.lookup fVN = some ⟨ocVN, odVN, .func (PySem.W.fnOf "validate_numbers" "validate_numbers" (defArgs sVN) (defBody sVN) (defScope sVN) .none kVVN dcVN pmVN anVN cdVN ctVN), slVN⟩)
    (cd_VN : PySem.W.codeIn K cdVN "validate_numbers" = true)
    (kp_VN : PySem.W.keepIn K (.ref fVN) = true)
    (atVP : PySem.W.nsIn K mainGlobals "validate_pass" = some (some (.ref fVP)))
    (lVP : K.lookup fVP = some ⟨ocVP, odVP, .func (PySem.W.fnOf "validate_pass" "validate_pass" (defArgs sValid) (defBody sValid) (defScope sValid) .none kVVP dcVP pmVP anVP cdVP ctVP), slVP⟩)
    (cd_VP : PySem.W.codeIn K cdVP "validate_pass" = true)
    (kp_VP : PySem.W.keepIn K (.ref fVP) = true)
    (atVC : PySem.W.nsIn K mainGlobals "validate_count" = some (some (.ref fVC)))
    (lVC : K.lookup fVC = some ⟨ocVC, odVC, .func (PySem.W.fnOf "validate_count" "validate_count" (defArgs sVC) (defBody sVC) (defScope sVC) .none kVVC dcVC pmVC anVC cdVC ctVC), slVC⟩)
    (cd_VC : PySem.W.codeIn K cdVC "validate_count" = true)
    (kp_VC : PySem.W.keepIn K (.ref fVC) = true)
    (atSt : PySem.W.nsIn K mainGlobals "_law_start" = some (some (.ref fSt)))
    (lSt : K.lookup fSt = some ⟨ocSt, odSt, .func (PySem.W.fnOf "_law_start" "_law_start" (defArgs sStart) (defBody sStart) (defScope sStart) .none kVSt dcSt pmSt anSt cdSt ctSt), slSt⟩)
    (cd_St : PySem.W.codeIn K cdSt "_law_start" = true)
    (kp_St : PySem.W.keepIn K (.ref fSt) = true)
    (atD : PySem.W.nsIn K mainGlobals "_law_drawn" = some (some (.ref fD)))
    (lD : K.lookup fD = some ⟨ocD, odD, .func (PySem.W.fnOf "_law_drawn" "_law_drawn" (defArgs sDrawn) (defBody sDrawn) (defScope sDrawn) .none kVD dcD pmD anD cdD ctD), slD⟩)
    (cd_D : PySem.W.codeIn K cdD "_law_drawn" = true)
    (kp_D : PySem.W.keepIn K (.ref fD) = true)
    (atSm : PySem.W.nsIn K mainGlobals "_law_same" = some (some (.ref fSm)))
    (lSm : K.lookup fSm = some ⟨ocSm, odSm, .func (PySem.W.fnOf "_law_same" "_law_same" (defArgs sSm) (defBody sSm) (defScope sSm) .none kVSm dcSm pmSm anSm cdSm ctSm), slSm⟩)
    (cd_Sm : PySem.W.codeIn K cdSm "_law_same" = true)
    (kp_Sm : PySem.W.keepIn K (.ref fSm) = true)
    (atOu : PySem.W.nsIn K mainGlobals "_law_outcome" = some (some (.ref fOu)))
    (lOu : K.lookup fOu = some ⟨ocOu, odOu, .func (PySem.W.fnOf "_law_outcome" "_law_outcome" (defArgs sOut) (defBody sOut) (defScope sOut) .none kVOu dcOu pmOu anOu cdOu ctOu), slOu⟩)
    (cd_Ou : PySem.W.codeIn K cdOu "_law_outcome" = true)
    (kp_Ou : PySem.W.keepIn K (.ref fOu) = true)
    (atPas : PySem.W.nsIn K mainGlobals "_law_passes" = some (some (.ref fPas)))
    (lPas : K.lookup fPas = some ⟨ocPas, odPas, .func (PySem.W.fnOf "_law_passes" "_law_passes" (defArgs sPas) (defBody sPas) (defScope sPas) .none kVPas dcPas pmPas anPas cdPas ctPas), slPas⟩)
    (cd_Pas : PySem.W.codeIn K cdPas "_law_passes" = true)
    (kp_Pas : PySem.W.keepIn K (.ref fPas) = true)
    (atTar : PySem.W.nsIn K mainGlobals "_law_tariff" = some (some (.ref fTar)))
    (lTar : K.lookup fTar = some ⟨ocTar, odTar, .func (PySem.W.fnOf "_law_tariff" "_law_tariff" (defArgs sTar) (defBody sTar) (defScope sTar) .none kVTar dcTar pmTar anTar cdTar ctTar), slTar⟩)
    (cd_Tar : PySem.W.codeIn K cdTar "_law_tariff" = true)
    (kp_Tar : PySem.W.keepIn K (.ref fTar) = true)
    (atDay : PySem.W.nsIn K mainGlobals "_law_days" = some (some (.ref fDay)))
    (lDay : K.lookup fDay = some ⟨ocDay, odDay, .func (PySem.W.fnOf "_law_days" "_law_days" (defArgs sDay) (defBody sDay) (defScope sDay) .none kVDay dcDay pmDay anDay cdDay ctDay), slDay⟩)
    (cd_Day : PySem.W.codeIn K cdDay "_law_days" = true)
    (kp_Day : PySem.W.keepIn K (.ref fDay) = true)
    (atCv : PySem.W.nsIn K mainGlobals "_law_covered" = some (some (.ref fCv)))
    (lCv : K.lookup fCv = some ⟨ocCv, odCv, .func (PySem.W.fnOf "_law_covered" "_law_covered" (defArgs sCv) (defBody sCv) (defScope sCv) .none kVCv dcCv pmCv anCv cdCv ctCv), slCv⟩)
    (cd_Cv : PySem.W.codeIn K cdCv "_law_covered" = true)
    (kp_Cv : PySem.W.keepIn K (.ref fCv) = true)
    (atKe : PySem.W.nsIn K mainGlobals "_law_kept" = some (some (.ref fKe)))
    (lKe : K.lookup fKe = some ⟨ocKe, odKe, .func (PySem.W.fnOf "_law_kept" "_law_kept" (defArgs sKe) (defBody sKe) (defScope sKe) .none kVKe dcKe pmKe anKe cdKe ctKe), slKe⟩)
    (cd_Ke : PySem.W.codeIn K cdKe "_law_kept" = true)
    (kp_Ke : PySem.W.keepIn K (.ref fKe) = true)
    (atBu : PySem.W.nsIn K mainGlobals "_law_buy" = some (some (.ref fBu)))
    (lBu : K.lookup fBu = some ⟨ocBu, odBu, .func (PySem.W.fnOf "_law_buy" "_law_buy" (defArgs sBu) (defBody sBu) (defScope sBu) .none kVBu dcBu pmBu anBu cdBu ctBu), slBu⟩)
    (cd_Bu : PySem.W.codeIn K cdBu "_law_buy" = true)
    (kp_Bu : PySem.W.keepIn K (.ref fBu) = true)
    (atMs : PySem.W.nsIn K mainGlobals "_law_pass_days" = some (some (.ref fMs)))
    (lMs : K.lookup fMs = some ⟨ocMs, odMs, .func (PySem.W.fnOf "_law_pass_days" "_law_pass_days" (defArgs sMs) (defBody sMs) (defScope sMs) .none kVMs dcMs pmMs anMs cdMs ctMs), slMs⟩)
    (cd_Ms : PySem.W.codeIn K cdMs "_law_pass_days" = true)
    (kp_Ms : PySem.W.keepIn K (.ref fMs) = true)
    (atMd : PySem.W.nsIn K mainGlobals "_law_pass_day" = some (some (.ref fMd)))
    (lMd : K.lookup fMd = some ⟨ocMd, odMd, .func (PySem.W.fnOf "_law_pass_day" "_law_pass_day" (defArgs sMd) (defBody sMd) (defScope sMd) .none kVMd dcMd pmMd anMd cdMd ctMd), slMd⟩)
    (cd_Md : PySem.W.codeIn K cdMd "_law_pass_day" = true)
    (kp_Md : PySem.W.keepIn K (.ref fMd) = true)
    (atMu : PySem.W.nsIn K mainGlobals "_law_undo" = some (some (.ref fMu)))
    (lMu : K.lookup fMu = some ⟨ocMu, odMu, .func (PySem.W.fnOf "_law_undo" "_law_undo" (defArgs sMu) (defBody sMu) (defScope sMu) .none kVMu dcMu pmMu anMu cdMu ctMu), slMu⟩)
    (cd_Mu : PySem.W.codeIn K cdMu "_law_undo" = true)
    (kp_Mu : PySem.W.keepIn K (.ref fMu) = true)
    (atAg : PySem.W.nsIn K mainGlobals "_law_agrees" = some (some (.ref fAg)))
    (lAg : K.lookup fAg = some ⟨ocAg, odAg, .func (PySem.W.fnOf "_law_agrees" "_law_agrees" (defArgs sAg) (defBody sAg) (defScope sAg) .none kVAg dcAg pmAg anAg cdAg ctAg), slAg⟩)
    (cd_Ag : PySem.W.codeIn K cdAg "_law_agrees" = true)
    (kp_Ag : PySem.W.keepIn K (.ref fAg) = true)
    (atStp : PySem.W.nsIn K mainGlobals "_law_step" = some (some (.ref fStp)))
    (lStp : K.lookup fStp = some ⟨ocStp, odStp, .func (PySem.W.fnOf "_law_step" "_law_step" (defArgs sStp) (defBody sStp) (defScope sStp) .none kVStp dcStp pmStp anStp (.ref xStp) ctStp), slStp⟩)
    (cd_Stp : PySem.W.codeIn K (.ref xStp) "_law_step" = true)
    (kp_Stp : PySem.W.keepIn K (.ref fStp) = true)
    (atRpd : PySem.W.nsIn K mainGlobals "_law_replayed" = some (some (.ref fRpd)))
    (lRpd : K.lookup fRpd = some ⟨ocRpd, odRpd, .func (PySem.W.fnOf "_law_replayed" "_law_replayed" (defArgs sRpd) (defBody sRpd) (defScope sRpd) .none kVRpd dcRpd pmRpd anRpd (.ref xRpd) ctRpd), slRpd⟩)
    (cd_Rpd : PySem.W.codeIn K (.ref xRpd) "_law_replayed" = true)
    (kp_Rpd : PySem.W.keepIn K (.ref fRpd) = true)
    (atLaw : PySem.W.nsIn K mainGlobals "law" = some (some (.ref fLaw)))
    (lLaw : K.lookup fLaw = some ⟨ocLaw, odLaw, .func (PySem.W.fnOf "law" "law" (defArgs sLaw) (defBody sLaw) (defScope sLaw) .none kVLaw dcLaw pmLaw anLaw (.ref cc) ctLaw), slLaw⟩)
    (cd_Law : PySem.W.codeIn K (.ref cc) "law" = true)
    (kp_Law : PySem.W.keepIn K (.ref fLaw) = true)
    (xNN : PySem.W.exmOne K (.ref cN) (.ref cN) = some true)
    (xIoN : PySem.W.exmOne K (.ref cIo) (.ref cN) = some false)
    (xIoIo : PySem.W.exmOne K (.ref cIo) (.ref cIo) = some true)
    (xNpN : PySem.W.exmOne K (.ref cNp) (.ref cN) = some false)
    (xNpIo : PySem.W.exmOne K (.ref cNp) (.ref cIo) = some false)
    (xNpNp : PySem.W.exmOne K (.ref cNp) (.ref cNp) = some true)
    (xUN : PySem.W.exmOne K (.ref cU) (.ref cN) = some false)
    (xUIo : PySem.W.exmOne K (.ref cU) (.ref cIo) = some false)
    (xUNp : PySem.W.exmOne K (.ref cU) (.ref cNp) = some false)
    (xUU : PySem.W.exmOne K (.ref cU) (.ref cU) = some true)
    (cxPc : K.lookup xCd = some ⟨.type "code", codPc, .fields cvsPc, cslPc⟩)
    (cvPc : cvsPc[11]? = some (.ref Pc))
    (cxPs : K.lookup xStp = some ⟨.type "code", codPs, .fields cvsPs, cslPs⟩)
    (cvPs : cvsPs[11]? = some (.ref Ps))
    (cxPr : K.lookup xRpd = some ⟨.type "code", codPr, .fields cvsPr, cslPr⟩)
    (cvPr : cvsPr[11]? = some (.ref Pr))
    (cxPt : K.lookup cc = some ⟨.type "code", codPt, .fields cvsPt, cslPt⟩)
    (cvPt : cvsPt[11]? = some (.ref Pt))
    (nTPc : K.lookup Pc = none)
    (hHPc : PySem.W.codeHdIn K xCd Pc = true)
    (nTPs : K.lookup Ps = none)
    (hHPs : PySem.W.codeHdIn K xStp Ps = true)
    (nTPr : K.lookup Pr = none)
    (hHPr : PySem.W.codeHdIn K xRpd Pr = true)
    (nTPt : K.lookup Pt = none)
    (hHPt : PySem.W.codeHdIn K cc Pt = true)
    (nen1 : Ps ≠ Pc)
    (nen2 : Pr ≠ Pc)
    (nen3 : Pt ≠ Pc)
    (nen4 : Pr ≠ Ps)
    (nen5 : Pt ≠ Ps)
    (nen6 : Pt ≠ Pr)
    (hTPc : h.get? Pc = some { cls := .none, data := .fields #[] })
    (hTPs : h.get? Ps = some { cls := .none, data := .fields #[] })
    (hTPr : h.get? Pr = some { cls := .none, data := .fields #[] })
    (hTPt : h.get? Pt = some { cls := .none, data := .fields #[] })
    : LawAtS l w K CX0 12 63 "_law_script" mg fa h := by
  have e := hfa.symm.trans (PySem.W.mg_of X Gn atLaw)
  cases e
  have oexI : OexC K cI := ⟨⟨_, _, _, _, _, _, _, _, _, _, _, _, _, _, _, xLI, xrvI⟩, xsaI, sI, yI, kpI⟩
  have oexV : OexC K cV := ⟨⟨_, _, _, _, _, _, _, _, _, _, _, _, _, _, _, xLV, xrvV⟩, xsaV, sV, yV, kpV⟩
  have oexNp : OexC K cNp := ⟨⟨_, _, _, _, _, _, _, _, _, _, _, _, _, _, _, xLNp, xrvNp⟩, xsaNp, sNp, yNp, kpNp⟩
  have oexIo : OexC K cIo := ⟨⟨_, _, _, _, _, _, _, _, _, _, _, _, _, _, _, xLIo, xrvIo⟩, xsaIo, sIo, yIo, kpIo⟩
  have nc : TNc K mg cN := { qN := qN, gN := PySem.W.mg_of X Gn aN, kN := kN, sN := sN, yN := yN }
  let G : Gd K mg := {
    C := C, CV := CV, CT := CT, CW := CW, cP := cP, cI := cI, cV := cV, cU := cU, cN := cN, cNp := cNp, cIo := cIo, fI := fI, fV := fV, fT := fT, fTv := fTv, fVN := fVN, fVP := fVP, fVC := fVC, fP := fP, pP := pP, fL := fL, pL := pL, fTo := fTo, fItd := fItd, fCt := fCt, fWi := fWi, fNp := fNp, fIo := fIo, fTd := fTd, pTd := pTd, fSp := fSp, pSp := pSp, fPu := fPu, pPu := pPu, fIc := fIc, pIc := pIc, fRe := fRe, fBy := fBy, fPd := fPd, fPs := fPs, fUn := fUn, fRp := fRp, pRp := pRp, fCd := fCd, xCd := xCd, fD := fD, fSt := fSt, fPas := fPas, fTar := fTar, fDay := fDay, fSm := fSm, fOu := fOu, fBu := fBu, fMd := fMd, fMs := fMs, fMu := fMu, fCv := fCv, fKe := fKe, fAg := fAg, fStp := fStp, xStp := xStp, fRpd := fRpd, xRpd := xRpd, eT := eT, Pc := Pc, Ps := Ps, Pr := Pr, Pt := Pt, mc := (.type "type"), mp := (.type "type")
    dI := _, dT := _, dTv := _, dVN := _, dVP := _, dVC := _, dP := _, dL := _, dTo := _, dItd := _, dCt := _, dWi := _, dNp := _, dIo := _, dTd := _, dSp := _, dPu := _, dIc := _, dRe := _, dBy := _, dPd := _, dPs := _, dUn := _, dRp := _, dCd := _, dD := _, dSt := _, dPas := _, dTar := _, dDay := _, dSm := _, dOu := _, dBu := _, dMd := _, dMs := _, dMu := _, dCv := _, dKe := _, dAg := _, dStp := _, dRpd := _, dV := _
    X := { cl := ⟨pgC, hdC, poC, saC⟩, no := nO, gC := PySem.W.mg_of X Gn aC, cr := ⟨rd, ga⟩, v1 := ⟨_, v0, ⟨_, rfl⟩⟩, v2 := ⟨_, v1, ⟨_, rfl⟩⟩, v3 := ⟨_, v2, ⟨_, rfl⟩⟩, mE := PySem.W.mg_none_of X Gn z_enumerate, mN := PySem.W.mg_none_of X Gn z_len, mT := PySem.W.mg_none_of X Gn z_tuple, xI := oexI, nI := nI_index, gI := PySem.W.mg_of X Gn aI, iI := iI, tI := tI, pI := ⟨PySem.W.mg_of X Gn aP, prd, pga, pat⟩, qU := qU, gU := PySem.W.mg_of X Gn aU, kU := kU, sU := sU, yU := yU }
    I := { mkf := ⟨mkC, atT, ifT, kpCC⟩, fT := fun_mk (st := sInit) lT cd_T kp_T, fI := fun_mk (st := sIT) lI cd_I kp_I }
    Q := { pr := ⟨atP, geP, taP, ⟨_, rcP⟩⟩, fu := fun_mk (st := sPasses) lP cd_P kp_P }
    pL_ := ⟨atL, geL, taL, ⟨_, rcL⟩⟩, uL := fun_mk (st := sLengths) lL cd_L kp_L
    EV := { xV := oexV, nP := nV_part, nI := nV_index, gV := PySem.W.mg_of X Gn aV, iV := iV, tV := tV, fu := fun_mk (st := sIV) lXV cd_XV kp_XV, pI := ⟨PySem.W.mg_of X Gn aP, prd, pga, pat⟩ }
    TV := { cl := ⟨pgV, hdV, poV, saV⟩, nS := nA0, nP := nA1, nO := nA2, gC := PySem.W.mg_of X Gn aCV, mR := ⟨_, PySem.W.mg_of X Gn w0, ⟨_, rfl⟩⟩, mX := ⟨_, PySem.W.mg_of X Gn w1, ⟨_, rfl⟩⟩, mD := ⟨_, PySem.W.mg_of X Gn w2, ⟨_, rfl⟩⟩, mE := PySem.W.mg_none_of X Gn z_enumerate, gVN := PySem.W.mg_of X Gn atVN, kVN := kp_VN, uVN := fun_mk (st := sVN) lVN cd_VN kp_VN }
    mkV := ⟨mkV, atTv, ifTv, kpCV⟩, uTv := fun_mk (st := sTvI) lTv cd_Tv kp_Tv
    kTv := ⟨⟨_, _, _, _, _, _, _, _, _, _, rfl, lTv, cd_Tv, .inl ⟨rfl, rfl⟩, .inr ⟨kD, rfl, fun q hq => by
      rw [List.mem_singleton.mp hq]
      exact ⟨_, kx, rfl⟩⟩⟩, kp_Tv⟩
    eTv := ⟨_, _, eTl, rfl, rfl⟩
    Y := { mT := ⟨atTo, ifTo, kp_To⟩, uT := fun_mk (st := sTo) lTo cd_To kp_To, mI := ⟨atItd, ifItd, kp_Itd⟩, uI := fun_mk (st := sItd) lItd cd_Itd kp_Itd, nI := PySem.W.mg_none_of X Gn z_int }
    DN := { g := PySem.W.mg_of X Gn atD, kp := kp_D, fu := fun_mk (st := sDrawn) lD cd_D kp_D, mN := PySem.W.mg_none_of X Gn z_len }
    TW := { clT := ⟨pgT, hdT, poT, saT⟩, nD := nB0, nT := nB1, nB := nB2, nU := nB3, gT := PySem.W.mg_of X Gn aCT, mkT := ⟨mkT, atCt, ifCt, kpCT⟩, uT := fun_mk (st := sCtI) lCt cd_Ct kp_Ct, clW := ⟨pgW, hdW, poW, saW⟩, nO := nW0, nC := nW1, nE := nW2, gW := PySem.W.mg_of X Gn aCW, mkW := ⟨mkW, atWi, ifWi, kpCW⟩, uW := fun_mk (st := sWlI) lWi cd_Wi kp_Wi, gVC := PySem.W.mg_of X Gn atVC, kVC := kp_VC, uVC := fun_mk (st := sVC) lVC cd_VC kp_VC, nc := nc, gVP := PySem.W.mg_of X Gn atVP, kVP := kp_VP, uVP := fun_mk (st := sValid) lVP cd_VP kp_VP, mD := ⟨_, PySem.W.mg_of X Gn w2, ⟨_, rfl⟩⟩, mY := ⟨_, PySem.W.mg_of X Gn w3, ⟨_, rfl⟩⟩, mPd := ⟨_, PySem.W.mg_of X Gn w4, ⟨_, rfl⟩⟩, np := { x := oexNp, n := nNp_day, g := PySem.W.mg_of X Gn aNp, i := iNp, t := tNp, p := ⟨PySem.W.mg_of X Gn aP, prd, pga, pat⟩, u := fun_mk (st := sNpI) lXNp cd_XNp kp_XNp }, mX := PySem.W.mg_none_of X Gn z_max, mM := PySem.W.mg_none_of X Gn z_min, mL := PySem.W.mg_none_of X Gn z_list, mR := PySem.W.mg_none_of X Gn z_range, mA := PySem.W.mg_none_of X Gn z_any }
    M := { pTd := ⟨atTd, geTd, taTd, ⟨_, rcTd⟩⟩, uTd := fun_mk (st := sWlTd) lTd cd_Td kp_Td, pSp := ⟨atSp, geSp, taSp, ⟨_, rcSp⟩⟩, uSp := fun_mk (st := sWlSp) lSp cd_Sp kp_Sp, pPu := ⟨atPu, gePu, taPu, ⟨_, rcPu⟩⟩, uPu := fun_mk (st := sWlPu) lPu cd_Pu kp_Pu, pIc := ⟨atIc, geIc, taIc, ⟨_, rcIc⟩⟩, uIc := fun_mk (st := sWlIc) lIc cd_Ic kp_Ic, mRe := ⟨atRe, ifRe, kp_Re⟩, uRe := fun_mk (st := sWlRe) lRe cd_Re kp_Re, mBy := ⟨atBy, ifBy, kp_By⟩, uBy := fun_mk (st := sWlBy) lBy cd_By kp_By, mPd := ⟨atPd, ifPd, kp_Pd⟩, uPd := fun_mk (st := sWlPd) lPd cd_Pd kp_Pd, mPs := ⟨atPd2, ifPd2, kp_Pd2⟩, uPs := fun_mk (st := sWlPs) lPd2 cd_Pd2 kp_Pd2, mUn := ⟨atUn, ifUn, kp_Un⟩, uUn := fun_mk (st := sWlUn) lUn cd_Un kp_Un }
    IO := { x := oexIo, n := nIo_index, g := PySem.W.mg_of X Gn aIo, i := iIo, t := tIo, p := ⟨PySem.W.mg_of X Gn aP, prd, pga, pat⟩, u := fun_mk (st := sIoI) lXIo cd_XIo kp_XIo }
    SM := { g := PySem.W.mg_of X Gn atSm, kp := kp_Sm, fu := fun_mk (st := sSm) lSm cd_Sm kp_Sm, mI := PySem.W.mg_none_of X Gn z_isinstance, mN := PySem.W.mg_none_of X Gn z_len, mR := PySem.W.mg_none_of X Gn z_range, m_list := PySem.W.mg_none_of X Gn z_list, m_tuple := PySem.W.mg_none_of X Gn z_tuple, m_int := PySem.W.mg_none_of X Gn z_int, m_bool := PySem.W.mg_none_of X Gn z_bool }
    OU := { gN := PySem.W.mg_of X Gn aN, gI := PySem.W.mg_of X Gn aIo, gP := PySem.W.mg_of X Gn aNp, gU := PySem.W.mg_of X Gn aU, fI := ⟨egIo, ekIo, sIo, ehIo⟩, fP := ⟨egNp, ekNp, sNp, ehNp⟩, nI := nIo_index, nP := nNp_day, NN := xNN, IN := xIoN, II := xIoIo, PN := xNpN, PI := xNpIo, PP := xNpNp, UN := xUN, UI := xUIo, UP := xUNp, UU := xUU }
    TS := { gOu := PySem.W.mg_of X Gn atOu, kOu := kp_Ou, uOu := fun_mk (st := sOut) lOu cd_Ou kp_Ou, gBu := PySem.W.mg_of X Gn atBu, kBu := kp_Bu, uBu := fun_mk (st := sBu) lBu cd_Bu kp_Bu, gMd := PySem.W.mg_of X Gn atMd, kMd := kp_Md, uMd := fun_mk (st := sMd) lMd cd_Md kp_Md, gMs := PySem.W.mg_of X Gn atMs, kMs := kp_Ms, uMs := fun_mk (st := sMs) lMs cd_Ms kp_Ms, gMu := PySem.W.mg_of X Gn atMu, kMu := kp_Mu, uMu := fun_mk (st := sMu) lMu cd_Mu kp_Mu }
    TM := { uCv := fun_mk (st := sCv) lCv cd_Cv kp_Cv, gCv := PySem.W.mg_of X Gn atCv, kCv := kp_Cv, uKe := fun_mk (st := sKe) lKe cd_Ke kp_Ke, gKe := PySem.W.mg_of X Gn atKe, kKe := kp_Ke, mL := PySem.W.mg_none_of X Gn z_list, mN := PySem.W.mg_none_of X Gn z_len, mX := PySem.W.mg_none_of X Gn z_max, mM := PySem.W.mg_none_of X Gn z_min, mR := PySem.W.mg_none_of X Gn z_range, mS := PySem.W.mg_none_of X Gn z_sum, mI := PySem.W.mg_none_of X Gn z_int }
    cr := ⟨rdW, gaW⟩, cm := ⟨atRp, ⟨_, rcRp⟩, fiRp⟩, uRp := fun_mk (st := sWlRp) lRp cd_Rp kp_Rp, mCd := ⟨atCd, ifCd, kp_Cd⟩, uCd := fun_mk (st := sWlCd) lCd cd_Cd kp_Cd, kCd := ⟨_, _, _, _, _, _, _, _, rfl, lCd, cd_Cd⟩, kStp_ := ⟨_, _, _, _, _, _, _, _, rfl, lStp, cd_Stp⟩, kRpd_ := ⟨_, _, _, _, _, _, _, _, rfl, lRpd, cd_Rpd⟩, nSt := nSt
    n1 := nen1, n2 := nen2, n3 := nen3, n4 := nen4, n5 := nen5, n6 := nen6
    gSt := PySem.W.mg_of X Gn atSt, kSt := kp_St, uSt := fun_mk (st := sStart) lSt cd_St kp_St
    gPas := PySem.W.mg_of X Gn atPas, kPas := kp_Pas, uPas := fun_mk (st := sPas) lPas cd_Pas kp_Pas
    gTar := PySem.W.mg_of X Gn atTar, kTar := kp_Tar, uTar := fun_mk (st := sTar) lTar cd_Tar kp_Tar
    gDay := PySem.W.mg_of X Gn atDay, kDay := kp_Day, uDay := fun_mk (st := sDay) lDay cd_Day kp_Day
    gAg := PySem.W.mg_of X Gn atAg, kAg := kp_Ag, uAg := fun_mk (st := sAg) lAg cd_Ag kp_Ag
    gStp := PySem.W.mg_of X Gn atStp, kStp := kp_Stp, uStp := fun_mk (st := sStp) lStp cd_Stp kp_Stp
    gRpd := PySem.W.mg_of X Gn atRpd, kRpd := kp_Rpd, uRpd := fun_mk (st := sRpd) lRpd cd_Rpd kp_Rpd
    m_range := PySem.W.mg_none_of X Gn z_range, m_tuple := PySem.W.mg_none_of X Gn z_tuple, m_list := PySem.W.mg_none_of X Gn z_list, m_enumerate := PySem.W.mg_none_of X Gn z_enumerate }
  refine law_at (cc := cc) X G (fun p hp => ?_) lLaw cd_Law
  simp only [List.mem_cons, List.not_mem_nil, or_false] at hp
  rcases hp with rfl | rfl | rfl | rfl
  · exact ⟨hTPc, nTPc, hHPc⟩
  · exact ⟨hTPs, nTPs, hHPs⟩
  · exact ⟨hTPr, nTPr, hHPr⟩
  · exact ⟨hTPt, nTPt, hHPt⟩
end Sea

theorem PySem.Challenge.cw_seasonpass_k45_whole_wallets_holds : PySem.Challenge.rw_seasonpass_k45_whole_wallets.Holds := by
  exact Sea.top_first @Sea.all_mk
#print axioms PySem.Challenge.cw_seasonpass_k45_whole_wallets_holds
