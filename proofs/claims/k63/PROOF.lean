import PyProof.Rows.All
import Wide.All
import OpenK.AllK
import Wide.FinOn
import HandS.ForMost
import HandS.ForExc
import HandS.Nested
import HandS.Star
import HandS.Property
import HandS.ClsMeth
import HandS.Defaults
import HandS.ExcInit
import HandS.MakeKwOnly
import HandS.IsInst
import HandS.Wide
import HandS.EndTab
import KE.GoesMore
import KE.GoesComp
import KE.GoesEnum
import HandS.ExcIs
import HandS.TryMany
import KE.KExcIs
import HandS.Evl
import HandS.ExcField
import HandS.TupAny
import HandS.Small
import KE.KeyNested
import KE.KSuper
import HandS.NestedK
import HandS.SetFor
import HandS.Strs
import HandS.SortInts
import HandS.Style
import PyProof.ListNew
import PyProof.TupleOfSeq
import PyProof.Rows.FactsTup
import PyProof.Rows.SortShellAny
import HandS.GenList
import HandS.GenYield
import PyProof.EqAt
import HandS.EndOwn
import KE.KNestM
import KE.OsRunLaw
import PySem.Challenge.RW_seasonpass_k63_whole_exceptions_come_and
set_option Elab.async false
set_option linter.all false
set_option maxRecDepth 100000
set_option maxHeartbeats 4000000
/-! the places of the text; what the end asks; the end's head, taken first -/
namespace Sea
open PySem PySem.Spec PyProof.Rows L2 LamX NdefX ClX StX
def top (i : Nat) : Stmt := PySem.Challenge.pw_seasonpass_k63_whole_exceptions_come_and.main.body.getD i (.Pass ⟨0, 0, 0, 0⟩)
abbrev sMix : Stmt := top 28
abbrev sNext : Stmt := top 29
abbrev sIV : Stmt := inClass (top 4) 0
abbrev sVC : Stmt := top 8
abbrev sVN : Stmt := top 14
abbrev sPat : Stmt := top 31
abbrev sTvI : Stmt := inClass (top 15) 0
abbrev sTo : Stmt := inClass (top 15) 4
abbrev sIs : Stmt := inClass (top 15) 5
abbrev sCt : Stmt := inClass (top 15) 6
abbrev sRl : Stmt := inClass (top 15) 1
abbrev sRd : Stmt := inClass (top 15) 2
abbrev sEx : Stmt := inClass (top 15) 3
abbrev sTd : Stmt := inClass (top 15) 7
abbrev sWx : Stmt := inClass (top 15) 8
abbrev sIT : Stmt := inClass (top 3) 0
abbrev sInit : Stmt := inClass (top 7) 3
abbrev sPasses : Stmt := inClass (top 7) 5
abbrev sStI : Stmt := inClass (top 17) 0
abbrev sHol : Stmt := inClass (top 17) 1
abbrev sVal : Stmt := inClass (top 17) 2
abbrev sCut : Stmt := top 18
abbrev sCvI : Stmt := inClass (top 19) 0
abbrev sOpn : Stmt := inClass (top 19) 1
abbrev sNot : Stmt := inClass (top 19) 2
abbrev sAdd : Stmt := inClass (top 19) 3
abbrev sKno : Stmt := inClass (top 19) 5
abbrev sRch : Stmt := inClass (top 19) 6
abbrev sCAt : Stmt := inClass (top 19) 7
abbrev sCom : Stmt := inClass (top 19) 8
abbrev sClo : Stmt := inClass (top 19) 4
abbrev sCoI : Stmt := inClass (top 22) 0
abbrev sRep : Stmt := inClass (top 22) 3
abbrev sRpr : Stmt := inClass (top 22) 4
abbrev sCos : Stmt := inClass (top 22) 5
abbrev sDpr : Stmt := inClass (top 22) 6
abbrev sCd : Stmt := top 21
abbrev sZon : Stmt := inClass (top 19) 9
abbrev sPar : Stmt := top 24
abbrev sUnl : Stmt := top 25
abbrev sFdi : Stmt := top 26
abbrev sDrawn : Stmt := top 30
abbrev sLc : Stmt := top 32
abbrev sTu : Stmt := top 33
abbrev sTl : Stmt := inClass (top 22) 2
abbrev sLaw : Stmt := top 34
def AMT : Prop := ∀ {l : PySem.W.OpenLaw} {w : World} {K : PySem.W.Frag} {h : Heap} {mg : Str → Option Value} {fa : Addr} (X : K.In h) (Gn : h.Ns mainGlobals mg) (hfa : mg "law" = some (.ref fa))
    {C CV CC ST CO cP cI cV cN pP pRl pRd pEx pRep pRpr pTl eT fI fV fT fTv fP fRl fRd fEx fTo fIs fCt fTd fWx fSt fHol fVal fCvI fOpn fNot fAdd fClo fKno fRch fCAt fCom fZon fCoI fRep fRpr fTl fCos fDpr fVN fVC fCut fCd fPar fUnl fFdi fMx fN fPs fPat fLc fTu fLaw : Addr}
    {t0 : Tok} {t1 : Tok} {t2 : Tok} {u0 : Tok} {u1 : Tok} {u2 : Tok} {u3 : Tok} {nmI qI : Str} {xNI : Addr} {xbsI xbmI xsubI : List Value} {xsnI : List Str} {xabI : Bool} {xcolI : Option Bool} {xddI : Option Addr} {xm0I xm1I xm2I xm3I xm5I : Option Value} {nmV qV : Str} {xNV : Addr} {xbsV xbmV xsubV : List Value} {xsnV : List Str} {xabV : Bool} {xcolV : Option Bool} {xddV : Option Addr} {xm0V xm1V xm2V xm3V xm5V : Option Value} {ocT : Value} {dcT : Value} {pmT : Value} {ctT : Value} {cdT : Value} {kVT : Value} {odT anT : Option Addr} {slT : Array (Option Value)} {ocI : Value} {dcI : Value} {pmI : Value} {ctI : Value} {cdI : Value} {kVI : Value} {odI anI : Option Addr} {slI : Array (Option Value)} {ocXV : Value} {dcXV : Value} {pmXV : Value} {ctXV : Value} {cdXV : Value} {kVXV : Value} {odXV anXV : Option Addr} {slXV : Array (Option Value)} {reP : List Value} {ocP : Value} {dcP : Value} {pmP : Value} {ctP : Value} {cdP : Value} {kVP : Value} {odP anP : Option Addr} {slP : Array (Option Value)} {ocTv : Value} {dcTv : Value} {pmTv : Value} {ctTv : Value} {cdTv : Value} {odTv anTv : Option Addr} {slTv : Array (Option Value)} {kD : Addr} {eTd : Option Addr} {eTn : Nat} {eTs : Array (Option Value)} {reRl : List Value} {ocRl : Value} {dcRl : Value} {pmRl : Value} {ctRl : Value} {cdRl : Value} {kVRl : Value} {odRl anRl : Option Addr} {slRl : Array (Option Value)} {reRd : List Value} {ocRd : Value} {dcRd : Value} {pmRd : Value} {ctRd : Value} {cdRd : Value} {kVRd : Value} {odRd anRd : Option Addr} {slRd : Array (Option Value)} {reEx : List Value} {ocEx : Value} {dcEx : Value} {pmEx : Value} {ctEx : Value} {cdEx : Value} {kVEx : Value} {odEx anEx : Option Addr} {slEx : Array (Option Value)} {ocTo : Value} {dcTo : Value} {pmTo : Value} {ctTo : Value} {cdTo : Value} {kVTo : Value} {odTo anTo : Option Addr} {slTo : Array (Option Value)} {ocIs : Value} {dcIs : Value} {pmIs : Value} {ctIs : Value} {cdIs : Value} {kVIs : Value} {odIs anIs : Option Addr} {slIs : Array (Option Value)} {ocCt : Value} {dcCt : Value} {pmCt : Value} {ctCt : Value} {cdCt : Value} {kVCt : Value} {odCt anCt : Option Addr} {slCt : Array (Option Value)} {ocTd : Value} {dcTd : Value} {pmTd : Value} {ctTd : Value} {cdTd : Value} {kVTd : Value} {odTd anTd : Option Addr} {slTd : Array (Option Value)} {ocWx : Value} {dcWx : Value} {pmWx : Value} {ctWx : Value} {cdWx : Value} {kVWx : Value} {odWx anWx : Option Addr} {slWx : Array (Option Value)} {ocSt : Value} {dcSt : Value} {pmSt : Value} {ctSt : Value} {cdSt : Value} {kVSt : Value} {odSt anSt : Option Addr} {slSt : Array (Option Value)} {ocHol : Value} {dcHol : Value} {pmHol : Value} {ctHol : Value} {cdHol : Value} {kVHol : Value} {odHol anHol : Option Addr} {slHol : Array (Option Value)} {ocVal : Value} {dcVal : Value} {pmVal : Value} {ctVal : Value} {cdVal : Value} {kVVal : Value} {odVal anVal : Option Addr} {slVal : Array (Option Value)} {ocCvI : Value} {dcCvI : Value} {pmCvI : Value} {ctCvI : Value} {cdCvI : Value} {kVCvI : Value} {odCvI anCvI : Option Addr} {slCvI : Array (Option Value)} {ocOpn : Value} {dcOpn : Value} {pmOpn : Value} {ctOpn : Value} {cdOpn : Value} {kVOpn : Value} {odOpn anOpn : Option Addr} {slOpn : Array (Option Value)} {ocNot : Value} {dcNot : Value} {pmNot : Value} {ctNot : Value} {cdNot : Value} {kVNot : Value} {odNot anNot : Option Addr} {slNot : Array (Option Value)} {ocAdd : Value} {dcAdd : Value} {pmAdd : Value} {ctAdd : Value} {cdAdd : Value} {kVAdd : Value} {odAdd anAdd : Option Addr} {slAdd : Array (Option Value)} {ocClo : Value} {dcClo : Value} {pmClo : Value} {ctClo : Value} {cdClo : Value} {kVClo : Value} {odClo anClo : Option Addr} {slClo : Array (Option Value)} {ocKno : Value} {dcKno : Value} {pmKno : Value} {ctKno : Value} {cdKno : Value} {kVKno : Value} {odKno anKno : Option Addr} {slKno : Array (Option Value)} {ocRch : Value} {dcRch : Value} {pmRch : Value} {ctRch : Value} {cdRch : Value} {kVRch : Value} {odRch anRch : Option Addr} {slRch : Array (Option Value)} {ocCAt : Value} {dcCAt : Value} {pmCAt : Value} {ctCAt : Value} {cdCAt : Value} {kVCAt : Value} {odCAt anCAt : Option Addr} {slCAt : Array (Option Value)} {ocCom : Value} {dcCom : Value} {pmCom : Value} {ctCom : Value} {cdCom : Value} {kVCom : Value} {odCom anCom : Option Addr} {slCom : Array (Option Value)} {ocZon : Value} {dcZon : Value} {pmZon : Value} {ctZon : Value} {cdZon : Value} {kVZon : Value} {odZon anZon : Option Addr} {slZon : Array (Option Value)} {ocCoI : Value} {dcCoI : Value} {pmCoI : Value} {ctCoI : Value} {cdCoI : Value} {kVCoI : Value} {odCoI anCoI : Option Addr} {slCoI : Array (Option Value)} {reRep : List Value} {ocRep : Value} {dcRep : Value} {pmRep : Value} {ctRep : Value} {cdRep : Value} {kVRep : Value} {odRep anRep : Option Addr} {slRep : Array (Option Value)} {reRpr : List Value} {ocRpr : Value} {dcRpr : Value} {pmRpr : Value} {ctRpr : Value} {cdRpr : Value} {kVRpr : Value} {odRpr anRpr : Option Addr} {slRpr : Array (Option Value)} {reTl : List Value} {ocTl : Value} {dcTl : Value} {pmTl : Value} {ctTl : Value} {cdTl : Value} {kVTl : Value} {odTl anTl : Option Addr} {slTl : Array (Option Value)} {ocCos : Value} {dcCos : Value} {pmCos : Value} {ctCos : Value} {cdCos : Value} {kVCos : Value} {odCos anCos : Option Addr} {slCos : Array (Option Value)} {ocDpr : Value} {dcDpr : Value} {pmDpr : Value} {ctDpr : Value} {cdDpr : Value} {kVDpr : Value} {odDpr anDpr : Option Addr} {slDpr : Array (Option Value)} {ocVN : Value} {dcVN : Value} {pmVN : Value} {ctVN : Value} {cdVN : Value} {kVVN : Value} {odVN anVN : Option Addr} {slVN : Array (Option Value)} {ocVC : Value} {dcVC : Value} {pmVC : Value} {ctVC : Value} {cdVC : Value} {kVVC : Value} {odVC anVC : Option Addr} {slVC : Array (Option Value)} {ocCut : Value} {dcCut : Value} {pmCut : Value} {ctCut : Value} {cdCut : Value} {kVCut : Value} {odCut anCut : Option Addr} {slCut : Array (Option Value)} {ocCd : Value} {dcCd : Value} {pmCd : Value} {ctCd : Value} {cdCd : Value} {kVCd : Value} {odCd anCd : Option Addr} {slCd : Array (Option Value)} {ocPar : Value} {dcPar : Value} {pmPar : Value} {ctPar : Value} {cdPar : Value} {kVPar : Value} {odPar anPar : Option Addr} {slPar : Array (Option Value)} {ocUnl : Value} {dcUnl : Value} {pmUnl : Value} {ctUnl : Value} {cdUnl : Value} {kVUnl : Value} {odUnl anUnl : Option Addr} {slUnl : Array (Option Value)} {ocFdi : Value} {dcFdi : Value} {pmFdi : Value} {ctFdi : Value} {cdFdi : Value} {kVFdi : Value} {odFdi anFdi : Option Addr} {slFdi : Array (Option Value)} {ocMx : Value} {dcMx : Value} {pmMx : Value} {ctMx : Value} {cdMx : Value} {kVMx : Value} {odMx anMx : Option Addr} {slMx : Array (Option Value)} {ocN : Value} {dcN : Value} {pmN : Value} {ctN : Value} {cdN : Value} {kVN : Value} {odN anN : Option Addr} {slN : Array (Option Value)} {ocPs : Value} {dcPs : Value} {pmPs : Value} {ctPs : Value} {cdPs : Value} {kVPs : Value} {odPs anPs : Option Addr} {slPs : Array (Option Value)} {ocPat : Value} {dcPat : Value} {pmPat : Value} {ctPat : Value} {cdPat : Value} {kVPat : Value} {odPat anPat : Option Addr} {slPat : Array (Option Value)} {ocLc : Value} {dcLc : Value} {pmLc : Value} {ctLc : Value} {cdLc : Value} {kVLc : Value} {odLc anLc : Option Addr} {slLc : Array (Option Value)} {ocTu : Value} {dcTu : Value} {pmTu : Value} {ctTu : Value} {cdTu : Value} {kVTu : Value} {odTu anTu : Option Addr} {slTu : Array (Option Value)} {ocLaw : Value} {dcLaw : Value} {pmLaw : Value} {ctLaw : Value} {cdLaw : Value} {kVLaw : Value} {odLaw anLaw : Option Addr} {slLaw : Array (Option Value)}
    (aC : PySem.W.nsIn K mainGlobals "Tariff" = some (some (.ref C)))
    (aCV : PySem.W.nsIn K mainGlobals "Travel" = some (some (.ref CV)))
    (aP : PySem.W.nsIn K mainGlobals "PassError" = some (some (.ref cP)))
    (aI : PySem.W.nsIn K mainGlobals "InvalidTariff" = some (some (.ref cI)))
    (aV : PySem.W.nsIn K mainGlobals "InvalidTravel" = some (some (.ref cV)))
    (aN : PySem.W.nsIn K mainGlobals "InvalidCount" = some (some (.ref cN)))
    (aCC : PySem.W.nsIn K mainGlobals "Curve" = some (some (.ref CC)))
    (aST : PySem.W.nsIn K mainGlobals "Stretch" = some (some (.ref ST)))
    (aCO : PySem.W.nsIn K mainGlobals "Costs" = some (some (.ref CO)))
    (z_enumerate : PySem.W.nsIn K mainGlobals "enumerate" = some none)
    (z_len : PySem.W.nsIn K mainGlobals "len" = some none)
    (z_tuple : PySem.W.nsIn K mainGlobals "tuple" = some none)
    (z_int : PySem.W.nsIn K mainGlobals "int" = some none)
    (z_range : PySem.W.nsIn K mainGlobals "range" = some none)
    (z_max : PySem.W.nsIn K mainGlobals "max" = some none)
    (z_min : PySem.W.nsIn K mainGlobals "min" = some none)
    (z_sorted : PySem.W.nsIn K mainGlobals "sorted" = some none)
    (z_list : PySem.W.nsIn K mainGlobals "list" = some none)
    (z_set : PySem.W.nsIn K mainGlobals "set" = some none)
    (pgC : PySem.W.plainGet K C Str.empty = true)
    (hdC : PySem.W.hasDictIn K C = true)
    (poC : PySem.W.plainOver K C = true)
    (saC : PySem.W.findIn K (.ref C) "__setattr__" = some (some (.builtin "object.__setattr__")))
    (mkC : PySem.W.makesIn K C = true)
    (kpCC : PySem.W.keepIn K (.ref C) = true)
    (pgV : PySem.W.plainGet K CV Str.empty = true)
    (hdV : PySem.W.hasDictIn K CV = true)
    (poV : PySem.W.plainOver K CV = true)
    (saV : PySem.W.findIn K (.ref CV) "__setattr__" = some (some (.builtin "object.__setattr__")))
    (mkV : PySem.W.makesIn K CV = true)
    (kpCV : PySem.W.keepIn K (.ref CV) = true)
    (pgQ : PySem.W.plainGet K CC Str.empty = true)
    (hdQ : PySem.W.hasDictIn K CC = true)
    (poQ : PySem.W.plainOver K CC = true)
    (saQ : PySem.W.findIn K (.ref CC) "__setattr__" = some (some (.builtin "object.__setattr__")))
    (mkQ : PySem.W.makesIn K CC = true)
    (kpCQ : PySem.W.keepIn K (.ref CC) = true)
    (pgX : PySem.W.plainGet K ST Str.empty = true)
    (hdX : PySem.W.hasDictIn K ST = true)
    (poX : PySem.W.plainOver K ST = true)
    (saX : PySem.W.findIn K (.ref ST) "__setattr__" = some (some (.builtin "object.__setattr__")))
    (mkX : PySem.W.makesIn K ST = true)
    (kpCX : PySem.W.keepIn K (.ref ST) = true)
    (pgO : PySem.W.plainGet K CO Str.empty = true)
    (hdO : PySem.W.hasDictIn K CO = true)
    (poO : PySem.W.plainOver K CO = true)
    (saO : PySem.W.findIn K (.ref CO) "__setattr__" = some (some (.builtin "object.__setattr__")))
    (mkO : PySem.W.makesIn K CO = true)
    (kpCO : PySem.W.keepIn K (.ref CO) = true)
    (nO : PySem.W.findIn K (.ref C) "offers" = some none)
    (rd : PySem.W.readsIn K C (.type "type") = true)
    (ga : PySem.W.specialIn K (.ref C) "__getattribute__" = some (some (.builtin "type.__getattribute__")))
    (v0 : PySem.W.findCls K (.ref C) (.type "type") "MAX_LENGTH" = some (.val (.int 28 t0)))
    (v1 : PySem.W.findCls K (.ref C) (.type "type") "MAX_PRICE" = some (.val (.int 1000000 t1)))
    (v2 : PySem.W.findCls K (.ref C) (.type "type") "MAX_PASSES" = some (.val (.int 6 t2)))
    (nA0 : PySem.W.findIn K (.ref CV) "size" = some none)
    (nA1 : PySem.W.findIn K (.ref CV) "pattern" = some none)
    (nA2 : PySem.W.findIn K (.ref CV) "odd_days" = some none)
    (nQ0 : PySem.W.findIn K (.ref CC) "offers" = some none)
    (nQ1 : PySem.W.findIn K (.ref CC) "days_of_travel" = some none)
    (nQ2 : PySem.W.findIn K (.ref CC) "reach" = some none)
    (nQ3 : PySem.W.findIn K (.ref CC) "cuts" = some none)
    (nQ4 : PySem.W.findIn K (.ref CC) "stretches" = some none)
    (nQ5 : PySem.W.findIn K (.ref CC) "recent" = some none)
    (nQ6 : PySem.W.findIn K (.ref CC) "seen" = some none)
    (nX0 : PySem.W.findIn K (.ref ST) "begin" = some none)
    (nX1 : PySem.W.findIn K (.ref ST) "end" = some none)
    (nX2 : PySem.W.findIn K (.ref ST) "totals" = some none)
    (nX3 : PySem.W.findIn K (.ref ST) "start" = some none)
    (nX4 : PySem.W.findIn K (.ref ST) "days" = some none)
    (nX5 : PySem.W.findIn K (.ref ST) "gain" = some none)
    (nP0 : PySem.W.findIn K (.ref CO) "offer" = some none)
    (nP1 : PySem.W.findIn K (.ref CO) "trips" = some none)
    (nP2 : PySem.W.findIn K (.ref CO) "curve" = some none)
    (nP3 : PySem.W.findIn K (.ref CO) "last" = some none)
    (w0 : PySem.W.nsIn K mainGlobals "MAX_ROUND" = some (some (.int 14 u0)))
    (w1 : PySem.W.nsIn K mainGlobals "MAX_EXCEPTIONS" = some (some (.int 6 u1)))
    (w2 : PySem.W.nsIn K mainGlobals "MAX_DAYS" = some (some (.int 1000000000000000000 u2)))
    (w3 : PySem.W.nsIn K mainGlobals "MAX_YIELDED" = some (some (.int 10000 u3)))
    (xLI : K.lookup cI = some (excClassObj nmI qI cI xNI xbsI xbmI true xsnI xsubI xabI xcolI xddI xm0I xm1I xm2I xm3I xm5I "ValueError.__new__"))
    (xrvI : PySem.HandSPX.refsVE xbmI = true)
    (xsaI : PySem.W.findIn K (.ref cI) "__setattr__" = some (some (.builtin "object.__setattr__")))
    (sI : PySem.W.subIn K (.ref cI) (.type "BaseException") = some true)
    (yI : PySem.W.typeIn K (.ref cI) = some (.type "type"))
    (kpI : PySem.W.keepIn K (.ref cI) = true)
    (nI_index : PySem.W.findIn K (.ref cI) "index" = some none)
    (iI : PySem.W.findIn K (.ref cI) "__init__" = some (some (.ref fI)))
    (tI : PySem.W.typeIn K (.ref fI) = some (.type "function"))
    (egI : PySem.W.findIn K (.ref cI) "__getattribute__" = some (some (.builtin "BaseException.__getattribute__")))
    (ekI : PySem.W.findIn K (.ref cI) "__getattr__" = some none)
    (ehI : PySem.W.hasDictIn K cI = true)
    (xLV : K.lookup cV = some (excClassObj nmV qV cV xNV xbsV xbmV true xsnV xsubV xabV xcolV xddV xm0V xm1V xm2V xm3V xm5V "ValueError.__new__"))
    (xrvV : PySem.HandSPX.refsVE xbmV = true)
    (xsaV : PySem.W.findIn K (.ref cV) "__setattr__" = some (some (.builtin "object.__setattr__")))
    (sV : PySem.W.subIn K (.ref cV) (.type "BaseException") = some true)
    (yV : PySem.W.typeIn K (.ref cV) = some (.type "type"))
    (kpV : PySem.W.keepIn K (.ref cV) = true)
    (nV_part : PySem.W.findIn K (.ref cV) "part" = some none)
    (nV_index : PySem.W.findIn K (.ref cV) "index" = some none)
    (iV : PySem.W.findIn K (.ref cV) "__init__" = some (some (.ref fV)))
    (tV : PySem.W.typeIn K (.ref fV) = some (.type "function"))
    (egV : PySem.W.findIn K (.ref cV) "__getattribute__" = some (some (.builtin "BaseException.__getattribute__")))
    (ekV : PySem.W.findIn K (.ref cV) "__getattr__" = some none)
    (ehV : PySem.W.hasDictIn K cV = true)
    (prd : PySem.W.readsIn K cP (.type "type") = true)
    (pga : PySem.W.specialIn K (.ref cP) "__getattribute__" = some (some (.builtin "type.__getattribute__")))
    (pat : PySem.W.findCls K (.ref cP) (.type "type") "__init__" = some (.val (.builtin "ValueError.__init__")))
    (qN : PySem.W.excIn K cN [.type "ValueError", .type "Exception", .type "BaseException", .type "object"] "ValueError.__new__" = true)
    (kN : PySem.W.keepIn K (.ref cN) = true)
    (sN : PySem.W.subIn K (.ref cN) (.type "BaseException") = some true)
    (yN : PySem.W.typeIn K (.ref cN) = some (.type "type"))
    (atT : PySem.W.findIn K (.ref C) "__init__" = some (some (.ref fT)))
    (ifT : PySem.W.isFn K (.ref fT) = true)
    (lT : K.lookup fT = some ⟨ocT, odT, .func (PySem.W.fnOf "__init__" "Tariff.__init__" (defArgs sInit) (defBody sInit) (defScope sInit) .none kVT dcT pmT anT cdT ctT), slT⟩)
    (cd_T : PySem.W.codeIn K cdT "Tariff.__init__" = true)
    (kp_T : PySem.W.keepIn K (.ref fT) = true)
    (lI : K.lookup fI = some ⟨ocI, odI, .func (PySem.W.fnOf "__init__" "InvalidTariff.__init__" (defArgs sIT) (defBody sIT) (defScope sIT) .none kVI dcI pmI anI cdI ctI), slI⟩)
    (cd_I : PySem.W.codeIn K cdI "InvalidTariff.__init__" = true)
    (kp_I : PySem.W.keepIn K (.ref fI) = true)
    (lXV : K.lookup fV = some ⟨ocXV, odXV, .func (PySem.W.fnOf "__init__" "InvalidTravel.__init__" (defArgs sIV) (defBody sIV) (defScope sIV) .none kVXV dcXV pmXV anXV cdXV ctXV), slXV⟩)
    (cd_XV : PySem.W.codeIn K cdXV "InvalidTravel.__init__" = true)
    (kp_XV : PySem.W.keepIn K (.ref fV) = true)
    (atP : PySem.W.findIn K (.ref C) "passes" = some (some (.ref pP)))
    (geP : PySem.W.specialIn K (.ref pP) "__get__" = some (some (.builtin "property.__get__")))
    (taP : PySem.W.takesIn K (.ref pP) = some true)
    (rcP : PySem.W.recIn K pP "property" = some (.ref fP :: reP))
    (lP : K.lookup fP = some ⟨ocP, odP, .func (PySem.W.fnOf "passes" "Tariff.passes" (defArgs sPasses) (defBody sPasses) (defScope sPasses) .none kVP dcP pmP anP cdP ctP), slP⟩)
    (cd_P : PySem.W.codeIn K cdP "Tariff.passes" = true)
    (kp_P : PySem.W.keepIn K (.ref fP) = true)
    (atTv : PySem.W.findIn K (.ref CV) "__init__" = some (some (.ref fTv)))
    (ifTv : PySem.W.isFn K (.ref fTv) = true)
    (lTv : K.lookup fTv = some ⟨ocTv, odTv, .func (PySem.W.fnOf "__init__" "Travel.__init__" (defArgs sTvI) (defBody sTvI) (defScope sTvI) .none (.ref kD) dcTv pmTv anTv cdTv ctTv), slTv⟩)
    (cd_Tv : PySem.W.codeIn K cdTv "Travel.__init__" = true)
    (kp_Tv : PySem.W.keepIn K (.ref fTv) = true)
    (kx : PySem.W.nsIn K kD "exceptions" = some (some (.ref eT)))
    (eTl : K.lookup eT = some ⟨.type "tuple", eTd, .seq #[] eTn, eTs⟩)
    (atRl : PySem.W.findIn K (.ref CV) "round_length" = some (some (.ref pRl)))
    (geRl : PySem.W.specialIn K (.ref pRl) "__get__" = some (some (.builtin "property.__get__")))
    (taRl : PySem.W.takesIn K (.ref pRl) = some true)
    (rcRl : PySem.W.recIn K pRl "property" = some (.ref fRl :: reRl))
    (lRl : K.lookup fRl = some ⟨ocRl, odRl, .func (PySem.W.fnOf "round_length" "Travel.round_length" (defArgs sRl) (defBody sRl) (defScope sRl) .none kVRl dcRl pmRl anRl cdRl ctRl), slRl⟩)
    (cd_Rl : PySem.W.codeIn K cdRl "Travel.round_length" = true)
    (kp_Rl : PySem.W.keepIn K (.ref fRl) = true)
    (atRd : PySem.W.findIn K (.ref CV) "round_days" = some (some (.ref pRd)))
    (geRd : PySem.W.specialIn K (.ref pRd) "__get__" = some (some (.builtin "property.__get__")))
    (taRd : PySem.W.takesIn K (.ref pRd) = some true)
    (rcRd : PySem.W.recIn K pRd "property" = some (.ref fRd :: reRd))
    (lRd : K.lookup fRd = some ⟨ocRd, odRd, .func (PySem.W.fnOf "round_days" "Travel.round_days" (defArgs sRd) (defBody sRd) (defScope sRd) .none kVRd dcRd pmRd anRd cdRd ctRd), slRd⟩)
    (cd_Rd : PySem.W.codeIn K cdRd "Travel.round_days" = true)
    (kp_Rd : PySem.W.keepIn K (.ref fRd) = true)
    (atEx : PySem.W.findIn K (.ref CV) "exceptions" = some (some (.ref pEx)))
    (geEx : PySem.W.specialIn K (.ref pEx) "__get__" = some (some (.builtin "property.__get__")))
    (taEx : PySem.W.takesIn K (.ref pEx) = some true)
    (rcEx : PySem.W.recIn K pEx "property" = some (.ref fEx :: reEx))
    (lEx : K.lookup fEx = some ⟨ocEx, odEx, .func (PySem.W.fnOf "exceptions" "Travel.exceptions" (defArgs sEx) (defBody sEx) (defScope sEx) .none kVEx dcEx pmEx anEx cdEx ctEx), slEx⟩)
    (cd_Ex : PySem.W.codeIn K cdEx "Travel.exceptions" = true)
    (kp_Ex : PySem.W.keepIn K (.ref fEx) = true)
    (atTo : PySem.W.findIn K (.ref CV) "travels_on" = some (some (.ref fTo)))
    (ifTo : PySem.W.isFn K (.ref fTo) = true)
    (lTo : K.lookup fTo = some ⟨ocTo, odTo, .func (PySem.W.fnOf "travels_on" "Travel.travels_on" (defArgs sTo) (defBody sTo) (defScope sTo) .none kVTo dcTo pmTo anTo cdTo ctTo), slTo⟩)
    (cd_To : PySem.W.codeIn K cdTo "Travel.travels_on" = true)
    (kp_To : PySem.W.keepIn K (.ref fTo) = true)
    (atIs : PySem.W.findIn K (.ref CV) "is_travel_day" = some (some (.ref fIs)))
    (ifIs : PySem.W.isFn K (.ref fIs) = true)
    (lIs : K.lookup fIs = some ⟨ocIs, odIs, .func (PySem.W.fnOf "is_travel_day" "Travel.is_travel_day" (defArgs sIs) (defBody sIs) (defScope sIs) .none kVIs dcIs pmIs anIs cdIs ctIs), slIs⟩)
    (cd_Is : PySem.W.codeIn K cdIs "Travel.is_travel_day" = true)
    (kp_Is : PySem.W.keepIn K (.ref fIs) = true)
    (atCt : PySem.W.findIn K (.ref CV) "count_travel_days" = some (some (.ref fCt)))
    (ifCt : PySem.W.isFn K (.ref fCt) = true)
    (lCt : K.lookup fCt = some ⟨ocCt, odCt, .func (PySem.W.fnOf "count_travel_days" "Travel.count_travel_days" (defArgs sCt) (defBody sCt) (defScope sCt) .none kVCt dcCt pmCt anCt cdCt ctCt), slCt⟩)
    (cd_Ct : PySem.W.codeIn K cdCt "Travel.count_travel_days" = true)
    (kp_Ct : PySem.W.keepIn K (.ref fCt) = true)
    (atTd : PySem.W.findIn K (.ref CV) "travel_days" = some (some (.ref fTd)))
    (ifTd : PySem.W.isFn K (.ref fTd) = true)
    (lTd : K.lookup fTd = some ⟨ocTd, odTd, .func (PySem.W.fnOf "travel_days" "Travel.travel_days" (defArgs sTd) (defBody sTd) (defScope sTd) .none kVTd dcTd pmTd anTd cdTd ctTd), slTd⟩)
    (cd_Td : PySem.W.codeIn K cdTd "Travel.travel_days" = true)
    (kp_Td : PySem.W.keepIn K (.ref fTd) = true)
    (atWx : PySem.W.findIn K (.ref CV) "with_exception" = some (some (.ref fWx)))
    (ifWx : PySem.W.isFn K (.ref fWx) = true)
    (lWx : K.lookup fWx = some ⟨ocWx, odWx, .func (PySem.W.fnOf "with_exception" "Travel.with_exception" (defArgs sWx) (defBody sWx) (defScope sWx) .none kVWx dcWx pmWx anWx cdWx ctWx), slWx⟩)
    (cd_Wx : PySem.W.codeIn K cdWx "Travel.with_exception" = true)
    (kp_Wx : PySem.W.keepIn K (.ref fWx) = true)
    (atSt : PySem.W.findIn K (.ref ST) "__init__" = some (some (.ref fSt)))
    (ifSt : PySem.W.isFn K (.ref fSt) = true)
    (lSt : K.lookup fSt = some ⟨ocSt, odSt, .func (PySem.W.fnOf "__init__" "Stretch.__init__" (defArgs sStI) (defBody sStI) (defScope sStI) .none kVSt dcSt pmSt anSt cdSt ctSt), slSt⟩)
    (cd_St : PySem.W.codeIn K cdSt "Stretch.__init__" = true)
    (kp_St : PySem.W.keepIn K (.ref fSt) = true)
    (atHol : PySem.W.findIn K (.ref ST) "holds" = some (some (.ref fHol)))
    (ifHol : PySem.W.isFn K (.ref fHol) = true)
    (lHol : K.lookup fHol = some ⟨ocHol, odHol, .func (PySem.W.fnOf "holds" "Stretch.holds" (defArgs sHol) (defBody sHol) (defScope sHol) .none kVHol dcHol pmHol anHol cdHol ctHol), slHol⟩)
    (cd_Hol : PySem.W.codeIn K cdHol "Stretch.holds" = true)
    (kp_Hol : PySem.W.keepIn K (.ref fHol) = true)
    (atVal : PySem.W.findIn K (.ref ST) "value" = some (some (.ref fVal)))
    (ifVal : PySem.W.isFn K (.ref fVal) = true)
    (lVal : K.lookup fVal = some ⟨ocVal, odVal, .func (PySem.W.fnOf "value" "Stretch.value" (defArgs sVal) (defBody sVal) (defScope sVal) .none kVVal dcVal pmVal anVal cdVal ctVal), slVal⟩)
    (cd_Val : PySem.W.codeIn K cdVal "Stretch.value" = true)
    (kp_Val : PySem.W.keepIn K (.ref fVal) = true)
    (atCvI : PySem.W.findIn K (.ref CC) "__init__" = some (some (.ref fCvI)))
    (ifCvI : PySem.W.isFn K (.ref fCvI) = true)
    (lCvI : K.lookup fCvI = some ⟨ocCvI, odCvI, .func (PySem.W.fnOf "__init__" "Curve.__init__" (defArgs sCvI) (defBody sCvI) (defScope sCvI) .none kVCvI dcCvI pmCvI anCvI cdCvI ctCvI), slCvI⟩)
    (cd_CvI : PySem.W.codeIn K cdCvI "Curve.__init__" = true)
    (kp_CvI : PySem.W.keepIn K (.ref fCvI) = true)
    (atOpn : PySem.W.findIn K (.ref CC) "open_stretch" = some (some (.ref fOpn)))
    (ifOpn : PySem.W.isFn K (.ref fOpn) = true)
    (lOpn : K.lookup fOpn = some ⟨ocOpn, odOpn, .func (PySem.W.fnOf "open_stretch" "Curve.open_stretch" (defArgs sOpn) (defBody sOpn) (defScope sOpn) .none kVOpn dcOpn pmOpn anOpn cdOpn ctOpn), slOpn⟩)
    (cd_Opn : PySem.W.codeIn K cdOpn "Curve.open_stretch" = true)
    (kp_Opn : PySem.W.keepIn K (.ref fOpn) = true)
    (atNot : PySem.W.findIn K (.ref CC) "note_state" = some (some (.ref fNot)))
    (ifNot : PySem.W.isFn K (.ref fNot) = true)
    (lNot : K.lookup fNot = some ⟨ocNot, odNot, .func (PySem.W.fnOf "note_state" "Curve.note_state" (defArgs sNot) (defBody sNot) (defScope sNot) .none kVNot dcNot pmNot anNot cdNot ctNot), slNot⟩)
    (cd_Not : PySem.W.codeIn K cdNot "Curve.note_state" = true)
    (kp_Not : PySem.W.keepIn K (.ref fNot) = true)
    (atAdd : PySem.W.findIn K (.ref CC) "add_day" = some (some (.ref fAdd)))
    (ifAdd : PySem.W.isFn K (.ref fAdd) = true)
    (lAdd : K.lookup fAdd = some ⟨ocAdd, odAdd, .func (PySem.W.fnOf "add_day" "Curve.add_day" (defArgs sAdd) (defBody sAdd) (defScope sAdd) .none kVAdd dcAdd pmAdd anAdd cdAdd ctAdd), slAdd⟩)
    (cd_Add : PySem.W.codeIn K cdAdd "Curve.add_day" = true)
    (kp_Add : PySem.W.keepIn K (.ref fAdd) = true)
    (atClo : PySem.W.findIn K (.ref CC) "close_stretch" = some (some (.ref fClo)))
    (ifClo : PySem.W.isFn K (.ref fClo) = true)
    (lClo : K.lookup fClo = some ⟨ocClo, odClo, .func (PySem.W.fnOf "close_stretch" "Curve.close_stretch" (defArgs sClo) (defBody sClo) (defScope sClo) .none kVClo dcClo pmClo anClo cdClo ctClo), slClo⟩)
    (cd_Clo : PySem.W.codeIn K cdClo "Curve.close_stretch" = true)
    (kp_Clo : PySem.W.keepIn K (.ref fClo) = true)
    (atKno : PySem.W.findIn K (.ref CC) "known" = some (some (.ref fKno)))
    (ifKno : PySem.W.isFn K (.ref fKno) = true)
    (lKno : K.lookup fKno = some ⟨ocKno, odKno, .func (PySem.W.fnOf "known" "Curve.known" (defArgs sKno) (defBody sKno) (defScope sKno) .none kVKno dcKno pmKno anKno cdKno ctKno), slKno⟩)
    (cd_Kno : PySem.W.codeIn K cdKno "Curve.known" = true)
    (kp_Kno : PySem.W.keepIn K (.ref fKno) = true)
    (atRch : PySem.W.findIn K (.ref CC) "reach_count" = some (some (.ref fRch)))
    (ifRch : PySem.W.isFn K (.ref fRch) = true)
    (lRch : K.lookup fRch = some ⟨ocRch, odRch, .func (PySem.W.fnOf "reach_count" "Curve.reach_count" (defArgs sRch) (defBody sRch) (defScope sRch) .none kVRch dcRch pmRch anRch cdRch ctRch), slRch⟩)
    (cd_Rch : PySem.W.codeIn K cdRch "Curve.reach_count" = true)
    (kp_Rch : PySem.W.keepIn K (.ref fRch) = true)
    (atCAt : PySem.W.findIn K (.ref CC) "at" = some (some (.ref fCAt)))
    (ifCAt : PySem.W.isFn K (.ref fCAt) = true)
    (lCAt : K.lookup fCAt = some ⟨ocCAt, odCAt, .func (PySem.W.fnOf "at" "Curve.at" (defArgs sCAt) (defBody sCAt) (defScope sCAt) .none kVCAt dcCAt pmCAt anCAt cdCAt ctCAt), slCAt⟩)
    (cd_CAt : PySem.W.codeIn K cdCAt "Curve.at" = true)
    (kp_CAt : PySem.W.keepIn K (.ref fCAt) = true)
    (atCom : PySem.W.findIn K (.ref CC) "complete" = some (some (.ref fCom)))
    (ifCom : PySem.W.isFn K (.ref fCom) = true)
    (lCom : K.lookup fCom = some ⟨ocCom, odCom, .func (PySem.W.fnOf "complete" "Curve.complete" (defArgs sCom) (defBody sCom) (defScope sCom) .none kVCom dcCom pmCom anCom cdCom ctCom), slCom⟩)
    (cd_Com : PySem.W.codeIn K cdCom "Curve.complete" = true)
    (kp_Com : PySem.W.keepIn K (.ref fCom) = true)
    (atZon : PySem.W.findIn K (.ref CC) "zones" = some (some (.ref fZon)))
    (ifZon : PySem.W.isFn K (.ref fZon) = true)
    (lZon : K.lookup fZon = some ⟨ocZon, odZon, .func (PySem.W.fnOf "zones" "Curve.zones" (defArgs sZon) (defBody sZon) (defScope sZon) .none kVZon dcZon pmZon anZon cdZon ctZon), slZon⟩)
    (cd_Zon : PySem.W.codeIn K cdZon "Curve.zones" = true)
    (kp_Zon : PySem.W.keepIn K (.ref fZon) = true)
    (atCoI : PySem.W.findIn K (.ref CO) "__init__" = some (some (.ref fCoI)))
    (ifCoI : PySem.W.isFn K (.ref fCoI) = true)
    (lCoI : K.lookup fCoI = some ⟨ocCoI, odCoI, .func (PySem.W.fnOf "__init__" "Costs.__init__" (defArgs sCoI) (defBody sCoI) (defScope sCoI) .none kVCoI dcCoI pmCoI anCoI cdCoI ctCoI), slCoI⟩)
    (cd_CoI : PySem.W.codeIn K cdCoI "Costs.__init__" = true)
    (kp_CoI : PySem.W.keepIn K (.ref fCoI) = true)
    (atRep : PySem.W.findIn K (.ref CO) "repetition" = some (some (.ref pRep)))
    (geRep : PySem.W.specialIn K (.ref pRep) "__get__" = some (some (.builtin "property.__get__")))
    (taRep : PySem.W.takesIn K (.ref pRep) = some true)
    (rcRep : PySem.W.recIn K pRep "property" = some (.ref fRep :: reRep))
    (lRep : K.lookup fRep = some ⟨ocRep, odRep, .func (PySem.W.fnOf "repetition" "Costs.repetition" (defArgs sRep) (defBody sRep) (defScope sRep) .none kVRep dcRep pmRep anRep cdRep ctRep), slRep⟩)
    (cd_Rep : PySem.W.codeIn K cdRep "Costs.repetition" = true)
    (kp_Rep : PySem.W.keepIn K (.ref fRep) = true)
    (atRpr : PySem.W.findIn K (.ref CO) "round_price" = some (some (.ref pRpr)))
    (geRpr : PySem.W.specialIn K (.ref pRpr) "__get__" = some (some (.builtin "property.__get__")))
    (taRpr : PySem.W.takesIn K (.ref pRpr) = some true)
    (rcRpr : PySem.W.recIn K pRpr "property" = some (.ref fRpr :: reRpr))
    (lRpr : K.lookup fRpr = some ⟨ocRpr, odRpr, .func (PySem.W.fnOf "round_price" "Costs.round_price" (defArgs sRpr) (defBody sRpr) (defScope sRpr) .none kVRpr dcRpr pmRpr anRpr cdRpr ctRpr), slRpr⟩)
    (cd_Rpr : PySem.W.codeIn K cdRpr "Costs.round_price" = true)
    (kp_Rpr : PySem.W.keepIn K (.ref fRpr) = true)
    (atTl : PySem.W.findIn K (.ref CO) "travel" = some (some (.ref pTl)))
    (geTl : PySem.W.specialIn K (.ref pTl) "__get__" = some (some (.builtin "property.__get__")))
    (taTl : PySem.W.takesIn K (.ref pTl) = some true)
    (rcTl : PySem.W.recIn K pTl "property" = some (.ref fTl :: reTl))
    (lTl : K.lookup fTl = some ⟨ocTl, odTl, .func (PySem.W.fnOf "travel" "Costs.travel" (defArgs sTl) (defBody sTl) (defScope sTl) .none kVTl dcTl pmTl anTl cdTl ctTl), slTl⟩)
    (cd_Tl : PySem.W.codeIn K cdTl "Costs.travel" = true)
    (kp_Tl : PySem.W.keepIn K (.ref fTl) = true)
    (atCos : PySem.W.findIn K (.ref CO) "cost" = some (some (.ref fCos)))
    (ifCos : PySem.W.isFn K (.ref fCos) = true)
    (lCos : K.lookup fCos = some ⟨ocCos, odCos, .func (PySem.W.fnOf "cost" "Costs.cost" (defArgs sCos) (defBody sCos) (defScope sCos) .none kVCos dcCos pmCos anCos cdCos ctCos), slCos⟩)
    (cd_Cos : PySem.W.codeIn K cdCos "Costs.cost" = true)
    (kp_Cos : PySem.W.keepIn K (.ref fCos) = true)
    (atDpr : PySem.W.findIn K (.ref CO) "day_price" = some (some (.ref fDpr)))
    (ifDpr : PySem.W.isFn K (.ref fDpr) = true)
    (lDpr : K.lookup fDpr = some ⟨ocDpr, odDpr, .func (PySem.W.fnOf "day_price" "Costs.day_price" (defArgs sDpr) (defBody sDpr) (defScope sDpr) .none kVDpr dcDpr pmDpr anDpr cdDpr ctDpr), slDpr⟩)
    (cd_Dpr : PySem.W.codeIn K cdDpr "Costs.day_price" = true)
    (kp_Dpr : PySem.W.keepIn K (.ref fDpr) = true)
    (atVN : PySem.W.nsIn K mainGlobals "validate_numbers" = some (some (.ref fVN)))
    (lVN : K.lookup fVN = some ⟨ocVN, odVN, .func (PySem.W.fnOf "validate_numbers" "validate_numbers" (defArgs sVN) (defBody sVN) (defScope sVN) .none kVVN dcVN pmVN anVN cdVN ctVN), slVN⟩)
    (cd_VN : PySem.W.codeIn K cdVN "validate_numbers" = true)
    (kp_VN : PySem.W.keepIn K (.ref fVN) = true)
    (atVC : PySem.W.nsIn K mainGlobals "validate_count" = some (some (.ref fVC)))
    (lVC : K.lookup fVC = some ⟨ocVC, odVC, .func (PySem.W.fnOf "validate_count" "validate_count" (defArgs sVC) (defBody sVC) (defScope sVC) .none kVVC dcVC pmVC anVC cdVC ctVC), slVC⟩)
    (cd_VC : PySem.W.codeIn K cdVC "validate_count" = true)
    (kp_VC : PySem.W.keepIn K (.ref fVC) = true)
    (atCut : PySem.W.nsIn K mainGlobals "cuts_of" = some (some (.ref fCut)))
    (lCut : K.lookup fCut = some ⟨ocCut, odCut, .func (PySem.W.fnOf "cuts_of" "cuts_of" (defArgs sCut) (defBody sCut) (defScope sCut) .none kVCut dcCut pmCut anCut cdCut ctCut), slCut⟩)
    (cd_Cut : PySem.W.codeIn K cdCut "cuts_of" = true)
    (kp_Cut : PySem.W.keepIn K (.ref fCut) = true)
    (atCd : PySem.W.nsIn K mainGlobals "common_divisor" = some (some (.ref fCd)))
    (lCd : K.lookup fCd = some ⟨ocCd, odCd, .func (PySem.W.fnOf "common_divisor" "common_divisor" (defArgs sCd) (defBody sCd) (defScope sCd) .none kVCd dcCd pmCd anCd cdCd ctCd), slCd⟩)
    (cd_Cd : PySem.W.codeIn K cdCd "common_divisor" = true)
    (kp_Cd : PySem.W.keepIn K (.ref fCd) = true)
    (atPar : PySem.W.nsIn K mainGlobals "parts_of" = some (some (.ref fPar)))
    (lPar : K.lookup fPar = some ⟨ocPar, odPar, .func (PySem.W.fnOf "parts_of" "parts_of" (defArgs sPar) (defBody sPar) (defScope sPar) .none kVPar dcPar pmPar anPar cdPar ctPar), slPar⟩)
    (cd_Par : PySem.W.codeIn K cdPar "parts_of" = true)
    (kp_Par : PySem.W.keepIn K (.ref fPar) = true)
    (atUnl : PySem.W.nsIn K mainGlobals "first_unlike" = some (some (.ref fUnl)))
    (lUnl : K.lookup fUnl = some ⟨ocUnl, odUnl, .func (PySem.W.fnOf "first_unlike" "first_unlike" (defArgs sUnl) (defBody sUnl) (defScope sUnl) .none kVUnl dcUnl pmUnl anUnl cdUnl ctUnl), slUnl⟩)
    (cd_Unl : PySem.W.codeIn K cdUnl "first_unlike" = true)
    (kp_Unl : PySem.W.keepIn K (.ref fUnl) = true)
    (atFdi : PySem.W.nsIn K mainGlobals "first_difference" = some (some (.ref fFdi)))
    (lFdi : K.lookup fFdi = some ⟨ocFdi, odFdi, .func (PySem.W.fnOf "first_difference" "first_difference" (defArgs sFdi) (defBody sFdi) (defScope sFdi) .none kVFdi dcFdi pmFdi anFdi cdFdi ctFdi), slFdi⟩)
    (cd_Fdi : PySem.W.codeIn K cdFdi "first_difference" = true)
    (kp_Fdi : PySem.W.keepIn K (.ref fFdi) = true)
    (atMx : PySem.W.nsIn K mainGlobals "_law_mix" = some (some (.ref fMx)))
    (lMx : K.lookup fMx = some ⟨ocMx, odMx, .func (PySem.W.fnOf "_law_mix" "_law_mix" (defArgs sMix) (defBody sMix) (defScope sMix) .none kVMx dcMx pmMx anMx cdMx ctMx), slMx⟩)
    (cd_Mx : PySem.W.codeIn K cdMx "_law_mix" = true)
    (kp_Mx : PySem.W.keepIn K (.ref fMx) = true)
    (atN : PySem.W.nsIn K mainGlobals "_law_next" = some (some (.ref fN)))
    (lN : K.lookup fN = some ⟨ocN, odN, .func (PySem.W.fnOf "_law_next" "_law_next" (defArgs sNext) (defBody sNext) (defScope sNext) .none kVN dcN pmN anN cdN ctN), slN⟩)
    (cd_N : PySem.W.codeIn K cdN "_law_next" = true)
    (kp_N : PySem.W.keepIn K (.ref fN) = true)
    (atPs : PySem.W.nsIn K mainGlobals "_law_passes" = some (some (.ref fPs)))
    (lPs : K.lookup fPs = some ⟨ocPs, odPs, .func (PySem.W.fnOf "_law_passes" "_law_passes" (defArgs sDrawn) (defBody sDrawn) (defScope sDrawn) .none kVPs dcPs pmPs anPs cdPs ctPs), slPs⟩)
    (cd_Ps : PySem.W.codeIn K cdPs "_law_passes" = true)
    (kp_Ps : PySem.W.keepIn K (.ref fPs) = true)
    (atPat : PySem.W.nsIn K mainGlobals "_law_pattern" = some (some (.ref fPat)))
    (lPat : K.lookup fPat = some ⟨ocPat, odPat, .func (PySem.W.fnOf "_law_pattern" "_law_pattern" (defArgs sPat) (defBody sPat) (defScope sPat) .none kVPat dcPat pmPat anPat cdPat ctPat), slPat⟩)
    (cd_Pat : PySem.W.codeIn K cdPat "_law_pattern" = true)
    (kp_Pat : PySem.W.keepIn K (.ref fPat) = true)
    (atLc : PySem.W.nsIn K mainGlobals "_law_costs" = some (some (.ref fLc)))
    (lLc : K.lookup fLc = some ⟨ocLc, odLc, .func (PySem.W.fnOf "_law_costs" "_law_costs" (defArgs sLc) (defBody sLc) (defScope sLc) .none kVLc dcLc pmLc anLc cdLc ctLc), slLc⟩)
    (cd_Lc : PySem.W.codeIn K cdLc "_law_costs" = true)
    (kp_Lc : PySem.W.keepIn K (.ref fLc) = true)
    (atTu : PySem.W.nsIn K mainGlobals "_law_is_turned" = some (some (.ref fTu)))
    (lTu : K.lookup fTu = some ⟨ocTu, odTu, .func (PySem.W.fnOf "_law_is_turned" "_law_is_turned" (defArgs sTu) (defBody sTu) (defScope sTu) .none kVTu dcTu pmTu anTu cdTu ctTu), slTu⟩)
    (cd_Tu : PySem.W.codeIn K cdTu "_law_is_turned" = true)
    (kp_Tu : PySem.W.keepIn K (.ref fTu) = true)
    (atLaw : PySem.W.nsIn K mainGlobals "law" = some (some (.ref fLaw)))
    (lLaw : K.lookup fLaw = some ⟨ocLaw, odLaw, .func (PySem.W.fnOf "law" "law" (defArgs sLaw) (defBody sLaw) (defScope sLaw) .none kVLaw dcLaw pmLaw anLaw cdLaw ctLaw), slLaw⟩)
    (cd_Law : PySem.W.codeIn K cdLaw "law" = true)
    (kp_Law : PySem.W.keepIn K (.ref fLaw) = true),
    LawAtS l w K CX0 14 63 "_law_script" mg fa h
end Sea
section
local macro_rules
  | `(tactic| refine $f:ident $args*) => do
    unless f.getId.getString! == "holds_open" do Lean.Macro.throwUnsupported
    let hc := Lean.mkIdent `hc
    `(tactic| (refine ($f $args*); (case' $hc:ident => (have z := ‹Sea.AMT›; revert z))))
open PySem PySem.W PyProof.Rows in
set_option maxRecDepth 100000 in
set_option maxHeartbeats 0 in
theorem Sea.top_first (AM : Sea.AMT) : PySem.Challenge.rw_seasonpass_k63_whole_exceptions_come_and.Holds := by
  w_on; o_law; k_headL; (case hw => w_witness2)
  intro AM
  k_fill
  refine LamX.walk_ofTs (l := PySem.Challenge.rw_seasonpass_k63_whole_exceptions_come_and) (n := 63) (k := 14) (x := "_law_script") (CX := fun _ => L2.CX0) rfl (by decide) rfl ⟨rfl, by decide, by decide⟩ (fun w h Y => PySem.W.kIn_of Y) ?F (fun _ _ _ _ _ z => z)
  case F =>
    intro w mg fa h Y KX G hmg
    refine' AM KX G hmg ?aC ?aCV ?aP ?aI ?aV ?aN ?aCC ?aST ?aCO ?z_enumerate ?z_len ?z_tuple ?z_int ?z_range ?z_max ?z_min ?z_sorted ?z_list ?z_set ?pgC ?hdC ?poC ?saC ?mkC ?kpCC ?pgV ?hdV ?poV ?saV ?mkV ?kpCV ?pgQ ?hdQ ?poQ ?saQ ?mkQ ?kpCQ ?pgX ?hdX ?poX ?saX ?mkX ?kpCX ?pgO ?hdO ?poO ?saO ?mkO ?kpCO ?nO ?rd ?ga ?v0 ?v1 ?v2 ?nA0 ?nA1 ?nA2 ?nQ0 ?nQ1 ?nQ2 ?nQ3 ?nQ4 ?nQ5 ?nQ6 ?nX0 ?nX1 ?nX2 ?nX3 ?nX4 ?nX5 ?nP0 ?nP1 ?nP2 ?nP3 ?w0 ?w1 ?w2 ?w3 ?xLI ?xrvI ?xsaI ?sI ?yI ?kpI ?nI_index ?iI ?tI ?egI ?ekI ?ehI ?xLV ?xrvV ?xsaV ?sV ?yV ?kpV ?nV_part ?nV_index ?iV ?tV ?egV ?ekV ?ehV ?prd ?pga ?pat ?qN ?kN ?sN ?yN ?atT ?ifT ?lT ?cd_T ?kp_T ?lI ?cd_I ?kp_I ?lXV ?cd_XV ?kp_XV ?atP ?geP ?taP ?rcP ?lP ?cd_P ?kp_P ?atTv ?ifTv ?lTv ?cd_Tv ?kp_Tv ?kx ?eTl ?atRl ?geRl ?taRl ?rcRl ?lRl ?cd_Rl ?kp_Rl ?atRd ?geRd ?taRd ?rcRd ?lRd ?cd_Rd ?kp_Rd ?atEx ?geEx ?taEx ?rcEx ?lEx ?cd_Ex ?kp_Ex ?atTo ?ifTo ?lTo ?cd_To ?kp_To ?atIs ?ifIs ?lIs ?cd_Is ?kp_Is ?atCt ?ifCt ?lCt ?cd_Ct ?kp_Ct ?atTd ?ifTd ?lTd ?cd_Td ?kp_Td ?atWx ?ifWx ?lWx ?cd_Wx ?kp_Wx ?atSt ?ifSt ?lSt ?cd_St ?kp_St ?atHol ?ifHol ?lHol ?cd_Hol ?kp_Hol ?atVal ?ifVal ?lVal ?cd_Val ?kp_Val ?atCvI ?ifCvI ?lCvI ?cd_CvI ?kp_CvI ?atOpn ?ifOpn ?lOpn ?cd_Opn ?kp_Opn ?atNot ?ifNot ?lNot ?cd_Not ?kp_Not ?atAdd ?ifAdd ?lAdd ?cd_Add ?kp_Add ?atClo ?ifClo ?lClo ?cd_Clo ?kp_Clo ?atKno ?ifKno ?lKno ?cd_Kno ?kp_Kno ?atRch ?ifRch ?lRch ?cd_Rch ?kp_Rch ?atCAt ?ifCAt ?lCAt ?cd_CAt ?kp_CAt ?atCom ?ifCom ?lCom ?cd_Com ?kp_Com ?atZon ?ifZon ?lZon ?cd_Zon ?kp_Zon ?atCoI ?ifCoI ?lCoI ?cd_CoI ?kp_CoI ?atRep ?geRep ?taRep ?rcRep ?lRep ?cd_Rep ?kp_Rep ?atRpr ?geRpr ?taRpr ?rcRpr ?lRpr ?cd_Rpr ?kp_Rpr ?atTl ?geTl ?taTl ?rcTl ?lTl ?cd_Tl ?kp_Tl ?atCos ?ifCos ?lCos ?cd_Cos ?kp_Cos ?atDpr ?ifDpr ?lDpr ?cd_Dpr ?kp_Dpr ?atVN ?lVN ?cd_VN ?kp_VN ?atVC ?lVC ?cd_VC ?kp_VC ?atCut ?lCut ?cd_Cut ?kp_Cut ?atCd ?lCd ?cd_Cd ?kp_Cd ?atPar ?lPar ?cd_Par ?kp_Par ?atUnl ?lUnl ?cd_Unl ?kp_Unl ?atFdi ?lFdi ?cd_Fdi ?kp_Fdi ?atMx ?lMx ?cd_Mx ?kp_Mx ?atN ?lN ?cd_N ?kp_N ?atPs ?lPs ?cd_Ps ?kp_Ps ?atPat ?lPat ?cd_Pat ?kp_Pat ?atLc ?lLc ?cd_Lc ?kp_Lc ?atTu ?lTu ?cd_Tu ?kp_Tu ?atLaw ?lLaw ?cd_Law ?kp_Law
    (case aC => k_is)
    (case aCV => k_is)
    (case aP => k_is)
    (case aI => k_is)
    (case aV => k_is)
    (case aN => k_is)
    (case aCC => k_is)
    (case aST => k_is)
    (case aCO => k_is)
    (case z_enumerate => k_is)
    (case z_len => k_is)
    (case z_tuple => k_is)
    (case z_int => k_is)
    (case z_range => k_is)
    (case z_max => k_is)
    (case z_min => k_is)
    (case z_sorted => k_is)
    (case z_list => k_is)
    (case z_set => k_is)
    (case pgC => k_is)
    (case hdC => k_is)
    (case poC => k_is)
    (case saC => k_is)
    (case mkC => k_is)
    (case kpCC => k_is)
    (case pgV => k_is)
    (case hdV => k_is)
    (case poV => k_is)
    (case saV => k_is)
    (case mkV => k_is)
    (case kpCV => k_is)
    (case pgQ => k_is)
    (case hdQ => k_is)
    (case poQ => k_is)
    (case saQ => k_is)
    (case mkQ => k_is)
    (case kpCQ => k_is)
    (case pgX => k_is)
    (case hdX => k_is)
    (case poX => k_is)
    (case saX => k_is)
    (case mkX => k_is)
    (case kpCX => k_is)
    (case pgO => k_is)
    (case hdO => k_is)
    (case poO => k_is)
    (case saO => k_is)
    (case mkO => k_is)
    (case kpCO => k_is)
    (case nO => k_is)
    (case rd => k_is)
    (case ga => k_is)
    (case v0 => k_is)
    (case v1 => k_is)
    (case v2 => k_is)
    (case nA0 => k_is)
    (case nA1 => k_is)
    (case nA2 => k_is)
    (case nQ0 => k_is)
    (case nQ1 => k_is)
    (case nQ2 => k_is)
    (case nQ3 => k_is)
    (case nQ4 => k_is)
    (case nQ5 => k_is)
    (case nQ6 => k_is)
    (case nX0 => k_is)
    (case nX1 => k_is)
    (case nX2 => k_is)
    (case nX3 => k_is)
    (case nX4 => k_is)
    (case nX5 => k_is)
    (case nP0 => k_is)
    (case nP1 => k_is)
    (case nP2 => k_is)
    (case nP3 => k_is)
    (case w0 => k_is)
    (case w1 => k_is)
    (case w2 => k_is)
    (case w3 => k_is)
    (case xLI => k_is)
    (case xrvI => first | rfl | decide +kernel)
    (case xsaI => k_is)
    (case sI => k_is)
    (case yI => k_is)
    (case kpI => k_is)
    (case nI_index => k_is)
    (case iI => k_is)
    (case tI => k_is)
    (case egI => k_is)
    (case ekI => k_is)
    (case ehI => k_is)
    (case xLV => k_is)
    (case xrvV => first | rfl | decide +kernel)
    (case xsaV => k_is)
    (case sV => k_is)
    (case yV => k_is)
    (case kpV => k_is)
    (case nV_part => k_is)
    (case nV_index => k_is)
    (case iV => k_is)
    (case tV => k_is)
    (case egV => k_is)
    (case ekV => k_is)
    (case ehV => k_is)
    (case prd => k_is)
    (case pga => k_is)
    (case pat => k_is)
    (case qN => first | k_is | kernel_rfl | rfl)
    (case kN => k_is)
    (case sN => k_is)
    (case yN => k_is)
    (case atT => k_is)
    (case ifT => k_is)
    (case lT => k_is)
    (case cd_T => k_is)
    (case kp_T => k_is)
    (case lI => k_is)
    (case cd_I => k_is)
    (case kp_I => k_is)
    (case lXV => k_is)
    (case cd_XV => k_is)
    (case kp_XV => k_is)
    (case atP => k_is)
    (case geP => k_is)
    (case taP => k_is)
    (case rcP => k_is)
    (case lP => k_is)
    (case cd_P => k_is)
    (case kp_P => k_is)
    (case atTv => k_is)
    (case ifTv => k_is)
    (case lTv => k_is)
    (case cd_Tv => k_is)
    (case kp_Tv => k_is)
    (case kx => first | k_is | kernel_rfl | rfl | decide +kernel)
    (case eTl => first | k_is | kernel_rfl | rfl | decide +kernel)
    (case atRl => k_is)
    (case geRl => k_is)
    (case taRl => k_is)
    (case rcRl => k_is)
    (case lRl => k_is)
    (case cd_Rl => k_is)
    (case kp_Rl => k_is)
    (case atRd => k_is)
    (case geRd => k_is)
    (case taRd => k_is)
    (case rcRd => k_is)
    (case lRd => k_is)
    (case cd_Rd => k_is)
    (case kp_Rd => k_is)
    (case atEx => k_is)
    (case geEx => k_is)
    (case taEx => k_is)
    (case rcEx => k_is)
    (case lEx => k_is)
    (case cd_Ex => k_is)
    (case kp_Ex => k_is)
    (case atTo => k_is)
    (case ifTo => k_is)
    (case lTo => k_is)
    (case cd_To => k_is)
    (case kp_To => k_is)
    (case atIs => k_is)
    (case ifIs => k_is)
    (case lIs => k_is)
    (case cd_Is => k_is)
    (case kp_Is => k_is)
    (case atCt => k_is)
    (case ifCt => k_is)
    (case lCt => k_is)
    (case cd_Ct => k_is)
    (case kp_Ct => k_is)
    (case atTd => k_is)
    (case ifTd => k_is)
    (case lTd => k_is)
    (case cd_Td => k_is)
    (case kp_Td => k_is)
    (case atWx => k_is)
    (case ifWx => k_is)
    (case lWx => k_is)
    (case cd_Wx => k_is)
    (case kp_Wx => k_is)
    (case atSt => k_is)
    (case ifSt => k_is)
    (case lSt => k_is)
    (case cd_St => k_is)
    (case kp_St => k_is)
    (case atHol => k_is)
    (case ifHol => k_is)
    (case lHol => k_is)
    (case cd_Hol => k_is)
    (case kp_Hol => k_is)
    (case atVal => k_is)
    (case ifVal => k_is)
    (case lVal => k_is)
    (case cd_Val => k_is)
    (case kp_Val => k_is)
    (case atCvI => k_is)
    (case ifCvI => k_is)
    (case lCvI => k_is)
    (case cd_CvI => k_is)
    (case kp_CvI => k_is)
    (case atOpn => k_is)
    (case ifOpn => k_is)
    (case lOpn => k_is)
    (case cd_Opn => k_is)
    (case kp_Opn => k_is)
    (case atNot => k_is)
    (case ifNot => k_is)
    (case lNot => k_is)
    (case cd_Not => k_is)
    (case kp_Not => k_is)
    (case atAdd => k_is)
    (case ifAdd => k_is)
    (case lAdd => k_is)
    (case cd_Add => k_is)
    (case kp_Add => k_is)
    (case atClo => k_is)
    (case ifClo => k_is)
    (case lClo => k_is)
    (case cd_Clo => k_is)
    (case kp_Clo => k_is)
    (case atKno => k_is)
    (case ifKno => k_is)
    (case lKno => k_is)
    (case cd_Kno => k_is)
    (case kp_Kno => k_is)
    (case atRch => k_is)
    (case ifRch => k_is)
    (case lRch => k_is)
    (case cd_Rch => k_is)
    (case kp_Rch => k_is)
    (case atCAt => k_is)
    (case ifCAt => k_is)
    (case lCAt => k_is)
    (case cd_CAt => k_is)
    (case kp_CAt => k_is)
    (case atCom => k_is)
    (case ifCom => k_is)
    (case lCom => k_is)
    (case cd_Com => k_is)
    (case kp_Com => k_is)
    (case atZon => k_is)
    (case ifZon => k_is)
    (case lZon => k_is)
    (case cd_Zon => k_is)
    (case kp_Zon => k_is)
    (case atCoI => k_is)
    (case ifCoI => k_is)
    (case lCoI => k_is)
    (case cd_CoI => k_is)
    (case kp_CoI => k_is)
    (case atRep => k_is)
    (case geRep => k_is)
    (case taRep => k_is)
    (case rcRep => k_is)
    (case lRep => k_is)
    (case cd_Rep => k_is)
    (case kp_Rep => k_is)
    (case atRpr => k_is)
    (case geRpr => k_is)
    (case taRpr => k_is)
    (case rcRpr => k_is)
    (case lRpr => k_is)
    (case cd_Rpr => k_is)
    (case kp_Rpr => k_is)
    (case atTl => k_is)
    (case geTl => k_is)
    (case taTl => k_is)
    (case rcTl => k_is)
    (case lTl => k_is)
    (case cd_Tl => k_is)
    (case kp_Tl => k_is)
    (case atCos => k_is)
    (case ifCos => k_is)
    (case lCos => k_is)
    (case cd_Cos => k_is)
    (case kp_Cos => k_is)
    (case atDpr => k_is)
    (case ifDpr => k_is)
    (case lDpr => k_is)
    (case cd_Dpr => k_is)
    (case kp_Dpr => k_is)
    (case atVN => k_is)
    (case lVN => k_is)
    (case cd_VN => k_is)
    (case kp_VN => k_is)
    (case atVC => k_is)
    (case lVC => k_is)
    (case cd_VC => k_is)
    (case kp_VC => k_is)
    (case atCut => k_is)
    (case lCut => k_is)
    (case cd_Cut => k_is)
    (case kp_Cut => k_is)
    (case atCd => k_is)
    (case lCd => k_is)
    (case cd_Cd => k_is)
    (case kp_Cd => k_is)
    (case atPar => k_is)
    (case lPar => k_is)
    (case cd_Par => k_is)
    (case kp_Par => k_is)
    (case atUnl => k_is)
    (case lUnl => k_is)
    (case cd_Unl => k_is)
    (case kp_Unl => k_is)
    (case atFdi => k_is)
    (case lFdi => k_is)
    (case cd_Fdi => k_is)
    (case kp_Fdi => k_is)
    (case atMx => k_is)
    (case lMx => k_is)
    (case cd_Mx => k_is)
    (case kp_Mx => k_is)
    (case atN => k_is)
    (case lN => k_is)
    (case cd_N => k_is)
    (case kp_N => k_is)
    (case atPs => k_is)
    (case lPs => k_is)
    (case cd_Ps => k_is)
    (case kp_Ps => k_is)
    (case atPat => k_is)
    (case lPat => k_is)
    (case cd_Pat => k_is)
    (case kp_Pat => k_is)
    (case atLc => k_is)
    (case lLc => k_is)
    (case cd_Lc => k_is)
    (case kp_Lc => k_is)
    (case atTu => k_is)
    (case lTu => k_is)
    (case cd_Tu => k_is)
    (case kp_Tu => k_is)
    (case atLaw => k_is)
    (case lLaw => k_is)
    (case cd_Law => k_is)
    (case kp_Law => k_is)
end
set_option Elab.async false
set_option linter.all false
set_option maxRecDepth 100000
set_option maxHeartbeats 4000000
/-! lambdas as tracked objects, called from anywhere -/
namespace Sea
open PySem PySem.Spec PyProof.Rows L2 LamX NdefX

/-- the words of a lambda, what it captured, its code object, its defaults -/
structure LF where
  qual : Str
  params : Arguments
  body : Expr
  scope : Scope
  cl : List (Str × Addr)
  c : Addr
  dV : Value
abbrev LF.fd (F : LF) (doc pm ctv : Value) : FuncData :=
  PySem.W.kdv_fn "<lambda>" F.qual F.params (.expr F.body) F.scope F.cl F.dV doc pm (.ref F.c) ctv
/-- what a lambda's object is: a function object with the words F, whatever its text, module and annotations are -/
inductive LamAs (F : LF) : Obj → Prop
  | mk (od : Option Addr) (sl : Array (Option Value)) (doc pm ctv : Value) : LamAs F ⟨.type "function", od, .func (F.fd doc pm ctv), sl⟩
/-- at f stands an object of which R holds -/
def Stands (R : Obj → Prop) (f : Addr) : HO := .ext fun h => ∃ o, R o ∧ h.get? f = some o
theorem Stands.ok {P : Program} {w : World} {H : Hp} {h : Heap} {f : Addr} {R : Obj → Prop} {o : Obj} (r : R o) (e : h.get? f = some o) : ObjOk P w H h f (Stands R f) :=
  ⟨⟨o, r, e⟩, ⟨o, e⟩, fun _ _ ⟨o, r, e⟩ stays => ⟨o, r, stays o e⟩⟩
theorem Stands.no_tbl {R : Obj → Prop} {f : Addr} (ps : Array Value) : Stands R f ≠ .tbl ps := nofun
theorem Stands.no_tup {R : Obj → Prop} {f : Addr} (xs : List V) : Stands R f ≠ .tup xs := nofun
/-- a new object is laid at the heap's end -/
theorem Stands.laid {X : Cx} {pins : List (Addr × Obj)} {σ : L2.St} {H : Hp} {s : Shared} {R : Obj → Prop} {o : Obj} {t : Nat} (I : Inv X pins σ H s) (r : R o) (nf : o.isFreed = false) :
    Inv X pins σ (upd H s.heap.objs.size (Stands R s.heap.objs.size)) { s with heap := s.heap.push o, toks := t } :=
  I.laid (fun _ _ e => Heap.get?_push_of_some _ e) (Nat.le_refl _) (Stands.ok r (Heap.get?_push_size _ nf))
abbrev LamO (f : Addr) (F : LF) : HO := Stands (LamAs F) f
theorem lamO_at {P : Program} {w : World} {H : Hp} {h : Heap} {f : Addr} {F : LF} (hok : HOk P w H h) (e : H f = some (LamO f F)) : ∃ o, LamAs F o ∧ h.get? f = some o :=
  (hok f _ e).1
theorem tabs_keep {T : List (Addr × Str)} {H : Hp} {a : Addr} {o : HO} (hT : Tabs T H) (n : H a = none) : Tabs T (upd H a o) :=
  hT.ext fun b u e => by rw [upd_ne (ne_of_none e n), e]
theorem extN_new {H : Hp} {a : Addr} {o : HO} (n : H a = none) : ExtN H (upd H a o) := .of fun b u e => by rw [upd_ne (ne_of_none e n), e]
theorem extN_tbl {H : Hp} {P : Addr} {ps qs : Array Value} (at_ : H P = some (.tbl ps)) : ExtN H (upd H P (.tbl qs)) := fun b o e n => (upd_ne fun z => n ps (by
  rw [z, at_] at e
  exact (Option.some.inj e).symm)).trans e
/-- all that a table's row tells bears the name q -/
def Told (H : Hp) (q : Str) (row : List Value) : Prop := ∀ (pos : Pos) (cv : Value), codeAmong pos row = some cv → ∃ d, cv = .ref d ∧ H d = some (CodeO d q)
theorem Told.one {H H' : Hp} {q : Str} {row : List Value} {pos : Pos} {c : Addr} (t : Told H q row) (ok : TriplesOk row) (keep : ∀ d, H d = some (CodeO d q) → H' d = some (CodeO d q)) (new : H' c = some (CodeO c q)) : Told H' q (row ++ [rawInt pos.line, rawInt pos.col, .ref c]) := fun pos cv h =>
  (among_app _ ok h).elim (fun old => (t pos cv old).imp fun d z => ⟨z.1, keep d z.2⟩) fun e => ⟨c, e, new⟩
/-- the maker's table has grown by one code object -/
theorem tabs_more {T : List (Addr × Str)} {H : Hp} {P c : Addr} {q : Str} {ps : Array Value} {pos : Pos} (hT : Tabs T H) (at_ : H P = some (.tbl ps)) (ok : TriplesOk ps.toList) (told : Told H q ps.toList) (hu : ∀ p ∈ T, p.1 = P → p.2 = q) (nC : H c = none) :
    Tabs T (upd (upd H P (.tbl (ps ++ #[rawInt pos.line, rawInt pos.col, .ref c]))) c (CodeO c q)) ∧ ExtN H (upd (upd H P (.tbl (ps ++ #[rawInt pos.line, rawInt pos.col, .ref c]))) c (CodeO c q)) := by
  have Pc : P ≠ c := ne_of_none at_ nC
  have ext := (extN_tbl (qs := ps ++ #[rawInt pos.line, rawInt pos.col, .ref c]) at_).trans (extN_new (o := CodeO c q) ((upd_ne Pc.symm).trans nC))
  have row : (ps ++ #[rawInt pos.line, rawInt pos.col, .ref c]).toList = ps.toList ++ [rawInt pos.line, rawInt pos.col, .ref c] := by simp
  have mine : TabS (upd (upd H P (.tbl (ps ++ #[rawInt pos.line, rawInt pos.col, .ref c]))) c (CodeO c q)) P q := by
    refine ⟨_, (upd_ne Pc).trans upd_same, ?_, ?_⟩ <;> rw [row]
    · exact PySem.TriplesOk_snoc _ _ _ _ ok
    · exact told.one ok (fun d e => ext d _ e codeO_ne) upd_same
  have other : ∀ p ∈ T, p.1 ≠ P → TabS (upd (upd H P (.tbl (ps ++ #[rawInt pos.line, rawInt pos.col, .ref c]))) c (CodeO c q)) p.1 p.2 := fun p hp n =>
    let ⟨qs, there, fine, names⟩ := hT p hp
    ⟨qs, (upd_ne (ne_of_none there nC)).trans ((upd_ne n).trans there), fine, fun x y h => (names x y h).imp fun d z => ⟨z.1, ext d _ z.2 codeO_ne⟩⟩
  exact ⟨fun p hp => if e : p.1 = P then by rw [e, hu p hp e]; exact mine else other p hp e, ext⟩

section
variable {X : Cx} {pins : List (Addr × Obj)} {σ : L2.St} {H : Hp} {s : Shared}
/-- the lambda's object is made -/
theorem lam_tr {T : List (Addr × Str)} {c P : Addr} {params : Arguments} {body : Expr} {scope : Scope} {pos : Pos} {dV : Value} {E : Value → Shared → Prop} {Q : Value → Shared → Prop} (I : Inv X pins σ H s) (TB : TabB X.base X.mg c P) (hcode : X.env.code = .ref c)
    (hm : (P, X.env.qual ++ "<lambda>") ∈ T) (hu : ∀ p ∈ T, p.1 = P → p.2 = X.env.qual ++ "<lambda>") (hT : Tabs T H) (hfree : ∀ y ∈ scope.names, y.2 = .free → ∃ c, X.env.cells.lookup y.1 = some c)
    (h : ∀ (f c' : Addr) (H1 : Hp) (s' : Shared), Inv X pins σ H1 s' → ExtN H H1 → Tabs T H1 → H f = none →
      H1 f = some (LamO f ⟨X.env.qual ++ "<lambda>", params, body, scope, cloFrom X.env.cells scope.names [], c', dV⟩) → H1 c' = some (CodeO c' (X.env.qual ++ "<lambda>")) → Q (.ref f) s') :
    wpAny (model X.prog X.w) X.A (makeTail "<lambda>" (X.env.qual ++ "<lambda>") params (.expr body) scope X.env dV .none none pos pos.line) Q E s := by
  obtain ⟨ps, table, triples, told⟩ := hT _ hm
  have main := TB.bm.keeps I.bk
  have glob := I.mod.glob.keeps I.bk
  have code := TB.code.keeps I.bk
  -- whichever way the code object was got: the function object is laid last
  have last : ∀ (c' : Addr) (H1 : Hp) (hp : Heap) (tk : Nat) (doc pm ctv : Value), Inv X pins σ H1 { s with heap := hp, toks := tk } → s.heap.objs.size ≤ hp.objs.size → ExtN H H1 → Tabs T H1 → H1 c' = some (CodeO c' (X.env.qual ++ "<lambda>")) →
      Q (.ref hp.objs.size) { s with heap := hp.push ⟨.type "function", none, .func ((LF.mk (X.env.qual ++ "<lambda>") params body scope (cloFrom X.env.cells scope.names []) c' dV).fd doc pm ctv), #[]⟩, toks := tk } := by
    intro c' H1 hp tk doc pm ctv J le ext tabs hc
    have fresh : H1 hp.objs.size = none := J.hok.fresh (Nat.le_refl _)
    exact h _ c' _ _ (Stands.laid J (LamAs.mk none #[] doc pm ctv) rfl) (ext.trans (extN_new fresh)) (tabs_keep tabs fresh) (I.hok.fresh le) upd_same ((upd_ne (ne_of_none hc fresh)).trans hc)
  match hk : codeAmong pos ps.toList with
  | some cv =>
    obtain ⟨c', rfl, known⟩ := told pos cv hk
    exact PySem.W.kdv_makeTailHit (closure_ok hfree) I.ok.glob glob hcode code (I.hok P _ table) triples hk main fun ctv doc hp tk old le => last c' H hp tk doc _ ctv (I.kept old) le (.refl H) hT known
  | none =>
    refine PySem.W.kdv_makeTail (closure_ok hfree) I.ok.glob glob hcode code (I.hok P _ table) triples hk TB.gP main ?_
    rintro c' ctv doc hp tk old ge lt ⟨_, oc, vs, t, z, rec⟩ row
    cases z
    have grown := tabs_more (pos := pos) hT table triples told hu (I.hok.fresh ge)
    exact last c' _ hp tk doc _ ctv (inv_table (t' := tk) I table (fun b o hb e => old b o hb e) row ge ⟨oc, vs, t, rec⟩) (Nat.le_trans ge (Nat.le_of_lt lt)) grown.2 grown.1 upd_same
end

/-- a lambda as a value: without defaults -/
def tLamV (T : List (Addr × Str)) (mk : Addr → LF) : TE := fun _ H Q => Tabs T H ∧ ∀ (f c' : Addr) (H1 : Hp), ExtN H H1 → Tabs T H1 → H f = none → H1 f = some (LamO f (mk c')) → H1 c' = some (CodeO c' (mk c').qual) → Q (.ref f) H1
/-- .. with one default, an int -/
def tLamD (T : List (Addr × Str)) (d : Int) (mk : Addr → Addr → LF) : TE := fun _ H Q => Tabs T H ∧ ∀ (f c' t : Addr) (H1 : Hp), ExtN H H1 → Tabs T H1 → H f = none → H t = none → H1 t = some (.tup [.int d]) → H1 f = some (LamO f (mk c' t)) → H1 c' = some (CodeO c' (mk c' t).qual) → Q (.ref f) H1
section
variable {X : Cx} {T : List (Addr × Str)} {c P : Addr} {params : Arguments} {body : Expr} {scope : Scope} {pos : Pos}
theorem free_has (hf : ∀ y ∈ scope.names, y.2 = .free → X.env.scope.names.lookup y.1 = some .cell ∨ X.env.scope.names.lookup y.1 = some .free) (ok : X.Ok) : ∀ y ∈ scope.names, y.2 = .free → ∃ c, X.env.cells.lookup y.1 = some c :=
  fun y hy e => (hf y hy e).elim (fun k => ok.has _ (.inl k)) (fun k => ok.has _ (.inr k))
theorem pe_lamV (TB : TabB X.base X.mg c P) (hcode : X.env.code = .ref c) (hm : (P, X.env.qual ++ "<lambda>") ∈ T) (hu : ∀ p ∈ T, p.1 = P → p.2 = X.env.qual ++ "<lambda>")
    (hf : ∀ y ∈ scope.names, y.2 = .free → X.env.scope.names.lookup y.1 = some .cell ∨ X.env.scope.names.lookup y.1 = some .free) (hdef : defaultsOf params X.env = ([], []) := by rfl) :
    PE X (.Lambda params body scope pos) (tLamV T fun c' => ⟨X.env.qual ++ "<lambda>", params, body, scope, cloFrom X.env.cells scope.names [], c', .none⟩) := by
  refine ⟨fun pins s σ H Q I h => ?_⟩
  obtain ⟨hT, h⟩ := h
  refine PySem.W.kla_eval hdef ?_
  rw [makeFunction_eq]
  simp only [List.zip_nil_right, List.filterMap_nil, List.isEmpty_nil, if_true, pure_bind]
  exact lam_tr I TB hcode hm hu hT (free_has hf I.ok) fun f c' H1 s' I1 eN T1 f0 f1 c1 => ⟨.ref f, H1, I1, rfl, h f c' H1 eN T1 f0 f1 c1⟩
theorem pe_lamD {d : Int} {j : Nat} {dp : Pos} (TB : TabB X.base X.mg c P) (hcode : X.env.code = .ref c) (hm : (P, X.env.qual ++ "<lambda>") ∈ T) (hu : ∀ p ∈ T, p.1 = P → p.2 = X.env.qual ++ "<lambda>")
    (hf : ∀ y ∈ scope.names, y.2 = .free → X.env.scope.names.lookup y.1 = some .cell ∨ X.env.scope.names.lookup y.1 = some .free) (hd : params.defaults = [.Constant (.int d) j dp]) (hk0 : params.kw_defaults = []) :
    PE X (.Lambda params body scope pos) (tLamD T d fun c' t => ⟨X.env.qual ++ "<lambda>", params, body, scope, cloFrom X.env.cells scope.names [], c', .ref t⟩) := by
  refine ⟨fun pins s σ H Q I h => ?_⟩
  obtain ⟨hT, h⟩ := h
  refine PySem.W.kdv_lam (by rw [hd]; rfl) hk0 ?_
  rw [hd]
  refine PySem.W.kdv_all1 (wpAny_Constant_int (PySem.W.kdv_all0 ?_))
  rw [makeFunction_eq]
  simp only [List.zip_nil_right, List.filterMap_nil, List.isEmpty_nil, if_true, pure_bind, List.isEmpty_cons, Bool.false_eq_true, if_false]
  refine wpAny_bind (wpAny_newTextTuple ?_)
  have nT : H s.heap.objs.size = none := I.hok.fresh (Nat.le_refl _)
  have I1 := I.laid (t' := s.toks + 1) (a := s.heap.objs.size) (o := .tup [.int d]) (h' := s.heap.push ({ cls := .type "tuple", data := .seq #[.int d s.toks] } : Obj)) (fun b u e => Heap.get?_push_of_some _ e) (Nat.le_refl _)
    ⟨(by show 1 ≤ sizeLine; decide), [.int d s.toks], .cons ⟨_, rfl⟩ .nil, ⟨_, Heap.get?_push_size _ rfl, rfl, _, rfl⟩⟩
  refine lam_tr I1 TB hcode hm hu (tabs_keep hT nT) (free_has hf I.ok) fun f c' H1 s' I2 eN T1 f0 f1 c1 => ⟨.ref f, H1, I2, rfl, ?_⟩
  have ft : f ≠ s.heap.objs.size := fun z => by
    rw [z, upd_same] at f0
    cases f0
  have f0' : H f = none := by
    rw [upd_ne ft] at f0
    exact f0
  exact h f c' s.heap.objs.size H1 ((extN_new nT).trans eN) T1 f0' nT (eN _ _ upd_same (fun ps z => by cases z)) f1 c1
end
end Sea

set_option Elab.async false
set_option linter.all false
set_option maxRecDepth 100000
set_option maxHeartbeats 4000000
namespace Sea
open PySem PySem.Spec PyProof.Rows L2 LamX NdefX
abbrev LF.nf (F : LF) : NF := ⟨"<lambda>", F.qual, F.params, [], F.scope, F.cl, F.c⟩
/-- the tuple of defaults, where there is one, holds one int -/
def DvOk (F : LF) (H : Hp) : Prop := ∀ t, F.dV = .ref t → ∃ d, H t = some (.tup [.int d])
/-- a thunk's reading: ws what its captured cells hold -/
abbrev TSp := List (Option V) → Hp → VK → XK → Prop
structure LOk (P : Program) (w : World) (K : PySem.W.Frag) (mg : Str → Option Value) (base : Heap) (CX : CXT) (k : Nat) (f : Addr) (F : LF) (fr : List Str) (sp : TSp) : Prop where
  run : ∀ (A : Around) (outer : List Env) (s : Shared) (H : Hp) (ws : List (Option V)) (Q : VK) (E : XK), Room k A → Env0 P w K mg base A outer s H → H f = some (LamO f F) → H F.c = some (CodeO F.c F.qual) → DvOk F H →
    CellsAt F.cl fr ws s.heap H → sp ws H Q E → codeAny (model P w) A (.call (.ref f) ⟨[], []⟩) (CR CX outer P w H s Q E) s
theorem LOk.mono {P : Program} {w : World} {K : PySem.W.Frag} {mg : Str → Option Value} {base : Heap} {CX : CXT} {k j : Nat} {f : Addr} {F : LF} {fr : List Str} {sp : TSp} (o : LOk P w K mg base CX j f F fr sp) (h : j ≤ k) : LOk P w K mg base CX k f F fr sp :=
  ⟨fun A outer s H ws Q E hr => o.run A outer s H ws Q E (hr.mono h)⟩
theorem LOk.imp {P : Program} {w : World} {K : PySem.W.Frag} {mg : Str → Option Value} {base : Heap} {CX : CXT} {k : Nat} {f : Addr} {F : LF} {fr : List Str} {sp sp' : TSp} (o : LOk P w K mg base CX k f F fr sp) (h : ∀ ws H Q E, sp' ws H Q E → sp ws H Q E) : LOk P w K mg base CX k f F fr sp' :=
  ⟨fun A outer s H ws Q E hr e0 a b c d q => o.run A outer s H ws Q E hr e0 a b c d (h _ _ _ _ q)⟩
section
variable {CX : CXT} {P : Program} {w : World} {K : PySem.W.Frag} {mg : Str → Option Value} {base : Heap} {N ps fr : List Str} {F : LF} {f : Addr} {k : Nat} {sp : TSp}
theorem lok_core {A : Around} {outer : List Env} {s : Shared} {H : Hp} {us : List Value} {vs : List V} {ws : List (Option V)} {Q : VK} {E : XK} (S : NScope N ps fr F.scope) (hr : Room (k + 1) A) (e0 : Env0 P w K mg base A outer s H)
    (hf : H f = some (LamO f F)) (hc : H F.c = some (CodeO F.c F.qual)) (C : CellsAt F.cl fr ws s.heap H) (r : Vals vs us) (hl : vs.length = ps.length)
    (hb : ∀ doc pm ctv : Value, BindsTo s (F.fd doc pm ctv) ⟨[], []⟩ (ps.zip us))
    (hbody : Room k (A.deeper (envF F.nf f s.heap.objs.size)) → ∃ t, PE (ncx CX P w K mg base N F.nf f A outer s H E) F.body t ∧ t (startF N vs ws) H Q) :
    codeAny (model P w) A (.call (.ref f) ⟨[], []⟩) (CR CX outer P w H s Q E) s := by
  have lim : s.heap.NoLimit := e0.mod.nolimit.keeps fun b o e => (e0.bs b o e).1
  obtain ⟨_, ⟨od, sl, doc, pm, ctv⟩, ho⟩ := lamO_at e0.hok hf
  refine PySem.W.kla_callFunE hr.depth ho rfl S.co S.gen rfl (codeO_at e0.hok hc) ?_
  refine hb doc pm ctv _ _ _ _ ?_
  refine wpAny_newFunctionEnv S.nocell (fun ⟨n, _⟩ hy => S.par n (List.of_mem_zip hy).1) (fun h1 hns hsb => ⟨lim.fresh _ hsb, ?_⟩) S.kind
  have kp : ∀ b o, s.heap.get? b = some o → h1.get? b = some o := fun b o e => hsb.extBut b o (Nat.ne_of_lt (Heap.lt_size e)) (Heap.get?_push_of_some _ e)
  obtain ⟨t, ht, hq⟩ := hbody (hr.deeper _)
  have I : Inv (ncx CX P w K mg base N F.nf f A outer s H E) [] (startF N vs ws) H { s with heap := h1, toks := s.toks + (ps.zip us).length } := inv_startN S hr.hd e0 hl r C hns kp
  show codeAny _ _ (.expr F.body (envF F.nf f s.heap.objs.size)) _ _
  refine PySem.W.kla_codeExpr (wpAny_mono (ht.run [] _ (startF N vs ws) H Q I hq) (fun v s' hs => ?_) fun e s' hs => hs)
  obtain ⟨x, H', J, rv, q⟩ := hs
  exact ⟨x, H', J.os, J.bare, J.base, J.hok, rv, q⟩
theorem lok_of0 (S : NScope N [] fr F.scope) (hb : ∀ doc pm ctv : Value, bindArgs (F.fd doc pm ctv) ⟨[], []⟩ = pure [])
    (hbody : ∀ (A : Around) (outer : List Env) (s : Shared) (H : Hp) (ws : List (Option V)) (Q : VK) (E : XK), Room k (A.deeper (envF F.nf f s.heap.objs.size)) → ws.length = fr.length → sp ws H Q E →
      ∃ t, PE (ncx CX P w K mg base N F.nf f A outer s H E) F.body t ∧ t (startF N [] ws) H Q) : LOk P w K mg base CX (k + 1) f F fr sp :=
  ⟨fun A outer s H ws Q E hr e0 hf hc hd C hq => lok_core (us := []) (vs := []) S hr e0 hf hc C .nil rfl (fun doc pm ctv => .of_eq (hb doc pm ctv)) fun hr' => hbody A outer s H ws Q E hr' C.len hq⟩
/-- with one default -/
theorem lok_ofD {a : Str} {t : Addr} (S : NScope N [a] fr F.scope) (hdv : F.dV = .ref t)
    (hb : ∀ doc pm ctv : Value, ∃ kk : Option (Array Value) → Sem (List (Str × Value)), bindArgs (F.fd doc pm ctv) ⟨[], []⟩ = seqItems? (F.fd doc pm ctv).defaults >>= kk ∧ ∀ u, kk (some #[u]) = pure [(a, u)])
    (hbody : ∀ (A : Around) (outer : List Env) (s : Shared) (H : Hp) (ws : List (Option V)) (Q : VK) (E : XK) (d : Int), Room k (A.deeper (envF F.nf f s.heap.objs.size)) → ws.length = fr.length → sp ws H Q E →
      ∃ t, PE (ncx CX P w K mg base N F.nf f A outer s H E) F.body t ∧ t (startF N [.int d] ws) H Q) : LOk P w K mg base CX (k + 1) f F fr sp := by
  refine ⟨fun A outer s H ws Q E hr e0 hf hc hd C hq => ?_⟩
  obtain ⟨d, ht⟩ := hd t hdv
  obtain ⟨_, its, rv, o, ho, hcl, n, hsq⟩ := (show ObjOk P w H s.heap t (.tup [.int d]) from e0.hok t _ ht)
  cases rv with
  | @cons _ u _ rest ru rr =>
    cases rr
    exact lok_core (us := [u]) (vs := [.int d]) S hr e0 hf hc C (.cons ru .nil) rfl (fun doc pm ctv => by
      obtain ⟨kk, e1, e2⟩ := hb doc pm ctv
      exact BindsTo.of_defaults hdv ho hsq e1 (e2 u)) fun hr' => hbody A outer s H ws Q E d hr' C.len hq
end

/-- what a caller hands on with a thunk: tl is its reading -/
structure Thunk (P : Program) (w : World) (K : PySem.W.Frag) (mg : Str → Option Value) (base : Heap) (CX : CXT) (k : Nat) (outer : List Env) (s : Shared) (H : Hp) (f : Addr) (tl : Hp → VK → XK → Prop) : Prop where
  ex : ∃ (F : LF) (fr : List Str) (ws : List (Option V)) (sp : TSp), LOk P w K mg base CX k f F fr sp ∧ H f = some (LamO f F) ∧ H F.c = some (CodeO F.c F.qual) ∧ DvOk F H ∧ CellsAt F.cl fr ws s.heap H ∧ (∀ y c, F.cl.lookup y = some c → c ∉ frs outer) ∧ tl = sp ws
/-- a def that takes a thunk, its promise told of the state -/
def FnS (P : Program) (w : World) (K : PySem.W.Frag) (mg : Str → Option Value) (base : Heap) (CX CXl : CXT) (k j : Nat) (g : Addr) (sp : (Hp → VK → XK → Prop) → Hp → VK → XK → Prop) : Prop :=
  ∀ (A : Around) (outer : List Env) (s : Shared) (H : Hp) (f : Addr) (tl : Hp → VK → XK → Prop) (Q : VK) (E : XK), Room k A → Env0 P w K mg base A outer s H → Thunk P w K mg base CXl j outer s H f tl → sp tl H Q E →
    codeAny (model P w) A (.call (.ref g) ⟨[.ref f], []⟩) (CR CX outer P w H s Q E) s
section
variable {X : Cx} {CX CXl : CXT} {i k j : Nat} {x : Str} {p pos : Pos} {E : L2.St → XK}
/-- a local name is read: the value that its slot holds, nothing moved -/
theorem name_at {pins : List (Addr × Obj)} {σ : L2.St} {H : Hp} {s : Shared} {v : V} {Qv : Value → Shared → Prop} (hN : X.N[i]? = some x) (hv : Vis X.env.scope x) (hd : (x == ("__debug__" : Str)) = false) (hcd : (x == ("__classdict__" : Str)) = false)
    (I : Inv X pins σ H s) (slot : σ[i]? = some (some v)) (next : ∀ u s', RelV v u → Inv X pins σ H s' → Qv u s') : wpAny (model X.prog X.w) X.A (eval (.Name x p) X.env) Qv X.xe s := by
  have read := (pe_var (pos := p) hN hv hd hcd).run pins s σ H (fun y H' => (y, H') = (v, H)) I ⟨v, slot, rfl⟩
  refine thn read ?_
  rintro u s' ⟨_, _, J, r, e⟩
  cases e
  exact next u s' r J
/-- x(), x the thunk that this def was handed -/
def tAct (X : Cx) (CXl : CXT) (j i : Nat) (E : L2.St → XK) : TE := fun σ H Q => ∃ (f : Addr) (tl : Hp → VK → XK → Prop), σ[i]? = some (some (.ref f)) ∧ H = X.H_0 ∧ Thunk X.prog X.w X.K X.mg X.base CXl j X.outer X.s_0 X.H_0 f tl ∧ tl H Q (E σ)
theorem pe_actT (hr : Room j X.A) (hex : X.ex = []) (hx : ∀ σ, PassesAt CXl X σ (E σ)) (hN : X.N[i]? = some x) (hv : Vis X.env.scope x)
    (hd : (x == ("__debug__" : Str)) = false := by decide) (hcd : (x == ("__classdict__" : Str)) = false := by decide) : PE X (.Call (.Name x p) [] [] pos) (tAct X CXl j i E) := by
  constructor
  rintro pins s σ _ Q I ⟨f, _, slot, rfl, ⟨F, fr, ws, sp, L, hf, hc, hdv, C, nf, rfl⟩, ht⟩
  refine wpAny_Call_Name_kw (name_at hN hv hd hcd I slot ?_)
  rintro u s1 (rfl : u = .ref f) I1
  obtain ⟨_, ⟨od, sl, doc, pm, ctv⟩, ho⟩ := lamO_at I1.hok hf
  have cells := C.later nf (fun y c e z => by rw [hex] at z; cases z) I1
  have ran := L.run X.A X.stack s1 X.H_0 ws Q (E σ) hr I1.env0 hf hc hdv cells ht
  refine PySem.W.callWith_F0 (first := []) ⟨_, od, _, sl, ho⟩ (wpAny_call (codeAny_mono ran ?_))
  intro r s' back
  match r, back with
  | .error e, back => exact hx σ pins X.H_0 s1 e s' I1 back
  | .ok (.ret _), back => exact I1.after back
  | .ok .next, back => exact back.elim
  | .ok .brk, back => exact back.elim
  | .ok .cont, back => exact back.elim
/-- from the running frame: the cells that a thunk captured here -/
theorem thunk_here {pins : List (Addr × Obj)} {σ : L2.St} {H : Hp} {s : Shared} {f : Addr} {F : LF} {fr : List Str} {js : List Nat} {sp : TSp} (I : Inv X pins σ H s) (hfn : X.fn = fun _ => true) (L : LOk X.prog X.w X.K X.mg X.base CXl j f F fr sp) (hf : H f = some (LamO f F)) (hc : H F.c = some (CodeO F.c F.qual)) (hd : DvOk F H)
    (cp : Caps X F.cl fr js) : Thunk X.prog X.w X.K X.mg X.base CXl j X.stack s H f (sp (js.map (slotAt σ))) := by
  refine ⟨F, fr, _, sp, L, hf, hc, hd, cells_of I cp, fun y c e z => ?_, rfl⟩
  have e' := cp.sub y c e
  rcases List.mem_cons.mp (I.stkSub c z) with z | z
  · exact I.cne y c e' z
  · have h1 := I.ok.cab y c (by rw [hfn]) e'
    obtain ⟨_, o, ho, _⟩ := I.ok.funs.mem z
    exact absurd (Nat.lt_of_lt_of_le (Heap.lt_size ho) h1) (Nat.lt_irrefl _)
/-- g(e), e a lambda made in this def -/
def tGive (X : Cx) (CXl : CXT) (j : Nat) (sp : (Hp → VK → XK → Prop) → Hp → VK → XK → Prop) (te : TE) : TE := fun σ H Q => te σ H fun v H1 => ∃ (f : Addr) (F : LF) (fr : List Str) (js : List Nat) (lsp : TSp), v = .ref f ∧ LOk X.prog X.w X.K X.mg X.base CXl j f F fr lsp ∧
  H1 f = some (LamO f F) ∧ H1 F.c = some (CodeO F.c F.qual) ∧ DvOk F H1 ∧ (X.Ok → Caps X F.cl fr js) ∧ sp (lsp (js.map (slotAt σ))) H1 Q fun _ _ _ => False
theorem pe_give {g : Addr} {sp : (Hp → VK → XK → Prop) → Hp → VK → XK → Prop} {e : Expr} {te : TE} (G : FnS X.prog X.w X.K X.mg X.base CX0 CXl k j g sp) (hfn : X.fn = fun _ => true) (hr : Room k X.A) (hg : Gl X x) (hm : X.mg x = some (.ref g)) (hk : PySem.W.keepIn X.K (.ref g) = true) (he : PE X e te)
    (hdb : (x == ("__debug__" : Str)) = false := by decide) (hs : starEach (e :: []) X.env = (false, eval e X.env) :: starEach [] X.env := by rfl) (hpl : (backTo pos (starEach [] X.env)).any (·.1) = false := by rfl) :
    PE X (.Call (.Name x p) [e] [] pos) (tGive X CXl j sp te) := by
  refine ⟨fun pins s σ H Q I h => ?_⟩
  refine wpAny_Call_Name_kw (ld_glob I hg hm ?_ hdb)
  refine PySem.W.callWith_K (h₀ := X.base) I.ok.mod.kin hk (thn ((pa_cons he pa_nil hs).run pos pins s σ H (fun vs H1 => ∃ v, vs = [v] ∧ ∃ (f : Addr) (F : LF) (fr : List Str) (js : List Nat) (lsp : TSp), v = .ref f ∧ LOk X.prog X.w X.K X.mg X.base CXl j f F fr lsp ∧
    H1 f = some (LamO f F) ∧ H1 F.c = some (CodeO F.c F.qual) ∧ DvOk F H1 ∧ (X.Ok → Caps X F.cl fr js) ∧ sp (lsp (js.map (slotAt σ))) H1 Q fun _ _ _ => False) I ?_) fun us s1 hh => ?_) hs hpl
  · show te σ H _
    refine Eq.mp ?_ h
    show te σ H _ = te σ H _
    congr 1
    funext v H1
    refine propext ⟨fun hh => ⟨v, rfl, hh⟩, fun ⟨v', e', hh⟩ => ?_⟩
    cases e'
    exact hh
  · obtain ⟨vs, H1, I1, r, v, ev, f, F, fr, js, lsp, ef, L, hf, hc, hd, cp, q⟩ := hh
    subst ev
    subst ef
    refine ⟨I1.kIn, ?_⟩
    cases r with
    | cons ru rr =>
      cases rr
      obtain rfl := (show _ = Value.ref f from ru)
      refine wpAny_call (codeAny_mono (G X.A X.stack s1 H1 f _ Q (fun _ _ _ => False) hr I1.env0 (thunk_here I1 hfn L hf hc hd (cp I1.ok)) q) fun r s' hq => ?_)
      cases r with
      | error e => exact False.elim hq
      | ok fl =>
        cases fl with
        | ret u => exact I1.after hq
        | next => exact False.elim hq
        | brk => exact False.elim hq
        | cont => exact False.elim hq
end
end Sea

set_option Elab.async false
set_option linter.all false
set_option maxRecDepth 100000
set_option maxHeartbeats 4000000
/-! [g(x) for x in xs], xs a list of lambdas that this def made, g a def that takes a thunk -/
namespace Sea
open PySem PySem.Spec PyProof.Rows L2 LamX NdefX
theorem vals_at {xs : List V} {us : List Value} {i : Nat} {u : Value} (r : Vals xs us) (h : us[i]? = some u) : ∃ x, xs[i]? = some x ∧ RelV x u := by
  cases e : xs[i]? with
  | none =>
    rw [r.none_of e] at h
    cases h
  | some x =>
    obtain ⟨u', h', ru⟩ := r.get e
    rw [h] at h'
    cases h'
    exact ⟨x, rfl, ru⟩
def listSt (it a : Addr) (xs : List V) (i : Nat) (h : Heap) : Prop := h.IsListIter it a i ∧ ∃ items : Array Value, h.IsList a items ∧ Vals xs items.toList
theorem goes_listV {prog : Program} {w : World} {A : Around} {target : Expr} (hh : A.handled = none) (it a : Addr) (hne : a ≠ it) (xs : List V) :
    Goes prog w A target it [it, a] [it] xs.length (fun i v _ => ∃ x, xs[i]? = some x ∧ RelV x v) (listSt it a xs) := by
  refine ⟨fun b hb => by simp at hb; simp [hb], ?_, ?_, ?_, ?_⟩
  · rintro i h h' ⟨⟨o, ho, ro⟩, items, ⟨o2, ho2, ro2⟩, rv⟩ hk
    exact ⟨⟨o, hk it (by simp) o ho, ro⟩, items, ⟨o2, hk a (by simp) o2 ho2, ro2⟩, rv⟩
  · rintro i s Q E hi ⟨hit, items, hl, rv⟩ hQ
    have sz : items.size = xs.length := by
      have := rv.length
      rw [Array.length_toList] at this
      exact this.symm
    refine (Goes.list (prog := prog) (w := w) (target := target) hh it a hne items).goes i s Q E (by rw [sz]; exact hi) ⟨hit, hl⟩ ?_
    intro v h' tk hY hSt hk htk
    exact hQ v h' tk (vals_at rv (by simpa using hY)) ⟨hSt.1, items, hSt.2, rv⟩ hk htk
  · rintro s Q E ⟨hit, items, hl, rv⟩ hQ
    have sz : items.size = xs.length := by
      have := rv.length
      rw [Array.length_toList] at this
      exact this.symm
    refine (Goes.list (prog := prog) (w := w) (target := target) hh it a hne items).stops s Q E ⟨by rw [sz]; exact hit, hl⟩ hQ
  · rintro i s Q E ⟨hit, items, hl, rv⟩ hQ
    exact (Goes.list (prog := prog) (w := w) (target := target) hh it a hne items).self i s Q E ⟨hit, hl⟩ hQ
theorem clo_none {cells : List (Str × Addr)} : ∀ {names : List (Str × NameKind)} {acc : List (Str × Addr)}, (∀ y ∈ names, y.2 ≠ .free) → cloFrom cells names acc = acc
  | [], acc, _ => rfl
  | (n, k) :: r, acc, h => by
    have hk : (k == NameKind.free) = false := by
      have := h (n, k) List.mem_cons_self
      cases k <;> first | rfl | exact absurd rfl this
    unfold cloFrom
    rw [hk]
    exact clo_none fun y hy => h y (List.mem_cons_of_mem _ hy)
/-- a block whose names are its own locals and globals -/
structure PlainBlk (scope : Scope) : Prop where
  kind : scope.kind = .function
  nm : ∀ y ∈ scope.names, y.2 = .local ∨ y.2 = .globalImplicit
  uq : ∀ y ∈ scope.names, y.2 = .local → scope.names.lookup y.1 = some .local
theorem PlainBlk.noFree {scope : Scope} (b : PlainBlk scope) : ∀ y ∈ scope.names, y.2 ≠ .free := fun y hy e => by
  rcases b.nm y hy with h | h <;> rw [h] at e <;> cases e
theorem PlainBlk.noCell {scope : Scope} (b : PlainBlk scope) : ∀ y ∈ scope.names, y.2 ≠ .cell := fun y hy e => by
  rcases b.nm y hy with h | h <;> rw [h] at e <;> cases e
def plainBlkB (scope : Scope) : Bool := decide (scope.kind = .function) && scope.names.all (fun y => decide (y.2 = .local) || decide (y.2 = .globalImplicit)) && scope.names.all fun y => !decide (y.2 = .local) || decide (scope.names.lookup y.1 = some .local)
theorem plainBlk_by {scope : Scope} (h : plainBlkB scope = true) : PlainBlk scope := by
  unfold plainBlkB at h
  simp only [Bool.and_eq_true, Bool.or_eq_true, Bool.not_eq_true', decide_eq_true_eq, decide_eq_false_iff_not, List.all_eq_true] at h
  exact ⟨h.1.1, h.1.2, fun y hy e => (h.2 y hy).elim (fun z => absurd e z) id⟩
section
variable {X : Cx} {pins : List (Addr × Obj)} {σ : L2.St} {H : Hp} {s : Shared}
theorem PlainBlk.kindOf {scope : Scope} {C : Addr} (b : PlainBlk scope) {y : Str} {k : NameKind} (h : (compEnvC scope [] C X.env).kindOf y = some k) : k = .local ∨ k = .globalImplicit := by
  have h' : (relS scope X.env.scope).names.lookup y = some k := h
  obtain ⟨k', e, r⟩ := lookup_relS h'
  have hk := b.nm _ (PySem.mem_of_lookup e)
  rcases r with rfl | ⟨rfl, _⟩
  · exact hk
  · rcases hk with z | z <;> cases z
theorem blk_inv {scope : Scope} {C : Addr} {h3 : Heap} {tk : Nat} (I : Inv X pins σ H s) (hc : X.calm = true) (b : PlainBlk scope) (nC : s.heap.objs.size ≤ C) (kp : ∀ b o, s.heap.get? b = some o → h3.get? b = some o) (hns : h3.Ns C fun _ => none) :
    Inv (X.blk s H scope (compEnvC scope [] C X.env) []) [] (List.replicate X.N.length none) H { s with heap := h3, toks := tk } := by
  have nocell : ∀ x c, ([] : List (Str × Addr)).lookup x = some c → False := fun x c e => by simp at e
  have okB : (X.blk s H scope (compEnvC scope [] C X.env) []).Ok := by
    refine ⟨I.ok.mod, b.kind, I.ok.glob, I.ok.blt, nC, fun x y c e _ => (nocell x c e).elim, fun y hy => ?_, fun y c _ e => (nocell y c e).elim, I.ok.hd, I.ok.frames, .inl rfl, fun q hq => absurd hq (by simp), I.bs, Nat.le_trans I.ok.bsz I.sz, fun _ _ _ => by simp, fun q hq => absurd hq (by simp), I.stack, I.stkFree⟩
    exfalso
    rcases hy with hy | hy
    · rcases b.kindOf (X := X) hy with z | z <;> cases z
    · rcases b.kindOf (X := X) hy with z | z <;> cases z
  refine ⟨okB, rfl, I.bare, Un.kept kp, ⟨_, hns, fun i x v _ e _ => ?_⟩, fun x c e => (nocell x c e).elim, I.hok.fresh nC, fun x c e => (nocell x c e).elim, fun p hp => absurd (show p ∈ ([] : List (Addr × Obj)) ++ [] from hp) (by simp), I.hok.kept kp, by simp⟩
  exfalso
  have : (List.replicate X.N.length (none : Option V))[i]? = some (some v) := e
  rw [List.getElem?_replicate] at this
  split at this <;> cases this
end
/-- the reading of the rest r of the list, acc made so far; the list of lambdas stands at a throughout -/
def gAll (X : Cx) (CXl : CXT) (j : Nat) (sp : (Hp → VK → XK → Prop) → Hp → VK → XK → Prop) (σ : L2.St) (a : Addr) (xs : List V) (Q : VK) : List V → List V → Hp → Prop
  | [], acc, H => SqL X.K H a xs ∧ ∀ D, H D = none → Q (.ref D) (upd H D (.lst acc))
  | v :: r, acc, H => SqL X.K H a xs ∧ ∃ (f : Addr) (F : LF) (fr : List Str) (js : List Nat) (lsp : TSp), v = .ref f ∧ LOk X.prog X.w X.K X.mg X.base CXl j f F fr lsp ∧
    H f = some (LamO f F) ∧ H F.c = some (CodeO F.c F.qual) ∧ DvOk F H ∧ (X.Ok → Caps X F.cl fr js) ∧ sp (lsp (js.map (slotAt σ))) H (fun y H2 => gAll X CXl j sp σ a xs Q r (acc ++ [y]) H2) fun _ _ _ => False
theorem gAll_list {X : Cx} {CXl : CXT} {j : Nat} {sp : (Hp → VK → XK → Prop) → Hp → VK → XK → Prop} {σ : L2.St} {a : Addr} {xs : List V} {Q : VK} {r acc : List V} {H : Hp} (h : gAll X CXl j sp σ a xs Q r acc H) : SqL X.K H a xs := by
  cases r with
  | nil => exact h.1
  | cons v r => exact h.1
def tLcT (X : Cx) (CXl : CXT) (j : Nat) (sp : (Hp → VK → XK → Prop) → Hp → VK → XK → Prop) (te : TE) : TE := fun σ H Q => te σ H fun v H1 => ∃ (a : Addr) (xs : List V), v = .ref a ∧ xs.length ≤ 1000 ∧ gAll X CXl j sp σ a xs Q xs [] H1
section
variable {X : Cx} {CXl : CXT} {i k j : Nat} {x g : Str} {gA : Addr} {sp : (Hp → VK → XK → Prop) → Hp → VK → XK → Prop} {scope : Scope} {iter : Expr} {te : TE} {px px2 pg pp pos : Pos}
theorem pe_lcT (G : FnS X.prog X.w X.K X.mg X.base CX0 CXl k j gA sp) (hc : X.calm = true) (hfn : X.fn = fun _ => true) (hN : X.N.Nodup) (hi : X.N[i]? = some x) (b : PlainBlk scope) (hx : scope.names.lookup x = some .local) (hg : scope.names.lookup g = some .globalImplicit)
    (hm : X.mg g = some (.ref gA)) (hk : PySem.W.keepIn X.K (.ref gA) = true) (hr : Room k X.A) (he : PE X iter te) (hdb : (g == ("__debug__" : Str)) = false := by decide) (hdx : (x == ("__debug__" : Str)) = false := by decide)
    (hs : ∀ y, foldedSetIterable iter X.env y = pure y := by intro _; rfl) :
    PE X (.ListComp (.Call (.Name g pg) [.Name x px] [] pp) [⟨.Name x px2, iter, [], 0⟩] scope pos) (tLcT X CXl j sp te) := by
  refine ⟨fun pins s σ H Q I h => ?_⟩
  have hclos : closureFor scope X.env = pure [] := by
    rw [closure_ok (fun y hy e => absurd e (b.noFree y hy)), clo_none b.noFree]
  refine ListComp_goes hclos b.noCell b.kind b.uq ?_ hs
  refine thn (he.run pins s σ H _ I h) fun u s1 hh => ?_
  obtain ⟨v, H1, I1, rv, a, xs, ev, hlen, hga⟩ := hh
  subst ev
  obtain rfl : u = Value.ref a := rv
  obtain ⟨its, ri, ⟨o, n, ho, hcl, _, hd⟩, _⟩ := I1.list (gAll_list hga)
  refine wpAny_pyIter_list (items := its.toArray) ⟨o, ho, hcl, n, hd⟩ ?_
  have hit : a ≠ s1.heap.objs.size := Nat.ne_of_lt (Heap.lt_size ho)
  generalize hsi : s1.heap.objs.size = it at hit ⊢
  refine ⟨it, [it, a], [it], xs.length, _, _, rfl, goes_listV (I1.ok.hd hc) it a hit xs, Nat.le_trans hlen (by decide), ?_, ?_, ?_⟩
  · refine ⟨⟨({ cls := .type "list_iterator", data := .fields #[.ref a, .int 0 0] } : Obj), ?_, rfl, rfl⟩, its.toArray, ⟨o, Heap.get?_push_of_some _ ho, hcl, n, hd⟩, by simpa using ri⟩
    rw [← hsi]
    exact Heap.get?_push_size _ rfl
  · intro q hq
    show q < (s1.heap.push _).objs.size
    rw [Heap.size_push, hsi]
    rcases List.mem_cons.mp hq with rfl | hq
    · exact Nat.lt_succ_self _
    · rw [List.mem_singleton.mp hq, ← hsi]
      exact Nat.lt_succ_of_lt (Heap.lt_size ho)
  · intro D C s3 hB
    obtain ⟨⟨h3, tk3, rfl⟩, old, nD, nC, hDC, hnm⟩ := hB
    have nD' : it + 1 ≤ D := by
      have z : (s1.heap.push ({ cls := .type "list_iterator", data := .fields #[.ref a, .int 0 0] } : Obj)).objs.size ≤ D := nD
      rw [Heap.size_push, hsi] at z
      exact z
    have nC' : it + 1 ≤ C := by
      have z : (s1.heap.push ({ cls := .type "list_iterator", data := .fields #[.ref a, .int 0 0] } : Obj)).objs.size ≤ C := nC
      rw [Heap.size_push, hsi] at z
      exact z
    have sD : s1.heap.objs.size ≤ D := by rw [hsi]; exact Nat.le_of_succ_le nD'
    have sC : s1.heap.objs.size ≤ C := by rw [hsi]; exact Nat.le_of_succ_le nC'
    have sI : s1.heap.objs.size ≤ it := Nat.le_of_eq hsi
    have hDI : D ≠ it := Nat.ne_of_gt nD'
    have hCI : C ≠ it := Nat.ne_of_gt nC'
    have kp : ∀ q u, s1.heap.get? q = some u → h3.get? q = some u := fun q u e => old q u (Heap.get?_push_of_some _ e)
    have fsN : ∀ {q : Addr}, s1.heap.objs.size ≤ q → q ∉ frs X.stack := fun {q} hq z => by
      rcases List.mem_cons.mp (I1.stkSub q z) with z | z
      · exact absurd (Nat.lt_of_lt_of_le I1.lt (z ▸ hq)) (Nat.lt_irrefl _)
      · exact I1.nofs hq z
    generalize hXb : X.blk s1 H1 scope (compEnvC scope [] C X.env) [] = Xb
    have I3 : Inv Xb [] (List.replicate X.N.length none) H1 { s1 with heap := h3, toks := tk3 } := by
      rw [← hXb]
      exact blk_inv I1 hc b sC kp hnm
    have nfree : H1 D = none ∧ H1 it = none := ⟨I1.hok.fresh sD, I1.hok.fresh sI⟩
    have eN : Xb.N = X.N := by rw [← hXb]
    have eL : Xb.env.locals = C := by rw [← hXb]; rfl
    have eS : Xb.s_0 = s1 := by rw [← hXb]
    have eCl : Xb.env.cells = [] := by rw [← hXb]; rfl
    have eFs : Xb.fs = frs X.stack := by rw [← hXb]
    have ePn : Xb.pn = [] := by rw [← hXb]
    refine ⟨fun m ys s4 => ∃ (H4 : Hp) (acc : List V), Inv Xb [] (List.replicate X.N.length none) H4 s4 ∧ Vals acc ys ∧ acc.length = m ∧ H4 D = none ∧ H4 it = none ∧ gAll X CXl j sp σ a xs Q (xs.drop m) acc H4,
      ⟨H1, [], I3, .nil, rfl, nfree.1, nfree.2, hga⟩, ?_, ?_, ?_⟩
    · -- D and the iterator may change
      rintro m ys s4 h' tk ⟨H4, acc, I4, ra, la, fD, fI, q4⟩ hk' _
      refine ⟨H4, acc, ?_, ra, la, fD, fI, q4⟩
      have ne : ∀ {c : Addr} {u : HO}, H4 c = some u → c ∉ [D, it] := fun {c u} e z => by
        rcases List.mem_cons.mp z with z | z
        · rw [z, fD] at e; cases e
        · rw [List.mem_singleton.mp z, fI] at e; cases e
      have nC4 : C ∉ [D, it] := fun z => by
        rcases List.mem_cons.mp z with z | z
        · exact hDC z.symm
        · exact hCI (List.mem_singleton.mp z)
      refine I4.step (g' := s4.gens) (d' := s4.drawn) (t' := tk) (ch := [D, it]) (fun q hq => ⟨.inr ?_, ?_, fun y c e => ?_, fun p hp => ?_⟩) (fun q o _ _ hq e _ => hk' q o hq e) (fun q o _ _ hq e _ => ⟨o.slots, hk' q o hq e⟩) (fun _ _ _ _ z => z) (fun q o hq e => ⟨o, hk' q o hq e⟩)
        (fun _ _ e => e) (fun _ _ _ e => e) (fun q ps e => ⟨#[], by rw [e]; simp⟩) (fun mm hm4 => ?_) (fun q u e => (I4.hok q u e).stay (fun c v hc2 z => hk' c v (by
          rcases hc2 with hc2 | hc2
          · rw [hc2]
            exact ne e
          · exact ne hc2) z) (fun _ z => z) fun _ _ z => z) I4.bare
      · rw [eS]
        rcases List.mem_cons.mp hq with z | z
        · rw [z]; exact sD
        · rw [List.mem_singleton.mp z]; exact sI
      · rw [eL]
        exact fun z => nC4 (z ▸ hq)
      · rw [eCl] at e
        simp at e
      · rw [ePn] at hp
        simp at hp
      · obtain ⟨o5, es, ep, e5, r5⟩ := hm4
        rw [eL] at e5 ⊢
        exact ⟨o5, es, ep, hk' C o5 nC4 e5, r5⟩
    · -- one turn
      rintro m u ys s4 hm4 ⟨xv, hxv, rxv⟩ hSt ⟨H4, acc, I4, ra, la, fD, fI, q4⟩ hPL
      have hdrop : xs.drop m = xv :: xs.drop (m + 1) := by
        obtain ⟨hlt, e⟩ := List.getElem?_eq_some_iff.mp hxv
        rw [List.drop_eq_getElem_cons hlt, e]
      rw [hdrop] at q4
      obtain ⟨_, f, F, fr, js, lsp, ef, L, hf, hco, hdv, cp, q5⟩ := q4
      subst ef
      obtain rfl : u = Value.ref f := rxv
      obtain ⟨⟨oi, hoi, hoc, hod⟩, _⟩ := hSt
      obtain ⟨nD4, hoD⟩ := hPL
      have Ip : Inv Xb [(it, oi), (D, ({ cls := .type "list", data := .seq ys.toArray nD4 } : Obj))] (List.replicate X.N.length none) H4 s4 := by
        refine I4.pins_of fun p hp => ?_
        rcases List.mem_cons.mp hp with rfl | hp
        · refine ⟨hoi, fI, by rw [eL]; exact Ne.symm hCI, by rw [eFs]; exact fsN sI, fun v z => ?_⟩
          rw [hod] at z
          cases z
        · rw [List.mem_singleton.mp hp]
          exact ⟨hoD, fD, by rw [eL]; exact hDC, by rw [eFs]; exact fsN sD, fun v z => by cases z⟩
      have hlocB : Xb.env.scope.names.lookup x = some .local := by rw [← hXb]; exact lookup_relabel_local hx
      have hEnv : compEnvC scope [] C X.env = Xb.env := by rw [← hXb]
      have hprog : Xb.prog = X.prog := by rw [← hXb]
      have hw : Xb.w = X.w := by rw [← hXb]
      have hAA : Xb.A = X.A := by rw [← hXb]
      have hst : Xb.stack = X.stack := by rw [← hXb]
      have hmgB : Xb.mg = X.mg := by rw [← hXb]
      have hKB : Xb.K = X.K := by rw [← hXb]
      have hbB : Xb.base = X.base := by rw [← hXb]
      have hglB : Gl Xb g := by
        have key := lookup_relS_keep (sc := X.env.scope) (by intro z; cases z) hg
        rw [← hXb]
        exact key
      have eX : Xb.ex = [] := by rw [← hXb]
      have eH : Xb.H_0 = H1 := by rw [← hXb]
      have cpX := cp I.ok
      have C0 : CellsAt F.cl fr (js.map (slotAt σ)) Xb.s_0.heap Xb.H_0 := by
        rw [eS, eH]
        exact cells_of I1 cpX
      have nf : ∀ y c, F.cl.lookup y = some c → c ∉ frs X.stack := fun y c e z => by
        have e' := cpX.sub y c e
        rcases List.mem_cons.mp (I1.stkSub c z) with z | z
        · exact I1.cne y c e' z
        · have h1 := I1.ok.cab y c (by rw [hfn]) e'
          obtain ⟨_, ob, hob, _⟩ := I1.ok.funs.mem z
          exact absurd (Nat.lt_of_lt_of_le (Heap.lt_size hob) h1) (Nat.lt_irrefl _)
      rw [hEnv, ← hAA, ← hprog, ← hw]
      refine wpAny_assign_Name (store_ok Ip (by rw [eN]; exact hN) (by rw [eN]; exact hi) (.inl hlocB) (v := V.ref f) rfl (fun s5 I5 => ?_) (.inr hlocB))
      refine wpAny_tests_nil ?_
      rw [if_pos rfl]
      have hsl : (List.replicate X.N.length (none : Option V)).set i (some (.ref f)) = (List.replicate X.N.length (none : Option V)).set i (some (.ref f)) := rfl
      have hiN : i < X.N.length := (List.getElem?_eq_some_iff.mp hi).1
      have hget : ((List.replicate X.N.length (none : Option V)).set i (some (.ref f)))[i]? = some (some (.ref f)) := List.getElem?_set_self (by simpa using hiN)
      refine wpAny_Call_Name_kw (ld_glob (X := Xb) I5 hglB (by rw [hmgB]; exact hm) ?_ hdb)
      have hkB : PySem.W.keepIn Xb.K (.ref gA) = true := by rw [hKB]; exact hk
      obtain ⟨mm, hnsB, hlk⟩ := I5.loc
      obtain ⟨uu, ru, lk⟩ := hlk i x (.ref f) (by rw [eN]; exact hi) hget (.inl hlocB)
      obtain rfl : uu = Value.ref f := ru
      have hmm : mm x = some (.ref f) := by
        rcases lk with ⟨_, z⟩ | ⟨z, _⟩
        · exact z
        · have z' : Xb.env.scope.names.lookup x = some .cell ∨ Xb.env.scope.names.lookup x = some .free := z
          rw [hlocB] at z'
          rcases z' with z' | z' <;> cases z'
      refine PySem.W.callWith_K (h₀ := Xb.base) I5.ok.mod.kin hkB (Calls.spliced_cons (wpAny_Name (wpAny_loadName_local I5.ok.kind hlocB hnsB hmm (Calls.spliced_nil ⟨I5.kIn, ?_⟩)) hdx)) rfl rfl
      show wpAny _ _ (call (.ref gA) [.ref f]) _ _ _
      have C5 : CellsAt F.cl fr (js.map (slotAt σ)) s5.heap H4 := C0.later (fun y c e => by rw [eFs]; exact nf y c e) (fun y c e z => by rw [eX] at z; cases z) I5
      have TH : Thunk X.prog X.w X.K X.mg X.base CXl j X.stack s5 H4 f (lsp (js.map (slotAt σ))) := ⟨F, fr, _, lsp, L, hf, hco, hdv, C5, nf, rfl⟩
      have e5 := I5.env0
      rw [hprog, hw, hKB, hmgB, hbB, hAA, hst] at e5
      refine wpAny_call (codeAny_mono (hprog ▸ hw ▸ hAA ▸ G X.A X.stack s5 H4 f _ _ (fun _ _ _ => False) hr e5 TH q5) fun r s6 hq => ?_)
      cases r with
      | error e => exact False.elim hq
      | ok fl =>
        cases fl with
        | next => exact False.elim hq
        | brk => exact False.elim hq
        | cont => exact False.elim hq
        | ret z =>
          have hq' : CE Xb.stack Xb.prog Xb.w H4 s5 (fun y H2 => gAll X CXl j sp σ a xs Q (xs.drop (m + 1)) (acc ++ [y]) H2) z s6 := by rw [hst]; exact hq
          obtain ⟨y, H6, I6, ry, q6⟩ := I5.after hq'
          have p1 := I6.pin (it, oi) (List.mem_append_right _ List.mem_cons_self)
          have p2 := I6.pin (D, ({ cls := .type "list", data := .seq ys.toArray nD4 } : Obj)) (List.mem_append_right _ (List.mem_cons_of_mem _ List.mem_cons_self))
          obtain ⟨its6, ri6, ⟨o6, n6, ho6, hc6, _, hd6⟩, _⟩ := I6.list (by rw [hKB]; exact gAll_list q6)
          refine ⟨⟨H6, acc ++ [y], ?_, ra.append (.cons ry .nil), by rw [List.length_append, la]; rfl, p2.2.1, p1.2.1, q6⟩, ⟨⟨oi, p1.1, hoc, hod⟩, its6.toArray, ⟨o6, ho6, hc6, n6, hd6⟩, by simpa using ri6⟩, ⟨nD4, p2.1⟩⟩
          refine (I6.pins_of (pins' := []) (fun p hp => absurd hp (by simp))).weak (by simp) fun ii v e => ?_
          rw [List.getElem?_replicate] at e
          split at e <;> cases e
    · -- the end
      rintro ys s4 ⟨H4, acc, I4, ra, la, fD, fI, q4⟩ ⟨nD4, hoD⟩
      obtain ⟨mC, hnC, _⟩ := I4.loc
      rw [eL] at hnC
      refine ⟨mC, hnC, fun h5 sb => ?_⟩
      rw [List.drop_length] at q4
      have hgt : ∀ q u, q ≠ C → s4.heap.get? q = some u → h5.get? q = some u := fun q u hq e => (sb.2 q hq).trans e
      have fC : H4 C = none := by have z := I4.free; rw [eL] at z; exact z
      have ub := I4.base
      have uo := I4.os
      have hk4 := I4.hok
      rw [eFs, eS] at ub
      have eH : Xb.H_0 = H1 := by rw [← hXb]
      have eX : Xb.ex = [] := by rw [← hXb]
      rw [eH, eX] at ub
      rw [eS] at uo
      have hprog : Xb.prog = X.prog := by rw [← hXb]
      have hw : Xb.w = X.w := by rw [← hXb]
      rw [hprog, hw] at hk4
      have neS : ∀ {q : Addr} {u : Obj}, s1.heap.get? q = some u → q ≠ C ∧ q ≠ D := fun {q u} e => ⟨Nat.ne_of_lt (Nat.lt_of_lt_of_le (Heap.lt_size e) sC), Nat.ne_of_lt (Nat.lt_of_lt_of_le (Heap.lt_size e) sD)⟩
      have lenA : acc.length ≤ 1000 := by rw [la]; exact hlen
      have U : Un (frs X.stack) [] H1 (upd H4 D (.lst acc)) s1.heap h5 := {
        keep := fun q u e nq hf hx2 => hgt q u (neS e).1 (ub.keep q u e nq hf hx2)
        slot := fun q u e nq hf hx2 => by
          obtain ⟨sl, z⟩ := ub.slot q u e nq hf hx2
          exact ⟨sl, hgt q _ (neS e).1 z⟩
        free := fun q u e nq hx2 => by rw [upd_ne (neS e).2]; exact ub.free q u e nq hx2
        there := fun q u e hx2 => by
          obtain ⟨u', z⟩ := ub.there q u e hx2
          exact ⟨u', hgt q _ (neS e).1 z⟩
        tups := fun q ys2 e => by
          have z := ub.tups q ys2 e
          rw [upd_ne (ne_of_none z fD)]
          exact z
        frzs := fun q o2 u e => by
          have z := ub.frzs q o2 u e
          rw [upd_ne (ne_of_none z fD)]
          exact z
        tbls := fun q ps e => by
          obtain ⟨more, z⟩ := ub.tbls q ps e
          exact ⟨more, by rw [upd_ne (ne_of_none z fD)]; exact z⟩ }
      have hok5 : HOk X.prog X.w (upd H4 D (.lst acc)) h5 := fun q u e => by
        by_cases hq : q = D
        · subst hq
          rw [upd_same] at e
          cases e
          exact ⟨Nat.le_trans lenA (by decide), ys, nD4, ra, hgt q _ hDC hoD⟩
        · rw [upd_ne hq] at e
          refine (hk4 q u e).stay (fun c v hc2 z => hgt c v (fun zc => ?_) z) (fun c z => by rw [upd_ne (ne_of_none z fD)]; exact z) fun c zs z => by rw [upd_ne (ne_of_none z fD)]; exact z
          rcases hc2 with hc2 | hc2
          · rw [← hc2, zc, fC] at e
            cases e
          · rw [zc, fC] at hc2
            cases hc2
      have J : Inv X pins σ (upd H4 D (.lst acc)) { s4 with heap := h5 } := I1.call' (ch := []) uo U hok5 I4.bare fun q hq => absurd hq (by simp)
      exact ⟨.ref D, _, J, rfl, q4.2 D fD⟩
end
end Sea

set_option Elab.async false
set_option linter.all false
set_option maxRecDepth 100000
set_option maxHeartbeats 4000000
/-! an own exception class called with keywords alone: C(k = v, ..) -/
namespace Sea
open PySem PySem.Spec PyProof.Rows PySem.HandSPX
/-- in h the class C is one of errors over ValueError: what it inherits, by the built-in names -/
structure ErrAt (h : Heap) (C : Addr) : Prop where
  ex : ∃ nm q N bs bm sn sub ab col dd k0 k1 k2 k3 k5, h.get? C = some (excClassObj nm q C N bs bm true sn sub ab col dd k0 k1 k2 k3 k5 "ValueError.__new__") ∧ refsVE bm = true
theorem ErrAt.over {bm : List Value} (C : Addr) (h : refsVE bm = true) (X : String) : (Value.ref C :: bm).contains (.type X) = veTail.contains (.type X) :=
  (List.contains_cons).trans ((Bool.false_or _).trans (refsVE_contains X bm h))
/-- the heap in which the error stands, its arguments empty -/
abbrev born (C : Addr) (h : Heap) : Heap := (h.push (W.kdv_tup [])).push (excO C h.objs.size)
theorem born_old {C : Addr} {h : Heap} : ∀ b o, h.get? b = some o → (born C h).get? b = some o := fun _ _ z => Heap.get?_push_of_some _ (Heap.get?_push_of_some _ z)
theorem born_new {C : Addr} {h : Heap} : (born C h).get? (h.objs.size + 1) = some (excO C h.objs.size) := by
  rw [← Heap.size_push h (o := W.kdv_tup [])]
  exact Heap.get?_push_size _ rfl
section
variable {prog : Program} {w : World} {A : Around} {R : Result → Shared → Prop} {s : Shared} {C : Addr} {kw : List (Str × Value)}
/-- ValueError.__new__(C, k = v, ..) -/
theorem err_born (T : ErrAt s.heap C) (q : R (.ok (.ret (.ref (s.heap.objs.size + 1)))) { s with heap := born C s.heap }) : codeAny (model prog w) A (.call (.builtin "ValueError.__new__") ⟨[.ref C], kw⟩) R s := by
  obtain ⟨nm, qn, N, bs, bm, sn, sub, ab, col, dd, k0, k1, k2, k3, k5, at_, ve⟩ := T.ex
  have V := F.excBase_ValueError
  have yes : (Value.ref C :: bm).contains (.type "ValueError") = true := ErrAt.over C ve _
  have no1 : (Value.ref C :: bm).contains (.type "AttributeError") = false := ErrAt.over C ve _
  have no2 : (Value.ref C :: bm).contains (.type "NameError") = false := ErrAt.over C ve _
  have tail := V.ends
  have star := V.noStar
  obtain ⟨hp, g, d, t, os⟩ := s
  apply codeAny_call_builtin_code (Code.quiet_builtin _ V.quiet)
  simp only [checkBuiltinCall, V.newKind, V.newSplit, V.newRow]
  repeat (first
    | (refine wpAny_isSubtype_exc at_ ?_; rw [yes])
    | refine wpAny_loadPart_at at_ ?_
    | refine wpAny_madeBy_exc at_ ?_
    | refine wpAny_staticBase_exc at_ ?_
    | simp only [bne_self_eq_false, Bool.false_eq_true, if_false]
    | wp_step)
  apply codeAny_builtinAt V.entry
  unfold Builtin.«BaseException.__new__»
  refine PySem.wpAt_bind ?_
  refine PySem.wpAt_bind (m := stack) (PySem.wpAt_stack ?_)
  intro p below
  refine PySem.wpAt_of_wpAny ?_
  wp_walk
  refine PySem.wpAt_of_wpAny ?_
  rw [V.owner]
  repeat (first
    | (with_reducible refine wpAny_isSubtype_exc at_ ?_; simp only [yes, no1, no2])
    | with_reducible refine wpAny_loadPart_at at_ ?_
    | with_reducible refine wpAny_madeHere_exc V.canon at_ ?_
    | wp_step)
  exact (Heap.size_push hp (o := W.kdv_tup [])).symm ▸ q
/-- C(k = v, ..): the error is born, then its class's def __init__ has it -/
theorem err_call {fI : Addr} (T : ErrAt s.heap C) (ini : W.Looks (model prog w) s.heap (typeLookup (.ref C) "__init__") (some (.ref fI))) (bnd : ∀ self, W.Looks (model prog w) s.heap (bindSpecial (.ref fI) self) (.ref fI, [self]))
    (q : codeAny (model prog w) (A.under (.builtin "type.__call__" ⟨[.ref C], kw⟩)) (.call (.ref fI) ⟨[.ref (s.heap.objs.size + 1)], kw⟩) (W.InitBack (s.heap.objs.size + 1) R) { s with heap := born C s.heap }) :
    codeAny (model prog w) A (.call (.ref C) ⟨[], kw⟩) R s := by
  have ⟨nm, qn, N, bs, bm, sn, sub, ab, col, dd, k0, k1, k2, k3, k5, at_, ve⟩ := T.ex
  have isC : (Value.ref C :: bm).contains (.ref C) = true := by simp
  have isTy : s.TypeIs (.ref C) "type" := ⟨_, at_, rfl⟩
  have dunder := tc_lookup
  have bound := tc_bind (.ref C)
  have tsub := tc_sub
  have ini' := ini.keeps (born_old (C := C))
  have bnd' := (bnd (.ref (s.heap.objs.size + 1))).keeps (born_old (C := C))
  have at2 := born_old (C := C) _ _ at_
  have new2 := born_new (C := C) (h := s.heap)
  obtain ⟨hp, g, d, t, os⟩ := s
  dsimp only at at_ at2 new2 ini' bnd' q
  have quiet := Code.quiet_builtin (id := "type.__call__") ⟨[.ref C], kw⟩ (by decide +kernel)
  apply codeAny_of_tree
  show wpAny _ _ (callAny (.ref C) _) _ _ _
  repeat (any_goals (first | assumption | with_reducible refine wpAny_loadPart_at at_ ?_ | wp_step))
  refine ⟨rfl, codeAny_call_builtin_at quiet entry_typeCall ?_⟩
  simp only [checkBuiltinCall, tc_kind, tc_split]
  unfold Builtin.«type.__call__»
  repeat (any_goals (first
    | assumption
    | with_reducible refine wpAny_loadPart_at at_ ?_
    | with_reducible refine wpAny_onRaise ?_
    | with_reducible refine wpAny_map ?_
    | with_reducible refine wpAny_madeBy_exc at_ ?_
    | wp_step))
  refine err_born (s := ⟨hp, g, d, t, os⟩) T ?_
  show wpAny _ _ _ _ _ _
  have i1 : (born C hp).get? (hp.objs.size + 1) = some (excO C hp.objs.size) := new2
  unfold isInstance
  repeat (first
    | with_reducible refine wpAny_loadPart_at new2 ?_
    | (with_reducible refine wpAny_isSubtype_exc at2 ?_; rw [isC])
    | wp_step)
  show wpAny _ _ (typeLookup (.ref C) "__init__") _ _ ⟨born C hp, g, d, t, os⟩
  refine ini'.at ?_
  refine wpAny_holding (wpAny_bind (bnd'.at (wpAny_bind (wpAny_call ?_))))
  refine codeAny_mono q fun r s2 z => ?_
  match r, z with
  | .error _, z => exact z
  | .ok (.ret _), ⟨e, z⟩ =>
    subst e
    exact wpAny_pure (wpAny_pure z)
  | .ok .next, z => exact z.elim
  | .ok .brk, z => exact z.elim
  | .ok .cont, z => exact z.elim
end
end Sea

set_option Elab.async false
set_option linter.all false
set_option maxRecDepth 100000
set_option maxHeartbeats 4000000
/-! raise C(k = v, ..), C an own exception class over another own one whose __init__ says P.__init__(self, text) and stores its keywords -/
namespace Sea
open PySem PySem.Spec PyProof.Rows L2 LamX NdefX ClX
/-- C(k = v, ..) -/
def tMkK (C : Addr) (n : Nat) (sp : Sp) (gV : List V → List V → List V) (tk : TA) : L2.St → Hp → XK → Prop := fun σ H Q => tk σ H fun zs H1 => zs.length = n ∧ ∀ a, H1 a = none → sp (gV [.ref a] zs) (upd H1 a (exo a C none))
  (fun v H2 => v = .non ∧ ∃ (d : Addr) (fs : List (Str × V)), H2 a = some (exo a C (some d)) ∧ H2 d = some (exd d fs) ∧ H1 d = none ∧ Q (.ref C) (some d) (upd (del H2 a) d (.xd fs))) (fun _ _ _ => False)
section
variable {X : Cx} {e : Expr} {es : List Expr} {ta : TA} {p p1 p2 pos : Pos} {kws : List Keyword} {tk : TA} {ks : List Str} {g : List Value → List Value → List Value} {gV : List V → List V → List V}
theorem pe_pinit {x : Str} {B : Addr} {mc : Value} {pl : Sem Bool} (hg : Gl X x) (hm : X.mg x = some (.ref B)) (rd : PySem.W.readsIn X.K B mc = true) (ga : PySem.W.specialIn X.K (.ref B) "__getattribute__" = some (some (.builtin "type.__getattribute__")))
    (hat : PySem.W.findCls X.K (.ref B) mc "__init__" = some (.val (.builtin "ValueError.__init__"))) (ha : PA X (e :: es) ta) (hdb : (x == ("__debug__" : Str)) = false := by decide)
    (hc : eval (.Call (.Attribute (.Name x p1) "__init__" p2) (e :: es) [] pos) X.env = (do
      let ov ← eval (.Name x p1) X.env
      standAt p2.atName
      let (f, first) ← holding [ov] (getMethod ov "__init__" pl)
      callWith pos f first (backTo pos (starEach (e :: es) X.env)) (backToKw pos (keywordEach [] X.env))) := by rfl)
    (he : starEach (e :: es) X.env = (false, eval e X.env) :: starEach es X.env := by rfl) (hpl : (backTo pos (starEach es X.env)).any (·.1) = false := by rfl) :
    PE X (.Call (.Attribute (.Name x p1) "__init__" p2) (e :: es) [] pos) (tVeI X.K ta) := by
  constructor
  intro pins s σ H Q I h
  apply PySem.W.methodCall_KW (ld_glob I hg hm (PySem.W.method_cls I.kIn ga (PySem.W.cls_value I.kIn rd hat (by decide +kernel) ?_)) hdb) hc
  have args := ha.run pos pins _ σ H _ (I.tok (s.toks + 1)) h
  show wpAny _ _ (callWith pos (Value.builtin "ValueError.__init__") [] (backTo pos (starEach (e :: es) X.env)) []) _ _ _
  refine PyProof.Rows.callWith_method1 (thn args ?_) he hpl
  rintro us s1 ⟨_, H1, J, rel, a, C, ws, rfl, few, T, ea, q⟩
  match us, rel with
  | u :: ur, .cons ra rr =>
    rw [show u = .ref a from ra]
    have short : ur.length ≤ sizeLine := by
      rw [sizeLine_eq, ← Paired.length rr]
      omega
    exact oinit_ok T J ea short fun s' L => ⟨.non, H1, L, rfl, q⟩
theorem pmk_kw {CX : CXT} {x : Str} {C fI : Addr} {k : Nat} {fd : FuncData} {ps : List Str} {sp : Sp} (T : OexC X.K C) (iC : PySem.W.findIn X.K (.ref C) "__init__" = some (some (.ref fI))) (tI : PySem.W.typeIn X.K (.ref fI) = some (.type "function"))
    (F1 : FnOk X.prog X.w X.K X.mg X.base CX k fI fd ps sp) (hr : Room (k + 1) X.A) (hb : KBn X.K fd ps 1 ks g gV) (hx : Passes CX X (fun _ _ _ => False)) (hg : Gl X x) (hm : X.mg x = some (.ref C)) (hkw : PK X kws tk)
    (hall : (backToKw pos (keywordEach kws X.env)).all (·.1.isSome) = true := by rfl) (hks : (backToKw pos (keywordEach kws X.env)).filterMap (·.1) = ks := by rfl) (hdb : (x == ("__debug__" : Str)) = false := by decide)
    (hpl : ((backTo pos (starEach [] X.env)).any (·.1) || (backToKw pos (keywordEach kws X.env)).any (·.1.isNone)) = false := by rfl) :
    PMk X (.Call (.Name x p) [] kws pos) (tMkK C ks.length sp gV tk) := by
  intro pins s σ H Q I h
  apply wpAny_Call_Name_kw
  apply ld_glob I hg hm ?_ hdb
  apply PySem.W.callWith_KW0 (h₀ := X.base) I.ok.mod.kin T.kC hall ?_ hpl
  refine thn (hkw.run pos pins s σ H _ I h) ?_
  rintro ws ⟨hp, g1, dr, tk', os⟩ ⟨zs, H1, J, rel, many, q⟩
  have err : ErrAt hp C := by
    obtain ⟨nm, qn, N, bs, bm, sn, sub, ab, col, dd, k0, k1, k2, k3, k5, at_, ve⟩ := T.cls
    exact ⟨nm, qn, N, bs, bm, sn, sub, ab, col, dd, k0, k1, k2, k3, k5, J.kIn _ _ at_, ve⟩
  have above : hp.objs.size ≤ hp.objs.size + 1 := Nat.le_succ _
  -- the invariant once the error stands in the heap
  have L : Inv X pins σ (upd H1 (hp.objs.size + 1) (exo (hp.objs.size + 1) C none)) ⟨born C hp, g1, dr, tk', os⟩ := J.laid (t' := tk') born_old above (exo_ok born_new)
  have ini := F1.run _ X.stack _ _ ⟨[.ref (hp.objs.size + 1)], ks.zip ws⟩ (g [.ref (hp.objs.size + 1)] ws) _ _ (fun _ _ _ => False) (hr.make C [] (ks.zip ws)) (L.env0.make C [] (ks.zip ws))
    (hb.to _ [.ref (hp.objs.size + 1)] ws L.kIn rfl (rel.length.symm.trans many)) (hb.rel (us := [.ref (hp.objs.size + 1)]) (vs := [.ref (hp.objs.size + 1)]) (.cons rfl .nil) rel) (q (hp.objs.size + 1) (J.hok.fresh above))
  rw [hks]
  refine ⟨J.kIn, wpAny_call (err_call err (PySem.W.looks_findIn J.kIn iC) (fun self => PySem.W.bind_fn J.kIn self tI) (codeAny_mono ini ?_))⟩
  intro r s' back
  match r, back with
  | .error er, back => exact hx pins σ _ _ er s' L back
  | .ok .next, back => exact back.elim
  | .ok .brk, back => exact back.elim
  | .ok .cont, back => exact back.elim
  | .ok (.ret _), ⟨_, H2, os2, bare, un, hok, rv, e, d, fs, ea, ed, hd1, q2⟩ =>
    subst e
    obtain ⟨h2, g2, d2, t2, os3⟩ := s'
    exact ⟨rv, mk_end (raises_own T.exC T.tyC) J above born_old un hok os2 bare ea ed hd1 q2⟩
end

/-! ### the __init__ of such a class: one keyword, two keywords -/
/-- the class facts that the body asks: its parent's __init__ is ValueError's -/
structure PIn (K : PySem.W.Frag) (mg : Str → Option Value) (x : Str) (B : Addr) (mc : Value) : Prop where
  gB : mg x = some (.ref B)
  rd : PySem.W.readsIn K B mc = true
  ga : PySem.W.specialIn K (.ref B) "__getattribute__" = some (some (.builtin "type.__getattribute__"))
  at_ : PySem.W.findCls K (.ref B) mc "__init__" = some (.val (.builtin "ValueError.__init__"))
def spX1 (K : PySem.W.Frag) (f : Str) : Sp := fun vs H Q _ => ∃ (a C : Addr) (y : V), vs = [.ref a, y] ∧ OexC K C ∧ PySem.W.findIn K (.ref C) f = some none ∧ H a = some (exo a C none) ∧
  ∀ dx, H dx = none → dx ≠ a → Q .non (upd (upd H dx (exd dx [(f, y)])) a (exo a C (some dx)))
def spX2 (K : PySem.W.Frag) (f g : Str) : Sp := fun vs H Q _ => ∃ (a C : Addr) (y z : V), vs = [.ref a, y, z] ∧ OexC K C ∧ PySem.W.findIn K (.ref C) f = some none ∧ PySem.W.findIn K (.ref C) g = some none ∧ H a = some (exo a C none) ∧
  ∀ dx, H dx = none → dx ≠ a → Q .non (upd (upd (upd H dx (exd dx [(f, y)])) a (exo a C (some dx))) dx (exd dx [(g, z), (f, y)]))
theorem gone_eq {H : Hp} {a d : Addr} {o : HO} {u w v : HO} (ha : H a = none) (hd : d ≠ a) : upd (del (upd (upd H d u) a o) a) d v = upd H d v := by
  funext b
  by_cases hb : b = d
  · subst hb
    rw [upd_same, upd_same]
  · rw [upd_ne hb, upd_ne hb]
    by_cases hba : b = a
    · subst hba
      rw [del_same, ha]
    · rw [del_ne hba, upd_ne hba, upd_ne hb]
theorem gone_eq2 {H : Hp} {a d : Addr} {o : HO} {u w v : HO} (ha : H a = none) (hd : d ≠ a) : upd (del (upd (upd (upd H d u) a o) d w) a) d v = upd H d v := by
  funext b
  by_cases hb : b = d
  · subst hb
    rw [upd_same, upd_same]
  · rw [upd_ne hb, upd_ne hb]
    by_cases hba : b = a
    · subst hba
      rw [del_same, ha]
    · rw [del_ne hba, upd_ne hb, upd_ne hba, upd_ne hb]
end Sea

set_option Elab.async false
set_option linter.all false
set_option maxRecDepth 100000
set_option maxHeartbeats 4000000
/-! enumerate over a tuple -/
namespace Sea
open PySem PySem.Spec PyProof.Rows L2
/-- enumerate(t), t the tuple at a: a new iterator over it, and a new cell that counts -/
structure EnumMade (a : Addr) (h h2 : Heap) : Prop where
  cell : IsEnum h2 (h.objs.size + 1) h.objs.size 0 .none
  iter : h2.IsTupleIter h.objs.size a 0
  old : ∀ b o, h.get? b = some o → h2.get? b = some o
theorem enumMade (a : Addr) (h : Heap) :
    EnumMade a h ((h.push { cls := .type "tuple_iterator", data := .fields #[.ref a, .int 0 0] }).push { cls := .type "enumerate", data := .fields #[.none, .bool false, .ref h.objs.size, rawInt 0, .none, .none] }) where
  cell := by
    show Heap.get? _ _ = _
    rw [← Heap.size_push h (o := { cls := .type "tuple_iterator", data := .fields #[.ref a, .int 0 0] })]
    exact Heap.get?_push_size _ rfl
  iter := ⟨_, Heap.get?_push_of_some _ (Heap.get?_push_size h rfl), rfl, rfl⟩
  old := fun _ _ z => Heap.get?_push_of_some _ (Heap.get?_push_of_some _ z)
theorem Sem_any {α : Type} {M : Model} {A : Around} {E : Value → Shared → Prop} {s : Shared} {v : α} {Q : α → Shared → Prop} (q : ∀ x, Q x s) : wpAny M A (pure v) Q E s := wpAny_pure (q v)
theorem new_enumT (a : Addr) (its : Array Value) :
    Meets (Builtin.«enumerate.__new__» ⟨[.type "enumerate", .ref a], []⟩) (fun _ R s => s.heap.IsTuple a its ∧ ∀ h2, EnumMade a s.heap h2 → R (.ok (.ret (.ref (s.heap.objs.size + 1)))) { s with heap := h2 }) := by
  apply Meets.of_wp
  intro prog w A R s z
  have ht := z.1
  have made := z.2
  have ready := sub_enumerate
  have got := made _ (enumMade a s.heap)
  rw [← Heap.size_push s.heap (o := { cls := .type "tuple_iterator", data := .fields #[.ref a, .int 0 0] })] at got
  have it : ∀ {B : Around} {Er T : Value → Shared → Prop}, T (.ref s.heap.objs.size) { s with heap := s.heap.push _ } → wpAny (model prog w) B (pyIter (.ref a)) T Er s := fun r => (begins_tuple a its).iter prog w _ _ s _ ht r
  wp_walk using it
  refine wpAny_stack_any fun stk => Sem_any fun short => ?_
  cases short <;> wp_walk using it <;> exact ⟨_, rfl, got⟩
theorem call_enumT {prog : Program} {w : World} {A : Around} {E Q : Value → Shared → Prop} {s : Shared} {a : Addr} {its : Array Value} (ht : s.heap.IsTuple a its) (h : ∀ h2, EnumMade a s.heap h2 → Q (.ref (s.heap.objs.size + 1)) { s with heap := h2 }) :
    wpAny (model prog w) A (call (.type "enumerate") [.ref a]) Q E s :=
  callType_new F.called_enumerate (by decide) (F.typeCall_enumerate_1 _) (F.newCall_enumerate_1 _) (fun obj => F.args_object_init_2 obj _) F.entry_enumerate_new (new_enumT a its)
    ⟨ht, fun h2 m => ⟨⟨_, m.cell, rfl⟩, h h2 m⟩⟩
/-- the turns over a tuple that is known to hold xs: while there are items, a new pair of the place and the item -/
def IteT (K : PySem.W.Frag) (a : Addr) (xs : List V) : It where
  go i H := i < xs.length ∧ SqT K H a xs
  yld i H v H' := ∃ x pair, xs[i]? = some x ∧ H pair = none ∧ v = .ref pair ∧ H' = upd H pair (.tup [.int (i : Nat), x])
  stop i H := i = xs.length ∧ SqT K H a xs
/-- the walk over enumerate, as the library's WalksT.enumFrom tells it, read as turns of IteT -/
theorem turn_enumT {P : Program} {w : World} {K : PySem.W.Frag} {elts : List Expr} {kk : Nat} {tpos : Pos} (a e it : Addr) (xs : List V) (hei : e ≠ it) (hai : a ≠ it) (hae : a ≠ e) :
    Turn P w K (.Tuple elts kk tpos) (IteT K a xs) [e, it] e (fun i h => (∃ old, IsEnum h e it (0 + (i : Int)) old) ∧ h.IsTupleIter it a i) := by
  have walk := fun (A : Around) (hh : A.handled = none) (its : Array Value) =>
    WalksT.enumFrom (prog := P) (w := w) (A := A) 0 (Draws.tuple (A := A.in1) hh it a hai its) e hei (by simp [hei, Ne.symm hae]) (by simp)
  refine { mem := List.mem_cons_self .., obj := ?_, keep := ?_, item := ?_, done := ?_, self := ?_ }
  · rintro i h ⟨⟨old, he⟩, o, ho, _, hd⟩ b hb
    simp only [List.mem_cons, List.not_mem_nil, or_false] at hb
    cases hb with
    | inl hb => subst hb; exact ⟨_, he, by intro v; simp⟩
    | inr hb => subst hb; exact ⟨o, ho, by intro v; rw [hd]; simp⟩
  · rintro i h h2 ⟨⟨old, he⟩, hi⟩ k
    exact ⟨⟨old, k e (by simp) _ he⟩, hi.at fun o q => k it (by simp) o q⟩
  · rintro X rfl rfl rfl hc i pins s σ H Ex I hf ⟨en, hi⟩ ⟨lt, hq⟩
    obtain ⟨its, rv, pt, _⟩ := I.tuple hq
    have hx : xs[i]? = some xs[i] := List.getElem?_eq_getElem lt
    generalize xs[i] = x at hx
    obtain ⟨y, hy, ry⟩ := rv.get hx
    have W := walk X.A (I.ok.hd hc) its.toArray
    refine W.item i s _ _ (by simpa using (List.getElem?_eq_some_iff.mp hy).1) ⟨en, hi, pt⟩ ?_
    rintro T vals h2 tk ⟨t, z, hz, rfl⟩ hle hT hmid hk
    obtain rfl : z = y := Option.some.inj (Eq.trans (by simpa using hz.symm) hy)
    refine ⟨_, rfl, W.go elts kk tpos i T _ _ _ hmid fun h3 st3 hk3 => ?_⟩
    have keeps : ∀ b o, b ∉ [e, it] → s.heap.get? b = some o → h3.get? b = some o := fun b o hb q => hk3 b o hb (hk b o hb q)
    have pair : ObjOk X.prog X.w (upd H T (.tup [.int (i : Nat), x])) h3 T (.tup [.int (i : Nat), x]) :=
      ⟨by show 2 ≤ sizeLine; decide, [.int (0 + (i : Int)) t, z], .cons ⟨t, by rw [Int.zero_add]⟩ (.cons ry .nil), hT.at fun o q => hk3 T o (W.apart i T h2 hmid) q⟩
    have nT : H T = none := I.hok.fresh hle
    refine ⟨.ref T, _, I.turnedNew (t' := tk) keeps hf hle pair, rfl, ⟨x, T, hx, nT, rfl, rfl⟩, ⟨st3.1, st3.2.1⟩, fun b hb => ?_⟩
    rw [upd_ne (show b ≠ T from fun z => W.apart i T h2 hmid (z ▸ hb))]
    exact (hf b hb).1
  · rintro X rfl rfl rfl hc i pins s σ H Ex I hf ⟨en, hi⟩ ⟨rfl, hq⟩
    obtain ⟨its, rv, pt, _⟩ := I.tuple hq
    have W := walk X.A (I.ok.hd hc) its.toArray
    have hn : its.toArray.size = xs.length := by simpa using rv.length.symm
    exact W.done s _ _ (by rw [hn]; exact ⟨en, hi, pt⟩) fun h2 tk hk => ⟨rfl, I.turnedL (t' := tk) hk hf⟩
  · exact fun A i s Q Ex st h => wpAny_pyIter_enum st.1.choose_spec h
def iEnumT (K : PySem.W.Frag) (ta : TA) : TI := fun σ H R => ta σ H fun vs H1 => ∃ a xs, vs = [.ref a] ∧ SqT K H1 a xs ∧ R (IteT K a xs) H1
theorem pi_enumT {X : Cx} {e : Expr} {ta : TA} {p pos tpos : Pos} {elts : List Expr} {kk : Nat} (hg : Gl X "enumerate") (hm : X.mg "enumerate" = none) (ha : PA X [e] ta) (hs : starEach [e] X.env = [(false, eval e X.env)] := by rfl) :
    PI X (.Tuple elts kk tpos) (.Call (.Name "enumerate" p) [e] [] pos) (iEnumT X.K ta) where
  run pins s σ H R I h := by
    refine Call_ (ld_blt I hg hm boot_enumerate (PyProof.Rows.callWith_type1 (thn (ha.run pos pins s σ H _ I h) ?_) hs rfl))
    rintro us s1 ⟨_, H1, I1, r1, a, xs, rfl, hq, q⟩
    obtain ⟨u, rfl, ru⟩ := r1.one
    obtain rfl : u = .ref a := ru
    obtain ⟨its, rv, pt, _⟩ := I1.tuple hq
    have below : a < s1.heap.objs.size := by
      obtain ⟨_, z, _⟩ := (show s1.heap.IsTuple a its.toArray from pt)
      exact Heap.lt_size z
    refine call_enumT pt fun h2 m => wpAny_pyIter_enum m.cell ⟨_, _, _, _, H1, rfl, I1.kept (t' := s1.toks) m.old, turn_enumT a (s1.heap.objs.size + 1) s1.heap.objs.size xs (Nat.succ_ne_self _) (Nat.ne_of_lt below) (Nat.ne_of_lt (Nat.lt_succ_of_lt below)), ⟨⟨_, m.cell⟩, m.iter⟩, ?_, q⟩
    have fresh : ∀ b, s1.heap.objs.size ≤ b → FpOk X pins H1 b := fun b hb => I1.fpOk hb (I1.hok.fresh hb)
    simpa using And.intro (fresh (s1.heap.objs.size + 1) (Nat.le_succ _)) (fresh s1.heap.objs.size (Nat.le_refl _))
end Sea

set_option Elab.async false
set_option linter.all false
set_option maxRecDepth 100000
set_option maxHeartbeats 4000000
/-! isinstance of a caught error that has a dict; list.count of flat items -/
namespace Sea
open PySem PySem.Spec PyProof.Rows L2
/-- the caught error, seen in the heap: an instance of its class, its dict (if it has one) beside it -/
theorem held_inst {X : Cx} {pins : List (Addr × Obj)} {σ : L2.St} {H : Hp} {s : Shared} {a D : Addr} {d : Option Addr} {oe : Obj} {pn : List (Addr × Obj)} (I : Inv (X.suite a ((a, oe) :: pn)) pins σ H s) (hz : Zc (.ref D) d oe) (hf : ∃ vs, oe.data = .fields vs)
    (hd : ∀ dx, d = some dx → ∃ fs, H dx = some (.xd fs)) : ∃ od, PySem.W.InstAt s.heap a oe D od := by
  have there := (I.pin (a, oe) (by simp)).1
  have plain : PySem.W.notCls oe := by
    obtain ⟨vs, hv⟩ := hf
    rw [PySem.W.notCls, hv]
  match d, hz, hd with
  | none, hz, _ => exact ⟨none, there, hz.1, plain, by rw [hz.2]; trivial⟩
  | some dx, hz, hd =>
    obtain ⟨fs, hx⟩ := hd dx rfl
    have ⟨mA, ns, _⟩ : ObjOk X.prog X.w H s.heap dx (.xd fs) := I.hok dx _ hx
    have ⟨od, ho, _⟩ := lookIn_ns ns
    exact ⟨some od, there, hz.1, plain, by rw [hz.2]; exact ho⟩
/-- isinstance(e, c), e the exception that the suite holds, with its dict (tracked) or without; D its class -/
def rIsX (K : PySem.W.Frag) (a : Addr) (cls : Value) (d : Option Addr) : List V → Hp → VK → Prop := fun xs H Q => ∃ (D : Addr) (c : V) (cv : Value) (b : Bool), cls = .ref D ∧ ExcC K D ∧ xs = [.ref a, c] ∧ (∀ u, RelV c u → u = cv) ∧ PySem.W.kitOne K (.ref D) cv = some b ∧ (∀ dx, d = some dx → ∃ fs, H dx = some (.xd fs)) ∧ Q (.bl b) H
theorem call_isX {X : Cx} {a : Addr} {cls : Value} {d : Option Addr} {oe : Obj} {pn : List (Addr × Obj)} (K : PySem.W.Frag) (hK : X.K = K) (hz : Zc cls d oe) (hf : ∃ vs, oe.data = .fields vs) : CallR (X.suite a ((a, oe) :: pn)) (.builtin "isinstance") (rIsX K a cls d) := by
  subst hK
  rintro pins s σ H _ us Q I r ⟨D, c, cv, b, rfl, C, rfl, told, one, hd, q⟩
  obtain ⟨x, t, rfl, rx, rt⟩ : ∃ x t, us = [x, t] ∧ RelV (.ref a) x ∧ RelV c t := match us, r with
    | _, .cons rx (.cons rt .nil) => ⟨_, _, rfl, rx, rt⟩
  obtain ⟨od, inst⟩ := held_inst I hz hf hd
  have dict : (PySem.W.clsIn X.K D).isSome := by
    obtain ⟨cd, z, _⟩ := PySem.W.any_some C.hd
    rw [z]
    rfl
  have kit := PySem.W.kitx_exc (x := a) (ox := oe) (od := od) dict C.hg C.hk C.hs C.ha C.hn C.ht C.hm
  rw [show x = .ref a from rx, told t rt]
  exact PySem.W.kia_one kit I.kIn inst one nofun fun tk => ⟨.bl b, H, I.kept (t' := tk) fun _ _ z => z, rfl, q⟩
/-- xs.count(y), flat items -/
def rCntF (K : PySem.W.Frag) : V → List V → Hp → VK → Prop := fun x xs H Q => ∃ (a : Addr) (ys : List V) (y : V), x = V.ref a ∧ xs = [y] ∧ SqL K H a ys ∧ flatV y = true ∧ ys.all flatV = true ∧ Q (.int (ys.countP (fun z => eqV z y) : Nat)) H
theorem cnt_flat {y : V} : ∀ {ys : List V} {its : List Value}, Vals ys its → ys.all flatV = true → its.countP (eqU y) = ys.countP (fun z => eqV z y)
  | _, _, .nil, _ => rfl
  | _, _, .cons r rr, f => by
    rename_i v u vs us
    rw [List.all_cons, Bool.and_eq_true] at f
    rw [List.countP_cons, List.countP_cons, cnt_flat rr f.2, eqU_of r f.1]
theorem mt_countF {X : Cx} : MtR X "list.count" (rCntF X.K) := by
  rintro pins s σ H _ _ v us Q I rx rxs ⟨a, ys, y, rfl, rfl, hs, fy, fys, q⟩
  obtain rfl : v = .ref a := rx
  obtain ⟨u, rfl, ru⟩ := rxs.one
  obtain ⟨its, rv, ⟨o, n, ho, hc, _, hd⟩, _⟩ := I.list hs
  obtain ⟨cls, dd, data, sl⟩ := o
  obtain rfl : cls = _ := hc
  obtain rfl : data = _ := hd
  have many := cnt_flat (y := y) rv fys
  have law := SeqAt.list_countAt a its.toArray n dd sl u (eqU y)
  refine call_meets PySem.F.slot_list_count ⟨_, ho, rfl⟩ PySem.F.entry_list_count (PySem.F.args_list_count_2 _ _) law ⟨ho, fun z hz => mem_eqAt ru fy rv fys z (by simpa using hz), ?_⟩
  rw [List.toList_toArray, many]
  exact ⟨.int (ys.countP (fun z => eqV z y) : Nat), H, I.tok _, ⟨s.toks, rfl⟩, q⟩
end Sea

set_option Elab.async false
set_option linter.all false
set_option maxRecDepth 100000
set_option maxHeartbeats 4000000
namespace Sea
open PySem PySem.Spec PyProof.Rows L2 LamX NdefX Evl
/-! ### what a suite may ask of the caught error, whatever its class -/
/-- e.f, e the caught error: its class is told by the reading; the library's rule for that class does the rest -/
def tXf (K : PySem.W.Frag) (f : Str) (a : Addr) (cls : Value) (d : Option Addr) (te : TE) : TE := fun σ H Q => ∃ D : Addr, cls = .ref D ∧ XfC K D ∧ PySem.W.findIn K (.ref D) f = some none ∧ L2.tXf a cls d D f te σ H Q
theorem pe_xf {X : Cx} {f : Str} {a : Addr} {oe : Obj} {cls : Value} {d : Option Addr} {pn : List (Addr × Obj)} {e : Expr} {te : TE} {pos : Pos} (K : PySem.W.Frag) (hK : X.K = K) (hz : Zc cls d oe) (hf : ∃ vs, oe.data = .fields vs) (he : PE (X.suite a ((a, oe) :: pn)) e te)
    (hb : attributeBase e f X.env (eval e X.env) = eval e X.env := by rfl) : PE (X.suite a ((a, oe) :: pn)) (.Attribute e f pos) (tXf K f a cls d te) :=
  ⟨fun pins s σ H Q I ⟨_, _, T, no, h⟩ => (L2.pe_xf (hK ▸ T) (hK ▸ no) hz hf he hb).run pins s σ H Q I h⟩
/-! ### the handed thunk called, its promise weakened -/
theorem cx_le {P : Program} {w : World} {outer : List Env} {H : Hp} {s s' : Shared} {E E' : XK} {e : Value} (h : L2.CX P w outer H s E e s') (m : ∀ c d H', E c d H' → E' c d H') : L2.CX P w outer H s E' e s' := by
  obtain ⟨a, B, H', cls, d, h1, h2, h3, h4, h5, h6, h7, h8⟩ := h
  exact ⟨a, B, H', cls, d, h1, h2, h3, h4, h5, h6, h7, m _ _ _ h8⟩
section
variable {X : Cx} {i j : Nat} {x : Str} {p pos : Pos} {E : L2.St → XK}
def tActM (X : Cx) (j i : Nat) (E : L2.St → XK) : TE := fun σ H Q => ∃ (f : Addr) (tl : Hp → VK → XK → Prop) (Q' : VK) (E' : XK), σ[i]? = some (some (.ref f)) ∧ H = X.H_0 ∧ Thunk X.prog X.w X.K X.mg X.base (L2.CX X.prog X.w) j X.outer X.s_0 X.H_0 f tl ∧ tl H Q' E' ∧ (∀ v H1, Q' v H1 → Q v H1) ∧ (∀ c d H1, E' c d H1 → E σ c d H1)
theorem pe_actM (hr : Room j X.A) (hex : X.ex = []) (hx : ∀ σ, PassesAt (L2.CX X.prog X.w) X σ (E σ)) (hN : X.N[i]? = some x) (hv : Vis X.env.scope x)
    (hd : (x == ("__debug__" : Str)) = false := by decide) (hcd : (x == ("__classdict__" : Str)) = false := by decide) : PE X (.Call (.Name x p) [] [] pos) (tActM X j i E) := by
  refine ⟨fun pins s σ H Q I h => ?_⟩
  obtain ⟨f, tl, Q', E', hs, eH, hT, ht, mQ, mE⟩ := h
  have hx' : ∀ τ, PassesAt (L2.CX X.prog X.w) X τ (if τ = σ then E' else E τ) := fun τ => by
    by_cases hq : τ = σ
    · rw [if_pos hq]
      subst hq
      exact fun pins H s e s' J c => hx _ pins H s e s' J (cx_le c mE)
    · rw [if_neg hq]
      exact hx τ
  refine thn ((pe_actT (CXl := L2.CX X.prog X.w) (i := i) (p := p) (pos := pos) (E := fun τ => if τ = σ then E' else E τ) hr hex hx' hN hv hd hcd).run pins s σ H Q' I ⟨f, tl, hs, eH, hT, ?_⟩) fun u s1 hh => ?_
  · show tl H Q' (if σ = σ then E' else E σ)
    rw [if_pos rfl]
    exact ht
  · obtain ⟨v, H1, I1, r1, q1⟩ := hh
    exact ⟨v, H1, I1, r1, mQ _ _ q1⟩
end
theorem ev_isX {K : PySem.W.Frag} {a : Addr} {cls : Value} {d : Option Addr} {D : Addr} {c : V} {cv : Value} {b : Bool} {i : Nat} {σ : L2.St} {H : Hp} (h1 : cls = .ref D) (h2 : ExcC K D) (h3 : ∀ u, RelV c u → u = cv) (h4 : PySem.W.kitOne K (.ref D) cv = some b) (h5 : ∀ dx, d = some dx → ∃ fs, H dx = some (.xd fs)) (hs : σ[i]? = some (some (.ref a))) :
    Ev (tCB (rIsX K a cls d) (tCons (tVar i) (tCons (tC c) tNil))) σ H (.bl b) := fun H1 e Q q => ⟨_, hs, D, c, cv, b, h1, h2, rfl, h3, h4, fun dx hd => let ⟨fs, hx⟩ := h5 dx hd; ⟨fs, e _ _ hx⟩, q H1 (Ex.refl _)⟩
end Sea

set_option Elab.async false
set_option linter.all false
set_option maxRecDepth 100000
set_option maxHeartbeats 4000000
/-! rules with the written part K named: within a suite or a block the reading must not speak of the context -/
namespace Sea
open PySem PySem.Spec PyProof.Rows L2
section
variable {X : Cx} {T : String} {r : V → List V → Hp → VK → Prop} {e a b : Expr} {to ta tb : TE} {t : TA} {pos : Pos}
theorem pe_bmK (K : PySem.W.Frag) (hK : X.K = K) (h : PE X e (tBM X.K T r to t)) : PE X e (tBM K T r to t) := hK ▸ h
theorem pe_ixlK (K : PySem.W.Frag) (hK : X.K = K) (ha : PE X a ta) (hb : PE X b tb) (hs : PlainIx b := by exact fun _ _ => rfl) : PE X (.Subscript a b pos) (tOp (rIxL K) ta tb) := hK ▸ pe_ix ix_list ha hb hs
theorem mt_countK (K : PySem.W.Frag) (hK : X.K = K) : MtR X "list.count" (rCntF K) := hK ▸ mt_countF
theorem mt_indexK (K : PySem.W.Frag) (hK : X.K = K) : MtR X "list.index" (rIndex K) := hK ▸ mt_index
theorem op_inK (K : PySem.W.Frag) (hK : X.K = K) : OpR X (compareOp .In) (rIn K false) := hK ▸ op_in_seq
end
end Sea

set_option Elab.async false
set_option linter.all false
set_option maxRecDepth 100000
set_option maxHeartbeats 4000000
/-! what every law of this package leans on, no program in sight -/
namespace Sea
open PySem PySem.Spec PyProof.Rows L2 LamX NdefX ClX Evl StX
section
variable {X : Cx} {a b : Expr} {ta tb : TE} {pos : Pos}
theorem pe_ixl (ha : PE X a ta) (hb : PE X b tb) (hs : PlainIx b := by exact fun _ _ => rfl) : PE X (.Subscript a b pos) (tOp (rIxL X.K) ta tb) := pe_ix ix_list ha hb hs
theorem pe_ixt (ha : PE X a ta) (hb : PE X b tb) (hs : PlainIx b := by exact fun _ _ => rfl) : PE X (.Subscript a b pos) (tOp (rIxT X.K) ta tb) := pe_ix ix_tup ha hb hs
end
/-! ### draws -/
structure Dr (H : Hp) (h c : Addr) : Prop where
  ne : h ≠ c
  ex : ∃ (m k : Int) (ns : List Int), H h = some (.lst [.int m, .ref c, .int k]) ∧ H c = some (.lst (ns.map V.int)) ∧ ns.length ≤ 63
/-- all kept but h and c -/
def Kp (h c : Addr) (H H' : Hp) : Prop := ∀ b o, H b = some o → b ≠ h → b ≠ c → H' b = some o
theorem Kp.refl {h c : Addr} {H : Hp} : Kp h c H H := fun _ _ e _ _ => e
theorem Kp.trans {h c : Addr} {H H1 H2 : Hp} (a : Kp h c H H1) (b : Kp h c H1 H2) : Kp h c H H2 := fun x o e n1 n2 => b x o (a x o e n1 n2) n1 n2
theorem Kp.new {h c a : Addr} {H : Hp} {o : HO} (n : H a = none) : Kp h c H (upd H a o) := fun b o e _ _ => by
  rw [upd_ne (ne_of_none e n)]
  exact e
theorem Kp.same {h c : Addr} {H H' : Hp} (s : Same H H') : Kp h c H H' := fun b o e _ _ => s b o e
theorem Dr.same {H H' : Hp} {h c : Addr} (d : Dr H h c) (s : Same H H') : Dr H' h c := by
  obtain ⟨n, m, k, ns, e1, e2, l⟩ := d
  exact ⟨n, m, k, ns, s _ _ e1, s _ _ e2, l⟩
theorem Dr.new {H : Hp} {h c a : Addr} {o : HO} (d : Dr H h c) (n : H a = none) : Dr (upd H a o) h c := d.same fun b o e => by
  rw [upd_ne (ne_of_none e n)]
  exact e
theorem pick0 (ns : List Int) (i : Int) (h0 : 0 ≤ i) (h1 : i < (ns.length : Int) + 1) : ∃ u : Int, atI (ns.map V.int ++ [V.int 0]) i = some (.int u) := by
  obtain ⟨j, rfl⟩ := Int.eq_ofNat_of_zero_le h0
  have hj : j < (ns.map V.int ++ [V.int 0]).length := by
    rw [List.length_append, List.length_map]
    show j < ns.length + 1
    omega
  refine ⟨(ns ++ [0]).getD j 0, ?_⟩
  have e : ns.map V.int ++ [V.int 0] = (ns ++ [0]).map V.int := by rw [List.map_append]; rfl
  rw [e] at hj ⊢
  unfold atI ixN
  rw [if_pos (by omega), if_pos (by omega)]
  show ((ns ++ [0]).map V.int)[(j : Int).toNat]? = _
  rw [Int.toNat_natCast, List.getElem?_map]
  rw [List.length_map] at hj
  rw [List.getElem?_eq_getElem hj]
  rw [List.getD_eq_getElem?_getD, List.getElem?_eq_getElem hj]
  rfl
theorem pick_nil {i u : Int} (h : atI (([] : List Int).map V.int ++ [V.int 0]) i = some (.int u)) : u = 0 := by
  revert h
  unfold atI ixN
  show ((if 0 ≤ i then (if i < ((1 : Nat) : Int) then some i.toNat else none) else if -((1 : Nat) : Int) ≤ i then some (i + ((1 : Nat) : Int)).toNat else none).bind fun j => [V.int 0][j]?) = _ → _
  intro h
  split at h
  · split at h
    · have e : i.toNat = 0 := by omega
      rw [show (some i.toNat : Option Nat) = some 0 by rw [e]] at h
      cases h
      rfl
    · cases h
  · split at h
    · have e : (i + ((1 : Nat) : Int)).toNat = 0 := by omega
      rw [show (some (i + ((1 : Nat) : Int)).toNat : Option Nat) = some 0 by rw [e]] at h
      cases h
      rfl
    · cases h
theorem ixn_fmod {n : Nat} (k : Int) (h : (0 : Int) < (n : Int)) : ∃ j, ixN n (k.fmod (n : Int)) = some j := by
  refine ⟨(k.fmod (n : Int)).toNat, ?_⟩
  unfold ixN
  rw [if_pos (Int.fmod_nonneg_of_pos _ h), if_pos (Int.fmod_lt_of_pos _ h)]
def TK (K : PySem.W.Frag) (H H' : Hp) : Prop := ∀ a xs, SqT K H a xs → SqT K H' a xs
theorem TK.refl {K : PySem.W.Frag} {H : Hp} : TK K H H := fun _ _ h => h
theorem TK.trans {K : PySem.W.Frag} {H H1 H2 : Hp} (a : TK K H H1) (b : TK K H1 H2) : TK K H H2 := fun x y h => b x y (a x y h)
theorem sqT_keep {K : PySem.W.Frag} {H H' : Hp} {a : Addr} {xs : List V} (e : ∀ o, H a = some o → H' a = some o) (h : SqT K H a xs) : SqT K H' a xs := by
  rcases h with (h | ⟨o, h⟩) | h
  · exact .inl (.inl (e _ h))
  · exact .inl (.inr ⟨o, e _ h⟩)
  · exact .inr h
theorem TK.same {K : PySem.W.Frag} {H H' : Hp} (s : Same H H') : TK K H H' := fun a xs h => sqT_keep (fun o => s a o) h
theorem same_new {H : Hp} {p : Addr} {o : HO} (h : H p = none) : Same H (upd H p o) := fun b x e => by
  rw [upd_ne (ne_of_none e h)]
  exact e
theorem TK.new {K : PySem.W.Frag} {H : Hp} {a : Addr} {o : HO} (n : H a = none) : TK K H (upd H a o) := .same (same_new n)
theorem TK.but {K : PySem.W.Frag} {H H' : Hp} (D : Addr → Prop) (s : ∀ b o, H b = some o → ¬ D b → H' b = some o) (nt : ∀ b xs, D b → ¬ Rd H b (.tup xs)) : TK K H H' := fun a xs h => by
  rcases h with h | h
  · have nd : ¬ D a := fun z => nt a xs z h
    rcases h with h | ⟨o, h⟩
    · exact .inl (.inl (s _ _ h nd))
    · exact .inl (.inr ⟨o, s _ _ h nd⟩)
  · exact .inr h
theorem Rd.lst_no {H : Hp} {a : Addr} {xs ys : List V} (e : H a = some (.lst ys)) : ¬ Rd H a (.tup xs) := fun h => by
  rcases h with h | ⟨o, h⟩
  · rw [e] at h
    cases h
  · rw [e] at h
    cases h
theorem Rd.ins_no {H : Hp} {a C dx : Addr} {xs : List V} {fs : List (Str × V)} (e : H a = some (.ins C dx fs)) : ¬ Rd H a (.tup xs) := fun h => by
  rcases h with h | ⟨o, h⟩
  · rw [e] at h
    cases h
  · rw [e] at h
    cases h
theorem Dr.tk {K : PySem.W.Frag} {H H' : Hp} {h c : Addr} (d : Dr H h c) (k : Kp h c H H') : TK K H H' := by
  obtain ⟨_, m, kk, ns, e1, e2, _⟩ := d
  refine .but (fun b => b = h ∨ b = c) (fun b o e n => k b o e (fun z => n (.inl z)) (fun z => n (.inr z))) fun b xs z => ?_
  rcases z with z | z
  · rw [z]
    exact Rd.lst_no e1
  · rw [z]
    exact Rd.lst_no e2
section
variable {X : Cx} {C : Addr} {mc : Value} {x f : Str} {v : V} {p pos : Pos}
theorem pe_clc (hg : Gl X x) (hm : X.mg x = some (.ref C)) (cr : CRead X.K C mc) (cv : ∃ u, CVal X.K C mc f v u) (hd : (x == ("__debug__" : Str)) = false := by decide)
    (hb : attributeBase (.Name x p) f X.env (eval (.Name x p) X.env) = eval (.Name x p) X.env := by rfl) : PE X (.Attribute (.Name x p) f pos) (tC v) := by
  obtain ⟨u, cv⟩ := cv
  exact ⟨fun pins s σ H Q I h => (pe_cval (pe_glob (v := .ref C) hg hm rfl hd) hb).run pins s σ H Q I ⟨C, mc, v, u, rfl, cr, cv, h⟩⟩
end
theorem ev_chainI {ta tb tc : TE} {σ : L2.St} {H : Hp} {i j k : Int} {p q : Int → Int → Bool} (ha : Ev ta σ H (.int i)) (hb : Ev tb σ H (.int j)) (hc : Ev tc σ H (.int k)) :
    Ev (tChain (rI0 fun i j => .bl (p i j)) (rI0 fun i j => .bl (q i j)) ta tb tc) σ H (.bl (p i j && q j k)) := fun H1 e Q hq => ha H1 e _ fun H2 e2 => hb H2 (e.trans e2) _ fun H3 e3 => ⟨i, j, rfl, rfl, p i j, rfl, by
  cases hp : p i j with
  | true => exact iteT (hc H3 ((e.trans e2).trans e3) _ fun H4 e4 => ⟨j, k, rfl, rfl, by
      have z := hq H4 ((e2.trans e3).trans e4)
      rw [hp] at z
      exact z⟩)
  | false => exact iteF (by
      have z := hq H3 (e2.trans e3)
      rw [hp] at z
      exact z)⟩
/-- a loop of n rounds: what each round finds and leaves, and what stands when the source is dry -/
theorem for_rounds {I : It} {g : TG} {tb : TS} {D : Ends} {σ : L2.St} {H : Hp} (n : Nat) (Pv : Nat → L2.St → Hp → Prop) (start : Pv 0 σ H)
    (round : ∀ i σ H, i < n → Pv i σ H → I.go i H ∧ ∀ x H', I.yld i H x H' → g x σ H' fun σ2 H2 => tb { D with nx := Pv (i + 1), ct := Pv (i + 1), bk := D.nx } σ2 H2)
    (dry : ∀ σ H, Pv n σ H → I.stop n H ∧ D.nx σ H) :
    ∃ W : Nat → Nat → L2.St → Hp → Prop, (∃ m, W 0 m σ H) ∧ ∀ i m σ H, W i m σ H →
      (I.stop i H ∧ D.nx σ H) ∨ (I.go i H ∧ ∃ N : L2.St → Hp → Prop, (∀ σ' H', N σ' H' → ∃ m', m' < m ∧ W (i + 1) m' σ' H') ∧ ∀ x H', I.yld i H x H' → g x σ H' fun σ2 H2 => tb { D with nx := N, ct := N, bk := D.nx } σ2 H2) := by
  let W : Nat → Nat → L2.St → Hp → Prop := fun i m σ H => m + i = n ∧ Pv i σ H
  have more : ∀ i m σ H, W i (m + 1) σ H → (I.go i H ∧ ∃ N : L2.St → Hp → Prop, (∀ σ' H', N σ' H' → ∃ m', m' < m + 1 ∧ W (i + 1) m' σ' H') ∧ ∀ x H', I.yld i H x H' → g x σ H' fun σ2 H2 => tb { D with nx := N, ct := N, bk := D.nx } σ2 H2) := by
    rintro i m σ H ⟨e, p⟩
    have ⟨go, each⟩ := round i σ H (by omega) p
    exact ⟨go, Pv (i + 1), fun _ _ z => ⟨m, Nat.lt_succ_self m, by omega, z⟩, each⟩
  have last : ∀ i σ H, W i 0 σ H → I.stop i H ∧ D.nx σ H := by
    rintro i σ H ⟨e, p⟩
    rw [Nat.zero_add] at e
    exact e ▸ dry σ H (e ▸ p)
  exact ⟨W, ⟨n, rfl, start⟩, fun i m σ H w => match m, w with
    | 0, w => .inl (last i σ H w)
    | m + 1, w => .inr (more i m σ H w)⟩
section
variable {K : PySem.W.Frag}
theorem mk1_in {H1 : Hp} {Q : XK} {f : Str} {y : V} {c : Addr} (T : OexC K c) (n : PySem.W.findIn K (.ref c) f = some none) (h : ∀ d, H1 d = none → Q (.ref c) (some d) (upd H1 d (.xd [(f, y)]))) :
    [y].length = 1 ∧ ∀ a, H1 a = none → spX1 K f ([.ref a] ++ [y]) (upd H1 a (exo a c none)) (fun v H2 => v = .non ∧ ∃ (d : Addr) (fs : List (Str × V)), H2 a = some (exo a c (some d)) ∧ H2 d = some (exd d fs) ∧ H1 d = none ∧ Q (.ref c) (some d) (upd (del H2 a) d (.xd fs))) (fun _ _ _ => False) := by
  refine ⟨rfl, fun a ha => ⟨a, c, y, rfl, T, n, upd_same, fun dx h1 h2 => ?_⟩⟩
  rw [upd_ne h2] at h1
  refine ⟨rfl, dx, _, upd_same, by rw [upd_ne h2, upd_same], h1, ?_⟩
  have e : upd (del (upd (upd (upd H1 a (exo a c none)) dx (exd dx [(f, y)])) a (exo a c (some dx))) a) dx (.xd [(f, y)]) = upd H1 dx (.xd [(f, y)]) := by
    funext b
    by_cases hb : b = dx
    · subst hb
      rw [upd_same, upd_same]
    · rw [upd_ne hb, upd_ne hb]
      by_cases hba : b = a
      · subst hba
        rw [del_same, ha]
      · rw [del_ne hba, upd_ne hba, upd_ne hb, upd_ne hba]
  rw [e]
  exact h dx h1
end
theorem take_snoc {α : Type} {L : List α} {i : Nat} {x : α} (h : L[i]? = some x) : L.take (i + 1) = L.take i ++ [x] := by
  rw [List.take_add_one, h]
  rfl
def EvD (te : TE) (σ : L2.St) (H : Hp) (P : V → Hp → Prop) : Prop := ∀ H1, Ex H H1 → ∀ Q : VK, (∀ v H2, Ex H1 H2 → P v H2 → Q v H2) → te σ H1 Q
theorem EvD.mono {te : TE} {σ : L2.St} {H H' : Hp} {P : V → Hp → Prop} (e : Ex H H') (h : EvD te σ H P) : EvD te σ H' P := fun H1 a Q q => h H1 (e.trans a) Q q
theorem ed_of {te : TE} {σ : L2.St} {H : Hp} {v : V} {P : V → Hp → Prop} (h : Ev te σ H v) (hp : ∀ H2, Ex H H2 → P v H2) : EvD te σ H P := fun H1 e Q q => h H1 e _ fun H2 e2 => q v H2 e2 (hp H2 (e.trans e2))
def cutP {α : Type} (xs : List α) (lo hi : Option Int) : List α := (xs.drop (HT.sIx xs.length 0 lo)).take (HT.sIx xs.length xs.length hi - HT.sIx xs.length 0 lo)
theorem cutP_all {α : Type} (xs : List α) (lo hi : Option Int) (h : HT.sIx xs.length 0 lo = 0 ∧ HT.sIx xs.length xs.length hi = xs.length) : cutP xs lo hi = xs := by
  unfold cutP
  rw [h.1, h.2, List.drop_zero, Nat.sub_zero, List.take_length]
theorem cutP_to {α : Type} (xs : List α) (k : Nat) : cutP xs none (some ((k : Nat) : Int)) = xs.take k := by
  unfold cutP
  rw [HT.sIx_none, HT.sIx_nat, List.drop_zero, Nat.sub_zero]
  by_cases h : k ≤ xs.length
  · rw [Nat.min_eq_left h]
  · rw [Nat.min_eq_right (by omega), List.take_of_length_le (Nat.le_refl _), List.take_of_length_le (by omega)]
theorem cutP_from {α : Type} (xs : List α) (k : Nat) : cutP xs (some ((k : Nat) : Int)) none = xs.drop k := by
  unfold cutP
  rw [HT.sIx_none, HT.sIx_nat]
  by_cases h : k ≤ xs.length
  · rw [Nat.min_eq_left h, List.take_of_length_le (by rw [List.length_drop]; exact Nat.le_refl _)]
  · rw [Nat.min_eq_right (by omega), Nat.sub_self, List.take_zero, List.drop_eq_nil_of_le (by omega)]
section
variable {te : TE} {σ : L2.St} {H : Hp}
theorem q_asgD {tz : TS} {D : Ends} {i : Nat} {P : V → Hp → Prop} (h : EvD te σ H P) (k : ∀ v H1, Ex H H1 → P v H1 → tz D (σ.set i (some v)) H1) : tSeq (tAsg te (gName i)) tz D σ H := h H (Ex.refl H) _ fun v H1 e p => k v H1 e p
theorem s_retD {D : Ends} {P : V → Hp → Prop} (h : EvD te σ H P) (k : ∀ v H1, Ex H H1 → P v H1 → D.rt v H1) : tRet te D σ H := h H (Ex.refl H) _ k
end
theorem pe_ixtK {X : Cx} {a b : Expr} {ta tb : TE} {pos : Pos} (K : PySem.W.Frag) (hK : X.K = K) (ha : PE X a ta) (hb : PE X b tb) (hs : PlainIx b := by exact fun _ _ => rfl) : PE X (.Subscript a b pos) (tOp (rIxT K) ta tb) := by
  subst hK
  exact pe_ix ix_tup ha hb hs
theorem rv_eqD {K : PySem.W.Frag} {x y : V} {H : Hp} {d e : PyData} (h1 : ∀ H1, Ex H H1 → Dp K H1 x d) (h2 : ∀ H1, Ex H H1 → Dp K H1 y e) (s1 : SeqAt.shaped d = true) (s2 : SeqAt.shaped e = true) : RV (rEqD K) x y H (.bl (PyData.eqv d e)) := fun H1 a Q q => ⟨d, e, h1 H1 a, h2 H1 a, s1, s2, q H1 (Ex.refl _)⟩
theorem rv_neD {K : PySem.W.Frag} {x y : V} {H : Hp} {d e : PyData} (h1 : ∀ H1, Ex H H1 → Dp K H1 x d) (h2 : ∀ H1, Ex H H1 → Dp K H1 y e) (s1 : SeqAt.shaped d = true) (s2 : SeqAt.shaped e = true) : RV (rNeD K) x y H (.bl (!PyData.eqv d e)) := fun H1 a Q q => ⟨d, e, h1 H1 a, h2 H1 a, s1, s2, q H1 (Ex.refl _)⟩
theorem intsDp {K : PySem.W.Frag} {H : Hp} : ∀ ns : List Int, DpAll K H (ns.map V.int) (ns.map PyData.int)
  | [] => .nil
  | n :: r => .cons (.int n) (intsDp r)
theorem ints_lay : ∀ ns : List Int, PyData.canLayAll0 (ns.map PyData.int) = true
  | [] => rfl
  | n :: r => by
    show (true && PyData.canLayAll0 (r.map PyData.int)) = true
    rw [ints_lay r]
    rfl
theorem ints_dep : ∀ ns : List Int, PyData.depthAll (ns.map PyData.int) = 0
  | [] => rfl
  | n :: r => by
    show max 0 (PyData.depthAll (r.map PyData.int)) = 0
    rw [ints_dep r]
    rfl
theorem ints_sh (ns : List Int) : SeqAt.shaped (.list (ns.map PyData.int)) = true := by
  show (PyData.canLayAll0 (ns.map PyData.int) && decide (PyData.depthAll (ns.map PyData.int) + 1 ≤ 64)) = true
  rw [ints_lay, ints_dep]
  rfl
theorem pick3 (a b c v : Int) (h0 : 0 ≤ v) (h1 : v < 3) : ∃ w, atI [V.int a, V.int b, V.int c] v = some (.int w) ∧ (w = a ∨ w = b ∨ w = c) := by
  rcases (show v = 0 ∨ v = 1 ∨ v = 2 by omega) with rfl | rfl | rfl
  · exact ⟨a, rfl, .inl rfl⟩
  · exact ⟨b, rfl, .inr (.inl rfl)⟩
  · exact ⟨c, rfl, .inr (.inr rfl)⟩
theorem s_retIf {t : TT} {ta tb : TE} {D : Ends} {σ : L2.St} {H : Hp} {b : Bool} (h : EvT t σ H b) (h1 : b = true → ∀ H1, Ex H H1 → tRet ta D σ H1) (h2 : b = false → ∀ H1, Ex H H1 → tRet tb D σ H1) : tRet (tIf t ta tb) D σ H := h H (Ex.refl _) _ fun H1 e => by
  cases b with
  | true => exact iteT (h1 rfl H1 e)
  | false => exact iteF (h2 rfl H1 e)
theorem ev_lenT {K : PySem.W.Frag} {σ : L2.St} {H : Hp} {i : Nat} {p : Addr} {xs : List V} (hs : σ[i]? = some (some (.ref p))) (h : SqT K H p xs) : Ev (tCB (fun xs H Q => ∃ p ys, xs = [V.ref p] ∧ (SqL K H p ys ∨ SqT K H p ys) ∧ Q (.int ys.length) H) (tCons (tVar i) tNil)) σ H (.int (xs.length : Int)) := fun H1 e Q q =>
  ⟨_, hs, p, xs, rfl, .inr ((TK.same e) _ _ h), q H1 (Ex.refl _)⟩
theorem ev_cnt {K : PySem.W.Frag} {σ : L2.St} {H : Hp} {i : Nat} {D : Addr} {ys : List V} (hs : σ[i]? = some (some (.ref D))) (h : H D = some (.lst ys)) (hf : ys.all flatV = true) :
    Ev (tBM K "list" (rCntF K) (tVar i) (tCons (tC (.bl true)) tNil)) σ H (.int (ys.countP (fun z => eqV z (.bl true)) : Nat)) := fun H' e Q q => ⟨_, hs, .inl ⟨rfl, _, SqL.of (e _ _ h)⟩, D, ys, .bl true, rfl, rfl, SqL.of (e _ _ h), rfl, hf, q H' (Ex.refl _)⟩
theorem ev_idx {K : PySem.W.Frag} {σ : L2.St} {H : Hp} {i j : Nat} {D : Addr} {ys : List V} {z : V} (hs : σ[i]? = some (some (.ref D))) (h : H D = some (.lst ys)) (hf : ys.all flatV = true) (hz : ys[j]? = some z) (hq : eqV z (.bl true) = true) (ha : ∀ (m : Nat) (z' : V), m < j → ys[m]? = some z' → eqV z' (.bl true) = false) :
    Ev (tBM K "list" (rIndex K) (tVar i) (tCons (tC (.bl true)) tNil)) σ H (.int (j : Nat)) := fun H' e Q q => ⟨_, hs, .inl ⟨rfl, _, SqL.of (e _ _ h)⟩, D, ys, .bl true, j, z, rfl, rfl, SqL.of (e _ _ h), rfl, hf, hz, hq, ha, q H' (Ex.refl _)⟩
theorem pe_ixsK {X : Cx} {a b : Expr} {ta tb : TE} {pos : Pos} (K : PySem.W.Frag) (hK : X.K = K) (ha : PE X a ta) (hb : PE X b tb) (hs : PlainIx b := by exact fun _ _ => rfl) : PE X (.Subscript a b pos) (tOp (rIx K) ta tb) := by
  subst hK
  exact pe_ix ix_seq ha hb hs
mutual
theorem dp_ex {K : PySem.W.Frag} {H H' : Hp} (e : Ex H H') : ∀ {v : V} {d : PyData}, Dp K H v d → Dp K H' v d
  | _, _, .non => .non
  | _, _, .bl b => .bl b
  | _, _, .int i => .int i
  | _, _, .str x => .str x
  | _, _, .lst h a => .lst (ex_l e h) (dps_ex e a)
  | _, _, .tup h a => .tup (ex_t e h) (dps_ex e a)
theorem dps_ex {K : PySem.W.Frag} {H H' : Hp} (e : Ex H H') : ∀ {vs : List V} {ds : List PyData}, DpAll K H vs ds → DpAll K H' vs ds
  | _, _, .nil => .nil
  | _, _, .cons a b => .cons (dp_ex e a) (dps_ex e b)
end
theorem dps_len {K : PySem.W.Frag} {H : Hp} : ∀ {vs : List V} {ds : List PyData}, DpAll K H vs ds → vs.length = ds.length
  | _, _, .nil => rfl
  | _, _, .cons _ b => by rw [List.length_cons, List.length_cons, dps_len b]
theorem dps_get {K : PySem.W.Frag} {H : Hp} : ∀ {vs : List V} {ds : List PyData}, DpAll K H vs ds → ∀ {i : Nat}, i < ds.length → ∃ v d, vs[i]? = some v ∧ ds[i]? = some d ∧ Dp K H v d
  | _, _, .nil, i, hi => absurd hi (Nat.not_lt_zero _)
  | _, _, .cons (v := v) (d := d) a b, 0, _ => ⟨v, d, rfl, rfl, a⟩
  | _, _, .cons a b, i + 1, hi => by simpa using dps_get b (i := i) (by simpa using hi)
/-- whole numbers in lists and tuples -/
inductive IntD : Nat → PyData → Prop
  | int (n : Nat) (i : Int) : IntD n (.int i)
  | bool (n : Nat) (b : Bool) : IntD n (.bool b)
  | lst {n : Nat} {ds : List PyData} (h : ∀ (i : Nat) (d : PyData), ds[i]? = some d → IntD n d) (hl : ds.length ≤ 1000) : IntD (n + 1) (.list ds)
  | tup {n : Nat} {ds : List PyData} (h : ∀ (i : Nat) (d : PyData), ds[i]? = some d → IntD n d) (hl : ds.length ≤ 1000) : IntD (n + 1) (.tuple ds)
/-- equal data are alike -/
def spAl (K : PySem.W.Frag) (n : Nat) : Sp := fun vs H Q _ => ∃ (m : Nat) (x y : V) (d : PyData), m < n ∧ vs = [x, y] ∧ Dp K H x d ∧ Dp K H y d ∧ IntD m d ∧ ∀ H', Same H H' → Q (.bl true) H'
theorem ev_isi {K : PySem.W.Frag} {σ : L2.St} {H : Hp} {i : Nat} {x : V} {t : Value} {n : String} {b : Bool} (hs : σ[i]? = some (some x)) (ty : ∀ H1, Ex H H1 → TyX K H1 x t) (h : PySem.W.kitOne K t (.type n) = some b) : Ev (tCB (rIsi K) (tCons (tVar i) (tCons (tC (.ty n)) tNil))) σ H (.bl b) :=
  fun H1 e Q q => ⟨_, hs, x, .ty n, t, .type n, b, rfl, .ty n, ty H1 e, h, q H1 (Ex.refl _)⟩
theorem ev_isiT {K : PySem.W.Frag} {σ : L2.St} {H : Hp} {i : Nat} {x : V} {t : Value} {b : Bool} (hs : σ[i]? = some (some x)) (ty : ∀ H1, Ex H H1 → TyX K H1 x t) (h : PySem.W.kitAny K t [.type "tuple", .type "list"] = some b) :
    Ev (tCB (rIsiT K) (tCons (tVar i) (tCons (tTup (tCons (tC (.ty "tuple")) (tCons (tC (.ty "list")) tNil))) tNil))) σ H (.bl b) :=
  fun H1 e Q q => ⟨_, hs, Nat.le_of_lt (small1000 (show 2 ≤ 1000 by decide)), fun p np => ⟨x, p, _, t, _, b, rfl, upd_same, .cons (.ty _) (.cons (.ty _) .nil), ty _ (e.trans (Ex.new np)), h, q _ (Ex.new np)⟩⟩
theorem tyx_lst {K : PySem.W.Frag} {H : Hp} {a : Addr} {xs : List V} (h : SqL K H a xs) : TyX K H (.ref a) (.type "list") := by
  rcases h with (h | ⟨o, h⟩) | ⟨o, its, n, hk, hc, _⟩
  · exact .base (.lst h)
  · exact .base (.frz h)
  · exact .kList hk hc
theorem tyx_tup {K : PySem.W.Frag} {H : Hp} {a : Addr} {xs : List V} (h : SqT K H a xs) : TyX K H (.ref a) (.type "tuple") := by
  rcases h with (h | ⟨o, h⟩) | ⟨o, its, n, hk, hc, _⟩
  · exact .base (.tup h)
  · exact .fTuple h
  · exact .kTuple hk hc
theorem ka_list {K : PySem.W.Frag} : PySem.W.kitAny K (.type "list") [.type "tuple", .type "list"] = some true := kitAny_cons (b := false) (kit_ty (by decide +kernel)) (fun _ => kitAny_cons (b := true) (kit_ty (by decide +kernel)) (fun z => by cases z) fun _ => rfl) (fun z => by cases z)
theorem ka_tuple {K : PySem.W.Frag} : PySem.W.kitAny K (.type "tuple") [.type "tuple", .type "list"] = some true := kitAny_cons (b := true) (kit_ty (by decide +kernel)) (fun z => by cases z) fun _ => rfl
theorem ka_int {K : PySem.W.Frag} : PySem.W.kitAny K (.type "int") [.type "tuple", .type "list"] = some false := kitAny_cons (b := false) (kit_ty (by decide +kernel)) (fun _ => kitAny_cons (b := false) (kit_ty (by decide +kernel)) (fun _ => rfl) (fun z => by cases z)) (fun z => by cases z)
theorem ka_bool {K : PySem.W.Frag} : PySem.W.kitAny K (.type "bool") [.type "tuple", .type "list"] = some false := kitAny_cons (b := false) (kit_ty (by decide +kernel)) (fun _ => kitAny_cons (b := false) (kit_ty (by decide +kernel)) (fun _ => rfl) (fun z => by cases z)) (fun z => by cases z)
theorem ev_lenS {K : PySem.W.Frag} {σ : L2.St} {H : Hp} {i : Nat} {p : Addr} {xs : List V} (hs : σ[i]? = some (some (.ref p))) (h : SqL K H p xs ∨ SqT K H p xs) : Ev (tCB (fun xs H Q => ∃ p ys, xs = [V.ref p] ∧ (SqL K H p ys ∨ SqT K H p ys) ∧ Q (.int ys.length) H) (tCons (tVar i) tNil)) σ H (.int (xs.length : Int)) := fun H1 e Q q =>
  ⟨_, hs, p, xs, rfl, h.elim (fun h => .inl (ex_l e h)) (fun h => .inr (ex_t e h)), q H1 (Ex.refl _)⟩
theorem given_none (n : Nat) (v : Nat → V) : given n (fun _ => false) v = [] := by
  unfold given
  simp
theorem at_nat {α : Type} {xs : List α} {i : Nat} {v : α} (hi : i < xs.length) (h : xs[i]? = some v) : atI xs ((i : Nat) : Int) = some v := by
  unfold atI
  rw [ixN_nat hi]
  exact h
def noE : Expr := .Constant .none 0 ⟨0, 0, 0, 0⟩
def noS : Stmt := .Pass ⟨0, 0, 0, 0⟩
def forB : Stmt → List Stmt
  | .For _ _ b _ _ => b
  | _ => []
def ifB : Stmt → List Stmt
  | .If _ b _ _ => b
  | _ => []
def ifC : Stmt → Expr
  | .If c _ _ _ => c
  | _ => noE
def asgE : Stmt → Expr
  | .Assign _ e _ => e
  | .Expr e _ => e
  | _ => noE
def callA : Expr → Expr
  | .Call _ (a :: _) _ _ => a
  | _ => noE
def lisI (i : Nat) : Expr → Expr
  | .List es _ => es.getD i noE
  | _ => noE
def cmpL : Expr → Expr
  | .Compare l _ _ _ => l
  | _ => noE
def lamP : Expr → Arguments
  | .Lambda p _ _ _ => p
  | _ => ⟨[], [], none, [], [], none, []⟩
def lamB : Expr → Expr
  | .Lambda _ b _ _ => b
  | _ => noE
def lamS : Expr → Scope
  | .Lambda _ _ s _ => s
  | _ => ⟨.function, [], false, false, []⟩
def NoLI (o : HO) : Prop := (∀ xs, o ≠ .lst xs) ∧ ∀ C dx fs, o ≠ .ins C dx fs
theorem tabs_but {T : List (Addr × Str)} {H H' : Hp} (hT : Tabs T H) (k : ∀ b o, H b = some o → NoLI o → H' b = some o) : Tabs T H' := fun p hp => by
  obtain ⟨ps, h1, h2, h3⟩ := hT p hp
  refine ⟨ps, k _ _ h1 ⟨fun xs z => (by cases z), fun C dx fs z => (by cases z)⟩, h2, fun pos cv hc => ?_⟩
  obtain ⟨c, e1, e2⟩ := h3 pos cv hc
  exact ⟨c, e1, k _ _ e2 ⟨fun xs z => (by unfold CodeO at z; cases z), fun C dx fs z => (by unfold CodeO at z; cases z)⟩⟩
theorem tabs_same {T : List (Addr × Str)} {H H' : Hp} (hT : Tabs T H) (s : Same H H') : Tabs T H' := tabs_but hT fun b o e _ => s b o e
theorem tabs_kp {T : List (Addr × Str)} {H H' : Hp} {h c : Addr} (hT : Tabs T H) (d : Dr H h c) (k : Kp h c H H') : Tabs T H' := by
  obtain ⟨_, m, kk, ns, e1, e2, _⟩ := d
  refine tabs_but hT fun b o e n => k b o e (fun z => ?_) (fun z => ?_)
  · rw [z, e1] at e
    cases e
    exact n.1 _ rfl
  · rw [z, e2] at e
    cases e
    exact n.1 _ rfl
theorem Dr.extN {H H' : Hp} {h c : Addr} (d : Dr H h c) (s : ExtN H H') : Dr H' h c := by
  obtain ⟨n, m, k, ns, e1, e2, l⟩ := d
  exact ⟨n, m, k, ns, s _ _ e1 (fun ps z => (by cases z)), s _ _ e2 (fun ps z => (by cases z)), l⟩
theorem TK.extN {K : PySem.W.Frag} {H H' : Hp} (s : ExtN H H') : TK K H H' := fun a xs h => by
  rcases h with (h | ⟨o, h⟩) | h
  · exact .inl (.inl (s _ _ h fun ps z => by cases z))
  · exact .inl (.inr ⟨o, s _ _ h fun ps z => by cases z⟩)
  · exact .inr h
theorem Dr.nh {H : Hp} {h c b : Addr} (d : Dr H h c) (n : H b = none) : b ≠ h ∧ b ≠ c := by
  obtain ⟨_, m, kk, ns, e1, e2, _⟩ := d
  refine ⟨fun z => ?_, fun z => ?_⟩
  · rw [z, e1] at n
    cases n
  · rw [z, e2] at n
    cases n
def tI (i : Int) : TE := tC (.int i)
def tP (a b : TE) : TE := tTup (tCons a (tCons b tNil))
def rPw : R2 := rI CPow fun i j => .int (i ^ j.toNat)
def rAd : R2 := rI0 fun i j => .int (i + j)
def tMn (a : TE) : TE := tUn (rU fun i => .int (-i)) a
theorem ev_tI {σ : L2.St} {H : Hp} {i : Int} : Ev (tI i) σ H (.int i) := ev_c
theorem ev_pw {σ : L2.St} {H : Hp} {a b : TE} {i j : Int} (ha : Ev a σ H (.int i)) (hb : Ev b σ H (.int j)) (h : CPow i j) : Ev (tOp rPw a b) σ H (.int (i ^ j.toNat)) := ev_op ha hb (rv_I h)
theorem ev_ad {σ : L2.St} {H : Hp} {a b : TE} {i j : Int} (ha : Ev a σ H (.int i)) (hb : Ev b σ H (.int j)) : Ev (tOp rAd a b) σ H (.int (i + j)) := ev_op ha hb rv_I0
theorem ev_mn {σ : L2.St} {H : Hp} {a : TE} {i : Int} (ha : Ev a σ H (.int i)) : Ev (tMn a) σ H (.int (-i)) := ev_un ha ru_neg
theorem eu_ifT {t : TT} {ta tb : TE} {σ : L2.St} {H : Hp} {xs : List V} (h : EvT t σ H true) (h1 : EvU ta σ H xs) : EvU (tIf t ta tb) σ H xs := fun H1 e Q q => h H1 e _ fun H2 e2 => iteT (h1 H2 (e.trans e2) _ fun p H3 np e3 hp => q p H3 (fresh_back e2 np) (e2.trans e3) hp)
theorem eu_ifF {t : TT} {ta tb : TE} {σ : L2.St} {H : Hp} {xs : List V} (h : EvT t σ H false) (h1 : EvU tb σ H xs) : EvU (tIf t ta tb) σ H xs := fun H1 e Q q => h H1 e _ fun H2 e2 => iteF (h1 H2 (e.trans e2) _ fun p H3 np e3 hp => q p H3 (fresh_back e2 np) (e2.trans e3) hp)
theorem et_isN {σ : L2.St} {H : Hp} {i : Nat} {v : V} (hs : σ[i]? = some (some v)) : EvT (tTest (tOp (fun x y H Q => y = .non ∧ Q (.bl (decide (x = .non))) H) (tVar i) (tC .non))) σ H (decide (v = .non)) :=
  et_test (ev_op (ev_var hs) ev_c (fun H3 _ Q3 q3 => ⟨rfl, q3 H3 (Ex.refl _)⟩))
theorem eqv_self (d : PyData) (h : SeqAt.shaped d = true) : PyData.eqv d d = true := SeqAt.eqv_refl d (SeqAt.canLay_of_shaped h)
/-! ### expressions that give data, all kept -/
def EvDp (K : PySem.W.Frag) (te : TE) (σ : L2.St) (H : Hp) (d : PyData) : Prop := EvD te σ H fun v H => Dp K H v d
def EvDpA (K : PySem.W.Frag) (ta : TA) (σ : L2.St) (H : Hp) (ds : List PyData) : Prop := ∀ H1, Ex H H1 → ∀ Q : List V → Hp → Prop, (∀ vs H2, Ex H1 H2 → DpAll K H2 vs ds → Q vs H2) → ta σ H1 Q
section
variable {K : PySem.W.Frag} {te tb tx : TE} {ta tr : TA} {σ : L2.St} {H : Hp} {d e : PyData} {ds : List PyData}
theorem edp_ev {v : V} (h : Ev te σ H v) (hd : ∀ H2, Ex H H2 → Dp K H2 v d) : EvDp K te σ H d := ed_of h hd
theorem edp_int {i : Int} (h : Ev te σ H (.int i)) : EvDp K te σ H (.int i) := edp_ev h fun _ _ => .int i
theorem edp_str {x : Str} : EvDp K (tC (.str x)) σ H (.str x) := edp_ev ev_c fun _ _ => .str x
theorem eda_nil : EvDpA K tNil σ H [] := fun H1 _ Q q => q [] H1 (Ex.refl _) .nil
theorem eda_cons (h : EvDp K tx σ H d) (hr : EvDpA K tr σ H ds) : EvDpA K (tCons tx tr) σ H (d :: ds) := fun H1 e Q q =>
  h H1 e _ fun v H2 e2 hv => hr H2 (e.trans e2) _ fun vs H3 e3 hvs => q _ _ (e2.trans e3) (.cons (dp_ex e3 hv) hvs)
theorem edp_lst (h : EvDpA K ta σ H ds) (hl : ds.length ≤ 1000) : EvDp K (tLst ta) σ H (.list ds) := fun H1 e Q q => h H1 e _ fun vs H2 e2 hvs => ⟨Nat.le_of_lt (small1000 (by rw [dps_len hvs]; exact hl)), fun p np => q _ _ (e2.trans (Ex.new np)) (.lst (.of upd_same) (dps_ex (Ex.new np) hvs))⟩
theorem edp_tup (h : EvDpA K ta σ H ds) (hl : ds.length ≤ 1000) : EvDp K (tTup ta) σ H (.tuple ds) := fun H1 e Q q => h H1 e _ fun vs H2 e2 hvs => ⟨Nat.le_of_lt (small1000 (by rw [dps_len hvs]; exact hl)), fun p np => q _ _ (e2.trans (Ex.new np)) (.tup (.of upd_same) (dps_ex (Ex.new np) hvs))⟩
theorem et_neD (h1 : EvDp K te σ H d) (h2 : EvDp K tb σ H e) (s1 : SeqAt.shaped d = true) (s2 : SeqAt.shaped e = true) : EvT (tTest (tOp (rNeD K) te tb)) σ H (!PyData.eqv d e) := fun H1 a Q q =>
  h1 H1 a _ fun v H2 e2 hv => h2 H2 (a.trans e2) _ fun u H3 e3 hu => ⟨d, e, dp_ex e3 hv, hu, s1, s2, _, rfl, q H3 (e2.trans e3)⟩
theorem et_same (h1 : EvDp K te σ H d) (h2 : EvDp K tb σ H d) (s1 : SeqAt.shaped d = true) : EvT (tTest (tOp (rNeD K) te tb)) σ H false := et_is (et_neD h1 h2 s1 s1) (by rw [eqv_self d s1]; rfl)
end
theorem et_al {K : PySem.W.Frag} {ta : TA} {σ : L2.St} {H : Hp} {d : PyData} (hA : EvDpA K ta σ H [d, d]) (hd : IntD 3 d) : EvT (tNot (tB (tCall (spAl K 4) [] E0 ta))) σ H false := fun H1 e Q q =>
  hA H1 e (fun vs H2 => spAl K 4 (vs ++ []) H2 (fun x H3 => ∃ c, x = .bl c ∧ Q (!c) H3) E0) fun vs H2 e2 hvs => by
    cases hvs with
    | cons h1 hr =>
      cases hr with
      | cons h2 hr2 =>
        cases hr2
        exact ⟨3, _, _, d, by decide, rfl, h1, h2, hd, fun H5 s5 => ⟨true, rfl, q H5 (e2.trans s5)⟩⟩
theorem pick2 (a b v : Int) (h0 : 0 ≤ v) (h1 : v < 2) : ∃ w, atI [V.int a, V.int b] v = some (.int w) ∧ (w = a ∨ w = b) := by
  rcases (show v = 0 ∨ v = 1 by omega) with rfl | rfl
  · exact ⟨a, rfl, .inl rfl⟩
  · exact ⟨b, rfl, .inr rfl⟩
theorem ev_eqD {K : PySem.W.Frag} {te tb : TE} {σ : L2.St} {H : Hp} {d : PyData} (h1 : EvDp K te σ H d) (h2 : EvDp K tb σ H d) (s1 : SeqAt.shaped d = true) : Ev (tOp (rEqD K) te tb) σ H (.bl true) := fun H1 a Q q =>
  h1 H1 a _ fun v H2 e2 hv => h2 H2 (a.trans e2) _ fun u H3 e3 hu => ⟨d, d, dp_ex e3 hv, hu, s1, s1, by
    rw [eqv_self d s1]
    exact q H3 (e2.trans e3)⟩
theorem lam_ne {f : Addr} {F : LF} : ∀ ps, LamO f F ≠ .tbl ps := Stands.no_tbl
theorem code_ne {c : Addr} {q : Str} : ∀ ps, CodeO c q ≠ .tbl ps := fun ps z => by
  unfold CodeO at z
  cases z
theorem at_int {α : Type} {xs : List α} {i : Nat} (hi : i < xs.length) : atI xs ((i : Nat) : Int) = some xs[i] := at_nat hi (List.getElem?_eq_getElem hi)
end Sea

set_option Elab.async false
set_option linter.all false
set_option maxRecDepth 100000
set_option maxHeartbeats 4000000
/-! several except clauses, each with a name for the error or without one -/
namespace Sea
open PySem PySem.Spec PyProof.Rows L2
/-- a clause: its class, the slot of its name (if it has one), its suite -/
structure Cla where
  c : Value
  slot : Option Nat
  ts : Addr → Value → Option Addr → TS
def namd (o : Option Nat) (v : Option V) (σ : L2.St) : L2.St := match o with
  | none => σ
  | some i => σ.set i v
/-- behind the suite the name is gone -/
def past (D : Ends) (o : Option Nat) : Ends := { nx := fun σ H => D.nx (namd o none σ) H, rt := D.rt, bk := fun σ H => D.bk (namd o none σ) H, ct := fun σ H => D.ct (namd o none σ) H }
/-- what clauses, tried in turn, wish of the error that the body lets out -/
def wCla (K : PySem.W.Frag) (Wout : WX) (D : Ends) : List Cla → WX
  | [] => Wout
  | x :: r => fun cls d σ H => ∃ b, PySem.W.exmOne K cls x.c = some b ∧ match b with
    | true => ∀ a, H a = none → x.ts a cls d (past D x.slot) (namd x.slot (some (.ref a)) σ) H
    | false => wCla K Wout D r cls d σ H
inductive ClaOk (X : Cx) : ExceptHandler → Cla → Prop
  | bare {x : Str} {c : Value} {ts : Addr → Value → Option Addr → TS} {b₀ : Stmt} {suite : List Stmt} {np pos : Pos} (hc : Names X x c)
      (hsu : ∀ (a : Addr) (oe : Obj) (cls : Value) (d : Option Addr) (pn : List (Addr × Obj)), Zc cls d oe → (∃ vs, oe.data = .fields vs) → PSs (X.suite a ((a, oe) :: pn)) (b₀ :: suite) (ts a cls d)) :
      ClaOk X (.ExceptHandler (some (.Name x np)) none (b₀ :: suite) pos) ⟨c, none, ts⟩
  | named {x n : Str} {i : Nat} {c : Value} {ts : Addr → Value → Option Addr → TS} {b₀ : Stmt} {suite : List Stmt} {np pos : Pos} (hN : X.N.Nodup) (hi : X.N[i]? = some n) (hl : X.env.kindOf n = some .local) (hc : Names X x c)
      (hsu : ∀ (a : Addr) (oe : Obj) (cls : Value) (d : Option Addr) (pn : List (Addr × Obj)), Zc cls d oe → (∃ vs, oe.data = .fields vs) → PSs (X.suite a ((a, oe) :: pn)) (b₀ :: suite) (ts a cls d)) :
      ClaOk X (.ExceptHandler (some (.Name x np)) (some n) (b₀ :: suite) pos) ⟨c, some i, ts⟩
inductive ClasOk (X : Cx) : List ExceptHandler → List Cla → Prop
  | nil : ClasOk X [] []
  | cons {h : ExceptHandler} {x : Cla} {hs : List ExceptHandler} {xs : List Cla} (a : ClaOk X h x) (r : ClasOk X hs xs) : ClasOk X (h :: hs) (x :: xs)
/-- the error at a is caught: s is the state in which the clauses are tried; what it was without the error's own objects is told by src -/
structure Caught (X : Cx) (pins : List (Addr × Obj)) (σ : L2.St) (H : Hp) (a : Addr) (cls : Value) (d : Option Addr) (s : Shared) : Prop where
  free : H a = none
  src : ∃ (B : Heap) (s0 : Shared), Inv X pins σ H s0 ∧ (∀ b o, s0.heap.get? b = some o → b ∉ frs X.stack → B.get? b = some o) ∧ s0.heap.UpToSlots s.heap ∧ HandSPX.FlyingZ B X.stack a (Zc cls d) s.heap ∧ s.os = s0.os ∧ AllBare s.gens
section
variable {X : Cx} {pins : List (Addr × Obj)} {σ : L2.St} {H : Hp} {a : Addr} {cls : Value} {d : Option Addr} {s : Shared} {W : WX} {D : Ends}
theorem Caught.inv (c : Caught X pins σ H a cls d s) : Inv X pins σ H s :=
  let ⟨_, _, I, nb, up, fl, os, ag⟩ := c.src
  I.landed nb fl.1 up os ag
/-- its object is none of the frames' -/
theorem Caught.obj (c : Caught X pins σ H a cls d s) : ∃ oe, s.heap.get? a = some oe ∧ Zc cls d oe ∧ (∃ vs, oe.data = .fields vs) ∧ a ∉ frs X.stack := by
  obtain ⟨B, s0, _, _, _, ⟨_, _, frames, oe, vs, _, _, _, there, z, rec, _⟩, _⟩ := c.src
  refine ⟨oe, there, z, ⟨vs, rec⟩, fun m => ?_⟩
  obtain ⟨_, o, at_, other⟩ := frames.mem m
  cases there.symm.trans at_
  exact other vs rec
/-- the flight is set to none once more -/
theorem Caught.land {M : Model} {A : Around} {E : Value → Shared → Prop} {Q : Unit → Shared → Prop} (c : Caught X pins σ H a cls d s) (k : ∀ s', Caught X pins σ H a cls d s' → Q () s') : wpAny M A (setFlight (.ref a) none) Q E s :=
  let ⟨B, s0, I, nb, up, fl, os, ag⟩ := c.src
  HandSPX.lands_againZ fl fun h fl' more => k { s with heap := h } ⟨c.free, B, s0, I, nb, up.trans more, fl', os, ag⟩
/-- within a suite -/
theorem Caught.within (hs : X.stack = X.env :: X.outer) (hf : X.env.frame = some X.env.locals) (c : Caught X pins σ H a cls d s) : ∃ oe, Zc cls d oe ∧ (∃ vs, oe.data = .fields vs) ∧ s.heap.get? a = some oe ∧ Inv (X.suite a ((a, oe) :: (X.pn ++ pins))) [] σ H s := by
  obtain ⟨oe, there, z, ⟨vs, rec⟩, nf⟩ := c.obj
  rw [hs] at nf
  have n1 : a ≠ X.env.locals := fun e => nf (List.mem_filterMap.mpr ⟨X.env, List.mem_cons_self, by rw [hf, e]⟩)
  have n2 : a ∉ X.fs := fun m => nf (let ⟨e, he, q⟩ := List.mem_filterMap.mp m; List.mem_filterMap.mpr ⟨e, List.mem_cons_of_mem _ he, q⟩)
  exact ⟨oe, z, ⟨vs, rec⟩, there, c.inv.suite there rec c.free n1 n2⟩
/-- the class that a clause names is read -/
theorem Caught.test (hs : X.stack = X.env :: X.outer) (hf : X.env.frame = some X.env.locals) (c : Caught X pins σ H a cls d s) {x : Str} {v : Value} {p : Pos} (nm : Names X x v) {Q E : Value → Shared → Prop} (q : Q v s) :
    wpAny (model X.prog X.w) (X.A.mark (some (.ref a))) (eval (.Name x p) X.env) Q E s :=
  let ⟨_, _, _, _, S⟩ := c.within hs hf
  match nm with
  | ⟨g, dbg, .inl m⟩ => ld_glob S g m q dbg
  | ⟨g, dbg, .inr ⟨m, b, n⟩⟩ => ld_blt S g m b q n dbg
/-- one clause is tried -/
theorem Caught.clause (hs : X.stack = X.env :: X.outer) (hf : X.env.frame = some X.env.locals) (c : Caught X pins σ H a cls d s) {h : ExceptHandler} {x : Cla} {rest : List ExceptHandler} (ok : ClaOk X h x) {b : Bool} (one : PySem.W.exmOne X.K cls x.c = some b)
    (yes : b = true → x.ts a cls d (past D x.slot) (namd x.slot (some (.ref a)) σ) H) (no : b = false → wpAny (model X.prog X.w) X.A (handleBy (.ref a) X.env rest) (SP X pins D) X.xe s) :
    wpAny (model X.prog X.w) X.A (handleBy (.ref a) X.env (h :: rest)) (SP X pins D) X.xe s := by
  have frame := c.inv.ok
  have ty : PySem.W.Looks (model X.prog X.w) s.heap (typeOf (.ref a)) cls := by
    obtain ⟨oe, there, z, _⟩ := c.obj
    exact fun A Q E s' keep q => wpAny_typeOf_ref (keep _ _ there) (z.1.symm ▸ q)
  have match_ := PySem.W.exm_one c.inv.kIn ty one
  cases ok with
  | bare nm su =>
    refine wpAny_handleBy_cons (codeAny_handlers_test (c.test hs hf nm (match_.here ?_))) nofun
    cases b with
    | false => exact no rfl
    | true =>
      refine codeAny_handlers_suite (c.land fun s2 c2 => ?_)
      obtain ⟨oe, z, rec, _, S⟩ := c2.within hs hf
      refine wpAny_mono ((su a oe cls d _ z rec).run [] s2 _ H _ S (yes rfl)) (fun f s3 out => ?_) fun _ _ z => z.elim
      match f, out with
      | .next, ⟨_, _, S3, q⟩ => exact ⟨_, _, S3.unsuite frame, q⟩
      | .brk, ⟨_, _, S3, q⟩ => exact ⟨_, _, S3.unsuite frame, q⟩
      | .cont, ⟨_, _, S3, q⟩ => exact ⟨_, _, S3.unsuite frame, q⟩
      | .ret _, ⟨_, _, _, S3, r, q⟩ => exact ⟨_, _, _, S3.unsuite frame, r, q⟩
  | named nd hi hl nm su =>
    refine wpAny_handleBy_cons (codeAny_handlers_test (c.test hs hf nm (match_.here ?_))) nofun
    cases b with
    | false => exact no rfl
    | true =>
      refine codeAny_handlers_suite_as (c.land fun s2 c2 => ?_)
      obtain ⟨oe, z, rec, _, S⟩ := c2.within hs hf
      refine store_ok (X := X.suite a ((a, oe) :: (X.pn ++ pins))) (v := .ref a) S nd hi (.inl hl) rfl (fun s3 S3 => ?_) (.inr hl)
      refine wpAny_mono ((su a oe cls d _ z rec).run [] s3 _ H _ S3 (yes rfl)) (fun f s4 out => ?_) fun _ _ z => z.elim
      match f, out with
      | .next, ⟨_, _, S4, q⟩ => exact gone_ok (S4.unsuite frame) nd hi hl fun _ J => ⟨_, _, J, q⟩
      | .brk, ⟨_, _, S4, q⟩ => exact gone_ok (S4.unsuite frame) nd hi hl fun _ J => ⟨_, _, J, q⟩
      | .cont, ⟨_, _, S4, q⟩ => exact gone_ok (S4.unsuite frame) nd hi hl fun _ J => ⟨_, _, J, q⟩
      | .ret _, ⟨_, _, _, S4, r, q⟩ => exact gone_ok (S4.unsuite frame) nd hi hl fun _ J => ⟨_, _, _, J, r, q⟩
/-- no clause is left: it goes on from here -/
theorem Caught.out (hs : X.stack = X.env :: X.outer) (hf : X.env.frame = some X.env.locals) (tk : Takes X W) (c : Caught X pins σ H a cls d s) (w : W cls d σ H) {Q : Flow → Shared → Prop} : wpAny (model X.prog X.w) X.A (handleBy (.ref a) X.env []) Q X.xe s := by
  obtain ⟨na, B, s0, I, nb, up, fl, os, ag⟩ := c
  obtain ⟨oe, vs, T, _, _, there, _, rec, trace, _⟩ := id fl.2.2.2
  have leaves : wpAny (model X.prog X.w) X.A (setFlight (.ref a) X.env.frame) (fun _ s1 => wpAny (model X.prog X.w) X.A (throw (.ref a) : Sem Flow) Q X.xe s1) X.xe s :=
    hf ▸ HandSPX.setFlight_upZ fl fun h held more => wpAny_throw (tk (.ref a) _ ⟨a, B, s0, pins, σ, H, cls, d, rfl, I, nb, up.trans more, .inr (.inr held), na, os, ag, w⟩)
  have has : (Value.ref T == Value.none) = false := rfl
  refine wpAny_handleBy_nil (wpAny_bind (wpAny_field there rec trace ?_))
  simp only [has, Bool.false_eq_true, if_false]
  first
    | exact wpAny_bind leaves
    | exact wpAny_bind (wpAny_pure (wpAny_bind leaves))
/-- clauses, tried in turn -/
theorem Caught.turns (hs : X.stack = X.env :: X.outer) (hf : X.env.frame = some X.env.locals) (tk : Takes X W) (c : Caught X pins σ H a cls d s) : ∀ {l : List ExceptHandler} {xs : List Cla}, ClasOk X l xs → wCla X.K W D xs cls d σ H →
    wpAny (model X.prog X.w) X.A (handleBy (.ref a) X.env l) (SP X pins D) X.xe s
  | _, _, .nil, w => c.out hs hf tk w
  | _, _, .cons ok r, ⟨true, one, w⟩ => c.clause hs hf ok one (fun _ => w a c.free) nofun
  | _, _, .cons ok r, ⟨false, one, w⟩ => c.clause hs hf ok one nofun fun _ => c.turns hs hf tk r w
/-- try: body, several except clauses -/
theorem ps_try_cls {body : List Stmt} {h₀ : ExceptHandler} {l : List ExceptHandler} {xs : List Cla} {pos : Pos} {tb : WX → TS} (hs : X.stack = X.env :: X.outer) (hf : X.env.frame = some X.env.locals) (tk : Takes X W)
    (hb : ∀ (U : WX) (pn : List (Addr × Obj)) (xe : Value → Shared → Prop), Takes (X.tr pn xe) U → PassesOwn (model X.prog X.w) X.A X.env xe → PSs (X.tr pn xe) body (tb U)) (hl : ClasOk X (h₀ :: l) xs) :
    PS X (.Try body (h₀ :: l) [] [] pos) (fun D σ H => tb (wCla X.K W D xs) D σ H) := by
  constructor
  intro pins s σ H D I h
  have frame := I.ok
  have top : X.A.frames = some (X.env :: X.outer) := hs ▸ frame.frames
  apply wpAny_Try_except
  refine wpAny_mono ((hb (wCla X.K W D xs) (X.pn ++ pins) _ ?_ PassesOwn.looking).run [] s σ H D (I.toTry _) h) ?_ fun _ _ z => z
  · rintro u s' ⟨a, B, s0, pn, σ', H', cls, d, rfl, J, nb, up, sky, na, os, ag, w⟩
    exact Sky.land Zc.steady top hf (hs ▸ sky) fun hp fl more => Caught.turns hs hf tk (s := { s' with heap := hp }) ⟨na, B, s0, J.ofTry frame, nb, up.trans more, hs ▸ fl, os, ag⟩ hl w
  · rintro f s1 out
    match f, out with
    | .next, ⟨_, _, J, q⟩ => exact wpAny_execs_nil ⟨_, _, J.ofTry frame, q⟩
    | .brk, ⟨_, _, J, q⟩ => exact ⟨_, _, J.ofTry frame, q⟩
    | .cont, ⟨_, _, J, q⟩ => exact ⟨_, _, J.ofTry frame, q⟩
    | .ret _, ⟨_, _, _, J, r, q⟩ => exact ⟨_, _, _, J.ofTry frame, r, q⟩
end
end Sea

set_option Elab.async false
set_option linter.all false
set_option maxRecDepth 100000
set_option maxHeartbeats 4000000
/-! dicts whose keys are (a whole number, a whole number, a tuple of whole numbers) and whose values are whole numbers: k not in d, d[k], d[k] = v -/
namespace Sea
open PySem PySem.Spec PyProof.Rows L2 LamX NdefX ClX Evl StX
abbrev NK := Int × Int × List Int
def nk (k : NK) : NestedKey := .tup [.num k.1, .num k.2.1, .tup (k.2.2.map .num)]
theorem num_inj : ∀ {xs ys : List Int}, xs.map NestedKey.num = ys.map NestedKey.num → xs = ys
  | [], [], _ => rfl
  | [], _ :: _, e => by cases e
  | _ :: _, [], e => by cases e
  | x :: xs, y :: ys, e => by
    rw [List.map_cons, List.map_cons] at e
    injection e with e1 e2
    injection e1 with e1
    rw [e1, num_inj e2]
theorem nk_inj {k j : NK} (e : nk k = nk j) : k = j := by
  obtain ⟨a, b, c⟩ := k
  obtain ⟨a', b', c'⟩ := j
  unfold nk at e
  injection e with e
  injection e with e1 e
  injection e with e2 e
  injection e with e3 _
  injection e1 with e1
  injection e2 with e2
  injection e3 with e3
  rw [show a = a' from e1, show b = b' from e2, show c = c' from num_inj e3]
theorem nk_dep (k : NK) : (nk k).depth ≤ 8 := by
  have h : ∀ xs : List Int, NestedKey.depthAll (xs.map .num) = 0 := fun xs => by
    induction xs with
    | nil => rfl
    | cons x r ih =>
      show max 0 (NestedKey.depthAll (r.map .num)) = 0
      rw [ih]
      rfl
  show max 0 (max 0 (max (NestedKey.depthAll (k.2.2.map .num) + 1) 0)) + 1 ≤ 8
  rw [h]
  decide
/-- the value y in H is the key k -/
def KeyAt (K : PySem.W.Frag) (H : Hp) (y : V) (k : NK) : Prop := ∃ b m, y = .ref b ∧ SqT K H b [.int k.1, .int k.2.1, .ref m] ∧ SqT K H m (k.2.2.map V.int)
theorem KeyAt.tk {K : PySem.W.Frag} {H H' : Hp} {y : V} {k : NK} (t : TK K H H') (h : KeyAt K H y k) : KeyAt K H' y k := by
  obtain ⟨b, m, e, h1, h2⟩ := h
  exact ⟨b, m, e, t _ _ h1, t _ _ h2⟩
theorem nums_all {h : Heap} : ∀ {xs : List Int} {us : List Value}, Vals (xs.map V.int) us → NestedAll h (xs.map .num) us
  | [], _, r => by cases r; exact .nil
  | x :: xs, _, r => by
    rw [List.map_cons] at r
    cases r with
    | cons a b =>
      obtain ⟨t, rfl⟩ := a
      exact .cons (.int x t) (nums_all b)
section
variable {X : Cx} {pins : List (Addr × Obj)} {σ : L2.St} {H : Hp} {s : Shared}
theorem tup_nested {a : Addr} {xs : List V} {ks : List NestedKey} (I : Inv X pins σ H s) (h : SqT X.K H a xs) (hk : ∀ us, Vals xs us → NestedAll s.heap ks us) : NestedIs s.heap (.tup ks) (.ref a) := by
  obtain ⟨its, r, ⟨o, h1, h2, n, h3⟩, _⟩ := I.tuple h
  exact .tup h1 h2 h3 (by simpa using hk its r)
theorem key_nested {y : V} {u : Value} {k : NK} (I : Inv X pins σ H s) (h : KeyAt X.K H y k) (ry : RelV y u) : ∃ b, u = .ref b ∧ y = .ref b ∧ (nestedKind X.prog X.w).is s.heap (nk k) b := by
  obtain ⟨b, m, rfl, h1, h2⟩ := h
  refine ⟨b, ry, rfl, tup_nested I h1 fun us r => ?_, nk_dep k⟩
  match us, r with
  | _, .cons ⟨t1, e1⟩ (.cons ⟨t2, e2⟩ (.cons e3 .nil)) =>
    subst e1 e2 e3
    exact .cons (.int _ _) (.cons (.int _ _) (.cons (tup_nested I h2 fun us r => nums_all r) .nil))
end
/-- an entry: the key, where it stands, the number -/
abbrev NE := NK × Addr × Int
def NEr : NE → (NestedKey × Addr × Value) → Prop := fun p q => q.1 = nk p.1 ∧ q.2.1 = p.2.1 ∧ ∃ t, q.2.2 = Value.int p.2.2 t
/-- the dict at a with the entries ks -/
def NdO (P : Program) (w : World) (a : Addr) (ks : List NE) : HO := .ext fun h => ks.length ≤ sizeLine ∧ (a == sysModules) = false ∧ ∃ xs, Paired NEr ks xs ∧
  ∃ o es ep, h.get? a = some o ∧ o.ExactDict ∧ o.data = .dict es ep ∧ es.toList = xs.map (entryOfKey (nestedKind P w)) ∧ (xs.map (·.1)).Nodup
def fnd (ks : List NE) (k : NK) : Option Int := (ks.find? fun p => decide (p.1 = k)).map (·.2.2)
def KeysIn (K : PySem.W.Frag) (H : Hp) (ks : List NE) : Prop := ∀ p ∈ ks, KeyAt K H (.ref p.2.1) p.1
theorem KeysIn.tk {K : PySem.W.Frag} {H H' : Hp} {ks : List NE} (t : TK K H H') (h : KeysIn K H ks) : KeysIn K H' ks := fun p hp => (h p hp).tk t
theorem KeysIn.snoc {K : PySem.W.Frag} {H : Hp} {ks : List NE} {k : NK} {b : Addr} {n : Int} (h : KeysIn K H ks) (g : KeyAt K H (.ref b) k) : KeysIn K H (ks ++ [(k, b, n)]) := fun p hp => by
  rcases List.mem_append.mp hp with hp | hp
  · exact h p hp
  · rw [List.mem_singleton] at hp
    subst hp
    exact g
theorem at_fnd {ks : List NE} {xs : List (NestedKey × Addr × Value)} (r : Paired NEr ks xs) (k : NK) :
    (fnd ks k = none ∧ atKey xs (nk k) = none) ∨ ∃ n b t, fnd ks k = some n ∧ atKey xs (nk k) = some (b, Value.int n t) := by
  induction r with
  | nil => exact .inl ⟨rfl, rfl⟩
  | @cons p q ps qs h r ih =>
    obtain ⟨e1, e2, t, e3⟩ := h
    by_cases e : p.1 = k
    · refine .inr ⟨p.2.2, q.2.1, t, ?_, ?_⟩
      · unfold fnd
        rw [List.find?_cons, decide_eq_true e]
        rfl
      · unfold atKey
        rw [List.find?_cons, decide_eq_true (by rw [e1, e])]
        show some (q.2.1, q.2.2) = _
        rw [e3]
    · have e' : ¬ q.1 = nk k := fun z => e (nk_inj (e1.symm.trans z))
      unfold fnd atKey at ih ⊢
      rw [List.find?_cons, decide_eq_false e, List.find?_cons, decide_eq_false e']
      exact ih
theorem pair_mem {α β : Type} {F : α → β → Prop} {x : β} : ∀ {l : List α} {m : List β}, Paired F l m → x ∈ m → ∃ p ∈ l, F p x
  | _, _, .nil, h => nomatch h
  | p :: _, _, .cons f _, .head _ => ⟨p, .head _, f⟩
  | _, _, .cons _ r, .tail _ h => let ⟨p, hp, f⟩ := pair_mem r h; ⟨p, .tail _ hp, f⟩
section
variable {P : Program} {w : World}
theorem nd_no {K : PySem.W.Frag} {H : Hp} {a : Addr} {ks : List NE} (e : H a = some (NdO P w a ks)) (xs : List V) : ¬ Rd H a (.tup xs) := by
  rintro (z | ⟨o, z⟩)
  · rw [e] at z
    cases z
  · rw [e] at z
    cases z
theorem nd_ok {H : Hp} {h : Heap} {a : Addr} {ks : List NE} (x : ObjOk P w H h a (NdO P w a ks)) (hk : ∀ p ∈ ks, (nestedKind P w).is h (nk p.1) p.2.1) : ks.length ≤ sizeLine ∧ (a == sysModules) = false ∧ ∃ xs, Paired NEr ks xs ∧ h.DictOfH (nestedKind P w) a xs := by
  obtain ⟨⟨few, low, xs, r, o, es, ep, at_, ex, dat, ents, nd⟩, _⟩ := x
  exact ⟨few, low, xs, r, o, es, ep, at_, ex, dat, ents, fun x hx => let ⟨p, hp, e1, e2, _⟩ := pair_mem r hx; e1 ▸ e2 ▸ hk p hp, nd⟩
theorem nd_mk {H : Hp} {h : Heap} {a : Addr} {ks : List NE} {xs : List (NestedKey × Addr × Value)} (z : ks.length ≤ sizeLine) (hd : (a == sysModules) = false) (r : Paired NEr ks xs) (d : h.DictOfH (nestedKind P w) a xs) : ObjOk P w H h a (NdO P w a ks) := by
  obtain ⟨o, es, ep, h1, h2, h3, h4, _, h5⟩ := d
  exact ⟨⟨z, hd, xs, r, o, es, ep, h1, h2, h3, h4, h5⟩, ⟨o, h1⟩, fun h1 h2 ⟨z, hd, xs, r, o, es, ep, g1, g2⟩ st => ⟨z, hd, xs, r, o, es, ep, st _ g1, g2⟩⟩
end
section
variable {X : Cx} {pins : List (Addr × Obj)} {σ : L2.St} {H : Hp} {s : Shared} {pos : Pos}
theorem nd_at {a : Addr} {ks : List NE} (I : Inv X pins σ H s) (e : H a = some (NdO X.prog X.w a ks)) (k : KeysIn X.K H ks) : ks.length ≤ sizeLine ∧ (a == sysModules) = false ∧ ∃ xs, Paired NEr ks xs ∧ s.heap.DictOfH (nestedKind X.prog X.w) a xs :=
  nd_ok (I.hok a _ e) fun p hp => by
    obtain ⟨b, _, e, h⟩ := key_nested I (k p hp) rfl
    cases e
    exact h
/-- {}, to be such a dict -/
def tNd (P : Program) (w : World) : TE := fun _ H Q => ∀ p, H p = none → Q (.ref p) (upd H p (NdO P w p []))
theorem pe_nd : PE X (.Dict [] [] pos) (tNd X.prog X.w) := ⟨fun pins s σ H Q I h =>
  wpAny_Dict_empty ⟨.ref s.heap.objs.size, _, I.laid (a := s.heap.objs.size) (o := NdO X.prog X.w s.heap.objs.size []) (t' := s.toks) (fun _ _ q => Heap.get?_push_of_some _ q) (Nat.le_refl _)
    (nd_mk (Nat.zero_le _) (beq_eq_false_iff_ne.mpr (Ne.symm (Nat.ne_of_lt I.big))) .nil (.new s.heap)), rfl, h _ (I.hok.fresh (Nat.le_refl _))⟩⟩
def rNdNot (P : Program) (w : World) (K : PySem.W.Frag) : R2 := fun y d H Q => ∃ a ks k, d = .ref a ∧ H a = some (NdO P w a ks) ∧ KeysIn K H ks ∧ KeyAt K H y k ∧ Q (.bl (!(fnd ks k).isSome)) H
theorem op_ndNot (hu : X.A.units + 9 < cLine) : OpR X (compareOp .NotIn) (rNdNot X.prog X.w X.K) := by
  intro pins s σ H x y v u Q I rx ry h
  obtain ⟨a, ks, k, rfl, e, hk, hy, q⟩ := h
  obtain ⟨b, rfl, _, hb⟩ := key_nested I hy rx
  obtain rfl : u = Value.ref a := ry
  obtain ⟨_, hd, xs, r, dd⟩ := nd_at I e hk
  have es : (fnd ks k).isSome = (atKey xs (nk k)).isSome := by
    rcases at_fnd r k with ⟨e1, e2⟩ | ⟨n, b', t, e1, e2⟩
    · rw [e1, e2]
      rfl
    · rw [e1, e2]
      rfl
  rw [es] at q
  exact wpAny_notIn_heap (knd := nestedKind X.prog X.w) (by show X.A.in1.units + 8 < cLine; rw [Around.in1_units]; omega) hb hd dd ⟨.bl (!(atKey xs (nk k)).isSome), H, I.tok _, rfl, q⟩
def rNdIx (P : Program) (w : World) (K : PySem.W.Frag) : R2 := fun d y H Q => ∃ a ks k n, d = .ref a ∧ H a = some (NdO P w a ks) ∧ KeysIn K H ks ∧ KeyAt K H y k ∧ fnd ks k = some n ∧ Q (.int n) H
theorem pe_ndIx {o i : Expr} {td ty : TE} (hu : X.A.units + 9 < cLine) (ho : PE X o td) (hi : PE X i ty) (hs : NoSl i) : PE X (.Subscript o i pos) (tOp (rNdIx X.prog X.w X.K) td ty) := by
  refine ⟨fun pins s σ H Q I h => ?_⟩
  refine subD_of PySem.F.slot_dict_getitem.lookup hs (thn (ho.run pins s σ H _ I h) fun u s1 ⟨x, H1, I1, rx, q1⟩ => thn (hi.run pins s1 σ H1 _ I1 q1) fun iv s2 ⟨y, H2, I2, ry, a, ks, k, n, ex, e, hk, hy, hn, q2⟩ => ?_)
  subst ex
  obtain rfl : u = Value.ref a := rx
  obtain ⟨b, rfl, _, hb⟩ := key_nested I2 hy ry
  obtain ⟨_, hd, xs, r, dd⟩ := nd_at I2 e hk
  refine ⟨dd.typeIs, ?_⟩
  rcases at_fnd r k with ⟨e1, _⟩ | ⟨n', b', t, e1, e2⟩
  · rw [hn] at e1
    cases e1
  · rw [hn] at e1
    cases e1
    exact wpAny_getItem_heap (knd := nestedKind X.prog X.w) (by show X.A.in1.units + 8 < cLine; rw [Around.in1_units]; omega) hb dd e2 ⟨.int n, H2, I2.tok _, ⟨t, rfl⟩, q2⟩
def rNdSet (P : Program) (w : World) (K : PySem.W.Frag) : TSet := fun o i v H Q => ∃ a ks k b n, o = .ref a ∧ i = .ref b ∧ v = .int n ∧ H a = some (NdO P w a ks) ∧ KeysIn K H ks ∧ KeyAt K H i k ∧ fnd ks k = none ∧ ks.length < sizeLine ∧ Q (upd H a (NdO P w a (ks ++ [(k, b, n)])))
theorem set_nd (hu : X.A.units + 9 < cLine) : PSet X (rNdSet X.prog X.w X.K) := by
  intro pins s σ H o i v ov iv u Q I ro ri rv h
  obtain ⟨a, ks, k, b, n, rfl, rfl, rfl, e, hk, hy, hn, hl, q⟩ := h
  obtain ⟨b', rfl, e2, hb⟩ := key_nested I hy ri
  cases e2
  obtain rfl : ov = Value.ref a := ro
  obtain ⟨t, rfl⟩ := rv
  obtain ⟨z, hd, xs, r, dd⟩ := nd_at I e hk
  have hz : xs.length ≤ sizeLine := by rw [← Paired.length r]; exact z
  refine wpAny_setItem_heap (hsz := hz) (knd := nestedKind X.prog X.w) (by show X.A.in1.units + 8 < cLine; rw [Around.in1_units]; omega) hb dd fun h' dd' sb => ⟨_, ?_, q⟩
  have e0 : atKey xs (nk k) = none := by
    rcases at_fnd r k with ⟨_, e2⟩ | ⟨n', b', t, e1, _⟩
    · exact e2
    · rw [hn] at e1
      cases e1
  rw [storedH_new e0] at dd'
  obtain ⟨ob, hob⟩ : ∃ ob, h'.get? a = some ob := let ⟨ob, _, _, g, _⟩ := dd'; ⟨ob, g⟩
  exact d_write I (by rw [e]; exact True.intro) sb ⟨ob, hob⟩ (nd_mk (by rw [List.length_append]; show ks.length + 1 ≤ _; omega) hd (Paired.snoc r ⟨rfl, rfl, t, rfl⟩) dd')
end
end Sea

set_option Elab.async false
set_option linter.all false
set_option maxRecDepth 100000
set_option maxHeartbeats 4000000
/-! a method whose first row is super().__init__(e) -/
namespace Sea
open PySem PySem.Spec PyProof.Rows L2 LamX NdefX ClX Evl StX
structure FunC (K : PySem.W.Frag) (x qual : Str) (st : Stmt) (cc cda f : Addr) (fd : FuncData) : Prop where
  ex : ∃ (oc : Value) (od : Option Addr) (kV doc pm : Value) (an : Option Addr) (ct : Value) (osl : Array (Option Value)),
    fd = PySem.W.fnX x qual (defArgs st) (defBody st) (defScope st) [("__class__", cc)] .none kV doc pm an (.ref cda) ct ∧ K.lookup f = some ⟨oc, od, .func fd, osl⟩
  cd : PySem.W.codeIn K (.ref cda) qual = true
  kp : PySem.W.keepIn K (.ref f) = true
/-- what super().m asks of the text, for an instance of D itself -/
structure SupT (P : Program) (K : PySem.W.Frag) (mg : Str → Option Value) (D cc cda f2 : Addr) (m : Str) : Prop where
  code : ∃ (ccl : Value) (cdd : Option Addr) (vs : Array Value) (ccs : Array (Option Value)) (file : Str) (tf : Tok), K.lookup cda = some ⟨ccl, cdd, .fields vs, ccs⟩ ∧ vs[2]? = some (.str file tf) ∧ ((P.main.file : Str) == file) = true
  cell : ∃ (cl : Value) (cld : Option Addr) (csl : Array (Option Value)), K.lookup cc = some ⟨cl, cld, .cell (some (.ref D)), csl⟩
  cls : ∃ cd, PySem.W.clsIn K D = some cd
  sub : PySem.W.mroIn K D (.ref D) = some true
  mS : mg "super" = none
  top : (P.main.scope.names.lookup ("super" : Str)).isSome = false
  opq : PySem.W.nsIn K cStatics "thirdparty.any" = some none
  meth : PySem.W.ks_superIn K D D m = some (some (.ref f2))
  ty : PySem.W.typeIn K (.ref f2) = some (.type "function")
  fi : PySem.W.fnIn K f2 = true
theorem boot_super : bootBuiltins "super" = some (.type "super") := by kernel_rfl
section
variable {P : Program} {w : World} {K : PySem.W.Frag} {mg : Str → Option Value} {base : Heap} {D cc cda f f2 : Addr} {x qual : Str} {st : Stmt} {fd fd2 : FuncData} {N ps ps2 : List Str} {sp sp2 : Sp} {k : Nat}
abbrev supF (x qual : Str) (st : Stmt) (cc cda : Addr) : NF := ⟨x, qual, defArgs st, defBody st, defScope st, [("__class__", cc)], cda⟩
theorem class_cell {H : Hp} {s : Shared} {A : Around} {outer : List Env} (e0 : Env0 P w K mg base A outer s H) (hc : ∃ (cl : Value) (cld : Option Addr) (csl : Array (Option Value)), K.lookup cc = some ⟨cl, cld, .cell (some (.ref D)), csl⟩) :
    CellsAt [("__class__", cc)] ["__class__"] [none] s.heap H := by
  obtain ⟨cl, cld, csl, hc⟩ := hc
  have hb := e0.bs _ _ (e0.mod.kin _ _ hc)
  have only : ∀ (y : Str) (c : Addr), ([("__class__", cc)] : List (Str × Addr)).lookup y = some c → y = "__class__" ∧ c = cc := fun y c e => by
    rw [List.lookup_cons] at e
    split at e
    · rename_i h
      cases e
      exact ⟨by simpa using h, rfl⟩
    · cases e
  refine ⟨rfl, fun y c e => ?_, fun x y c e1 e2 => ?_, fun i y e => ?_⟩
  · obtain ⟨_, rfl⟩ := only y c e
    exact ⟨hb.2, _, _, hb.1, rfl⟩
  · rw [(only x c e1).1, (only y c e2).1]
  · match i, e with
    | 0, e =>
      cases e
      exact ⟨cc, rfl, fun v z => by cases z⟩
/-- the end of the body is the end of the call -/
theorem body_end {F : NF} {A : Around} {outer : List Env} {s s' : Shared} {H : Hp} {E : XK} {Q : VK} {pins : List (Addr × Obj)} : ∀ (fl : Flow), SP (ncx (L2.CX P w) P w K mg base N F f A outer s H E) pins { nx := fun _ H' => Q .non H', rt := Q } fl s' →
    CR (L2.CX P w) outer P w H s Q E (.ok (.ret (match fl with | .ret v => v | _ => .none))) s'
  | .ret _, ⟨v, _, H', J, r, q⟩ => ⟨v, H', J.os, J.bare, J.base, J.hok, r, q⟩
  | .next, ⟨_, H', J, q⟩ => ⟨.non, H', J.os, J.bare, J.base, J.hok, rfl, q⟩
  | .brk, ⟨_, _, _, q⟩ => q.elim
  | .cont, ⟨_, _, _, q⟩ => q.elim
theorem sup_core {e : Expr} {rest : List Stmt} {p0 p1 p2 p3 p4 : Pos} {pl : Sem Bool} (S : NScope N ps ["__class__"] (defScope st)) (SU : SupT P K mg D cc cda f2 "__init__")
    (G : FnR P w K mg base CX0 k f2 sp2)
    (hst : defBody st = .Expr (.Call (.Attribute (.Call (.Name "super" p0) [] [] p1) "__init__" p2) [e] [] p3) p4 :: rest)
    (hself : ∃ ar, ((defArgs st).posonlyargs ++ (defArgs st).args).head? = some ar ∧ N[0]? = some ar.arg ∧ (defScope st).names.lookup ar.arg = some .local)
    (hks : (defScope st).names.lookup ("super" : Str) = some .globalImplicit) (hkc : (defScope st).names.lookup ("__class__" : Str) = some .free)
    (he : ∀ L, eval (.Call (.Attribute (.Call (.Name "super" p0) [] [] p1) "__init__" p2) [e] [] p3) (envF (supF x qual st cc cda) f L) = (do
      let ov ← attributeBase (.Call (.Name "super" p0) [] [] p1) "__init__" (envF (supF x qual st cc cda) f L) (eval (.Call (.Name "super" p0) [] [] p1) (envF (supF x qual st cc cda) f L))
      standAt p2.atName
      let (g, first) ← holding [ov] (getMethod ov "__init__" pl)
      callWith p3 g first (backTo p3 (starEach [e] (envF (supF x qual st cc cda) f L))) []))
    (hi : ∀ L, interactive (envF (supF x qual st cc cda) f L) = false)
    (hs : ∀ L, swapsWith (.Call (.Attribute (.Call (.Name "super" p0) [] [] p1) "__init__" p2) [e] [] p3) none p4.line (envF (supF x qual st cc cda) f L) = pure false)
    (hse : ∀ L, starEach [e] (envF (supF x qual st cc cda) f L) = (false, eval e (envF (supF x qual st cc cda) f L)) :: [])
    {A : Around} {outer : List Env} {s : Shared} {H : Hp} {vs : List V} {us : List Value} {Q : VK} {E : XK} {h₁ : Heap} {od oc kV doc pm : _} {an : Option Addr} {ct : Value} {osl : Array (Option Value)} {tk : Nat}
    (lk : K.lookup f = some ⟨oc, od, .func (PySem.W.fnX x qual (defArgs st) (defBody st) (defScope st) [("__class__", cc)] .none kV doc pm an (.ref cda) ct), osl⟩) (hr : Room (k + 1) A) (e0 : Env0 P w K mg base A outer s H) (r : Vals vs us) (hl : vs.length = ps.length) (hns : h₁.Ns s.heap.objs.size fun y => (ps.zip us).reverse.lookup y) (kp : ∀ b o, s.heap.get? b = some o → h₁.get? b = some o)
    (hbody : ∃ te t, PA (ncx (L2.CX P w) P w K mg base N (supF x qual st cc cda) f A outer s H E) [e] te ∧ PSs (ncx (L2.CX P w) P w K mg base N (supF x qual st cc cda) f A outer s H E) rest t ∧
        ∃ a dx fs, (startF N vs [none])[0]? = some (some (.ref a)) ∧ H a = some (.ins D dx fs) ∧ te (startF N vs [none]) H fun ys H1 => sp2 (.ref a :: ys) H1 (fun _ H2 => t { nx := fun _ H' => Q .non H', rt := Q } (startF N vs [none]) H2) (fun _ _ _ => False)) :
    _root_.PySem.wpAt (model P w) (A.deeper (envF (supF x qual st cc cda) f s.heap.objs.size)) (.func (defBody st) (envF (supF x qual st cc cda) f s.heap.objs.size)) (execs (defBody st) (envF (supF x qual st cc cda) f s.heap.objs.size)) (fun fl s' => CR (L2.CX P w) outer P w H s Q E (.ok (.ret (match fl with | .ret v => v | _ => .none))) s')
      (fun e s' => wpAny (model P w) (A.deeper (envF (supF x qual st cc cda) f s.heap.objs.size)) (leaving (envF (supF x qual st cc cda) f s.heap.objs.size) e) (fun _ s'' => CR (L2.CX P w) outer P w H s Q E (.error e) s'') (fun e' s'' => CR (L2.CX P w) outer P w H s Q E (.error e') s'') s') { s with heap := h₁, toks := tk } := by
  have KX : K.In s.heap := e0.mod.kin.keeps fun b o e => (e0.bs b o e).1
  have C := class_cell e0 SU.cell
  obtain ⟨te, t, hte, ht, a, dx, fs, ha0, hHa, hq⟩ := hbody
  have I : Inv (ncx (L2.CX P w) P w K mg base N (supF x qual st cc cda) f A outer s H E) [] (startF N vs [none]) H { s with heap := h₁, toks := tk } := inv_startN (ws := [none]) S hr.hd e0 hl r C hns kp
  rw [hst]
  obtain ⟨ar, har, hN0, hlo⟩ := hself
  obtain ⟨ccl, cdd, cvs, ccs, file, tf, hcode, hvs, hfile⟩ := SU.code
  obtain ⟨cl, cld, csl, hcell⟩ := SU.cell
  obtain ⟨cdD, hD⟩ := SU.cls
  have X1 : K.In h₁ := KX.keeps kp
  obtain ⟨oD, hD1, hD2⟩ : ∃ oD, h₁.get? D = some oD ∧ oD.data = .cls cdD := by
    unfold PySem.W.clsIn at hD
    split at hD
    · rename_i c d cd' sl ho
      cases hD
      exact ⟨_, X1 _ _ ho, rfl⟩
    · cases hD
  obtain ⟨mA, O, _, _, _, _⟩ := ins_get I.hok hHa
  obtain ⟨od2, J, _⟩ := O.look
  refine ks_wpAt_execs_cons (ks_wpAt_Expr_any (ks_wpAt_MethodCall (pl := pl) ?_ (he _)) (hi _) (hs _))
  refine ks_wpAt_super_base (env := envF (supF x qual st cc cda) f s.heap.objs.size) hks hkc rfl rfl (X1 _ _ lk) rfl har rfl (X1 _ _ hcode) rfl hvs hfile SU.top ?_
  obtain ⟨mb, b1, b2⟩ := I.mod.blt
  refine PySem.W.ks_loadName_global S.kind hks (Calls.loadGlobal_builtin (env := envF (supF x qual st cc cda) f s.heap.objs.size) (I.mod.glob.keeps I.bk) SU.mS (b1.keeps I.bk) ((b2 "super" (by decide)).trans boot_super) ⟨rfl, ?_⟩)
  refine wpAny_loadName_free S.kind hkc rfl ⟨_, X1 _ _ hcell, rfl⟩ ?_
  obtain ⟨m, hm1, hm2⟩ := I.loc
  obtain ⟨u, ru, lu⟩ := hm2 0 ar.arg (.ref a) hN0 ha0 (.inl hlo)
  obtain rfl : u = Value.ref a := ru
  have hma : m ar.arg = some (.ref a) := by
    rcases lu with ⟨_, z⟩ | ⟨z, _⟩
    · exact z
    · have z : (defScope st).names.lookup ar.arg = some .cell ∨ (defScope st).names.lookup ar.arg = some .free := z
      rw [hlo] at z
      rcases z with z | z <;> cases z
  refine wpAny_loadName_local S.kind hlo hm1 hma ?_
  refine ks_wpAny_isType_cls hD1 hD2 ⟨rfl, ?_⟩
  refine ks_wpAny_call_super hD1 hD2 J.at_ J.cls (fun c e => ?_) (PySem.W.looks_mroIn X1 SU.sub) (fun h' eN k => ?_)
  · have := J.no
    unfold PySem.W.notCls at this
    rw [e] at this
    exact Bool.noConfusion this
  have I2 := pin_new (t' := tk) I k (Nat.le_refl _) eN (fun v z => by cases z)
  have X2 : K.In h' := X1.keeps k
  obtain ⟨of, hof, hofc⟩ : ∃ of, h'.get? f2 = some of ∧ of.cls = .type "function" := by
    have ht' : (K.lookup f2).map (·.cls) = some (.type "function") := SU.ty
    cases z : K.lookup f2 with
    | none =>
      rw [z] at ht'
      cases ht'
    | some of =>
      rw [z] at ht'
      exact ⟨of, X2 _ _ z, Option.some.inj ht'⟩
  have hm := SU.meth
  unfold PySem.W.ks_superIn at hm
  rw [hD] at hm
  refine PySem.ks_wpAny_getMethod_super (pin_at I2) (PySem.W.looks_opaque X2 SU.opq) (l₀ := cdD.mro) (fun A Q E s k q => wpAny_bind ((PySem.W.looks_clsIn X2 hD) A _ E s k (wpAny_pure q))) rfl X2 hm hof hofc (PySem.W.ks_ne X1 J hD) rfl ?_
  have I3 := pin_new (t' := tk + 1) (o := PySem.W.methodObj (.ref f2) (.ref a)) I2 (fun b o e => Heap.get?_push_of_some _ e) (Nat.le_refl _) (Heap.get?_push_size _ rfl) (fun v z => by cases z)
  have hargs := hte.run p3 _ _ _ _ _ I3 hq
  have hse' := hse s.heap.objs.size
  have hargs : wpAny (model P w) (A.deeper (envF (supF x qual st cc cda) f s.heap.objs.size)) (spliced (backTo p3 (starEach [e] (envF (supF x qual st cc cda) f s.heap.objs.size)))) _ _ _ := hargs
  show wpAny (model P w) (A.deeper (envF (supF x qual st cc cda) f s.heap.objs.size)) (callWith p3 (.ref h'.objs.size) [] (backTo p3 (starEach [e] (envF (supF x qual st cc cda) f s.heap.objs.size))) []) _ _ _
  rw [hse'] at hargs ⊢
  refine PySem.W.callWith_of (P := PySem.W.MethP K h'.objs.size f2 (.ref a)) rfl (PySem.W.keeps_M SU.fi) (Calls.evalArgs_plain (thn hargs fun us s1 hh => ?_))
  obtain ⟨ys, H1, I4, r4, q4⟩ := hh
  refine ⟨⟨pin_at I4, I4.kIn⟩, wpAny_call (PySem.W.method_call (pin_at I4) ?_)⟩
  have run := run_fnR (us := Value.ref a :: us) (vs := V.ref a :: ys) G (hr.deeper _) pass0 I4 (.cons rfl r4) q4
  refine codeAny_mono run fun r s' hq => ?_
  match r, hq with
  | .error _, hq => exact hq
  | .ok (.ret _), ⟨_, H2, I5, _, q5⟩ => exact PySem.wpAt_of_wpAny (wpAny_mono (ht.run _ _ _ _ _ I5 q5) (fun fl _ hs => body_end fl hs) fun _ _ hs => hs)
theorem fn_sup {e : Expr} {rest : List Stmt} {p0 p1 p2 p3 p4 : Pos} {pl : Sem Bool} (FC : FunC K x qual st cc cda f fd) (S : NScope N ps ["__class__"] (defScope st)) (SU : SupT P K mg D cc cda f2 "__init__")
    (G : FnR P w K mg base CX0 k f2 sp2)
    (hst : defBody st = .Expr (.Call (.Attribute (.Call (.Name "super" p0) [] [] p1) "__init__" p2) [e] [] p3) p4 :: rest)
    (hself : ∃ ar, ((defArgs st).posonlyargs ++ (defArgs st).args).head? = some ar ∧ N[0]? = some ar.arg ∧ (defScope st).names.lookup ar.arg = some .local)
    (hks : (defScope st).names.lookup ("super" : Str) = some .globalImplicit) (hkc : (defScope st).names.lookup ("__class__" : Str) = some .free)
    (len : ∀ vs H Q E, sp vs H Q E → vs.length = ps.length)
    (he : ∀ L, eval (.Call (.Attribute (.Call (.Name "super" p0) [] [] p1) "__init__" p2) [e] [] p3) (envF (supF x qual st cc cda) f L) = (do
      let ov ← attributeBase (.Call (.Name "super" p0) [] [] p1) "__init__" (envF (supF x qual st cc cda) f L) (eval (.Call (.Name "super" p0) [] [] p1) (envF (supF x qual st cc cda) f L))
      standAt p2.atName
      let (g, first) ← holding [ov] (getMethod ov "__init__" pl)
      callWith p3 g first (backTo p3 (starEach [e] (envF (supF x qual st cc cda) f L))) []))
    (hi : ∀ L, interactive (envF (supF x qual st cc cda) f L) = false)
    (hs : ∀ L, swapsWith (.Call (.Attribute (.Call (.Name "super" p0) [] [] p1) "__init__" p2) [e] [] p3) none p4.line (envF (supF x qual st cc cda) f L) = pure false)
    (hse : ∀ L, starEach [e] (envF (supF x qual st cc cda) f L) = (false, eval e (envF (supF x qual st cc cda) f L)) :: [])
    (hbody : ∀ (A : Around) (outer : List Env) (s : Shared) (H : Hp) (vs : List V) (Q : VK) (E : XK), Room k (A.deeper (envF (supF x qual st cc cda) f s.heap.objs.size)) → sp vs H Q E →
      ∃ te t, PA (ncx (L2.CX P w) P w K mg base N (supF x qual st cc cda) f A outer s H E) [e] te ∧ PSs (ncx (L2.CX P w) P w K mg base N (supF x qual st cc cda) f A outer s H E) rest t ∧
        ∃ a dx fs, (startF N vs [none])[0]? = some (some (.ref a)) ∧ H a = some (.ins D dx fs) ∧ te (startF N vs [none]) H fun ys H1 => sp2 (.ref a :: ys) H1 (fun _ H2 => t { nx := fun _ H' => Q .non H', rt := Q } (startF N vs [none]) H2) (fun _ _ _ => False)) :
    FnOk P w K mg base (L2.CX P w) (k + 1) f fd ps sp := by
  obtain ⟨oc, od, kV, doc, pm, an, ct, osl, rfl, lk⟩ := FC.ex
  refine ⟨len, fun A outer s H args us vs Q E hr e0 hb r hsp => ?_⟩
  have KX : K.In s.heap := e0.mod.kin.keeps fun b o e => (e0.bs b o e).1
  have lim : s.heap.NoLimit := e0.mod.nolimit.keeps fun b o e => (e0.bs b o e).1
  exact ks_codeAny_call_defAt (binds := ps.zip us) hr.depth (KX _ _ lk) rfl lim (PySem.W.codeRec_of KX FC.cd) rfl hb S.nocell (fun ⟨n, _⟩ hy => S.par n (List.of_mem_zip hy).1) (fun h₁ hns kp => sup_core S SU G hst hself hks hkc he hi hs hse lk hr e0 r (len _ _ _ _ hsp) hns kp (hbody A outer s H vs Q E (hr.deeper _) hsp)) S.co S.gen S.kind
theorem fn_supS {pv : Str} {e : Expr} {rest : List Stmt} {p0 p1 p2 p3 p4 : Pos} {pl : Sem Bool} (FC : FunC K x qual st cc cda f fd) (S : NScope N (ps ++ [pv]) ["__class__"] (defScope st)) (SU : SupT P K mg D cc cda f2 "__init__")
    (G : FnR P w K mg base CX0 k f2 sp2)
    (hst : defBody st = .Expr (.Call (.Attribute (.Call (.Name "super" p0) [] [] p1) "__init__" p2) [e] [] p3) p4 :: rest)
    (hself : ∃ ar, ((defArgs st).posonlyargs ++ (defArgs st).args).head? = some ar ∧ N[0]? = some ar.arg ∧ (defScope st).names.lookup ar.arg = some .local)
    (hks : (defScope st).names.lookup ("super" : Str) = some .globalImplicit) (hkc : (defScope st).names.lookup ("__class__" : Str) = some .free)
    (hb : ∀ us rest : List Value, us.length = ps.length → bindArgs fd ⟨us ++ rest, []⟩ = (newTuple rest >>= fun t => pure (ps.zip us ++ [(pv, t)])))
    (len : ∀ vs H Q E, sp vs H Q E → vs.length = (ps ++ [pv]).length)
    (he : ∀ L, eval (.Call (.Attribute (.Call (.Name "super" p0) [] [] p1) "__init__" p2) [e] [] p3) (envF (supF x qual st cc cda) f L) = (do
      let ov ← attributeBase (.Call (.Name "super" p0) [] [] p1) "__init__" (envF (supF x qual st cc cda) f L) (eval (.Call (.Name "super" p0) [] [] p1) (envF (supF x qual st cc cda) f L))
      standAt p2.atName
      let (g, first) ← holding [ov] (getMethod ov "__init__" pl)
      callWith p3 g first (backTo p3 (starEach [e] (envF (supF x qual st cc cda) f L))) []))
    (hi : ∀ L, interactive (envF (supF x qual st cc cda) f L) = false)
    (hs : ∀ L, swapsWith (.Call (.Attribute (.Call (.Name "super" p0) [] [] p1) "__init__" p2) [e] [] p3) none p4.line (envF (supF x qual st cc cda) f L) = pure false)
    (hse : ∀ L, starEach [e] (envF (supF x qual st cc cda) f L) = (false, eval e (envF (supF x qual st cc cda) f L)) :: [])
    (hbody : ∀ (A : Around) (outer : List Env) (s : Shared) (H : Hp) (vs : List V) (Q : VK) (E : XK), Room k (A.deeper (envF (supF x qual st cc cda) f s.heap.objs.size)) → sp vs H Q E →
      ∃ te t, PA (ncx (L2.CX P w) P w K mg base N (supF x qual st cc cda) f A outer s H E) [e] te ∧ PSs (ncx (L2.CX P w) P w K mg base N (supF x qual st cc cda) f A outer s H E) rest t ∧
        ∃ a dx fs, (startF N vs [none])[0]? = some (some (.ref a)) ∧ H a = some (.ins D dx fs) ∧ te (startF N vs [none]) H fun ys H1 => sp2 (.ref a :: ys) H1 (fun _ H2 => t { nx := fun _ H' => Q .non H', rt := Q } (startF N vs [none]) H2) (fun _ _ _ => False)) :
    FnR P w K mg base (L2.CX P w) (k + 1) f (fun vs H Q E => ∃ ws rest, vs = ws ++ rest ∧ ws.length = ps.length ∧ rest.length ≤ sizeLine ∧ ∀ p, H p = Option.none → sp (ws ++ [V.ref p]) (upd H p (.tup rest)) Q E) := by
  obtain ⟨oc, od, kV, doc, pm, an, ct, osl, rfl, lk⟩ := FC.ex
  intro A outer s H us vs Q E hr e0 r hsp
  obtain ⟨ws, rest', ev, hl, hz, hq⟩ := hsp
  subst ev
  obtain ⟨u1, u2, eu, r1, r2⟩ := vals_split r
  subst eu
  have KX : K.In s.heap := e0.mod.kin.keeps fun b o e => (e0.bs b o e).1
  have hn : H s.heap.objs.size = Option.none := e0.hok.fresh (Nat.le_refl _)
  have hl1 : u1.length = ps.length := by rw [← r1.length]; exact hl
  have hl2 : u2.length ≤ sizeLine := by rw [← r2.length]; exact hz
  have new : ObjOk P w (upd H s.heap.objs.size (.tup rest')) (s.heap.push ({ cls := .type "tuple", data := .seq u2.toArray } : Obj)) s.heap.objs.size (.tup rest') := ⟨hz, u2, r2, ⟨_, Heap.get?_push_size _ rfl, rfl, _, rfl⟩⟩
  have un := un_laid (fs := frs outer) (s := s) (o := ({ cls := .type "tuple", data := .seq u2.toArray } : Obj)) (u := .tup rest') hn
  have e2 := env0_laid e0 new
  have lim2 : (s.heap.push ({ cls := .type "tuple", data := .seq u2.toArray } : Obj)).NoLimit := e0.mod.nolimit.keeps fun b o e => (e2.bs b o e).1
  have hsp := hq _ hn
  refine codeAny_call_function hr.depth (KX _ _ lk) rfl S.co S.gen rfl (PySem.W.codeRec_of KX FC.cd) ?_
  rw [hb u1 u2 hl1]
  refine wpAny_bind (wpAny_newTuple (wpAny_pure ?_) hl2)
  have r3 : Vals (ws ++ [V.ref s.heap.objs.size]) (u1 ++ [Value.ref s.heap.objs.size]) := r1.append (.cons rfl .nil)
  have zz : ps.zip u1 ++ [(pv, Value.ref s.heap.objs.size)] = (ps ++ [pv]).zip (u1 ++ [Value.ref s.heap.objs.size]) := by
    rw [List.zip_append hl1.symm]
    rfl
  rw [zz]
  refine wpAny_newFunctionEnv S.nocell (fun ⟨n, _⟩ hy => S.par n (List.of_mem_zip hy).1) (fun h₀ hns₀ hsb₀ => ⟨lim2.fresh _ hsb₀, ?_⟩) S.kind
  refine codeAny_mono (ks_codeAny_funcAt (R := CR (L2.CX P w) outer P w (upd H s.heap.objs.size (.tup rest')) { s with heap := s.heap.push ({ cls := .type "tuple", data := .seq u2.toArray } : Obj) } Q E) (sup_core S SU G hst hself hks hkc he hi hs hse lk hr e2 r3 (len _ _ _ _ hsp) hns₀ (fun b o e => hsb₀.extBut b o (Nat.ne_of_lt (Heap.lt_size e)) (Heap.get?_push_of_some _ e)) (hbody A outer _ _ _ Q E (hr.deeper _) hsp))) fun res s' h => ?_
  match res, h with
  | .error e, h => exact cxUp outer s H { s with heap := s.heap.push ({ cls := .type "tuple", data := .seq u2.toArray } : Obj) } _ E e s' un (fun b o q => Heap.get?_push_of_some _ q) rfl h
  | .ok (.ret u), ⟨v', H', a1, a2, a3, a4, a5, a6⟩ => exact ⟨v', H', a1, a2, un.trans a3, a4, a5, a6⟩
end
end Sea

set_option Elab.async false
set_option linter.all false
set_option maxRecDepth 100000
set_option maxHeartbeats 4000000
/-! set(list of ints), sorted(tuple of ints), t[::-1] -/
namespace Sea
open PySem PySem.Spec PyProof.Rows L2
section
variable {P : Program} {w : World} {A : Around} {E : Value → Shared → Prop} {s : Shared}
/-- a set just made -/
abbrev bareSet (w : World) : Obj := { cls := .type "set", dict := none, data := .set #[] 0 (.fresh 0 0 (!w.params.followText "set-order")) }
/-- the set made is filled from a walk over ints: set.__init__ at the list l -/
theorem fill_list {l : Addr} {items : Array Value} (ns : List Int) {R : Result → Shared → Prop} (hh : A.handled = none) (hl : s.heap.IsList l items) (hi : IntsAre items.toList ns) (few : ns.length + 1 < scanBound)
    (h : ∀ (h' : Heap) (tk c : Nat), SetR w h' s.heap.objs.size (fun j => decide (j ∈ ns)) c → c ≤ ns.length → (∀ b o, s.heap.get? b = some o → h'.get? b = some o) → R (.ok (.ret .none)) { s with heap := h', toks := tk }) :
    codeAny (model P w) A (.call (.builtin "set.__init__") ⟨[.ref s.heap.objs.size, .ref l], []⟩) R { s with heap := s.heap.push (bareSet w) } := by
  have many : items.size = ns.length := by rw [← Array.length_toList]; exact IntsAre.length hi
  have made : (s.heap.push (bareSet w)).get? s.heap.objs.size = some (bareSet w) := Heap.get?_push_size _ rfl
  have still : (s.heap.push (bareSet w)).IsList l items := hl.push _
  have below : l < s.heap.objs.size := hl.choose_spec.1 |> Heap.lt_size
  have grown : (s.heap.push (bareSet w)).objs.size = s.heap.objs.size + 1 := Heap.size_push ..
  obtain ⟨⟨ocls, odict, odata, oslots⟩, at_, oc, nl, od⟩ := id still
  obtain rfl : ocls = _ := oc
  obtain rfl : odata = _ := od
  have notSet := F.sub_list_set
  have notFrozen := F.sub_list_frozenset
  have notDict : (Value.type "list" == Value.type "dict") = false := by decide
  refine codeAny_call_builtin F.called_set.init.plain F.entry_set_init (check_set_init_1 ⟨_, made, rfl⟩ ?_)
  unfold Builtin.«set.__init__» noKeywords Builtin.Frozenset.updateFrom
  generalize hPI : pyIter = PI
  wp_walk
  subst hPI
  refine wpAny_pyIter_list still (wpAny_bind (wpAny_runValue ?_))
  have item : ∀ (i : Nat) (v : Value), items[i]? = some v → ∃ k t, ns[i]? = some k ∧ v = .int k t := by
    intro i v hv
    obtain ⟨t, e⟩ := IntsAre.int_at hi i v (by rwa [Array.getElem?_toList])
    have lt : i < ns.length := many ▸ (Array.getElem?_eq_some_iff.mp hv).1
    exact ⟨ns[i], t, List.getElem?_eq_getElem lt, by rw [e, List.getD_eq_getElem?_getD, List.getElem?_eq_getElem lt]; rfl⟩
  have walk := Walks.list (prog := P) (w := w) (A := A.in1.in1) (by exact hh) (s.heap.push (bareSet w)).objs.size l (by rw [grown]; exact Nat.ne_of_lt (Nat.lt_succ_of_lt below)) items
  refine set_update_ints walk.toS s.heap.objs.size ?_ ns many few item (items.size - 0) 0 _ rfl (Nat.zero_le _) ⟨⟨_, Heap.get?_push_size _ rfl, rfl, rfl⟩, still.push _⟩ ⟨0, Nat.le_refl 0, setR_new_at (Heap.get?_push_of_some _ made)⟩ ?_
  · simp only [grown, List.mem_cons, List.not_mem_nil, or_false, not_or]
    exact ⟨Nat.ne_of_lt (Nat.lt_succ_self _), Nat.ne_of_gt below⟩
  · rintro ⟨h', g2, d', tk', os'⟩ c moved le full
    obtain rfl : g2 = s.gens := moved.gens
    obtain rfl : d' = s.drawn := moved.drawn
    obtain rfl : os' = s.os := moved.os
    refine wpAny_pure (wpAny_pure (h h' tk' c full (many ▸ le) fun b o e => moved.heap b o ?_ (Heap.get?_push_of_some _ (Heap.get?_push_of_some _ e))))
    have old := Heap.lt_size e
    simp only [grown, List.mem_cons, List.not_mem_nil, or_false, not_or]
    exact ⟨Nat.ne_of_lt old, Nat.ne_of_lt (Nat.lt_succ_of_lt old)⟩
/-- set(l), l a list of ints -/
theorem set_listR {l : Addr} {items : Array Value} (ns : List Int) {Q : Value → Shared → Prop} (hh : A.handled = none) (hl : s.heap.IsList l items) (hi : IntsAre items.toList ns) (few : ns.length + 1 < scanBound)
    (h : ∀ (h' : Heap) (tk c : Nat), SetR w h' s.heap.objs.size (fun j => decide (j ∈ ns)) c → c ≤ ns.length → (∀ b o, s.heap.get? b = some o → h'.get? b = some o) → Q (.ref s.heap.objs.size) { s with heap := h', toks := tk }) :
    wpAny (model P w) A (call (.type "set") [.ref l]) Q E s := by
  have ⟨c, tl, hmro⟩ := F.called_set.mro
  have hmade := F.called_set.made
  have hsub := F.called_set.sub
  have h1 := F.called_set.notType
  have h2 := F.called_set.canCreate
  have hct := F.typeCall_set_1 (.ref l)
  have isSet : Shared.TypeIs { s with heap := s.heap.push (bareSet w) } (.ref s.heap.objs.size) "set" := ⟨_, Heap.get?_push_size _ rfl, rfl⟩
  have find := F.called_set.init.lookup
  have bind := F.called_set.init.bind (.ref s.heap.objs.size)
  apply wpAny_call
  apply codeAny_of_tree
  show wpAny _ _ (callAny (.type "set") _) _ _ _
  apply wpAny_pure
  refine ⟨Code.quiet_builtin _ (by decide +kernel), codeAny_builtin F.entry_type_call ?_⟩
  rw [Around.under_plain (weight_type_call_type "set" [.ref l] []) rfl]
  repeat (any_goals (first | assumption | wp_step))
  refine codeAny_mono (code_set_led1 (.ref l) (E := E) (Q₁ := fun obj s1 => obj = .ref s.heap.objs.size ∧ s1 = { s with heap := s.heap.push (bareSet w) }) ⟨rfl, rfl⟩) ?_
  intro r s1 z
  match r, z with
  | .error _, z => exact z
  | .ok .next, z => exact z.elim
  | .ok .brk, z => exact z.elim
  | .ok .cont, z => exact z.elim
  | .ok (.ret obj), ⟨e1, e2⟩ =>
    subst e1 e2
    repeat (any_goals (first | assumption | wp_step))
    refine codeAny_mono (fill_list (R := wants (fun r s2 => r = .none ∧ Q (.ref s.heap.objs.size) s2) E) ns hh hl hi few fun h' tk c full le old => ⟨rfl, h h' tk c full le old⟩) ?_
    intro r s2 z
    match r, z with
    | .error _, z => exact z
    | .ok .next, z => exact z.elim
    | .ok .brk, z => exact z.elim
    | .ok .cont, z => exact z.elim
    | .ok (.ret _), ⟨e, z⟩ =>
      subst e
      repeat (any_goals (first | assumption | wp_step))
end
end Sea

set_option Elab.async false
set_option linter.all false
set_option maxRecDepth 100000
set_option maxHeartbeats 4000000
/-! set(list of ints), sorted(tuple of ints), t[::-1] -/
namespace Sea
open PySem PySem.Spec PyProof.Rows L2
/-- sorted(t), t a tuple of ints -/
theorem sorted_tuple {P : Program} {w : World} {A : Around} {E : Value → Shared → Prop} {s : Shared} {t : Addr} {vs : List Value} (ns : List Int) {Q : Value → Shared → Prop} (ht : IsTup s.heap t vs.toArray) (hi : IntsAre vs ns) (few : vs.length ≤ 1000)
    (h : ∀ (h1 h' : Heap) (out : Array Value) (c : Nat) (ns' : List Int), (∀ b o, s.heap.get? b = some o → h1.get? b = some o) → (∀ b o, h1.get? b = some o → h'.get? b = some o) → h'.get? h1.objs.size = some (seqObj "list" out c) → IntsAre out.toList ns' → ns'.Perm ns → ns'.Pairwise (· ≤ ·) → Q (.ref h1.objs.size) { s with heap := h' }) :
    wpAny (model P w) A (call (.builtin "sorted") [.ref t]) Q E s := by
  have line : vs.length ≤ sizeLine := by rw [sizeLine_eq]; omega
  obtain ⟨o, at_, oc, n, od⟩ := id ht
  apply Calls.call_function_entry kind_sorted plain_sorted entry_sorted (args_sorted1 _)
  unfold Builtin.«sorted»
  refine wpAny_bind (m := checkCount "sorted" 1 1 _) (wpAny_pure (wpAny_bind (wpAny_collect_seq t (.inr rfl) at_ oc od (fun h1 old => ?_) (by rwa [List.size_toArray]))))
  rw [List.toList_toArray]
  refine wpAny_bind (wpAny_newList ?_ line)
  have made : (h1.push (seqObj "list" vs.toArray 0)).get? h1.objs.size = some (seqObj "list" vs.toArray 0) := Heap.get?_push_size _ rfl
  refine wpAny_bind (wpAny_holding (wpAny_call_entry slot_list_sort ⟨_, made, rfl⟩ entry_list_sort (list_sort_treeAny made hi line fun out ns' a b c => ⟨_, rfl, ?_⟩) (args_list_sort _)))
  obtain ⟨c', there⟩ := sortedHeap_at (vs := vs) (out := out) made
  refine wpAny_pure ⟨_, rfl, h h1 _ out c' ns' old (fun b o e => ?_) there a b c⟩
  have lt := Heap.lt_size e
  exact (sortedHeap_old (Nat.ne_of_lt lt) (by rw [size_push']; exact Nat.lt_succ_of_lt lt)).trans (Heap.get?_push_of_some _ e)
section
variable {X : Cx}
def rSortedT (K : PySem.W.Frag) : List V → Hp → VK → Prop := fun vs H Q => ∃ (a : Addr) (ns : List Int), vs = [.ref a] ∧ SqT K H a (ns.map V.int) ∧ ns.length ≤ 1000 ∧ ∀ (ns' : List Int) (p : Addr), ns'.Perm ns → ns'.Pairwise (· ≤ ·) → H p = none → Q (.ref p) (upd H p (.lst (ns'.map V.int)))
theorem cr_sortedT : CallR X (.builtin "sorted") (rSortedT X.K) := by
  rintro pins s σ H _ us Q I r ⟨a, ns, rfl, ht, few, q⟩
  obtain ⟨its, rv, pt, _⟩ := I.tuple ht
  rw [Vals.ref1 r]
  have many : its.length = ns.length := by rw [← rv.length, List.length_map]
  refine sorted_tuple ns pt rv.ints (by omega) ?_
  intro h1 h' out c ns' old new there whole perm rising
  have J : Inv X pins σ H { s with heap := h1, toks := s.toks } := I.kept (t' := s.toks) old
  have fits : (ns'.map V.int).length ≤ sizeLine := by rw [List.length_map, perm.length_eq, sizeLine_eq]; omega
  exact ⟨.ref h1.objs.size, _, J.laid (t' := s.toks) (o := .lst (ns'.map V.int)) new (Nat.le_refl _) ⟨fits, out.toList, c, vals_of_ints whole, there⟩, rfl, q ns' _ perm rising (J.hok.fresh (Nat.le_refl _))⟩
def rSetL (K : PySem.W.Frag) (w : World) : List V → Hp → VK → Prop := fun xs H Q => ∃ (p : Addr) (ns : List Int), xs = [.ref p] ∧ SqL K H p (ns.map V.int) ∧ ns.length ≤ 1000 ∧ ∀ (a : Addr) (c : Nat), H a = none → c ≤ ns.length → Q (.ref a) (upd H a (SetO w a (fun j => decide (j ∈ ns)) c))
theorem cr_setL (calm : X.calm = true) : CallR X (.type "set") (rSetL X.K X.w) := by
  rintro pins s σ H _ us Q I r ⟨p, ns, rfl, hl, few, q⟩
  obtain ⟨its, rv, there, _⟩ := I.list hl
  rw [Vals.ref1 r]
  refine set_listR (items := its.toArray) ns (I.ok.hd calm) there.isList (by simpa using rv.ints) (by unfold scanBound; omega) ?_
  intro h' tk c full le old
  exact ⟨.ref s.heap.objs.size, _, I.laid (t' := tk) (a := s.heap.objs.size) old (Nat.le_refl _) (setO_new full), rfl, q _ c (I.hok.fresh (Nat.le_refl _)) le⟩
/-! ### t[::-1] -/
theorem back_pick (xs : Array Value) : ((List.range xs.size).filterMap fun (k : Nat) => xs[(((xs.size : Int) - 1) + (k : Int) * (-1)).toNat]?) = xs.toList.reverse := by
  have each : ∀ k ∈ List.range xs.size, xs[(((xs.size : Int) - 1) + (k : Int) * (-1)).toNat]? = some (xs.toList.reverse.getD k .none) := by
    intro k hk
    have lt : k < xs.size := List.mem_range.mp hk
    have e : (((xs.size : Int) - 1) + (k : Int) * (-1)).toNat = xs.size - 1 - k := by omega
    rw [e, List.getD_eq_getElem?_getD, List.getElem?_reverse (by simpa using lt)]
    simp only [Array.length_toList, Array.getElem?_toList]
    rw [Array.getElem?_eq_getElem (by omega)]
    rfl
  have go : ∀ (l : List Nat) (f : Nat → Option Value) (g : Nat → Value), (∀ k ∈ l, f k = some (g k)) → l.filterMap f = l.map g := by
    intro l f g
    induction l with
    | nil => exact fun _ => rfl
    | cons k l ih =>
      intro hk
      rw [List.filterMap_cons, hk k List.mem_cons_self, List.map_cons, ih fun j hj => hk j (List.mem_cons_of_mem _ hj)]
  rw [go _ _ _ each]
  refine List.ext_getElem (by simp) fun i h1 h2 => ?_
  rw [List.getElem_map, List.getElem_range, List.getD_eq_getElem?_getD, List.getElem?_eq_getElem h2]
  rfl
theorem getItem_back {P : Program} {w : World} {A : Around} {E : Value → Shared → Prop} {s : Shared} {t sl : Addr} {items : Array Value} {u : Tok} {Q : Value → Shared → Prop} (ht : IsTup s.heap t items) (hs : s.heap.IsSliceOf sl .none .none (.int (-1) u)) (fits : items.size ≤ sizeLine)
    (h : Q (.ref s.heap.objs.size) { s with heap := s.heap.push { cls := .type "tuple", data := .seq items.toList.reverse.toArray } }) : wpAny (model P w) A (getItem (.ref t) (.ref sl)) Q E s := by
  have ⟨os, at_, oc, od⟩ := hs
  have isSl : s.TypeIs (.ref sl) "slice" := ⟨os, at_, oc⟩
  unfold getItem
  refine wpAny_holding (wpAny_bind (wpAny_sequenceKey ht.typeIs (by decide) ?_))
  refine wpAny_bind (wpAny_callSpecial?_slot (name := Str.ofString "__getitem__") ht.typeIs slot_tuple_getitem (wpAny_call_entry slot_tuple_getitem ht.typeIs PyProof.Rows.entry_tuple_getitem ?_ (PyProof.Rows.args_tuple_getitem _ _)))
  show wpAny _ _ (Builtin.Tuple.tupleItemsOf (.ref t) >>= _) _ _ s
  refine wpAny_bind (tupleItemsOf_ ht (wpAny_bind (wpAny_typeOf isSl ?_)))
  rw [if_pos (by decide)]
  have part : ∀ {A : Around} {E : Value → Shared → Prop} {Q : Option Int → Shared → Prop}, Q (some (-1)) s → wpAny (model P w) A (Builtin.Slice.slicePartIndex (.int (-1) u)) Q E s := fun q => slicePart_int q
  unfold Builtin.Slice.sliceApplied Builtin.Slice.sliceFields
  refine wpAny_bind (wpAny_bind (wpAny_bind (wpAny_field at_ od (x := .none) rfl (wpAny_bind (wpAny_field at_ od (x := .none) rfl (wpAny_bind (wpAny_field at_ od (x := .int (-1) u) rfl (wpAny_pure ?_))))))))
  refine wpAny_bind (part (show wpAny _ _ (if ((-1 : Int) == 0) = true then _ else _) _ _ s from ?_))
  rw [if_neg (by decide)]
  have nope : ∀ {A : Around} {E : Value → Shared → Prop} {Q : Option Int → Shared → Prop}, Q none s → wpAny (model P w) A (Builtin.Slice.slicePartIndex .none) Q E s := fun q => slicePart_none q
  have places : Builtin.Slice.slicePlaces ((items.size : Int) - 1) (-1) (-1) = items.size := by
    unfold Builtin.Slice.slicePlaces
    rw [if_neg (by decide)]
    rw [show (-(-1) : Int) = 1 by decide, Int.ediv_one]
    split <;> omega
  refine wpAny_bind (nope (wpAny_bind (nope (wpAny_bind (wpAny_pure ?_)))))
  show wpAny _ _ (pure (((items.size : Int) - 1), (-1 : Int), Builtin.Slice.slicePlaces ((items.size : Int) - 1) (-1) (-1))) _ _ s
  rw [places]
  refine wpAny_pure ?_
  have notAll : ¬ (((((items.size : Int) - 1) == 0) && ((-1 : Int) == 1) && (items.size == items.size)) = true) := by simp
  dsimp only
  rw [if_neg notAll, back_pick]
  have size : items.toList.reverse.toArray.size ≤ sizeLine := by simpa using fits
  exact wpAny_bind (m := Builtin.Tuple.tupleExact _) (wpAny_newObj_type (wpAny_pure ⟨_, rfl, wpAny_pure h⟩) size)
/-- t[::-1] -/
def tRevT (K : PySem.W.Frag) (te : TE) : TE := fun σ H Q => te σ H fun x H1 => ∃ a xs, x = .ref a ∧ SqT K H1 a xs ∧ ∀ p, H1 p = none → Q (.ref p) (upd H1 p (.tup xs.reverse))
theorem pe_revT {e : Expr} {te : TE} {k : Nat} {p1 p2 p3 pos : Pos} (he : PE X e te) : PE X (.Subscript e (.Slice none none (some (.UnaryOp .USub (.Constant (.int 1) k p1) p2)) p3) pos) (tRevT X.K te) := by
  constructor
  intro pins s σ H Q I h
  have step : PO X (some (.UnaryOp .USub (.Constant (.int 1) k p1) p2)) (tPart (tUn (rU fun i => .int (-i)) (tC (.int 1)))) := po_some (pe_un un_neg pe_int)
  refine Subscript_ (thn (he.run pins s σ H _ I h) ?_)
  rintro v s1 ⟨x, H1, I1, r1, a, xs, rfl, hx, q⟩
  obtain rfl : v = .ref a := r1
  apply wpAny_Slice
  refine thn (po_none.run pins s1 σ H1 (fun o H2 => (o, H2) = (none, H1)) I1 rfl) ?_
  rintro vl s2 ⟨_, _, I2, pl, e⟩
  cases e
  refine thn (po_none.run pins s2 σ H1 (fun o H2 => (o, H2) = (none, H1)) I2 rfl) ?_
  rintro vu s3 ⟨_, _, I3, pu, e⟩
  cases e
  refine thn (step.run pins s3 σ H1 (fun o H2 => (o, H2) = (some (-1), H1)) I3 ⟨1, rfl, -1, rfl, rfl⟩) ?_
  rintro vs s4 ⟨_, _, I4, ps, e⟩
  cases e
  cases pl
  cases pu
  cases ps
  rename_i u
  have I5 : Inv X pins σ H1 { s4 with heap := s4.heap.push { cls := .type "slice", data := .fields #[.none, .none, .int (-1) u] } } := I4.kept (t' := s4.toks) fun _ _ z => Heap.get?_push_of_some _ z
  obtain ⟨its, r, ht, hz⟩ := I5.tuple hx
  have many : its.toArray.size ≤ sizeLine := by rw [List.size_toArray, ← r.length]; exact hz
  refine tail_any (ops := [.ref a, .ref s4.heap.objs.size]) ht.typeIs slot_tuple_getitem.lookup ?_ (by with_unfolding_all rfl)
  refine getItem_back ht (Heap.IsSliceOf.new _ _ _ _) many ?_
  exact ⟨.ref _, _, I5.laid (t' := s4.toks) (o := .tup xs.reverse) (fun _ _ z => Heap.get?_push_of_some _ z) (Nat.le_refl _) ⟨by rw [List.length_reverse]; exact hz, _, r.reverse, (show IsTup _ _ _ from ⟨_, Heap.get?_push_size _ rfl, rfl, 0, rfl⟩)⟩, rfl, q _ (I5.hok.fresh (Nat.le_refl _))⟩
end
end Sea

set_option Elab.async false
set_option linter.all false
set_option maxRecDepth 100000
set_option maxHeartbeats 4000000
/-! generators: if and for within the body -/
namespace Sea
open PySem PySem.Spec PyProof.Rows L2
section
variable {X : Cx} {pos : Pos}
/-- if c: a else: b, either may hand out -/
def tGIf (c : TT) (t u : TGn) : TGn := fun D ys σ H => c σ H fun b H1 => match b with
  | true => t D ys σ H1
  | false => u D ys σ H1
theorem gs_if {c : Expr} {a b : List Stmt} {tc : TT} {t u : TGn} (hc : PT X c tc) (ha : GSs X a t) (hb : GSs X b u) : GS X (.If c a b pos) (tGIf tc t u) := by
  constructor
  intro A S ip R n ys s0 code fs K J gd lv s σ H D g hn k ⟨acc, cc, r, I⟩ ht
  rw [exec_If]
  apply seg_bind_wrap
  apply wpAny_standAt
  apply seg_bind_wrap
  rw [g.over]
  refine wpAny_mono (hc.run _ s σ H _ I ht) ?_ fun x s1 hx => k.exc n s0 x s1 hx
  rintro b s1 ⟨H1, I1, q⟩
  match b, q with
  | true, q => exact ha.run A S ip R n ys s0 code fs K J gd lv s1 σ H1 D g hn k ⟨acc, cc, r, I1⟩ q
  | false, q => exact hb.run A S ip R n ys s0 code fs K J gd lv s1 σ H1 D g hn k ⟨acc, cc, r, I1⟩ q
/-- for x in e: body, the body may hand out -/
def tGFor (wi : TI) (g : TG) (tb : TGn) : TGn := fun D ys σ H => wi σ H fun J H1 => ∃ W : Nat → Nat → List V → L2.St → Hp → Prop, (∃ m, W 0 m ys σ H1) ∧ ∀ i m ys σ H, W i m ys σ H →
  (J.stop i H ∧ D.nx ys σ H) ∨ (J.go i H ∧ ∃ N : List V → L2.St → Hp → Prop, (∀ ys σ H, N ys σ H → ∃ m', m' < m ∧ W (i + 1) m' ys σ H) ∧ ∀ x H1, J.yld i H x H1 → g x σ H1 fun σ2 H2 => tb { D with nx := N, ct := N, bk := D.nx } ys σ2 H2)
/-- the iterator of such a loop: its objects stand apart from the consumer's list and are the heap's alone -/
structure Own (X : Cx) (S : Addr) (ip : List (Addr × Obj)) (fp : List Addr) : Prop where
  no : ∀ b ∈ fp, b ≠ S
  fp : ∀ b ∈ fp, b ≠ X.env.locals ∧ b ∉ X.fs ∧ (b ∈ X.ex ∨ X.s_0.heap.objs.size ≤ b) ∧ (∀ x c, X.env.cells.lookup x = some c → c ≠ b) ∧ ∀ p ∈ X.pn ++ ip, p.1 ≠ b
theorem Own.at {S : Addr} {ip : List (Addr × Obj)} {fp : List Addr} (o : Own X S ip fp) {H : Hp} (hn : ∀ b ∈ fp, H b = none) (oS : Obj) : ∀ b ∈ fp, FpOk X ((S, oS) :: ip) H b := by
  intro b hb
  obtain ⟨a1, a2, a3, a4, a5⟩ := o.fp b hb
  refine ⟨hn b hb, a1, a2, a3, a4, fun p hp => ?_⟩
  rcases List.mem_append.mp hp with z | z
  · exact a5 p (List.mem_append_left _ z)
  · rcases List.mem_cons.mp z with z | z
    · rw [z]
      exact (o.no b hb).symm
    · exact a5 p (List.mem_append_right _ z)
theorem Own.of {S : Addr} {oS : Obj} {ip : List (Addr × Obj)} {fp : List Addr} {H : Hp} (h : ∀ b ∈ fp, FpOk X ((S, oS) :: ip) H b) : Own X S ip fp where
  no b hb := ((h b hb).2.2.2.2.2 (S, oS) (List.mem_append_right _ List.mem_cons_self)).symm
  fp b hb := by
    obtain ⟨_, a1, a2, a3, a4, a5⟩ := h b hb
    refine ⟨a1, a2, a3, a4, fun p hp => a5 p ?_⟩
    rcases List.mem_append.mp hp with z | z
    · exact List.mem_append_left _ z
    · exact List.mem_append_right _ (List.mem_cons_of_mem _ z)
theorem gs_for {tg iter : Expr} {body : List Stmt} {wi : TI} {gt : TG} {tb : TGn} (hp : PassesOwn (model X.prog X.w) X.A X.env X.xe) (calm : X.calm = true) (hi : PI X tg iter wi) (hg : PG X tg gt) (hb : GSs X body tb)
    (hs : ∀ x, foldedSetIterable iter X.env x = pure x := by intro _; rfl) : GS X (.For tg iter body [] pos) (tGFor wi gt tb) := by
  constructor
  intro A S ip R n ys s0 code fs K J gd lv s σ H D g hn k ⟨acc, cc, r, I⟩ ht
  rw [exec_For]
  apply seg_bind_wrap
  apply wpAny_standAt
  apply seg_bind_wrap
  rw [g.over]
  refine wpAny_mono (hi.run _ s σ H _ I ht) ?_ fun x s1 hx => k.exc n s0 x s1 hx
  intro v s1 made
  apply seg_bind_wrap
  rw [hs v]
  apply wpAny_pure
  apply seg_bind_wrap
  apply wpAny_standAt
  apply seg_bind_wrap
  rw [g.over]
  apply wpAny_holding
  refine wpAny_mono made ?_ fun x s2 hx => k.exc n s0 x s2 hx
  rintro _ s2 ⟨it, fp, tn, Jt, H2, rfl, I2, T, st2, f2, W, ⟨m0, w0⟩, turn⟩
  have own := Own.of f2
  apply seg_call
  intro p
  have leave : ∀ (n : Nat) (s0 : Shared) (x : Value) (s : Shared), X.xe x s → Seg (model X.prog X.w) A R (GY X S) n s0 (.forLoop tg (.ref it) body [] X.env) ((do noteFrame x X.env; theTreesLotGoes x : Sem Unit).wrap (fun _ => .raise x) .raise id id)
      (.ret (fun r => ((match r with | .ok f => (.pure f : Sem Flow) | .error e => .raise e).onRaise (cameBack X.env)).wrap K J gd lv) none (gd false) (lv []) code p [] :: fs) s := by
    intro n s0 x s hx
    have gl := gc_loop (k := fun r => ((match r with | .ok f => (.pure f : Sem Flow) | .error e => .raise e).onRaise (cameBack X.env)).wrap K J gd lv) (c' := .forLoop tg (.ref it) body [] X.env) (l := lv []) (kp := []) (p := p) g rfl rfl
    apply seg_wrap
    rw [gl.over]
    apply wpAny_bind
    refine wpAny_mono (hp x s hx) (fun _ s1 back => wpAny_theTreesLotGoes ?_) fun y s1 back => ?_
    · exact seg_leaf (.error x) (seg_cameBack g k back)
    · exact seg_leaf (.error y) (seg_cameBack g k back)
  have gl := gc_loop (k := fun r => ((match r with | .ok f => (.pure f : Sem Flow) | .error e => .raise e).onRaise (cameBack X.env)).wrap K J gd lv) (c' := .forLoop tg (.ref it) body [] X.env) (l := lv []) (kp := []) (p := p) g rfl rfl
  have loop : ∀ (m n i : Nat) (ys : List V) (s0 s : Shared) (σ : L2.St) (H : Hp), n + ys.length = sizeLine → tn i s.heap → (∀ b ∈ fp, H b = none) → W i m ys σ H → GI X S ip ys σ H s →
      Seg (model X.prog X.w) A R (GY X S) n s0 (.forLoop tg (.ref it) body [] X.env) ((model X.prog X.w).den (.forLoop tg (.ref it) body [] X.env))
        (.ret (fun r => ((match r with | .ok f => (.pure f : Sem Flow) | .error e => .raise e).onRaise (cameBack X.env)).wrap K J gd lv) none (gd false) (lv []) code p [] :: fs) s := by
    intro m
    induction m using Nat.strongRecOn with
    | ind m ih =>
    rintro n i ys s0 s σ H hn st free w ⟨acc, cc, r, I⟩
    show Seg _ _ _ _ _ _ _ ((forTurn tg (.ref it) body [] X.env).onRaise (fun x => do noteFrame x X.env; theTreesLotGoes x)) _ s
    rw [Sem.onRaise_eq_wrap]
    unfold forTurn
    apply seg_bind_wrap
    apply wpAny_standAt
    apply seg_bind_wrap
    rw [gl.over]
    apply wpAny_onRaise
    have gone : ∀ (n : Nat) (s0 : Shared) (x : Value) (s : Shared), X.xe x s → Seg (model X.prog X.w) A R (GY X S) n s0 (.forLoop tg (.ref it) body [] X.env) ((do noteFrame x X.env; theTreesLotGoes x : Sem Unit).bind (fun _ => .raise x))
      (.ret (fun r => ((match r with | .ok f => (.pure f : Sem Flow) | .error e => .raise e).onRaise (cameBack X.env)).wrap K J gd lv) none (gd false) (lv []) code p [] :: fs) s := fun n s0 x s hx => by
      rw [Sem.bind_eq_wrap]
      exact leave n s0 x s hx
    rcases turn i m ys σ H w with ⟨stop, q⟩ | ⟨go, N, less, each⟩
    · refine wpAny_mono (T.done X rfl rfl rfl calm i _ s σ H X.xe I (own.at free _) st stop) ?_ fun x s hx => wpAny_standAt (gone n s0 x s hx)
      rintro _ s1 ⟨rfl, I1⟩
      show Seg _ _ _ _ _ _ _ (.pure (.again (.block [] X.env))) _ s1
      apply seg_again rfl
      show Seg _ _ _ _ _ _ _ (leafOf (.ok .next)) _ s1
      exact seg_leaf (.ok .next) (k.ok n ys s0 s1 .next hn ⟨σ, H, ⟨acc, cc, r, I1⟩, q⟩)
    · refine wpAny_mono (T.item X rfl rfl rfl calm i _ s σ H X.xe I (own.at free _) st go) ?_ fun x s hx => wpAny_standAt (gone n s0 x s hx)
      rintro _ s1 ⟨u, rfl, h4⟩
      apply seg_bind_wrap
      rw [gl.over]
      refine wpAny_mono h4 ?_ fun x s hx => gone n s0 x s hx
      rintro _ s2 ⟨x, H5, I5, r5, y5, st5, free5⟩
      have pinned := I5.pinned (own.at free5 _) (T.obj _ _ st5)
      apply seg_bind_wrap
      rw [gl.over]
      refine wpAny_mono (hg.run _ s2 σ H5 x u _ pinned r5 (each x H5 y5)) ?_ fun x s hx => gone n s0 x s hx
      rintro _ s3 ⟨σ6, H6, I6, q6⟩
      have again : ∀ (ys' : List V) (s' : Shared) (σ7 : L2.St) (H7 : Hp) (n' : Nat) (s0' : Shared), n' + ys'.length = sizeLine → GI X S (ip ++ pinsAt fp s2.heap) ys' σ7 H7 s' → N ys' σ7 H7 → Seg (model X.prog X.w) A R (GY X S) n' s0' (.forLoop tg (.ref it) body [] X.env) (.pure (.again (.forLoop tg (.ref it) body [] X.env)))
          (.ret (fun r => ((match r with | .ok f => (.pure f : Sem Flow) | .error e => .raise e).onRaise (cameBack X.env)).wrap K J gd lv) none (gd false) (lv []) code p [] :: fs) s' := by
        rintro ys' s' σ7 H7 n' s0' hn' ⟨acc', cc', r', I7⟩ n7
        obtain ⟨m', lt, w7⟩ := less ys' σ7 H7 n7
        have stay : ∀ b ∈ fp, ∀ o, s2.heap.get? b = some o → s'.heap.get? b = some o ∧ H7 b = none := fun b hb o e => by
          have := I7.pin (b, o) (List.mem_append_right _ (List.mem_cons_of_mem _ (List.mem_append_right _ (mem_pinsAt hb e))))
          exact ⟨this.1, this.2.1⟩
        refine seg_again rfl (ih m' lt n' (i + 1) ys' s0' s' σ7 H7 hn' (T.keep _ _ _ st5 fun b hb o e => (stay b hb o e).1) (fun b hb => ?_) w7 ⟨acc', cc', r', I7.unpinned (pins := (S, lstObj acc' cc') :: ip) (pl := pinsAt fp s2.heap)⟩)
        obtain ⟨o, e, _⟩ := T.obj _ _ st5 b hb
        exact (stay b hb o e).2
      have inner : GC X S (ip ++ pinsAt fp s2.heap) A (.forLoop tg (.ref it) body [] X.env) (.ret (fun r => ((match r with | .ok f => (.pure f : Sem Flow) | .error e => .raise e).onRaise (cameBack X.env)).wrap K J gd lv) none (gd false) (lv []) code p [] :: fs) id :=
        { gl with ip := fun p hp => (List.mem_append.mp hp).elim (g.ip p) fun z => own.no _ (of_pinsAt z).1 }
      have weaker : ∀ {ys' σ7 H7 s'}, GI X S (ip ++ pinsAt fp s2.heap) ys' σ7 H7 s' → GI X S ip ys' σ7 H7 s' := fun ⟨acc', cc', r', I7⟩ => ⟨acc', cc', r', I7.unpinned (pins := (S, lstObj acc' cc') :: ip) (pl := pinsAt fp s2.heap)⟩
      rw [Sem.bind_eq_wrap', Sem.wrap_wrap]
      refine hb.run A S (ip ++ pinsAt fp s2.heap) R n ys s0 _ _ _ _ _ _ s3 σ6 H6 { D with nx := N, ct := N, bk := D.nx } inner hn ⟨?_, ?_⟩ ⟨acc, cc, r, I6⟩ q6
      · intro n' ys' s0' s' f hn' end_
        match f, end_ with
        | .next, ⟨σ7, H7, J7, n7⟩ => exact again ys' s' σ7 H7 n' s0' hn' J7 n7
        | .cont, ⟨σ7, H7, J7, n7⟩ => exact again ys' s' σ7 H7 n' s0' hn' J7 n7
        | .brk, ⟨σ7, H7, J7, q7⟩ => exact seg_leaf (.ok .next) (k.ok n' ys' s0' s' .next hn' ⟨σ7, H7, weaker J7, q7⟩)
        | .ret v, ⟨x7, σ7, H7, J7, r7, q7⟩ => exact seg_leaf (.ok (.ret v)) (k.ok n' ys' s0' s' (.ret v) hn' ⟨x7, σ7, H7, weaker J7, r7, q7⟩)
      · exact fun n' s0' x s' hx => gone n' s0' x s' hx
  exact loop m0 n 0 ys s0 s2 σ H2 hn st2 (fun b hb => (f2 b hb).1) w0 ⟨acc, cc, r, I2⟩
end
end Sea

set_option Elab.async false
set_option linter.all false
set_option maxRecDepth 100000
set_option maxHeartbeats 4000000
/-! generators whose consumer keeps a frame of its own: between two items it writes there, and fills a list. The rules stand for two objects: S the list, C the frame -/
namespace Sea
open PySem PySem.Spec PyProof.Rows L2 GenW
/-- a frame's names -/
def FrO (o : Obj) : Prop := ∃ es ep, o.data = .dict es ep ∧ StrKeys es
theorem FrO.noCell {o : Obj} (h : FrO o) : ∀ v, o.data ≠ .cell v := fun v q => by
  obtain ⟨es, ep, e, _⟩ := h
  rw [e] at q
  cases q
theorem FrO.ns {o : Obj} {h : Heap} {C : Addr} (f : FrO o) (e : h.get? C = some o) : ∃ m, h.Ns C m := by
  obtain ⟨es, ep, e1, e2⟩ := f
  exact ⟨_, o, es, ep, e, e1, e2, fun _ => rfl⟩
theorem frO_ns {h : Heap} {C : Addr} {m : Str → Option Value} (n : h.Ns C m) : ∃ o, h.get? C = some o ∧ FrO o := by
  obtain ⟨o, es, ep, e, e1, e2, _⟩ := n
  exact ⟨o, e, es, ep, e1, e2⟩
structure Duo where
  S : Addr
  C : Addr
  ne : S ≠ C
def CIv (X : Cx) (Z : Duo) (ip : List (Addr × Obj)) (ys : List V) (σ : L2.St) (H : Hp) (s : Shared) : Prop :=
  ∃ (acc : Array Value) (c : Nat) (o : Obj), Vals ys acc.toList ∧ FrO o ∧ Inv X ((Z.S, lstObj acc c) :: (Z.C, o) :: ip) σ H s
/-- what the consumer does while the generator sleeps -/
def Meal (Z : Duo) (v : Value) (s s' : Shared) : Prop := ∃ (h : Heap) (o : Obj), (∀ b u, b ≠ Z.C → s.heap.get? b = some u → h.get? b = some u) ∧ h.get? Z.C = some o ∧ FrO o ∧ Slept Z.S v { s with heap := h } s'
/-- where the generator's code stands, seen from either object -/
structure CC (X : Cx) (Z : Duo) (ip : List (Addr × Obj)) (A : Around) (c : Code) (fs : List Frame) (gd : Bool → Bool) : Prop where
  s : GC X Z.S ip A c fs gd
  c : GC X Z.C ip A c fs gd
theorem CIv.gi {X : Cx} {Z : Duo} {ip : List (Addr × Obj)} {ys : List V} {σ : L2.St} {H : Hp} {s : Shared} (h : CIv X Z ip ys σ H s) : GI X Z.S ip ys σ H s := by
  obtain ⟨acc, c, o, r, _, I⟩ := h
  refine ⟨acc, c, r, I.pins_of fun p hp => I.pin p ?_⟩
  rcases List.mem_cons.mp hp with z | z
  · exact List.mem_append_right _ (z ▸ List.mem_cons_self)
  · exact List.mem_append_right _ (List.mem_cons_of_mem _ (List.mem_cons_of_mem _ z))
theorem CIv.at {X : Cx} {Z : Duo} {ip : List (Addr × Obj)} {ys : List V} {σ : L2.St} {H : Hp} {s : Shared} (h : CIv X Z ip ys σ H s) :
    ∃ o, FrO o ∧ s.heap.get? Z.C = some o ∧ H Z.C = none ∧ Z.C ≠ X.env.locals ∧ Z.C ∉ X.fs := by
  obtain ⟨acc, c, o, r, f, I⟩ := h
  obtain ⟨h1, h2, h3, h4, _⟩ := I.pin (Z.C, o) (List.mem_append_right _ (List.mem_cons_of_mem _ List.mem_cons_self))
  exact ⟨o, f, h1, h2, h3, h4⟩
theorem CIv.woken {X : Cx} {Z : Duo} {ip : List (Addr × Obj)} {ys : List V} {x : V} {v : Value} {σ : L2.St} {H : Hp} {s s' : Shared} {A : Around} {c : Code} {fs : List Frame} {gd : Bool → Bool}
    (h : CIv X Z ip ys σ H s) (g : CC X Z ip A c fs gd) (rv : RelV x v) (z : Meal Z v s s') : CIv X Z ip (ys ++ [x]) σ H s' := by
  obtain ⟨hp, o, kp, eo, fo, sl⟩ := z
  obtain ⟨_, _, _, c2, c3, c4⟩ := h.at
  have own : Z.C ∈ X.ex ∨ X.s_0.heap.objs.size ≤ Z.C := .inr g.c.apart.1
  have mid : GI X Z.S ip ys σ H { s with heap := hp, toks := s.toks } := by
    obtain ⟨acc, cc, r, I⟩ := h.gi
    refine ⟨acc, cc, r, I.turned (it := Z.C) kp c2 c3 own g.c.apart.2.2 fun p m => ?_⟩
    rcases List.mem_append.mp m with m | m
    · exact g.c.pn p m
    · rcases List.mem_cons.mp m with m | m
      · rw [m]
        exact Z.ne
      · exact g.c.ip p m
  obtain ⟨acc, cc, r, I⟩ := mid.woken g.s.pn g.s.ip g.s.apart rv sl
  refine ⟨acc, cc, o, r, fo, I.pins_of fun p m => ?_⟩
  rcases List.mem_cons.mp m with m | m
  · exact I.pin p (List.mem_append_right _ (m ▸ List.mem_cons_self))
  rcases List.mem_cons.mp m with m | m
  · rw [m]
    exact ⟨sl.keep _ _ (Ne.symm Z.ne) eo, c2, c3, c4, fo.noCell⟩
  · exact I.pin p (List.mem_append_right _ (List.mem_cons_of_mem _ m))
/-! ### the rules -/
def CY (X : Cx) (Z : Duo) : Protocol := fun n s0 v s kap => ∃ ys x ip σ H, n + 1 + ys.length = sizeLine ∧ RelV x v ∧ CIv X Z ip ys σ H s ∧ ∀ s', Meal Z v s s' → kap (.send .none) s'
def CEd (X : Cx) (Z : Duo) (ip : List (Addr × Obj)) (D : GEnds) (ys : List V) : Flow → Shared → Prop
  | .next, s => ∃ σ H, CIv X Z ip ys σ H s ∧ D.nx ys σ H
  | .brk, s => ∃ σ H, CIv X Z ip ys σ H s ∧ D.bk ys σ H
  | .cont, s => ∃ σ H, CIv X Z ip ys σ H s ∧ D.ct ys σ H
  | .ret u, s => ∃ v σ H, CIv X Z ip ys σ H s ∧ RelV v u ∧ D.rt ys v H
/-- a run of m (a statement, a suite) reads as t -/
def CRun (X : Cx) (m : Sem Flow) (t : TGn) : Prop := ∀ (A : Around) (Z : Duo) (ip : List (Addr × Obj)) (R : GenEnd) (c : Code) (fs : List Frame) (K : Flow → Sem PySem.Fin) (J : Value → Sem PySem.Fin) (gd : Bool → Bool) (lv : List Value → List Value) (D : GEnds), CC X Z ip A c fs gd →
  (∀ n ys s0 s f, n + ys.length = sizeLine → CEd X Z ip D ys f s → Seg (model X.prog X.w) A R (CY X Z) n s0 c (K f) fs s) → (∀ n s0 e s, X.xe e s → Seg (model X.prog X.w) A R (CY X Z) n s0 c (J e) fs s) →
  ∀ n ys s0 s σ H, n + ys.length = sizeLine → CIv X Z ip ys σ H s → t D ys σ H → Seg (model X.prog X.w) A R (CY X Z) n s0 c (m.wrap K J gd lv) fs s
section
variable {X : Cx} {st : Stmt} {rest : List Stmt} {pos : Pos}
theorem cs_ps {t : TS} (h : PS X st t) : CRun X (exec st X.env) (tPlain t) := by
  intro A Z ip R c fs K J gd lv D g ok exc n ys s0 s σ H hn ⟨acc, cc, o, r, fo, I⟩ ht
  refine seg_wrap ?_
  rw [g.s.over]
  refine wpAny_mono (h.run _ s σ H (D.at ys) I ht) (fun f s1 q => ok n ys s0 s1 f hn ?_) fun x s1 hx => exc n s0 x s1 hx
  match f, q with
  | .next, ⟨σ1, H1, J1, q1⟩ => exact ⟨σ1, H1, ⟨acc, cc, o, r, fo, J1⟩, q1⟩
  | .brk, ⟨σ1, H1, J1, q1⟩ => exact ⟨σ1, H1, ⟨acc, cc, o, r, fo, J1⟩, q1⟩
  | .cont, ⟨σ1, H1, J1, q1⟩ => exact ⟨σ1, H1, ⟨acc, cc, o, r, fo, J1⟩, q1⟩
  | .ret u, ⟨v, σ1, H1, J1, r1, q1⟩ => exact ⟨v, σ1, H1, ⟨acc, cc, o, r, fo, J1⟩, r1, q1⟩
theorem css_nil : CRun X (execs [] X.env) tG0 := fun _ _ _ _ _ _ _ _ _ _ _ _ ok _ n ys s0 s σ H hn I ht => seg_execs_nil (ok n ys s0 s .next hn ⟨σ, H, I, ht⟩)
theorem css_cons {t u : TGn} (a : CRun X (exec st X.env) t) (b : CRun X (execs rest X.env) u) : CRun X (execs (st :: rest) X.env) (tGThen t u) := by
  intro A Z ip R c fs K J gd lv D g ok exc n ys s0 s σ H hn I ht
  refine seg_execs_cons (a A Z ip R c fs _ J gd lv { D with nx := fun ys' σ' H' => u D ys' σ' H' } g (fun n1 ys1 s1 s2 f e q => ?_) exc n ys s0 s σ H hn I ht)
  match f, q with
  | .next, ⟨σ2, H2, I2, q2⟩ => exact b A Z ip R c fs K J gd lv D g ok exc n1 ys1 s1 s2 σ2 H2 e I2 q2
  | .brk, q => exact ok n1 ys1 s1 s2 .brk e q
  | .cont, q => exact ok n1 ys1 s1 s2 .cont e q
  | .ret u, q => exact ok n1 ys1 s1 s2 (.ret u) e q
theorem cs_yield {e : Expr} {yp : Pos} {te : TE} (he : PE X e te) (hco : X.env.scope.isCoroutine = false := by rfl) (hi : interactive X.env = false := by rfl) : CRun X (exec (.Expr (.Yield (some e) yp) pos) X.env) (tGYield te) := by
  intro A Z ip R c fs K J gd lv D g ok exc n ys s0 s σ H hn ⟨acc, cc, o, r, fo, I⟩ ⟨few, ht⟩
  cases n with
  | zero => omega
  | succ n =>
    refine seg_Expr_Yield g.s.split g.s.gd g.s.guard ?_ hco hi
    rw [g.s.over]
    refine wpAny_mono (he.run _ s σ H _ I ht) ?_ fun x s1 hx => exc _ s0 x s1 hx
    rintro v s1 ⟨x, H1, I1, rv, q⟩ kap hk
    have c1 : CIv X Z ip ys σ H1 s1 := ⟨acc, cc, o, r, fo, I1⟩
    exact ⟨ys, x, ip, σ, H1, hn, rv, c1, fun s2 z => hk .none s2 (ok n (ys ++ [x]) s2 s2 .next (by rw [List.length_append]; show n + (ys.length + 1) = _; omega) ⟨σ, H1, c1.woken g rv z, q⟩)⟩
theorem cs_if {c : Expr} {a b : List Stmt} {tc : TT} {t u : TGn} (hc : PT X c tc) (ha : CRun X (execs a X.env) t) (hb : CRun X (execs b X.env) u) : CRun X (exec (.If c a b pos) X.env) (tGIf tc t u) := by
  intro A Z ip R cd fs K J gd lv D g ok exc n ys s0 s σ H hn ⟨acc, cc, o, r, fo, I⟩ ht
  rw [exec_If]
  apply seg_bind_wrap
  apply wpAny_standAt
  apply seg_bind_wrap
  rw [g.s.over]
  refine wpAny_mono (hc.run _ s σ H _ I ht) ?_ fun x s1 hx => exc n s0 x s1 hx
  rintro (_ | _) s1 ⟨H1, I1, q⟩
  · exact hb A Z ip R cd fs K J gd lv D g ok exc n ys s0 s1 σ H1 hn ⟨acc, cc, o, r, fo, I1⟩ q
  · exact ha A Z ip R cd fs K J gd lv D g ok exc n ys s0 s1 σ H1 hn ⟨acc, cc, o, r, fo, I1⟩ q
end
end Sea

set_option Elab.async false
set_option linter.all false
set_option maxRecDepth 100000
set_option maxHeartbeats 4000000
namespace Sea
open PySem PySem.Spec PyProof.Rows L2 GenW
section
variable {X : Cx} {pos : Pos}
theorem own_duo {Z : Duo} {ip : List (Addr × Obj)} {fp : List Addr} {H H' : Hp} {oS oC oS' oC' : Obj} (h : ∀ b ∈ fp, FpOk X ((Z.S, oS) :: (Z.C, oC) :: ip) H b) (hn : ∀ b ∈ fp, H' b = none) : ∀ b ∈ fp, FpOk X ((Z.S, oS') :: (Z.C, oC') :: ip) H' b := by
  intro b hb
  obtain ⟨_, a1, a2, a3, a4, a5⟩ := h b hb
  refine ⟨hn b hb, a1, a2, a3, a4, fun p hp => ?_⟩
  rcases List.mem_append.mp hp with z | z
  · exact a5 p (List.mem_append_left _ z)
  · rcases List.mem_cons.mp z with z | z
    · rw [z]
      exact a5 (Z.S, oS) (List.mem_append_right _ List.mem_cons_self)
    rcases List.mem_cons.mp z with z | z
    · rw [z]
      exact a5 (Z.C, oC) (List.mem_append_right _ (List.mem_cons_of_mem _ List.mem_cons_self))
    · exact a5 p (List.mem_append_right _ (List.mem_cons_of_mem _ (List.mem_cons_of_mem _ z)))
theorem CC.loop {Z : Duo} {ip : List (Addr × Obj)} {A : Around} {c c' : Code} {fs : List Frame} {gd : Bool → Bool} {k : Result → Sem PySem.Fin} {l kp : List Value} {p : Pos} (g : CC X Z ip A c fs gd) (hw : c'.weight = 0) (hu : c'.cUnits = 0) : CC X Z ip A c' (.ret k none (gd false) l c p kp :: fs) id := ⟨gc_loop g.s hw hu, gc_loop g.c hw hu⟩
theorem cs_for {tg iter : Expr} {body : List Stmt} {wi : TI} {gt : TG} {tb : TGn} (hp : PassesOwn (model X.prog X.w) X.A X.env X.xe) (calm : X.calm = true) (hi : PI X tg iter wi) (hg : PG X tg gt) (hb : CRun X (execs body X.env) tb)
    (hs : ∀ x, foldedSetIterable iter X.env x = pure x := by intro _; rfl) : CRun X (exec (.For tg iter body [] pos) X.env) (tGFor wi gt tb) := by
  intro A Z ip R c fs K J gd lv D g ok exc n ys s0 s σ H hn ⟨acc, cc, o, r, fo, I⟩ ht
  rw [exec_For]
  apply seg_bind_wrap
  apply wpAny_standAt
  apply seg_bind_wrap
  rw [g.s.over]
  refine wpAny_mono (hi.run _ s σ H _ I ht) ?_ fun x s1 hx => exc n s0 x s1 hx
  intro v s1 made
  apply seg_bind_wrap
  rw [hs v]
  apply wpAny_pure
  apply seg_bind_wrap
  apply wpAny_standAt
  apply seg_bind_wrap
  rw [g.s.over]
  apply wpAny_holding
  refine wpAny_mono made ?_ fun x s2 hx => exc n s0 x s2 hx
  rintro _ s2 ⟨it, fp, tn, Jt, H2, rfl, I2, T, st2, f2, W, ⟨m0, w0⟩, turn⟩
  apply seg_call
  intro p
  have back : ∀ (n : Nat) (s0 : Shared) (e : Value) (s : Shared), cameBackBy (model X.prog X.w) X.A X.env X.xe e s → Seg (model X.prog X.w) A R (CY X Z) n s0 c (((Sem.raise e : Sem Flow).onRaise (cameBack X.env)).wrap K J gd lv) fs s := by
    intro n s0 e s h
    show Seg _ _ _ _ _ _ _ (((cameBack X.env e).bind fun _ => (Sem.raise e : Sem Flow)).wrap K J gd lv) _ _
    rw [Sem.bind_eq_wrap, Sem.wrap_wrap]
    apply seg_wrap
    rw [g.s.over]
    exact wpAny_mono h (fun _ s' hx => exc n s0 e s' hx) fun x s' hx => exc n s0 x s' hx
  have gl := g.loop (k := fun r => ((match r with | .ok f => (.pure f : Sem Flow) | .error e => .raise e).onRaise (cameBack X.env)).wrap K J gd lv) (c' := .forLoop tg (.ref it) body [] X.env) (l := lv []) (kp := []) (p := p) rfl rfl
  have leave : ∀ (n : Nat) (s0 : Shared) (x : Value) (s : Shared), X.xe x s → Seg (model X.prog X.w) A R (CY X Z) n s0 (.forLoop tg (.ref it) body [] X.env) ((do noteFrame x X.env; theTreesLotGoes x : Sem Unit).wrap (fun _ => .raise x) .raise id id)
      (.ret (fun r => ((match r with | .ok f => (.pure f : Sem Flow) | .error e => .raise e).onRaise (cameBack X.env)).wrap K J gd lv) none (gd false) (lv []) c p [] :: fs) s := by
    intro n s0 x s hx
    apply seg_wrap
    rw [gl.s.over]
    apply wpAny_bind
    refine wpAny_mono (hp x s hx) (fun _ s1 b => wpAny_theTreesLotGoes ?_) fun y s1 b => ?_
    · exact seg_leaf (.error x) (back _ _ _ _ b)
    · exact seg_leaf (.error y) (back _ _ _ _ b)
  have loop : ∀ (m n i : Nat) (ys : List V) (s0 s : Shared) (σ : L2.St) (H : Hp), n + ys.length = sizeLine → tn i s.heap → (∀ b ∈ fp, H b = none) → W i m ys σ H → CIv X Z ip ys σ H s →
      Seg (model X.prog X.w) A R (CY X Z) n s0 (.forLoop tg (.ref it) body [] X.env) ((model X.prog X.w).den (.forLoop tg (.ref it) body [] X.env))
        (.ret (fun r => ((match r with | .ok f => (.pure f : Sem Flow) | .error e => .raise e).onRaise (cameBack X.env)).wrap K J gd lv) none (gd false) (lv []) c p [] :: fs) s := by
    intro m
    induction m using Nat.strongRecOn with
    | ind m ih =>
    rintro n i ys s0 s σ H hn st free w ⟨acc, cc, o, r, fo, I⟩
    show Seg _ _ _ _ _ _ _ ((forTurn tg (.ref it) body [] X.env).onRaise (fun x => do noteFrame x X.env; theTreesLotGoes x)) _ s
    rw [Sem.onRaise_eq_wrap]
    unfold forTurn
    apply seg_bind_wrap
    apply wpAny_standAt
    apply seg_bind_wrap
    rw [gl.s.over]
    apply wpAny_onRaise
    have gone : ∀ (n : Nat) (s0 : Shared) (x : Value) (s : Shared), X.xe x s → Seg (model X.prog X.w) A R (CY X Z) n s0 (.forLoop tg (.ref it) body [] X.env) ((do noteFrame x X.env; theTreesLotGoes x : Sem Unit).bind (fun _ => .raise x))
      (.ret (fun r => ((match r with | .ok f => (.pure f : Sem Flow) | .error e => .raise e).onRaise (cameBack X.env)).wrap K J gd lv) none (gd false) (lv []) c p [] :: fs) s := fun n s0 x s hx => by
      rw [Sem.bind_eq_wrap]
      exact leave n s0 x s hx
    rcases turn i m ys σ H w with ⟨stop, q⟩ | ⟨go, N, less, each⟩
    · refine wpAny_mono (T.done X rfl rfl rfl calm i _ s σ H X.xe I (own_duo f2 free) st stop) ?_ fun x s hx => wpAny_standAt (gone n s0 x s hx)
      rintro _ s1 ⟨rfl, I1⟩
      show Seg _ _ _ _ _ _ _ (.pure (.again (.block [] X.env))) _ s1
      apply seg_again rfl
      show Seg _ _ _ _ _ _ _ (leafOf (.ok .next)) _ s1
      exact seg_leaf (.ok .next) (ok n ys s0 s1 .next hn ⟨σ, H, ⟨acc, cc, o, r, fo, I1⟩, q⟩)
    · refine wpAny_mono (T.item X rfl rfl rfl calm i _ s σ H X.xe I (own_duo f2 free) st go) ?_ fun x s hx => wpAny_standAt (gone n s0 x s hx)
      rintro _ s1 ⟨u, rfl, h4⟩
      apply seg_bind_wrap
      rw [gl.s.over]
      refine wpAny_mono h4 ?_ fun x s hx => gone n s0 x s hx
      rintro _ s2 ⟨x, H5, I5, r5, y5, st5, free5⟩
      have I5p := I5.pinned (own_duo f2 free5) (T.obj _ _ st5)
      apply seg_bind_wrap
      rw [gl.s.over]
      refine wpAny_mono (hg.run _ s2 σ H5 x u _ I5p r5 (each x H5 y5)) ?_ fun x s hx => gone n s0 x s hx
      rintro _ s3 ⟨σ6, H6, I6, q6⟩
      have lose : ∀ {ys' σ7 H7 s'}, CIv X Z (ip ++ pinsAt fp s2.heap) ys' σ7 H7 s' → CIv X Z ip ys' σ7 H7 s' := fun {ys' σ7 H7 s'} ⟨acc', cc', o', r', f', I7⟩ => ⟨acc', cc', o', r', f', I7.pins_of fun p hp => I7.pin p (by
        rcases List.mem_cons.mp hp with z | z
        · exact List.mem_append_right _ (z ▸ List.mem_cons_self)
        rcases List.mem_cons.mp z with z | z
        · exact List.mem_append_right _ (List.mem_cons_of_mem _ (z ▸ List.mem_cons_self))
        · exact List.mem_append_right _ (List.mem_cons_of_mem _ (List.mem_cons_of_mem _ (List.mem_append_left _ z))))⟩
      have again : ∀ (ys' : List V) (s' : Shared) (σ7 : L2.St) (H7 : Hp) (n' : Nat) (s0' : Shared), n' + ys'.length = sizeLine → CIv X Z (ip ++ pinsAt fp s2.heap) ys' σ7 H7 s' → N ys' σ7 H7 → Seg (model X.prog X.w) A R (CY X Z) n' s0' (.forLoop tg (.ref it) body [] X.env) (.pure (.again (.forLoop tg (.ref it) body [] X.env)))
          (.ret (fun r => ((match r with | .ok f => (.pure f : Sem Flow) | .error e => .raise e).onRaise (cameBack X.env)).wrap K J gd lv) none (gd false) (lv []) c p [] :: fs) s' := by
        intro ys' s' σ7 H7 n' s0' hn' c7 n7
        obtain ⟨m', lt, w7⟩ := less ys' σ7 H7 n7
        have stay : ∀ b ∈ fp, ∀ o, s2.heap.get? b = some o → s'.heap.get? b = some o ∧ H7 b = none := fun b hb o e => by
          obtain ⟨_, _, _, _, _, I7⟩ := c7
          have := I7.pin (b, o) (List.mem_append_right _ (List.mem_cons_of_mem _ (List.mem_cons_of_mem _ (List.mem_append_right _ (mem_pinsAt hb e)))))
          exact ⟨this.1, this.2.1⟩
        refine seg_again rfl (ih m' lt n' (i + 1) ys' s0' s' σ7 H7 hn' (T.keep _ _ _ st5 fun b hb o e => (stay b hb o e).1) (fun b hb => ?_) w7 (lose c7))
        obtain ⟨o, e, _⟩ := T.obj _ _ st5 b hb
        exact (stay b hb o e).2
      have apart : ∀ q ∈ pinsAt fp s2.heap, q.1 ≠ Z.S ∧ q.1 ≠ Z.C := fun q hq => by
        obtain ⟨_, _, _, _, _, a5⟩ := f2 q.1 (of_pinsAt hq).1
        exact ⟨(a5 (Z.S, _) (List.mem_append_right _ List.mem_cons_self)).symm, (a5 (Z.C, _) (List.mem_append_right _ (List.mem_cons_of_mem _ List.mem_cons_self))).symm⟩
      have inner : CC X Z (ip ++ pinsAt fp s2.heap) A (.forLoop tg (.ref it) body [] X.env) (.ret (fun r => ((match r with | .ok f => (.pure f : Sem Flow) | .error e => .raise e).onRaise (cameBack X.env)).wrap K J gd lv) none (gd false) (lv []) c p [] :: fs) id :=
        ⟨{ gl.s with ip := fun q hq => (List.mem_append.mp hq).elim (g.s.ip q) fun z => (apart q z).1 }, { gl.c with ip := fun q hq => (List.mem_append.mp hq).elim (g.c.ip q) fun z => (apart q z).2 }⟩
      rw [Sem.bind_eq_wrap', Sem.wrap_wrap]
      refine hb A Z (ip ++ pinsAt fp s2.heap) R _ _ _ _ _ _ { D with nx := N, ct := N, bk := D.nx } inner ?_ ?_ n ys s0 s3 σ6 H6 hn ⟨acc, cc, o, r, fo, I6⟩ q6
      · intro n' ys' s0' s' f hn' end_
        match f, end_ with
        | .next, ⟨σ7, H7, J7, n7⟩ => exact again ys' s' σ7 H7 n' s0' hn' J7 n7
        | .cont, ⟨σ7, H7, J7, n7⟩ => exact again ys' s' σ7 H7 n' s0' hn' J7 n7
        | .brk, ⟨σ7, H7, J7, q7⟩ => exact seg_leaf (.ok .next) (ok n' ys' s0' s' .next hn' ⟨σ7, H7, lose J7, q7⟩)
        | .ret v, ⟨x7, σ7, H7, J7, r7, q7⟩ => exact seg_leaf (.ok (.ret v)) (ok n' ys' s0' s' (.ret v) hn' ⟨x7, σ7, H7, lose J7, r7, q7⟩)
      · exact fun n' s0' x s' hx => gone n' s0' x s' hx
  exact loop m0 n 0 ys s0 s2 σ H2 hn st2 (fun b hb => (f2 b hb).1) w0 ⟨acc, cc, o, r, fo, I2⟩
end
end Sea

set_option Elab.async false
set_option linter.all false
set_option maxRecDepth 100000
set_option maxHeartbeats 4000000
/-! calls of generator defs whose items a list comprehension takes -/
namespace Sea
open PySem PySem.Spec PyProof.Rows L2 GenW
def COut (P : Program) (w : World) (outer : List Env) (H : Hp) (s : Shared) (Z : Duo) (Q : List V → Hp → Prop) : Nat → Shared → Shared → Prop := fun _ _ s1 =>
  ∃ H' ys acc c o, s1.os = s.os ∧ AllBare s1.gens ∧ Un (frs outer) [] H H' s.heap s1.heap ∧ HOk P w H' s1.heap ∧ H' Z.S = none ∧ H' Z.C = none ∧ s1.heap.get? Z.S = some (lstObj acc c) ∧ s1.heap.get? Z.C = some o ∧ FrO o ∧ Vals ys acc.toList ∧ ys.length ≤ sizeLine ∧ Q ys H'
abbrev COff (P : Program) (w : World) (outer : List Env) (H : Hp) (s : Shared) (Z : Duo) (Q : List V → Hp → Prop) (E : XK) : GenEnd := fun n s0 r s1 => ((r = .ok (.ret .none) ∨ r = .ok .next) ∧ COut P w outer H s Z Q n s0 s1) ∨ ∃ e, r = .error e ∧ CX P w outer H s E e s1
def CItem (s : Shared) (Z : Duo) (a : Addr) (g : Nat) : Protocol := fun n s0 v s1 kap =>
  s1.os = s.os ∧ AllBare s1.gens ∧ s1.heap.NoLimit ∧ s1.heap.IsGen a g ∧ (∃ acc c, s1.heap.get? Z.S = some (lstObj acc c) ∧ n + 1 + acc.size = sizeLine) ∧ (∃ o, s1.heap.get? Z.C = some o ∧ FrO o) ∧ ∀ s', Meal Z v s1 s' → kap (.send .none) s'
def CMade (P : Program) (w : World) (k : Nat) (outer : List Env) (H : Hp) (s : Shared) (Q : List V → Hp → Prop) (E : XK) (u : Value) (s' : Shared) : Prop :=
  ∃ (a : Addr) (g : Nat) (c : Code), u = .ref a ∧ s.heap.objs.size ≤ a ∧ a < s'.heap.objs.size ∧ s'.heap.IsGen a g ∧ s'.gens[g]? = some (.fresh c) ∧ s'.os = s.os ∧ AllBare s'.gens ∧ s'.heap.NoLimit ∧ (∀ b o, s.heap.get? b = some o → s'.heap.get? b = some o) ∧
    ∀ (A : Around) (Z : Duo) (s2 : Shared), Room k A → A.frames = some outer → s'.heap.objs.size ≤ Z.S → s'.heap.objs.size ≤ Z.C → (∀ b o, s'.heap.get? b = some o → s2.heap.get? b = some o) → (∃ c, s2.heap.get? Z.S = some (lstObj #[] c)) → (∃ o, s2.heap.get? Z.C = some o ∧ FrO o) → s2.os = s.os → AllBare s2.gens →
      Seg (model P w) A (COff P w outer H s Z Q E) (CItem s Z a g) sizeLine s2 c ((model P w).den c) [] s2
structure CFn (P : Program) (w : World) (K : PySem.W.Frag) (mg : Str → Option Value) (base : Heap) (k : Nat) (f : Addr) (fd : FuncData) (ps : List Str) (sp : SpG) : Prop where
  len : ∀ vs H Q E, sp vs H Q E → vs.length = ps.length
  run : ∀ (A : Around) (outer : List Env) (s : Shared) (H : Hp) (args : Args) (us : List Value) (vs : List V) (Q : List V → Hp → Prop) (E : XK), Room k A → Env0 P w K mg base A outer s H → BindsTo s fd args (ps.zip us) → Vals vs us → sp vs H Q E →
    codeAny (model P w) A (.call (.ref f) args) (fun r s' => match r with | .ok (.ret u) => CMade P w k outer H s Q E u s' | _ => False) s
section
variable {P : Program} {w : World} {K : PySem.W.Frag} {mg : Str → Option Value} {base : Heap} {k : Nat} {f : Addr} {name qual : Str} {params : Arguments} {body : List Stmt} {scope : Scope} {dV kV doc pm cdv ct oc : Value} {an od : Option Addr} {osl : Array (Option Value)} {N ps : List Str} {sp : SpG}
/-- the body's run, from the moment of its first item's call -/
theorem c_begin {A : Around} {outer : List Env} {s s1 s2 : Shared} {H : Hp} {vs : List V} {Q : List V → Hp → Prop} {E : XK} {go : Obj} {t : TGn} {Z : Duo} {tk : Nat}
    (I1 : Inv (gcxOf P w K mg base N qual scope f cdv A outer s H E []) [] (start N vs) H s1) (gd : ∀ v, go.data ≠ .cell v) (hgen : ∀ h : Heap, h.get? s1.heap.objs.size = some go → h.IsGen s1.heap.objs.size s1.gens.size)
    (ht : CRun (gcxOf P w K mg base N qual scope f cdv A outer s H E [(s1.heap.objs.size, go)]) (execs body (envOfC qual scope s.heap.objs.size f cdv)) t)
    (hq : t { nx := fun ys _ H' => Q ys H', rt := fun ys v H' => v = .non ∧ Q ys H' } [] (start N vs) H)
    (hS : s1.heap.objs.size < Z.S) (hC : s1.heap.objs.size < Z.C) (hk : ∀ b o, s1.heap.get? b = some o → s2.heap.get? b = some o) (eg : s2.heap.get? s1.heap.objs.size = some go) (eS : ∃ c, s2.heap.get? Z.S = some (lstObj #[] c)) (eC : ∃ o, s2.heap.get? Z.C = some o ∧ FrO o) (os : s2.os = s.os) (ba : AllBare s2.gens) :
    Seg (model P w) A (COff P w outer H s Z Q E) (CItem s Z s1.heap.objs.size s1.gens.size) sizeLine s2 (.func body (envOfC qual scope s.heap.objs.size f cdv)) ((model P w).den (.func body (envOfC qual scope s.heap.objs.size f cdv))) [] s2 := by
  have os1 : s1.os = s.os := I1.os
  have I2 : Inv (gcxOf P w K mg base N qual scope f cdv A outer s H E []) [] (start N vs) H s2 := I1.call' (ch := []) (os.trans os1.symm) (Un.kept hk) (I1.hok.kept hk) ba fun b z => by simp at z
  have new : ∀ {b : Addr}, s1.heap.objs.size ≤ b → FpOk (gcxOf P w K mg base N qual scope f cdv A outer s H E []) [] H b := fun h => I1.fpOk h (I1.hok.fresh h)
  obtain ⟨cS, eS⟩ := eS
  obtain ⟨oC, eC, fC⟩ := eC
  have pin : ∀ {b : Addr} {o : Obj}, s1.heap.objs.size ≤ b → s2.heap.get? b = some o → (∀ v, o.data ≠ .cell v) → s2.heap.get? b = some o ∧ H b = none ∧ b ≠ (envOfC qual scope s.heap.objs.size f cdv).locals ∧ b ∉ frs outer ∧ ∀ v, o.data ≠ .cell v := fun h e n => by
    obtain ⟨a1, a2, a3, _⟩ := new h
    exact ⟨e, a1, a2, a3, n⟩
  have lS : ∀ v, (lstObj #[] cS).data ≠ .cell v := fun v q => by cases q
  have J : CIv (gcxOf P w K mg base N qual scope f cdv A outer s H E [(s1.heap.objs.size, go)]) Z [] [] (start N vs) H s2 := by
    refine ⟨#[], cS, oC, .nil, fC, Inv.pinnedG I2 fun p hp => ?_⟩
    rcases List.mem_append.mp hp with z | z
    · rw [List.mem_singleton.mp z]
      exact pin (Nat.le_refl _) eg gd
    rcases List.mem_cons.mp z with z | z
    · rw [z]
      exact pin (Nat.le_of_lt hS) eS lS
    · rw [List.mem_singleton.mp z]
      exact pin (Nat.le_of_lt hC) eC fC.noCell
  have place : ∀ b, s1.heap.objs.size < b → GC (gcxOf P w K mg base N qual scope f cdv A outer s H E [(s1.heap.objs.size, go)]) b [] A (.func body (envOfC qual scope s.heap.objs.size f cdv)) [] id := fun b hb => by
    obtain ⟨_, a2, _, a4, a5, _⟩ := new (Nat.le_of_lt hb)
    refine ⟨fun p hp => ?_, fun p hp => (by simp at hp), ⟨a4.resolve_left fun z => by simp [gcxOf, cxOf] at z, a2, a5⟩, over_func, rfl, rfl, rfl⟩
    rw [List.mem_singleton.mp hp]
    exact Nat.ne_of_lt hb
  refine seg_func (seg_imp (R := fun n s0 r s' => match r with
      | .ok (.ret u) => ∃ ys v ip σ H', n + ys.length = sizeLine ∧ CIv (gcxOf P w K mg base N qual scope f cdv A outer s H E [(s1.heap.objs.size, go)]) Z ip ys σ H' s' ∧ RelV v u ∧ v = .non ∧ Q ys H'
      | .ok _ => False
      | .error e => CX P w outer H s E e s') (Y := CY (gcxOf P w K mg base N qual scope f cdv A outer s H E [(s1.heap.objs.size, go)]) Z) (fun n s0 r s' hR => ?_) (fun n s0 v s' kap kap' hkk hY => ?_) sizeLine ?_)
  · match r, hR with
    | .error e, hR => exact .inr ⟨e, rfl, hR⟩
    | .ok (.ret u), ⟨ys, v, ip, σ, H', hn, c, rv, ev, q⟩ =>
      subst ev
      obtain rfl : u = Value.none := rv
      obtain ⟨o, fo, co, c0, _⟩ := c.at
      obtain ⟨s0', _, _, acc, cc, ra, ea⟩ := c.gi.at
      obtain ⟨_, _, _, _, _, I⟩ := c
      exact .inl ⟨.inl rfl, H', ys, acc, cc, o, I.os, I.bare, I.base, I.hok, s0', c0, ea, co, fo, ra, by omega, q⟩
  · obtain ⟨ys, x, ip, σ, H', hn, _, c, hs⟩ := hY
    obtain ⟨o, fo, co, _⟩ := c.at
    obtain ⟨_, _, _, acc, cc, ra, ea⟩ := c.gi.at
    obtain ⟨_, _, _, _, _, I⟩ := c
    have sz : acc.size = ys.length := by
      have e1 := ra.length
      have e2 : acc.toList.length = acc.size := by simp
      omega
    exact ⟨I.os, I.bare, I.nolimit, hgen _ (I.pin (s1.heap.objs.size, go) (List.mem_append_left _ (List.mem_singleton.mpr rfl))).1, ⟨acc, cc, ea, by rw [sz]; exact hn⟩, ⟨o, co, fo⟩, fun s'' z => hkk _ _ (hs s'' z)⟩
  · refine ht A Z [] _ _ [] _ _ id id _ ⟨place _ hS, place _ hC⟩ (fun n ys s0 s' fl hn e => ?_) (fun n s0 e s' hx => ?_) sizeLine [] s2 s2 _ H (Nat.add_zero _) J hq
    · match fl, e with
      | .next, ⟨σ, H', c, q⟩ => exact seg_end (.ok (.ret .none)) ⟨ys, .non, [], σ, H', hn, c, rfl, rfl, q⟩
      | .ret u, ⟨v, σ, H', c, rv, ev, q⟩ => exact seg_end (.ok (.ret u)) ⟨ys, v, [], σ, H', hn, c, rv, ev, q⟩
      | .brk, ⟨_, _, _, q⟩ => exact q.elim
      | .cont, ⟨_, _, _, q⟩ => exact q.elim
    · refine seg_wrap ?_
      rw [over_func]
      refine wpAny_mono (show wpAny (model P w) (A.deeper (envOfC qual scope s.heap.objs.size f cdv)) (leaving (envOfC qual scope s.heap.objs.size f cdv) e) (fun _ s'' => CX P w outer H s E e s'' ∧ ∀ p ∈ [(s1.heap.objs.size, go)], s''.heap.get? p.1 = some p.2) (fun _ _ => False) s' from hx) (fun _ s'' q => ?_) fun _ s'' q => q.elim
      exact seg_end (.error e) q.1
theorem cfn_of (lk : K.lookup f = some ⟨oc, od, .func (PySem.W.fnOf name qual params body scope dV kV doc pm an cdv ct), osl⟩) (hcd : PySem.W.codeIn K cdv qual = true) (S : GScope N ps scope) (len : ∀ vs H Q E, sp vs H Q E → vs.length = ps.length)
    (hbody : ∀ (A : Around) (outer : List Env) (s : Shared) (H : Hp) (vs : List V) (Q : List V → Hp → Prop) (E : XK) (pn : List (Addr × Obj)), Room k (A.deeper (envOfC qual scope s.heap.objs.size f cdv)) → sp vs H Q E →
      ∃ t, CRun (gcxOf P w K mg base N qual scope f cdv A outer s H E pn) (execs body (envOfC qual scope s.heap.objs.size f cdv)) t ∧ t { nx := fun ys _ H' => Q ys H', rt := fun ys v H' => v = .non ∧ Q ys H' } [] (start N vs) H) :
    CFn P w K mg base (k + 1) f (PySem.W.fnOf name qual params body scope dV kV doc pm an cdv ct) ps sp := by
  refine ⟨len, fun A outer s H args us vs Q E hr e0 hb r hsp => ?_⟩
  have KX : K.In s.heap := e0.mod.kin.keeps fun b o e => (e0.bs b o e).1
  have lim : s.heap.NoLimit := e0.mod.nolimit.keeps fun b o e => (e0.bs b o e).1
  refine codeAny_call_generator hr.depth (KX _ _ lk) rfl S.co S.gen rfl (PySem.W.codeRec_of KX hcd) (hb _ _ _ _ (wpAny_newFunctionEnv_cells S.kind (fun ⟨n, v⟩ hy => ?_) fun env he s1 x => ?_))
  · rcases S.par n (List.of_mem_zip hy).1 with q | q
    · exact .inl q
    · exact .inr ⟨q, PySem.W.cellsFrom_some _ _ _ (.inl q)⟩
  subst he
  have lim1 : s1.heap.NoLimit := lim.keeps x.toInCall.keep
  have sz1 : s.heap.objs.size ≤ s1.heap.objs.size := Nat.le_of_lt x.toInCall.ns.lt
  have kp1 := x.toInCall.keep
  have made := fun (A' : Around) (hd : A'.handled = none) (e' : Env0 P w K mg base A' outer s H) => inv_startG (f := f) (cd := cdv) (qual := qual) (E := E) S hd e' (len _ _ _ _ hsp) r x
  have I0 := made A hr.hd e0
  have os1 : s1.os = s.os := I0.os
  refine ⟨lim1, ?_⟩
  generalize hgo : ({ cls := .type "generator", data := .fields #[.int s1.gens.size 0, .str _ s1.toks, .str _ (s1.toks + 1)] } : Obj) = go
  have g1 : go.cls = .type "generator" := by rw [← hgo]
  have gd : ∀ v, go.data ≠ .cell v := fun v q => by
    rw [← hgo] at q
    cases q
  have hgen : ∀ h : Heap, h.get? s1.heap.objs.size = some go → h.IsGen s1.heap.objs.size s1.gens.size := fun h e => by
    exact ⟨go, _, _, e, g1, congrArg Obj.data hgo.symm, congrArg Obj.slots hgo.symm⟩
  have put : ∀ h : Heap, (h.push go).get? h.objs.size = some go := fun h => by
    rw [← hgo]
    exact Heap.get?_push_size _ rfl
  have keep : ∀ b o, s1.heap.get? b = some o → (s1.heap.push go).get? b = some o := fun b o e => Heap.get?_push_of_some _ e
  refine ⟨s1.heap.objs.size, s1.gens.size, _, rfl, sz1, ?_, hgen _ (put _), Array.getElem?_push_size .., os1, AllBare.push I0.bare rfl, lim1.keeps keep, fun b o e => keep b o (kp1 b o e), ?_⟩
  · show _ < (s1.heap.push _).objs.size
    rw [Heap.size_push]
    exact Nat.lt_succ_self _
  intro Aw Z s2 hrw hfr hS hC hk2 eS eC os2 ba2
  obtain ⟨t, ht, hq⟩ := hbody Aw outer s H vs Q E [(s1.heap.objs.size, go)] (hrw.deeper _) hsp
  have up : ∀ b, (s1.heap.push go).objs.size ≤ b → s1.heap.objs.size < b := fun b h => by
    rw [Heap.size_push] at h
    exact h
  exact c_begin (tk := 0) (made Aw hrw.hd ⟨hfr, e0.mod, e0.bs, e0.bsz, e0.funs, e0.frf, e0.hok, e0.bare⟩) gd hgen ht hq (up _ hS) (up _ hC) (fun b o e => hk2 b o (keep b o e)) (hk2 _ _ (put _)) eS eC os2 ba2
end
end Sea

set_option Elab.async false
set_option linter.all false
set_option maxRecDepth 100000
set_option maxHeartbeats 4000000
/-! [x for x in f(..)], f a generator def -/
namespace Sea
open PySem PySem.Spec PyProof.Rows L2 GenW
section
variable {X : Cx} {k : Nat} {f : Addr} {fd : FuncData} {ps : List Str} {sp : SpG} {dvs : List V} {ds : List Value} {x : Str} {p pos pos' : Pos}
/-- an expression whose value is such a generator, none of whose turns raises -/
structure PCGen (X : Cx) (k : Nat) (e : Expr) (tg : TGen) : Prop where
  run : ∀ (pins : List (Addr × Obj)) (s : Shared) (σ : L2.St) (H : Hp) (cont : List V → Hp → Prop), Inv X pins σ H s → tg σ H cont → wpAny (model X.prog X.w) X.A (eval e X.env)
    (fun u s' => ∃ H1 sc, Inv X pins σ H1 sc ∧ CMade X.prog X.w k X.stack H1 sc cont (fun _ _ _ => False) u s') X.xe s
theorem pcgen_call {e : Expr} {es : List Expr} {t : TA} (F : CFn X.prog X.w X.K X.mg X.base k f fd ps sp) (hr : Room k X.A) (hg : Gl X x) (hm : X.mg x = some (.ref f)) (hk : PySem.W.keepIn X.K (.ref f) = true) (hb : Binds X.K fd ps ds) (hd : Vals dvs ds)
    (ha : PA X (e :: es) t) (hdb : (x == ("__debug__" : Str)) = false := by decide) (he : starEach (e :: es) X.env = (false, eval e X.env) :: starEach es X.env := by rfl) (hpl : (backTo pos' (starEach es X.env)).any (·.1) = false := by rfl) :
    PCGen X k (.Call (.Name x p) (e :: es) [] pos') (tCallG sp dvs (fun _ _ _ => False) t) := by
  refine ⟨fun pins s σ H cont I h => ?_⟩
  refine wpAny_Call_Name_kw (ld_glob I hg hm ?_ hdb)
  refine PySem.W.callWith_K (h₀ := X.base) I.ok.mod.kin hk (thn (ha.run pos' pins s σ H _ I h) fun us s1 ⟨vs, H1, I1, r, q⟩ => ⟨I1.kIn, ?_⟩) he hpl
  have r2 : Vals (vs ++ dvs) (us ++ ds) := r.append hd
  have hl : (us ++ ds).length = ps.length := r2.length ▸ F.len _ _ _ _ q
  refine wpAny_call (codeAny_mono (F.run X.A X.stack s1 H1 ⟨us, []⟩ (us ++ ds) (vs ++ dvs) cont _ hr I1.env0 (hb s1 us I1.kIn hl) r2 q) fun r s2 z => ?_)
  match r, z with
  | .ok (.ret u), z => exact ⟨H1, s1, I1, z⟩
end
section
variable {P : Program} {w : World} {outer : List Env} {H : Hp} {sc : Shared} {Q : List V → Hp → Prop} {A : Around} {R : Result → Shared → Prop} {Z : Duo} {a : Addr} {g : Nat} {y : Str} {py py2 pos : Pos} {e : Expr} {scope : Scope} {ce : Env}
theorem lcG_loop (hh : A.handled = none) (hd : A.depth < recursionLimit) (cL : ce.locals = Z.C) (cK : ce.scope.kind = .function) (cY : ce.kindOf y = some .local) (hdb : (y == ("__debug__" : Str)) = false) (hSa : Z.S ≠ a) (hCa : Z.C ≠ a) (hSs : Z.S ≠ cStatics) (hCs : Z.C ≠ cStatics)
    (hend : ∀ s' acc c o H' ys, s'.heap.get? Z.S = some (lstObj acc c) → s'.heap.get? Z.C = some o → FrO o → Vals ys acc.toList → ys.length ≤ sizeLine → s'.os = sc.os → AllBare s'.gens → Un (frs outer) [] H H' sc.heap s'.heap → HOk P w H' s'.heap → H' Z.S = none → H' Z.C = none → Q ys H' → R (.ok .next) s')
    (m : Nat) (s : Shared) (hg : s.heap.IsGen a g) (hl : s.heap.NoLimit) (go : ∃ gs, s.gens[g]? = some gs ∧ gs.Goes (model P w) A.in1 (COff P w outer H sc Z Q fun _ _ _ => False) (CItem sc Z a g) m (.send .none) (s.setGen g .running)) :
    codeAny (model P w) A (.compLoop (.ListComp (.Name y py) [⟨.Name y py2, e, [], 0⟩] scope pos) 0 (.ref a) (.ref Z.S) ce) R s := by
  refine compLoop_any (fun n s => s.heap.IsGen a g ∧ s.heap.NoLimit ∧ ∃ gs, s.gens[g]? = some gs ∧ gs.Goes (model P w) A.in1 (COff P w outer H sc Z Q fun _ _ _ => False) (CItem sc Z a g) n (.send .none) (s.setGen g .running)) ?_ m ⟨hg, hl, go⟩
  rintro n s ⟨hg, hl, gs, hgs, hgo⟩
  have hgl : g < s.gens.size := (Array.getElem?_eq_some_iff.mp hgs).1
  refine wpAny_gsz (n := g + 1) hgl (next_genG (F := COut P w outer H sc Z Q) (Er := fun e s1 => CX P w outer H sc (fun _ _ _ => False) e s1) hh hl hd hg hgs hgo (fun v s1 gs' hbare hv => ?_) (fun s1 hp h' hk => ?_) fun e s1 he => ?_)
  · intro hsz
    obtain ⟨os1, hb1, hl1, hg1, ⟨acc, c, hS1, many⟩, ⟨o, hC1, fC⟩, wake⟩ := hv
    have room : acc.size < sizeLine := by omega
    have gsz : g < s1.gens.size := by
      have q : (s1.setGen g gs').gens.size = s1.gens.size := setGen_size _ _ _
      have hsz' : g + 1 ≤ (s1.setGen g gs').gens.size := hsz
      omega
    show wpAny _ A (.pure ()) _ _ _
    apply wpAny_pure
    obtain ⟨m0, hn0⟩ := fC.ns hC1
    refine wpAny_assign_Name (wpAny_storeName_local (m := m0) cY (by rw [cL]; exact hn0) (fun h1 hn1 sb1 => ?_) (by rw [cK]; rfl))
    apply wpAny_tests_nil
    rw [if_pos rfl]
    refine wpAny_Name (wpAny_loadName_local (v := v) cK cY hn1 (by simp) ?_) hdb
    rw [cL] at hn1 sb1
    obtain ⟨o2, hC2, f2⟩ := frO_ns hn1
    have hS2 : h1.get? Z.S = some (lstObj acc c) := (sb1.2 _ Z.ne).trans hS1
    refine append_at hS2 (fun h2 sb2 hS3 => ?_) (Nat.le_of_lt room)
    have meal : ∀ G : Array GenState, AllBare G → ∀ tk, Meal Z v s1 { s1 with heap := h2, gens := G, toks := tk } := fun G hG tk => by
      refine ⟨h1, o2, fun b u hb q => (sb1.2 b hb).trans q, hC2, f2, ⟨rfl, hG, fun b u hb q => (sb2.2 b hb).trans q, fun acc' c' q => ?_⟩⟩
      have q : h1.get? Z.S = some (lstObj acc' c') := q
      rw [hS2] at q
      cases q
      exact ⟨_, hS3⟩
    have bare2 : AllBare ((s1.setGen g gs').setGen g .running).gens := allBare_setGen (allBare_setGen hb1 hbare) rfl
    have next := wake _ (meal _ bare2 (s1.toks + 1))
    have keep : ∀ b u, b ≠ Z.S → b ≠ Z.C → s1.heap.get? b = some u → h2.get? b = some u := fun b u hS hC q => (sb2.2 b hS).trans ((sb1.2 b hC).trans q)
    cases n with
    | zero => exact next.elim
    | succ n =>
      refine ⟨n, Nat.lt_succ_self n, ?_, ?_, gs', setGen_at gsz, next⟩
      · obtain ⟨o, nm, qn, ho, r⟩ := hg1
        exact ⟨o, nm, qn, keep a o hSa.symm hCa.symm ho, r⟩
      · obtain ⟨mc, hns, hnn⟩ := hl1
        exact ⟨mc, hns.at' fun o e => keep _ o hSs.symm hCs.symm e, hnn⟩
  · intro hsz
    obtain ⟨H', ys, acc, c, o, os1, hb1, un, hok, hSn, hCn, hS1, hC1, fC, hv, hle, hQ⟩ := hp
    exact hend _ acc c o H' ys (hk _ _ hS1) (hk _ _ hC1) fC hv hle os1 (allBare_setGen hb1 rfl) (un.trans (Un.kept hk)) (hok.kept hk) hSn hCn hQ
  · obtain ⟨_, _, _, _, _, _, _, _, _, _, _, _, no⟩ := he
    exact no.elim
end
section
variable {X : Cx} {k : Nat} {p pos pos' : Pos}
theorem pe_lcG {e : Expr} {tg : TGen} {y : Str} {py py2 : Pos} {scope : Scope} {own : List (Str × Nat)} (h : PCGen X k e tg) (hr : Room (k + 1) X.A) (ok : BlkOk X.N X.env.scope scope own) (hy : scope.names.lookup y = some .local) (hd : (y == ("__debug__" : Str)) = false := by decide)
    (hs : ∀ z, foldedSetIterable e X.env z = pure z := by intro _; rfl) : PE X (.ListComp (.Name y py) [⟨.Name y py2, e, [], 0⟩] scope pos) (tListG tg) := by
  refine ⟨fun pins s σ H Q I hq => ?_⟩
  rw [eval_ListComp]
  have cells : ∀ y ∈ scope.names, y.2 = .free → ∃ c, X.env.cells.lookup y.1 = some c := fun y hy e => (ok.free y hy e).elim (fun z => I.ok.has _ (.inl z)) fun z => I.ok.has _ (.inr z)
  refine wpAny_comprehension_free (use := none) rfl hs (closure_ok cells) ok.kind (fun y hy e => by rw [ok.uniq y hy, e]) (thn (h.run pins s σ H _ I hq) fun u s1 ⟨H1, sc, I1, a, g, c, eu, ha1, ha2, hg, hgs, hos, hb, hl, hkp, wake⟩ => ?_)
  subst eu
  refine wpAny_pyIter_gen hg (wpAny_newObj_type (newEnv_comp ?_) (by show 0 ≤ sizeLine; decide))
  generalize hs3 : ({ s1 with heap := s1.heap.push { cls := .type "list", data := .seq ([] : List Value).toArray } } : Shared) = s3
  have h3 : s3.heap = s1.heap.push { cls := .type "list", data := .seq ([] : List Value).toArray } := by rw [← hs3]
  have g3 : s3.gens = s1.gens := by rw [← hs3]
  have o3 : s3.os = s1.os := by rw [← hs3]
  have z3 : s3.heap.objs.size = s1.heap.objs.size + 1 := by rw [h3, Heap.size_push]
  show codeAny _ _ (.compStart (.ListComp (.Name y py) [⟨.Name y py2, e, [], 0⟩] scope pos) 0 (.ref a) (.ref s1.heap.objs.size) (compEnvC scope (cellsFrom (s3.heap.objs.size + 1) scope.names (cloFrom X.env.cells scope.names [])) s3.heap.objs.size X.env)) (compPost (model X.prog X.w) X.A X.xe none _ (.ref s1.heap.objs.size) s3.heap.objs.size) { s3 with heap := pushCells (s3.heap.push { cls := .type "dict", data := .dict #[] }) scope.names }
  generalize hce : compEnvC scope (cellsFrom (s3.heap.objs.size + 1) scope.names (cloFrom X.env.cells scope.names [])) s3.heap.objs.size X.env = ce
  have cL : ce.locals = s3.heap.objs.size := by rw [← hce]; rfl
  have cK : ce.scope.kind = .function := by rw [← hce]; exact ok.kind
  have cY : ce.kindOf y = some .local := by
    rw [← hce]
    exact lookup_relS_keep (by decide) hy
  have kp4 : ∀ b o, s1.heap.get? b = some o → (pushCells (s3.heap.push { cls := .type "dict", data := .dict #[] }) scope.names).get? b = some o := fun b o q => pushCells_keeps _ _ _ _ (Heap.get?_push_of_some _ (by rw [h3]; exact Heap.get?_push_of_some _ q))
  have eS4 : (pushCells (s3.heap.push { cls := .type "dict", data := .dict #[] }) scope.names).get? s1.heap.objs.size = some (lstObj #[] 0) := pushCells_keeps _ _ _ _ (Heap.get?_push_of_some _ (by rw [h3]; exact Heap.get?_push_size _ rfl))
  have eC4 : (pushCells (s3.heap.push { cls := .type "dict", data := .dict #[] }) scope.names).Ns s3.heap.objs.size (fun _ => none) := Heap.Ns.keeps (Heap.Ns.new ..) fun b o q => pushCells_keeps _ _ _ _ q
  have ne : s1.heap.objs.size ≠ s3.heap.objs.size := by omega
  have eC4' := frO_ns eC4
  have lt3 : s1.heap.objs.size < s3.heap.objs.size := by rw [z3]; exact Nat.lt_succ_self _
  have kin : cStatics < s1.heap.objs.size := let ⟨_, hn, _⟩ := hl; hn.lt
  have loop : codeAny (model X.prog X.w) X.A (.compLoop (.ListComp (.Name y py) [⟨.Name y py2, e, [], 0⟩] scope pos) 0 (.ref a) (.ref s1.heap.objs.size) ce) (compPost (model X.prog X.w) X.A X.xe none (EP X pins σ Q) (.ref s1.heap.objs.size) s3.heap.objs.size) { s3 with heap := pushCells (s3.heap.push { cls := .type "dict", data := .dict #[] }) scope.names } := by
    refine lcG_loop (Z := ⟨s1.heap.objs.size, s3.heap.objs.size, ne⟩) (P := X.prog) (w := X.w) (outer := X.stack) (H := H1) (sc := sc) (Q := fun out H2 => ∀ p, H2 p = none → Q (.ref p) (upd H2 p (.lst out))) (g := g) hr.hd hr.depth cL cK cY hd ?_ ?_ ?_ ?_ (fun s' acc c o H' ys q1 q2 q3 q4 q5 q6 q7 q8 q9 q10 q11 q12 => ?_) sizeLine _ (hg.keeps kp4) (hl.keeps kp4) ⟨.fresh c, ?_, rfl, ?_⟩
    · exact Nat.ne_of_gt ha2
    · exact Nat.ne_of_gt (Nat.lt_trans ha2 lt3)
    · exact Nat.ne_of_gt kin
    · exact Nat.ne_of_gt (Nat.lt_trans kin lt3)
    · obtain ⟨m, hm⟩ := q3.ns q2
      refine ⟨m, hm, fun h' sb => ?_⟩
      have low : sc.heap.objs.size ≤ s1.heap.objs.size := Nat.le_trans ha1 (Nat.le_of_lt ha2)
      have J := I1.drained low q5 q1 q4 .nil q6 q7 q8 q9 q10
      obtain ⟨f0, f1, f2, f3, f4, f5⟩ := I1.fpOk (H' := upd H' s1.heap.objs.size (.lst ys)) (Nat.le_trans low (Nat.le_of_lt lt3)) (by rw [upd_ne (Ne.symm ne)]; exact q11)
      exact ⟨.ref s1.heap.objs.size, _, J.turned (t' := s'.toks) (fun b o hb e => (sb.2 b hb).trans e) f0 f1 f3 f4 f5, rfl, q12 _ q10⟩
    · show s3.gens[g]? = _
      rw [g3]
      exact hgs
    · refine wake X.A.in1 ⟨s1.heap.objs.size, s3.heap.objs.size, ne⟩ _ hr.in1 I1.ok.frames (Nat.le_refl _) (Nat.le_of_lt lt3) kp4 ⟨0, eS4⟩ eC4' ?_ ?_
      · show s3.os = _
        rw [o3]
        exact hos
      · exact allBare_setGen (s := { s3 with heap := _ }) (by show AllBare s3.gens; rw [g3]; exact hb) rfl
  exact codeAny_compStart_list loop (wpAny_pyIter_gen (hg.keeps kp4) loop)
end
end Sea

set_option Elab.async false
set_option linter.all false
set_option maxRecDepth 100000
set_option maxHeartbeats 4000000
/-! xs[::c] of a list, c a written number -/
namespace Sea
open PySem PySem.Spec PyProof.Rows L2
def every {α : Type} (xs : List α) (d : α) (c : Nat) : List α := (List.range ((xs.length + c - 1) / c)).map fun k => xs.getD (c * k) d
theorem every_lt {n c k : Nat} (hc : 0 < c) (h : k < (n + c - 1) / c) : c * k < n := by
  have h1 : (k + 1) * c ≤ n + c - 1 := (Nat.le_div_iff_mul_le hc).mp h
  rw [Nat.add_mul, Nat.one_mul, Nat.mul_comm] at h1
  omega
theorem step_range {n c : Nat} (hc : 0 < c) : sliceRange 0 (n : Int) (c : Int) = (List.range ((n + c - 1) / c)).map (c * ·) := by
  unfold sliceRange
  have e : (if (c : Int) > 0 then (if (0 : Int) < (n : Int) then ((n : Int) - 0 + (c : Int) - 1) / (c : Int) else 0) else (if (0 : Int) > (n : Int) then (0 - (n : Int) - (c : Int) - 1) / (-(c : Int)) else 0)).toNat = (n + c - 1) / c := by
    rw [if_pos (by omega)]
    by_cases h : 0 < n
    · rw [if_pos (by omega), show (n : Int) - 0 + (c : Int) - 1 = ((n + c - 1 : Nat) : Int) by omega]
      rfl
    · rw [if_neg (by omega)]
      obtain rfl : n = 0 := by omega
      rw [Nat.zero_add, Nat.div_eq_of_lt (by omega)]
      rfl
  show (List.range _).map _ = _
  rw [e]
  refine List.map_congr_left fun k _ => ?_
  rw [show (0 : Int) + (c : Int) * (k : Int) = ((c * k : Nat) : Int) by rw [Int.zero_add]; rfl]
  rfl
theorem pick_step (its : List Value) {c : Nat} (hc : 0 < c) : slicePick its.toArray none none (some (c : Int)) = (every its .none c).toArray := by
  have b : sliceBounds none none (some (c : Int)) its.toArray.size = (0, (its.length : Int), (c : Int)) := by
    unfold sliceBounds
    have h : (c : Int) > 0 := by omega
    have n0 : c ≠ 0 := by omega
    simp [h, n0]
  unfold slicePick
  rw [b, step_range hc]
  unfold every
  congr 1
  rw [List.filterMap_map]
  have go : ∀ l : List Nat, (∀ k ∈ l, c * k < its.length) → l.filterMap ((fun x => its.toArray[x]?) ∘ fun x => c * x) = l.map fun k => its.getD (c * k) .none := by
    intro l
    induction l with
    | nil => exact fun _ => rfl
    | cons k l ih =>
      intro h
      have hk := h k List.mem_cons_self
      have e : ((fun x => its.toArray[x]?) ∘ fun x => c * x) k = some (its.getD (c * k) .none) := by
        show its.toArray[c * k]? = _
        rw [List.getElem?_toArray, List.getD_eq_getElem?_getD, List.getElem?_eq_getElem hk]
        rfl
      rw [List.filterMap_cons_some e, List.map_cons, ih fun j hj => h j (List.mem_cons_of_mem _ hj)]
  exact go _ fun k hk => every_lt hc (List.mem_range.mp hk)
theorem vals_every {xs : List V} {its : List Value} (r : Vals xs its) {c : Nat} (hc : 0 < c) : Vals (every xs .non c) (every its .none c) := by
  unfold every
  rw [r.length]
  have go : ∀ l : List Nat, (∀ k ∈ l, c * k < xs.length) → Vals (l.map fun k => xs.getD (c * k) .non) (l.map fun k => its.getD (c * k) .none) := by
    intro l
    induction l with
    | nil => exact fun _ => .nil
    | cons k l ih =>
      intro h
      have hk := h k List.mem_cons_self
      have e := List.getElem?_eq_getElem hk
      obtain ⟨u, hu, ru⟩ := r.get e
      refine .cons ?_ (ih fun j hj => h j (List.mem_cons_of_mem _ hj))
      show RelV (xs.getD (c * k) .non) (its.getD (c * k) .none)
      rw [List.getD_eq_getElem?_getD, List.getD_eq_getElem?_getD, e, hu]
      exact ru
  exact go _ fun k hk => every_lt hc (by rw [r.length]; exact List.mem_range.mp hk)
def tStepL (K : PySem.W.Frag) (c : Nat) (te : TE) : TE := fun σ H Q => te σ H fun x H1 => ∃ a xs, x = .ref a ∧ SqL K H1 a xs ∧ ∀ p, H1 p = none → Q (.ref p) (upd H1 p (.lst (every xs .non c)))
theorem pe_stepL {X : Cx} {e : Expr} {te : TE} {k c : Nat} {p1 p3 pos : Pos} (he : PE X e te) (hc : 0 < c) (hd : PE X (.Constant (.int (c : Int)) k p1) (tC (.int (c : Int)))) : PE X (.Subscript e (.Slice none none (some (.Constant (.int (c : Int)) k p1)) p3) pos) (tStepL X.K c te) := by
  constructor
  intro pins s σ H Q I h
  have step : PO X (some (.Constant (.int (c : Int)) k p1)) (tPart (tC (.int (c : Int)))) := po_some hd
  refine Subscript_ (thn (he.run pins s σ H _ I h) ?_)
  rintro v s1 ⟨x, H1, I1, r1, a, xs, rfl, hx, q⟩
  obtain rfl : v = .ref a := r1
  apply wpAny_Slice
  refine thn (po_none.run pins s1 σ H1 (fun o H2 => (o, H2) = (none, H1)) I1 rfl) ?_
  rintro vl s2 ⟨_, _, I2, pl, e⟩
  cases e
  refine thn (po_none.run pins s2 σ H1 (fun o H2 => (o, H2) = (none, H1)) I2 rfl) ?_
  rintro vu s3 ⟨_, _, I3, pu, e⟩
  cases e
  refine thn (step.run pins s3 σ H1 (fun o H2 => (o, H2) = (some (c : Int), H1)) I3 ⟨_, rfl, rfl⟩) ?_
  rintro vs s4 ⟨_, _, I4, ps, e⟩
  cases e
  have I5 : Inv X pins σ H1 { s4 with heap := s4.heap.push { cls := .type "slice", data := .fields #[vl, vu, vs] } } := I4.kept (t' := s4.toks) fun _ _ z => Heap.get?_push_of_some _ z
  obtain ⟨its, r, ht, hz⟩ := I5.list hx
  have hlen := r.length
  refine tail_any (ops := [.ref a, .ref s4.heap.objs.size]) ht.isList.typeIs (PySem.slot_list_getitem.lookup) ?_ (by with_unfolding_all rfl)
  refine wpAny_getItem_list_slice ht.isList (Heap.IsSliceOf.new _ vl vu vs) pl pu ps (by intro z; injection z with z; omega) ?_ (by rw [List.size_toArray]; omega)
  rw [pick_step its hc]
  have many : (every xs .non c).length ≤ xs.length := by
    unfold every
    rw [List.length_map, List.length_range]
    rcases Nat.eq_zero_or_pos xs.length with z | z
    · rw [z, Nat.zero_add, Nat.div_eq_of_lt (by omega)]
      exact Nat.le_refl _
    · refine (Nat.div_le_iff_le_mul_add_pred hc).mpr ?_
      have : xs.length ≤ c * xs.length := Nat.le_mul_of_pos_left _ hc
      omega
  refine ⟨.ref _, _, I5.laid (t' := s4.toks) (o := .lst (every xs .non c)) (fun _ _ z => Heap.get?_push_of_some _ z) (Nat.le_refl _) ?_, rfl, q _ (I5.hok.fresh (Nat.le_refl _))⟩
  exact ⟨Nat.le_trans many hz, _, 0, vals_every r hc, Heap.get?_push_size _ rfl⟩
end Sea

set_option Elab.async false
set_option linter.all false
set_option maxRecDepth 100000
set_option maxHeartbeats 4000000
namespace Sea
open PySem PySem.Spec PyProof.Rows L2 LamX NdefX ClX Evl StX
theorem scMix : FnScope ["_law_script", "_law_seed", "_law_mixed", "_law_cell"] ["_law_script", "_law_seed"] (defScope sMix) := ⟨rfl, rfl, rfl, by decide +kernel, rfl, by decide +kernel, by decide +kernel⟩
theorem scNext : FnScope ["_law_h", "_law_limit", "_law_cell"] ["_law_h", "_law_limit"] (defScope sNext) := ⟨rfl, rfl, rfl, by decide +kernel, rfl, by decide +kernel, by decide +kernel⟩
def spMix (K : PySem.W.Frag) : Sp := fun vs H Q _ => ∃ (a : Addr) (ns : List Int) (z : Int), vs = [.ref a, .int z] ∧ SqL K H a (ns.map V.int) ∧ ns.length ≤ 63 ∧ ∀ (h c : Addr) (H' : Hp), Same H H' → H h = none → H c = none → Dr H' h c → Q (.ref h) H'
def spNext : Sp := fun vs H Q _ => ∃ (h c : Addr) (lim : Int), vs = [.ref h, .int lim] ∧ 0 < lim ∧ lim.natAbs.log2 < 9000 ∧ Dr H h c ∧ ∀ (v : Int) (H' : Hp), 0 ≤ v → v < lim → Dr H' h c → Kp h c H H' → Q (.int v) H'
section
variable {P : Program} {w : World} {K : PySem.W.Frag} {mg : Str → Option Value} {base : Heap}
theorem ok_mix {f : Addr} {fd : FuncData} {k : Nat} (F : Fun K "_law_mix" "_law_mix" sMix f fd) (mL : mg "list" = none) (mI : mg "int" = none) : FnOk P w K mg base CX0 (k + 1) f fd ["_law_script", "_law_seed"] (spMix K) := by
  refine F.ok scMix (fun vs H Q E h => ?_) (fun cdv A outer s H vs Q E hr h => ?_)
  · obtain ⟨a, ns, z, rfl, _⟩ := h
    rfl
  · obtain ⟨a, ns, z, rfl, hS, hlen, q⟩ := h
    refine ⟨_, pss_cons (ps_set (i := 2) scMix.nd rfl (.inl rfl) (pv 1)) (pss_cons (ps_for PassesOwn.never rfl (pi_list (pv 0)) (pg_name (i := 3) scMix.nd rfl (.inl rfl))
        (pss_one (ps_set (i := 2) scMix.nd rfl (.inl rfl) (pe_op op_modN (pe_callTy call_int1 (by rfl) mI (by rfl) (pa_cons (pe_op op_add (pe_op op_add (pe_op op_mul (pv 2) pe_int) (pe_op op_modN (pe_callTy call_int1 (by rfl) mI (by rfl) (pa_cons (pv 3) pa_nil)) pe_int)) pe_int) pa_nil)) pe_int))))
      (pss_one (ps_ret (pe_lst (pa_cons (pv 2) (pa_cons (pe_callTy call_list_of (by rfl) mL (by rfl) (pa_cons (pv 0) pa_nil)) (pa_cons pe_int pa_nil))))))), ?_⟩
    refine ⟨_, rfl, ?_⟩
    refine ⟨_, rfl, a, rfl, ⟨_, hS⟩, for_list (K := K) (a := a) (xs := ns.map V.int) (fun i σ H' => ∃ (m : Int) (v : Option V), σ = [some (.ref a), some (.int z), some (.int m), v] ∧ H' = H)
      ⟨z, none, rfl, rfl⟩ (fun i σ H' _ ⟨_, _, _, e⟩ => by rw [e]; exact hS) ?_ ?_⟩
    · rintro i y σ H' hi ⟨m, v, rfl, rfl⟩
      obtain ⟨u, rfl⟩ : ∃ u, y = V.int u := by
        rw [List.getElem?_map] at hi
        cases e : ns[i]? with
        | none => rw [e] at hi; cases hi
        | some u => rw [e] at hi; exact ⟨u, (Option.some.inj hi).symm⟩
      refine ⟨_, rfl, _, _, rfl, rfl, .inr ⟨by decide, by decide⟩, _, rfl, .inl ⟨_, rfl, _, _, rfl, rfl, (by show (2147483629 : Int) ≠ 0; decide), _, _, rfl, rfl, _, _, rfl, rfl, .inl ⟨_, rfl, _, _, rfl, rfl, (by show (2147483647 : Int) ≠ 0; decide), ?_⟩⟩⟩
      exact ⟨_, _, rfl, rfl⟩
    · rintro σ H' ⟨m, v, rfl, rfl⟩
      refine ⟨_, rfl, _, rfl, a, _, rfl, .inl hS, fun c nc => ?_⟩
      refine ⟨Nat.le_of_lt (small1000 (show 3 ≤ 1000 by decide)), fun l nl => ?_⟩
      have ncl : l ≠ c := fun e => by rw [e, upd_same] at nl; cases nl
      refine q l c _ (fun b o e => ?_) ?_ nc ⟨ncl, m, 0, ns, upd_same, ?_, hlen⟩
      · rw [upd_ne (ne_of_none (o := o) (by rw [upd_ne (ne_of_none e nc)]; exact e) nl), upd_ne (ne_of_none e nc)]
        exact e
      · rw [upd_ne ncl] at nl; exact nl
      · rw [upd_ne ncl.symm, upd_same]

theorem ok_next {f : Addr} {fd : FuncData} {k : Nat} (F : Fun K "_law_next" "_law_next" sNext f fd) (mM : mg "max" = none) (mN : mg "len" = none) (mI : mg "int" = none) : FnOk P w K mg base CX0 (k + 1) f fd ["_law_h", "_law_limit"] spNext := by
  refine F.ok scNext (fun vs H Q E h => ?_) (fun cdv A outer s H vs Q E hr h => ?_)
  · obtain ⟨h, c, lim, rfl, _⟩ := h
    rfl
  · obtain ⟨h, c, lim, rfl, l0, l1, ⟨nhc, m, kk, ns, e1, e2, hlen⟩, q⟩ := h
    refine ⟨_, pss_cons (ps_set (i := 2) scNext.nd rfl (.inl rfl) (pe_ixl (pe_op op_cat (pe_ixl (pv 0) pe_int) (pe_lst (pa_cons pe_int pa_nil))) (pe_op op_modN (pe_ixl (pv 0) pe_int) (pe_callB (call_max2 rfl) (by rfl) mM (by rfl) (pa_cons pe_int (pa_cons (pe_callB call_len_seq (by rfl) mN PySem.boot_len (pa_cons (pe_ixl (pv 0) pe_int) pa_nil)) pa_nil))))))
      (pss_cons (ps_if (pt_cmpR op_ge (pv 2) (pe_op op_pow pe_int pe_int) (nomark _))
          (pss_cons (ps_asg (pe_op op_fdivW (pv 2) (pv 1)) (pg_sub (pe_ixl (pv 0) pe_int) (pe_op op_modN (pe_ixl (pv 0) pe_int) (pe_callB call_len_seq (by rfl) mN PySem.boot_len (pa_cons (pe_ixl (pv 0) pe_int) pa_nil))) set_list))
            (pss_one (ps_ret (pe_op op_modN (pv 2) (pv 1))))) pss_nil)
      (pss_cons (ps_asg (pe_op op_modN (pe_callTy call_int1 (by rfl) mI (by rfl) (pa_cons (pe_op op_add (pe_op op_add (pe_op op_mul (pe_ixl (pv 0) pe_int) pe_int) (pe_op op_mul (pv 2) pe_int)) pe_int) pa_nil)) pe_int) (pg_sub (pv 0) pe_int set_list))
      (pss_cons (ps_asg (pe_op op_add (pe_ixl (pv 0) pe_int) pe_int) (pg_sub (pv 0) pe_int set_list))
      (pss_one (ps_ret (pe_op op_modN (pe_op op_fdivN (pe_ixl (pv 0) pe_int) pe_int) (pv 1))))))), ?_⟩
    have d0 : Same H H := fun _ _ e => e
    refine ⟨_, rfl, h, _, 1, _, rfl, rfl, SqL.of e1, rfl, ?_⟩
    refine ⟨Nat.le_of_lt (small1000 (show 1 ≤ 1000 by decide)), fun l nl => ?_⟩
    have s1 : Same H (upd H l (.lst [V.int 0])) := fun b o e => by
      rw [upd_ne (ne_of_none e nl)]
      exact e
    refine ⟨c, l, _, _, rfl, rfl, s1 _ _ e2, upd_same, Nat.le_of_lt (small1000 (show (ns.map V.int).length + 1 ≤ 1000 by rw [List.length_map]; omega)), fun p np => ?_⟩
    have s2 : Same H (upd (upd H l (.lst [V.int 0])) p (.lst (ns.map V.int ++ [V.int 0]))) := fun b o e => by
      rw [upd_ne (ne_of_none (s1 _ _ e) np)]
      exact s1 _ _ e
    have f1 := s2 _ _ e1
    have f2 := s2 _ _ e2
    refine ⟨_, rfl, h, _, 2, _, rfl, rfl, SqL.of f1, rfl, ?_⟩
    refine ⟨_, rfl, h, _, 1, _, rfl, rfl, SqL.of f1, rfl, c, _, rfl, .inl (SqL.of f2), _, _, rfl, ?_⟩
    have hmx : 0 < (if (((ns.map V.int).length : Nat) : Int) > 1 then (((ns.map V.int).length : Nat) : Int) else 1) := by split <;> omega
    refine ⟨_, _, rfl, rfl, Int.ne_of_gt hmx, ?_⟩
    obtain ⟨u, hu⟩ := pick0 ns (kk.fmod (if (((ns.map V.int).length : Nat) : Int) > 1 then (((ns.map V.int).length : Nat) : Int) else 1)) (Int.fmod_nonneg_of_pos _ hmx) (Int.lt_of_lt_of_le (Int.fmod_lt_of_pos kk hmx) (by rw [List.length_map]; split <;> omega))
    refine ⟨p, _, _, _, rfl, rfl, SqL.of upd_same, hu, ?_⟩
    refine ⟨_, rfl, _, _, rfl, rfl, ⟨by decide, by decide, by decide⟩, _, _, rfl, rfl, _, rfl, ?_⟩
    have n0 : lim ≠ 0 := Int.ne_of_gt l0
    have nb : ∀ b o, H b = some o → (upd (upd H l (.lst [V.int 0])) p (.lst (ns.map V.int ++ [V.int 0]))) b = some o := s2
    refine ite2 (fun hgt => ?_) (fun _ => ?_)
    · have hpos : 0 < ns.length := by
        cases ns with
        | nil =>
          exfalso
          have z : u = 0 := by
            have := hu
            rcases pick_nil this with e
            exact e
          rw [z] at hgt
          revert hgt
          decide
        | cons _ _ => exact Nat.succ_pos _
      refine ⟨_, rfl, _, rfl, _, _, rfl, rfl, ⟨l0, l1⟩, ?_⟩
      refine ⟨_, rfl, h, _, 1, _, rfl, rfl, SqL.of f1, rfl, _, rfl, h, _, 2, _, rfl, rfl, SqL.of f1, rfl, ?_⟩
      refine ⟨_, rfl, h, _, 1, _, rfl, rfl, SqL.of f1, rfl, c, _, rfl, .inl (SqL.of f2), ?_⟩
      have hlp : (0 : Int) < (((ns.map V.int).length : Nat) : Int) := by
        rw [List.length_map]
        omega
      obtain ⟨j, hj⟩ := ixn_fmod kk hlp
      refine ⟨_, _, rfl, rfl, Int.ne_of_gt hlp, c, _, _, j, rfl, rfl, f2, hj, ?_⟩
      refine ⟨_, rfl, _, rfl, _, _, rfl, rfl, n0, ?_⟩
      have hpc : c ≠ p := ne_of_none (s1 _ _ e2) np
      refine q _ _ (Int.fmod_nonneg_of_pos _ l0) (Int.fmod_lt_of_pos _ l0) ⟨nhc, m, kk, ns.set j (u / lim), ?_, ?_, ?_⟩ ?_
      · rw [upd_ne nhc]
        exact f1
      · rw [upd_same, List.map_set]
      · rw [List.length_set]
        exact hlen
      · intro b o e _ n2
        rw [upd_ne n2]
        exact s2 _ _ e
    · have _ := n0
      refine ⟨_, rfl, h, _, 0, _, rfl, rfl, SqL.of f1, rfl, _, _, rfl, rfl, .inr ⟨by decide, by decide⟩, ?_⟩
      refine ⟨_, rfl, _, _, rfl, rfl, .inr ⟨by decide, by decide⟩, _, _, rfl, rfl, _, _, rfl, rfl, .inl ⟨_, rfl, _, _, rfl, rfl, (by show (2147483647 : Int) ≠ 0; decide), ?_⟩⟩
      refine ⟨_, rfl, h, _, 0, 0, rfl, rfl, f1, rfl, ?_⟩
      refine ⟨_, rfl, h, _, 2, _, rfl, rfl, SqL.of upd_same, rfl, _, _, rfl, rfl, ?_⟩
      refine ⟨_, rfl, h, _, 2, 2, rfl, rfl, upd_same, rfl, ?_⟩
      refine ⟨_, rfl, h, _, 0, _, rfl, rfl, SqL.of upd_same, rfl, _, _, rfl, rfl, ⟨by decide, by decide⟩, _, rfl, _, _, rfl, rfl, n0, ?_⟩
      refine q _ _ (Int.fmod_nonneg_of_pos _ l0) (Int.fmod_lt_of_pos _ l0) ⟨nhc, _, _, ns, upd_same, ?_, hlen⟩ ?_
      · rw [upd_ne nhc.symm, upd_ne nhc.symm]
        exact f2
      · intro b o e n1 _
        rw [upd_ne n1, upd_ne n1]
        exact s2 _ _ e
end
structure TNx (K : PySem.W.Frag) (mg : Str → Option Value) (fN : Addr) (fdN : FuncData) : Prop where
  g : mg "_law_next" = some (.ref fN)
  kp : PySem.W.keepIn K (.ref fN) = true
  fu : Fun K "_law_next" "_law_next" sNext fN fdN
  mM : mg "max" = none
  mN : mg "len" = none
  mI : mg "int" = none
theorem TNx.b {K : PySem.W.Frag} {mg : Str → Option Value} {fN : Addr} {fdN : FuncData} (T : TNx K mg fN fdN) : Binds K fdN ["_law_h", "_law_limit"] [] := T.fu.binds (ps := ["_law_h", "_law_limit"]) fun _ _ _ _ _ _ us hl => match us, hl with | [_, _], _ => rfl
section
variable {X : Cx} {a b : Expr} {ta tb : TE} {p pos : Pos} {fN : Addr} {fdN : FuncData}
/-- _law_next(a, b) -/
theorem pe_next (T : TNx X.K X.mg fN fdN) (hr : Room 1 X.A) (hg : Gl X "_law_next") (ha : PE X a ta) (hb : PE X b tb) (he : starEach (a :: [b]) X.env = (false, eval a X.env) :: starEach [b] X.env := by rfl) (he2 : starEach (b :: []) X.env = (false, eval b X.env) :: starEach [] X.env := by rfl) (hpl : (backTo pos (starEach [b] X.env)).any (·.1) = false := by rfl) :
    PE X (.Call (.Name "_law_next" p) [a, b] [] pos) (tCall spNext [] E0 (tCons ta (tCons tb tNil))) :=
  pe_call (ok_next (k := 0) T.fu T.mM T.mN T.mI) hr hg T.g T.kp T.b .nil pass0 (pa_cons ha (pa_cons hb pa_nil he2) he) (by decide) he hpl
end
end Sea

set_option Elab.async false
set_option linter.all false
set_option maxRecDepth 100000
set_option maxHeartbeats 4000000
namespace Sea
open PySem PySem.Spec PyProof.Rows L2 LamX NdefX ClX Evl StX
theorem scIV : FnScope ["self", "part", "index"] ["self", "part", "index"] (defScope sIV) := ⟨rfl, rfl, rfl, by decide +kernel, rfl, by decide +kernel, by decide +kernel⟩
theorem scVC : FnScope ["count", "smallest", "largest"] ["count", "smallest", "largest"] (defScope sVC) := ⟨rfl, rfl, rfl, by decide +kernel, rfl, by decide +kernel, by decide +kernel⟩
theorem scVN : FnScope ["part", "numbers", "largest", "most", "index", "number"] ["part", "numbers", "largest", "most"] (defScope sVN) := ⟨rfl, rfl, rfl, by decide +kernel, rfl, by decide +kernel, by decide +kernel⟩
/-- errors of the package, as the travel's code raises them -/
structure TEv (K : PySem.W.Frag) (mg : Str → Option Value) (cV cN cP fV : Addr) (fdV : FuncData) (mp : Value) : Prop where
  xV : OexC K cV
  nP : PySem.W.findIn K (.ref cV) "part" = some none
  nI : PySem.W.findIn K (.ref cV) "index" = some none
  gV : mg "InvalidTravel" = some (.ref cV)
  iV : PySem.W.findIn K (.ref cV) "__init__" = some (some (.ref fV))
  tV : PySem.W.typeIn K (.ref fV) = some (.type "function")
  fu : Fun K "__init__" "InvalidTravel.__init__" sIV fV fdV
  pI : PIn K mg "PassError" cP mp
  qN : PySem.W.excIn K cN [.type "ValueError", .type "Exception", .type "BaseException", .type "object"] "ValueError.__new__" = true
  gN : mg "InvalidCount" = some (.ref cN)
  kN : PySem.W.keepIn K (.ref cN) = true
  sN : PySem.W.subIn K (.ref cN) (.type "BaseException") = some true
  yN : PySem.W.typeIn K (.ref cN) = some (.type "type")
/-- a tuple of whole numbers -/
def TiA (K : PySem.W.Frag) (H : Hp) (v : V) (ns : List Int) : Prop := ∃ a, v = .ref a ∧ SqT K H a (ns.map V.int)
theorem TiA.tk {K : PySem.W.Frag} {H H' : Hp} {v : V} {ns : List Int} (t : TK K H H') (h : TiA K H v ns) : TiA K H' v ns := by
  obtain ⟨a, e, h⟩ := h
  exact ⟨a, e, t _ _ h⟩
theorem mk2_in {K : PySem.W.Frag} {H1 : Hp} {Q : XK} {f g : Str} {y z : V} {c : Addr} (T : OexC K c) (n : PySem.W.findIn K (.ref c) f = some none) (n2 : PySem.W.findIn K (.ref c) g = some none) (h : ∀ d, H1 d = none → Q (.ref c) (some d) (upd H1 d (.xd [(g, z), (f, y)]))) :
    [y, z].length = 2 ∧ ∀ a, H1 a = none → spX2 K f g ([.ref a] ++ [y, z]) (upd H1 a (exo a c none)) (fun v H2 => v = .non ∧ ∃ (d : Addr) (fs : List (Str × V)), H2 a = some (exo a c (some d)) ∧ H2 d = some (exd d fs) ∧ H1 d = none ∧ Q (.ref c) (some d) (upd (del H2 a) d (.xd fs))) (fun _ _ _ => False) := by
  refine ⟨rfl, fun a ha => ⟨a, c, y, z, rfl, T, n, n2, upd_same, fun dx h1 h2 => ?_⟩⟩
  rw [upd_ne h2] at h1
  refine ⟨rfl, dx, _, by rw [upd_ne h2.symm, upd_same], upd_same, h1, ?_⟩
  have e : upd (del (upd (upd (upd (upd H1 a (exo a c none)) dx (exd dx [(f, y)])) a (exo a c (some dx))) dx (exd dx [(g, z), (f, y)])) a) dx (.xd [(g, z), (f, y)]) = upd H1 dx (.xd [(g, z), (f, y)]) := by
    funext b
    by_cases hb : b = dx
    · subst hb
      rw [upd_same, upd_same]
    · rw [upd_ne hb, upd_ne hb]
      by_cases hba : b = a
      · subst hba
        rw [del_same, ha]
      · rw [del_ne hba, upd_ne hb, upd_ne hba, upd_ne hb, upd_ne hba]
  rw [e]
  exact h dx h1
/-- the first of 0 .. n - 1 of which p holds -/
def first (p : Nat → Bool) (n : Nat) : Option Nat := (List.range n).find? p
theorem first_succ (p : Nat → Bool) (n : Nat) : first p (n + 1) = (first p n).or (if p n = true then some n else none) := by
  unfold first
  rw [List.range_succ, List.find?_append, List.find?_cons]
  cases p n <;> rfl
theorem first_none {p : Nat → Bool} : ∀ {n : Nat}, (∀ j, j < n → p j = false) → first p n = none
  | 0, _ => rfl
  | n + 1, h => by
    rw [first_succ, first_none fun j hj => h j (by omega), h n (by omega)]
    rfl
theorem first_at {p : Nat → Bool} {i : Nat} (hp : p i = true) (hb : ∀ j, j < i → p j = false) : ∀ {n : Nat}, i < n → first p n = some i
  | 0, h => absurd h (Nat.not_lt_zero _)
  | n + 1, h => by
    rw [first_succ]
    by_cases e : i < n
    · rw [first_at hp hb e]
      rfl
    · obtain rfl : i = n := by omega
      rw [first_none hb, hp]
      rfl
/-- what is wrong with the i-th number -/
def nbad (ns : List Int) (lg mo : Int) (i : Nat) : Bool := decide (V.int ((i : Nat) : Int) = V.int mo) || (!(decide (0 ≤ ns.getD i 0) && decide (ns.getD i 0 ≤ lg)) || (decide ((0 : Int) < (i : Nat)) && decide (ns.getD i 0 ≤ ns.getD (i - 1) 0)))
def vbad (ns : List Int) (lg mo : Int) : Option Nat := first (nbad ns lg mo) ns.length
def spVC (cN : Addr) : Sp := fun vs H Q E => ∃ c s l : Int, vs = [.int c, .int s, .int l] ∧ (s ≤ c ∧ c ≤ l → ∀ H', Same H H' → Q .non H') ∧ (¬ (s ≤ c ∧ c ≤ l) → ∀ H', Same H H' → E (.ref cN) none H')
def spVN (K : PySem.W.Frag) (cV : Addr) : Sp := fun vs H Q E => ∃ (pt : Str) (v : V) (ns : List Int) (lg mo : Int), vs = [.str pt, v, .int lg, .int mo] ∧ TiA K H v ns ∧ ns.length ≤ 1000 ∧ (vbad ns lg mo = none → ∀ H', Same H H' → Q .non H') ∧
  (∀ i d H', vbad ns lg mo = some i → Same H H' → H' d = some (.xd [("index", .int (i : Nat)), ("part", .str pt)]) → E (.ref cV) (some d) H')
section
variable {P : Program} {w : World} {K : PySem.W.Frag} {mg : Str → Option Value} {base : Heap} {cV cN cP fV : Addr} {fdV : FuncData} {mp : Value}
theorem ok_IV {k : Nat} (T : TEv K mg cV cN cP fV fdV mp) : FnOk P w K mg base CX0 (k + 1) fV fdV ["self", "part", "index"] (spX2 K "part" "index") := by
  refine T.fu.ok scIV (fun vs H Q E h => ?_) (fun cdv A outer s H vs Q E hr h => ?_)
  · obtain ⟨a, C', y, z, rfl, _⟩ := h
    rfl
  · obtain ⟨a, C', y, z, rfl, hx, hf, hg, ha, q⟩ := h
    refine ⟨_, pss_cons (ps_expr (pe_pinit (by rfl) T.pI.gB T.pI.rd T.pI.ga T.pI.at_ (pa_cons (pv 0) (pa_cons pe_str pa_nil)))) (pss_cons (ps_ost (pv 0) (pv 1)) (pss_one (ps_ost (pv 0) (pv 2)))), ?_⟩
    refine ⟨_, rfl, a, C', _, rfl, show 1 ≤ 1000 by decide, hx, ha, _, rfl, _, rfl, a, C', rfl, hx, hf, .inl ⟨ha, fun dx h1 h2 => ⟨_, rfl, _, rfl, a, C', rfl, hx, hg, .inr ⟨dx, [("part", y)], upd_same, by rw [upd_ne h2, upd_same], show 1 ≤ 900 by decide, ?_⟩⟩⟩⟩
    exact q dx h1 h2
theorem kb_IV (T : TEv K mg cV cN cP fV fdV mp) : KBn K fdV ["self", "part", "index"] 1 ["part", "index"] (fun us ws => us ++ ws) (fun vs zs => vs ++ zs) := by
  obtain ⟨oc, od, kV, doc, pm, an, cdv, ct, osl, rfl, lk, hcd⟩ := T.fu.ex
  refine ⟨fun s us ws _ h1 h2 => ?_, fun a b => a.append b⟩
  match us, ws, h1, h2 with
  | [u], [x, y], _, _ => exact .of_eq rfl
theorem ok_vc {f : Addr} {fd : FuncData} {k : Nat} (F : Fun K "validate_count" "validate_count" sVC f fd) (T : TEv K mg cV cN cP fV fdV mp) : FnOk P w K mg base (L2.CX P w) (k + 1) f fd ["count", "smallest", "largest"] (spVC cN) := by
  refine F.okX scVC (fun vs H Q E h => ?_) (fun cdv A outer s H vs Q E hr h => ?_)
  · obtain ⟨c, x, l, rfl, _⟩ := h
    rfl
  · obtain ⟨c, x, l, rfl, q1, q2⟩ := h
    refine ⟨_, pss_one (ps_if (pt_not (pt_chain op_le op_le (pv 1) (pv 0) (pv 2))) (pss_one (ps_raise rfl (takes_of rfl rfl rfl rfl) (pmk_own PySem.F.excBase_ValueError T.qN T.gN T.kN (raises_own T.sN T.yN) (by rfl)))) pss_nil), ?_⟩
    refine s_when (b := !(decide (x ≤ c) && decide (c ≤ l))) (et_not (et_test (ev_chainI (p := fun i j => decide (i ≤ j)) (q := fun i j => decide (i ≤ j)) (ev_var rfl) (ev_var rfl) (ev_var rfl)))) (fun hb H1 e1 => q2 (fun hc => ?_) H1 e1) (fun hb H1 e1 => q1 ?_ H1 e1)
    · rw [decide_eq_true hc.1, decide_eq_true hc.2] at hb
      cases hb
    · have : (decide (x ≤ c) && decide (c ≤ l)) = true := by
        cases h : (decide (x ≤ c) && decide (c ≤ l)) with
        | true => rfl
        | false =>
          rw [h] at hb
          cases hb
      rw [Bool.and_eq_true] at this
      exact ⟨of_decide_eq_true this.1, of_decide_eq_true this.2⟩
theorem ok_vn {f : Addr} {fd : FuncData} {k : Nat} (F : Fun K "validate_numbers" "validate_numbers" sVN f fd) (T : TEv K mg cV cN cP fV fdV mp) (mE : mg "enumerate" = none) : FnOk P w K mg base (L2.CX P w) (k + 4) f fd ["part", "numbers", "largest", "most"] (spVN K cV) := by
  have GI : FnOk P w K mg base CX0 1 fV fdV ["self", "part", "index"] (spX2 K "part" "index") := ok_IV T
  have kb := kb_IV T
  refine F.okX scVN (fun vs H Q E h => ?_) (fun cdv A outer s H vs Q E hr h => ?_)
  · obtain ⟨pt, v, ns, lg, mo, rfl, _⟩ := h
    rfl
  · obtain ⟨pt, v, ns, lg, mo, rfl, ⟨p, rfl, hp⟩, hlen, q1, q2⟩ := h
    refine ⟨_, pss_one (ps_for (passes_of rfl) rfl (pi_enumT (by rfl) mE (pa_cons (pv 1) pa_nil)) (pg_tup rfl (pgs_cons (pg_name (i := 4) scVN.nd rfl (.inl rfl)) (pgs_cons (pg_name (i := 5) scVN.nd rfl (.inl rfl)) pgs_nil)))
      (pss_one (ps_if (PW.pt (pw_or (pt_cmpR op_eq (pv 4) (pv 3) (nomark _)) (pw_or (pt_not (pt_chain op_le op_le pe_int (pv 5) (pv 2))) (pw_or1 (PW.pt (pw_and (pt_cmpR op_gt (pv 4) pe_int (nomark _)) (pw_and1 (pt_cmpR op_le (pv 5) (pe_ixt (pv 1) (pe_op op_sub (pv 4) pe_int)) (nomark _)))))))))
        (pss_one (ps_raise rfl (takes_of rfl rfl rfl rfl) (pmk_kw T.xV T.iV T.tV GI (hr.mono (by omega)) kb pass0 (by rfl) T.gV (pk_cons (pv 0) (pk_cons (pv 4) pk_nil))))) pss_nil))), ?_⟩
    have hll : (ns.map V.int).length = ns.length := List.length_map ..
    refine ⟨_, rfl, p, _, rfl, hp, for_rounds (I := IteT K p (ns.map V.int)) (ns.map V.int).length (fun i σ H' => ∃ v4 v5, σ = [some (.str pt), some (.ref p), some (.int lg), some (.int mo), v4, v5] ∧ Same H H' ∧ ∀ j, j < i → nbad ns lg mo j = false)
      ⟨none, none, rfl, Same.refl H, fun j hj => absurd hj (Nat.not_lt_zero _)⟩ ?_ ?_⟩
    · rintro i σ H' hi ⟨v4, v5, rfl, sm, hall⟩
      refine ⟨⟨hi, (TK.same sm) _ _ hp⟩, ?_⟩
      rintro y HT ⟨x, TT, hx, nT, rfl, rfl⟩
      rw [hll] at hi
      obtain rfl : x = .int ns[i] := by
        rw [List.getElem?_map, List.getElem?_eq_getElem hi] at hx
        exact (Option.some.inj hx).symm
      have sT : Same H' (upd H' TT (.tup [.int (i : Nat), .int ns[i]])) := same_new nT
      have hp2 := (TK.same (sm.trans sT)) _ _ hp
      have gi : ns.getD i 0 = ns[i] := by rw [List.getD_eq_getElem?_getD, List.getElem?_eq_getElem hi]; rfl
      refine ⟨TT, _, rfl, .of upd_same, rfl, _, _, rfl, _, _, rfl, rfl, ?_⟩
      refine s_when (b := nbad ns lg mo i) ?_ (fun hb H2 e2 => ?_) (fun hb H2 e2 => ⟨_, _, rfl, (sm.trans sT).trans e2, fun j hj => ?_⟩)
      · unfold nbad
        rw [gi]
        refine et_or (et_test (ev_op (ev_var rfl) (ev_var rfl) (rv_eq rfl))) fun _ => et_or (et_not (et_test (ev_chainI (p := fun i j => decide (i ≤ j)) (q := fun i j => decide (i ≤ j)) ev_c (ev_var rfl) (ev_var rfl)))) fun _ => et_and (et_test (ev_op (ev_var rfl) ev_c rv_I0)) fun h0 => ?_
        have h0' : 0 < i := by
          have := of_decide_eq_true h0
          omega
        have hi1 : i - 1 < ns.length := by omega
        have g1 : ns.getD (i - 1) 0 = ns[i - 1] := by rw [List.getD_eq_getElem?_getD, List.getElem?_eq_getElem hi1]; rfl
        rw [g1]
        have ha : atI (ns.map V.int) (((i : Nat) : Int) - 1) = some (.int ns[i - 1]) := by
          rw [show ((i : Nat) : Int) - 1 = ((i - 1 : Nat) : Int) by omega]
          refine at_nat (by rw [hll]; exact hi1) ?_
          rw [List.getElem?_map, List.getElem?_eq_getElem hi1]
          rfl
        exact et_test (ev_op (ev_var rfl) (ev_op (ev_var rfl) (ev_op (ev_var rfl) ev_c rv_I0) (rv_ixT hp2 ha)) rv_I0)
      · refine ⟨_, rfl, _, rfl, mk2_in T.xV T.nP T.nI fun d hd => q2 i d _ ?_ (((sm.trans sT).trans e2).trans (same_new hd)) upd_same⟩
        exact first_at hb hall hi
      · by_cases hji : j < i
        · exact hall j hji
        · obtain rfl : j = i := by omega
          exact hb
    · rintro σ H' ⟨v4, v5, rfl, sm, hall⟩
      refine ⟨⟨rfl, (TK.same sm) _ _ hp⟩, ?_⟩
      rw [hll] at hall
      exact q1 (first_none hall) H' sm
end
end Sea

set_option Elab.async false
set_option linter.all false
set_option maxRecDepth 100000
set_option maxHeartbeats 4000000
namespace Sea
open PySem PySem.Spec PyProof.Rows L2 LamX NdefX ClX Evl StX
/-- a day of travel, as the code says it -/
def trv (ln : Int) (ds os : List Int) (day : Int) : Bool := !decide (V.bl (inV (.int (day.fmod ln)) (ds.map V.int)) = V.bl (inV (.int day) (os.map V.int)))
/-- (length, days) -/
def PtA (K : PySem.W.Frag) (H : Hp) (v : V) (ln : Int) (ds : List Int) : Prop := ∃ a d, v = .ref a ∧ SqT K H a [.int ln, d] ∧ TiA K H d ds
theorem flat_ints : ∀ ns : List Int, (ns.map V.int).all flatV = true
  | [] => rfl
  | _ :: r => flat_ints r
end Sea

set_option Elab.async false
set_option linter.all false
set_option maxRecDepth 100000
set_option maxHeartbeats 4000000
namespace Sea
open PySem PySem.Spec PyProof.Rows L2 LamX NdefX ClX Evl StX
theorem scPat : FnScope ["_law_h", "_law_most", "_law_length", "_law_day"] ["_law_h", "_law_most"] (defScope sPat) := ⟨rfl, rfl, rfl, by decide +kernel, rfl, by decide +kernel, by decide +kernel⟩
/-- rising numbers from 0 to lg -/
def Good (ns : List Int) (lg : Int) : Prop := ∀ j, j < ns.length → 0 ≤ ns.getD j 0 ∧ ns.getD j 0 ≤ lg ∧ (0 < j → ns.getD (j - 1) 0 < ns.getD j 0)
theorem Good.mono {ns : List Int} {l m : Int} (h : Good ns l) (e : l ≤ m) : Good ns m := fun j hj => ⟨(h j hj).1, Int.le_trans (h j hj).2.1 e, (h j hj).2.2⟩
theorem getD_app1 {ns : List Int} {x : Int} {j : Nat} (h : j < ns.length) : (ns ++ [x]).getD j 0 = ns.getD j 0 := by
  rw [List.getD_eq_getElem?_getD, List.getD_eq_getElem?_getD, List.getElem?_append_left h]
theorem getD_app2 {ns : List Int} {x : Int} : (ns ++ [x]).getD ns.length 0 = x := by
  rw [List.getD_eq_getElem?_getD, List.getElem?_append_right (Nat.le_refl _), Nat.sub_self]
  rfl
theorem Good.snoc {ns : List Int} {x : Int} (h : Good ns (x - 1)) (h0 : 0 ≤ x) : Good (ns ++ [x]) x := fun j hj => by
  rw [List.length_append, List.length_singleton] at hj
  by_cases e : j < ns.length
  · rw [getD_app1 e]
    obtain ⟨a, b, c⟩ := h j e
    refine ⟨a, by omega, fun hp => ?_⟩
    rw [getD_app1 (by omega)]
    exact c hp
  · obtain rfl : j = ns.length := by omega
    rw [getD_app2]
    refine ⟨h0, Int.le_refl _, fun hp => ?_⟩
    rw [getD_app1 (by omega)]
    have := (h (ns.length - 1) (by omega)).2.1
    omega
theorem vbad_good {ns : List Int} {lg mo : Int} (h : Good ns lg) (hl : (ns.length : Int) ≤ mo) : vbad ns lg mo = none := first_none fun j hj => by
  obtain ⟨a, b, c⟩ := h j hj
  unfold nbad
  rw [decide_eq_true a, decide_eq_true b, show decide (V.int ((j : Nat) : Int) = V.int mo) = false from by rw [dec_int]; simp; omega]
  by_cases hp : 0 < j
  · have := c hp
    rw [show decide (ns.getD j 0 ≤ ns.getD (j - 1) 0) = false from decide_eq_false (by omega)]
    simp
  · rw [show decide ((0 : Int) < (j : Nat)) = false from decide_eq_false (by omega)]
    rfl
def spPat (K : PySem.W.Frag) : Sp := fun vs H Q _ => ∃ (h c : Addr) (m : Int), vs = [.ref h, .int m] ∧ 0 < m ∧ m ≤ 100 ∧ Dr H h c ∧ ∀ (v : V) (ln : Int) (ds : List Int) (H' : Hp), PtA K H' v ln ds → 1 ≤ ln → ln ≤ m → Good ds (ln - 1) → (ds.length : Int) ≤ ln → Dr H' h c → Kp h c H H' → Q v H'
section
variable {P : Program} {w : World} {K : PySem.W.Frag} {mg : Str → Option Value} {base : Heap} {fN : Addr} {fdN : FuncData}
theorem ok_pat {f : Addr} {fd : FuncData} {k : Nat} (F : Fun K "_law_pattern" "_law_pattern" sPat f fd) (T : TNx K mg fN fdN) (mR : mg "range" = none) (mT : mg "tuple" = none) : FnOk P w K mg base CX0 (k + 2) f fd ["_law_h", "_law_most"] (spPat K) := by
  refine F.ok scPat (fun vs H Q E h => ?_) (fun cdv A outer s H vs Q E hr h => ?_)
  · obtain ⟨h, c, m, rfl, _⟩ := h
    rfl
  · obtain ⟨h, c, m, rfl, m0, m1, d, q⟩ := h
    have h1 := hr.mono (show 1 ≤ k + 1 by omega)
    have ltb : ∀ {n : Nat}, n ≤ 1000 → n ≤ sizeLine := fun h => Nat.le_of_lt (small1000 h)
    refine ⟨_, pss_cons (ps_set (i := 2) scPat.nd rfl (.inl rfl) (pe_op op_add pe_int (pe_next T h1 (by rfl) (pv 0) (pv 1))))
      (pss_one (ps_ret (pe_tup (pa_cons (pv 2) (pa_cons (pe_callTy call_tuple_of (by rfl) mT (by rfl) (pa_cons (pe_lc (own := [("_law_day", 3)]) (g := gName 3) (by rfl) scPat.nd (pi_range1 (by rfl) mR (pa_cons (pv 2) pa_nil))
        (blkOk_by (own := [("_law_day", 3)]) (N := ["_law_h", "_law_most", "_law_length", "_law_day"]) (sc := defScope sPat) (by decide +kernel)) (fun _ _ _ _ _ => pg_name (i := 3) scPat.nd rfl (Or.inl rfl))
        (fun _ _ _ _ _ => pts_one (pt_cmpR op_gt (pe_next T h1 (by rfl) (pv 0) pe_int) pe_int (nomark _))) (fun _ _ _ _ _ => pv 3)) pa_nil)) pa_nil))))), ?_⟩
    have lm : m.natAbs.log2 < 9000 := Nat.lt_of_le_of_lt (Nat.log2_le_self _) (by omega)
    refine ⟨_, rfl, _, rfl, h, c, m, rfl, m0, lm, d, fun x H1 x0 x1 d1 k1 => ⟨_, _, rfl, rfl, ?_⟩⟩
    refine ⟨_, rfl, _, rfl, 1 + x, rfl, by omega, by omega, fun D nD => ?_⟩
    have nn := d1.nh nD
    refine lc_range (lo := 0) (n := (1 + x).toNat) (fun i H' => ∃ ds : List Int, Dr H' h c ∧ Kp h c H1 H' ∧ H' D = some (.lst (ds.map V.int)) ∧ Good ds ((i : Nat) - 1) ∧ ds.length ≤ i) ⟨[], d1.new nD, Kp.new nD, upd_same, fun j hj => absurd hj (Nat.not_lt_zero _), Nat.le_refl _⟩ ?_ ?_
    · rintro i H' hi ⟨ds, d2, k2, hD, hg, hl⟩
      refine ⟨rfl, _, rfl, h, c, 3, rfl, by decide, by decide, d2, fun y H3 y0 y1 d3 k3 => ⟨_, _, rfl, rfl, _, rfl, ?_⟩⟩
      have hD3 := k3 _ _ hD nn.1 nn.2
      refine ite2 (fun _ => ?_) (fun _ => ⟨ds, d3, k2.trans k3, hD3, hg.mono (by omega), by omega⟩)
      refine ⟨_, rfl, _, hD3, by rw [List.length_map]; exact small1000 (by omega), ds ++ [((i : Nat) : Int)], ?_, ?_, ?_, ?_, ?_⟩
      · obtain ⟨n0, mm, kk, ns, f1, f2, f3⟩ := d3
        exact ⟨n0, mm, kk, ns, by rw [upd_ne nn.1.symm]; exact f1, by rw [upd_ne nn.2.symm]; exact f2, f3⟩
      · intro b o e n1 n2
        rw [upd_ne (ne_of_none e nD)]
        exact (k2.trans k3) b o e n1 n2
      · rw [upd_same, List.map_append, Int.zero_add]
        rfl
      · rw [show (((i + 1 : Nat) : Int)) - 1 = (i : Int) by omega]
        exact hg.snoc (by omega)
      · rw [List.length_append, List.length_singleton]
        omega
    · rintro H' ⟨ds, d2, k2, hD, hg, hl⟩
      refine ⟨D, _, rfl, .inl ⟨.of hD, fun l nl => ⟨ltb (show 2 ≤ 1000 by decide), fun r nr => ?_⟩⟩⟩
      have nlr : l ≠ r := fun z => by
        rw [← z, upd_same] at nr
        cases nr
      refine q _ (1 + x) ds _ ⟨r, .ref l, rfl, .of upd_same, l, rfl, .of ?_⟩ (by omega) (by omega) (hg.mono (by omega)) (by omega) ((d2.new nl).new nr) (((k1.trans k2).trans (Kp.new nl)).trans (Kp.new nr))
      rw [upd_ne nlr, upd_same]
end
end Sea

set_option Elab.async false
set_option linter.all false
set_option maxRecDepth 100000
set_option maxHeartbeats 4000000
namespace Sea
open PySem PySem.Spec PyProof.Rows L2 LamX NdefX ClX Evl StX
theorem scTvI : FnScope ["self", "length", "days", "exceptions"] ["self", "length", "days", "exceptions"] (defScope sTvI) := ⟨rfl, rfl, rfl, by decide +kernel, rfl, by decide +kernel, by decide +kernel⟩
/-- what is wrong with a travel -/
def tbad (ln : Int) (ds os : List Int) : Option (Str × Nat) :=
  if 1 ≤ ln ∧ ln ≤ 14 then (match vbad ds (ln - 1) 14 with
    | some i => some ("days", i)
    | none => match vbad os 1000000000000000000 6 with
      | some i => some ("exceptions", i)
      | none => none) else some ("length", 0)
/-- the travel's class and its constants -/
structure TTv (K : PySem.W.Frag) (mg : Str → Option Value) (C fVN fVC : Addr) (dVN dVC : FuncData) : Prop where
  cl : Cls K C
  nS : NoAttr K C "size"
  nP : NoAttr K C "pattern"
  nO : NoAttr K C "odd_days"
  gC : mg "Travel" = some (.ref C)
  mR : ∃ u, mg "MAX_ROUND" = some u ∧ RelV (.int 14) u
  mX : ∃ u, mg "MAX_EXCEPTIONS" = some u ∧ RelV (.int 6) u
  mD : ∃ u, mg "MAX_DAYS" = some u ∧ RelV (.int 1000000000000000000) u
  mY : ∃ u, mg "MAX_YIELDED" = some u ∧ RelV (.int 10000) u
  mE : mg "enumerate" = none
  gVN : mg "validate_numbers" = some (.ref fVN)
  kVN : PySem.W.keepIn K (.ref fVN) = true
  uVN : Fun K "validate_numbers" "validate_numbers" sVN fVN dVN
  gVC : mg "validate_count" = some (.ref fVC)
  kVC : PySem.W.keepIn K (.ref fVC) = true
  uVC : Fun K "validate_count" "validate_count" sVC fVC dVC
theorem TTv.bVN {K : PySem.W.Frag} {mg : Str → Option Value} {C fVN fVC : Addr} {dVN dVC : FuncData} (T : TTv K mg C fVN fVC dVN dVC) : Binds K dVN ["part", "numbers", "largest", "most"] [] := T.uVN.binds (ps := ["part", "numbers", "largest", "most"]) fun _ _ _ _ _ _ us hl => match us, hl with | [_, _, _, _], _ => rfl
theorem TTv.bVC {K : PySem.W.Frag} {mg : Str → Option Value} {C fVN fVC : Addr} {dVN dVC : FuncData} (T : TTv K mg C fVN fVC dVN dVC) : Binds K dVC ["count", "smallest", "largest"] [] := T.uVC.binds (ps := ["count", "smallest", "largest"]) fun _ _ _ _ _ _ us hl => match us, hl with | [_, _, _], _ => rfl
theorem putF_len (f : Str) (v : V) : ∀ fs : List (Str × V), (putF f v fs).length ≤ fs.length + 1
  | [] => Nat.le_refl _
  | (g, u) :: r => by
    show (if g = f then (g, v) :: r else (g, u) :: putF f v r).length ≤ r.length + 1 + 1
    by_cases e : g = f
    · rw [if_pos e]
      exact Nat.le_succ _
    · rw [if_neg e]
      exact Nat.succ_le_succ (putF_len f v r)
/-- the fields of a travel -/
abbrev tvF (ln : Int) (d o : V) : List (Str × V) := putF "odd_days" o (putF "pattern" d (putF "size" (.int ln) []))
def spTvI (K : PySem.W.Frag) (C cV : Addr) : Sp := fun vs H Q E => ∃ (a dx : Addr) (ln : Int) (d o : V) (ds os : List Int), vs = [.ref a, .int ln, d, o] ∧ H a = some (.ins C dx []) ∧ TiA K H d ds ∧ TiA K H o os ∧ ds.length ≤ 1000 ∧ os.length ≤ 1000 ∧
  (tbad ln ds os = none → ∀ H', (∀ b o, H b = some o → b ≠ a → H' b = some o) → H' a = some (.ins C dx (tvF ln d o)) → Q .non H') ∧
  (∀ pt i dd H', tbad ln ds os = some (pt, i) → Same H H' → H' dd = some (.xd [("index", .int (i : Nat)), ("part", .str pt)]) → E (.ref cV) (some dd) H')
section
variable {P : Program} {w : World} {K : PySem.W.Frag} {mg : Str → Option Value} {base : Heap} {cV cN cP fV C fVN fVC : Addr} {fdV dVN dVC : FuncData} {mp : Value}
theorem ok_tvI {f : Addr} {fd : FuncData} (F : Fun K "__init__" "Travel.__init__" sTvI f fd) (T : TEv K mg cV cN cP fV fdV mp) (W : TTv K mg C fVN fVC dVN dVC) : FnOk P w K mg base (L2.CX P w) 5 f fd ["self", "length", "days", "exceptions"] (spTvI K C cV) := by
  have GI : FnOk P w K mg base CX0 1 fV fdV ["self", "part", "index"] (spX2 K "part" "index") := ok_IV T
  have kb := kb_IV T
  refine F.okX scTvI (fun vs H Q E h => ?_) (fun cdv A outer s H vs Q E hr h => ?_)
  · obtain ⟨a, dx, ln, d, o, ds, os, rfl, _⟩ := h
    rfl
  · obtain ⟨a, dx, ln, d, o, ds, os, rfl, ha, hd, ho, ld, lo, q1, q2⟩ := h
    have PX : Passes (L2.CX P w) (cxOf (L2.CX P w) P w K mg base ["self", "length", "days", "exceptions"] "Travel.__init__" (defScope sTvI) f cdv A outer s H E) E := passes_call (takes_of rfl rfl rfl rfl) (fun _ _ _ _ h => h)
    have G : FnOk P w K mg base (L2.CX P w) 4 fVN dVN ["part", "numbers", "largest", "most"] (spVN K cV) := ok_vn (k := 0) W.uVN T W.mE
    refine ⟨_, pss_cons (ps_if (pt_not (pt_chain op_le op_le pe_int (pv 1) (C8.pe_gc (by rfl) W.mR))) (pss_one (ps_raise rfl (takes_of rfl rfl rfl rfl) (pmk_kw T.xV T.iV T.tV GI (hr.mono (by omega)) kb pass0 (by rfl) T.gV (pk_cons pe_str (pk_cons pe_int pk_nil))))) pss_nil)
      (pss_cons (ps_expr (pe_call (E := E) G hr (by rfl) W.gVN W.kVN W.bVN .nil PX (pa_cons pe_str (pa_cons (pv 2) (pa_cons (pe_op op_sub (pv 1) pe_int) (pa_cons (C8.pe_gc (by rfl) W.mR) pa_nil))))))
      (pss_cons (ps_expr (pe_call (E := E) G hr (by rfl) W.gVN W.kVN W.bVN .nil PX (pa_cons pe_str (pa_cons (pv 3) (pa_cons (C8.pe_gc (by rfl) W.mD) (pa_cons (C8.pe_gc (by rfl) W.mX) pa_nil))))))
      (pss_cons (ps_fld (pv 0) (pv 1) rfl) (pss_cons (ps_fld (pv 0) (pv 2) rfl) (pss_one (ps_fld (pv 0) (pv 3) rfl)))))), ?_⟩
    refine q_when (b := !(decide (1 ≤ ln) && decide (ln ≤ 14))) (et_not (et_test (ev_chainI (p := fun i j => decide (i ≤ j)) (q := fun i j => decide (i ≤ j)) ev_c (ev_var rfl) ev_c))) (fun hb H1 e1 => ?_) (fun hb H1 e1 => ?_)
    · refine mk2_in T.xV T.nP T.nI fun dd hdd => q2 "length" 0 dd _ ?_ (Same.trans e1 (same_new hdd)) upd_same
      unfold tbad
      rw [if_neg fun hc => by
        rw [decide_eq_true hc.1, decide_eq_true hc.2] at hb
        cases hb]
    · have hc : 1 ≤ ln ∧ ln ≤ 14 := by
        have : (decide (1 ≤ ln) && decide (ln ≤ 14)) = true := by
          cases h : (decide (1 ≤ ln) && decide (ln ≤ 14)) with
          | true => rfl
          | false =>
            rw [h] at hb
            cases hb
        rw [Bool.and_eq_true] at this
        exact ⟨of_decide_eq_true this.1, of_decide_eq_true this.2⟩
      have hd1 := hd.tk (.same e1)
      refine ⟨_, rfl, _, rfl, _, _, rfl, rfl, "days", d, ds, ln - 1, 14, rfl, hd1, ld, fun hv H2 s2 => ?_, fun i dd H2 hv s2 hx => q2 "days" i dd H2 ?_ (Same.trans e1 s2) hx⟩
      · have ho2 := (ho.tk (.same e1)).tk (.same s2)
        refine ⟨_, rfl, "exceptions", o, os, 1000000000000000000, 6, rfl, ho2, lo, fun hv2 H3 s3 => ?_, fun i dd H3 hv2 s3 hx => q2 "exceptions" i dd H3 ?_ (Same.trans (Same.trans e1 s2) s3) hx⟩
        · have ha3 := s3 _ _ (s2 _ _ (e1 _ _ ha))
          refine ⟨_, rfl, _, rfl, a, C, dx, [], rfl, ha3, W.cl, W.nS, by decide, ?_⟩
          refine ⟨_, rfl, _, rfl, a, C, dx, _, rfl, upd_same, W.cl, W.nP, (show 1 < 1000 by decide), ?_⟩
          refine ⟨_, rfl, _, rfl, a, C, dx, _, rfl, upd_same, W.cl, W.nO, Nat.lt_of_le_of_lt (putF_len _ _ _) (show 2 < 1000 by decide), ?_⟩
          refine q1 ?_ _ (fun b x e n => ?_) upd_same
          · unfold tbad
            rw [if_pos hc, hv, hv2]
          · rw [upd_ne n, upd_ne n, upd_ne n]
            exact s3 _ _ (s2 _ _ (e1 _ _ e))
        · unfold tbad
          rw [if_pos hc, hv, hv2]
      · unfold tbad
        rw [if_pos hc, hv]
end
end Sea

set_option Elab.async false
set_option linter.all false
set_option maxRecDepth 100000
set_option maxHeartbeats 4000000
namespace Sea
open PySem PySem.Spec PyProof.Rows L2 LamX NdefX ClX Evl StX
theorem scTo : FnScope ["self", "day"] ["self", "day"] (defScope sTo) := ⟨rfl, rfl, rfl, by decide +kernel, rfl, by decide +kernel, by decide +kernel⟩
theorem scIs : FnScope ["self", "day"] ["self", "day"] (defScope sIs) := ⟨rfl, rfl, rfl, by decide +kernel, rfl, by decide +kernel, by decide +kernel⟩
theorem scCt : FnScope ["self", "count", "rest", "total", "day"] ["self", "count"] (defScope sCt) := ⟨rfl, rfl, rfl, by decide +kernel, rfl, by decide +kernel, by decide +kernel⟩
theorem tvF_size (ln : Int) (d o : V) : (tvF ln d o).lookup ("size" : Str) = some (.int ln) := by
  unfold tvF
  rw [lookup_putF, if_neg (by decide +kernel), lookup_putF, if_neg (by decide +kernel), lookup_putF, if_pos rfl]
theorem tvF_pat (ln : Int) (d o : V) : (tvF ln d o).lookup ("pattern" : Str) = some d := by
  unfold tvF
  rw [lookup_putF, if_neg (by decide +kernel), lookup_putF, if_pos rfl]
theorem tvF_odd (ln : Int) (d o : V) : (tvF ln d o).lookup ("odd_days" : Str) = some o := by
  unfold tvF
  rw [lookup_putF, if_pos rfl]
theorem tvF_no (ln : Int) (d o : V) {m : Str} (h1 : ¬ m = "odd_days") (h2 : ¬ m = "pattern") (h3 : ¬ m = "size") : (tvF ln d o).lookup m = none := by
  unfold tvF
  rw [lookup_putF, if_neg h1, lookup_putF, if_neg h2, lookup_putF, if_neg h3]
  rfl
/-- a travel at a -/
def Tv (K : PySem.W.Frag) (C : Addr) (H : Hp) (a : Addr) (ln : Int) (d o : V) (ds os : List Int) : Prop := (∃ dx, H a = some (.ins C dx (tvF ln d o))) ∧ TiA K H d ds ∧ TiA K H o os
theorem Tv.same {K : PySem.W.Frag} {C : Addr} {H H' : Hp} {a : Addr} {ln : Int} {d o : V} {ds os : List Int} (t : Tv K C H a ln d o ds os) (s : Same H H') : Tv K C H' a ln d o ds os := by
  obtain ⟨⟨dx, h⟩, h1, h2⟩ := t
  exact ⟨⟨dx, s _ _ h⟩, h1.tk (.same s), h2.tk (.same s)⟩
section
variable {K : PySem.W.Frag} {C : Addr} {H : Hp} {σ : L2.St} {i : Nat} {a dx : Addr} {ln : Int} {d o : V}
theorem ev_size (c : Cls K C) (n : NoAttr K C "size") (ha : H a = some (.ins C dx (tvF ln d o))) (hs : σ[i]? = some (some (.ref a))) : Ev (tFld K (tVar i) "size") σ H (.int ln) := fun H1 e Q q => ⟨.ref a, hs, a, C, dx, _, _, rfl, e _ _ ha, c, n, tvF_size _ _ _, q H1 (Ex.refl _)⟩
theorem ev_pat (c : Cls K C) (n : NoAttr K C "pattern") (ha : H a = some (.ins C dx (tvF ln d o))) (hs : σ[i]? = some (some (.ref a))) : Ev (tFld K (tVar i) "pattern") σ H d := fun H1 e Q q => ⟨.ref a, hs, a, C, dx, _, _, rfl, e _ _ ha, c, n, tvF_pat _ _ _, q H1 (Ex.refl _)⟩
theorem ev_odd (c : Cls K C) (n : NoAttr K C "odd_days") (ha : H a = some (.ins C dx (tvF ln d o))) (hs : σ[i]? = some (some (.ref a))) : Ev (tFld K (tVar i) "odd_days") σ H o := fun H1 e Q q => ⟨.ref a, hs, a, C, dx, _, _, rfl, e _ _ ha, c, n, tvF_odd _ _ _, q H1 (Ex.refl _)⟩
theorem ev_int1 {te : TE} {n : Int} (h : Ev te σ H (.int n)) : Ev (tCB (fun xs H Q => (∃ n, xs = [V.int n] ∧ Q (.int n) H) ∨ ∃ b : Bool, xs = [V.bl b] ∧ Q (.int (if b then 1 else 0)) H) (tCons te tNil)) σ H (.int n) := fun H1 e Q q => h H1 e _ fun H2 e2 => .inl ⟨n, rfl, q H2 e2⟩
end
def spTo (K : PySem.W.Frag) (C : Addr) : Sp := fun vs H Q _ => ∃ (a : Addr) (ln day : Int) (d o : V) (ds os : List Int), vs = [.ref a, .int day] ∧ Tv K C H a ln d o ds os ∧ ln ≠ 0 ∧ ∀ H', Same H H' → Q (.bl (trv ln ds os day)) H'
def spIs (K : PySem.W.Frag) (C cN : Addr) : Sp := fun vs H Q E => ∃ (a : Addr) (ln day : Int) (d o : V) (ds os : List Int), vs = [.ref a, .int day] ∧ Tv K C H a ln d o ds os ∧ ln ≠ 0 ∧ (0 ≤ day ∧ day ≤ 1000000000000000000 → ∀ H', Same H H' → Q (.bl (trv ln ds os day)) H') ∧ (¬ (0 ≤ day ∧ day ≤ 1000000000000000000) → ∀ H', Same H H' → E (.ref cN) none H')
section
variable {P : Program} {w : World} {K : PySem.W.Frag} {mg : Str → Option Value} {base : Heap} {cV cN cP fV C fVN fVC fTo : Addr} {fdV dVN dVC dTo : FuncData} {mp : Value}
theorem ok_to {f : Addr} {fd : FuncData} {k : Nat} (F : Fun K "travels_on" "Travel.travels_on" sTo f fd) (W : TTv K mg C fVN fVC dVN dVC) (mI : mg "int" = none) : FnOk P w K mg base CX0 (k + 1) f fd ["self", "day"] (spTo K C) := by
  refine F.ok scTo (fun vs H Q E h => ?_) (fun cdv A outer s H vs Q E hr h => ?_)
  · obtain ⟨a, ln, day, d, o, ds, os, rfl, _⟩ := h
    rfl
  · obtain ⟨a, ln, day, d, o, ds, os, rfl, ⟨⟨dx, ha⟩, ⟨b, rfl, hb⟩, c, rfl, hc⟩, hn, q⟩ := h
    refine ⟨_, pss_one (ps_ret (pe_cmpR op_ne (pe_cmpR op_in_seq (pe_op op_modN (pe_callTy call_int1 (by rfl) mI (by rfl) (pa_cons (pv 1) pa_nil)) (pe_fld (pv 0) rfl)) (pe_fld (pv 0) rfl) (by rfl)) (pe_cmpR op_in_seq (pv 1) (pe_fld (pv 0) rfl) (by rfl)) (nomark _))), ?_⟩
    refine s_ret (ev_op (ev_op (ev_op ?_ (ev_size W.cl W.nS ha rfl) (rv_I hn)) (ev_pat W.cl W.nP ha rfl) (rv_isT hb rfl (flat_ints _))) (ev_op (ev_var rfl) (ev_odd W.cl W.nO ha rfl) (rv_isT hc rfl (flat_ints _))) (rv_ne rfl)) fun H1 e1 => q H1 e1
    exact fun H1 e Q q => ⟨_, rfl, .inl ⟨day, rfl, q H1 (Ex.refl _)⟩⟩
theorem ok_is {f : Addr} {fd : FuncData} {k : Nat} (F : Fun K "is_travel_day" "Travel.is_travel_day" sIs f fd) (T : TEv K mg cV cN cP fV fdV mp) (W : TTv K mg C fVN fVC dVN dVC) (mI : mg "int" = none) (M : Meth K C "travels_on" fTo) (U : Fun K "travels_on" "Travel.travels_on" sTo fTo dTo) : FnOk P w K mg base (L2.CX P w) (k + 2) f fd ["self", "day"] (spIs K C cN) := by
  refine F.okX scIs (fun vs H Q E h => ?_) (fun cdv A outer s H vs Q E hr h => ?_)
  · obtain ⟨a, ln, day, d, o, ds, os, rfl, _⟩ := h
    rfl
  · obtain ⟨a, ln, day, d, o, ds, os, rfl, ht, hn, q1, q2⟩ := h
    have bTo : Binds K dTo ["self", "day"] [] := U.binds (ps := ["self", "day"]) fun _ _ _ _ _ _ us hl => match us, hl with | [_, _], _ => rfl
    refine ⟨_, pss_cons (ps_expr (pe_call (E := E) (ok_vc (k := k) W.uVC T) hr (by rfl) W.gVC W.kVC W.bVC .nil (passes_call (takes_of rfl rfl rfl rfl) (fun _ _ _ _ h => h)) (pa_cons (pv 1) (pa_cons pe_int (pa_cons (C8.pe_gc (by rfl) W.mD) pa_nil)))))
      (pss_one (ps_ret (pe_meth (E := E0) (pv 0) W.cl M (ok_to (k := k) U W mI) hr bTo .nil pass0 (pa_cons (pv 1) pa_nil)))), ?_⟩
    refine ⟨_, rfl, day, 0, 1000000000000000000, rfl, fun hb H1 s1 => ?_, fun nb H1 s1 => q2 nb H1 s1⟩
    have t1 := ht.same s1
    obtain ⟨dx, ha⟩ := t1.1
    exact ⟨_, rfl, a, dx, _, rfl, ha, tvF_no _ _ _ (by decide +kernel) (by decide +kernel) (by decide +kernel), _, rfl, a, ln, day, d, o, ds, os, rfl, t1, hn, fun H2 s2 => q1 hb H2 (Same.trans s1 s2)⟩
end
end Sea

set_option Elab.async false
set_option linter.all false
set_option maxRecDepth 100000
set_option maxHeartbeats 4000000
namespace Sea
open PySem PySem.Spec PyProof.Rows L2 LamX NdefX ClX Evl StX
/-- a comprehension over a tuple -/
theorem el_lcTup {K : PySem.W.Frag} {σ : L2.St} {H : Hp} {a : Addr} {xs : List V} {tl te : TE} {t : TT} {j : Nat} {vs : List Nat} (f : Nat → Bool) (v : Nat → V) (h : Ev tl σ H (.ref a)) (hx : SqT K H a xs) (hz : xs.length ≤ 40000) (hw : ∀ x, wipe ((wipe σ vs).set j (some x)) vs = wipe σ vs)
    (ht : ∀ (i : Nat) (x : V) H1, Ex H H1 → xs[i]? = some x → EvT t ((wipe σ vs).set j (some x)) H1 (f i)) (he : ∀ (i : Nat) (x : V) H1, Ex H H1 → xs[i]? = some x → f i = true → Ev te ((wipe σ vs).set j (some x)) H1 (v i)) : EvL (tLc (iTup K tl) (gName j) t te vs) σ H (given xs.length f v) := by
  rintro H0 e Q q
  refine h H0 e _ fun H1 e1 => ?_
  have stays : ∀ {H2}, Ex H1 H2 → SqT K H2 a xs := fun e2 => ex_t (e.trans (e1.trans e2)) hx
  refine ⟨a, rfl, ⟨xs, stays (Ex.refl _)⟩, fun D new => ?_⟩
  refine lc_tup (xs := xs) (Cw H1 f v D) ⟨new, Ex.new new, upd_same⟩ (fun _ _ _ w => stays w.2.1) ?_ fun H2 w => q D H2 (fresh_back e1 w.1) (e1.trans w.2.1) w.2.2
  intro i x H2 at_ w
  have few := (List.getElem?_eq_some_iff.mp at_).1
  exact ⟨hw x, cw_turn w (by omega) (ht i x H1 (e.trans e1) at_) (he i x H1 (e.trans e1) at_)⟩
theorem pe_fldK {X : Cx} {e : Expr} {ta : TE} {f : Str} {pos : Pos} (K : PySem.W.Frag) (hK : X.K = K) (he : PE X e ta) (hb : attributeBase e f X.env (eval e X.env) = eval e X.env) : PE X (.Attribute e f pos) (tFld K ta f) := by
  subst hK
  exact pe_fld he hb
theorem ev_lenE {K : PySem.W.Frag} {te : TE} {σ : L2.St} {H : Hp} {p : Addr} {xs : List V} (h : Ev te σ H (.ref p)) (hx : SqT K H p xs) : Ev (tCB (fun xs H Q => ∃ p ys, xs = [V.ref p] ∧ (SqL K H p ys ∨ SqT K H p ys) ∧ Q (.int ys.length) H) (tCons te tNil)) σ H (.int (xs.length : Int)) := fun H1 e Q q =>
  h H1 e _ fun H2 e2 => ⟨p, xs, rfl, .inr (ex_t (e.trans e2) hx), q H2 e2⟩
/-- how the code counts: whole rounds, the rest, then the exceptions one by one -/
def ctRest (ln : Int) (ds : List Int) (c : Int) : List V := given ds.length (fun i => decide (ds.getD i 0 < c.fmod ln)) (fun i => .int (ds.getD i 0))
def ctTot (ln : Int) (ds : List Int) (c : Int) : Int := c.fdiv ln * (ds.length : Nat) + ((ctRest ln ds c).length : Nat)
def ctStep (ln : Int) (ds : List Int) (c t day : Int) : Int := if day < c then t + (if inV (.int (day.fmod ln)) (ds.map V.int) = true then -1 else 1) else t
def ctAll (ln : Int) (ds os : List Int) (c : Int) : Int := os.foldl (ctStep ln ds c) (ctTot ln ds c)
def spCt (K : PySem.W.Frag) (C cN : Addr) : Sp := fun vs H Q E => ∃ (a : Addr) (ln c : Int) (d o : V) (ds os : List Int), vs = [.ref a, .int c] ∧ Tv K C H a ln d o ds os ∧ 1 ≤ ln ∧ ln ≤ 14 ∧ ds.length ≤ 1000 ∧ (0 ≤ c ∧ c ≤ 1000000000000000000 → ∀ H', Same H H' → Q (.int (ctAll ln ds os c)) H') ∧
  (¬ (0 ≤ c ∧ c ≤ 1000000000000000000) → ∀ H', Same H H' → E (.ref cN) none H')
section
variable {P : Program} {w : World} {K : PySem.W.Frag} {mg : Str → Option Value} {base : Heap} {cV cN cP fV C fVN fVC fTo : Addr} {fdV dVN dVC dTo : FuncData} {mp : Value}
theorem ok_ct {f : Addr} {fd : FuncData} {k : Nat} (F : Fun K "count_travel_days" "Travel.count_travel_days" sCt f fd) (T : TEv K mg cV cN cP fV fdV mp) (W : TTv K mg C fVN fVC dVN dVC) (mI : mg "int" = none) (mN : mg "len" = none) : FnOk P w K mg base (L2.CX P w) (k + 2) f fd ["self", "count"] (spCt K C cN) := by
  refine F.okX scCt (fun vs H Q E h => ?_) (fun cdv A outer s H vs Q E hr h => ?_)
  · obtain ⟨a, ln, c, d, o, ds, os, rfl, _⟩ := h
    rfl
  · obtain ⟨a, ln, c, d, o, ds, os, rfl, ht, l1, l14, hdl, q1, q2⟩ := h
    refine ⟨_, pss_cons (ps_expr (pe_call (E := E) (ok_vc (k := k) W.uVC T) hr (by rfl) W.gVC W.kVC W.bVC .nil (passes_call (takes_of rfl rfl rfl rfl) (fun _ _ _ _ h => h)) (pa_cons (pv 1) (pa_cons pe_int (pa_cons (C8.pe_gc (by rfl) W.mD) pa_nil)))))
      (pss_cons (ps_set (i := 2) scCt.nd rfl (.inl rfl) (pe_callB call_len_seq (by rfl) mN PySem.boot_len (pa_cons (pe_lc (own := [("day", 4)]) (g := gName 4) (by rfl) scCt.nd (pi_tup (pe_fld (pv 0) rfl)) (blkOk_by (own := [("day", 4)]) (N := ["self", "count", "rest", "total", "day"]) (sc := defScope sCt) (by decide +kernel))
          (fun _ _ _ _ _ => pg_name (i := 4) scCt.nd rfl (Or.inl rfl)) (fun _ _ _ _ _ => pts_one (pt_cmpR op_lt (pv 4) (pe_op op_modN (pe_callTy call_int1 (by rfl) mI (by rfl) (pa_cons (pv 1) pa_nil)) (pe_fldK K rfl (pv 0) rfl)) (nomark _))) (fun _ _ _ _ _ => pv 4)) pa_nil)))
      (pss_cons (ps_set (i := 3) scCt.nd rfl (.inl rfl) (pe_op op_add (pe_op op_mul (pe_op op_fdivN (pv 1) (pe_fld (pv 0) rfl)) (pe_callB call_len_seq (by rfl) mN PySem.boot_len (pa_cons (pe_fld (pv 0) rfl) pa_nil))) (pv 2)))
      (pss_cons (ps_for (passes_of rfl) rfl (pi_tup (pe_fld (pv 0) rfl)) (pg_name (i := 4) scCt.nd rfl (.inl rfl))
        (pss_one (ps_if (pt_cmpR op_lt (pv 4) (pv 1) (nomark _)) (pss_one (ps_aug (i := 3) scCt.nd rfl (.inl rfl) (pe_ifExp (pt_cmpR op_in_seq (pe_op op_modN (pe_callTy call_int1 (by rfl) mI (by rfl) (pa_cons (pv 4) pa_nil)) (pe_fld (pv 0) rfl)) (pe_fld (pv 0) rfl) (by rfl)) (pe_un un_neg pe_int) pe_int) ip_add)) pss_nil)))
      (pss_one (ps_ret (pv 3)))))), ?_⟩
    refine ⟨_, rfl, c, 0, 1000000000000000000, rfl, fun hb H1 s1 => ?_, fun nb H1 s1 => q2 nb H1 s1⟩
    have t1 := ht.same s1
    obtain ⟨⟨dx, ha⟩, ⟨b, rfl, hbd⟩, e, rfl, hod⟩ := id t1
    have hll : (ds.map V.int).length = ds.length := List.length_map ..
    have hn : ln ≠ 0 := by omega
    have hg : given (ds.map V.int).length (fun i => decide (ds.getD i 0 < c.fmod ln)) (fun i => .int (ds.getD i 0)) = ctRest ln ds c := by
      unfold ctRest
      rw [hll]
    have evc : ∀ (σ : L2.St) (H2 : Hp) (i : Nat) (n : Int), σ[i]? = some (some (.int n)) → Ev (tCB (fun xs H Q => (∃ n, xs = [V.int n] ∧ Q (.int n) H) ∨ ∃ b : Bool, xs = [V.bl b] ∧ Q (.int (if b then 1 else 0)) H) (tCons (tVar i) tNil)) σ H2 (.int n) := fun σ H2 i n hs => ev_int1 (ev_var hs)
    dsimp only
    have eR := el_lcTup (K := K) (tl := tFld K (tVar 0) "pattern") (σ := L2.start ["self", "count", "rest", "total", "day"] [.ref a, .int c]) (H := H1) (te := tVar 4) (t := tTest (tOp (rI0 fun i j => .bl (decide (i < j))) (tVar 4) (tOp (rI (fun _ j => j ≠ 0) fun i j => .int (i.fmod j)) (tCB (fun xs H Q => (∃ n, xs = [V.int n] ∧ Q (.int n) H) ∨ ∃ b : Bool, xs = [V.bl b] ∧ Q (.int (if b then 1 else 0)) H) (tCons (tVar 1) tNil)) (tFld K (tVar 0) "size")))) (j := 4) (vs := [4])
      (fun i => decide (ds.getD i 0 < c.fmod ln)) (fun i => .int (ds.getD i 0)) (ev_pat W.cl W.nP ha rfl) hbd (by rw [hll]; omega) (fun _ => rfl) (fun i x H2 e2 hx => ?_) (fun i x H2 e2 hx _ => ?_)
    · rw [hg] at eR
      refine q_asg (v := .int (((ctRest ln ds c).length : Nat) : Int)) (ev_lenN eR) fun H2 e2 => ?_
      have ha2 := e2 _ _ ha
      have hbd2 := ex_t e2 hbd
      have hod2 := ex_t e2 hod
      refine q_asg (v := .int (ctTot ln ds c)) (ev_is (ev_op (ev_op (ev_op (ev_var rfl) (ev_size W.cl W.nS ha2 rfl) (rv_I ⟨hn, by omega⟩)) (ev_lenE (ev_pat W.cl W.nP ha2 rfl) hbd2) (rv_I (.inr ⟨by omega, by omega⟩))) (ev_var rfl) rv_I0) (by rw [hll]; rfl)) fun H3 e3 => ?_
      have ha3 := e3 _ _ ha2
      have hbd3 := ex_t e3 hbd2
      have hod3 := ex_t e3 hod2
      have e03 : Same H H3 := Same.trans s1 (Same.trans e2 e3)
      refine q_forT (ev_odd W.cl W.nO ha3 rfl) hod3 (fun i σ H' => ∃ v4, σ = [some (.ref a), some (.int c), some (.int (((ctRest ln ds c).length : Nat) : Int)), some (.int ((os.take i).foldl (ctStep ln ds c) (ctTot ln ds c))), v4] ∧ Ex H3 H') (fun H4 e4 => ⟨none, rfl, e4⟩) (fun i σ' H' _ ⟨_, _, e4⟩ => ex_t e4 hod3) ?_ ?_
      · rintro i x σ H' hx ⟨v4, rfl, e4⟩
        rw [List.getElem?_map] at hx
        cases hi : os[i]? with
        | none =>
          rw [hi] at hx
          cases hx
        | some y =>
          rw [hi] at hx
          cases hx
          have ha4 := e4 _ _ ha3
          have hbd4 := ex_t e4 hbd3
          have hst : (os.take (i + 1)).foldl (ctStep ln ds c) (ctTot ln ds c) = ctStep ln ds c ((os.take i).foldl (ctStep ln ds c) (ctTot ln ds c)) y := by
            rw [take_snoc hi, List.foldl_append]
            rfl
          refine s_when (b := decide (y < c)) (et_test (ev_op (ev_var rfl) (ev_var rfl) rv_I0)) (fun hy H5 e5 => ?_) (fun hy H5 e5 => ⟨some (.int y), ?_, e4.trans e5⟩)
          · have ha5 := e5 _ _ ha4
            have hbd5 := ex_t e5 hbd4
            refine s_aug (f := fun i j => i + j) (a := (os.take i).foldl (ctStep ln ds c) (ctTot ln ds c)) (b := if inV (.int (y.fmod ln)) (ds.map V.int) = true then -1 else 1) rfl ?_ fun H6 e6 => ⟨some (.int y), ?_, (e4.trans e5).trans e6⟩
            · refine ev_if (b := inV (.int (y.fmod ln)) (ds.map V.int)) (et_test (ev_op (ev_op (evc _ _ _ _ rfl) (ev_size W.cl W.nS ha5 rfl) (rv_I hn)) (ev_pat W.cl W.nP ha5 rfl) (rv_isT hbd5 rfl (flat_ints _)))) (fun hq => ?_) (fun hq => ?_)
              · rw [if_pos hq]
                exact ev_un ev_c ru_neg
              · rw [if_neg (by rw [hq]; decide)]
                exact ev_c
            · rw [hst]
              unfold ctStep
              rw [if_pos (of_decide_eq_true hy)]
              rfl
          · rw [hst]
            unfold ctStep
            rw [if_neg (of_decide_eq_false hy)]
            rfl
      · rintro σ H' ⟨v4, rfl, e4⟩
        rw [List.length_map, List.take_length]
        exact s_ret (ev_var rfl) fun H5 e5 => q1 hb H5 (Same.trans e03 (Same.trans e4 e5))
    · rw [List.getElem?_map] at hx
      cases hi : ds[i]? with
      | none =>
        rw [hi] at hx
        cases hx
      | some y =>
        rw [hi] at hx
        cases hx
        rw [show ds.getD i 0 = y by rw [List.getD_eq_getElem?_getD, hi]; rfl]
        exact et_test (ev_op (ev_var rfl) (ev_op (evc _ _ _ _ rfl) (ev_size W.cl W.nS (e2 _ _ ha) rfl) (rv_I hn)) rv_I0)
    · rw [List.getElem?_map] at hx
      cases hi : ds[i]? with
      | none =>
        rw [hi] at hx
        cases hx
      | some y =>
        rw [hi] at hx
        cases hx
        rw [show ds.getD i 0 = y by rw [List.getD_eq_getElem?_getD, hi]; rfl]
        exact ev_var rfl
end
end Sea

set_option Elab.async false
set_option linter.all false
set_option maxRecDepth 100000
set_option maxHeartbeats 4000000
namespace Sea
open PySem PySem.Spec PyProof.Rows L2 LamX NdefX ClX Evl StX
theorem scRl : FnScope ["self"] ["self"] (defScope sRl) := ⟨rfl, rfl, rfl, by decide +kernel, rfl, by decide +kernel, by decide +kernel⟩
theorem scRd : FnScope ["self"] ["self"] (defScope sRd) := ⟨rfl, rfl, rfl, by decide +kernel, rfl, by decide +kernel, by decide +kernel⟩
theorem scEx : FnScope ["self"] ["self"] (defScope sEx) := ⟨rfl, rfl, rfl, by decide +kernel, rfl, by decide +kernel, by decide +kernel⟩
theorem scTd : GScope ["self", "first", "last", "day"] ["self", "first", "last"] (defScope sTd) := ⟨rfl, rfl, rfl, by decide +kernel, rfl, by decide +kernel, by decide +kernel⟩
/-! ### the getters -/
structure TPr (K : PySem.W.Frag) (C fRl pRl fRd pRd fEx pEx : Addr) (dRl dRd dEx : FuncData) : Prop where
  pL : PropOf K C "round_length" pRl fRl
  uL : Fun K "round_length" "Travel.round_length" sRl fRl dRl
  pD : PropOf K C "round_days" pRd fRd
  uD : Fun K "round_days" "Travel.round_days" sRd fRd dRd
  pE : PropOf K C "exceptions" pEx fEx
  uE : Fun K "exceptions" "Travel.exceptions" sEx fEx dEx
section
variable {X : Cx} {C fRl pRl fRd pRd fEx pEx fVN fVC : Addr} {dRl dRd dEx dVN dVC : FuncData} {e : Expr} {te : TE} {pos : Pos}
theorem pe_rl (T : TPr X.K C fRl pRl fRd pRd fEx pEx dRl dRd dEx) (W : TTv X.K X.mg C fVN fVC dVN dVC) (hr : Room 2 X.A) (he : PE X e te) (hab : attributeBase e "round_length" X.env (eval e X.env) = eval e X.env := by rfl) : PE X (.Attribute e "round_length" pos) (tProp C (getSp C "size") [] E0 te) := by
  obtain ⟨oc, od, kV, doc, pm, an, cdv, ct, osl, rfl, lk, hcd⟩ := T.uL.ex
  exact pe_prop he W.cl T.pL (fn_getter (k := 0) lk hcd scRl rfl rfl W.cl W.nS) hr (T.uL.binds (ps := ["self"]) fun _ _ _ _ _ _ us hl => match us, hl with | [_], _ => rfl) .nil pass0 hab
theorem pe_ex (T : TPr X.K C fRl pRl fRd pRd fEx pEx dRl dRd dEx) (W : TTv X.K X.mg C fVN fVC dVN dVC) (hr : Room 2 X.A) (he : PE X e te) (hab : attributeBase e "exceptions" X.env (eval e X.env) = eval e X.env := by rfl) : PE X (.Attribute e "exceptions" pos) (tProp C (getSp C "odd_days") [] E0 te) := by
  obtain ⟨oc, od, kV, doc, pm, an, cdv, ct, osl, rfl, lk, hcd⟩ := T.uE.ex
  exact pe_prop he W.cl T.pE (fn_getter (k := 0) lk hcd scEx rfl rfl W.cl W.nO) hr (T.uE.binds (ps := ["self"]) fun _ _ _ _ _ _ us hl => match us, hl with | [_], _ => rfl) .nil pass0 hab
end
/-! ### the generator -/
theorem gfor_rounds {I : It} {g : TG} {tb : TGn} {D : GEnds} {ys : List V} {σ : L2.St} {H : Hp} (n : Nat) (Pv : Nat → List V → L2.St → Hp → Prop) (start : Pv 0 ys σ H)
    (round : ∀ i ys σ H, i < n → Pv i ys σ H → I.go i H ∧ ∀ x H', I.yld i H x H' → g x σ H' fun σ2 H2 => tb { D with nx := Pv (i + 1), ct := Pv (i + 1), bk := D.nx } ys σ2 H2)
    (dry : ∀ ys σ H, Pv n ys σ H → I.stop n H ∧ D.nx ys σ H) :
    ∃ W : Nat → Nat → List V → L2.St → Hp → Prop, (∃ m, W 0 m ys σ H) ∧ ∀ i m ys σ H, W i m ys σ H →
      (I.stop i H ∧ D.nx ys σ H) ∨ (I.go i H ∧ ∃ N : List V → L2.St → Hp → Prop, (∀ ys σ H, N ys σ H → ∃ m', m' < m ∧ W (i + 1) m' ys σ H) ∧ ∀ x H', I.yld i H x H' → g x σ H' fun σ2 H2 => tb { D with nx := N, ct := N, bk := D.nx } ys σ2 H2) := by
  refine ⟨fun i m ys σ H => m + i = n ∧ Pv i ys σ H, ⟨n, rfl, start⟩, ?_⟩
  rintro i (_ | m) ys σ H ⟨e, p⟩
  · rw [Nat.zero_add] at e
    exact .inl (e ▸ dry ys σ H (e ▸ p))
  · have ⟨go, each⟩ := round i ys σ H (by omega) p
    exact .inr ⟨go, Pv (i + 1), fun _ _ _ z => ⟨m, Nat.lt_succ_self m, by omega, z⟩, each⟩
/-- the travel days from fi on, among n days -/
def tdL (ln : Int) (ds os : List Int) (fi : Int) (n : Nat) : List Int := ((List.range n).filter fun (i : Nat) => trv ln ds os (fi + (i : Int))).map fun (i : Nat) => fi + (i : Int)
theorem tdL_succ (ln : Int) (ds os : List Int) (fi : Int) (n : Nat) : tdL ln ds os fi (n + 1) = tdL ln ds os fi n ++ (if trv ln ds os (fi + (n : Int)) = true then [fi + (n : Int)] else []) := by
  unfold tdL
  rw [List.range_succ, List.filter_append, List.map_append]
  congr 1
  by_cases h : trv ln ds os (fi + (n : Int)) = true
  · rw [if_pos h, List.filter_cons_of_pos (by exact h)]
    rfl
  · rw [if_neg h, List.filter_cons_of_neg (by exact h)]
    rfl
theorem tdL_len (ln : Int) (ds os : List Int) (fi : Int) (n : Nat) : (tdL ln ds os fi n).length ≤ n := by
  unfold tdL
  rw [List.length_map]
  exact Nat.le_trans (List.length_filter_le ..) (Nat.le_of_eq List.length_range)
theorem small1000' {n : Nat} (h : n ≤ 10000) : n < sizeLine := by rw [sizeLine_eq]; omega
/-- first and last that travel_days takes -/
def tdOk (fi la : Int) : Prop := (0 ≤ fi ∧ fi ≤ 1000000000000000000) ∧ fi ≤ la ∧ la ≤ (if fi + 10000 - 1 < 1000000000000000000 then fi + 10000 - 1 else 1000000000000000000)
def spTd (K : PySem.W.Frag) (C cN : Addr) : SpG := fun vs H Q E => ∃ (a : Addr) (ln fi la : Int) (d o : V) (ds os : List Int), vs = [.ref a, .int fi, .int la] ∧ Tv K C H a ln d o ds os ∧ ln ≠ 0 ∧
  (tdOk fi la → ∀ H', Same H H' → Q ((tdL ln ds os fi (la + 1 - fi).toNat).map V.int) H') ∧ (¬ tdOk fi la → ∀ H', Same H H' → E (.ref cN) none H')
section
variable {P : Program} {w : World} {K : PySem.W.Frag} {mg : Str → Option Value} {base : Heap} {cV cN cP fV C fVN fVC fTo : Addr} {fdV dVN dVC dTo : FuncData} {mp : Value}
theorem ok_td {f : Addr} {fd : FuncData} {k : Nat} (F : Fun K "travel_days" "Travel.travel_days" sTd f fd) (T : TEv K mg cV cN cP fV fdV mp) (W : TTv K mg C fVN fVC dVN dVC) (mI : mg "int" = none) (mM : mg "min" = none) (mR : mg "range" = none) (M : Meth K C "travels_on" fTo) (U : Fun K "travels_on" "Travel.travels_on" sTo fTo dTo) :
    GFn P w K mg base (k + 2) f fd ["self", "first", "last"] (spTd K C cN) := by
  obtain ⟨oc, od, kV, doc, pm, an, cdv, ct, osl, rfl, lk, hcd⟩ := F.ex
  refine gfn_of (N := ["self", "first", "last", "day"]) lk hcd scTd ?_ fun A outer s H vs Q E pn hr h => ?_
  · rintro vs H Q E ⟨a, ln, fi, la, d, o, ds, os, rfl, _⟩
    rfl
  · obtain ⟨a, ln, fi, la, d, o, ds, os, rfl, ht, hn, q1, q2⟩ := h
    have bTo : Binds K dTo ["self", "day"] [] := U.binds (ps := ["self", "day"]) fun _ _ _ _ _ _ us hl => match us, hl with | [_, _], _ => rfl
    refine ⟨_, gss_cons (gs_ps (ps_expr (pe_call (E := E) (ok_vc (k := k) W.uVC T) hr (by rfl) W.gVC W.kVC W.bVC .nil (passes_call takes_gcx (fun _ _ _ _ h => h)) (pa_cons (pv 1) (pa_cons pe_int (pa_cons (C8.pe_gc (by rfl) W.mD) pa_nil))))))
      (gss_cons (gs_ps (ps_expr (pe_call (E := E) (ok_vc (k := k) W.uVC T) hr (by rfl) W.gVC W.kVC W.bVC .nil (passes_call takes_gcx (fun _ _ _ _ h => h)) (pa_cons (pv 2) (pa_cons (pv 1) (pa_cons (pe_callB (call_min2 rfl) (by rfl) mM (by decide +kernel) (pa_cons (C8.pe_gc (by rfl) W.mD) (pa_cons (pe_op op_sub (pe_op op_add (pv 1) (C8.pe_gc (by rfl) W.mY)) pe_int) pa_nil))) pa_nil))))))
      (gss_cons (gs_for owns_gcx rfl (pi_range2 (by rfl) mR (pa_cons (pv 1) (pa_cons (pe_op op_add (pv 2) pe_int) pa_nil))) (pg_name (i := 3) scTd.nd rfl (.inl rfl))
        (gss_cons (gs_if (pt_val (pe_meth (E := E0) (pv 0) W.cl M (ok_to (k := k) U W mI) hr bTo .nil pass0 (pa_cons (pv 3) pa_nil))) (gss_cons (gs_yield (pv 3)) gss_nil) gss_nil) gss_nil)) gss_nil)), ?_⟩
    refine ⟨_, rfl, fi, 0, 1000000000000000000, rfl, fun hb H1 s1 => ?_, fun nb H1 s1 => q2 (fun ok => nb ok.1) H1 s1⟩
    refine ⟨_, rfl, _, rfl, _, rfl, _, _, rfl, rfl, _, _, rfl, rfl, _, _, rfl, la, fi, _, rfl, fun hb2 H2 s2 => ?_, fun nb H2 s2 => q2 (fun ok => nb ok.2) H2 (Same.trans s1 s2)⟩
    have ok : tdOk fi la := ⟨hb, hb2⟩
    have la1 : la ≤ 1000000000000000000 := by
      have := ok.2.2
      split at this <;> omega
    have many : (la + 1 - fi).toNat ≤ 10000 := by
      have := ok.2.2
      split at this <;> omega
    refine ⟨_, rfl, _, rfl, _, _, rfl, rfl, fi, la + 1, rfl, ⟨by omega, by omega, by omega, by omega⟩, ?_⟩
    refine gfor_rounds (I := Itr fi (la + 1 - fi).toNat) (la + 1 - fi).toNat (fun i ys σ H' => ys = (tdL ln ds os fi i).map V.int ∧ (∃ v3, σ = [some (.ref a), some (.int fi), some (.int la), v3]) ∧ Same H H') ⟨rfl, ⟨none, rfl⟩, Same.trans s1 s2⟩ ?_ ?_
    · rintro i ys σ H3 hi ⟨rfl, ⟨v3, rfl⟩, sm⟩
      refine ⟨hi, ?_⟩
      rintro x H4 ⟨rfl, rfl⟩
      have t3 := ht.same sm
      obtain ⟨dx, ha⟩ := t3.1
      refine ⟨_, rfl, a, dx, _, rfl, ha, tvF_no _ _ _ (by decide +kernel) (by decide +kernel) (by decide +kernel), _, rfl, a, ln, fi + (i : Int), d, o, ds, os, rfl, t3, hn, fun H4 s4 => ⟨_, rfl, ?_⟩⟩
      cases e : trv ln ds os (fi + (i : Int)) with
      | true =>
        refine ⟨?_, _, rfl, ?_, ⟨_, rfl⟩, Same.trans sm s4⟩
        · rw [List.length_map]
          exact small1000' (Nat.le_trans (tdL_len ..) (by omega))
        · rw [tdL_succ, if_pos e, List.map_append]
          rfl
      | false =>
        refine ⟨?_, ⟨_, rfl⟩, Same.trans sm s4⟩
        rw [tdL_succ, if_neg (by rw [e]; decide), List.append_nil]
    · rintro ys σ H3 ⟨rfl, _, sm⟩
      exact ⟨Nat.le_refl _, q1 ok H3 sm⟩
end
end Sea

set_option Elab.async false
set_option linter.all false
set_option maxRecDepth 100000
set_option maxHeartbeats 4000000
/-! plain: rising lists of ints, an exception more or less -/
namespace Sea
open PySem PySem.Spec PyProof.Rows L2
theorem inV_int (d : Int) : ∀ ns : List Int, inV (.int d) (ns.map V.int) = decide (d ∈ ns)
  | [] => rfl
  | x :: ns => by
    show (eqV (V.int x) (V.int d) || inV (.int d) (ns.map V.int)) = _
    rw [inV_int d ns]
    have e : eqV (V.int x) (V.int d) = decide (d = x) := by
      show (x == d) = decide (d = x)
      by_cases h : x = d
      · subst h
        simp
      · rw [show (x == d) = false by simpa using h, decide_eq_false (fun z => h z.symm)]
    rw [e, ← Bool.decide_or]
    simp only [List.mem_cons]
theorem sorted_uniq : ∀ {x y : List Int}, x.Perm y → x.Pairwise (· ≤ ·) → y.Pairwise (· ≤ ·) → x = y
  | [], y, p, _, _ => (List.nil_perm.mp p).symm
  | a :: x, y, p, hx, hy => by
    cases y with
    | nil => exact absurd p.length_eq (by simp)
    | cons b y =>
      have ⟨ax, px⟩ := List.pairwise_cons.mp hx
      have ⟨yb, py⟩ := List.pairwise_cons.mp hy
      have ab : a = b := by
        have ha : a ∈ b :: y := p.mem_iff.mp List.mem_cons_self
        have hb : b ∈ a :: x := p.mem_iff.mpr List.mem_cons_self
        rcases List.mem_cons.mp ha with e | ha
        · exact e
        · rcases List.mem_cons.mp hb with e | hb
          · exact e.symm
          · exact Int.le_antisymm (ax b hb) (yb a ha)
      subst ab
      have e := sorted_uniq ((List.perm_cons a).mp p) px py
      rw [e]
theorem good_cons {a : Int} {ns : List Int} {lg : Int} : Good (a :: ns) lg ↔ (0 ≤ a ∧ a ≤ lg) ∧ Good ns lg ∧ (∀ h : 0 < ns.length, a < ns[0]) := by
  constructor
  · intro h
    refine ⟨⟨(h 0 (Nat.succ_pos _)).1, (h 0 (Nat.succ_pos _)).2.1⟩, fun j hj => ?_, fun hp => ?_⟩
    · have := h (j + 1) (Nat.succ_lt_succ hj)
      refine ⟨this.1, this.2.1, fun hp => ?_⟩
      have q := this.2.2 (Nat.succ_pos _)
      obtain ⟨j, rfl⟩ : ∃ k, j = k + 1 := ⟨j - 1, by omega⟩
      exact q
    · have := (h 1 (Nat.succ_lt_succ hp)).2.2 Nat.one_pos
      cases ns with
      | nil => exact absurd hp (Nat.lt_irrefl _)
      | cons b ns => exact this
  · rintro ⟨⟨a0, a1⟩, g, first⟩ j hj
    cases j with
    | zero => exact ⟨a0, a1, fun z => absurd z (Nat.lt_irrefl _)⟩
    | succ j =>
      have hj' : j < ns.length := Nat.lt_of_succ_lt_succ hj
      refine ⟨(g j hj').1, (g j hj').2.1, fun _ => ?_⟩
      cases j with
      | zero =>
        have := first hj'
        cases ns with
        | nil => exact absurd hj' (Nat.lt_irrefl _)
        | cons b ns => exact this
      | succ j => exact (g (j + 1) hj').2.2 (Nat.succ_pos _)
theorem good_iff {lg : Int} : ∀ {ns : List Int}, Good ns lg ↔ ns.Pairwise (· < ·) ∧ ∀ x ∈ ns, 0 ≤ x ∧ x ≤ lg
  | [] => ⟨fun _ => ⟨List.Pairwise.nil, fun x h => by simp at h⟩, fun _ j hj => absurd hj (Nat.not_lt_zero _)⟩
  | a :: ns => by
    rw [good_cons, good_iff, List.pairwise_cons]
    constructor
    · rintro ⟨ha, ⟨pw, all⟩, first⟩
      refine ⟨⟨fun x hx => ?_, pw⟩, fun x hx => ?_⟩
      · cases ns with
        | nil => simp at hx
        | cons b ns =>
          have ab : a < b := first (Nat.succ_pos _)
          rcases List.mem_cons.mp hx with rfl | hx
          · exact ab
          · exact Int.lt_trans ab ((List.pairwise_cons.mp pw).1 x hx)
      · rcases List.mem_cons.mp hx with rfl | hx
        · exact ha
        · exact all x hx
    · rintro ⟨⟨ax, pw⟩, all⟩
      exact ⟨all a List.mem_cons_self, ⟨pw, fun x hx => all x (List.mem_cons_of_mem _ hx)⟩, fun hp => ax _ (List.getElem_mem hp)⟩
/-- the exceptions, day put in or taken out, in order -/
def Wex (os : List Int) (day : Int) (xs : List Int) : Prop := xs.Perm (if day ∈ os then os.filter (fun o => decide (o ≠ day)) else os ++ [day]) ∧ xs.Pairwise (· ≤ ·)
theorem Wex.uniq {os : List Int} {day : Int} {x y : List Int} (a : Wex os day x) (b : Wex os day y) : x = y := sorted_uniq (a.1.trans b.1.symm) a.2 b.2
theorem Wex.out {os : List Int} {day lg : Int} (g : Good os lg) (h : day ∈ os) : Wex os day (os.filter fun o => decide (o ≠ day)) := by
  refine ⟨by rw [if_pos h], (good_iff.mp g).1.sublist List.filter_sublist |>.imp fun h => Int.le_of_lt h⟩
theorem Wex.nodup {os : List Int} {day lg : Int} {xs : List Int} (g : Good os lg) (h : Wex os day xs) : xs.Nodup := by
  have nd : os.Nodup := (good_iff.mp g).1.imp fun h => Int.ne_of_lt h
  refine h.1.nodup_iff.mpr ?_
  split
  · exact nd.sublist List.filter_sublist
  · rename_i no
    rw [List.nodup_append]
    exact ⟨nd, by simp, fun a ha b hb => by
      rw [List.mem_singleton] at hb
      subst hb
      exact fun e => no (e ▸ ha)⟩
theorem Wex.good {os : List Int} {day lg : Int} {xs : List Int} (g : Good os lg) (d0 : 0 ≤ day) (d1 : day ≤ lg) (h : Wex os day xs) : Good xs lg := by
  refine good_iff.mpr ⟨?_, fun x hx => ?_⟩
  · have nd := h.nodup g
    exact (h.2.and nd).imp fun ⟨a, b⟩ => Int.lt_iff_le_and_ne.mpr ⟨a, b⟩
  · have hx := h.1.mem_iff.mp hx
    split at hx
    · exact (good_iff.mp g).2 x (List.mem_filter.mp hx).1
    · rcases List.mem_append.mp hx with hx | hx
      · exact (good_iff.mp g).2 x hx
      · rw [List.mem_singleton.mp hx]
        exact ⟨d0, d1⟩
theorem Wex.len {os : List Int} {day : Int} {xs : List Int} (h : Wex os day xs) : xs.length ≤ os.length + 1 := by
  rw [h.1.length_eq]
  split
  · exact Nat.le_succ_of_le (List.length_filter_le ..)
  · rw [List.length_append]
    exact Nat.le_refl _
/-- a travel as the law makes them -/
structure TvOk (ln : Int) (ds os : List Int) : Prop where
  l1 : 1 ≤ ln
  l2 : ln ≤ 14
  gd : Good ds (ln - 1)
  nd : (ds.length : Int) ≤ ln
  go : Good os 1000000000000000000
theorem TvOk.tbad {ln : Int} {ds os : List Int} (h : TvOk ln ds os) (few : os.length ≤ 6) : tbad ln ds os = none := by
  unfold Sea.tbad
  have := h.l2
  have := h.nd
  rw [if_pos ⟨h.l1, h.l2⟩, vbad_good h.gd (by omega), vbad_good h.go (by omega)]
end Sea

set_option Elab.async false
set_option linter.all false
set_option maxRecDepth 100000
set_option maxHeartbeats 4000000
/-! expressions that give tuples and lists of ints -/
namespace Sea
open PySem PySem.Spec PyProof.Rows L2 LamX NdefX ClX Evl StX
def LiA (K : PySem.W.Frag) (H : Hp) (v : V) (ns : List Int) : Prop := ∃ a, v = .ref a ∧ SqL K H a (ns.map V.int)
def rTupO (K : PySem.W.Frag) : List V → Hp → VK → Prop := fun xs H Q => ∃ p ys, xs = [V.ref p] ∧ ((SqL K H p ys ∧ ∀ l, H l = none → Q (.ref l) (upd H l (.tup ys))) ∨ (SqT K H p ys ∧ Q (.ref p) H))
section
variable {K : PySem.W.Frag} {w : World} {σ : L2.St} {H : Hp} {ta tb te tx : TE} {ns ms : List Int}
theorem ei_var {i : Nat} {v : V} (hs : σ[i]? = some (some v)) (h : TiA K H v ns) : EvD (tVar i) σ H fun v H => TiA K H v ns := fun H1 e Q q => ⟨v, hs, q v H1 (Ex.refl _) (h.tk (.same e))⟩
theorem ei_ev {v : V} (h : Ev te σ H v) (hv : TiA K H v ns) : EvD te σ H fun v H => TiA K H v ns := ed_of h fun _ e => hv.tk (.same e)
theorem ei_cat (h1 : EvD ta σ H fun v H => TiA K H v ns) (h2 : EvD tb σ H fun v H => TiA K H v ms) (few : ns.length + ms.length ≤ 1000) : EvD (tOp (rCatA K) ta tb) σ H fun v H => TiA K H v (ns ++ ms) := by
  intro H1 e Q q
  refine h1 H1 e _ fun v H2 e2 hv => h2 H2 (e.trans e2) _ fun u H3 e3 hu => ?_
  obtain ⟨a, rfl, ha⟩ := hv.tk (.same e3)
  obtain ⟨b, rfl, hb⟩ := hu
  have e13 := e2.trans e3
  refine ⟨a, b, _, _, rfl, rfl, ha, hb, Nat.le_of_lt (small1000 (by rw [List.length_map, List.length_map]; exact few)), fun z => q _ _ e13 ⟨b, rfl, ?_⟩, fun _ z => q _ _ e13 ⟨a, rfl, ?_⟩, fun _ _ p np => q _ _ (e13.trans (Ex.new np)) ⟨p, rfl, .of (by rw [upd_same, List.map_append])⟩⟩
  · rw [List.map_append, z]
    exact hb
  · rw [List.map_append, z, List.append_nil]
    exact ha
theorem ei_one {x : Int} (h : Ev tx σ H (.int x)) : EvD (tTup (tCons tx tNil)) σ H fun v H => TiA K H v [x] := fun H1 e Q q =>
  h H1 e _ fun H2 e2 => ⟨Nat.le_of_lt (small1000 (show 1 ≤ 1000 by decide)), fun p np => q _ _ (e2.trans (Ex.new np)) ⟨p, rfl, .of upd_same⟩⟩
theorem ei_tupL (h : EvD te σ H fun v H => LiA K H v ns) : EvD (tCB (rTupO K) (tCons te tNil)) σ H fun v H => TiA K H v ns := by
  intro H1 e Q q
  refine h H1 e _ fun v H2 e2 hv => ?_
  obtain ⟨a, rfl, ha⟩ := hv
  exact ⟨a, _, rfl, .inl ⟨ha, fun l nl => q _ _ (e2.trans (Ex.new nl)) ⟨l, rfl, .of upd_same⟩⟩⟩
theorem ei_lst (h : EvL te σ H (ns.map V.int)) : EvD te σ H fun v H => LiA K H v ns := fun H1 e Q q => h H1 e _ fun p H2 np e2 hp => q _ _ e2 ⟨p, rfl, .of hp⟩
theorem ei_sortT (h : EvD te σ H fun v H => TiA K H v ns) (few : ns.length ≤ 1000) : EvD (tCB (rSortedT K) (tCons te tNil)) σ H fun v H => ∃ ms : List Int, ms.Perm ns ∧ ms.Pairwise (· ≤ ·) ∧ LiA K H v ms := by
  intro H1 e Q q
  refine h H1 e _ fun v H2 e2 hv => ?_
  obtain ⟨a, rfl, ha⟩ := hv
  exact ⟨a, ns, rfl, ha, few, fun ms p perm rising np => q _ _ (e2.trans (Ex.new np)) ⟨ms, perm, rising, p, rfl, .of upd_same⟩⟩
theorem ei_sortL (h : EvD te σ H fun v H => LiA K H v ns) : EvD (tCB (rSortedI K) (tCons te tNil)) σ H fun v H => ∃ ms : List Int, ms.Perm ns ∧ ms.Pairwise (· ≤ ·) ∧ LiA K H v ms := by
  intro H1 e Q q
  refine h H1 e _ fun v H2 e2 hv => ?_
  obtain ⟨a, rfl, ha⟩ := hv
  exact ⟨a, ns, rfl, ha, fun ms p perm rising np => q _ _ (e2.trans (Ex.new np)) ⟨ms, perm, rising, p, rfl, .of upd_same⟩⟩
/-- sorted(set(l)) -/
theorem ei_uniq (h : EvD te σ H fun v H => LiA K H v ns) (few : ns.length < 64) : EvD (tCB (rSortedSet w) (tCons (tCB (rSetL K w) (tCons te tNil)) tNil)) σ H fun v H => ∃ ms : List Int, ms.Pairwise (· < ·) ∧ (∀ k, k ∈ ms ↔ k ∈ ns) ∧ ms.length ≤ ns.length ∧ LiA K H v ms := by
  intro H1 e Q q
  refine h H1 e _ fun v H2 e2 hv => ?_
  obtain ⟨a, rfl, ha⟩ := hv
  refine ⟨a, ns, rfl, ha, by omega, fun s c ns' le => ⟨s, _, c, rfl, upd_same, by omega, fun ms p rising mem len np => ?_⟩⟩
  exact q _ _ ((e2.trans (Ex.new ns')).trans (Ex.new np)) ⟨ms, rising, fun k => by rw [mem k, decide_eq_true_eq], by omega, p, rfl, .of upd_same⟩
theorem ei_imp {P P' : V → Hp → Prop} (h : EvD te σ H P) (i : ∀ v H, P v H → P' v H) : EvD te σ H P' := fun H1 e Q q => h H1 e Q fun v H2 e2 p => q v H2 e2 (i v H2 p)
/-- tuple(e), e a list of ints of which something holds -/
theorem ei_tupP {R : List Int → Prop} (h : EvD te σ H fun v H => ∃ ms, R ms ∧ LiA K H v ms) : EvD (tCB (rTupO K) (tCons te tNil)) σ H fun v H => ∃ ms, R ms ∧ TiA K H v ms := by
  intro H1 e Q q
  refine h H1 e _ fun v H2 e2 hv => ?_
  obtain ⟨ms, r, a, rfl, ha⟩ := hv
  exact ⟨a, _, rfl, .inl ⟨ha, fun l nl => q _ _ (e2.trans (Ex.new nl)) ⟨ms, r, l, rfl, .of upd_same⟩⟩⟩
theorem ei_lenT (h : EvD te σ H fun v H => TiA K H v ns) : Ev (tCB (fun xs H Q => ∃ p ys, xs = [V.ref p] ∧ (SqL K H p ys ∨ SqT K H p ys) ∧ Q (.int ys.length) H) (tCons te tNil)) σ H (.int (ns.length : Nat)) := by
  intro H1 e Q q
  refine h H1 e _ fun v H2 e2 hv => ?_
  obtain ⟨a, rfl, ha⟩ := hv
  have z := q H2 e2
  rw [← List.length_map (f := V.int)] at z
  exact ⟨a, _, rfl, .inr ha, z⟩
end
end Sea

set_option Elab.async false
set_option linter.all false
set_option maxRecDepth 100000
set_option maxHeartbeats 4000000
namespace Sea
open PySem PySem.Spec PyProof.Rows L2 LamX NdefX ClX Evl StX
theorem scWx : FnScope ["self", "day", "changed", "other"] ["self", "day"] (defScope sWx) := ⟨rfl, rfl, rfl, by decide +kernel, rfl, by decide +kernel, by decide +kernel⟩
theorem given_take (os : List Int) (f : Int → Bool) : ∀ n, n ≤ os.length → given n (fun i => f (os.getD i 0)) (fun i => .int (os.getD i 0)) = ((os.take n).filter f).map V.int
  | 0, _ => rfl
  | n + 1, h => by
    have at_ : os[n]? = some os[n] := List.getElem?_eq_getElem (by omega)
    have gd : os.getD n 0 = os[n] := by rw [List.getD_eq_getElem?_getD, at_]; rfl
    rw [take_snoc at_, List.filter_append, List.map_append, ← given_take os f n (by omega)]
    cases e : f os[n] with
    | true => rw [given_yes (by rw [gd, e]), gd, List.filter_cons_of_pos e]; rfl
    | false => rw [given_no (by rw [gd, e]), List.filter_cons_of_neg (by rw [e]; decide), List.filter_nil, List.map_nil, List.append_nil]
theorem given_filter (os : List Int) (f : Int → Bool) : given (os.map V.int).length (fun i => f (os.getD i 0)) (fun i => .int (os.getD i 0)) = (os.filter f).map V.int := by
  rw [List.length_map, given_take os f os.length (Nat.le_refl _), List.take_length]
section
variable {P : Program} {w : World} {K : PySem.W.Frag} {mg : Str → Option Value} {base : Heap} {cV cN cP fV C fVN fVC fT : Addr} {fdV dVN dVC dT : FuncData} {mp : Value}
theorem kb_tvI {f : Addr} {fd : FuncData} (F : Fun K "__init__" "Travel.__init__" sTvI f fd) : KBn K fd ["self", "length", "days", "exceptions"] 3 ["exceptions"] (fun us ws => us ++ ws) (fun vs zs => vs ++ zs) := by
  obtain ⟨oc, od, kV, doc, pm, an, cdv, ct, osl, rfl, lk, hcd⟩ := F.ex
  refine ⟨fun s us ws _ h1 h2 => ?_, fun a b => a.append b⟩
  match us, ws, h1, h2 with
  | [u, v, x], [y], _, _ => exact .of_eq rfl
/-- Travel(ln, d, exceptions=o): what a caller shows -/
theorem tv_mk {H : Hp} {Q : VK} {E : XK} {ln : Int} {d o : V} {ds os : List Int} (hd : TiA K H d ds) (ho : TiA K H o os) (ld : ds.length ≤ 1000) (lo : os.length ≤ 1000)
    (q1 : tbad ln ds os = none → ∀ a H', Same H H' → H a = none → Tv K C H' a ln d o ds os → Q (.ref a) H')
    (q2 : ∀ pt i dd H', tbad ln ds os = some (pt, i) → Same H H' → H' dd = some (.xd [("index", .int (i : Nat)), ("part", .str pt)]) → E (.ref cV) (some dd) H') :
    [V.int ln, d].length = 2 ∧ [o].length = ["exceptions"].length ∧ ∀ x dx, H x = none → H dx = none → dx ≠ x → spTvI K C cV ((.ref x :: [V.int ln, d]) ++ [o]) (upd (upd H dx (.own x)) x (.ins C dx [])) (fun v H3 => v = .non ∧ Q (.ref x) H3) E := by
  refine ⟨rfl, rfl, fun x dx nx ndx ne => ?_⟩
  have s0 : Same H (upd (upd H dx (.own x)) x (.ins C dx [])) := fun b u e => by
    rw [upd_ne (ne_of_none e nx), upd_ne (ne_of_none e ndx)]
    exact e
  refine ⟨x, dx, ln, d, o, ds, os, rfl, upd_same, hd.tk (.same s0), ho.tk (.same s0), ld, lo, fun hb H' keep at_ => ⟨rfl, ?_⟩, fun pt i dd H' hb sm hx => q2 pt i dd H' hb (Same.trans s0 sm) hx⟩
  have sm : Same H H' := fun b u e => keep b u (s0 b u e) (ne_of_none e nx)
  exact q1 hb x H' sm nx ⟨⟨dx, at_⟩, hd.tk (.same sm), ho.tk (.same sm)⟩
/-- with_exception, day in range: the new travel, or too many exceptions -/
def spWx (K : PySem.W.Frag) (C cV cN : Addr) : Sp := fun vs H Q E => ∃ (a : Addr) (ln day : Int) (d o : V) (ds os : List Int), vs = [.ref a, .int day] ∧ Tv K C H a ln d o ds os ∧ TvOk ln ds os ∧ os.length ≤ 6 ∧
  (0 ≤ day ∧ day ≤ 1000000000000000000 → ∀ xs, Wex os day xs → (xs.length ≤ 6 → ∀ a' o' H', Same H H' → Tv K C H' a' ln d o' ds xs → Q (.ref a') H') ∧ (6 < xs.length → ∀ dd H', Same H H' → H' dd = some (.xd [("index", .int 6), ("part", .str "exceptions")]) → E (.ref cV) (some dd) H')) ∧
  (¬ (0 ≤ day ∧ day ≤ 1000000000000000000) → ∀ H', Same H H' → E (.ref cN) none H')
theorem ok_wx {f : Addr} {fd : FuncData} (F : Fun K "with_exception" "Travel.with_exception" sWx f fd) (T : TEv K mg cV cN cP fV fdV mp) (W : TTv K mg C fVN fVC dVN dVC) (mT : mg "tuple" = none) (mS : mg "sorted" = none) (mN : mg "len" = none) (MK : Mk K C fT) (I : Fun K "__init__" "Travel.__init__" sTvI fT dT) :
    FnOk P w K mg base (L2.CX P w) 7 f fd ["self", "day"] (spWx K C cV cN) := by
  have GI : FnOk P w K mg base CX0 1 fV fdV ["self", "part", "index"] (spX2 K "part" "index") := ok_IV T
  have kb := kb_IV T
  refine F.okX scWx (fun vs H Q E h => ?_) (fun cdv A outer s H vs Q E hr h => ?_)
  · obtain ⟨a, ln, day, d, o, ds, os, rfl, _⟩ := h
    rfl
  · obtain ⟨a, ln, day, d, o, ds, os, rfl, ht, ok, few, q1, q2⟩ := h
    have PX : Passes (L2.CX P w) (cxOf (L2.CX P w) P w K mg base ["self", "day", "changed", "other"] "Travel.with_exception" (defScope sWx) f cdv A outer s H E) E := passes_call (takes_of rfl rfl rfl rfl) (fun _ _ _ _ h => h)
    refine ⟨_, pss_cons (ps_expr (pe_call (E := E) (ok_vc (k := 0) W.uVC T) (hr.mono (by omega)) (by rfl) W.gVC W.kVC W.bVC .nil PX (pa_cons (pv 1) (pa_cons pe_int (pa_cons (C8.pe_gc (by rfl) W.mD) pa_nil)))))
      (pss_cut (ps_if (pt_cmpR op_in_seq (pv 1) (pe_fld (pv 0) rfl) (by rfl))
          (pss_one (ps_set (i := 2) scWx.nd rfl (.inl rfl) (pe_callTy call_tuple_of (by rfl) mT (by rfl) (pa_cons (pe_lc (own := [("other", 3)]) (g := gName 3) (by rfl) scWx.nd (pi_tup (pe_fld (pv 0) rfl)) (blkOk_by (own := [("other", 3)]) (N := ["self", "day", "changed", "other"]) (sc := defScope sWx) (by decide +kernel))
            (fun _ _ _ _ _ => pg_name (i := 3) scWx.nd rfl (Or.inl rfl)) (fun _ _ _ _ _ => pts_one (pt_cmpR op_ne (pv 3) (pv 1) (nomark _))) (fun _ _ _ _ _ => pv 3)) pa_nil))))
          (pss_one (ps_set (i := 2) scWx.nd rfl (.inl rfl) (pe_callTy call_tuple_of (by rfl) mT (by rfl) (pa_cons (pe_callB cr_sortedT (by rfl) mS (by decide +kernel) (pa_cons (pe_op op_catA (pe_fld (pv 0) rfl) (pe_tup (pa_cons (pv 1) pa_nil))) pa_nil)) pa_nil)))))
      (pss_cons (ps_if (pt_cmpR op_gt (pe_callB call_len_seq (by rfl) mN PySem.boot_len (pa_cons (pv 2) pa_nil)) (C8.pe_gc (by rfl) W.mX) (nomark _)) (pss_one (ps_raise rfl (takes_of rfl rfl rfl rfl) (pmk_kw T.xV T.iV T.tV GI (hr.mono (by omega)) kb pass0 (by rfl) T.gV (pk_cons pe_str (pk_cons (C8.pe_gc (by rfl) W.mX) pk_nil))))) pss_nil)
      (pss_one (ps_ret (pe_makeK (E := E) MK (ok_tvI I T W) hr (by rfl) W.gC (kb_tvI I) PX (pa_cons (pe_fld (pv 0) rfl) (pa_cons (pe_fld (pv 0) rfl) pa_nil)) (pk_cons (pv 2) pk_nil)))))), ?_⟩
    refine ⟨_, rfl, day, 0, 1000000000000000000, rfl, fun hb H1 s1 => ?_, fun nb H1 s1 => q2 nb H1 s1⟩
    have t1 := ht.same s1
    obtain ⟨⟨dx, ha⟩, hdd, po, rfl, ho⟩ := id t1
    have len7 : os.length ≤ 1000 := by omega
    refine ⟨fun σ H' => ∃ (v : V) (xs : List Int), σ = ([some (.ref a), some (.int day), some v, none] : L2.St) ∧ TiA K H' v xs ∧ Wex os day xs ∧ Same H1 H', ?_, ?_⟩
    · refine s_if (b := inV (.int day) (os.map V.int)) (et_test (ev_op (ev_var rfl) (ev_odd W.cl W.nO ha rfl) (rv_isT ho rfl (flat_ints _)))) (fun hin H2 e2 => ?_) (fun hno H2 e2 => ?_)
      · rw [inV_int] at hin
        have ha2 := e2 _ _ ha
        have ho2 := ex_t e2 ho
        have item : ∀ (i : Nat) (x : V), (os.map V.int)[i]? = some x → x = .int (os.getD i 0) := fun i x hx => by
          rw [List.getElem?_map] at hx
          cases hi : os[i]? with
          | none =>
            rw [hi] at hx
            cases hx
          | some y =>
            rw [hi] at hx
            cases hx
            rw [List.getD_eq_getElem?_getD, hi]
            rfl
        have eL := el_lcTup (K := K) (tl := tFld K (tVar 0) "odd_days") (σ := ([some (.ref a), some (.int day), none, none] : L2.St)) (H := H2) (te := tVar 3) (t := tTest (tOp rNe (tVar 3) (tVar 1))) (j := 3) (vs := [3])
          (fun i => decide (os.getD i 0 ≠ day)) (fun i => .int (os.getD i 0)) (ev_odd W.cl W.nO ha2 rfl) ho2 (by rw [List.length_map]; omega) (fun _ => rfl)
          (fun i x H3 e3 hx => by
            rw [item i x hx]
            refine et_is (et_test (ev_op (ev_var rfl) (ev_var rfl) (rv_ne rfl))) ?_
            rw [dec_int]
            by_cases z : os.getD i 0 = day
            · rw [show (os.getD i 0 == day) = true from beq_iff_eq.mpr z, decide_eq_false (fun n => n z)]
              rfl
            · rw [show (os.getD i 0 == day) = false from beq_false_of_ne z, decide_eq_true z]
              rfl)
          (fun i x H3 e3 hx _ => by
            rw [item i x hx]
            exact ev_var rfl)
        rw [given_filter os (fun o => decide (o ≠ day))] at eL
        exact (ei_tupL (K := K) (ei_lst eL)) H2 (Ex.refl _) _ fun v H3 e3 hv => ⟨v, _, rfl, hv, Wex.out ok.go (of_decide_eq_true hin), Same.trans e2 e3⟩
      · rw [inV_int] at hno
        have ha2 := e2 _ _ ha
        have ho2 : TiA K H2 (.ref po) os := ⟨po, rfl, ex_t e2 ho⟩
        have eS := ei_tupP (R := fun ms => ms.Perm (os ++ [day]) ∧ ms.Pairwise (· ≤ ·)) (ei_imp (ei_sortT (K := K) (ei_cat (σ := ([some (.ref a), some (.int day), none, none] : L2.St)) (ta := tFld K (tVar 0) "odd_days") (tb := tTup (tCons (tVar 1) tNil)) (ei_ev (ev_odd W.cl W.nO ha2 rfl) ho2) (ei_one (x := day) (ev_var rfl)) (by simp; omega)) (by simp; omega)) fun v H ⟨ms, p, r, h⟩ => ⟨ms, ⟨p, r⟩, h⟩)
        refine eS H2 (Ex.refl _) _ fun v H3 e3 ⟨ms, ⟨perm, rising⟩, hv⟩ => ⟨v, ms, rfl, hv, ⟨?_, rising⟩, Same.trans e2 e3⟩
        rw [if_neg (of_decide_eq_false hno)]
        exact perm
    rintro σ H2 ⟨v, xs, rfl, hv, wx, s2⟩
    have := wx.len
    obtain ⟨qa, qb⟩ := q1 hb xs wx
    refine q_when (b := decide ((xs.length : Int) > 6)) (et_test (ev_op (ei_lenT (ei_var rfl hv)) ev_c rv_I0)) (fun hm H3 e3 => ?_) (fun hm H3 e3 => ?_)
    · have := of_decide_eq_true hm
      exact mk2_in T.xV T.nP T.nI fun dd hdd => qb (by omega) dd _ (Same.trans (Same.trans (Same.trans s1 s2) e3) (same_new hdd)) upd_same
    · have := of_decide_eq_false hm
      have t3 := (t1.same s2).same e3
      obtain ⟨dx3, ha3⟩ := t3.1
      refine ⟨_, rfl, a, C, dx3, _, _, rfl, ha3, W.cl, W.nS, tvF_size _ _ _, _, rfl, a, C, dx3, _, _, rfl, ha3, W.cl, W.nP, tvF_pat _ _ _, _, rfl, ?_⟩
      have few6 : xs.length ≤ 6 := by omega
      have good : TvOk ln ds xs := ⟨ok.l1, ok.l2, ok.gd, ok.nd, wx.good ok.go hb.1 hb.2⟩
      refine tv_mk t3.2.1 (hv.tk (.same e3)) (by have := ok.nd; have := ok.l2; omega) (by omega) (fun _ a' H' sm na tv => qa few6 a' v H' (Same.trans (Same.trans (Same.trans s1 s2) e3) sm) tv) fun pt i dd H' bad => ?_
      rw [good.tbad few6] at bad
      cases bad
end
end Sea

set_option Elab.async false
set_option linter.all false
set_option maxRecDepth 100000
set_option maxHeartbeats 4000000
namespace Sea
open PySem PySem.Spec PyProof.Rows L2 LamX NdefX ClX Evl StX
def PrV (K : PySem.W.Frag) (H : Hp) (v : V) (x : Int × Int) : Prop := ∃ b, v = .ref b ∧ SqT K H b [.int x.1, .int x.2]
inductive PsV (K : PySem.W.Frag) (H : Hp) : List V → List (Int × Int) → Prop
  | nil : PsV K H [] []
  | cons {v : V} {x : Int × Int} {vs : List V} {L : List (Int × Int)} : PrV K H v x → PsV K H vs L → PsV K H (v :: vs) (x :: L)
theorem PrV.tk {K : PySem.W.Frag} {H H' : Hp} {v : V} {x : Int × Int} (t : TK K H H') (h : PrV K H v x) : PrV K H' v x := by
  obtain ⟨b, e, h⟩ := h
  exact ⟨b, e, t _ _ h⟩
theorem PsV.tk {K : PySem.W.Frag} {H H' : Hp} {vs : List V} {L : List (Int × Int)} (t : TK K H H') (h : PsV K H vs L) : PsV K H' vs L := by
  induction h with
  | nil => exact .nil
  | cons a _ ih => exact .cons (a.tk t) ih
theorem PsV.len {K : PySem.W.Frag} {H : Hp} {vs : List V} {L : List (Int × Int)} (h : PsV K H vs L) : vs.length = L.length := by
  induction h with
  | nil => rfl
  | cons _ _ ih => rw [List.length_cons, List.length_cons, ih]
theorem PsV.get {K : PySem.W.Frag} {H : Hp} {vs : List V} {L : List (Int × Int)} (h : PsV K H vs L) : ∀ {i : Nat} {v : V}, vs[i]? = some v → ∃ x, L[i]? = some x ∧ PrV K H v x := by
  induction h with
  | nil =>
    intro i v e
    simp at e
  | @cons v0 x0 vs0 L0 a _ ih =>
    intro i v e
    cases i with
    | zero =>
      have e' : v0 = v := by simpa using e
      exact ⟨x0, by simp, e' ▸ a⟩
    | succ j => simpa using ih (i := j) (v := v) (by simpa using e)
theorem PsV.app {K : PySem.W.Frag} {H : Hp} {vs ws : List V} {L M : List (Int × Int)} (h : PsV K H vs L) (g : PsV K H ws M) : PsV K H (vs ++ ws) (L ++ M) := by
  induction h with
  | nil => exact g
  | cons a _ ih => exact .cons a ih
theorem PsV.take {K : PySem.W.Frag} {H : Hp} {vs : List V} {L : List (Int × Int)} (h : PsV K H vs L) : ∀ n, PsV K H (vs.take n) (L.take n) := by
  induction h with
  | nil =>
    intro n
    simp
    exact .nil
  | cons a _ ih =>
    intro n
    cases n with
    | zero => exact .nil
    | succ m => exact .cons a (ih m)
theorem PsV.drop {K : PySem.W.Frag} {H : Hp} {vs : List V} {L : List (Int × Int)} (h : PsV K H vs L) : ∀ n, PsV K H (vs.drop n) (L.drop n) := by
  induction h with
  | nil =>
    intro n
    simp
    exact .nil
  | cons a b ih =>
    intro n
    cases n with
    | zero => exact .cons a b
    | succ m => exact ih m
def psD (L : List (Int × Int)) : PyData := .tuple (L.map fun x => .tuple [.int x.1, .int x.2])
theorem PsV.dp {K : PySem.W.Frag} {H : Hp} {vs : List V} {L : List (Int × Int)} (h : PsV K H vs L) : DpAll K H vs (L.map fun x => .tuple [.int x.1, .int x.2]) := by
  induction h with
  | nil => exact .nil
  | cons a _ ih =>
    obtain ⟨b, rfl, hb⟩ := a
    exact .cons (.tup hb (.cons (.int _) (.cons (.int _) .nil))) ih
/-- a tuple of passes at v -/
def PsA (K : PySem.W.Frag) (H : Hp) (v : V) (L : List (Int × Int)) : Prop := ∃ a vs, v = .ref a ∧ SqT K H a vs ∧ PsV K H vs L
theorem PsA.tk {K : PySem.W.Frag} {H H' : Hp} {v : V} {L : List (Int × Int)} (t : TK K H H') (h : PsA K H v L) : PsA K H' v L := by
  obtain ⟨a, vs, e, h1, h2⟩ := h
  exact ⟨a, vs, e, t _ _ h1, h2.tk t⟩
theorem PsA.dp {K : PySem.W.Frag} {H : Hp} {v : V} {L : List (Int × Int)} (h : PsA K H v L) : Dp K H v (psD L) := by
  obtain ⟨a, vs, rfl, h1, h2⟩ := h
  exact .tup h1 h2.dp
theorem psD_lay : ∀ L : List (Int × Int), PyData.canLayAll0 (L.map fun x => PyData.tuple [.int x.1, .int x.2]) = true
  | [] => rfl
  | x :: L => by
    show ((true && (true && true)) && PyData.canLayAll0 (L.map fun x => PyData.tuple [.int x.1, .int x.2])) = true
    rw [psD_lay L]
    rfl
theorem psD_eqv : ∀ L M : List (Int × Int), PyData.eqvAll (L.map fun x => .tuple [.int x.1, .int x.2]) (M.map fun x => .tuple [.int x.1, .int x.2]) = decide (L = M)
  | [], [] => rfl
  | [], _ :: _ => rfl
  | _ :: _, [] => rfl
  | x :: L, y :: M => by
    show (((x.1 == y.1) && ((x.2 == y.2) && true)) && PyData.eqvAll (L.map fun x => .tuple [.int x.1, .int x.2]) (M.map fun x => .tuple [.int x.1, .int x.2])) = _
    rw [psD_eqv L M, Bool.eq_iff_iff]
    obtain ⟨x1, x2⟩ := x
    obtain ⟨y1, y2⟩ := y
    simp
theorem psD_eq (L M : List (Int × Int)) : PyData.eqv (psD L) (psD M) = decide (L = M) := psD_eqv L M
theorem scIT : FnScope ["self", "index"] ["self", "index"] (defScope sIT) := ⟨rfl, rfl, rfl, by decide +kernel, rfl, by decide +kernel, by decide +kernel⟩
theorem scInit : FnScope ["self", "passes", "index", "length", "price", "is_good"] ["self", "passes"] (defScope sInit) := ⟨rfl, rfl, rfl, by decide +kernel, rfl, by decide +kernel, by decide +kernel⟩
/-- the text's facts -/
structure TX (K : PySem.W.Frag) (mg : Str → Option Value) (C cI cU cP fI : Addr) (mc mp : Value) : Prop where
  cl : Cls K C
  no : NoAttr K C "offers"
  gC : mg "Tariff" = some (.ref C)
  cr : CRead K C mc
  v1 : ∃ u, CVal K C mc "MAX_LENGTH" (.int 28) u
  v2 : ∃ u, CVal K C mc "MAX_PRICE" (.int 1000000) u
  v3 : ∃ u, CVal K C mc "MAX_PASSES" (.int 6) u
  mE : mg "enumerate" = none
  mN : mg "len" = none
  mT : mg "tuple" = none
  xI : OexC K cI
  nI : PySem.W.findIn K (.ref cI) "index" = some none
  gI : mg "InvalidTariff" = some (.ref cI)
  iI : PySem.W.findIn K (.ref cI) "__init__" = some (some (.ref fI))
  tI : PySem.W.typeIn K (.ref fI) = some (.type "function")
  pI : PIn K mg "PassError" cP mp
section
variable {P : Program} {w : World} {K : PySem.W.Frag} {mg : Str → Option Value} {base : Heap} {C cI cU cP fI : Addr} {mc mp : Value}
theorem ok_IT {k : Nat} {fd : FuncData} (F : Fun K "__init__" "InvalidTariff.__init__" sIT fI fd) (T : TX K mg C cI cU cP fI mc mp) : FnOk P w K mg base CX0 (k + 1) fI fd ["self", "index"] (spX1 K "index") := by
  refine F.ok scIT (fun vs H Q E h => ?_) (fun cdv A outer s H vs Q E hr h => ?_)
  · obtain ⟨a, C', y, rfl, _⟩ := h
    rfl
  · obtain ⟨a, C', y, rfl, hx, hf, ha, q⟩ := h
    refine ⟨_, pss_cons (ps_expr (pe_pinit (by rfl) T.pI.gB T.pI.rd T.pI.ga T.pI.at_ (pa_cons (pv 0) (pa_cons pe_str pa_nil)))) (pss_one (ps_ost (pv 0) (pv 1))), ?_⟩
    refine ⟨_, rfl, a, C', _, rfl, by decide, hx, ha, _, rfl, _, rfl, a, C', rfl, hx, hf, .inl ⟨ha, fun dx h1 h2 => q dx h1 h2⟩⟩
theorem kb_IT {fd : FuncData} (F : Fun K "__init__" "InvalidTariff.__init__" sIT fI fd) : KBn K fd ["self", "index"] 1 ["index"] (fun us ws => us ++ ws) (fun vs zs => vs ++ zs) := by
  obtain ⟨oc, od, kV, doc, pm, an, cdv, ct, osl, rfl, lk, hcd⟩ := F.ex
  refine ⟨fun s us ws _ h1 h2 => ?_, fun a b => a.append b⟩
  match us, ws, h1, h2 with
  | [u], [x], _, _ => exact .of_eq rfl
end
theorem scPasses : FnScope ["self"] ["self"] (defScope sPasses) := ⟨rfl, rfl, rfl, by decide +kernel, rfl, by decide +kernel, by decide +kernel⟩
/-- a tariff at a, its tuple of passes at p -/
def Tar (K : PySem.W.Frag) (C : Addr) (H : Hp) (a p : Addr) (L : List (Int × Int)) : Prop := (∃ dx, H a = some (.ins C dx [("offers", .ref p)])) ∧ PsA K H (.ref p) L
theorem Tar.len_eq {K : PySem.W.Frag} {C : Addr} {H : Hp} {a p : Addr} {L : List (Int × Int)} (t : Tar K C H a p L) : ∃ vs, SqT K H p vs ∧ vs.length = L.length ∧ PsV K H vs L := by
  obtain ⟨_, q, vs, e, h1, h2⟩ := t
  cases e
  exact ⟨vs, h1, h2.len, h2⟩
/-- the getter of passes -/
structure TP (K : PySem.W.Frag) (C fP pP : Addr) (fdP : FuncData) : Prop where
  pr : PropOf K C "passes" pP fP
  fu : Fun K "passes" "Tariff.passes" sPasses fP fdP
section
variable {P : Program} {w : World} {K : PySem.W.Frag} {mg : Str → Option Value} {base : Heap} {C cI cU cP fI fP pP : Addr} {mc mp : Value} {fdP : FuncData}
theorem ok_passes (F : Fun K "passes" "Tariff.passes" sPasses fP fdP) (c : Cls K C) (n : NoAttr K C "offers") {k : Nat} : FnOk P w K mg base CX0 (k + 1) fP fdP ["self"] (getSp C "offers") := by
  obtain ⟨oc, od, kV, doc, pm, an, cdv, ct, osl, rfl, lk, hcd⟩ := F.ex
  exact fn_getter lk hcd scPasses rfl rfl c n
theorem b_passes (F : Fun K "passes" "Tariff.passes" sPasses fP fdP) : Binds K fdP ["self"] [] := F.binds (ps := ["self"]) fun _ _ _ _ _ _ us hl => match us, hl with | [_], _ => rfl
/-- e.passes, e a tariff -/
theorem pe_passes {X : Cx} {e : Expr} {te : TE} {pos : Pos} (T : TP X.K C fP pP fdP) (c : Cls X.K C) (n : NoAttr X.K C "offers") (hr : Room 2 X.A) (he : PE X e te) (hab : attributeBase e "passes" X.env (eval e X.env) = eval e X.env := by rfl) :
    PE X (.Attribute e "passes" pos) (tProp C (getSp C "offers") [] E0 te) :=
  pe_prop he c T.pr (ok_passes (k := 0) T.fu c n) hr (b_passes T.fu) .nil pass0 hab
end
/-! ### what is wrong with passes -/
def okP (x : Int × Int) : Bool := (decide (1 ≤ x.1) && decide (x.1 ≤ 28)) && (decide (1 ≤ x.2) && decide (x.2 ≤ 1000000))
def badI (i : Nat) (x : Int × Int) : Bool := decide (V.int ((i : Nat) : Int) = V.int 6) || !okP x
def fb : Nat → List (Int × Int) → Option Nat
  | _, [] => none
  | i, x :: r => if badI i x = true then some i else fb (i + 1) r
def bad (L : List (Int × Int)) : Option Nat := if L = [] then some 0 else fb 0 L
theorem fb_all : ∀ (L : List (Int × Int)) (k : Nat), (∀ j x, L[j]? = some x → badI (k + j) x = false) → fb k L = none
  | [], _, _ => rfl
  | x :: r, k, h => by
    have h0 := h 0 x rfl
    unfold fb
    rw [if_neg (by rw [show badI k x = false from h0]; decide)]
    refine fb_all r (k + 1) fun j y hy => ?_
    have := h (j + 1) y (by simpa using hy)
    rwa [show k + (j + 1) = k + 1 + j by omega] at this
theorem fb_at : ∀ (L : List (Int × Int)) (k i : Nat) (x : Int × Int), L[i]? = some x → badI (k + i) x = true → (∀ j y, j < i → L[j]? = some y → badI (k + j) y = false) → fb k L = some (k + i)
  | [], _, i, _, h, _, _ => by simp at h
  | y :: r, k, 0, x, h, hb, _ => by
    obtain rfl : y = x := by simpa using h
    unfold fb
    rw [if_pos (show badI k y = true from hb)]
    rfl
  | y :: r, k, i + 1, x, h, hb, hn => by
    unfold fb
    rw [if_neg (by rw [show badI k y = false from hn 0 y (Nat.succ_pos _) rfl]; decide)]
    rw [fb_at r (k + 1) i x (by simpa using h) (by rwa [show k + 1 + i = k + (i + 1) by omega]) (fun j z hj hz => by
      have := hn (j + 1) z (by omega) (by simpa using hz)
      rwa [show k + (j + 1) = k + 1 + j by omega] at this)]
    rw [show k + 1 + i = k + (i + 1) by omega]
section
variable {P : Program} {w : World} {K : PySem.W.Frag} {mg : Str → Option Value} {base : Heap} {C cI cU cP fI fP pP : Addr} {mc mp : Value} {fdP fdI : FuncData}
theorem psD_dep : ∀ L : List (Int × Int), PyData.depthAll (L.map fun x => PyData.tuple [.int x.1, .int x.2]) ≤ 1
  | [] => Nat.zero_le _
  | x :: L => by
    show max (max 0 (max 0 0) + 1) (PyData.depthAll (L.map fun x => PyData.tuple [.int x.1, .int x.2])) ≤ 1
    have := psD_dep L
    omega
theorem psD_sh (L : List (Int × Int)) : SeqAt.shaped (psD L) = true := by
  show (PyData.canLayAll0 (L.map fun x => PyData.tuple [.int x.1, .int x.2]) && decide (PyData.depthAll (L.map fun x => PyData.tuple [.int x.1, .int x.2]) + 1 ≤ 64)) = true
  rw [psD_lay, decide_eq_true (by have := psD_dep L; omega)]
  rfl
/-- Tariff.__init__ at the tuple p -/
def spInit (K : PySem.W.Frag) (C cI : Addr) : Sp := fun vs H Q E => ∃ (a p dx : Addr) (L : List (Int × Int)), vs = [.ref a, .ref p] ∧ H a = some (.ins C dx []) ∧ PsA K H (.ref p) L ∧ L.length ≤ 1000 ∧
  (bad L = none → ∀ H', (∀ b o, H b = some o → b ≠ a → H' b = some o) → H' a = some (.ins C dx [("offers", .ref p)]) → Q .non H') ∧
  (∀ i d H', bad L = some i → Same H H' → H' d = some (.xd [("index", .int i)]) → E (.ref cI) (some d) H')
theorem ok_init_body {k : Nat} {X : Cx} (hX : X.K = K) (FI : Fun K "__init__" "InvalidTariff.__init__" sIT fI fdI) (T : TX K mg C cI cU cP fI mc mp) {f : Addr} {cdv : Value} {A : Around} {outer : List Env} {s : Shared} {H : Hp} {vs : List V} {Q : VK} {E : XK}
    (hr : Room (k + 3) (A.deeper (envOfC "Tariff.__init__" (defScope sInit) s.heap.objs.size f cdv))) (h : spInit K C cI vs H Q E) :
    ∃ t, PSs (cxOf (L2.CX P w) P w K mg base ["self", "passes", "index", "length", "price", "is_good"] "Tariff.__init__" (defScope sInit) f cdv A outer s H E) (defBody sInit) t ∧ t { nx := fun _ H' => Q .non H', rt := Q } (start ["self", "passes", "index", "length", "price", "is_good"] vs) H := by
  obtain ⟨a, p, dx, L, rfl, ha, hL, hlen, q1, q2⟩ := h
  have GI : FnOk P w K mg base CX0 1 fI fdI ["self", "index"] (spX1 K "index") := ok_IT FI T
  have kb := kb_IT FI
  refine ⟨_, pss_cons (ps_if (pt_cmpR (op_eqD hr.units) (pv 1) (pe_tup pa_nil) (nomark _)) (pss_one (ps_raise rfl (takes_of rfl rfl rfl rfl) (pmk_kw T.xI T.iI T.tI GI (hr.mono (by omega)) kb pass0 (by rfl) T.gI (pk_cons pe_int pk_nil)))) pss_nil)
    (pss_cons (ps_for (passes_of rfl) rfl (pi_enumT (by rfl) T.mE (pa_cons (pv 1) pa_nil)) (pg_tup rfl (pgs_cons (pg_name (i := 2) scInit.nd rfl (.inl rfl)) (pgs_cons (pg_tup rfl (pgs_cons (pg_name (i := 3) scInit.nd rfl (.inl rfl)) (pgs_cons (pg_name (i := 4) scInit.nd rfl (.inl rfl)) pgs_nil))) pgs_nil)))
      (pss_cons (ps_set (i := 5) scInit.nd rfl (.inl rfl) (pe_and (pe_chain op_le op_le pe_int (pv 3) (pe_clc (by rfl) T.gC T.cr T.v1)) (pe_one (pe_chain op_le op_le pe_int (pv 4) (pe_clc (by rfl) T.gC T.cr T.v2)))))
        (pss_one (ps_if (PW.pt (pw_or (pt_cmpR op_eq (pv 2) (pe_clc (by rfl) T.gC T.cr T.v3) (nomark _)) (pw_or1 (pt_not (pt_val (pv 5))))))
          (pss_one (ps_raise rfl (takes_of rfl rfl rfl rfl) (pmk_kw T.xI T.iI T.tI GI (hr.mono (by omega)) kb pass0 (by rfl) T.gI (pk_cons (pv 2) pk_nil)))) pss_nil))))
    (pss_one (ps_fld (pv 0) (pv 1) rfl))), ?_⟩
  have hps := hL
  obtain ⟨_, vs, e, h1, h2⟩ := hL
  cases e
  have hlen2 := h2.len
  refine ⟨.ref p, rfl, Nat.zero_le _, fun z nz => ?_⟩
  have s0 : Same H (upd H z (.tup [])) := same_new nz
  refine ⟨psD L, psD [], (hps.tk (.same s0)).dp, .tup (xs := []) (.of upd_same) .nil, psD_sh L, psD_sh [], _, rfl, ?_⟩
  refine ite2 (fun hb => ?_) (fun hb => ?_)
  · have eL : L = [] := by
      rw [psD_eq] at hb
      exact of_decide_eq_true hb
    refine mk1_in T.xI T.nI fun d hd => q2 0 d _ ?_ (s0.trans (same_new hd)) upd_same
    unfold bad
    rw [if_pos eL]
  have nL : L ≠ [] := fun z => by
    rw [psD_eq, decide_eq_true z] at hb
    exact hb rfl
  refine ⟨_, rfl, p, vs, rfl, (TK.same s0) _ _ h1, for_rounds (I := IteT K p vs) vs.length (fun i σ H' => ∃ v2 v3 v4 v5, σ = [some (.ref a), some (.ref p), v2, v3, v4, v5] ∧ Same H H' ∧ ∀ j x, j < i → L[j]? = some x → badI j x = false)
    ⟨none, none, none, none, rfl, s0, fun j x hj => absurd hj (Nat.not_lt_zero _)⟩ ?_ ?_⟩
  · rintro i σ H' hi ⟨v2, v3, v4, v5, rfl, sm, hall⟩
    have hvs : SqT K H' p vs := (TK.same sm) _ _ h1
    refine ⟨⟨hi, hvs⟩, ?_⟩
    rintro y HT ⟨x, TT, hx, nT, rfl, rfl⟩
    obtain ⟨⟨l, pr⟩, hLi, b, rfl, hb2⟩ := h2.get hx
    have sT : Same H' (upd H' TT (.tup [.int (i : Nat), .ref b])) := same_new nT
    have hb3 : SqT K (upd H' TT (.tup [.int (i : Nat), .ref b])) b [.int l, .int pr] := (TK.same (sm.trans sT)) _ _ hb2
    have hi6 : i < 1000 := by
      have := (List.getElem?_eq_some_iff.mp hLi).1
      omega
    refine ⟨TT, _, rfl, .of upd_same, rfl, _, _, rfl, _, _, rfl, b, _, rfl, hb3, rfl, _, _, rfl, _, _, rfl, rfl, rfl, ?_⟩
    refine q_asg (v := .bl (okP (l, pr))) (ev_andV (ev_chainI (p := fun i j => decide (i ≤ j)) (q := fun i j => decide (i ≤ j)) ev_c (ev_var rfl) ev_c) fun _ => ev_chainI (p := fun i j => decide (i ≤ j)) (q := fun i j => decide (i ≤ j)) ev_c (ev_var rfl) ev_c) fun H2 e2 => ?_
    refine s_if (b := badI i (l, pr)) (et_or (et_test (ev_op (ev_var rfl) ev_c (rv_eq rfl))) fun _ => et_not (et_B (ev_var rfl))) (fun hb3 H3 e3 => ?_) (fun hb3 H3 e3 => ?_)
    · refine ⟨_, rfl, mk1_in T.xI T.nI fun d hd => q2 i d _ ?_ (((sm.trans sT).trans (e2.trans e3)).trans (same_new hd)) upd_same⟩
      unfold bad
      rw [if_neg nL]
      have := fb_at L 0 i (l, pr) hLi (by rw [Nat.zero_add]; exact hb3) (fun j y hj hy => by
        rw [Nat.zero_add]
        exact hall j y hj hy)
      rwa [Nat.zero_add] at this
    · refine ⟨_, _, _, _, rfl, (sm.trans sT).trans (e2.trans e3), fun j x hj hxx => ?_⟩
      by_cases hji : j < i
      · exact hall j x hji hxx
      · obtain rfl : j = i := by omega
        rw [Option.some.inj (hxx.symm.trans hLi)]
        exact hb3
  · rintro σ H' ⟨v2, v3, v4, v5, rfl, sm, hall⟩
    refine ⟨⟨rfl, (TK.same sm) _ _ h1⟩, ?_⟩
    refine ⟨_, rfl, _, rfl, a, C, dx, [], rfl, sm _ _ ha, T.cl, T.no, by decide, ?_⟩
    refine q1 ?_ _ (fun b o e n => ?_) upd_same
    · unfold bad
      rw [if_neg nL]
      refine fb_all L 0 fun j x hx => ?_
      rw [Nat.zero_add]
      refine hall j x ?_ hx
      rw [hlen2]
      exact (List.getElem?_eq_some_iff.mp hx).1
    · rw [upd_ne n]
      exact sm _ _ e
end
structure TMk (K : PySem.W.Frag) (C fI fT : Addr) (fdI fdT : FuncData) : Prop where
  mkf : Mk K C fT
  fT : Fun K "__init__" "Tariff.__init__" sInit fT fdT
  fI : Fun K "__init__" "InvalidTariff.__init__" sIT fI fdI
/-- Tariff(..) of the passes vs -/
def spMk (K : PySem.W.Frag) (C cI : Addr) : Sp := fun vs H Q E => ∃ L : List (Int × Int), PsV K H vs L ∧ L.length ≤ 1000 ∧ (bad L = none → ∀ a p H', Same H H' → H a = none → Tar K C H' a p L → Q (.ref a) H') ∧
  (∀ i d H', bad L = some i → Same H H' → H' d = some (.xd [("index", .int (i : Nat))]) → E (.ref cI) (some d) H')
section
variable {P : Program} {w : World} {K : PySem.W.Frag} {mg : Str → Option Value} {base : Heap} {C cI cU cP fI fT fP pP : Addr} {mc mp : Value} {fdP fdI fdT : FuncData}
theorem ok_init (T : TX K mg C cI cU cP fI mc mp) (I : TMk K C fI fT fdI fdT) : FnR P w K mg base (L2.CX P w) 4 fT (fun vs H Q E => ∃ ws rest, vs = ws ++ rest ∧ ws.length = ["self"].length ∧ rest.length ≤ sizeLine ∧ ∀ p, H p = Option.none → spInit K C cI (ws ++ [V.ref p]) (upd H p (.tup rest)) Q E) := by
  obtain ⟨oc, od, kV, doc, pm, an, cdv, ct, osl, rfl, lk, hcd⟩ := I.fT.ex
  refine fn_star (ps := ["self"]) (pv := "passes") lk hcd scInit cxUp (fun us rest hl => ?_) fun A outer s H vs Q E hr h => ok_init_body (X := cxOf (L2.CX P w) P w K mg base ["self"] "Tariff.__init__" (defScope sInit) fT cdv A outer s H E) rfl I.fI T hr h
  match us, hl with
  | [u], _ =>
    unfold bindArgs
    have e : ∀ b : Bool, (b && (defArgs sInit).vararg.isNone) = false := fun b => by
      rw [show (defArgs sInit).vararg.isNone = false from rfl, Bool.and_false]
    show _ = _
    simp only [PySem.W.fnOf, e]
    rfl
theorem mk_in {vs : List V} {H : Hp} {Q : VK} {E : XK} (h : spMk K C cI vs H Q E) : ∀ x dx, H x = Option.none → H dx = Option.none → dx ≠ x → (fun vs H Q E => ∃ ws rest, vs = ws ++ rest ∧ ws.length = ["self"].length ∧ rest.length ≤ sizeLine ∧ ∀ p, H p = Option.none → spInit K C cI (ws ++ [V.ref p]) (upd H p (.tup rest)) Q E)
    (V.ref x :: vs) (upd (upd H dx (.own x)) x (.ins C dx [])) (fun v H2 => v = .non ∧ Q (.ref x) H2) E := by
  obtain ⟨L, hL, hlen, q1, q2⟩ := h
  intro x dx nx ndx nex
  have s0 : Same H (upd (upd H dx (.own x)) x (.ins C dx [])) := fun b o e => by
    rw [upd_ne (ne_of_none e nx), upd_ne (ne_of_none e ndx)]
    exact e
  refine ⟨[.ref x], vs, rfl, rfl, Nat.le_of_lt (small1000 (by rw [hL.len]; exact hlen)), fun p np => ?_⟩
  have npx : x ≠ p := fun e => by
    rw [← e, upd_same] at np
    cases np
  have s1 := s0.trans (same_new (o := .tup vs) np)
  have hp : SqT K (upd (upd (upd H dx (.own x)) x (.ins C dx [])) p (.tup vs)) p vs := .of upd_same
  refine ⟨x, p, dx, L, rfl, by rw [upd_ne npx, upd_same], ⟨p, vs, rfl, hp, hL.tk (.same s1)⟩, hlen, fun hb H' hk hx => ⟨rfl, q1 hb x p H' (fun b o e => hk b o (s1 b o e) (ne_of_none e nx)) nx ⟨⟨dx, hx⟩, p, vs, rfl, ?_, (hL.tk (.same s1)).tk ?_⟩⟩, fun i d H' hb sm hd => q2 i d H' hb (s1.trans sm) hd⟩
  · exact .of (hk _ _ upd_same npx.symm)
  · exact .but (fun b => b = x) (fun b o e n => hk b o e n) fun b xs z => by
      rw [z]
      refine Rd.ins_no (C := C) (dx := dx) (fs := []) ?_
      rw [upd_ne npx, upd_same]
section
variable {X : Cx} {e : Expr} {es : List Expr} {te : TE} {t : TA} {E : XK} {p pos spos : Pos}
theorem pe_tar (T : TX X.K X.mg C cI cU cP fI mc mp) (I : TMk X.K C fI fT fdI fdT) (hr : Room 5 X.A) (hx : Passes (L2.CX X.prog X.w) X E) (hg : Gl X "Tariff") (ha : PA X (e :: es) t)
    (he : starEach (e :: es) X.env = (false, eval e X.env) :: starEach es X.env := by rfl) (hpl : (backTo pos (starEach es X.env)).any (·.1) = false := by rfl) :
    PE X (.Call (.Name "Tariff" p) (e :: es) [] pos) (fun σ H Q => t σ H fun vs H1 => spMk X.K C cI vs H1 Q E) := by
  refine ⟨fun pins s σ H Q J h => ?_⟩
  refine wpAny_Call_Name_kw (ld_glob J hg T.gC ?_ (by decide))
  exact PySem.W.callWith_K (h₀ := X.base) J.ok.mod.kin I.mkf.kp (thn (ha.run pos pins s σ H _ J h) fun us s1 ⟨vs, H1, I1, r, q⟩ => ⟨I1.kIn, run_makeR I.mkf (ok_init T I) hr hx I1 r (mk_in q)⟩) he hpl
theorem pe_tarS (T : TX X.K X.mg C cI cU cP fI mc mp) (I : TMk X.K C fI fT fdI fdT) (hr : Room 5 X.A) (hx : Passes (L2.CX X.prog X.w) X E) (hg : Gl X "Tariff") (he : PE X e te)
    (hst : starEach [.Starred e spos] X.env = [(true, eval e X.env)] := by rfl) :
    PE X (.Call (.Name "Tariff" p) [.Starred e spos] [] pos) (fun σ H Q => te σ H fun y H1 => ∃ a xs, y = V.ref a ∧ SqT X.K H1 a xs ∧ spMk X.K C cI xs H1 Q E) := by
  refine ⟨fun pins s σ H Q J h => ?_⟩
  refine wpAny_Call_Name_kw (ld_glob J hg T.gC ?_ (by decide))
  refine PySem.W.callWith_S (h₀ := X.base) J.ok.mod.kin I.mkf.kp (thn (he.run pins s σ H _ J h) fun v s1 hh => ?_) hst
  obtain ⟨y, H1, I1, ry, a, xs, ey, hxs, q⟩ := hh
  subst ey
  obtain rfl : v = Value.ref a := ry
  exact star_any I1 (.inl hxs) fun us s2 I2 rv => ⟨I2.kIn, run_makeR I.mkf (ok_init T I) hr hx I2 rv (mk_in q)⟩
end
end
end Sea

set_option Elab.async false
set_option linter.all false
set_option maxRecDepth 100000
set_option maxHeartbeats 4000000
/-! how soon least costs repeat, in plain words -/
namespace Sea
/-- a net: at each place x the steps down (length, price) -/
structure Net where
  L : Nat
  R : Int
  Ed : Int → List (Int × Int)
  l1 : 1 ≤ L
  per : ∀ x, Ed (x + L) = Ed x
  len : ∀ x z, z ∈ Ed x → 1 ≤ z.1 ∧ z.1 ≤ R
  pri : ∀ x z, z ∈ Ed x → 0 ≤ z.2
  ne : ∀ x, Ed x ≠ []
/-- a walk down from x to y in s steps that costs c -/
inductive Wk (N : Net) : Int → Int → Nat → Int → Prop
  | nil (x : Int) : Wk N x x 0 0
  | cons {x y : Int} {s : Nat} {c : Int} (z : Int × Int) (h : z ∈ N.Ed x) (w : Wk N (x - z.1) y s c) : Wk N x y (s + 1) (z.2 + c)
section
variable {N : Net} {x y u : Int} {s r : Nat} {c d : Int}
theorem Net.perN (N : Net) (x : Int) : ∀ t : Nat, N.Ed (x + N.L * (t : Int)) = N.Ed x
  | 0 => by rw [show ((0 : Nat) : Int) = 0 from rfl, Int.mul_zero, Int.add_zero]
  | t + 1 => by
    have ih := N.perN x t
    rw [show ((t + 1 : Nat) : Int) = (t : Int) + 1 by omega, Int.mul_add, Int.mul_one, ← Int.add_assoc, N.per]
    exact ih
theorem Net.perI (N : Net) (x t : Int) : N.Ed (x + N.L * t) = N.Ed x := by
  rcases Int.le_total 0 t with h | h
  · obtain ⟨n, rfl⟩ := Int.eq_ofNat_of_zero_le h
    exact N.perN x n
  · obtain ⟨n, hn⟩ := Int.eq_ofNat_of_zero_le (show 0 ≤ -t by omega)
    have := N.perN (x + N.L * t) n
    rw [← hn, Int.mul_neg, Int.add_neg_cancel_right] at this
    exact this.symm
theorem Wk.cast {x' y' : Int} {s' : Nat} {c' : Int} (w : Wk N x y s c) (h1 : x = x') (h2 : y = y') (h3 : s = s') (h4 : c = c') : Wk N x' y' s' c' := by
  subst h1 h2 h3 h4
  exact w
theorem Wk.shift (t : Int) (w : Wk N x y s c) : Wk N (x + N.L * t) (y + N.L * t) s c := by
  induction w with
  | nil x => exact .nil _
  | @cons x y s c z h w ih => exact .cons z (by rw [N.perI]; exact h) (ih.cast (by omega) rfl rfl rfl)
theorem Wk.app (w : Wk N x y s c) (v : Wk N y u r d) : Wk N x u (s + r) (c + d) := by
  induction w with
  | nil x => exact v.cast rfl rfl (by omega) (by omega)
  | @cons x y s c z h w ih => exact (Wk.cons z h (ih v)).cast rfl rfl (by omega) (by omega)
theorem Wk.bd (w : Wk N x y s c) : (s : Int) ≤ x - y ∧ x - y ≤ N.R * s ∧ 0 ≤ c := by
  induction w with
  | nil x =>
    refine ⟨by omega, ?_, Int.le_refl 0⟩
    show x - x ≤ N.R * (0 : Int)
    omega
  | @cons x y s c z h w ih =>
    have l := N.len _ _ h
    have p := N.pri _ _ h
    refine ⟨by omega, ?_, by omega⟩
    rw [show ((s + 1 : Nat) : Int) = (s : Int) + 1 by omega, Int.mul_add, Int.mul_one]
    omega
/-- the places of a walk, and what it has cost there -/
theorem Wk.nodes (w : Wk N x y s c) : ∃ (o C : Nat → Int), o 0 = x ∧ o s = y ∧ C 0 = 0 ∧ C s = c ∧ ∀ i j, i ≤ j → j ≤ s → Wk N (o i) (o j) (j - i) (C j - C i) := by
  induction w with
  | nil x =>
    refine ⟨fun _ => x, fun _ => 0, rfl, rfl, rfl, rfl, fun i j h1 h2 => ?_⟩
    obtain rfl : i = 0 := by omega
    obtain rfl : j = 0 := by omega
    exact .nil x
  | @cons x y s c z h w ih =>
    obtain ⟨o, C, h1, h2, h3, h4, hw⟩ := ih
    refine ⟨fun i => if i = 0 then x else o (i - 1), fun i => if i = 0 then 0 else z.2 + C (i - 1), rfl, ?_, rfl, ?_, fun i j hi hj => ?_⟩
    · show (if s + 1 = 0 then x else o (s + 1 - 1)) = y
      rw [if_neg (by omega)]
      exact h2
    · show (if s + 1 = 0 then 0 else z.2 + C (s + 1 - 1)) = z.2 + c
      rw [if_neg (by omega)]
      exact congrArg (z.2 + ·) h4
    · show Wk N (if i = 0 then x else o (i - 1)) (if j = 0 then x else o (j - 1)) (j - i) ((if j = 0 then 0 else z.2 + C (j - 1)) - if i = 0 then 0 else z.2 + C (i - 1))
      by_cases hi0 : i = 0
      · rw [if_pos hi0, if_pos hi0]
        by_cases hj0 : j = 0
        · rw [if_pos hj0, if_pos hj0]
          exact (Wk.nil x).cast rfl rfl (by omega) (by omega)
        · rw [if_neg hj0, if_neg hj0]
          have w2 := hw 0 (j - 1) (Nat.zero_le _) (by omega)
          rw [h1, h3] at w2
          exact (Wk.cons z h w2).cast rfl rfl (by omega) (by omega)
      · rw [if_neg hi0, if_neg hi0, if_neg (show ¬ j = 0 by omega), if_neg (show ¬ j = 0 by omega)]
        exact (hw (i - 1) (j - 1) (by omega) (by omega)).cast rfl rfl (by omega) (by omega)
end
/-! ### two alike -/
theorem nodup_lenN {α : Type} [DecidableEq α] : ∀ (l m : List α), l.Nodup → (∀ x ∈ l, x ∈ m) → l.length ≤ m.length
  | [], _, _, _ => Nat.zero_le _
  | a :: r, m, hn, h => by
    obtain ⟨n1, n2⟩ := List.nodup_cons.mp hn
    have ha := h a List.mem_cons_self
    have := nodup_lenN r (m.erase a) n2 fun x hx => (List.mem_erase_of_ne (fun e => n1 (by rw [← e]; exact hx))).mpr (h x (List.mem_cons_of_mem _ hx))
    rw [List.length_erase_of_mem ha] at this
    have : 0 < m.length := List.length_pos_of_mem ha
    rw [List.length_cons]
    omega
/-- among m + 1 places two are alike mod m -/
theorem pigeon (o : Nat → Int) {m : Nat} (m1 : 1 ≤ m) : ∃ i j, i < j ∧ j ≤ m ∧ ∃ q : Int, o i - o j = m * q := by
  refine Classical.byContradiction fun no => ?_
  have r : ∀ i, ∃ n : Nat, o i % (m : Int) = n ∧ n < m := fun i => by
    obtain ⟨n, hn⟩ := Int.eq_ofNat_of_zero_le (Int.emod_nonneg (o i) (show (m : Int) ≠ 0 by omega))
    have := Int.emod_lt_of_pos (o i) (show (0 : Int) < m by omega)
    have hn : o i % (m : Int) = (n : Int) := hn
    exact ⟨n, hn, by omega⟩
  have nd : ((List.range (m + 1)).map fun i => (o i % (m : Int)).toNat).Nodup := by
    refine List.pairwise_map.mpr (List.pairwise_lt_range.imp_of_mem fun {i j} _ hj h1 => ?_)
    intro e
    refine no ⟨i, j, h1, by have := List.mem_range.mp hj; omega, (o i - o j) / m, ?_⟩
    obtain ⟨a, ha, _⟩ := r i
    obtain ⟨b, hb, _⟩ := r j
    rw [ha, hb] at e
    have e : a = b := e
    have : (o i - o j) % (m : Int) = 0 := by rw [Int.sub_emod, ha, hb, e, Int.sub_self, Int.zero_emod]
    exact (Int.mul_ediv_cancel' (Int.dvd_of_emod_eq_zero this)).symm
  have := nodup_lenN _ (List.range m) nd fun x hx => by
    obtain ⟨i, _, rfl⟩ := List.mem_map.mp hx
    obtain ⟨a, ha, hl⟩ := r i
    rw [ha]
    exact List.mem_range.mpr hl
  rw [List.length_map, List.length_range, List.length_range] at this
  omega
theorem least_int {p : Int → Prop} (lo : Int) (h : ∃ x, p x) (hl : ∀ x, p x → lo ≤ x) : ∃ x, p x ∧ ∀ y, p y → x ≤ y := by
  have go : ∀ (n : Nat) (x : Int), p x → x = lo + n → ∃ x, p x ∧ ∀ y, p y → x ≤ y := fun n => by
    induction n using Nat.strongRecOn with
    | _ n ih =>
      intro x hx e
      by_cases c : ∀ y, p y → x ≤ y
      · exact ⟨x, hx, c⟩
      · obtain ⟨y, hy, hlt⟩ : ∃ y, p y ∧ y < x := Classical.byContradiction fun z => c fun y hy => Classical.byContradiction fun w => z ⟨y, hy, by omega⟩
        have := hl y hy
        exact ih (y - lo).toNat (by omega) y hy (by omega)
  obtain ⟨x, hx⟩ := h
  have := hl x hx
  exact go (x - lo).toNat x hx (by omega)
/-! ### closed walks -/
/-- a closed walk over q rounds -/
def Cl (N : Net) (x q : Int) (s : Nat) (c : Int) : Prop := Wk N x (x - N.L * q) s c
section
variable {N : Net} {x y u q : Int} {s r : Nat} {c d : Int}
theorem Cl.shift (t : Int) (w : Cl N x q s c) : Cl N (x + N.L * t) q s c := (Wk.shift t w).cast rfl (by omega) rfl rfl
/-- a walk of more than L steps has a closed walk within its first L steps -/
theorem Wk.split (w : Wk N x y s c) (h : N.L < s) : ∃ (a q : Int) (i j : Nat) (c1 c2 c3 : Int), i < j ∧ j ≤ N.L ∧ 1 ≤ q ∧ c = c1 + c2 + c3 ∧ (i = 0 → a = x ∧ c1 = 0) ∧ Wk N x a i c1 ∧ Cl N a q (j - i) c2 ∧ Wk N a (y + N.L * q) (s - j) c3 := by
  obtain ⟨o, C, h1, h2, h3, h4, hw⟩ := w.nodes
  obtain ⟨i, j, hij, hj, q, hq⟩ := pigeon o N.l1
  have w1 := hw 0 i (Nat.zero_le _) (by omega)
  have w2 := hw i j (by omega) (by omega)
  have w3 := hw j s (by omega) (Nat.le_refl _)
  rw [h1, h3] at w1
  rw [h2, h4] at w3
  have b2 := w2.bd.1
  have l1 := N.l1
  have q1 : 1 ≤ q := by
    rcases Int.lt_or_le q 1 with z | z
    · have := Int.mul_le_mul_of_nonneg_left (show q ≤ 0 by omega) (show (0 : Int) ≤ N.L by omega)
      omega
    · exact z
  refine ⟨o i, q, i, j, C i, C j - C i, c - C j, hij, hj, q1, by omega, fun z => ?_, w1.cast rfl rfl (by omega) (by omega), w2.cast rfl (by omega) rfl rfl, (w3.shift q).cast (by omega) rfl rfl rfl⟩
  subst z
  exact ⟨h1, h3⟩
theorem Cl.pos (w : Cl N x q s c) (h : 1 ≤ s) : 1 ≤ q := by
  have b := (Wk.bd w).1
  have l1 := N.l1
  rcases Int.lt_or_le q 1 with z | z
  · have := Int.mul_le_mul_of_nonneg_left (show q ≤ 0 by omega) (show (0 : Int) ≤ N.L by omega)
    omega
  · exact z
theorem Cl.few (w : Cl N x q s c) (h : s ≤ N.L) (r0 : 0 ≤ N.R) : q ≤ N.R := by
  have b := (Wk.bd w).2.1
  have l1 := N.l1
  have e := Int.mul_le_mul_of_nonneg_left (show (s : Int) ≤ N.L by omega) r0
  have : (N.L : Int) * q ≤ N.L * N.R := by
    rw [Int.mul_comm (N.L : Int) N.R]
    omega
  exact Int.le_of_mul_le_mul_left this (by omega)
/-- the least price of a round -/
structure Mean (N : Net) (k P : Int) : Prop where
  k1 : 1 ≤ k
  kR : k ≤ N.R
  P0 : 0 ≤ P
  all : ∀ x q s c, 1 ≤ s → Cl N x q s c → P * q ≤ k * c
  one : ∃ x s, s ≤ N.L ∧ Cl N x k s P
theorem Net.r1 (N : Net) : 1 ≤ N.R := by
  obtain ⟨z, hz⟩ := List.exists_mem_of_ne_nil _ (N.ne 0)
  have := N.len 0 z hz
  omega
theorem Net.mean (N : Net) {K : Int} (K1 : 1 ≤ K) (hK : ∀ q, 1 ≤ q → q ≤ N.R → q ∣ K) : ∃ k P, Mean N k P := by
  have r1 := N.r1
  -- there is a closed walk
  have some_ : ∃ x q s c, 1 ≤ s ∧ s ≤ N.L ∧ Cl N x q s c := by
    have long : ∀ (n : Nat) (x : Int), ∃ y c, Wk N x y n c := fun n => by
      induction n with
      | zero => exact fun x => ⟨x, 0, .nil x⟩
      | succ n ih =>
        intro x
        obtain ⟨z, hz⟩ := List.exists_mem_of_ne_nil _ (N.ne x)
        obtain ⟨y, c, w⟩ := ih (x - z.1)
        exact ⟨y, _, .cons z hz w⟩
    obtain ⟨y, c, w⟩ := long (N.L + 1) 0
    obtain ⟨a, q, i, j, c1, c2, c3, hij, hj, q1, _, _, _, w2, _⟩ := w.split (Nat.lt_succ_self _)
    exact ⟨a, q, j - i, c2, by omega, by omega, w2⟩
  obtain ⟨m, ⟨x, k, s, P, s1, sL, hw, rfl⟩, hm⟩ := least_int (p := fun t => ∃ x q s c, 1 ≤ s ∧ s ≤ N.L ∧ Cl N x q s c ∧ t = c * (K / q)) 0 (by
      obtain ⟨x, q, s, c, h1, h2, h3⟩ := some_
      exact ⟨_, x, q, s, c, h1, h2, h3, rfl⟩) (by
      rintro _ ⟨x, q, s, c, h1, h2, h3, rfl⟩
      exact Int.mul_nonneg (Wk.bd h3).2.2 (Int.ediv_nonneg (by omega) (by have := h3.pos h1; omega)))
  have k1 := hw.pos s1
  have kR := hw.few sL (by omega)
  have small : ∀ x q s c, 1 ≤ s → s ≤ N.L → Cl N x q s c → P * q ≤ k * c := fun x q s c h1 h2 h3 => by
    have q1 := h3.pos h1
    have qR := h3.few h2 (by omega)
    have le := hm _ ⟨x, q, s, c, h1, h2, h3, rfl⟩
    have e1 := Int.ediv_mul_cancel (hK k k1 kR)
    have e2 := Int.ediv_mul_cancel (hK q q1 qR)
    have := Int.mul_le_mul_of_nonneg_right le (Int.mul_nonneg (show 0 ≤ k by omega) (show 0 ≤ q by omega))
    have a1 : P * (K / k) * (k * q) = P * q * K := by
      rw [show P * (K / k) * (k * q) = P * q * (K / k * k) by ac_rfl, e1]
    have a2 : c * (K / q) * (k * q) = k * c * K := by
      rw [show c * (K / q) * (k * q) = k * c * (K / q * q) by ac_rfl, e2]
    rw [a1, a2] at this
    exact Int.le_of_mul_le_mul_right this (by omega)
  refine ⟨k, P, k1, kR, (Wk.bd hw).2.2, fun x q s => ?_, x, s, sL, hw⟩
  induction s using Nat.strongRecOn generalizing x q with
  | _ s ih =>
    intro c h1 h3
    by_cases h2 : s ≤ N.L
    · exact small x q s c h1 h2 h3
    · obtain ⟨a, q2, i, j, c1, c2, c3, hij, hj, q1, rfl, _, w1, w2, w3⟩ := Wk.split h3 (by omega)
      have rest : Cl N x (q - q2) (i + (s - j)) (c1 + c3) := (w1.app w3).cast rfl (by rw [Int.mul_sub]; omega) rfl rfl
      have i1 := ih (i + (s - j)) (by omega) x (q - q2) (c1 + c3) (by omega) rest
      have i2 := small a q2 (j - i) c2 (by omega) (by omega) w2
      rw [Int.mul_sub] at i1
      have e : k * (c1 + c2 + c3) = k * (c1 + c3) + k * c2 := by
        rw [← Int.mul_add]
        congr 1
        omega
      rw [e]
      omega
end
end Sea

set_option Elab.async false
set_option linter.all false
set_option maxRecDepth 100000
set_option maxHeartbeats 4000000
/-! how soon least costs repeat: heights, closed walks without loss -/
namespace Sea
/-- heights: what a step gains is never more than what it costs -/
structure Hgt (N : Net) (k P : Int) (g : Int → Int) : Prop where
  per : ∀ x, g (x + N.L) = g x + P
  up : ∀ x, g x ≤ P * (x / N.L)
  lo : ∀ x, P * (x / N.L - N.R) ≤ g x
  st : ∀ x z, z ∈ N.Ed x → g x ≤ k * z.2 + g (x - z.1)
section
variable {N : Net} {k P : Int}
theorem div_add (x : Int) : (x + N.L) / (N.L : Int) = x / N.L + 1 := by
  have l1 := N.l1
  have := Int.add_mul_ediv_right x 1 (show (N.L : Int) ≠ 0 by omega)
  rw [Int.one_mul] at this
  exact this
theorem div_addq (x q : Int) : (x + N.L * q) / (N.L : Int) = x / N.L + q := by
  have l1 := N.l1
  exact Int.add_mul_ediv_left x q (show (N.L : Int) ≠ 0 by omega)
/-- what a walk of at most L steps from x ends with -/
def End (N : Net) (k P x t : Int) : Prop := ∃ y s c, s ≤ N.L ∧ Wk N x y s c ∧ t = k * c + P * (y / N.L)
theorem end_lo (M : Mean N k P) {x t : Int} (h : End N k P x t) : P * (x / N.L - N.R) ≤ t := by
  obtain ⟨y, s, c, hs, w, rfl⟩ := h
  have r1 := N.r1
  have l1 := N.l1
  have b := w.bd
  have e := Int.mul_le_mul_of_nonneg_left (show (s : Int) ≤ N.L by omega) (show 0 ≤ N.R by omega)
  have : x / N.L - N.R ≤ y / N.L := by
    have h1 : x ≤ y + N.L * N.R := by
      rw [Int.mul_comm (N.L : Int)]
      omega
    have h2 := Int.ediv_le_ediv (show (0 : Int) < N.L by omega) h1
    rw [div_addq] at h2
    omega
  have h3 := Int.mul_le_mul_of_nonneg_left this M.P0
  have h4 := Int.mul_nonneg (show 0 ≤ k by have := M.k1; omega) b.2.2
  omega
theorem hgt_of (M : Mean N k P) : ∃ g, Hgt N k P g := by
  have ex : ∀ x, ∃ t, End N k P x t ∧ ∀ u, End N k P x u → t ≤ u := fun x => least_int (P * (x / N.L - N.R)) ⟨_, x, 0, 0, Nat.zero_le _, .nil x, rfl⟩ fun u hu => end_lo M hu
  obtain ⟨g, h1, h2⟩ : ∃ g : Int → Int, (∀ x, End N k P x (g x)) ∧ ∀ x u, End N k P x u → g x ≤ u := ⟨fun x => Classical.choose (ex x), fun x => (Classical.choose_spec (ex x)).1, fun x => (Classical.choose_spec (ex x)).2⟩
  refine ⟨g, ?_⟩
  have sh : ∀ x t q, End N k P x t → End N k P (x + N.L * q) (t + P * q) := fun x t q ⟨y, s, c, hs, w, e⟩ => ⟨y + N.L * q, s, c, hs, w.shift q, by rw [div_addq, Int.mul_add, e]; omega⟩
  refine ⟨fun x => ?_, fun x => ?_, fun x => end_lo M (h1 x), fun x z hz => ?_⟩
  · have a := h2 (x + N.L) (g x + P) (by
      have := sh x (g x) 1 (h1 x)
      rw [Int.mul_one, Int.mul_one] at this
      exact this)
    have b := h2 x (g (x + N.L) - P) (by
      have := sh (x + N.L) (g (x + N.L)) (-1) (h1 _)
      rw [Int.mul_neg, Int.mul_neg, Int.mul_one, Int.mul_one, Int.add_neg_cancel_right] at this
      exact this)
    omega
  · have := h2 x (k * 0 + P * (x / N.L)) ⟨x, 0, 0, Nat.zero_le _, .nil x, rfl⟩
    rw [Int.mul_zero] at this
    omega
  · obtain ⟨y, s, c, hs, w, e⟩ := h1 (x - z.1)
    have w1 : Wk N x y (s + 1) (z.2 + c) := .cons z hz w
    by_cases hL : s + 1 ≤ N.L
    · have := h2 x _ ⟨y, s + 1, z.2 + c, hL, w1, rfl⟩
      rw [Int.mul_add] at this
      omega
    · obtain ⟨a, q, i, j, c1, c2, c3, hij, hj, q1, ec, _, v1, v2, v3⟩ := w1.split (by omega)
      have := h2 x _ ⟨y + N.L * q, i + (s + 1 - j), c1 + c3, by omega, v1.app v3, rfl⟩
      have m := M.all a q (j - i) c2 (by omega) v2
      rw [div_addq, Int.mul_add P] at this
      have e2 : k * (z.2 + c) = k * (c1 + c3) + k * c2 := by
        rw [← Int.mul_add]
        congr 1
        omega
      rw [Int.mul_add] at e2
      omega
theorem Hgt.pers {g : Int → Int} (G : Hgt N k P g) (x : Int) : ∀ t : Nat, g (x + N.L * (t : Int)) = g x + P * t
  | 0 => by
    show g (x + N.L * (0 : Int)) = g x + P * (0 : Int)
    rw [Int.mul_zero, Int.mul_zero, Int.add_zero, Int.add_zero]
  | t + 1 => by
    have ih := G.pers x t
    rw [show ((t + 1 : Nat) : Int) = (t : Int) + 1 by omega, Int.mul_add, Int.mul_add, Int.mul_one, Int.mul_one, ← Int.add_assoc, G.per, ih]
    omega
theorem Hgt.peri {g : Int → Int} (G : Hgt N k P g) (x t : Int) : g (x + N.L * t) = g x + P * t := by
  rcases Int.le_total 0 t with h | h
  · obtain ⟨n, rfl⟩ := Int.eq_ofNat_of_zero_le h
    exact G.pers x n
  · obtain ⟨n, hn⟩ := Int.eq_ofNat_of_zero_le (show 0 ≤ -t by omega)
    have := G.pers (x + N.L * t) n
    rw [← hn, Int.mul_neg, Int.mul_neg, Int.add_neg_cancel_right] at this
    omega
/-! ### closed walks without loss -/
/-- a place with a closed walk at the least price -/
def Crit (N : Net) (k P x : Int) : Prop := ∃ q s c, 1 ≤ s ∧ Cl N x q s c ∧ k * c = P * q
theorem Crit.small (M : Mean N k P) {x : Int} (h : Crit N k P x) : ∃ q s c, 1 ≤ s ∧ s ≤ N.L ∧ Cl N x q s c ∧ k * c = P * q := by
  obtain ⟨q, s, c, h1, w, e⟩ := h
  induction s using Nat.strongRecOn generalizing q c with
  | _ s ih =>
    by_cases hL : s ≤ N.L
    · exact ⟨q, s, c, h1, hL, w, e⟩
    · obtain ⟨a, q2, i, j, c1, c2, c3, hij, hj, q1, rfl, h0, w1, w2, w3⟩ := Wk.split w (by omega)
      have rest : Cl N x (q - q2) (i + (s - j)) (c1 + c3) := (w1.app w3).cast rfl (by rw [Int.mul_sub]; omega) rfl rfl
      have i1 := M.all x (q - q2) (i + (s - j)) (c1 + c3) (by omega) rest
      have i2 := M.all a q2 (j - i) c2 (by omega) w2
      have e2 : k * (c1 + c2 + c3) = k * (c1 + c3) + k * c2 := by
        rw [← Int.mul_add]
        congr 1
        omega
      rw [e2] at e
      rw [Int.mul_sub] at i1
      by_cases hi : i = 0
      · obtain ⟨rfl, _⟩ := h0 hi
        exact ⟨q2, j - i, c2, by omega, by omega, w2, by omega⟩
      · exact ih (i + (s - j)) (by omega) (q - q2) (c1 + c3) (by omega) rest (by rw [Int.mul_sub]; omega)
/-- .. over m times as many rounds -/
theorem Cl.times {x q : Int} {s : Nat} {c : Int} (w : Cl N x q s c) : ∀ m : Nat, ∃ s', Cl N x (q * m) s' (c * m)
  | 0 => ⟨0, (Wk.nil x).cast rfl (by show x = x - N.L * (q * (0 : Int)); rw [Int.mul_zero, Int.mul_zero, Int.sub_zero]) rfl (by show (0 : Int) = c * (0 : Int); rw [Int.mul_zero])⟩
  | m + 1 => by
    obtain ⟨s', v⟩ := w.times m
    have v2 := Cl.shift (-(q : Int)) v
    refine ⟨s + s', (Wk.app w (v2.cast (by rw [Int.mul_neg]; omega) rfl rfl rfl)).cast rfl ?_ rfl ?_⟩
    · rw [show ((m + 1 : Nat) : Int) = (m : Int) + 1 by omega, Int.mul_add q, Int.mul_one, Int.mul_add, Int.mul_neg]
      omega
    · rw [show ((m + 1 : Nat) : Int) = (m : Int) + 1 by omega, Int.mul_add c, Int.mul_one]
      omega
/-- .. over K rounds -/
theorem Crit.at (M : Mean N k P) {K : Int} (K1 : 1 ≤ K) (hK : ∀ q, 1 ≤ q → q ≤ N.R → q ∣ K) {x : Int} (h : Crit N k P x) : ∃ s c, Cl N x K s c ∧ k * c = P * K := by
  obtain ⟨q, s, c, h1, hL, w, e⟩ := h.small M
  have r1 := N.r1
  have q1 := w.pos h1
  obtain ⟨m, hm⟩ := hK q q1 (w.few hL (by omega))
  have m0 : 0 ≤ m := by
    rcases Int.le_total 0 m with z | z
    · exact z
    · have := Int.mul_le_mul_of_nonneg_left z (show 0 ≤ q by omega)
      omega
  obtain ⟨n, rfl⟩ := Int.eq_ofNat_of_zero_le m0
  obtain ⟨s', v⟩ := w.times n
  rw [← show K = q * (n : Int) from hm] at v
  refine ⟨s', c * n, v, ?_⟩
  rw [← Int.mul_assoc, e, hm, Int.mul_assoc]
end
end Sea

set_option Elab.async false
set_option linter.all false
set_option maxRecDepth 100000
set_option maxHeartbeats 4000000
/-! how soon least costs repeat: the path of best steps -/
namespace Sea
/-- f is a row of least costs from b on; behind, something that does not fall -/
structure Least (N : Net) (f : Int → Int) (b : Int) : Prop where
  up : ∀ x, b < x → ∀ z, z ∈ N.Ed x → f x ≤ f (x - z.1) + z.2
  at_ : ∀ x, b < x → ∃ z, z ∈ N.Ed x ∧ f x = f (x - z.1) + z.2
  mono : ∀ x, b - N.R < x → f x ≤ f (x + 1)
section
variable {N : Net} {k P : Int} {f g : Int → Int} {b : Int}
theorem Least.le (l : Least N f b) {x y : Int} (hx : b - N.R < x) (h : x ≤ y) : f x ≤ f y := by
  obtain ⟨n, hn⟩ := Int.eq_ofNat_of_zero_le (show 0 ≤ y - x by omega)
  have go : ∀ n : Nat, f x ≤ f (x + n) := fun n => by
    induction n with
    | zero => rw [show x + ((0 : Nat) : Int) = x by omega]; exact Int.le_refl _
    | succ n ih =>
      have := l.mono (x + n) (by omega)
      rw [show x + ((n + 1 : Nat) : Int) = x + n + 1 by omega]
      omega
  have := go n
  rw [show x + (n : Int) = y by omega] at this
  exact this
/-- along any walk that stays behind b -/
theorem Least.walk (l : Least N f b) {x y : Int} {s : Nat} {c : Int} (w : Wk N x y s c) (hy : b ≤ y) : f x ≤ f y + c := by
  induction w with
  | nil x => omega
  | @cons x y s c z h w ih =>
    have bd := w.bd.1
    have z1 := (N.len _ _ h).1
    have := l.up x (by omega) z h
    have := ih hy
    omega
/-- the path of best steps from n on -/
structure Path (N : Net) (f : Int → Int) (b n : Int) (o : Nat → Int) : Prop where
  o0 : o 0 = n
  st : ∀ i, b < o i → ∃ z, z ∈ N.Ed (o i) ∧ o (i + 1) = o i - z.1 ∧ f (o i) = f (o (i + 1)) + z.2
theorem Least.path (l : Least N f b) (n : Int) : ∃ o, Path N f b n o := by
  obtain ⟨sc, hs⟩ : ∃ sc : Int → Int × Int, ∀ x, b < x → sc x ∈ N.Ed x ∧ f x = f (x - (sc x).1) + (sc x).2 := ⟨fun x => if h : b < x then Classical.choose (l.at_ x h) else (0, 0), fun x h => by
    show (if h : b < x then Classical.choose (l.at_ x h) else (0, 0)) ∈ N.Ed x ∧ f x = f (x - (if h : b < x then Classical.choose (l.at_ x h) else (0, 0)).1) + (if h : b < x then Classical.choose (l.at_ x h) else (0, 0)).2
    rw [dif_pos h]
    exact Classical.choose_spec (l.at_ x h)⟩
  refine ⟨fun i => Nat.rec n (fun _ x => if b < x then x - (sc x).1 else x) i, rfl, fun i h => ?_⟩
  refine ⟨sc _, (hs _ h).1, ?_, ?_⟩
  · show (if b < _ then _ else _) = _
    rw [if_pos h]
  · show f _ = f (if b < _ then _ else _) + _
    rw [if_pos h]
    exact (hs _ h).2
variable {n : Int} {o : Nat → Int}
theorem Path.far (p : Path N f b n o) : ∀ S : Nat, n - b > N.R * S → ∀ i, i ≤ S → b < o i ∧ n - N.R * i ≤ o i
  | S, h, 0, _ => by
    rw [p.o0]
    have := Int.mul_nonneg (show 0 ≤ N.R by have := N.r1; omega) (show (0 : Int) ≤ S by omega)
    refine ⟨by omega, ?_⟩
    show n - N.R * (0 : Int) ≤ n
    omega
  | S, h, i + 1, hi => by
    obtain ⟨h1, h2⟩ := p.far S h i (by omega)
    obtain ⟨z, hz, e, _⟩ := p.st i h1
    have l := (N.len _ _ hz).2
    have e2 : N.R * ((i + 1 : Nat) : Int) = N.R * (i : Int) + N.R := by rw [show ((i + 1 : Nat) : Int) = (i : Int) + 1 by omega, Int.mul_add, Int.mul_one]
    have le := Int.mul_le_mul_of_nonneg_left (show ((i + 1 : Nat) : Int) ≤ S by omega) (show 0 ≤ N.R by have := N.r1; omega)
    omega
/-- its parts are walks -/
theorem Path.walk (p : Path N f b n o) {S : Nat} (far : ∀ i, i ≤ S → b < o i) (i : Nat) : ∀ m, i + m ≤ S → Wk N (o i) (o (i + m)) m (f (o i) - f (o (i + m)))
  | 0, _ => (Wk.nil _).cast rfl rfl rfl (by show (0 : Int) = f (o i) - f (o i); omega)
  | m + 1, h => by
    have ih := p.walk far i m (by omega)
    obtain ⟨z, hz, e, ef⟩ := p.st (i + m) (far _ (by omega))
    have w1 : Wk N (o (i + m)) (o (i + m + 1)) 1 z.2 := (Wk.cons z hz ((Wk.nil _).cast rfl e.symm rfl rfl)).cast rfl rfl rfl (by omega)
    exact (ih.app w1).cast rfl rfl rfl (by show _ = f (o i) - f (o (i + m + 1)); omega)
/-- what is lost -/
def phi (k : Int) (f g : Int → Int) (x : Int) : Int := k * f x - g x
theorem Path.fall (p : Path N f b n o) (G : Hgt N k P g) {i : Nat} (h : b < o i) : phi k f g (o (i + 1)) ≤ phi k f g (o i) := by
  obtain ⟨z, hz, e, ef⟩ := p.st i h
  have := G.st _ z hz
  unfold phi
  rw [ef, Int.mul_add, e] at *
  omega
theorem Path.falls (p : Path N f b n o) (G : Hgt N k P g) {S : Nat} (far : ∀ i, i ≤ S → b < o i) (i : Nat) : ∀ m, i + m ≤ S → phi k f g (o (i + m)) ≤ phi k f g (o i)
  | 0, _ => Int.le_refl _
  | m + 1, h => Int.le_trans (p.fall G (far (i + m) (by omega))) (p.falls G far i m (by omega))
/-- the path moved by whole rounds loses no less at its end -/
theorem Path.move (p : Path N f b n o) (l : Least N f b) (G : Hgt N k P g) {S : Nat} (far : ∀ i, i ≤ S → b < o i) (k0 : 0 ≤ k) (t : Int) (i : Nat) : ∀ m, i + m ≤ S → (∀ j, i ≤ j → j < i + m → b < o j + N.L * t) → phi k f g (o i + N.L * t) - phi k f g (o i) ≤ phi k f g (o (i + m) + N.L * t) - phi k f g (o (i + m))
  | 0, _, _ => Int.le_refl _
  | m + 1, h, ha => by
    have ih := p.move l G far k0 t i m (by omega) fun j h1 h2 => ha j h1 (by omega)
    refine Int.le_trans ih ?_
    obtain ⟨z, hz, e, ef⟩ := p.st (i + m) (far _ (by omega))
    have u := l.up (o (i + m) + N.L * t) (ha (i + m) (by omega) (by omega)) z (by rw [N.perI]; exact hz)
    show phi k f g (o (i + m) + N.L * t) - phi k f g (o (i + m)) ≤ phi k f g (o (i + m + 1) + N.L * t) - phi k f g (o (i + m + 1))
    have e1 : o (i + m) + N.L * t - z.1 = o (i + m + 1) + N.L * t := by omega
    rw [e1] at u
    have uk := Int.mul_le_mul_of_nonneg_left u k0
    unfold phi
    rw [G.peri, G.peri, ef, Int.mul_add]
    rw [Int.mul_add] at uk
    omega
/-- L steps off all closed walks without loss: something is lost -/
theorem Path.loss (p : Path N f b n o) (M : Mean N k P) (G : Hgt N k P g) {S : Nat} (far : ∀ i, i ≤ S → b < o i) {i : Nat} (h : i + N.L ≤ S) (no : ∀ j, i ≤ j → j ≤ i + N.L → ¬ Crit N k P (o j)) : phi k f g (o (i + N.L)) + 1 ≤ phi k f g (o i) := by
  obtain ⟨a, c, hac, hc, q, hq⟩ := pigeon (fun j => o (i + j)) N.l1
  have w := p.walk far (i + a) (c - a) (by omega)
  rw [show i + a + (c - a) = i + c by omega] at w
  have cl : Cl N (o (i + a)) q (c - a) (f (o (i + a)) - f (o (i + c))) := w.cast rfl (by have hq : o (i + a) - o (i + c) = N.L * q := hq; omega) rfl rfl
  have m := M.all _ q (c - a) _ (by omega) cl
  have ne : k * (f (o (i + a)) - f (o (i + c))) ≠ P * q := fun e => no (i + a) (by omega) (by omega) ⟨q, c - a, _, by omega, cl, e⟩
  have f1 := p.falls G far i a (by omega)
  have f2 := p.falls G far (i + c) (N.L - c) (by omega)
  rw [show i + c + (N.L - c) = i + N.L by omega] at f2
  have gg : g (o (i + a)) = g (o (i + c)) + P * q := by
    rw [← G.peri]
    congr 1
    have hq : o (i + a) - o (i + c) = N.L * q := hq
    omega
  unfold phi at *
  rw [Int.mul_sub] at m ne
  omega
/-- so the path meets one -/
theorem Path.meets (p : Path N f b n o) (M : Mean N k P) (G : Hgt N k P g) {S B : Nat} (far : ∀ i, i ≤ S → b < o i) (h : N.L * (B + 1) ≤ S) (hB : phi k f g n - phi k f g (o (N.L * (B + 1))) ≤ B) : ∃ c, c ≤ N.L * (B + 1) ∧ Crit N k P (o c) := by
  refine Classical.byContradiction fun no => ?_
  have no : ∀ c, c ≤ N.L * (B + 1) → ¬ Crit N k P (o c) := fun c hc z => no ⟨c, hc, z⟩
  have go : ∀ m, m ≤ B + 1 → phi k f g (o (N.L * m)) + m ≤ phi k f g n := fun m => by
    induction m with
    | zero =>
      intro _
      rw [Nat.mul_zero, p.o0]
      omega
    | succ m ih =>
      intro hm
      have := ih (by omega)
      have le : N.L * (m + 1) ≤ N.L * (B + 1) := Nat.mul_le_mul_left _ hm
      rw [Nat.mul_succ] at le ⊢
      have := p.loss M G far (i := N.L * m) (by omega) fun j h1 h2 => no j (by omega)
      omega
  have := go (B + 1) (Nat.le_refl _)
  omega
end
end Sea

set_option Elab.async false
set_option linter.all false
set_option maxRecDepth 100000
set_option maxHeartbeats 4000000
/-! how soon least costs repeat -/
namespace Sea
section
variable {N : Net} {k P : Int} {f g : Int → Int} {b n : Int} {o : Nat → Int}
theorem Crit.shift {x : Int} (t : Int) (h : Crit N k P x) : Crit N k P (x + N.L * t) := by
  obtain ⟨q, s, c, h1, w, e⟩ := h
  exact ⟨q, s, c, h1, w.shift t, e⟩
theorem Crit.up (M : Mean N k P) (G : Hgt N k P g) (l : Least N f b) {K : Int} (K1 : 1 ≤ K) (hK : ∀ q, 1 ≤ q → q ≤ N.R → q ∣ K) {x : Int} (h : Crit N k P x) (hx : b ≤ x) : phi k f g (x + N.L * K) ≤ phi k f g x := by
  obtain ⟨s, c, w, e⟩ := (h.shift K).at M K1 hK
  have w : Wk N (x + N.L * K) x s c := w.cast rfl (by omega) rfl rfl
  have u := Int.mul_le_mul_of_nonneg_left (l.walk w hx) (show 0 ≤ k by have := M.k1; omega)
  rw [Int.mul_add] at u
  unfold phi
  rw [G.peri]
  omega
theorem Crit.ups (M : Mean N k P) (G : Hgt N k P g) (l : Least N f b) {K : Int} (K1 : 1 ≤ K) (hK : ∀ q, 1 ≤ q → q ≤ N.R → q ∣ K) {x : Int} (h : Crit N k P x) (hx : b ≤ x) : ∀ m : Nat, phi k f g (x + N.L * (K * m)) ≤ phi k f g x
  | 0 => by
    rw [show x + N.L * (K * ((0 : Nat) : Int)) = x by rw [show ((0 : Nat) : Int) = 0 from rfl, Int.mul_zero, Int.mul_zero, Int.add_zero]]
    exact Int.le_refl _
  | m + 1 => by
    have ih := h.ups M G l K1 hK hx m
    have l0 : 0 ≤ (N.L : Int) * (K * (m : Int)) := Int.mul_nonneg (by omega) (Int.mul_nonneg (by omega) (by omega))
    have := (h.shift (K * (m : Int))).up M G l K1 hK (by omega)
    rw [show x + N.L * (K * ((m + 1 : Nat) : Int)) = x + N.L * (K * (m : Int)) + N.L * K by
      rw [show ((m + 1 : Nat) : Int) = (m : Int) + 1 by omega, Int.mul_add, Int.mul_one, Int.mul_add]
      omega]
    omega
/-- far enough behind b: no more is lost D days later, nor D days earlier -/
theorem Path.both (p : Path N f b n o) (M : Mean N k P) (G : Hgt N k P g) (l : Least N f b) {K B : Nat} (K1 : 1 ≤ K) (hK : ∀ q : Int, 1 ≤ q → q ≤ N.R → q ∣ (K : Int)) (far : ∀ i, i ≤ N.L * (B + 1) + N.L * K → b < o i)
    (hB : phi k f g n - phi k f g (o (N.L * (B + 1))) ≤ B) : phi k f g (n + N.L * (K : Int)) ≤ phi k f g n ∧ phi k f g (n - N.L * (K : Int)) ≤ phi k f g n := by
  have l1 := N.l1
  have k0 : 0 ≤ k := by have := M.k1; omega
  have K1' : (1 : Int) ≤ K := by omega
  obtain ⟨c, hc, cr⟩ := p.meets M G (S := N.L * (B + 1) + N.L * K) (B := B) far (Nat.le_add_right _ _) hB
  have LK0 : 0 ≤ (N.L : Int) * (K : Int) := Int.mul_nonneg (by omega) (by omega)
  refine ⟨?_, ?_⟩
  · have mv := p.move l G far k0 (K : Int) 0 c (by omega) fun j _ hj => by have := far j (by omega); omega
    rw [Nat.zero_add, p.o0] at mv
    have := cr.up M G l K1' hK (by have := far c (by omega); omega)
    omega
  · obtain ⟨i, j, hij, hj, q, hq⟩ := pigeon (fun j => o (N.L * (B + 1) + j)) (m := N.L * K) (Nat.mul_pos l1 K1)
    have hq : o (N.L * (B + 1) + i) - o (N.L * (B + 1) + j) = ((N.L * K : Nat) : Int) * q := hq
    rw [Int.natCast_mul] at hq
    -- the path goes down
    have down : ∀ u v : Nat, u ≤ v → v ≤ N.L * (B + 1) + N.L * K → o v ≤ o u := fun u v h1 h2 => by
      have w := (p.walk far u (v - u) (by omega)).bd.1
      rw [show u + (v - u) = v by omega] at w
      omega
    have yj := far (N.L * (B + 1) + j) (by omega)
    have lt : o (N.L * (B + 1) + j) < o (N.L * (B + 1) + i) := by
      have w := (p.walk far (N.L * (B + 1) + i) (j - i) (by omega)).bd.1
      rw [show N.L * (B + 1) + i + (j - i) = N.L * (B + 1) + j by omega] at w
      omega
    have q1 : 1 ≤ q := by
      rcases Int.lt_or_le q 1 with z | z
      · have := Int.mul_le_mul_of_nonneg_left (show q ≤ 0 by omega) LK0
        omega
      · exact z
    have LKq : (N.L : Int) * (K : Int) ≤ (N.L : Int) * (K : Int) * q := by
      have := Int.mul_le_mul_of_nonneg_left q1 LK0
      omega
    have yi := down c (N.L * (B + 1) + i) (by omega) (by omega)
    -- from n to the closed walk, moved down once
    have mv := p.move l G far k0 (-(K : Int)) 0 c (by omega) fun u _ hu => by
      have := down u (N.L * (B + 1) + i) (by omega) (by omega)
      rw [Int.mul_neg]
      omega
    rw [Nat.zero_add, p.o0, Int.mul_neg] at mv
    -- there, q times down and q - 1 times up again
    obtain ⟨m, hm⟩ := Int.eq_ofNat_of_zero_le (show 0 ≤ q - 1 by omega)
    have qe : q = (m : Int) + 1 := by omega
    have up := (cr.shift (-((K : Int) * q))).ups M G l K1' hK (by
      rw [Int.mul_neg, ← Int.mul_assoc]
      omega) m
    rw [Int.mul_neg, ← Int.mul_assoc, show o c + -((N.L : Int) * (K : Int) * q) + N.L * ((K : Int) * (m : Int)) = o c + -((N.L : Int) * (K : Int)) by
      rw [← Int.mul_assoc, qe, Int.mul_add, Int.mul_one]
      omega] at up
    -- from there to the two alike
    have mv2 := p.move l G far k0 (-((K : Int) * q)) c (N.L * (B + 1) + i - c) (by omega) fun u h1 hu => by
      have := down u (N.L * (B + 1) + i) (by omega) (by omega)
      rw [Int.mul_neg, ← Int.mul_assoc]
      omega
    rw [show c + (N.L * (B + 1) + i - c) = N.L * (B + 1) + i by omega, Int.mul_neg, ← Int.mul_assoc, show o (N.L * (B + 1) + i) + -((N.L : Int) * (K : Int) * q) = o (N.L * (B + 1) + j) by omega] at mv2
    have fl := p.falls G far (N.L * (B + 1) + i) (j - i) (by omega)
    rw [show N.L * (B + 1) + i + (j - i) = N.L * (B + 1) + j by omega] at fl
    rw [show n - (N.L : Int) * (K : Int) = n + -((N.L : Int) * (K : Int)) by omega]
    omega
/-! ### the range of what is lost -/
theorem phi_low (M : Mean N k P) (G : Hgt N k P g) (l : Least N f b) : ∀ x, b - N.R < x → k * f (b - N.R + 1) - P * (b / N.L) ≤ phi k f g x := by
  have r1 := N.r1
  have l1 := N.l1
  have k0 : 0 ≤ k := by have := M.k1; omega
  have go : ∀ (m : Nat) (x : Int), x = b - N.R + 1 + m → k * f (b - N.R + 1) - P * (b / N.L) ≤ phi k f g x := fun m => by
    induction m using Nat.strongRecOn with
    | _ m ih =>
      intro x hx
      by_cases h : x ≤ b
      · have h1 := Int.mul_le_mul_of_nonneg_left (l.le (x := b - N.R + 1) (y := x) (by omega) (by omega)) k0
        have h2 := G.up x
        have h3 := Int.mul_le_mul_of_nonneg_left (Int.ediv_le_ediv (show (0 : Int) < N.L by omega) h) M.P0
        unfold phi
        omega
      · obtain ⟨z, hz, e⟩ := l.at_ x (by omega)
        have b2 := N.len _ _ hz
        have := ih (x - z.1 - (b - N.R + 1)).toNat (by omega) (x - z.1) (by omega)
        have st := G.st _ z hz
        unfold phi at *
        rw [e, Int.mul_add]
        omega
  exact fun x hx => go (x - (b - N.R + 1)).toNat x (by omega)
theorem cong_up (L : Nat) (l1 : 1 ≤ L) (x x0 : Int) : ∃ y t, x ≤ y ∧ y < x + L ∧ y = x0 + L * t := by
  refine ⟨x + (x0 - x) % (L : Int), -((x0 - x) / L), ?_, ?_, ?_⟩
  · have := Int.emod_nonneg (x0 - x) (show (L : Int) ≠ 0 by omega)
    omega
  · have := Int.emod_lt_of_pos (x0 - x) (show (0 : Int) < L by omega)
    omega
  · have := Int.emod_add_mul_ediv (x0 - x) L
    rw [Int.mul_neg]
    omega
theorem div_sub (L : Nat) (l1 : 1 ≤ L) (x y : Int) : (x - y) / (L : Int) ≤ x / L - y / L := by
  have h1 := Int.emod_add_mul_ediv x L
  have h2 := Int.emod_add_mul_ediv y L
  have h3 := Int.emod_lt_of_pos x (show (0 : Int) < L by omega)
  have h4 := Int.emod_nonneg y (show (L : Int) ≠ 0 by omega)
  have : (x - y) / (L : Int) < x / L - y / L + 1 := Int.ediv_lt_of_lt_mul (by omega) (by
    rw [Int.mul_comm, Int.mul_add, Int.mul_sub, Int.mul_one]
    omega)
  omega
theorem phi_high (M : Mean N k P) (G : Hgt N k P g) (l : Least N f b) {x : Int} (hx : b < x) : phi k f g x ≤ k * f (b + N.L * k) + P * (1 - b / N.L + N.R) := by
  have r1 := N.r1
  have l1 := N.l1
  have k1 := M.k1
  obtain ⟨x0, s, hs, cl⟩ := M.one
  obtain ⟨y, t, h1, h2, rfl⟩ := cong_up N.L l1 x x0
  have Lk : 0 < (N.L : Int) * k := Int.mul_pos (by omega) (by omega)
  obtain ⟨j, hj⟩ := Int.eq_ofNat_of_zero_le (Int.ediv_nonneg (show 0 ≤ x0 + N.L * t - b by omega) (Int.le_of_lt Lk))
  have hj : (x0 + N.L * t - b) / ((N.L : Int) * k) = (j : Int) := hj
  have e1 := Int.emod_add_mul_ediv (x0 + N.L * t - b) ((N.L : Int) * k)
  have e2 := Int.emod_nonneg (x0 + N.L * t - b) (show (N.L : Int) * k ≠ 0 by omega)
  have e3 := Int.emod_lt_of_pos (x0 + N.L * t - b) Lk
  rw [hj] at e1
  obtain ⟨s', w⟩ := (cl.shift t).times j
  have w : Wk N (x0 + N.L * t) (x0 + N.L * t - N.L * (k * j)) s' (P * j) := w
  have lk : (N.L : Int) * (k * (j : Int)) = N.L * k * j := by rw [Int.mul_assoc]
  have f1 := l.walk w (by rw [lk]; omega)
  have f2 := l.le (x := x) (y := x0 + N.L * t) (by omega) h1
  have f3 := l.le (x := x0 + N.L * t - N.L * (k * j)) (y := b + N.L * k) (by rw [lk]; omega) (by rw [lk]; omega)
  have f4 : f x ≤ f (b + N.L * k) + P * j := by omega
  have f5 := Int.mul_le_mul_of_nonneg_left f4 (show 0 ≤ k by omega)
  have kj : k * (j : Int) ≤ (x - b) / (N.L : Int) + 1 := by
    have : k * (j : Int) ≤ (x - b + N.L) / (N.L : Int) := Int.le_ediv_of_mul_le (by omega) (by
      rw [Int.mul_comm, lk]
      omega)
    rw [div_add] at this
    exact this
  have ds := div_sub N.L l1 x b
  have f6 := Int.mul_le_mul_of_nonneg_left (show k * (j : Int) ≤ x / (N.L : Int) - b / (N.L : Int) + 1 by omega) M.P0
  have lo := G.lo x
  have e4 : k * (P * (j : Int)) = P * (k * (j : Int)) := by ac_rfl
  rw [Int.mul_add, e4] at f5
  rw [Int.mul_sub] at lo
  rw [Int.mul_add, Int.mul_sub, Int.mul_one] at f6
  unfold phi
  rw [Int.mul_add, Int.mul_sub, Int.mul_one]
  omega
theorem Wk.dear {x y : Int} {s : Nat} {c W : Int} (hW : ∀ x z, z ∈ N.Ed x → z.2 ≤ W) (w : Wk N x y s c) : c ≤ W * s := by
  induction w with
  | nil x =>
    show (0 : Int) ≤ W * (0 : Int)
    omega
  | @cons x y s c z h w ih =>
    have := hW _ _ h
    rw [show ((s + 1 : Nat) : Int) = (s : Int) + 1 by omega, Int.mul_add, Int.mul_one]
    omega
/-- far enough behind b, costs grow by the same in the same time -/
theorem Least.settles (l : Least N f b) {W U : Int} {K B : Nat} (W0 : 0 ≤ W) (hW : ∀ x z, z ∈ N.Ed x → z.2 ≤ W) (K1 : 1 ≤ K) (hK : ∀ q : Int, 1 ≤ q → q ≤ N.R → q ∣ (K : Int)) (U0 : 0 ≤ U) (hU : f (b + N.L) - f (b - N.R + 1) ≤ U) (hB : N.R * (U + N.L * W) + N.L * W * (N.R + 1) ≤ B) :
    ∃ G : Int, ∀ n : Int, N.R * ((N.L * (B + 1) + N.L * K : Nat) : Int) < n - b → f (n + N.L * (K : Int)) = f n + G := by
  have r1 := N.r1
  have l1 := N.l1
  obtain ⟨k, P, M⟩ := N.mean (K := K) (by omega) hK
  obtain ⟨g, G⟩ := hgt_of M
  have k1 := M.k1
  -- the least price of a round
  have PW : P ≤ N.L * W := by
    obtain ⟨x0, s, hs, cl⟩ := M.one
    have := Wk.dear hW cl
    have h2 := Int.mul_le_mul_of_nonneg_left (show (s : Int) ≤ N.L by omega) W0
    rw [Int.mul_comm W (N.L : Int)] at h2
    omega
  have fk : f (b + N.L * k) ≤ f (b + N.L) + P := by
    obtain ⟨x0, s, hs, cl⟩ := M.one
    obtain ⟨y, t, h1, h2, rfl⟩ := cong_up N.L l1 b x0
    have w : Wk N (x0 + N.L * t + N.L * k) (x0 + N.L * t) s P := ((cl.shift t).shift k).cast rfl (by omega) rfl rfl
    have Lk0 : 0 ≤ (N.L : Int) * k := Int.mul_nonneg (by omega) (by omega)
    have f1 := l.walk w h1
    have f2 := l.le (x := b + N.L * k) (y := x0 + N.L * t + N.L * k) (by omega) (by omega)
    have f3 := l.le (x := x0 + N.L * t) (y := b + N.L) (by omega) (by omega)
    omega
  have range : ∀ x y, b < x → b < y → phi k f g x - phi k f g y ≤ B := fun x y hx hy => by
    have h1 := phi_high M G l hx
    have h2 := phi_low M G l y (by omega)
    have h3 := Int.mul_le_mul_of_nonneg_left (show f (b + N.L * k) - f (b - N.R + 1) ≤ U + P by omega) (show 0 ≤ k by omega)
    have h4 := Int.mul_le_mul_of_nonneg_right M.kR (show 0 ≤ U + P by have := M.P0; omega)
    have h5 := Int.mul_le_mul_of_nonneg_left (show U + P ≤ U + N.L * W by omega) (show 0 ≤ N.R by omega)
    have h6 := Int.mul_le_mul_of_nonneg_right PW (show 0 ≤ N.R + 1 by omega)
    rw [Int.mul_sub] at h3
    rw [Int.mul_add P, Int.mul_sub P, Int.mul_one] at h1
    rw [Int.mul_add P, Int.mul_one] at h6
    omega
  have both : ∀ n : Int, N.R * ((N.L * (B + 1) + N.L * K : Nat) : Int) < n - b → phi k f g (n + N.L * (K : Int)) ≤ phi k f g n ∧ phi k f g (n - N.L * (K : Int)) ≤ phi k f g n := fun n hn => by
    obtain ⟨o, p⟩ := l.path n
    have far : ∀ i, i ≤ N.L * (B + 1) + N.L * K → b < o i := fun i hi => (p.far _ hn i hi).1
    refine p.both M G l K1 hK far (range _ _ ?_ (far _ (Nat.le_add_right _ _)))
    rw [← p.o0]
    exact far 0 (Nat.zero_le _)
  refine ⟨P * K / k, fun n hn => ?_⟩
  have a := (both n hn).1
  have LK0 : 0 ≤ (N.L : Int) * (K : Int) := Int.mul_nonneg (by omega) (by omega)
  have c := (both (n + N.L * (K : Int)) (by omega)).2
  rw [show n + N.L * (K : Int) - N.L * (K : Int) = n by omega] at c
  have e : phi k f g (n + N.L * (K : Int)) = phi k f g n := Int.le_antisymm a c
  unfold phi at e
  rw [G.peri] at e
  have e2 : P * (K : Int) = k * (f (n + N.L * (K : Int)) - f n) := by
    rw [Int.mul_sub]
    omega
  rw [e2, Int.mul_ediv_cancel_left _ (show k ≠ 0 by omega)]
  omega
end
end Sea

set_option Elab.async false
set_option linter.all false
set_option maxRecDepth 100000
set_option maxHeartbeats 4000000
/-! least costs day by day, in plain words: travel with exceptions -/
namespace Sea
open PySem PySem.Spec PyProof.Rows L2 LamX NdefX ClX Evl StX
/-- passes, a round, its travel days, exceptions -/
structure Pc where
  L : List (Int × Int)
  ln : Int
  ds : List Int
  os : List Int
def PassOk (z : Int × Int) : Prop := 1 ≤ z.1 ∧ z.1 ≤ 28 ∧ 1 ≤ z.2 ∧ z.2 ≤ 1000000
/-- whether day k is a travel day -/
def gos (g : Pc) (k : Nat) : Bool := trv g.ln g.ds g.os (k : Int)
theorem mod_succ {i j : Nat} {n : Int} (h0 : 0 < n) (h : (i : Int).fmod n = (j : Int).fmod n) : ((i + 1 : Nat) : Int).fmod n = ((j + 1 : Nat) : Int).fmod n := by
  have e : ∀ k : Nat, ((k + 1 : Nat) : Int).fmod n = ((k : Int).fmod n + 1).fmod n := fun k => by
    rw [show ((k + 1 : Nat) : Int) = (k : Int) + 1 by omega, Int.fmod_eq_emod_of_nonneg _ (Int.le_of_lt h0), Int.fmod_eq_emod_of_nonneg _ (Int.le_of_lt h0), Int.fmod_eq_emod_of_nonneg _ (Int.le_of_lt h0), Int.emod_add_emod]
  rw [e i, e j, h]
/-- the least of some numbers -/
def least : List Int → Int
  | [] => 0
  | x :: r => r.foldl min x
theorem foldl_min (r : List Int) : ∀ x : Int, (r.foldl min x = x ∨ r.foldl min x ∈ r) ∧ r.foldl min x ≤ x ∧ ∀ y ∈ r, r.foldl min x ≤ y := by
  induction r with
  | nil => exact fun x => ⟨.inl rfl, Int.le_refl x, fun y hy => nomatch hy⟩
  | cons a r ih =>
    intro x
    obtain ⟨h1, h2, h3⟩ := ih (min x a)
    refine ⟨?_, Int.le_trans h2 (Int.min_le_left x a), fun y hy => ?_⟩
    · rcases h1 with e | e
      · by_cases c : x ≤ a
        · exact .inl (e.trans (Int.min_eq_left c))
        · exact .inr (by rw [show List.foldl min x (a :: r) = a from e.trans (Int.min_eq_right (by omega))]; exact List.mem_cons_self)
      · exact .inr (List.mem_cons_of_mem _ e)
    · rcases List.mem_cons.mp hy with rfl | hy
      · exact Int.le_trans h2 (Int.min_le_right x y)
      · exact h3 y hy
theorem least_in {l : List Int} (n : l ≠ []) : least l ∈ l ∧ ∀ x ∈ l, least l ≤ x := by
  cases l with
  | nil => exact absurd rfl n
  | cons a r =>
    obtain ⟨h1, h2, h3⟩ := foldl_min r a
    refine ⟨?_, fun x hx => ?_⟩
    · rcases h1 with e | e
      · exact List.mem_cons.mpr (.inl e)
      · exact List.mem_cons_of_mem _ e
    · rcases List.mem_cons.mp hx with rfl | hx
      · exact h2
      · exact h3 x hx
theorem least_one {l : List Int} {m : Int} (h : m ∈ l) (h2 : ∀ x ∈ l, m ≤ x) : m = least l := by
  obtain ⟨a, b⟩ := least_in (List.ne_nil_of_mem h)
  have := h2 _ a
  have := b _ h
  omega
theorem least_add (l : List Int) (c : Int) (n : l ≠ []) : least (l.map (· + c)) = least l + c := by
  refine (least_one (l := l.map (· + c)) (m := least l + c) ?_ ?_).symm
  · exact List.mem_map.mpr ⟨_, (least_in n).1, rfl⟩
  · intro x hx
    obtain ⟨y, hy, rfl⟩ := List.mem_map.mp hx
    have := (least_in n).2 y hy
    show least l + c ≤ y + c
    omega
/-! ### the last costs -/
/-- the cost of one day more -/
def nxt (g : Pc) (k : Nat) (r : List Int) : Int := if gos g k = true then least (g.L.map fun z => (atI r (0 - z.1)).getD 0 + z.2) else (atI r (-1)).getD 0
def recs (g : Pc) (R : Nat) : Nat → List Int
  | 0 => List.replicate R 0
  | k + 1 => (recs g R k).drop 1 ++ [nxt g k (recs g R k)]
def cst (g : Pc) (R k : Nat) : Int := (atI (recs g R k) (-1)).getD 0
/-- the differences that are noted -/
def stC (g : Pc) (R k : Nat) : List Int := (recs g R k).map fun v => cst g R k - v
/-- the reach: the longest pass -/
structure Reach (g : Pc) (R : Nat) : Prop where
  l1 : 1 ≤ g.ln
  l2 : g.ln ≤ 14
  ok : ∀ z ∈ g.L, PassOk z
  ne : g.L ≠ []
  le : ∀ z ∈ g.L, z.1 ≤ R
  r1 : 1 ≤ R
  r2 : R ≤ 28
section
variable {g : Pc} {R : Nat}
theorem recs_len (h : 1 ≤ R) : ∀ k, (recs g R k).length = R
  | 0 => List.length_replicate ..
  | k + 1 => by
    show ((recs g R k).drop 1 ++ [_]).length = R
    rw [List.length_append, List.length_drop, recs_len h k, List.length_singleton]
    omega
theorem atI_back {α : Type} {xs : List α} {j : Nat} (h1 : 1 ≤ j) (h2 : j ≤ xs.length) : atI xs (-(j : Int)) = xs[xs.length - j]? := by
  unfold atI ixN
  rw [if_neg (by omega), if_pos (by omega)]
  show xs[(-(j : Int) + (xs.length : Int)).toNat]? = _
  congr 1
  omega
/-- the j-th cost from behind -/
theorem recs_back (h : 1 ≤ R) : ∀ k j : Nat, 1 ≤ j → j ≤ R → atI (recs g R k) (-(j : Int)) = some (if j ≤ k then cst g R (k + 1 - j) else 0)
  | 0, j, h1, h2 => by
    rw [atI_back h1 (by rw [recs_len h]; exact h2), if_neg (by omega), recs_len h]
    show (List.replicate R (0 : Int))[R - j]? = some 0
    rw [List.getElem?_replicate, if_pos (by omega)]
  | k + 1, j, h1, h2 => by
    have hl := recs_len (g := g) h (k + 1)
    have self : atI (recs g R (k + 1)) (-(j : Int)) = some ((atI (recs g R (k + 1)) (-(j : Int))).getD 0) := by
      rw [atI_back h1 (by rw [hl]; exact h2), hl, List.getElem?_eq_getElem (by omega)]
      rfl
    by_cases e : j = 1
    · subst e
      rw [if_pos (by omega), show k + 1 + 1 - 1 = k + 1 by omega]
      exact self
    · have ih := recs_back h k (j - 1) (by omega) (by omega)
      have hk := recs_len (g := g) h k
      rw [atI_back (by omega) (by rw [hk]; omega), hk] at ih
      rw [atI_back h1 (by rw [hl]; exact h2), hl]
      show ((recs g R k).drop 1 ++ [nxt g k (recs g R k)])[R - j]? = _
      rw [List.getElem?_append_left (by rw [List.length_drop, hk]; omega), List.getElem?_drop, show 1 + (R - j) = R - (j - 1) by omega, ih]
      by_cases c : j ≤ k + 1
      · rw [if_pos c, if_pos (by omega)]
        congr 2
        omega
      · rw [if_neg c, if_neg (by omega)]
theorem cst_0 (h : 1 ≤ R) : cst g R 0 = 0 := by
  unfold cst
  rw [show (-1 : Int) = -((1 : Nat) : Int) from rfl, recs_back h 0 1 (Nat.le_refl 1) h, if_neg (by omega)]
  rfl
/-- the cost of k days, from k on -/
def cAt (g : Pc) (R : Nat) (k : Int) : Int := if 0 ≤ k then cst g R k.toNat else 0
theorem cst_next (h : Reach g R) (k : Nat) : cst g R (k + 1) = if gos g k = true then least (g.L.map fun z => cAt g R ((k : Int) + 1 - z.1) + z.2) else cst g R k := by
  have e : cst g R (k + 1) = nxt g k (recs g R k) := by
    unfold cst
    rw [show (-1 : Int) = -((1 : Nat) : Int) from rfl, atI_back (Nat.le_refl 1) (by rw [recs_len h.r1]; exact h.r1), recs_len h.r1]
    show (((recs g R k).drop 1 ++ [nxt g k (recs g R k)])[R - 1]?).getD 0 = _
    have := recs_len (g := g) h.r1 k
    have r1 := h.r1
    rw [List.getElem?_append_right (by rw [List.length_drop, this]; exact Nat.le_refl _), List.length_drop, this, Nat.sub_self]
    rfl
  rw [e]
  unfold nxt
  by_cases c : gos g k = true
  · rw [if_pos c, if_pos c]
    congr 1
    refine List.map_congr_left fun z hz => ?_
    have p := h.ok z hz
    have le := h.le z hz
    obtain ⟨j, hj⟩ := Int.eq_ofNat_of_zero_le (show 0 ≤ z.1 by have := p.1; omega)
    have p1 := p.1
    rw [show (0 : Int) - z.1 = -((j : Nat) : Int) by omega, recs_back h.r1 k j (by omega) (by omega)]
    congr 1
    unfold cAt
    by_cases cj : j ≤ k
    · rw [if_pos cj, if_pos (by omega)]
      show cst g R _ = _
      congr 1
      omega
    · rw [if_neg cj]
      by_cases c2 : 0 ≤ (k : Int) + 1 - z.1
      · rw [if_pos c2, show ((k : Int) + 1 - z.1).toNat = 0 by omega, cst_0 h.r1]
        rfl
      · rw [if_neg c2]
        rfl
  · rw [if_neg c, if_neg c]
    rfl
/-! ### what repeats -/
theorem map_shift {r s : List Int} {a b : Int} (h : r.map (fun v => a - v) = s.map fun v => b - v) : s = r.map (· + (b - a)) := by
  have h2 := congrArg (List.map fun v => b - v) h
  rw [List.map_map, List.map_map] at h2
  have e : s.map ((fun v => b - v) ∘ fun v => b - v) = s := by
    have : ((fun v : Int => b - v) ∘ fun v => b - v) = id := by
      funext v
      show b - (b - v) = v
      omega
    rw [this, List.map_id]
  rw [e] at h2
  rw [← h2]
  refine List.map_congr_left fun v _ => ?_
  show b - (a - v) = v + (b - a)
  omega
theorem atI_map {α β : Type} (f : α → β) (xs : List α) (i : Int) : atI (xs.map f) i = (atI xs i).map f := by
  unfold atI
  rw [List.length_map]
  cases ixN xs.length i with
  | none => rfl
  | some j => exact List.getElem?_map ..
theorem nxt_shift (h : Reach g R) {i j : Nat} (hg : gos g i = gos g j) (k : Nat) (c : Int) : nxt g j ((recs g R k).map (· + c)) = nxt g i (recs g R k) + c := by
  unfold nxt
  have one : atI (recs g R k) (-1) = some (cst g R k) := by
    unfold cst
    rw [show (-1 : Int) = -((1 : Nat) : Int) from rfl, recs_back h.r1 k 1 (Nat.le_refl 1) h.r1]
    rfl
  rw [← hg]
  by_cases e : gos g i = true
  · rw [if_pos e, if_pos e, ← least_add _ _ (by simp [h.ne]), List.map_map]
    congr 1
    refine List.map_congr_left fun z hz => ?_
    have p1 := (h.ok z hz).1
    have le := h.le z hz
    obtain ⟨j, hj⟩ := Int.eq_ofNat_of_zero_le (show 0 ≤ z.1 by omega)
    rw [atI_map, show (0 : Int) - z.1 = -((j : Nat) : Int) by omega]
    show _ = (atI (recs g R k) (0 - z.1)).getD 0 + z.2 + c
    rw [show (0 : Int) - z.1 = -((j : Nat) : Int) by omega, recs_back h.r1 k j (by omega) (by omega)]
    show _ + c + z.2 = _ + z.2 + c
    simp only [Option.getD_some]
    omega
  · rw [if_neg e, if_neg e, atI_map, one]
    rfl
theorem recs_far (h : Reach g R) {i j : Nat} (hs : stC g R i = stC g R j) : ∀ m, (∀ t, t < m → gos g (i + t) = gos g (j + t)) → recs g R (j + m) = (recs g R (i + m)).map (· + (cst g R j - cst g R i))
  | 0, _ => map_shift hs
  | m + 1, hg => by
    have ih := recs_far h hs m fun t ht => hg t (by omega)
    show (recs g R (j + m)).drop 1 ++ [nxt g (j + m) (recs g R (j + m))] = ((recs g R (i + m)).drop 1 ++ [nxt g (i + m) (recs g R (i + m))]).map _
    rw [ih, List.map_append, nxt_shift h (hg m (by omega)), List.map_drop]
    rfl
theorem cst_one (h : Reach g R) (k : Nat) : atI (recs g R k) (-1) = some (cst g R k) := by
  unfold cst
  rw [show (-1 : Int) = -((1 : Nat) : Int) from rfl, recs_back h.r1 k 1 (Nat.le_refl 1) h.r1]
  rfl
theorem cst_far (h : Reach g R) {i j : Nat} (hs : stC g R i = stC g R j) (m : Nat) (hg : ∀ t, t < m → gos g (i + t) = gos g (j + t)) : cst g R (j + m) = cst g R (i + m) + (cst g R j - cst g R i) := by
  have := cst_one h (j + m)
  rw [recs_far h hs m hg, atI_map, cst_one h (i + m)] at this
  injection this with this
  exact this.symm
end
/-! ### stretches -/
/-- n days do not lead beyond a stretch's end -/
def Low (e : Option Nat) (n : Nat) : Prop := ∀ x, e = some x → n ≤ x
theorem Low.le {e : Option Nat} {m n : Nat} (h : Low e n) (l : m ≤ n) : Low e m := fun x hx => Nat.le_trans l (h x hx)
theorem Low.none {n : Nat} : Low none n := fun x hx => nomatch hx
/-- days b .. e - 1 : what day of the round it is says whether it is a travel day -/
def Cut (g : Pc) (b : Nat) (e : Option Nat) : Prop := ∀ i j : Nat, Low e (b + i + 1) → Low e (b + j + 1) → (i : Int).fmod g.ln = (j : Int).fmod g.ln → gos g (b + i) = gos g (b + j)
/-- no whole number of rounds below d is noted twice -/
def FreshS (g : Pc) (R b d : Nat) : Prop := ∀ i j, i < j → j < d → (i : Int).fmod g.ln = 0 → (j : Int).fmod g.ln = 0 → stC g R (b + i) ≠ stC g R (b + j)
structure SRep (g : Pc) (R b d j : Nat) : Prop where
  lt : j < d
  mj : (j : Int).fmod g.ln = 0
  md : (d : Int).fmod g.ln = 0
  st : stC g R (b + j) = stC g R (b + d)
  fr : FreshS g R b d
section
variable {g : Pc} {R b d j : Nat} {e : Option Nat}
theorem mod_adds {i j : Nat} {n : Int} (h0 : 0 < n) (h : (i : Int).fmod n = (j : Int).fmod n) : ∀ m : Nat, ((i + m : Nat) : Int).fmod n = ((j + m : Nat) : Int).fmod n
  | 0 => h
  | m + 1 => mod_succ h0 (mod_adds h0 h m)
theorem SRep.next (r : SRep g R b d j) (h : Reach g R) (c : Cut g b e) (m : Nat) (lo : Low e (b + d + m)) : cst g R (b + d + m) = cst g R (b + j + m) + (cst g R (b + d) - cst g R (b + j)) := by
  have lt := r.lt
  refine cst_far h r.st m fun t ht => ?_
  have := c (j + t) (d + t) (lo.le (by omega)) (lo.le (by omega)) (mod_adds (by have := h.l1; omega) (by rw [r.mj, r.md]) t)
  rw [Nat.add_assoc, Nat.add_assoc]
  exact this
theorem SRep.turns (r : SRep g R b d j) (h : Reach g R) (c : Cut g b e) (m : Nat) : ∀ t : Nat, Low e (b + (j + m + t * (d - j))) → cst g R (b + (j + m + t * (d - j))) = cst g R (b + (j + m)) + (t : Int) * (cst g R (b + d) - cst g R (b + j))
  | 0, _ => by
    rw [Nat.zero_mul, Nat.add_zero]
    show _ = _ + (0 : Int) * _
    rw [Int.zero_mul, Int.add_zero]
  | t + 1, lo => by
    have lt := r.lt
    have e1 : b + (j + m + (t + 1) * (d - j)) = b + d + (m + t * (d - j)) := by rw [Nat.succ_mul]; omega
    rw [e1] at lo ⊢
    have ih := r.turns h c m t (lo.le (by omega))
    have n := r.next h c (m + t * (d - j)) lo
    rw [n, show b + j + (m + t * (d - j)) = b + (j + m + t * (d - j)) by omega, ih, show ((t + 1 : Nat) : Int) = (t : Int) + 1 by omega, Int.add_mul, Int.one_mul]
    omega
end
/-- what is known of a stretch: days, from when on they repeat -/
structure SgP where
  b : Nat
  e : Option Nat
  d : Nat
  j : Nat
  rp : Bool
structure SgOk (g : Pc) (R : Nat) (s : SgP) : Prop where
  cut : Cut g s.b s.e
  big : s.d ≤ 10000000
  low : Low s.e (s.b + s.d)
  yes : s.rp = true → SRep g R s.b s.d s.j
  no : s.rp = false → s.e = some (s.b + s.d)
/-- ascending exceptions: begin and end of stretches -/
def cutsF : Nat → List Nat → List (Nat × Option Nat)
  | b, [] => [(b, none)]
  | b, o :: r => (if b < o then [(b, some o)] else []) ++ (o, some (o + 1)) :: cutsF (o + 1) r
/-- each begins where the one before ends; the last has no end -/
def Chn : Nat → List (Nat × Option Nat) → Prop
  | _, [] => False
  | b, (x, none) :: r => x = b ∧ r = []
  | b, (x, some y) :: r => x = b ∧ b < y ∧ Chn y r
theorem cutsF_chn : ∀ (os : List Nat) (b : Nat), (∀ o ∈ os, b ≤ o) → os.Pairwise (· < ·) → Chn b (cutsF b os)
  | [], b, _, _ => ⟨rfl, rfl⟩
  | o :: r, b, h, p => by
    have hb := h o List.mem_cons_self
    obtain ⟨p1, p2⟩ := List.pairwise_cons.mp p
    have ih := cutsF_chn r (o + 1) (fun x hx => p1 x hx) p2
    unfold cutsF
    by_cases c : b < o
    · rw [if_pos c]
      exact ⟨rfl, c, rfl, Nat.lt_succ_self o, ih⟩
    · rw [if_neg c]
      have : b = o := by omega
      subst this
      exact ⟨rfl, Nat.lt_succ_self b, ih⟩
end Sea

set_option Elab.async false
set_option linter.all false
set_option maxRecDepth 100000
set_option maxHeartbeats 4000000
/-! all kept but one; readings of getters -/
namespace Sea
open PySem PySem.Spec PyProof.Rows L2 LamX NdefX ClX Evl StX
def KA (a : Addr) (H H' : Hp) : Prop := ∀ b o, H b = some o → b ≠ a → H' b = some o
theorem KA.same {a : Addr} {H H1 H2 : Hp} (k : KA a H H1) (s : Same H1 H2) : KA a H H2 := fun b o e n => s _ _ (k b o e n)
theorem KA.put {a z : Addr} {H H1 : Hp} {o : HO} (k : KA a H H1) (n : H z = none ∨ z = a) : KA a H (upd H1 z o) := fun b u e nb => by
  rw [upd_ne ?_]
  · exact k b u e nb
  · rintro rfl
    rcases n with n | n
    · rw [e] at n
      cases n
    · exact nb n
section
variable {K : PySem.W.Frag} {C D S CV : Addr} {H H' : Hp} {a dx : Addr}
theorem KA.tk (k : KA a H H') (ha : H a = some (.ins S dx [])) : TK K H H' := .but (fun b => b = a) (fun b o e n => k b o e n) fun b xs z => by
  rw [z]
  exact Rd.ins_no ha
theorem ins_apart {b C' dx' : Addr} {fs : List (Str × V)} (ha : H a = some (.ins S dx [])) (hb : H b = some (.ins C' dx' fs)) (n : fs ≠ []) : b ≠ a := by
  rintro rfl
  rw [ha] at hb
  injection hb with hb
  injection hb with _ _ hb
  exact n hb.symm
theorem KA.tar {t p : Addr} {L : List (Int × Int)} (k : KA a H H') (ha : H a = some (.ins S dx [])) (h : Tar K C H t p L) : Tar K C H' t p L := by
  obtain ⟨⟨d1, h1⟩, h2⟩ := h
  exact ⟨⟨d1, k _ _ h1 (ins_apart ha h1 (by simp))⟩, h2.tk (k.tk ha)⟩
theorem KA.tv {b : Addr} {ln : Int} {d o : V} {ds os : List Int} (k : KA a H H') (ha : H a = some (.ins S dx [])) (h : Tv K CV H b ln d o ds os) : Tv K CV H' b ln d o ds os := by
  obtain ⟨⟨d1, h1⟩, h2, h3⟩ := h
  exact ⟨⟨d1, k _ _ h1 (ins_apart ha h1 fun z => by have : (tvF ln d o).length = 3 := rfl; rw [z] at this; cases this)⟩, h2.tk (k.tk ha), h3.tk (k.tk ha)⟩
end
theorem tk_lst {K : PySem.W.Frag} {H : Hp} {z : Addr} {xs : List V} {o : HO} (e : H z = some (.lst xs)) : TK K H (upd H z o) := .but (fun b => b = z) (fun b u q n => by rw [upd_ne n]; exact q) fun b ys q => by
  rw [q]
  exact Rd.lst_no e
theorem tk_ins {K : PySem.W.Frag} {H : Hp} {z C dx : Addr} {fs : List (Str × V)} {o : HO} (e : H z = some (.ins C dx fs)) : TK K H (upd H z o) := .but (fun b => b = z) (fun b u q n => by rw [upd_ne n]; exact q) fun b ys q => by
  rw [q]
  exact Rd.ins_no e
section
variable {K : PySem.W.Frag} {σ : L2.St} {H : Hp} {C : Addr}
theorem ev_prop {i : Nat} {a dx : Addr} {fs : List (Str × V)} {f : Str} {v : V} (hs : σ[i]? = some (some (.ref a))) (ha : H a = some (.ins C dx fs)) (hf : fs.lookup f = some v) : Ev (tProp C (getSp C f) [] E0 (tVar i)) σ H v := fun H1 e Q q =>
  ⟨_, hs, a, dx, fs, rfl, e _ _ ha, a, dx, fs, v, rfl, e _ _ ha, hf, q H1 (Ex.refl _)⟩
theorem tv_get {a : Addr} {ln : Int} {d o v : V} {ds os : List Int} {fn : Str} {i : Nat} (hs : σ[i]? = some (some (.ref a))) (t : Tv K C H a ln d o ds os) (hl : (tvF ln d o).lookup fn = some v) : Ev (tProp C (getSp C fn) [] E0 (tVar i)) σ H v := by
  obtain ⟨⟨dx, ha⟩, _⟩ := t
  exact ev_prop hs ha hl
end
abbrev tInt (te : TE) : TE := tCB (fun xs H Q => (∃ n, xs = [V.int n] ∧ Q (.int n) H) ∨ ∃ b : Bool, xs = [V.bl b] ∧ Q (.int (if b then 1 else 0)) H) (tCons te tNil)
end Sea

set_option Elab.async false
set_option linter.all false
set_option maxRecDepth 100000
set_option maxHeartbeats 4000000
/-! class Stretch -/
namespace Sea
open PySem PySem.Spec PyProof.Rows L2 LamX NdefX ClX Evl StX
theorem scStI : FnScope ["self", "begin", "end", "first"] ["self", "begin", "end", "first"] (defScope sStI) := ⟨rfl, rfl, rfl, by decide +kernel, rfl, by decide +kernel, by decide +kernel⟩
theorem scHol : FnScope ["self", "count"] ["self", "count"] (defScope sHol) := ⟨rfl, rfl, rfl, by decide +kernel, rfl, by decide +kernel, by decide +kernel⟩
theorem scVal : FnScope ["self", "count", "place", "extra"] ["self", "count"] (defScope sVal) := ⟨rfl, rfl, rfl, by decide +kernel, rfl, by decide +kernel, by decide +kernel⟩
theorem scCut : FnScope ["travel", "found", "begin", "day"] ["travel"] (defScope sCut) := ⟨rfl, rfl, rfl, by decide +kernel, rfl, by decide +kernel, by decide +kernel⟩
def endV : Option Nat → V
  | none => .non
  | some x => .int x
/-- a stretch's fields -/
abbrev stF (b : Nat) (e : Option Nat) (tl : Addr) (s d gn : Int) : List (Str × V) := [("begin", .int b), ("end", endV e), ("totals", .ref tl), ("start", .int s), ("days", .int d), ("gain", .int gn)]
structure TSt (K : PySem.W.Frag) (mg : Str → Option Value) (ST : Addr) : Prop where
  cl : Cls K ST
  nB : NoAttr K ST "begin"
  nE : NoAttr K ST "end"
  nT : NoAttr K ST "totals"
  nS : NoAttr K ST "start"
  nD : NoAttr K ST "days"
  nG : NoAttr K ST "gain"
  gS : mg "Stretch" = some (.ref ST)
  mN : mg "len" = none
  mI : mg "int" = none
def ctots (g : Pc) (R b d : Nat) : List V := (List.range (d + 1)).map fun k => V.int (cst g R (b + k))
theorem ctots_len (g : Pc) (R b d : Nat) : (ctots g R b d).length = d + 1 := by
  unfold ctots
  rw [List.length_map, List.length_range]
theorem ctots_at (g : Pc) (R b : Nat) {d k : Nat} (h : k ≤ d) : atI (ctots g R b d) (k : Int) = some (.int (cst g R (b + k))) := by
  refine at_nat (by rw [ctots_len]; omega) ?_
  unfold ctots
  rw [List.getElem?_map, List.getElem?_range (by omega)]
  rfl
theorem ctots_snoc (g : Pc) (R b d : Nat) : ctots g R b (d + 1) = ctots g R b d ++ [.int (cst g R (b + (d + 1)))] := by
  unfold ctots
  rw [List.range_succ, List.map_append]
  rfl
/-- the fields of a stretch of which s is known -/
def SgP.st (s : SgP) : Int := if s.rp = true then (s.j : Int) else 0
def SgP.dy (s : SgP) : Int := if s.rp = true then (s.d : Int) - s.j else 0
def SgP.gn (g : Pc) (R : Nat) (s : SgP) : Int := if s.rp = true then cst g R (s.b + s.d) - cst g R (s.b + s.j) else 0
/-- a stretch of which s is known lies at a -/
structure SgAt (ST : Addr) (g : Pc) (R : Nat) (H : Hp) (s : SgP) (a dx tl : Addr) : Prop where
  ia : H a = some (.ins ST dx (stF s.b s.e tl s.st s.dy (s.gn g R)))
  it : H tl = some (.lst (ctots g R s.b s.d))
theorem SgAt.s {ST : Addr} {g : Pc} {R : Nat} {H H' : Hp} {s : SgP} {a dx tl : Addr} (h : SgAt ST g R H s a dx tl) (e : Same H H') : SgAt ST g R H' s a dx tl := ⟨e _ _ h.ia, e _ _ h.it⟩
section
variable {P : Program} {w : World} {K : PySem.W.Frag} {mg : Str → Option Value} {base : Heap} {ST : Addr}
def spStI (ST : Addr) : Sp := fun vs H Q _ => ∃ (a dx : Addr) (b : Nat) (e : Option Nat) (f : Int), vs = [.ref a, .int b, endV e, .int f] ∧ H a = some (.ins ST dx []) ∧
  ∀ tl H', H tl = none → (∀ c o, H c = some o → c ≠ a → H' c = some o) → H' tl = some (.lst [.int f]) → H' a = some (.ins ST dx (stF b e tl 0 0 0)) → Q .non H'
theorem ok_stI {f : Addr} {fd : FuncData} {k : Nat} (F : Fun K "__init__" "Stretch.__init__" sStI f fd) (T : TSt K mg ST) : FnOk P w K mg base CX0 (k + 1) f fd ["self", "begin", "end", "first"] (spStI ST) := by
  refine F.ok scStI (fun vs H Q E h => ?_) (fun cdv A outer s H vs Q E hr h => ?_)
  · obtain ⟨a, dx, b, en, f, rfl, _⟩ := h
    rfl
  · obtain ⟨a, dx, b, en, f, rfl, ha, q⟩ := h
    refine ⟨_, pss_cons (ps_fld (pv 0) (pv 1) rfl) (pss_cons (ps_fld (pv 0) (pv 2) rfl) (pss_cons (ps_fld (pv 0) (pe_lst (pa_cons (pv 3) pa_nil)) rfl) (pss_cons (ps_fld (pv 0) pe_int rfl) (pss_cons (ps_fld (pv 0) pe_int rfl) (pss_one (ps_fld (pv 0) pe_int rfl)))))), ?_⟩
    refine ⟨_, rfl, _, rfl, a, ST, dx, [], rfl, ha, T.cl, T.nB, by decide, ?_⟩
    refine ⟨_, rfl, _, rfl, a, ST, dx, _, rfl, upd_same, T.cl, T.nE, show 1 < 1000 by decide, ?_⟩
    refine ⟨_, rfl, Nat.le_of_lt (small1000 (show 1 ≤ 1000 by decide)), fun tl ntl => ?_⟩
    generalize hH1 : upd (upd H a (.ins ST dx (putF "begin" (.int b) []))) a (.ins ST dx (putF "end" (endV en) (putF "begin" (.int b) []))) = H1 at ntl
    have k1 : ∀ b o, H b = some o → b ≠ a → H1 b = some o := fun b o e n => by
      rw [← hH1, upd_ne n, upd_ne n]
      exact e
    have a1 : H1 a = some (.ins ST dx (putF "end" (endV en) (putF "begin" (.int b) []))) := by rw [← hH1, upd_same]
    have nta : tl ≠ a := fun z => by rw [z, a1] at ntl; cases ntl
    have nt0 : H tl = none := by
      cases e : H tl with
      | none => rfl
      | some o => rw [k1 _ _ e nta] at ntl; cases ntl
    refine ⟨_, rfl, a, ST, dx, _, rfl, (same_new ntl) _ _ a1, T.cl, T.nT, show 2 < 1000 by decide, ?_⟩
    refine ⟨_, rfl, a, ST, dx, _, rfl, upd_same, T.cl, T.nS, show 3 < 1000 by decide, ?_⟩
    refine ⟨_, rfl, a, ST, dx, _, rfl, upd_same, T.cl, T.nD, show 4 < 1000 by decide, ?_⟩
    refine ⟨_, rfl, a, ST, dx, _, rfl, upd_same, T.cl, T.nG, show 5 < 1000 by decide, ?_⟩
    refine q tl _ nt0 (fun b o e n => ?_) ?_ upd_same
    · rw [upd_ne n, upd_ne n, upd_ne n, upd_ne n]
      exact same_new ntl _ _ (k1 b o e n)
    · rw [upd_ne nta, upd_ne nta, upd_ne nta, upd_ne nta, upd_same]
def spHol (ST : Addr) : Sp := fun vs H Q _ => ∃ (a dx tl : Addr) (b : Nat) (e : Option Nat) (s d gn c : Int) (xs : List V), vs = [.ref a, .int c] ∧ H a = some (.ins ST dx (stF b e tl s d gn)) ∧ H tl = some (.lst xs) ∧ ∀ H', Same H H' → Q (.bl (decide (0 < d) || decide (c - b < (xs.length : Int)))) H'
theorem fld_ev {C a dx : Addr} {fs : List (Str × V)} {f : Str} {v : V} {σ : L2.St} {H : Hp} {i : Nat} (cl : Cls K C) (n : NoAttr K C f) (hs : σ[i]? = some (some (.ref a))) (ha : H a = some (.ins C dx fs)) (hf : fs.lookup f = some v) : Ev (tFld K (tVar i) f) σ H v := fun H1 e Q q =>
  ⟨.ref a, hs, a, C, dx, _, v, rfl, e _ _ ha, cl, n, hf, q H1 (Ex.refl _)⟩
theorem ok_hol {f : Addr} {fd : FuncData} {k : Nat} (F : Fun K "holds" "Stretch.holds" sHol f fd) (T : TSt K mg ST) : FnOk P w K mg base CX0 (k + 1) f fd ["self", "count"] (spHol ST) := by
  refine F.ok scHol (fun vs H Q E h => ?_) (fun cdv A outer s H vs Q E hr h => ?_)
  · obtain ⟨a, dx, tl, b, en, s, d, gn, c, xs, rfl, _⟩ := h
    rfl
  · obtain ⟨a, dx, tl, b, en, st, d, gn, c, xs, rfl, ha, ht, q⟩ := h
    refine ⟨_, pss_one (ps_ret (L2.pe_or (pe_cmpR op_gt (pe_fld (pv 0) rfl) pe_int (nomark _)) (pe_one (pe_cmpR op_lt (pe_op op_sub (pv 1) (pe_fld (pv 0) rfl)) (pe_callB call_len_seq (by rfl) T.mN PySem.boot_len (pa_cons (pe_fld (pv 0) rfl) pa_nil)) (nomark _))))), ?_⟩
    refine s_ret (v := .bl (decide (0 < d) || decide (c - b < (xs.length : Int)))) (ev_orV (a := decide (0 < d)) (b := decide (c - b < (xs.length : Int))) (ev_op (fld_ev T.cl T.nD rfl ha rfl) ev_c (rv_I0 (g := fun i j => .bl (decide (j < i))))) fun _ => ev_op (ev_op (ev_var rfl) (fld_ev T.cl T.nB rfl ha rfl) rv_I0) (ev_len (fld_ev T.cl T.nT rfl ha rfl) (sq_of ht)) (rv_I0 (g := fun i j => .bl (decide (i < j))))) fun H1 e1 => q H1 e1
def spVal (ST : Addr) : Sp := fun vs H Q _ => ∃ (a dx tl : Addr) (g : Pc) (R n : Nat) (s : SgP), vs = [.ref a, .int n] ∧ SgAt ST g R H s a dx tl ∧ Reach g R ∧ SgOk g R s ∧ s.b ≤ n ∧ Low s.e n ∧ n ≤ 2000000000000000000 ∧ ∀ H', Same H H' → Q (.int (cst g R n)) H'
theorem ok_val {f : Addr} {fd : FuncData} {k : Nat} (F : Fun K "value" "Stretch.value" sVal f fd) (T : TSt K mg ST) : FnOk P w K mg base CX0 (k + 1) f fd ["self", "count"] (spVal ST) := by
  refine F.ok scVal (fun vs H Q E h => ?_) (fun cdv A outer s H vs Q E hr h => ?_)
  · obtain ⟨a, dx, tl, g, R, n, z, rfl, _⟩ := h
    rfl
  · obtain ⟨a, dx, tl, g, R, n, z, rfl, at0, rc, ok, bn, lo, nb, q⟩ := h
    refine ⟨_, pss_cons (ps_set (i := 2) scVal.nd rfl (.inl rfl) (pe_op op_sub (pv 1) (pe_fld (pv 0) rfl)))
      (pss_cons (ps_if (pt_cmpR op_lt (pv 2) (pe_callB call_len_seq (by rfl) T.mN PySem.boot_len (pa_cons (pe_fld (pv 0) rfl) pa_nil)) (nomark _)) (pss_one (ps_ret (pe_ixl (pe_fld (pv 0) rfl) (pv 2)))) pss_nil)
      (pss_cons (ps_set (i := 3) scVal.nd rfl (.inl rfl) (pe_op op_sub (pv 2) (pe_fld (pv 0) rfl)))
      (pss_one (ps_ret (pe_op op_add (pe_ixl (pe_fld (pv 0) rfl) (pe_op op_add (pe_fld (pv 0) rfl) (pe_op op_modN (pe_callTy call_int1 (by rfl) T.mI (by rfl) (pa_cons (pv 3) pa_nil)) (pe_fld (pv 0) rfl)))) (pe_op op_mul (pe_op op_fdivN (pv 3) (pe_fld (pv 0) rfl)) (pe_fld (pv 0) rfl))))))), ?_⟩
    obtain ⟨m, rfl⟩ : ∃ m, n = z.b + m := ⟨n - z.b, by omega⟩
    refine q_asg (v := .int (m : Int)) (ev_is (ev_op (ev_var rfl) (fld_ev T.cl T.nB rfl at0.ia rfl) (rv_I0 (g := fun i j => .int (i - j)) (i := ((z.b + m : Nat) : Int)) (j := (z.b : Int)))) (by congr 1; omega)) fun H1 e1 => ?_
    have a1 := at0.s e1
    refine q_when (b := decide ((m : Int) < ((ctots g R z.b z.d).length : Int))) (et_test (ev_op (ev_var rfl) (ev_len (fld_ev T.cl T.nT rfl a1.ia rfl) (sq_of a1.it)) (rv_I0 (g := fun i j => .bl (decide (i < j)))))) (fun hb H2 e2 => ?_) (fun hb H2 e2 => ?_)
    · have hn := of_decide_eq_true hb
      rw [ctots_len] at hn
      exact s_ret (ev_op (fld_ev T.cl T.nT rfl (e2 _ _ a1.ia) rfl) (ev_var rfl) (rv_ixL (.inl (.inl (e2 _ _ a1.it))) (ctots_at g R z.b (by omega)))) fun H3 e3 => q H3 (Same.trans (Same.trans e1 e2) e3)
    · have hn := of_decide_eq_false hb
      rw [ctots_len] at hn
      have a2 := a1.s e2
      have rp : z.rp = true := by
        cases e : z.rp with
        | true => rfl
        | false =>
          have := lo _ (ok.no e)
          omega
      have rep := ok.yes rp
      have few := ok.big
      have lt := rep.lt
      have sst : z.st = (z.j : Int) := if_pos rp
      have sdy : z.dy = (z.d : Int) - z.j := if_pos rp
      have sgn : z.gn g R = cst g R (z.b + z.d) - cst g R (z.b + z.j) := if_pos rp
      obtain ⟨a2, ht2⟩ := a2
      rw [sst, sdy, sgn] at a2
      refine q_asg (v := .int ((m : Int) - (z.j : Int))) (ev_op (ev_var rfl) (fld_ev T.cl T.nS rfl a2 rfl) rv_I0) fun H3 e3 => ?_
      have ha3 := e3 _ _ a2
      have ht3 := e3 _ _ ht2
      generalize hd : z.d = d at *
      generalize hj : z.j = j at *
      -- the day of the first period that it is like
      have e1' : ((m : Int) - (j : Int)).fmod ((d : Int) - (j : Int)) = (((m - j) % (d - j) : Nat) : Int) := by
        rw [Int.fmod_eq_emod_of_nonneg _ (by omega), show (m : Int) - (j : Int) = ((m - j : Nat) : Int) by omega, show (d : Int) - (j : Int) = ((d - j : Nat) : Int) by omega]
        rfl
      have e2' : ((m : Int) - (j : Int)).fdiv ((d : Int) - (j : Int)) = (((m - j) / (d - j) : Nat) : Int) := by
        rw [Int.fdiv_eq_ediv_of_nonneg _ (by omega), show (m : Int) - (j : Int) = ((m - j : Nat) : Int) by omega, show (d : Int) - (j : Int) = ((d - j : Nat) : Int) by omega]
        rfl
      have ml := Nat.mod_lt (m - j) (show 0 < d - j by omega)
      have dl := Nat.div_le_self (m - j) (d - j)
      have at_ : atI (ctots g R z.b d) ((j : Int) + ((m : Int) - (j : Int)).fmod ((d : Int) - (j : Int))) = some (.int (cst g R (z.b + (j + (m - j) % (d - j))))) := by
        rw [e1', show (j : Int) + (((m - j) % (d - j) : Nat) : Int) = ((j + (m - j) % (d - j) : Nat) : Int) by omega]
        exact ctots_at g R z.b (by omega)
      have fin : cst g R (z.b + (j + (m - j) % (d - j))) + ((m : Int) - (j : Int)).fdiv ((d : Int) - (j : Int)) * (cst g R (z.b + d) - cst g R (z.b + j)) = cst g R (z.b + m) := by
        have dm := Nat.div_add_mod (m - j) (d - j)
        rw [Nat.mul_comm] at dm
        have em : j + (m - j) % (d - j) + (m - j) / (d - j) * (d - j) = m := by omega
        have t := rep.turns rc ok.cut ((m - j) % (d - j)) ((m - j) / (d - j)) (by rw [em]; exact lo)
        rw [em] at t
        rw [e2', t]
      refine s_ret (v := .int (cst g R (z.b + m))) (ev_is (ev_op (ev_op (fld_ev T.cl T.nT rfl ha3 rfl) (ev_op (fld_ev T.cl T.nS rfl ha3 rfl) (ev_op (ev_int1 (ev_var rfl)) (fld_ev T.cl T.nD rfl ha3 rfl) (rv_I (C := fun _ j => j ≠ 0) (g := fun i j => .int (i.fmod j)) (i := (m : Int) - (j : Int)) (j := (d : Int) - (j : Int)) (by omega))) (rv_I0 (g := fun i j => .int (i + j)))) (rv_ixL (.inl (.inl ht3)) at_)) (ev_op (ev_op (ev_var rfl) (fld_ev T.cl T.nD rfl ha3 rfl) (rv_I (g := fun i j => .int (i.fdiv j)) (i := (m : Int) - (j : Int)) (j := (d : Int) - (j : Int)) ⟨by omega, by omega⟩)) (fld_ev T.cl T.nG rfl ha3 rfl) (rv_I (g := fun i j => .int (i * j)) (.inl ⟨?_, ?_⟩))) (rv_I0 (g := fun i j => .int (i + j)))) (by rw [fin])) fun H4 e4 => q H4 (Same.trans (Same.trans (Same.trans e1 e2) e3) e4)
      · rw [e2']
        generalize (m - j) / (d - j) = y at dl
        omega
      · rw [e2']
        generalize (m - j) / (d - j) = y at dl
        omega
end
end Sea

set_option Elab.async false
set_option linter.all false
set_option maxRecDepth 100000
set_option maxHeartbeats 4000000
/-! comprehensions over pairs; cuts_of -/
namespace Sea
open PySem PySem.Spec PyProof.Rows L2 LamX NdefX ClX Evl StX
theorem t_yes {σ : L2.St} {H : Hp} {Q : Bool → Hp → Prop} (h : Q true H) : tYes σ H Q := h
theorem pg_tupK {X : Cx} {K : PySem.W.Frag} (hK : X.K = K) {es : List Expr} {k : Nat} {t : TGs} {n : Nat} {pos : Pos} (hc : X.calm = true) (h : PGs X es t) (hn : (assignEach es X.env).length = n := by rfl) (hst : (assignEach es X.env).findIdx? (·.1) = none := by rfl) : PG X (.Tuple es k pos) (gTup K n t) := hK ▸ pg_tup hc h hn hst
/-- a comprehension over a tuple of pairs, all of them -/
theorem el_pairs {K : PySem.W.Frag} {σ : L2.St} {H : Hp} {tl te : TE} {i j : Nat} {vs : List Nat} {p : Addr} {ws : List V} {L : List (Int × Int)} (v : Int × Int → V) (h : Ev tl σ H (.ref p)) (hx : SqT K H p ws) (hp : PsV K H ws L) (few : L.length ≤ 40000)
    (hw : ∀ x y, wipe (((wipe σ vs).set i (some x)).set j (some y)) vs = wipe σ vs) (he : ∀ (z : Int × Int) H1, Ex H H1 → z ∈ L → Ev te (((wipe σ vs).set i (some (.int z.1))).set j (some (.int z.2))) H1 (v z)) :
    EvL (tLc (iTup K tl) (gTup K 2 (gCons (gName i) (gCons (gName j) gNil))) tYes te vs) σ H (L.map v) := fun H0 e Q q => h H0 e _ fun H1 e1 => by
  have len := hp.len
  refine ⟨p, rfl, ⟨ws, ex_t (e.trans e1) hx⟩, fun D nD => ?_⟩
  refine lc_tup (K := K) (xs := ws) (fun n H' => Ex H1 H' ∧ H' D = some (.lst ((L.take n).map v))) ⟨Ex.new nD, upd_same⟩ (fun n H' _ z => ex_t ((e.trans e1).trans z.1) hx) (fun n x H2 hn z => ?_) fun H2 z => ?_
  · obtain ⟨y, hy, b, rfl, hb⟩ := hp.get hn
    have e2 := (e.trans e1).trans z.1
    have lt := (List.getElem?_eq_some_iff.mp hn).1
    refine ⟨b, _, rfl, ex_t e2 hb, rfl, _, _, rfl, _, _, rfl, rfl, hw _ _, t_yes (Eq.mpr (if_pos rfl) ?_)⟩
    refine he y H2 e2 (List.mem_of_getElem? hy) H2 (Ex.refl _) _ fun H3 e3 => ⟨_, e3 _ _ z.2, sz_lt (by rw [List.length_map, List.length_take]; omega), ?_, ?_⟩
    · exact Ex.mut (z.1.trans e3) nD
    · rw [upd_same, take_snoc hy, List.map_append]
      rfl
  · have e2 := z.2
    rw [len, List.take_length] at e2
    exact q D H2 (fresh_back e1 nD) (e1.trans z.1) e2
/-- pairs (begin, end) as they stand -/
def CuV (H : Hp) : List V → List (Nat × Option Nat) → Prop
  | [], [] => True
  | v :: r, c :: s => (∃ p, v = .ref p ∧ H p = some (.tup [.int (c.1 : Int), endV c.2])) ∧ CuV H r s
  | _, _ => False
theorem CuV.len {H : Hp} : ∀ {vs : List V} {L : List (Nat × Option Nat)}, CuV H vs L → vs.length = L.length
  | [], [], _ => rfl
  | _ :: _, _ :: _, h => congrArg (· + 1) (CuV.len h.2)
theorem CuV.mono {H H' : Hp} (e : ∀ p xs, H p = some (.tup xs) → H' p = some (.tup xs)) : ∀ {vs : List V} {L : List (Nat × Option Nat)}, CuV H vs L → CuV H' vs L
  | [], [], _ => trivial
  | _ :: _, _ :: _, ⟨⟨p, hp, ht⟩, r⟩ => ⟨⟨p, hp, e _ _ ht⟩, CuV.mono e r⟩
theorem CuV.s {H H' : Hp} {vs : List V} {L : List (Nat × Option Nat)} (h : CuV H vs L) (e : Same H H') : CuV H' vs L := h.mono fun p xs z => e _ _ z
theorem CuV.app {H : Hp} : ∀ {vs ws : List V} {L M : List (Nat × Option Nat)}, CuV H vs L → CuV H ws M → CuV H (vs ++ ws) (L ++ M)
  | [], _, [], _, _, g => g
  | [], _, _ :: _, _, h, _ => h.elim
  | _ :: _, _, [], _, h, _ => h.elim
  | _ :: _, _, _ :: _, _, h, g => ⟨h.1, CuV.app h.2 g⟩
theorem CuV.get {H : Hp} : ∀ {vs : List V} {L : List (Nat × Option Nat)}, CuV H vs L → ∀ {i : Nat} {c : Nat × Option Nat}, L[i]? = some c → ∃ p, vs[i]? = some (.ref p) ∧ H p = some (.tup [.int (c.1 : Int), endV c.2])
  | [], [], _, _, _, e => nomatch e
  | [], _ :: _, h, _, _, _ => h.elim
  | _ :: _, [], h, _, _, _ => h.elim
  | _ :: _, _ :: _, h, 0, c, e => by
    obtain ⟨⟨p, rfl, hp⟩, _⟩ := h
    cases e
    exact ⟨p, rfl, hp⟩
  | _ :: _, _ :: _, h, i + 1, c, e => CuV.get h.2 (i := i) e
theorem CuV.put {H : Hp} {vs : List V} {L : List (Nat × Option Nat)} {l : Addr} {xs : List V} {o : HO} (h : CuV H vs L) (e : H l = some (.lst xs)) : CuV (upd H l o) vs L := h.mono fun p ys z => by
  rw [upd_ne (ne_of z e (fun z => nomatch z))]
  exact z
abbrev ofN (on : List Nat) : List Int := on.map fun (n : Nat) => (n : Int)
/-- something new is written, or what H0 does not know -/
theorem same_put {H0 H : Hp} {x : Addr} {o : HO} (s : Same H0 H) (n : H0 x = none) : Same H0 (upd H x o) := fun b u e => by
  rw [upd_ne (ne_of_none e n)]
  exact s b u e
section
variable {P : Program} {w : World} {K : PySem.W.Frag} {mg : Str → Option Value} {base : Heap} {CV fVN fVC fRl pRl fRd pRd fEx pEx : Addr} {dVN dVC dRl dRd dEx : FuncData}
def spCut (K : PySem.W.Frag) (CV : Addr) : Sp := fun vs H Q _ => ∃ (tv : Addr) (ln : Int) (dv ov : V) (ds : List Int) (on : List Nat), vs = [.ref tv] ∧ Tv K CV H tv ln dv ov ds (ofN on) ∧ on.length ≤ 100 ∧
  ∀ l ws H', Same H H' → H l = none → H' l = some (.lst ws) → CuV H' ws (cutsF 0 on) → Q (.ref l) H'
theorem ok_cut {f : Addr} {fd : FuncData} {k : Nat} (F : Fun K "cuts_of" "cuts_of" sCut f fd) (TV : TTv K mg CV fVN fVC dVN dVC) (R : TPr K CV fRl pRl fRd pRd fEx pEx dRl dRd dEx) : FnOk P w K mg base CX0 (k + 3) f fd ["travel"] (spCut K CV) := by
  refine F.ok scCut (fun vs H Q E h => ?_) (fun cdv A outer s H vs Q E hr h => ?_)
  · obtain ⟨tv, ln, dv, ov, ds, on, rfl, _⟩ := h
    rfl
  · obtain ⟨tv, ln, dv, ov, ds, on, rfl, ht, few, q⟩ := h
    have h2 := hr.mono (show 2 ≤ k + 2 by omega)
    refine ⟨_, pss_cons (ps_par (i := 1) (j := 2) rfl scCut.nd rfl rfl (by decide) rfl rfl (pa_cons (pe_lst pa_nil) (pa_cons pe_int pa_nil)) (by rfl))
      (pss_cons (ps_for PassesOwn.never rfl (pi_tup (pe_ex R TV h2 (pv 0))) (pg_name (i := 3) scCut.nd rfl (.inl rfl))
        (pss_cut (ps_if (pt_cmpR op_lt (pv 2) (pv 3) (nomark _)) (pss_one (ps_expr (pe_bm PySem.F.plainAttrs_list PySem.F.slot_list_append PySem.F.type_list_append mt_append (pv 1) (pa_cons (pe_tup (pa_cons (pv 2) (pa_cons (pv 3) pa_nil))) pa_nil)))) pss_nil)
        (pss_cons (ps_expr (pe_bm PySem.F.plainAttrs_list PySem.F.slot_list_append PySem.F.type_list_append mt_append (pv 1) (pa_cons (pe_tup (pa_cons (pv 3) (pa_cons (pe_op op_add (pv 3) pe_int) pa_nil))) pa_nil)))
        (pss_one (ps_set (i := 2) scCut.nd rfl (.inl rfl) (pe_op op_add (pv 3) pe_int))))))
      (pss_one (ps_ret (pe_op op_cat (pv 1) (pe_lst (pa_cons (pe_tup (pa_cons (pv 2) (pa_cons pe_non pa_nil))) pa_nil)))))), ?_⟩
    have lt : ∀ {n : Nat}, n ≤ 1000 → n ≤ sizeLine := fun h => Nat.le_of_lt (small1000 h)
    have lt' : ∀ {n : Nat}, n ≤ 999 → n < sizeLine := fun h => small1000 (by omega)
    refine ⟨lt (Nat.zero_le _), fun l0 n0 => ⟨_, _, rfl, ?_⟩⟩
    have s0 : Same H (upd H l0 (.lst [])) := same_new n0
    have ht0 := ht.same s0
    obtain ⟨_, _, ⟨po, rfl, hpo⟩⟩ := id ht
    refine s_forT (K := K) (xs := (ofN on).map V.int) (tv_get rfl ht0 (tvF_odd ..)) ((TK.same s0) _ _ hpo) (fun i σ H' => ∃ (bg : Nat) (v3 : Option V) (ws : List V) (pre : List (Nat × Option Nat)), σ = [some (.ref tv), some (.ref l0), some (.int (bg : Int)), v3] ∧ Same H H' ∧ H' l0 = some (.lst ws) ∧ CuV H' ws pre ∧ cutsF 0 on = pre ++ cutsF bg (on.drop i) ∧ ws.length ≤ 2 * i) (fun H1 e1 => ⟨0, none, [], [], rfl, s0.trans e1, e1 _ _ upd_same, trivial, rfl, Nat.le_refl _⟩) (fun _ _ H' _ z => (TK.same z.choose_spec.choose_spec.choose_spec.choose_spec.2.1) _ _ hpo) (fun n x σ' H' hn z => ?_) ?_
    · obtain ⟨bg, v3, ws, pre, rfl, sm, hl, cu, ec, len⟩ := z
      have hn' : n < on.length := by
        have := (List.getElem?_eq_some_iff.mp hn).1
        rw [List.length_map, List.length_map] at this
        exact this
      obtain rfl : x = .int (on[n] : Int) := by
        rw [List.getElem?_map, List.getElem?_map, List.getElem?_eq_getElem hn'] at hn
        exact (Option.some.inj hn).symm
      rw [List.drop_eq_getElem_cons hn'] at ec
      generalize on[n] = dy at ec
      refine ⟨fun σ H2 => ∃ (ws : List V) (pre : List (Nat × Option Nat)), σ = [some (.ref tv), some (.ref l0), some (.int (bg : Int)), some (.int (dy : Int))] ∧ Same H H2 ∧ H2 l0 = some (.lst ws) ∧ CuV H2 ws pre ∧ cutsF 0 on = pre ++ (dy, some (dy + 1)) :: cutsF (dy + 1) (on.drop (n + 1)) ∧ ws.length ≤ 2 * n + 1, ?_, ?_⟩
      · refine s_when (b := decide ((bg : Int) < (dy : Int))) (et_test (ev_op (ev_var rfl) (ev_var rfl) (rv_I0 (g := fun i j => .bl (decide (i < j)))))) (fun hb H2 e2 => ?_) (fun hb H2 e2 => ?_)
        · have hb := of_decide_eq_true hb
          refine ⟨.ref l0, rfl, .inl ⟨rfl, _, .of (e2 _ _ hl)⟩, _, rfl, _, rfl, lt (show 2 ≤ 1000 by decide), fun p np => ?_⟩
          have s3 : Same H' (upd H2 p (.tup [V.int bg, V.int dy])) := Same.trans e2 (same_new np)
          refine ⟨l0, ws, .ref p, rfl, rfl, s3 _ _ hl, lt' (by omega), _, pre ++ [(bg, some dy)], rfl, same_put (sm.trans s3) n0, upd_same, ?_, ?_, by rw [List.length_append, List.length_singleton]; omega⟩
          · exact ((cu.s s3).app (ws := [.ref p]) (M := [(bg, some dy)]) ⟨⟨p, rfl, upd_same⟩, trivial⟩).put (s3 _ _ hl)
          · rw [ec, cutsF, if_pos (by omega), List.append_assoc]
        · have hb := of_decide_eq_false hb
          refine ⟨ws, pre, rfl, sm.trans e2, e2 _ _ hl, cu.s e2, ?_, by omega⟩
          rw [ec, cutsF, if_neg (by omega)]
          rfl
      · clear cu ec len hl sm
        rintro σ H2 ⟨ws, pre, rfl, sm, hl, cu, ec, len⟩
        refine ⟨.ref l0, rfl, .inl ⟨rfl, _, .of hl⟩, _, rfl, _, rfl, _, _, rfl, rfl, lt (show 2 ≤ 1000 by decide), fun p np => ?_⟩
        have s3 : Same H2 (upd H2 p (.tup [V.int dy, V.int (dy + 1)])) := same_new np
        refine ⟨l0, ws, .ref p, rfl, rfl, s3 _ _ hl, lt' (by omega), _, rfl, _, _, rfl, rfl, dy + 1, _, ws ++ [.ref p], pre ++ [(dy, some (dy + 1))], rfl, same_put (sm.trans s3) n0, upd_same, ?_, ?_, by rw [List.length_append, List.length_singleton]; omega⟩
        · exact ((cu.s s3).app (ws := [.ref p]) (M := [(dy, some (dy + 1))]) ⟨⟨p, rfl, upd_same⟩, trivial⟩).put (s3 _ _ hl)
        · rw [ec, List.append_assoc]
          rfl
    rintro σ H1 ⟨bg, v3, ws, pre, rfl, s1, l1, cu, ec, len⟩
    rw [List.length_map, List.length_map] at ec len
    rw [List.drop_length] at ec
    refine ⟨_, rfl, _, rfl, lt (show 2 ≤ 1000 by decide), fun p np => ⟨lt (show 1 ≤ 1000 by decide), fun l2 n2 => ?_⟩⟩
    have s2 : Same H1 (upd H1 p (.tup [V.int bg, .non])) := same_new np
    have s3 : Same H1 (upd (upd H1 p (.tup [V.int bg, .non])) l2 (.lst [.ref p])) := Same.trans s2 (same_new n2)
    refine ⟨l0, l2, ws, [.ref p], rfl, rfl, s3 _ _ l1, upd_same, lt (show ws.length + 1 ≤ 1000 by omega), fun l3 n3 => ?_⟩
    have s4 := Same.trans s3 (same_new (o := .lst (ws ++ [V.ref p])) n3)
    refine q l3 (ws ++ [.ref p]) _ (s1.trans s4) (fresh_back (s1.trans s3) n3) upd_same ?_
    rw [ec]
    refine CuV.app (ws := [.ref p]) (cu.s s4) (M := [(bg, none)]) ⟨⟨p, rfl, ?_⟩, trivial⟩
    exact same_new n3 _ _ (same_new n2 _ _ upd_same)
end
end Sea

set_option Elab.async false
set_option linter.all false
set_option maxRecDepth 100000
set_option maxHeartbeats 4000000
/-! class Curve: __init__, open_stretch -/
namespace Sea
open PySem PySem.Spec PyProof.Rows L2 LamX NdefX ClX Evl StX
theorem scCvI : FnScope ["self", "passes", "travel", "length", "price"] ["self", "passes", "travel"] (defScope sCvI) := ⟨rfl, rfl, rfl, by decide +kernel, rfl, by decide +kernel, by decide +kernel⟩
theorem scOpn : FnScope ["self", "begin", "end"] ["self"] (defScope sOpn) := ⟨rfl, rfl, rfl, by decide +kernel, rfl, by decide +kernel, by decide +kernel⟩
/-- a curve's fields -/
abbrev cvF (p tv : Addr) (R : Nat) (cu sts rec sn : Addr) : List (Str × V) := [("offers", .ref p), ("days_of_travel", .ref tv), ("reach", .int R), ("cuts", .ref cu), ("stretches", .ref sts), ("recent", .ref rec), ("seen", .ref sn)]
structure TCv (K : PySem.W.Frag) (mg : Str → Option Value) (CC : Addr) : Prop where
  cl : Cls K CC
  nO : NoAttr K CC "offers"
  nT : NoAttr K CC "days_of_travel"
  nR : NoAttr K CC "reach"
  nC : NoAttr K CC "cuts"
  nS : NoAttr K CC "stretches"
  nE : NoAttr K CC "recent"
  nN : NoAttr K CC "seen"
  gC : mg "Curve" = some (.ref CC)
  mX : mg "max" = none
  mM : mg "min" = none
  mN : mg "len" = none
  mI : mg "int" = none
  mT : mg "tuple" = none
theorem reach_of {g : Pc} (l1 : 1 ≤ g.ln) (l2 : g.ln ≤ 14) (ok : ∀ z ∈ g.L, PassOk z) {m : Int} (h : m ∈ g.L.map Prod.fst) (h2 : ∀ x ∈ g.L.map Prod.fst, x ≤ m) : ∃ R : Nat, m = (R : Int) ∧ Reach g R := by
  obtain ⟨z, hz, rfl⟩ := List.mem_map.mp h
  have p := ok z hz
  obtain ⟨R, hR⟩ := Int.eq_ofNat_of_zero_le (show 0 ≤ z.1 by have := p.1; omega)
  have p1 := p.1
  have p2 := p.2.1
  exact ⟨R, hR, l1, l2, ok, List.ne_nil_of_mem hz, fun y hy => by rw [← show (z.1 : Int) = (R : Int) from hR]; exact h2 _ (List.mem_map.mpr ⟨y, hy, rfl⟩), by omega, by omega⟩
/-- the keys that are noted up to day n of a stretch -/
def stK (g : Pc) (R k : Nat) : List Key := (stC g R k).map Sum.inl
def kvC (g : Pc) (R b n : Nat) : List (List Key × V) := ((List.range n).filter fun k => decide (((k : Nat) : Int).fmod g.ln = 0)).map fun k => (stK g R (b + k), V.int ((k : Nat) : Int))
/-- where a curve's parts lie -/
structure CvA where
  cv : Addr
  dx : Addr
  p : Addr
  tv : Addr
  cu : Addr
  sts : Addr
/-- a stretch of which something is known, and where it lies -/
structure Sg where
  s : SgP
  st : Addr
  dx : Addr
  tl : Addr
/-- what a curve leans on -/
structure Cvk (K : PySem.W.Frag) (CV : Addr) (g : Pc) (R : Nat) (on : List Nat) (H : Hp) (c : CvA) : Prop where
  icu : ∃ ws, H c.cu = some (.lst ws) ∧ CuV H ws (cutsF 0 on)
  tvl : ∃ dv ov, Tv K CV H c.tv g.ln dv ov g.ds g.os
  pas : ∃ ws, SqT K H c.p ws ∧ PsV K H ws g.L
  os : g.os = ofN on
  few : g.L.length ≤ 1000
  fo : on.length ≤ 100
  asc : on.Pairwise (· < ·)
  rc : Reach g R
  mx : ∀ o ∈ on, o ≤ 1000000000000000000
theorem Cvk.s {K : PySem.W.Frag} {CV : Addr} {g : Pc} {R : Nat} {on : List Nat} {H H' : Hp} {c : CvA} (h : Cvk K CV g R on H c) (e : Same H H') : Cvk K CV g R on H' c := by
  obtain ⟨⟨ws, h1, h2⟩, ⟨dv, ov, h3⟩, ⟨us, h4, h5⟩, h6, h7, h8, h9, h10, h11⟩ := h
  exact ⟨⟨ws, e _ _ h1, h2.s e⟩, ⟨dv, ov, h3.same e⟩, ⟨us, (TK.same e) _ _ h4, h5.tk (.same e)⟩, h6, h7, h8, h9, h10, h11⟩
/-- stretches that are known -/
def OldAt (ST : Addr) (g : Pc) (R : Nat) (H : Hp) (old : List Sg) : Prop := ∀ z ∈ old, SgAt ST g R H z.s z.st z.dx z.tl ∧ SgOk g R z.s
theorem OldAt.s {ST : Addr} {g : Pc} {R : Nat} {H H' : Hp} {old : List Sg} (h : OldAt ST g R H old) (e : Same H H') : OldAt ST g R H' old := fun z hz => ⟨(h z hz).1.s e, (h z hz).2⟩
def sts (old : List Sg) : List V := old.map fun z => .ref z.st
/-- what holds of a curve while it is made, behind the heap H0 in which all stands that does not change any more -/
structure Cvb (K : PySem.W.Frag) (CV CC ST : Addr) (g : Pc) (R : Nat) (on : List Nat) (H0 H : Hp) (c : CvA) (old : List Sg) (rec sn : Addr) (more : List V) : Prop where
  same : Same H0 H
  ncv : H0 c.cv = none
  nss : H0 c.sts = none
  k : Cvk K CV g R on H0 c
  oat : OldAt ST g R H0 old
  cuts : old.map (fun z => (z.s.b, z.s.e)) = (cutsF 0 on).take old.length
  icv : H c.cv = some (.ins CC c.dx (cvF c.p c.tv R c.cu c.sts rec sn))
  iss : H c.sts = some (.lst (sts old ++ more))
theorem Cvb.s {K : PySem.W.Frag} {CV CC ST : Addr} {g : Pc} {R : Nat} {on : List Nat} {H0 H H' : Hp} {c : CvA} {old : List Sg} {rec sn : Addr} {more : List V} (h : Cvb K CV CC ST g R on H0 H c old rec sn more) (e : Same H H') : Cvb K CV CC ST g R on H0 H' c old rec sn more :=
  ⟨h.same.trans e, h.ncv, h.nss, h.k, h.oat, h.cuts, e _ _ h.icv, e _ _ h.iss⟩
/-- .. while costs are added to the last stretch: k of them, keys noted up to n -/
structure Cvr (K : PySem.W.Frag) (CV CC ST : Addr) (g : Pc) (R : Nat) (on : List Nat) (H0 : Hp) (b : Nat) (e : Option Nat) (k n : Nat) (H : Hp) (c : CvA) (old : List Sg) (rec sn st dxs tl : Addr) : Prop where
  cb : Cvb K CV CC ST g R on H0 H c old rec sn [.ref st]
  cut : (cutsF 0 on)[old.length]? = some (b, e)
  nst : H0 st = none
  ntl : H0 tl = none
  nsn : H0 sn = none
  irec : H rec = some (.lst ((recs g R (b + k)).map V.int))
  ist : H st = some (.ins ST dxs (stF b e tl 0 0 0))
  itl : H tl = some (.lst (ctots g R b k))
  isn : H sn = some (.dT (kvC g R b n))
  nrt : rec ≠ tl
/-- .. when what repeats is found, or all is known -/
structure Cvd (K : PySem.W.Frag) (CV CC ST : Addr) (g : Pc) (R : Nat) (on : List Nat) (H0 : Hp) (H : Hp) (c : CvA) (old : List Sg) (rec sn : Addr) (z : Sg) : Prop where
  cb : Cvb K CV CC ST g R on H0 H c old rec sn [.ref z.st]
  cut : (cutsF 0 on)[old.length]? = some (z.s.b, z.s.e)
  at_ : SgAt ST g R H z.s z.st z.dx z.tl
  ok : SgOk g R z.s
section
variable {K : PySem.W.Frag} {σ : L2.St} {H : Hp} {te : TE} {D : Ends} {i : Nat} {a C dx : Addr} {fs : List (Str × V)} {f : Str} {v : V}
theorem s_fldE (h : Ev te σ H v) (hs : σ[i]? = some (some (.ref a))) (ha : H a = some (.ins C dx fs)) (cl : Cls K C) (n : NoAttr K C f) (l : fs.length < 1000) (k : ∀ H1, Ex H H1 → D.nx σ (upd H1 a (.ins C dx (putF f v fs)))) : sFld K (tVar i) te f D σ H :=
  h H (Ex.refl H) _ fun H1 e1 => ⟨_, hs, a, C, dx, fs, rfl, e1 _ _ ha, cl, n, l, k H1 e1⟩
theorem s_fldL {xs : List V} (h : EvL te σ H xs) (hs : σ[i]? = some (some (.ref a))) (ha : H a = some (.ins C dx fs)) (cl : Cls K C) (n : NoAttr K C f) (l : fs.length < 1000) (k : ∀ p H1, H p = none → Ex H H1 → H1 p = some (.lst xs) → D.nx σ (upd H1 a (.ins C dx (putF f (.ref p) fs)))) : sFld K (tVar i) te f D σ H :=
  h H (Ex.refl H) _ fun p H1 np e1 hp => ⟨_, hs, a, C, dx, fs, rfl, e1 _ _ ha, cl, n, l, k p H1 np e1 hp⟩
end
theorem CuV.ins {H : Hp} {vs : List V} {L : List (Nat × Option Nat)} {l C dx : Addr} {fs : List (Str × V)} {o : HO} (h : CuV H vs L) (e : H l = some (.ins C dx fs)) : CuV (upd H l o) vs L := h.mono fun p ys z => by
  rw [upd_ne (ne_of z e (fun z => nomatch z))]
  exact z
section
variable {P : Program} {w : World} {K : PySem.W.Frag} {mg : Str → Option Value} {base : Heap} {CV CC ST fVN fVC fRl pRl fRd pRd fEx pEx fCut fSt : Addr} {dVN dVC dRl dRd dEx dCut dSt : FuncData}
def spCvI (K : PySem.W.Frag) (CV CC : Addr) : Sp := fun vs H Q _ => ∃ (a dx p tv : Addr) (us : List V) (g : Pc) (on : List Nat) (dv ov : V), vs = [.ref a, .ref p, .ref tv] ∧ H a = some (.ins CC dx []) ∧ SqT K H p us ∧ PsV K H us g.L ∧ g.L.length ≤ 1000 ∧ g.L ≠ [] ∧ (∀ z ∈ g.L, PassOk z) ∧ 1 ≤ g.ln ∧ g.ln ≤ 14 ∧ Tv K CV H tv g.ln dv ov g.ds (ofN on) ∧ on.length ≤ 100 ∧
  ∀ (R : Nat) (cu sts rec sn : Addr) (ws : List V) H', Reach g R → KA a H H' → H' a = some (.ins CC dx (cvF p tv R cu sts rec sn)) → H' cu = some (.lst ws) → CuV H' ws (cutsF 0 on) → H sts = none → H' sts = some (.lst []) → H' rec = some (.lst ((recs g R 0).map V.int)) → Q .non H'
theorem KA.ne {a b : Addr} {H H1 : Hp} {o : HO} (e : H b = some o) (n : H a = none) : b ≠ a := fun z => by
  rw [z, n] at e
  cases e
theorem ok_cvI {f : Addr} {fd : FuncData} {k : Nat} (F : Fun K "__init__" "Curve.__init__" sCvI f fd) (T : TCv K mg CC) (TV : TTv K mg CV fVN fVC dVN dVC) (R : TPr K CV fRl pRl fRd pRd fEx pEx dRl dRd dEx) (FC : Fun K "cuts_of" "cuts_of" sCut fCut dCut) (gC : mg "cuts_of" = some (.ref fCut)) (kC : PySem.W.keepIn K (.ref fCut) = true) : FnOk P w K mg base CX0 (k + 4) f fd ["self", "passes", "travel"] (spCvI K CV CC) := by
  have bC : Binds K dCut ["travel"] [] := FC.binds (ps := ["travel"]) fun _ _ _ _ _ _ us hl => match us, hl with | [_], _ => rfl
  refine F.ok scCvI (fun vs H Q E h => ?_) (fun cdv A outer s H vs Q E hr h => ?_)
  · obtain ⟨a, dx, p, tv, us, g, on, dv, ov, rfl, _⟩ := h
    rfl
  · obtain ⟨a, dx, p, tv, us, g, on, dv, ov, rfl, ha, hp, hps, few, ne, ok, l1, l2, ht, fo, q⟩ := h
    have h3 := hr.mono (show 3 ≤ k + 3 by omega)
    refine ⟨_, pss_cons (ps_fld (pv 0) (pv 1) rfl) (pss_cons (ps_fld (pv 0) (pv 2) rfl)
      (pss_cut (ps_fld (pv 0) (pe_callB (cr_max rfl) (by rfl) T.mX (by decide +kernel) (pa_cons (pe_lc (own := [("length", 3), ("price", 4)]) (g := gTup K 2 (gCons (gName 3) (gCons (gName 4) gNil))) (by rfl) scCvI.nd (pi_tup (pv 1)) (blkOk_by (own := [("length", 3), ("price", 4)]) (N := ["self", "passes", "travel", "length", "price"]) (sc := defScope sCvI) (by decide +kernel)) (fun _ _ _ _ _ => pg_tupK rfl rfl (pgs_cons (pg_name (i := 3) scCvI.nd rfl (Or.inl rfl)) (pgs_cons (pg_name (i := 4) scCvI.nd rfl (Or.inl rfl)) pgs_nil))) (fun _ _ _ _ _ => pts_nil) (fun _ _ _ _ _ => pv 3)) pa_nil)) rfl)
      (pss_cut (ps_fld (pv 0) (pe_call (E := E0) (ok_cut (k := 0) FC TV R) h3 (by rfl) gC kC bC .nil pass0 (pa_cons (pv 2) pa_nil)) rfl)
      (pss_cut (ps_fld (pv 0) (pe_lst pa_nil) rfl)
      (pss_cut (ps_fld (pv 0) (pe_op op_rep (pe_lst (pa_cons pe_int pa_nil)) (pe_fld (pv 0) rfl)) rfl)
      (pss_one (ps_fld (pv 0) pe_dnewT rfl))))))), ?_⟩
    have lt : ∀ {n : Nat}, n ≤ 1000 → n ≤ sizeLine := fun h => Nat.le_of_lt (small1000 h)
    refine ⟨_, rfl, _, rfl, a, CC, dx, [], rfl, ha, T.cl, T.nO, by decide, _, rfl, _, rfl, a, CC, dx, _, rfl, upd_same, T.cl, T.nT, show 1 < 1000 by decide, ?_⟩
    have k0 : KA a H (upd (upd H a (.ins CC dx (putF "offers" (.ref p) []))) a (.ins CC dx (putF "days_of_travel" (.ref tv) (putF "offers" (.ref p) [])))) := KA.put (KA.put (fun b o e _ => e) (.inr rfl)) (.inr rfl)
    have a0 : (upd (upd H a (.ins CC dx (putF "offers" (.ref p) []))) a (.ins CC dx (putF "days_of_travel" (.ref tv) (putF "offers" (.ref p) [])))) a = some (.ins CC dx [("offers", .ref p), ("days_of_travel", .ref tv)]) := upd_same
    revert k0 a0
    generalize upd (upd H a (.ins CC dx (putF "offers" (.ref p) []))) a (.ins CC dx (putF "days_of_travel" (.ref tv) (putF "offers" (.ref p) []))) = H1
    intro k0 a0
    have tk : ∀ {H' : Hp}, KA a H H' → TK K H H' := fun k => k.tk ha
    -- the reach
    refine ⟨fun σ H' => σ = [some (.ref a), some (.ref p), some (.ref tv), none, none] ∧ ∃ R : Nat, Reach g R ∧ KA a H H' ∧ H' a = some (.ins CC dx [("offers", .ref p), ("days_of_travel", .ref tv), ("reach", .int R)]), ?_, ?_⟩
    · unfold sFld tCB tCons tNil
      refine (el_pairs (K := K) (σ := [some (.ref a), some (.ref p), some (.ref tv), none, none]) (te := tVar 3) (tl := tVar 1) (i := 3) (j := 4) (vs := [3, 4]) (fun z => .int z.1) (ev_var rfl) (tk k0 _ _ hp) (hps.tk (tk k0)) (by omega) (fun _ _ => rfl) (fun z H2 e2 hz => ev_var rfl)) H1 (Ex.refl _) _ fun D H2 nD e2 hD => ⟨D, g.L.map Prod.fst, rfl, .inl (.inl (by rw [hD, List.map_map]; rfl)), by rw [List.length_map]; exact List.length_pos_iff.mpr ne, fun m hm hle => ?_⟩
      obtain ⟨R, rfl, rc⟩ := reach_of l1 l2 ok hm hle
      exact ⟨_, rfl, a, CC, dx, _, rfl, e2 _ _ a0, T.cl, T.nR, show 2 < 1000 by decide, rfl, R, rc, KA.put (KA.same k0 e2) (.inr rfl), upd_same⟩
    clear k0 a0
    rintro σ H2 ⟨rfl, R', rc, k2, a2⟩
    -- the cuts
    refine ⟨fun σ H' => σ = [some (.ref a), some (.ref p), some (.ref tv), none, none] ∧ ∃ cu ws, KA a H H' ∧ H' cu = some (.lst ws) ∧ CuV H' ws (cutsF 0 on) ∧ H' a = some (.ins CC dx [("offers", .ref p), ("days_of_travel", .ref tv), ("reach", .int R'), ("cuts", .ref cu)]), ?_, ?_⟩
    · refine ⟨_, rfl, tv, g.ln, dv, ov, g.ds, on, rfl, k2.tv ha ht, fo, fun cu ws H3 s3 ncu hcu hpp => ⟨_, rfl, a, CC, dx, _, rfl, s3 _ _ a2, T.cl, T.nC, show 3 < 1000 by decide, rfl, cu, ws, KA.put (KA.same k2 s3) (.inr rfl), ?_, ?_, upd_same⟩⟩
      · rw [upd_ne (ne_of hcu (s3 _ _ a2) (fun z => nomatch z))]
        exact hcu
      · exact hpp.ins (s3 _ _ a2)
    clear k2 a2
    rintro σ H3 ⟨rfl, cu, ws, k3, hcu, hpp, a3⟩
    -- the stretches
    refine ⟨fun σ H' => σ = [some (.ref a), some (.ref p), some (.ref tv), none, none] ∧ ∃ sts, KA a H H' ∧ H' cu = some (.lst ws) ∧ CuV H' ws (cutsF 0 on) ∧ H sts = none ∧ H' sts = some (.lst []) ∧ H' a = some (.ins CC dx [("offers", .ref p), ("days_of_travel", .ref tv), ("reach", .int R'), ("cuts", .ref cu), ("stretches", .ref sts)]), ?_, ?_⟩
    · refine s_fldL (el_lst ea_nil (by decide)) rfl a3 T.cl T.nS (show 4 < 1000 by decide) fun sts H4 nst e4 hst => ⟨rfl, sts, KA.put (KA.same k3 e4) (.inr rfl), ?_, ?_, ?_, ?_, upd_same⟩
      · rw [upd_ne (ne_of (e4 _ _ hcu) (e4 _ _ a3) (fun z => nomatch z))]
        exact e4 _ _ hcu
      · exact (hpp.s e4).ins (e4 _ _ a3)
      · cases e : H sts with
        | none => rfl
        | some o =>
          have n : sts ≠ a := fun z => by
            rw [z, a3] at nst
            cases nst
          rw [k3 _ _ e n] at nst
          cases nst
      · rw [upd_ne (ne_of hst (e4 _ _ a3) (fun z => nomatch z))]
        exact hst
    clear k3 hcu hpp a3
    rintro σ H4 ⟨rfl, sts, k4, hcu, hpp, nst, hst, a4⟩
    -- the last costs
    refine ⟨fun σ H' => σ = [some (.ref a), some (.ref p), some (.ref tv), none, none] ∧ ∃ rec, KA a H H' ∧ H' cu = some (.lst ws) ∧ CuV H' ws (cutsF 0 on) ∧ H' sts = some (.lst []) ∧ H' rec = some (.lst ((recs g R' 0).map V.int)) ∧ H' a = some (.ins CC dx [("offers", .ref p), ("days_of_travel", .ref tv), ("reach", .int R'), ("cuts", .ref cu), ("stretches", .ref sts), ("recent", .ref rec)]), ?_, ?_⟩
    · refine ⟨lt (show 1 ≤ 1000 by decide), fun l0 nl0 => ?_⟩
      have e5 : Same H4 (upd H4 l0 (.lst [V.int 0])) := same_new nl0
      have r2 := rc.r2
      refine ⟨_, rfl, a, CC, dx, _, _, rfl, e5 _ _ a4, T.cl, T.nR, rfl, l0, (R' : Int), [.int 0], rfl, rfl, upd_same, by omega, by omega, lt (show 1 * ((R' : Int)).toNat ≤ 1000 by omega), fun rec nr => ?_⟩
      have e6 : Same H4 (upd (upd H4 l0 (.lst [V.int 0])) rec (.lst (List.replicate ((R' : Int)).toNat [V.int 0]).flatten)) := Same.trans e5 (same_new nr)
      have hr6 : (upd (upd H4 l0 (.lst [V.int 0])) rec (.lst (List.replicate ((R' : Int)).toNat [V.int 0]).flatten)) rec = some (.lst ((recs g R' 0).map V.int)) := by
        rw [upd_same]
        congr 2
        show (List.replicate R' [V.int 0]).flatten = (List.replicate R' (0 : Int)).map V.int
        rw [List.map_replicate]
        induction R' with
        | zero => rfl
        | succ n ih => exact congrArg (V.int 0 :: ·) (by
            have : ∀ m : Nat, (List.replicate m [V.int 0]).flatten = List.replicate m (V.int 0) := fun m => by
              induction m with
              | zero => rfl
              | succ m ih => exact congrArg (V.int 0 :: ·) ih
            exact this n)
      revert e6 hr6
      generalize upd (upd H4 l0 (.lst [V.int 0])) rec (.lst (List.replicate ((R' : Int)).toNat [V.int 0]).flatten) = H6
      intro e6 hr6
      refine ⟨_, rfl, a, CC, dx, _, rfl, e6 _ _ a4, T.cl, T.nE, show 5 < 1000 by decide, rfl, rec, KA.put (KA.same k4 e6) (.inr rfl), ?_, ?_, ?_, ?_, upd_same⟩
      · rw [upd_ne (ne_of (e6 _ _ hcu) (e6 _ _ a4) (fun z => nomatch z))]
        exact e6 _ _ hcu
      · exact (hpp.s e6).ins (e6 _ _ a4)
      · rw [upd_ne (ne_of (e6 _ _ hst) (e6 _ _ a4) (fun z => nomatch z))]
        exact e6 _ _ hst
      · rw [upd_ne (ne_of hr6 (e6 _ _ a4) (fun z => nomatch z))]
        exact hr6
    clear k4 hcu hpp hst a4
    rintro σ H5 ⟨rfl, rec, k5, hcu, hpp, hst, hr5, a5⟩
    -- no keys
    intro sn nsn
    have e6 : Same H5 (upd H5 sn (.dT [])) := same_new nsn
    refine ⟨_, rfl, a, CC, dx, _, rfl, e6 _ _ a5, T.cl, T.nN, show 6 < 1000 by decide, ?_⟩
    refine q R' cu sts rec sn ws _ rc (KA.put (KA.same k5 e6) (.inr rfl)) upd_same ?_ ?_ nst ?_ ?_
    · rw [upd_ne (ne_of (e6 _ _ hcu) (e6 _ _ a5) (fun z => nomatch z))]
      exact e6 _ _ hcu
    · exact (hpp.s e6).ins (e6 _ _ a5)
    · rw [upd_ne (ne_of (e6 _ _ hst) (e6 _ _ a5) (fun z => nomatch z))]
      exact e6 _ _ hst
    · rw [upd_ne (ne_of (e6 _ _ hr5) (e6 _ _ a5) (fun z => nomatch z))]
      exact e6 _ _ hr5
end
end Sea

set_option Elab.async false
set_option linter.all false
set_option maxRecDepth 100000
set_option maxHeartbeats 4000000
/-! class Curve: open_stretch, note_state -/
namespace Sea
open PySem PySem.Spec PyProof.Rows L2 LamX NdefX ClX Evl StX
/-- the function that makes a stretch -/
structure TMs (K : PySem.W.Frag) (ST fSt : Addr) (dSt : FuncData) : Prop where
  mkS : Mk K ST fSt
  fu : Fun K "__init__" "Stretch.__init__" sStI fSt dSt
theorem TMs.bi {K : PySem.W.Frag} {ST fSt : Addr} {dSt : FuncData} (T : TMs K ST fSt dSt) : Binds K dSt ["self", "begin", "end", "first"] [] := T.fu.binds (ps := ["self", "begin", "end", "first"]) fun _ _ _ _ _ _ us hl => match us, hl with | [_, _, _, _], _ => rfl
theorem ev_neg1 {σ : L2.St} {H : Hp} : Ev (tUn (rU fun i => .int (-i)) (tC (.int 1))) σ H (.int (-1)) := fun H1 e Q q => ⟨1, rfl, q H1 (Ex.refl _)⟩
theorem recs_last {g : Pc} {R : Nat} (h : Reach g R) (k : Nat) : atI ((recs g R k).map V.int) (-1) = some (.int (cst g R k)) := by
  rw [atI_map]
  unfold cst
  rw [show (-1 : Int) = -((1 : Nat) : Int) from rfl, recs_back h.r1 k 1 (Nat.le_refl 1) h.r1]
  rfl
theorem cutsF_len : ∀ (on : List Nat) (b : Nat), (cutsF b on).length ≤ 2 * on.length + 1
  | [], _ => Nat.le_refl _
  | o :: r, b => by
    have := cutsF_len r (o + 1)
    unfold cutsF
    rw [List.length_append, List.length_cons, List.length_cons]
    split
    · rw [List.length_singleton]
      omega
    · rw [List.length_nil]
      omega
section
variable {P : Program} {w : World} {K : PySem.W.Frag} {mg : Str → Option Value} {base : Heap} {CV CC ST fSt : Addr} {dSt : FuncData}
def spOpn (K : PySem.W.Frag) (CV CC ST : Addr) : Sp := fun vs H Q _ => ∃ (c : CvA) (rec sn : Addr) (g : Pc) (R : Nat) (on : List Nat) (H0 : Hp) (old : List Sg) (b : Nat) (e : Option Nat), vs = [.ref c.cv] ∧ Cvb K CV CC ST g R on H0 H c old rec sn [] ∧ H rec = some (.lst ((recs g R b).map V.int)) ∧ (cutsF 0 on)[old.length]? = some (b, e) ∧
  ∀ (st dxs tl sn' : Addr) H', Cvr K CV CC ST g R on H0 b e 0 0 H' c old rec sn' st dxs tl → Q .non H'
theorem ok_opn {f : Addr} {fd : FuncData} {k : Nat} (F : Fun K "open_stretch" "Curve.open_stretch" sOpn f fd) (T : TCv K mg CC) (TS : TSt K mg ST) (M : TMs K ST fSt dSt) : FnOk P w K mg base CX0 (k + 3) f fd ["self"] (spOpn K CV CC ST) := by
  refine F.ok scOpn (fun vs H Q E h => ?_) (fun cdv A outer s H vs Q E hr h => ?_)
  · obtain ⟨c, rec, sn, g, R, on, H0, old, b, e, rfl, _⟩ := h
    rfl
  · obtain ⟨c, rec, sn, g, R, on, H0, old, b, e, rfl, cb, hre, hcut, q⟩ := h
    have h2 := hr.mono (show 2 ≤ k + 2 by omega)
    have rc := cb.k.rc
    refine ⟨_, pss_cut (ps_asg (pe_ixl (pe_fld (pv 0) rfl) (pe_callB call_len_seq (by rfl) T.mN PySem.boot_len (pa_cons (pe_fld (pv 0) rfl) pa_nil))) (pg_tup rfl (pgs_cons (pg_name (i := 1) scOpn.nd rfl (.inl rfl)) (pgs_cons (pg_name (i := 2) scOpn.nd rfl (.inl rfl)) pgs_nil))))
      (pss_cut (ps_expr (pe_bm PySem.F.plainAttrs_list PySem.F.slot_list_append PySem.F.type_list_append mt_append (pe_fld (pv 0) rfl) (pa_cons (pe_make (E := E0) M.mkS (ok_stI (k := 0) M.fu TS) h2 (by rfl) TS.gS M.bi .nil pass0 (pa_cons (pv 1) (pa_cons (pv 2) (pa_cons (pe_ixl (pe_fld (pv 0) rfl) (pe_un un_neg pe_int)) pa_nil)))) pa_nil)))
      (pss_one (ps_fld (pv 0) pe_dnewT rfl))), ?_⟩
    have few : (sts old ++ []).length < sizeLine := by
      have h1 : old.length < (cutsF 0 on).length := (List.getElem?_eq_some_iff.mp hcut).1
      have h2 := cutsF_len on 0
      have h3 := cb.k.fo
      unfold sts
      rw [List.append_nil, List.length_map, sizeLine_eq]
      omega
    refine ⟨fun σ H' => σ = [some (.ref c.cv), some (.int (b : Int)), some (endV e)] ∧ Cvb K CV CC ST g R on H0 H' c old rec sn [] ∧ H' rec = some (.lst ((recs g R b).map V.int)), ?_, ?_⟩
    · obtain ⟨ws, hcu, cu⟩ := cb.k.icu
      obtain ⟨pp, hp1, hp2⟩ := cu.get hcut
      have lw := cu.len
      have l1 : old.length < (cutsF 0 on).length := (List.getElem?_eq_some_iff.mp hcut).1
      have hix : atI ws (((sts old ++ []).length : Nat) : Int) = some (.ref pp) := by
        have e : (sts old ++ ([] : List V)).length = old.length := by
          unfold sts
          rw [List.append_nil, List.length_map]
        rw [e]
        exact at_nat (by omega) hp1
      exact ⟨.ref c.cv, rfl, c.cv, CC, c.dx, _, _, rfl, cb.icv, T.cl, T.nC, rfl, .ref c.cv, rfl, c.cv, CC, c.dx, _, _, rfl, cb.icv, T.cl, T.nS, rfl, c.sts, _, rfl, .inl (.inl (.inl cb.iss)), c.cu, _, _, .ref pp, rfl, rfl, .inl (.inl (cb.same _ _ hcu)), hix, pp, _, rfl, .of (cb.same _ _ hp2), rfl, _, _, rfl, _, _, rfl, rfl, rfl, cb, hre⟩
    clear cb hre
    rintro σ H1 ⟨rfl, c1, hre⟩
    have icv := c1.icv
    refine ⟨fun σ H' => σ = [some (.ref c.cv), some (.int (b : Int)), some (endV e)] ∧ ∃ st dxs tl, Same H0 H' ∧ H0 st = none ∧ H0 tl = none ∧ H' c.cv = some (.ins CC c.dx (cvF c.p c.tv R c.cu c.sts rec sn)) ∧ H' c.sts = some (.lst (sts old ++ [.ref st])) ∧ H' rec = some (.lst ((recs g R b).map V.int)) ∧ H' st = some (.ins ST dxs (stF b e tl 0 0 0)) ∧ H' tl = some (.lst [.int (cst g R b)]) ∧ rec ≠ tl, ?_, ?_⟩
    · refine ⟨.ref c.cv, rfl, c.cv, CC, c.dx, _, _, rfl, icv, T.cl, T.nS, rfl, .inl ⟨rfl, _, .of c1.iss⟩, _, rfl, _, rfl, .ref c.cv, rfl, c.cv, CC, c.dx, _, _, rfl, icv, T.cl, T.nE, rfl, 1, rfl, rec, _, -1, .int (cst g R b), rfl, rfl, .inl (.inl hre), recs_last c1.k.rc b, fun x dxs nx ndx nd => ?_⟩
      refine ⟨x, dxs, b, e, cst g R b, rfl, upd_same, fun tl H2 ntl keep htl hst => ⟨rfl, ?_⟩⟩
      have old' : Same H1 H2 := fun b o e => keep b o (by rw [upd_ne (ne_of_none e nx), upd_ne (ne_of_none e ndx)]; exact e) (ne_of_none e nx)
      have n1 : H1 tl = none := by
        cases e : H1 tl with
        | none => rfl
        | some o => rw [upd_ne (ne_of_none e nx), upd_ne (ne_of_none e ndx), e] at ntl; cases ntl
      have s02 := c1.same.trans old'
      have nrs : rec ≠ c.sts := fun z => by
        have := c1.iss
        rw [← z, hre] at this
        injection this with this
        injection this with this
        have r1 := rc.r1
        have l := recs_len (g := g) r1 b
        cases hr : recs g R b with
        | nil => rw [hr, List.length_nil] at l; omega
        | cons a r =>
          rw [hr] at this
          cases ho : old with
          | nil => rw [ho] at this; cases this
          | cons a r => rw [ho] at this; cases this
      refine ⟨c.sts, sts old ++ [], .ref x, rfl, rfl, old' _ _ c1.iss, few, rfl, x, dxs, tl, same_put s02 c1.nss, fresh_back c1.same nx, fresh_back c1.same n1, ?_, ?_, ?_, ?_, ?_, fun z => ?_⟩
      · rw [upd_ne (ne_of icv c1.iss (fun z => nomatch z))]
        exact old' _ _ icv
      · rw [List.append_nil]
        exact upd_same
      · rw [upd_ne nrs]
        exact old' _ _ hre
      · rw [upd_ne (ne_of hst (old' _ _ c1.iss) (fun z => nomatch z))]
        exact hst
      · rw [upd_ne (ne_of_none c1.iss n1).symm]
        exact htl
      · rw [← z, hre] at n1
        cases n1
    have cuts := c1.cuts
    have k0 := c1.k
    have oat := c1.oat
    have ncv := c1.ncv
    have nss := c1.nss
    clear c1 hre icv
    rintro σ H2 ⟨rfl, st, dxs, tl, s2, n2, n3, hcv, hss, hre, hst, htl, nrt⟩
    -- no keys as yet
    intro sn2 nsn
    have e3 : Same H2 (upd H2 sn2 (.dT [])) := same_new nsn
    have ncc : ∀ {x : Addr} {o : HO}, H2 x = some o → o ≠ .ins CC c.dx (cvF c.p c.tv R c.cu c.sts rec sn) → (upd (upd H2 sn2 (.dT [])) c.cv (.ins CC c.dx (cvF c.p c.tv R c.cu c.sts rec sn2))) x = some o := fun {x o} e n => by
      rw [upd_ne (ne_of e hcv n)]
      exact e3 _ _ e
    refine ⟨.ref c.cv, rfl, c.cv, CC, c.dx, _, rfl, e3 _ _ hcv, T.cl, T.nN, show 7 < 1000 by decide, ?_⟩
    refine q st dxs tl sn2 _ ⟨⟨same_put (s2.trans e3) ncv, ncv, nss, k0, oat, cuts, upd_same, ncc hss (fun z => nomatch z)⟩, hcut, n2, n3, fresh_back s2 nsn, ncc hre (fun z => nomatch z), ncc hst (fun z => by injection z with _ _ z; have z := congrArg List.length z; cases z), ncc ?_ (fun z => nomatch z), ?_, nrt⟩
    · rw [htl]
      rfl
    · rw [upd_ne (fun z => by
        have z : sn2 = c.cv := z
        rw [z, hcv] at nsn
        cases nsn), upd_same]
      rfl
end
end Sea

set_option Elab.async false
set_option linter.all false
set_option maxRecDepth 100000
set_option maxHeartbeats 4000000
/-! class Curve: note_state -/
namespace Sea
open PySem PySem.Spec PyProof.Rows L2 LamX NdefX ClX Evl StX
abbrev NNo : List Str := ["self", "stretch", "place", "last", "state", "value"]
theorem scNot : FnScope NNo ["self", "stretch"] (defScope sNot) := ⟨rfl, rfl, rfl, by decide +kernel, rfl, by decide +kernel, by decide +kernel⟩
/-- a comprehension over a list of numbers, all of them -/
theorem el_mapI {K : PySem.W.Frag} {σ : L2.St} {H : Hp} {tl te : TE} {j : Nat} {vs : List Nat} {p : Addr} {ns : List Int} (φ : Int → V) (h : Ev tl σ H (.ref p)) (hx : H p = some (.lst (ns.map V.int))) (few : ns.length ≤ 40000)
    (hw : ∀ x, wipe ((wipe σ vs).set j (some x)) vs = wipe σ vs) (he : ∀ (z : Int) H1, Ex H H1 → Ev te ((wipe σ vs).set j (some (.int z))) H1 (φ z)) : EvL (tLc (iList K tl) (gName j) tYes te vs) σ H (ns.map φ) := fun H0 e Q q => h H0 e _ fun H1 e1 => by
  refine ⟨p, rfl, ⟨ns.map V.int, .inl (.inl (e1 _ _ (e _ _ hx)))⟩, fun D nD => ?_⟩
  refine lc_list (K := K) (xs := ns.map V.int) (fun n H' => Ex H1 H' ∧ H' D = some (.lst ((ns.take n).map φ))) ⟨Ex.new nD, upd_same⟩ (fun n H' _ z => .inl (.inl (z.1 _ _ (e1 _ _ (e _ _ hx))))) (fun n x H2 hn z => ?_) fun H2 z => ?_
  · rw [List.getElem?_map] at hn
    obtain ⟨y, hy, rfl⟩ := Option.map_eq_some_iff.mp hn
    have lt := (List.getElem?_eq_some_iff.mp hy).1
    refine ⟨hw _, t_yes (Eq.mpr (if_pos rfl) ?_)⟩
    refine he y H2 ((e.trans e1).trans z.1) H2 (Ex.refl _) _ fun H3 e3 => ⟨_, e3 _ _ z.2, sz_lt (by rw [List.length_map, List.length_take]; omega), Ex.mut (z.1.trans e3) nD, ?_⟩
    rw [upd_same, take_snoc hy, List.map_append]
    rfl
  · have e2 := z.2
    rw [List.length_map, List.take_length] at e2
    exact q D H2 (fresh_back e1 nD) (e1.trans z.1) e2
section
variable {g : Pc} {R b : Nat}
theorem stK_inj {i k : Nat} (h : stK g R i = stK g R k) : stC g R i = stC g R k := by
  unfold stK at h
  have inj : ∀ (a b : List Int), a.map (Sum.inl : Int → Key) = b.map Sum.inl → a = b := fun a => by
    induction a with
    | nil => intro b h; cases b with
      | nil => rfl
      | cons => cases h
    | cons x r ih => intro b h; cases b with
      | nil => cases h
      | cons y s =>
        injection h with h1 h2
        injection h1 with h1
        rw [h1, ih s h2]
  exact inj _ _ h
theorem stK_kV (k : Nat) : (stK g R k).map kV = (stC g R k).map V.int := by
  unfold stK
  rw [List.map_map]
  rfl
theorem kv_some {n k : Nat} {v : V} (h : valV (kvC g R b n) (stK g R (b + k)) = some v) : ∃ j, j < n ∧ (j : Int).fmod g.ln = 0 ∧ stC g R (b + j) = stC g R (b + k) ∧ v = .int (j : Int) := by
  unfold valV at h
  obtain ⟨p, hp, rfl⟩ := Option.map_eq_some_iff.mp h
  have e0 : decide (p.1 = stK g R (b + k)) = true := List.find?_some (p := fun kv : List Key × V => decide (kv.1 = stK g R (b + k))) hp
  have e1 := of_decide_eq_true e0
  obtain ⟨j, hj, rfl⟩ := List.mem_map.mp (List.mem_of_find?_eq_some hp)
  obtain ⟨h1, h2⟩ := List.mem_filter.mp hj
  exact ⟨j, List.mem_range.mp h1, of_decide_eq_true h2, stK_inj e1, rfl⟩
theorem kv_none {n k : Nat} (h : valV (kvC g R b n) (stK g R (b + k)) = none) : ∀ j, j < n → (j : Int).fmod g.ln = 0 → stC g R (b + j) ≠ stC g R (b + k) := fun j hj hm e => by
  unfold valV at h
  rw [Option.map_eq_none_iff, List.find?_eq_none] at h
  refine h (stK g R (b + j), V.int (j : Int)) (List.mem_map.mpr ⟨j, List.mem_filter.mpr ⟨List.mem_range.mpr hj, decide_eq_true hm⟩, rfl⟩) (decide_eq_true ?_)
  show stK g R (b + j) = stK g R (b + k)
  unfold stK
  rw [e]
theorem kvC_not {k : Nat} (h : (k : Int).fmod g.ln ≠ 0) : kvC g R b (k + 1) = kvC g R b k := by
  unfold kvC
  rw [List.range_succ, List.filter_append, List.filter_cons_of_neg (p := fun k : Nat => decide ((k : Int).fmod g.ln = 0)) (by rw [decide_eq_false h]; decide), List.filter_nil, List.append_nil]
theorem kvC_yes {k : Nat} (h : (k : Int).fmod g.ln = 0) : kvC g R b (k + 1) = kvC g R b k ++ [(stK g R (b + k), V.int (k : Int))] := by
  unfold kvC
  rw [List.range_succ, List.filter_append, List.map_append, List.filter_cons_of_pos (p := fun k : Nat => decide ((k : Int).fmod g.ln = 0)) (by exact decide_eq_true h)]
  rfl
theorem kvC_len (n : Nat) : (kvC g R b n).length ≤ n := by
  unfold kvC
  rw [List.length_map]
  have := List.length_filter_le (fun k => decide (((k : Nat) : Int).fmod g.ln = 0)) (List.range n)
  rw [List.length_range] at this
  exact this
theorem FreshS.not {k : Nat} (f : FreshS g R b k) (h : (k : Int).fmod g.ln ≠ 0) : FreshS g R b (k + 1) := fun i j hi hj h1 h2 => by
  by_cases e : j = k
  · rw [e] at h2
    exact absurd h2 h
  · exact f i j hi (by omega) h1 h2
theorem FreshS.yes {k : Nat} (f : FreshS g R b k) (h : ∀ j, j < k → (j : Int).fmod g.ln = 0 → stC g R (b + j) ≠ stC g R (b + k)) : FreshS g R b (k + 1) := fun i j hi hj h1 h2 => by
  by_cases e : j = k
  · rw [e] at hi ⊢
    exact h i hi h1
  · exact f i j hi (by omega) h1 h2
end
theorem ins_ne {C dx D dy : Addr} {fs gs : List (Str × V)} (n : fs.length ≠ gs.length) : HO.ins C dx fs ≠ .ins D dy gs := fun z => by
  injection z with _ _ z
  exact n (congrArg List.length z)
section
variable {K : PySem.W.Frag} {CV CC ST : Addr} {g : Pc} {R : Nat} {on : List Nat} {H0 H : Hp} {c : CvA} {old : List Sg} {rec sn : Addr} {more : List V} {o : HO}
theorem Cvb.putSt (h : Cvb K CV CC ST g R on H0 H c old rec sn more) {st C dxs : Addr} {fs : List (Str × V)} (n0 : H0 st = none) (e : H st = some (.ins C dxs fs)) (l : fs.length = 6) : Cvb K CV CC ST g R on H0 (upd H st o) c old rec sn more := by
  have n : ∀ {x : Addr} {u : HO}, H x = some u → u ≠ .ins C dxs fs → (upd H st o) x = some u := fun {x u} h ne => by
    rw [upd_ne (ne_of h e ne)]
    exact h
  exact ⟨same_put h.same n0, h.ncv, h.nss, h.k, h.oat, h.cuts, n h.icv (ins_ne (by rw [l]; exact show (7 : Nat) ≠ 6 by decide)), n h.iss (fun z => nomatch z)⟩
theorem Cvb.putSn (h : Cvb K CV CC ST g R on H0 H c old rec sn more) {kvs : List (List Key × V)} (n0 : H0 sn = none) (e : H sn = some (.dT kvs)) : Cvb K CV CC ST g R on H0 (upd H sn o) c old rec sn more := by
  have n : ∀ {x : Addr} {u : HO}, H x = some u → u ≠ .dT kvs → (upd H sn o) x = some u := fun {x u} h ne => by
    rw [upd_ne (ne_of h e ne)]
    exact h
  exact ⟨same_put h.same n0, h.ncv, h.nss, h.k, h.oat, h.cuts, n h.icv (fun z => nomatch z), n h.iss (fun z => nomatch z)⟩
theorem Cvr.s {H' : Hp} {b k n : Nat} {e : Option Nat} {st dxs tl : Addr} (h : Cvr K CV CC ST g R on H0 b e k n H c old rec sn st dxs tl) (x : Same H H') : Cvr K CV CC ST g R on H0 b e k n H' c old rec sn st dxs tl :=
  ⟨h.cb.s x, h.cut, h.nst, h.ntl, h.nsn, x _ _ h.irec, x _ _ h.ist, x _ _ h.itl, x _ _ h.isn, h.nrt⟩
theorem Cvd.s {H' : Hp} {z : Sg} (h : Cvd K CV CC ST g R on H0 H c old rec sn z) (x : Same H H') : Cvd K CV CC ST g R on H0 H' c old rec sn z := ⟨h.cb.s x, h.cut, h.at_.s x, h.ok⟩
end
section
variable {P : Program} {w : World} {K : PySem.W.Frag} {mg : Str → Option Value} {base : Heap} {CV CC ST fVN fVC fRl pRl fRd pRd fEx pEx : Addr} {dVN dVC dRl dRd dEx : FuncData}
/-- a stretch may be gone on with -/
structure May (g : Pc) (R b : Nat) (e : Option Nat) (k : Nat) : Prop where
  cut : Cut g b e
  low : Low e (b + k)
  fr : FreshS g R b k
  few : ∀ d, Low e (b + d) → FreshS g R b d → d ≤ 10000000
def spNot (K : PySem.W.Frag) (CV CC ST : Addr) : Sp := fun vs H Q _ => ∃ (c : CvA) (rec sn st dxs tl : Addr) (g : Pc) (R : Nat) (on : List Nat) (H0 : Hp) (old : List Sg) (b : Nat) (e : Option Nat) (k : Nat), vs = [.ref c.cv, .ref st] ∧ Cvr K CV CC ST g R on H0 b e k k H c old rec sn st dxs tl ∧ May g R b e k ∧
  (∀ H', Cvr K CV CC ST g R on H0 b e k (k + 1) H' c old rec sn st dxs tl → FreshS g R b (k + 1) → Q .non H') ∧ ∀ j H', Cvd K CV CC ST g R on H0 H' c old rec sn ⟨⟨b, e, k, j, true⟩, st, dxs, tl⟩ → Q .non H'
theorem ok_not {f : Addr} {fd : FuncData} {k : Nat} (F : Fun K "note_state" "Curve.note_state" sNot f fd) (T : TCv K mg CC) (TS : TSt K mg ST) (TV : TTv K mg CV fVN fVC dVN dVC) (RR : TPr K CV fRl pRl fRd pRd fEx pEx dRl dRd dEx) : FnOk P w K mg base CX0 (k + 3) f fd ["self", "stretch"] (spNot K CV CC ST) := by
  refine F.ok scNot (fun vs H Q E h => ?_) (fun cdv A outer s H vs Q E hr h => ?_)
  · obtain ⟨c, rec, sn, st, dxs, tl, g, R, on, H0, old, b, e, k, rfl, _⟩ := h
    rfl
  · obtain ⟨c, rec, sn, st, dxs, tl, g, R, on, H0, old, b, en, k, rfl, c0, may, q1, q2⟩ := h
    have h2 := hr.mono (show 2 ≤ _ + 2 by omega)
    have hu1 : (A.deeper (envOfC "Curve.note_state" (defScope sNot) s.heap.objs.size f cdv)).units + 1 < cLine := Nat.lt_of_le_of_lt (Nat.add_le_add_left (by decide : 1 ≤ 64) _) hr.units
    refine ⟨_, pss_cons (ps_set (i := 2) scNot.nd rfl (.inl rfl) (pe_op op_sub (pe_callB call_len_seq (by rfl) T.mN PySem.boot_len (pa_cons (pe_fld (pv 1) rfl) pa_nil)) pe_int))
      (pss_one (ps_if (pt_cmpR op_eq (pe_op op_modN (pe_callTy call_int1 (by rfl) T.mI (by rfl) (pa_cons (pv 2) pa_nil)) (pe_rl RR TV h2 (pe_fld (pv 0) rfl))) pe_int (nomark _))
        (pss_cons (ps_set (i := 3) scNot.nd rfl (.inr rfl) (pe_ixl (pe_fld (pv 0) rfl) (pe_un un_neg pe_int)))
        (pss_cut (ps_set (i := 4) scNot.nd rfl (.inl rfl) (pe_callTy call_tuple_of (by rfl) T.mT (by rfl) (pa_cons (pe_lc (own := [("value", 5)]) (g := gName 5) (by rfl) scNot.nd (pi_list (pe_fld (pv 0) rfl)) (blkOk_by (own := [("value", 5)]) (N := NNo) (sc := defScope sNot) (by decide +kernel)) (fun _ _ _ _ _ => pg_name (i := 5) scNot.nd rfl (Or.inl rfl)) (fun _ _ _ _ _ => pts_nil) (fun _ _ _ _ _ => pe_op op_sub (pv 3) (pv 5))) pa_nil)))
        (pss_cut (ps_if (pt_cmp (pc_din hu1 (pv 4) (pe_fld (pv 0) rfl)))
          (pss_cons (ps_fld (pv 1) (pe_dget hu1 (pe_fld (pv 0) rfl) (pv 4) (fun _ _ => rfl)) rfl)
          (pss_cons (ps_fld (pv 1) (pe_op op_sub (pv 2) (pe_fld (pv 1) rfl)) rfl)
          (pss_one (ps_fld (pv 1) (pe_op op_sub (pv 3) (pe_ixl (pe_fld (pv 1) rfl) (pe_fld (pv 1) rfl))) rfl)))) pss_nil)
        (pss_one (ps_asg (pv 2) (pg_sub (pe_fld (pv 0) rfl) (pv 4) (set_dict hu1))))))) pss_nil)), ?_⟩
    have lt : ∀ {n : Nat}, n ≤ 1000 → n ≤ sizeLine := fun h => Nat.le_of_lt (small1000 h)
    have few1 := may.few k may.low may.fr
    have fr := may.fr
    obtain ⟨dv, ov, ht0⟩ := c0.cb.k.tvl
    have rc := c0.cb.k.rc
    have l1 := rc.l1
    refine q_asg (v := .int (k : Int)) (ev_is (ev_op (ev_len (fld_ev (σ := [some (.ref c.cv), some (.ref st), none, none, none, none]) (i := 1) TS.cl TS.nT rfl c0.ist rfl) (sq_of c0.itl)) ev_c (rv_I0 (g := fun i j => .int (i - j)) (i := ((ctots g R b k).length : Int)) (j := 1))) (by rw [ctots_len]; congr 1; omega)) fun H1 e1 => ?_
    have c1 := c0.s e1
    have eM : Ev (tOp (rI (fun _ j => j ≠ 0) fun i j => .int (i.fmod j)) (tInt (tVar 2)) (tProp CV (getSp CV "size") [] E0 (tFld K (tVar 0) "days_of_travel"))) [some (.ref c.cv), some (.ref st), some (.int (k : Int)), none, none, none] H1 (.int ((k : Int).fmod g.ln)) := ev_op (ev_int1 (ev_var rfl)) (fun H2 e2 Q2 q2 => by
      have ht2 := ht0.same (c1.cb.same.trans e2)
      obtain ⟨⟨dxt, hti⟩, _⟩ := id ht2
      exact ⟨_, rfl, c.cv, CC, c.dx, _, _, rfl, e2 _ _ c1.cb.icv, T.cl, T.nT, rfl, c.tv, dxt, _, rfl, hti, c.tv, dxt, _, _, rfl, hti, tvF_size .., q2 H2 (Ex.refl _)⟩) (rv_I (C := fun _ j => j ≠ 0) (g := fun i j => .int (i.fmod j)) (i := (k : Int)) (j := g.ln) (by omega))
    refine s_when (b := decide (V.int ((k : Int).fmod g.ln) = V.int 0)) (et_test (ev_op eM ev_c (rv_eq rfl))) (fun hb H2 e2 => ?_) (fun hb H2 e2 => ?_)
    rotate_left
    · have hm : (k : Int).fmod g.ln ≠ 0 := fun z => by
        rw [z] at hb
        exact absurd hb (by decide)
      have c2 := c1.s e2
      exact q1 H2 ⟨c2.cb, c2.cut, c2.nst, c2.ntl, c2.nsn, c2.irec, c2.ist, c2.itl, by rw [kvC_not hm]; exact c2.isn, c2.nrt⟩ (fr.not hm)
    have hm : (k : Int).fmod g.ln = 0 := by
      have := of_decide_eq_true hb
      injection this
    have c2 := c1.s e2
    refine q_asg (v := .int (cst g R (b + k))) (ev_op (fld_ev T.cl T.nE rfl c2.cb.icv rfl) ev_neg1 (rv_ixL (.inl (.inl c2.irec)) (recs_last rc (b + k)))) fun H3 e3 => ?_
    have c3 := c2.s e3
    -- the key
    refine ⟨fun σ H' => ∃ ky : Addr, σ = [some (.ref c.cv), some (.ref st), some (.int (k : Int)), some (.int (cst g R (b + k))), some (.ref ky), none] ∧ Cvr K CV CC ST g R on H0 b en k k H' c old rec sn st dxs tl ∧ H' ky = some (.tup ((stK g R (b + k)).map kV)), ?_, ?_⟩
    · have r2 := rc.r2
      have eL : EvL (tLc (iList K (tFld K (tVar 0) "recent")) (gName 5) tYes (tOp (rI0 fun i j => .int (i - j)) (tVar 3) (tVar 5)) [5]) [some (.ref c.cv), some (.ref st), some (.int (k : Int)), some (.int (cst g R (b + k))), none, none] H3 ((recs g R (b + k)).map fun z => V.int (cst g R (b + k) - z)) := el_mapI (K := K) (j := 5) (vs := [5]) (fun z => .int (cst g R (b + k) - z)) (fld_ev T.cl T.nE rfl c3.cb.icv rfl) c3.irec (by rw [recs_len rc.r1]; omega) (fun _ => rfl) (fun z H4 e4 => ev_op (ev_var rfl) (ev_var rfl) rv_I0)
      unfold tAsg tCB tCons tNil
      refine eL H3 (Ex.refl _) _ fun l H4 nl e4 hl => ⟨l, _, rfl, .inl ⟨.of hl, fun ky nst => ?_⟩⟩
      refine ⟨ky, rfl, (c3.s e4).s (same_new nst), ?_⟩
      rw [upd_same, stK_kV]
      unfold stC
      rw [List.map_map]
      rfl
    clear eM c1 c2 c3
    rintro σ H4 ⟨ky, rfl, c4, hst⟩
    -- noted before?
    refine ⟨fun σ H' => σ = [some (.ref c.cv), some (.ref st), some (.int (k : Int)), some (.int (cst g R (b + k))), some (.ref ky), none] ∧ H' ky = some (.tup ((stK g R (b + k)).map kV)) ∧ H' sn = some (.dT (kvC g R b k)) ∧ H' c.cv = some (.ins CC c.dx (cvF c.p c.tv R c.cu c.sts rec sn)) ∧ ((Cvr K CV CC ST g R on H0 b en k k H' c old rec sn st dxs tl ∧ FreshS g R b (k + 1) ∧ valV (kvC g R b k) (stK g R (b + k)) = none) ∨ ∃ j, Cvd K CV CC ST g R on H0 H' c old rec sn ⟨⟨b, en, k, j, true⟩, st, dxs, tl⟩), ?_, ?_⟩
    · refine ⟨_, rfl, _, rfl, c.cv, CC, c.dx, _, _, rfl, c4.cb.icv, T.cl, T.nN, rfl, sn, _, rfl, .t c4.isn hst, _, rfl, ?_⟩
      cases hv : valV (kvC g R b k) (stK g R (b + k)) with
      | none => exact ⟨rfl, hst, c4.isn, c4.cb.icv, .inl ⟨c4, fr.yes (kv_none hv), rfl⟩⟩
      | some v =>
        obtain ⟨j, hj, hjm, hjs, rfl⟩ := kv_some hv
        have dg := DGet.t (k := stK g R (b + k)) c4.isn hst
        rw [hv] at dg
        have n1 : ∀ {x : Addr} {o : HO}, H4 x = some o → (∀ fs, o ≠ .ins ST dxs fs) → x ≠ st := fun {x o} e n => ne_of e c4.ist (n _)
        refine ⟨_, rfl, c.cv, CC, c.dx, _, _, rfl, c4.cb.icv, T.cl, T.nN, rfl, _, rfl, sn, .int (j : Int), rfl, dg, _, rfl, st, ST, dxs, _, rfl, c4.ist, TS.cl, TS.nS, show 6 < 1000 by decide, ?_⟩
        have b5 := c4.cb.putSt (o := .ins ST dxs (putF "start" (.int (j : Int)) (stF b en tl 0 0 0))) c4.nst c4.ist rfl
        have ntl : tl ≠ st := n1 c4.itl fun _ z => nomatch z
        have nsn : sn ≠ st := n1 c4.isn fun _ z => nomatch z
        have nkey : ky ≠ st := n1 hst fun _ z => nomatch z
        refine ⟨_, rfl, _, rfl, st, ST, dxs, _, _, rfl, upd_same, TS.cl, TS.nS, rfl, _, _, rfl, rfl, _, rfl, st, ST, dxs, _, rfl, upd_same, TS.cl, TS.nD, show 6 < 1000 by decide, ?_⟩
        have b6 := b5.putSt (o := .ins ST dxs (putF "days" (.int ((k : Int) - (j : Int))) (putF "start" (.int (j : Int)) (stF b en tl 0 0 0)))) (fs := putF "start" (.int (j : Int)) (stF b en tl 0 0 0)) c4.nst upd_same rfl
        refine ⟨_, rfl, _, rfl, st, ST, dxs, _, _, rfl, upd_same, TS.cl, TS.nT, rfl, _, rfl, st, ST, dxs, _, _, rfl, upd_same, TS.cl, TS.nS, rfl, tl, _, (j : Int), _, rfl, rfl, .inl (.inl (by rw [upd_ne ntl, upd_ne ntl]; exact c4.itl)), ctots_at g R b (Nat.le_of_lt hj), _, _, rfl, rfl, _, rfl, st, ST, dxs, _, rfl, upd_same, TS.cl, TS.nG, show 6 < 1000 by decide, ?_⟩
        have b7 := b6.putSt (o := .ins ST dxs (putF "gain" (.int (cst g R (b + k) - cst g R (b + j))) (putF "days" (.int ((k : Int) - (j : Int))) (putF "start" (.int (j : Int)) (stF b en tl 0 0 0))))) (fs := putF "days" (.int ((k : Int) - (j : Int))) (putF "start" (.int (j : Int)) (stF b en tl 0 0 0))) c4.nst upd_same rfl
        refine ⟨rfl, ?_, ?_, b7.icv, .inr ⟨j, b7, c4.cut, ⟨upd_same, ?_⟩, ⟨may.cut, few1, may.low, fun _ => ⟨hj, hjm, hm, hjs, fr⟩, fun z => nomatch z⟩⟩⟩
        · rw [upd_ne nkey, upd_ne nkey, upd_ne nkey]
          exact hst
        · rw [upd_ne nsn, upd_ne nsn, upd_ne nsn]
          exact c4.isn
        · rw [upd_ne ntl, upd_ne ntl, upd_ne ntl]
          exact c4.itl
    have nst4 := c4.nst
    have ntl4 := c4.ntl
    have nsn4 := c4.nsn
    clear c4 hst
    rintro σ H5 ⟨rfl, hst5, isn5, icv5, res⟩
    have fits : (kvC g R b k).length < sizeLine := by
      have := kvC_len (g := g) (R := R) (b := b) k
      rw [sizeLine_eq]
      omega
    refine ⟨_, rfl, _, rfl, c.cv, CC, c.dx, _, _, rfl, icv5, T.cl, T.nN, rfl, _, rfl, sn, _, rfl, DPut.t isn5 hst5 fits, ?_⟩
    rcases res with ⟨c5, fr5, nv⟩ | ⟨j, d5⟩
    · refine q1 _ ⟨c5.cb.putSn c5.nsn c5.isn, c5.cut, c5.nst, c5.ntl, c5.nsn, ?_, ?_, ?_, ?_, c5.nrt⟩ fr5
      · rw [upd_ne (ne_of c5.irec c5.isn (fun z => nomatch z))]
        exact c5.irec
      · rw [upd_ne (ne_of c5.ist c5.isn (fun z => nomatch z))]
        exact c5.ist
      · rw [upd_ne (ne_of c5.itl c5.isn (fun z => nomatch z))]
        exact c5.itl
      · rw [upd_same, putK_new _ nv, kvC_yes hm]
    · refine q2 j _ ⟨d5.cb.putSn nsn4 isn5, d5.cut, ⟨?_, ?_⟩, d5.ok⟩
      · rw [upd_ne (ne_of d5.at_.ia isn5 (fun z => nomatch z))]
        exact d5.at_.ia
      · rw [upd_ne (ne_of d5.at_.it isn5 (fun z => nomatch z))]
        exact d5.at_.it
end
end Sea

set_option Elab.async false
set_option linter.all false
set_option maxRecDepth 100000
set_option maxHeartbeats 4000000
/-! travels_on; class Curve: add_day -/
namespace Sea
open PySem PySem.Spec PyProof.Rows L2 LamX NdefX ClX Evl StX
abbrev NAd : List Str := ["self", "stretch", "day", "cost", "length", "price"]
theorem scAdd : FnScope NAd ["self", "stretch"] (defScope sAdd) := ⟨rfl, rfl, rfl, by decide +kernel, rfl, by decide +kernel, by decide +kernel⟩
section
variable {K : PySem.W.Frag} {ta tb : TE} {σ : L2.St} {H : Hp}
theorem el_catN {xs zs : List V} (ha : EvL ta σ H xs) (hb : EvL tb σ H zs) (few : xs.length + zs.length ≤ 100000) : EvL (tOp rCat ta tb) σ H (xs ++ zs) := fun H1 e Q q =>
  ha H1 e _ fun l H2 _ e2 hx => hb H2 (e.trans e2) _ fun p H3 np e3 hp => ⟨l, p, xs, zs, rfl, rfl, e3 _ _ hx, hp, sz_of few, fun r nr => q r _ (fresh_back (e2.trans e3) nr) ((e2.trans e3).trans (Ex.new nr)) upd_same⟩
end
theorem cst_nxt {g : Pc} {R : Nat} (h : Reach g R) (k : Nat) : cst g R (k + 1) = nxt g k (recs g R k) := by
  unfold cst
  rw [show (-1 : Int) = -((1 : Nat) : Int) from rfl, atI_back (Nat.le_refl 1) (by rw [recs_len h.r1]; exact h.r1), recs_len h.r1]
  show (((recs g R k).drop 1 ++ [nxt g k (recs g R k)])[R - 1]?).getD 0 = _
  have := recs_len (g := g) h.r1 k
  have r1 := h.r1
  rw [List.getElem?_append_right (by rw [List.length_drop, this]; exact Nat.le_refl _), List.length_drop, this, Nat.sub_self]
  rfl
section
variable {P : Program} {w : World} {K : PySem.W.Frag} {mg : Str → Option Value} {base : Heap} {CV CC ST fVN fVC fRl pRl fRd pRd fEx pEx fNot fTo : Addr} {dVN dVC dRl dRd dEx dNot dTo : FuncData}
def spAdd (K : PySem.W.Frag) (CV CC ST : Addr) : Sp := fun vs H Q _ => ∃ (c : CvA) (rec sn st dxs tl : Addr) (g : Pc) (R : Nat) (on : List Nat) (H0 : Hp) (old : List Sg) (b : Nat) (e : Option Nat) (k : Nat), vs = [.ref c.cv, .ref st] ∧ Cvr K CV CC ST g R on H0 b e k k H c old rec sn st dxs tl ∧ May g R b e k ∧
  (∀ rec' H', Cvr K CV CC ST g R on H0 b e (k + 1) (k + 1) H' c old rec' sn st dxs tl → FreshS g R b (k + 1) → Q .non H') ∧ ∀ j H', Cvd K CV CC ST g R on H0 H' c old rec sn ⟨⟨b, e, k, j, true⟩, st, dxs, tl⟩ → Q .non H'
structure TAd (K : PySem.W.Frag) (CV CC fNot fTo : Addr) (dNot dTo : FuncData) : Prop where
  mN : Meth K CC "note_state" fNot
  uN : Fun K "note_state" "Curve.note_state" sNot fNot dNot
  mT : Meth K CV "travels_on" fTo
  uT : Fun K "travels_on" "Travel.travels_on" sTo fTo dTo
theorem ok_add {f : Addr} {fd : FuncData} {k : Nat} (F : Fun K "add_day" "Curve.add_day" sAdd f fd) (T : TCv K mg CC) (TS : TSt K mg ST) (TV : TTv K mg CV fVN fVC dVN dVC) (RR : TPr K CV fRl pRl fRd pRd fEx pEx dRl dRd dEx) (M : TAd K CV CC fNot fTo dNot dTo) : FnOk P w K mg base CX0 (k + 5) f fd ["self", "stretch"] (spAdd K CV CC ST) := by
  have bN : Binds K dNot ["self", "stretch"] [] := M.uN.binds (ps := ["self", "stretch"]) fun _ _ _ _ _ _ us hl => match us, hl with | [_, _], _ => rfl
  have bT : Binds K dTo ["self", "day"] [] := M.uT.binds (ps := ["self", "day"]) fun _ _ _ _ _ _ us hl => match us, hl with | [_, _], _ => rfl
  refine F.ok scAdd (fun vs H Q E h => ?_) (fun cdv A outer s H vs Q E hr h => ?_)
  · obtain ⟨c, rec, sn, st, dxs, tl, g, R, on, H0, old, b, e, k, rfl, _⟩ := h
    rfl
  · obtain ⟨c, rec, sn, st, dxs, tl, g, R, on, H0, old, b, en, k, rfl, c0, may, q1, q2⟩ := h
    refine ⟨_, pss_cut (ps_expr (pe_meth (pv 0) T.cl M.mN (ok_not (k := 0) M.uN T TS TV RR) (hr.mono (by omega)) bN .nil pass0 (pa_cons (pv 1) pa_nil)))
      (pss_one (ps_if (pt_cmpR op_eq (pe_fld (pv 1) rfl) pe_int (nomark _))
        (pss_cut (ps_par (i := 2) (j := 3) rfl scAdd.nd rfl rfl (by decide) rfl rfl (pa_cons (pe_op op_sub (pe_op op_add (pe_fld (pv 1) rfl) (pe_callB call_len_seq (by rfl) T.mN PySem.boot_len (pa_cons (pe_fld (pv 1) rfl) pa_nil))) pe_int) (pa_cons (pe_ixl (pe_fld (pv 0) rfl) (pe_un un_neg pe_int)) pa_nil)) (by rfl))
        (pss_cut (ps_if (pt_val (pe_meth (pe_fld (pv 0) rfl) TV.cl M.mT (ok_to (k := 0) M.uT TV T.mI) (hr.mono (by omega)) bT .nil pass0 (pa_cons (pv 2) pa_nil)))
          (pss_one (ps_set (i := 3) scAdd.nd rfl (.inl rfl) (pe_callB (cr_min rfl) (by rfl) T.mM (by decide +kernel) (pa_cons (pe_lc (own := [("length", 4), ("price", 5)]) (g := gTup K 2 (gCons (gName 4) (gCons (gName 5) gNil))) (by rfl) scAdd.nd (pi_tup (pe_fld (pv 0) rfl)) (blkOk_by (own := [("length", 4), ("price", 5)]) (N := NAd) (sc := defScope sAdd) (by decide +kernel)) (fun _ _ _ _ _ => pg_tupK rfl rfl (pgs_cons (pg_name (i := 4) scAdd.nd rfl (Or.inl rfl)) (pgs_cons (pg_name (i := 5) scAdd.nd rfl (Or.inl rfl)) pgs_nil))) (fun _ _ _ _ _ => pts_nil)
            (fun _ _ _ _ _ => pe_op op_add (pe_ixlK K rfl (pe_fldK K rfl (pv 0) rfl) (pe_op op_sub pe_int (pv 4))) (pv 5))) pa_nil)))) pss_nil)
        (pss_cut (ps_fld (pv 0) (pe_op op_cat (pe_slice sl_list (pe_fld (pv 0) rfl) (po_some pe_int) po_none) (pe_lst (pa_cons (pv 3) pa_nil))) rfl)
        (pss_one (ps_expr (pe_bm PySem.F.plainAttrs_list PySem.F.slot_list_append PySem.F.type_list_append mt_append (pe_fld (pv 1) rfl) (pa_cons (pv 3) pa_nil))))))) pss_nil)), ?_⟩
    have lt : ∀ {n : Nat}, n ≤ 1000 → n ≤ sizeLine := fun h => Nat.le_of_lt (small1000 h)
    have rc := c0.cb.k.rc
    have l1 := rc.l1
    have few1 := may.few k may.low may.fr
    refine ⟨fun σ H' => σ = [some (.ref c.cv), some (.ref st), none, none, none, none] ∧ ((Cvr K CV CC ST g R on H0 b en k (k + 1) H' c old rec sn st dxs tl ∧ FreshS g R b (k + 1)) ∨ ∃ j, Cvd K CV CC ST g R on H0 H' c old rec sn ⟨⟨b, en, k, j, true⟩, st, dxs, tl⟩), ?_, ?_⟩
    · exact ⟨_, rfl, c.cv, c.dx, _, rfl, c0.cb.icv, rfl, _, rfl, c, rec, sn, st, dxs, tl, g, R, on, H0, old, b, en, k, rfl, c0, may, fun H1 c1 f1 => ⟨rfl, .inl ⟨c1, f1⟩⟩, fun j H1 d1 => ⟨rfl, .inr ⟨j, d1⟩⟩⟩
    rintro σ H1 ⟨rfl, res⟩
    rcases res with ⟨c1, fr1⟩ | ⟨j, d1⟩
    rotate_left
    · have lt1 := (d1.ok.yes rfl).lt
      have lt1 : j < k := lt1
      exact s_when (b := decide (V.int ((k : Int) - (j : Int)) = V.int 0)) (et_test (ev_op (fld_ev (σ := [some (.ref c.cv), some (.ref st), none, none, none, none]) (i := 1) TS.cl TS.nD rfl d1.at_.ia rfl) ev_c (rv_eq rfl))) (fun hb => by
        have := of_decide_eq_true hb
        injection this
        omega) (fun _ H2 e2 => q2 j H2 (d1.s e2))
    refine s_when (b := decide (V.int 0 = V.int 0)) (et_test (ev_op (fld_ev (σ := [some (.ref c.cv), some (.ref st), none, none, none, none]) (i := 1) TS.cl TS.nD rfl c1.ist rfl) ev_c (rv_eq rfl))) (fun _ H2 e2 => ?_) (fun hb => absurd hb (by decide))
    have c2 := c1.s e2
    -- the day, the cost so far
    obtain ⟨dv, ov, ht0⟩ := c2.cb.k.tvl
    obtain ⟨ws, hp0, hps0⟩ := c2.cb.k.pas
    refine ⟨fun σ H' => σ = [some (.ref c.cv), some (.ref st), some (.int ((b + k : Nat) : Int)), some (.int (cst g R (b + k))), none, none] ∧ Cvr K CV CC ST g R on H0 b en k (k + 1) H' c old rec sn st dxs tl, ?_, ?_⟩
    · refine ⟨_, rfl, st, ST, dxs, _, _, rfl, c2.ist, TS.cl, TS.nB, rfl, _, rfl, st, ST, dxs, _, _, rfl, c2.ist, TS.cl, TS.nT, rfl, tl, _, rfl, .inl (.inl (.inl c2.itl)), _, _, rfl, rfl, _, _, rfl, rfl, _, rfl, c.cv, CC, c.dx, _, _, rfl, c2.cb.icv, T.cl, T.nE, rfl, 1, rfl, rec, _, -1, _, rfl, rfl, .inl (.inl c2.irec), recs_last rc (b + k), _, _, rfl, ?_, c2⟩
      have hd : ((b + k : Nat) : Int) = (b : Int) + ((ctots g R b k).length : Int) - 1 := by
        rw [ctots_len]
        omega
      rw [hd]
      rfl
    clear c2 c1
    rintro σ H2 ⟨rfl, c2⟩
    refine ⟨fun σ H' => σ = [some (.ref c.cv), some (.ref st), some (.int ((b + k : Nat) : Int)), some (.int (cst g R (b + k + 1))), none, none] ∧ Cvr K CV CC ST g R on H0 b en k (k + 1) H' c old rec sn st dxs tl, ?_, ?_⟩
    · have ht2 := ht0.same c2.cb.same
      obtain ⟨⟨dxt, hti⟩, _⟩ := id ht2
      refine ⟨_, rfl, c.cv, CC, c.dx, _, _, rfl, c2.cb.icv, T.cl, T.nT, rfl, c.tv, dxt, _, rfl, hti, rfl, _, rfl, c.tv, g.ln, ((b + k : Nat) : Int), dv, ov, g.ds, g.os, rfl, ht2, by omega, fun H3 s3 => ⟨_, rfl, ?_⟩⟩
      have c3 := c2.s s3
      by_cases hg : gos g (b + k) = true
      · refine Eq.mpr (if_pos hg) ?_
        have eL : EvL (tLc (iTup K (tFld K (tVar 0) "offers")) (gTup K 2 (gCons (gName 4) (gCons (gName 5) gNil))) tYes (tOp (rI0 fun i j => .int (i + j)) (tOp (rIxL K) (tFld K (tVar 0) "recent") (tOp (rI0 fun i j => .int (i - j)) (tC (.int 0)) (tVar 4))) (tVar 5)) [4, 5]) [some (.ref c.cv), some (.ref st), some (.int ((b + k : Nat) : Int)), some (.int (cst g R (b + k))), none, none] H3 (g.L.map fun z => V.int ((atI (recs g R (b + k)) (0 - z.1)).getD 0 + z.2)) := el_pairs (K := K) (i := 4) (j := 5) (vs := [4, 5]) (fun z => .int ((atI (recs g R (b + k)) (0 - z.1)).getD 0 + z.2)) (fld_ev T.cl T.nO rfl c3.cb.icv rfl) ((TK.same c3.cb.same) _ _ hp0) (hps0.tk (.same c3.cb.same)) (by have := c3.cb.k.few; omega) (fun _ _ => rfl) (fun z H4 e4 hz => ?_)
        · unfold tAsg tCB tCons tNil
          refine eL H3 (Ex.refl _) _ fun l H4 nl e4 hl => ⟨l, g.L.map fun z => (atI (recs g R (b + k)) (0 - z.1)).getD 0 + z.2, rfl, .inl (.inl (by rw [hl, List.map_map]; rfl)), by rw [List.length_map]; exact List.length_pos_iff.mpr rc.ne, fun m hm hle => ?_⟩
          have := least_one hm hle
          have e : m = cst g R (b + k + 1) := by
            rw [cst_nxt rc (b + k)]
            unfold nxt
            rw [if_pos hg]
            exact this
          rw [e]
          exact ⟨rfl, c3.s e4⟩
        · have c4 := c3.s e4
          have p1 := (rc.ok z hz).1
          have le := rc.le z hz
          obtain ⟨j, hj⟩ := Int.eq_ofNat_of_zero_le (show 0 ≤ z.1 by omega)
          have at_ : atI ((recs g R (b + k)).map V.int) (0 - z.1) = some (.int ((atI (recs g R (b + k)) (0 - z.1)).getD 0)) := by
            rw [atI_map, show (0 : Int) - z.1 = -((j : Nat) : Int) by omega, recs_back rc.r1 (b + k) j (by omega) (by omega)]
            rfl
          exact ev_op (ev_op (fld_ev T.cl T.nE rfl c4.cb.icv rfl) (ev_op ev_c (ev_var rfl) (rv_I0 (g := fun i j => .int (i - j)))) (rv_ixL (.inl (.inl c4.irec)) at_)) (ev_var rfl) rv_I0
      · refine Eq.mpr (if_neg hg) ?_
        have e : cst g R (b + k + 1) = cst g R (b + k) := by
          rw [cst_nxt rc (b + k)]
          unfold nxt
          rw [if_neg hg]
          rfl
        rw [e]
        exact ⟨rfl, c3⟩
    clear c2
    rintro σ H3 ⟨rfl, c3⟩
    -- the last costs
    refine ⟨fun σ H' => ∃ rec', σ = [some (.ref c.cv), some (.ref st), some (.int ((b + k : Nat) : Int)), some (.int (cst g R (b + k + 1))), none, none] ∧ Cvb K CV CC ST g R on H0 H' c old rec' sn [.ref st] ∧ (cutsF 0 on)[old.length]? = some (b, en) ∧ H0 st = none ∧ H0 tl = none ∧ H0 sn = none ∧ H' rec' = some (.lst ((recs g R (b + k + 1)).map V.int)) ∧ H' st = some (.ins ST dxs (stF b en tl 0 0 0)) ∧ H' tl = some (.lst (ctots g R b k)) ∧ H' sn = some (.dT (kvC g R b (k + 1))) ∧ rec' ≠ tl, ?_, ?_⟩
    · have r2 := rc.r2
      have eS : EvL (tOp rCat (tSl (rSlL K) (tFld K (tVar 0) "recent") (tPart (tC (.int 1))) tNoPart) (tLst (tCons (tVar 3) tNil))) [some (.ref c.cv), some (.ref st), some (.int ((b + k : Nat) : Int)), some (.int (cst g R (b + k + 1))), none, none] H3 (cutV ((recs g R (b + k)).map V.int) (some 1) none ++ [.int (cst g R (b + k + 1))]) := el_catN (el_sl (fld_ev T.cl T.nE rfl c3.cb.icv rfl) (eo_some ev_c) eo_none (sq_of c3.irec)) (el_lst (ea_cons (ev_var rfl) ea_nil) (show 1 ≤ 100000 by decide)) (by have := cutV_length ((recs g R (b + k)).map V.int) (some 1) none; rw [List.length_map, recs_len rc.r1] at this; show _ + 1 ≤ 100000; omega)
      refine s_fldL eS rfl c3.cb.icv T.cl T.nE (show 7 < 1000 by decide) fun r2 H4 nr e4 hr4 => ?_
      have c4 := c3.s e4
      have hcut : cutV ((recs g R (b + k)).map V.int) (some 1) none ++ [.int (cst g R (b + k + 1))] = (recs g R (b + k + 1)).map V.int := by
        rw [cst_nxt rc (b + k)]
        show _ = ((recs g R (b + k)).drop 1 ++ [nxt g (b + k) (recs g R (b + k))]).map V.int
        rw [List.map_append, List.map_drop]
        congr 1
        unfold cutV
        rw [show (some (1 : Int)) = some ((1 : Nat) : Int) from rfl, HT.sIx_nat, HT.sIx_none, List.length_map, recs_len rc.r1, Nat.min_eq_left rc.r1, List.take_of_length_le (by rw [List.length_drop, List.length_map, recs_len rc.r1]; exact Nat.le_refl _)]
      rw [hcut] at hr4
      have n : ∀ {x : Addr} {u : HO}, H4 x = some u → u ≠ .ins CC c.dx (cvF c.p c.tv R c.cu c.sts rec sn) → ∀ o, (upd H4 c.cv o) x = some u := fun {x u} h ne o => by
        rw [upd_ne (ne_of h c4.cb.icv ne)]
        exact h
      refine ⟨r2, rfl, ⟨same_put c4.cb.same c4.cb.ncv, c4.cb.ncv, c4.cb.nss, c4.cb.k, c4.cb.oat, c4.cb.cuts, upd_same, n c4.cb.iss (fun z => nomatch z) _⟩, c4.cut, c4.nst, c4.ntl, c4.nsn, n hr4 (fun z => nomatch z) _, n c4.ist (ins_ne (show (6 : Nat) ≠ 7 by decide)) _, n c4.itl (fun z => nomatch z) _, n c4.isn (fun z => nomatch z) _, fun z => ?_⟩
      rw [z, c3.itl] at nr
      cases nr
    clear c3
    rintro σ H4 ⟨rec', rfl, b4, hcut, n1, n2, n3, hr4, hst4, htl4, hsn4, nrt⟩
    -- the row of costs
    have nt : ∀ {x : Addr} {u : HO}, H4 x = some u → u ≠ .lst (ctots g R b k) → ∀ o, (upd H4 tl o) x = some u := fun {x u} h ne o => by
      rw [upd_ne (ne_of h htl4 ne)]
      exact h
    have rows : ∀ x : Addr, ∀ d, (sts old ++ [.ref x] : List V) ≠ ctots g R b d := fun x d z => by
      have h0 := ctots_at g R b (Nat.zero_le d)
      rw [← z] at h0
      cases ho : old with
      | nil => rw [ho] at h0; cases h0
      | cons y r =>
        rw [ho] at h0
        have h1 : atI (sts (y :: r) ++ [V.ref x]) ((0 : Nat) : Int) = some (.ref y.st) := at_nat (by rw [List.length_append, List.length_singleton]; omega) rfl
        rw [h1] at h0
        cases h0
    refine ⟨_, rfl, st, ST, dxs, _, _, rfl, hst4, TS.cl, TS.nT, rfl, .inl ⟨rfl, _, .of htl4⟩, _, rfl, tl, _, _, rfl, rfl, htl4, by rw [ctots_len, sizeLine_eq]; omega, ?_⟩
    refine q1 rec' _ ⟨⟨same_put b4.same n2, b4.ncv, b4.nss, b4.k, b4.oat, b4.cuts, nt b4.icv (fun z => nomatch z) _, nt b4.iss (fun z => by injection z with z; exact rows _ _ z) _⟩, hcut, n1, n2, n3, ?_, nt hst4 (fun z => nomatch z) _, ?_, nt hsn4 (fun z => nomatch z) _, nrt⟩ fr1
    · rw [upd_ne nrt]
      exact hr4
    · rw [upd_same, ctots_snoc]
      rfl
end
end Sea

set_option Elab.async false
set_option linter.all false
set_option maxRecDepth 100000
set_option maxHeartbeats 4000000
/-! class Curve: known, close_stretch -/
namespace Sea
open PySem PySem.Spec PyProof.Rows L2 LamX NdefX ClX Evl StX
/-! ### plain -/
theorem exists_last (p : Nat → Prop) [DecidablePred p] (h0 : p 0) : ∀ m, 0 < m → ∃ i, i < m ∧ p i ∧ ∀ j, i < j → j < m → ¬ p j
  | 0, h => absurd h (Nat.lt_irrefl 0)
  | m + 1, _ => by
    by_cases c : p m
    · exact ⟨m, Nat.lt_succ_self m, c, fun j h1 h2 => by omega⟩
    · by_cases z : m = 0
      · exact absurd (z ▸ h0) c
      · obtain ⟨i, h1, h2, h3⟩ := exists_last p h0 m (by omega)
        exact ⟨i, by omega, h2, fun j h4 h5 => by
          by_cases e : j = m
          · rw [e]
            exact c
          · exact h3 j h4 (by omega)⟩
theorem given_last {f : Nat → Bool} {v : Nat → V} {i : Nat} (hp : f i = true) : ∀ m, i < m → (∀ j, i < j → j < m → f j = false) → atI (given m f v) (-1) = some (v i)
  | 0, h, _ => absurd h (Nat.not_lt_zero i)
  | m + 1, h, hn => by
    have e : given (m + 1) f v = given m f v ++ (if f m = true then [v m] else []) := by
      unfold given
      rw [List.range_succ, List.filter_append, List.map_append]
      congr 1
      cases c : f m with
      | true => rw [List.filter_cons_of_pos (by exact c)]; rfl
      | false => rw [List.filter_cons_of_neg (by rw [c]; decide)]; rfl
    rw [e]
    by_cases c : i = m
    · subst c
      rw [if_pos hp, show (-1 : Int) = -((1 : Nat) : Int) from rfl, atI_back (Nat.le_refl 1) (by rw [List.length_append, List.length_singleton]; omega), List.length_append, List.length_singleton, Nat.add_sub_cancel, List.getElem?_append_right (Nat.le_refl _), Nat.sub_self]
      rfl
    · rw [if_neg (by rw [hn m (by omega) (by omega)]; decide), List.append_nil]
      exact given_last hp m (by omega) fun j h1 h2 => hn j h1 (by omega)
theorem Chn.at0 : ∀ {l : List (Nat × Option Nat)} {b : Nat}, Chn b l → ∃ e, l[0]? = some (b, e)
  | [], _, h => h.elim
  | (x, none) :: _, _, h => ⟨none, by rw [← h.1]; rfl⟩
  | (x, some y) :: _, _, h => ⟨some y, by rw [← h.1]; rfl⟩
theorem Chn.pair : ∀ {l : List (Nat × Option Nat)} {b : Nat}, Chn b l → ∀ {i : Nat} {x y : Nat × Option Nat}, l[i]? = some x → l[i + 1]? = some y → x.2 = some y.1 ∧ x.1 < y.1
  | [], _, h, _, _, _, _, _ => h.elim
  | (x, none) :: r, _, h, i, a, c, h1, h2 => by
    rw [h.2] at h2
    cases h2
  | (x, some y) :: r, b, h, 0, a, c, h1, h2 => by
    obtain ⟨e, he⟩ := h.2.2.at0
    cases h1
    have h2 : r[0]? = some c := h2
    rw [he] at h2
    cases h2
    exact ⟨rfl, by rw [h.1]; exact h.2.1⟩
  | (x, some y) :: r, b, h, i + 1, a, c, h1, h2 => h.2.2.pair (i := i) h1 h2
theorem Chn.last : ∀ {l : List (Nat × Option Nat)} {b : Nat}, Chn b l → ∃ x, l[l.length - 1]? = some (x, none)
  | [], _, h => h.elim
  | (x, none) :: r, _, h => ⟨x, by rw [h.2]; rfl⟩
  | (x, some y) :: r, b, h => by
    obtain ⟨z, hz⟩ := h.2.2.last
    cases r with
    | nil => exact h.2.2.elim
    | cons a r => exact ⟨z, hz⟩
theorem Chn.ne {l : List (Nat × Option Nat)} {b : Nat} (h : Chn b l) : l ≠ [] := fun z => by
  rw [z] at h
  exact h
theorem cuts_chn {on : List Nat} (h : on.Pairwise (· < ·)) : Chn 0 (cutsF 0 on) := cutsF_chn on 0 (fun o _ => Nat.zero_le o) h
section
variable {g : Pc} {R : Nat}
theorem recs_nil (rc : Reach g R) : ∀ x : Nat, recs g R x = List.replicate (R - min (x + 1) R) 0 ++ (List.range (min (x + 1) R)).map fun i => cst g R (x + 1 - min (x + 1) R + i) := fun x => by
  have hl := recs_len (g := g) rc.r1 x
  refine List.ext_getElem? fun i => ?_
  by_cases hi : i < R
  · have hb := recs_back (g := g) rc.r1 x (R - i) (by omega) (by omega)
    rw [atI_back (by omega) (by rw [hl]; omega), hl, show R - (R - i) = i by omega] at hb
    rw [hb]
    by_cases c : i < R - min (x + 1) R
    · rw [List.getElem?_append_left (by rw [List.length_replicate]; exact c), List.getElem?_replicate, if_pos c, if_neg (by omega)]
    · rw [List.getElem?_append_right (by rw [List.length_replicate]; omega), List.length_replicate, List.getElem?_map, List.getElem?_range (by omega)]
      show _ = some (cst g R (x + 1 - min (x + 1) R + (i - (R - min (x + 1) R))))
      by_cases d : R - i ≤ x
      · rw [if_pos d]
        congr 2
        omega
      · rw [if_neg d, show x + 1 - min (x + 1) R + (i - (R - min (x + 1) R)) = 0 by omega, cst_0 rc.r1]
  · rw [List.getElem?_eq_none (by omega), List.getElem?_eq_none (by rw [List.length_append, List.length_replicate, List.length_map, List.length_range]; omega)]
end
/-! ### readings -/
section
variable {K : PySem.W.Frag} {te : TE} {σ : L2.St} {H : Hp}
/-- a comprehension over a range, all of it -/
theorem el_rng {ta : TA} {lo hi : Int} {j : Nat} {vs : List Nat} (φ : Nat → V) (h : EvA ta σ H [.int lo, .int hi]) (hb : -(2 ^ 62) ≤ lo ∧ lo < 2 ^ 62 ∧ -(2 ^ 62) ≤ hi ∧ hi < 2 ^ 62) (few : (hi - lo).toNat ≤ 40000) (hw : ∀ x, wipe ((wipe σ vs).set j (some x)) vs = wipe σ vs)
    (he : ∀ (i : Nat) H1, Ex H H1 → i < (hi - lo).toNat → Ev te ((wipe σ vs).set j (some (.int (lo + (i : Int))))) H1 (φ i)) : EvL (tLc (iRng2 ta) (gName j) tYes te vs) σ H ((List.range (hi - lo).toNat).map φ) := fun H0 e Q q => h H0 e _ fun H1 e1 => ⟨lo, hi, rfl, hb, fun D nD =>
  lc_range (lo := lo) (n := (hi - lo).toNat) (fun n H' => Ex H1 H' ∧ H' D = some (.lst ((List.range n).map φ))) ⟨Ex.new nD, upd_same⟩ (fun i H' hi' p => ⟨hw _, t_yes (Eq.mpr (if_pos rfl) (he i H' ((e.trans e1).trans p.1) hi' H' (Ex.refl _) _ fun H3 e3 => ⟨_, e3 _ _ p.2, sz_lt (by rw [List.length_map, List.length_range]; omega), Ex.mut (p.1.trans e3) nD, by
    rw [upd_same, List.range_succ, List.map_append]
    rfl⟩))⟩) (fun H' p => q D H' (fresh_back e1 nD) (e1.trans p.1) p.2)⟩
end
theorem scKno : FnScope ["self", "count", "stretch"] ["self", "count"] (defScope sKno) := ⟨rfl, rfl, rfl, by decide +kernel, rfl, by decide +kernel, by decide +kernel⟩
/-- a curve whose stretches are known -/
structure Knw (CC ST : Addr) (g : Pc) (R : Nat) (on : List Nat) (H : Hp) (c : CvA) (all : List Sg) (rec sn : Addr) : Prop where
  icv : H c.cv = some (.ins CC c.dx (cvF c.p c.tv R c.cu c.sts rec sn))
  iss : H c.sts = some (.lst (sts all))
  oat : OldAt ST g R H all
  cuts : all.map (fun z => (z.s.b, z.s.e)) = (cutsF 0 on).take all.length
  asc : on.Pairwise (· < ·)
  fo : on.length ≤ 100
  rc : Reach g R
  ne : all ≠ []
theorem Knw.s {CC ST : Addr} {g : Pc} {R : Nat} {on : List Nat} {H H' : Hp} {c : CvA} {all : List Sg} {rec sn : Addr} (h : Knw CC ST g R on H c all rec sn) (e : Same H H') : Knw CC ST g R on H' c all rec sn := ⟨e _ _ h.icv, e _ _ h.iss, h.oat.s e, h.cuts, h.asc, h.fo, h.rc, h.ne⟩
theorem Knw.at_ {CC ST : Addr} {g : Pc} {R : Nat} {on : List Nat} {H : Hp} {c : CvA} {all : List Sg} {rec sn : Addr} (h : Knw CC ST g R on H c all rec sn) {i : Nat} {z : Sg} (hz : all[i]? = some z) : (cutsF 0 on)[i]? = some (z.s.b, z.s.e) := by
  have lt := (List.getElem?_eq_some_iff.mp hz).1
  have e := congrArg (fun l => l[i]?) h.cuts
  have e : (all.map (fun z => (z.s.b, z.s.e)))[i]? = ((cutsF 0 on).take all.length)[i]? := e
  rw [List.getElem?_map, hz, List.getElem?_take_of_lt lt] at e
  exact e.symm
/-- the stretch that knows n -/
theorem Knw.find {CC ST : Addr} {g : Pc} {R : Nat} {on : List Nat} {H : Hp} {c : CvA} {all : List Sg} {rec sn : Addr} (h : Knw CC ST g R on H c all rec sn) (n : Nat) (lo : ∀ z : Sg, all[all.length - 1]? = some z → Low z.s.e n) : ∃ (i : Nat) (z : Sg), all[i]? = some z ∧ z.s.b ≤ n ∧ Low z.s.e n ∧ ∀ (j : Nat) (y : Sg), i < j → all[j]? = some y → n < y.s.b := by
  have ch := cuts_chn h.asc
  have pos : 0 < all.length := List.length_pos_iff.mpr h.ne
  obtain ⟨e0, h0⟩ := ch.at0
  have b0 : ∀ z : Sg, all[0]? = some z → z.s.b = 0 := fun z hz => by
    have := h.at_ hz
    rw [h0] at this
    injection this with this
    injection this with this
    exact this.symm
  obtain ⟨i, h1, h2, h3⟩ := exists_last (fun i => ∀ z : Sg, all[i]? = some z → z.s.b ≤ n) (fun z hz => by rw [b0 z hz]; exact Nat.zero_le n) all.length pos
  refine ⟨i, all[i], List.getElem?_eq_getElem h1, h2 _ (List.getElem?_eq_getElem h1), ?_, fun j y hj hy => ?_⟩
  · by_cases c : i + 1 < all.length
    · have hz := h.at_ (List.getElem?_eq_getElem h1)
      have hy := h.at_ (List.getElem?_eq_getElem c)
      obtain ⟨p1, p2⟩ := ch.pair hz hy
      have := h3 (i + 1) (Nat.lt_succ_self i) c
      refine fun x hx => ?_
      have p1 : all[i].s.e = some all[i + 1].s.b := p1
      rw [p1] at hx
      injection hx with hx
      by_cases le : all[i + 1].s.b ≤ n
      · exact absurd (fun z hz => by
          rw [List.getElem?_eq_getElem c] at hz
          injection hz with hz
          rw [← hz]
          exact le) this
      · omega
    · exact lo _ (by rw [show all.length - 1 = i by omega]; exact List.getElem?_eq_getElem h1)
  · have lt := (List.getElem?_eq_some_iff.mp hy).1
    have := h3 j hj lt
    by_cases le : y.s.b ≤ n
    · exact absurd (fun z hz => by
        rw [hy] at hz
        injection hz with hz
        rw [← hz]
        exact le) this
    · omega
end Sea

set_option Elab.async false
set_option linter.all false
set_option maxRecDepth 100000
set_option maxHeartbeats 4000000
/-! class Curve: known, close_stretch -/
namespace Sea
open PySem PySem.Spec PyProof.Rows L2 LamX NdefX ClX Evl StX
theorem scClo : FnScope ["self", "stretch", "begin", "found", "count"] ["self", "stretch"] (defScope sClo) := ⟨rfl, rfl, rfl, by decide +kernel, rfl, by decide +kernel, by decide +kernel⟩
/-- H without what lies at a and b -/
def less2 (H : Hp) (a b : Addr) : Hp := fun c => if c = a ∨ c = b then none else H c
theorem less2_same {H : Hp} {a b : Addr} : Same (less2 H a b) H := fun c u e => by
  unfold less2 at e
  split at e
  · cases e
  · exact e
theorem same_less2 {H0 H : Hp} {a b : Addr} (s : Same H0 H) (na : H0 a = none) (nb : H0 b = none) : Same H0 (less2 H a b) := fun c u e => by
  unfold less2
  rw [if_neg (fun z => by rcases z with z | z <;> (rw [z] at e; first | (rw [na] at e; cases e) | (rw [nb] at e; cases e)))]
  exact s c u e
theorem less2_at {H : Hp} {a b c : Addr} (h1 : c ≠ a) (h2 : c ≠ b) : less2 H a b c = H c := if_neg fun z => z.elim h1 h2
theorem rep_flat (x : V) : ∀ m : Nat, (List.replicate m [x]).flatten = List.replicate m x
  | 0 => rfl
  | m + 1 => congrArg (x :: ·) (rep_flat x m)
theorem sts_len (all : List Sg) : (sts all).length = all.length := List.length_map ..
/-- value, known -/
structure TKn (K : PySem.W.Frag) (CC ST fKno fVal : Addr) (dKno dVal : FuncData) : Prop where
  mK : Meth K CC "known" fKno
  uK : Fun K "known" "Curve.known" sKno fKno dKno
  mV : Meth K ST "value" fVal
  uV : Fun K "value" "Stretch.value" sVal fVal dVal
section
variable {P : Program} {w : World} {K : PySem.W.Frag} {mg : Str → Option Value} {base : Heap} {CV CC ST fKno fVal : Addr} {dKno dVal : FuncData}
def spKno (CC ST : Addr) : Sp := fun vs H Q _ => ∃ (c : CvA) (rec sn : Addr) (g : Pc) (R : Nat) (on : List Nat) (all : List Sg) (n : Nat), vs = [.ref c.cv, .int n] ∧ Knw CC ST g R on H c all rec sn ∧ (∀ z : Sg, all[all.length - 1]? = some z → Low z.s.e n) ∧ n ≤ 2000000000000000000 ∧ ∀ H', Same H H' → Q (.int (cst g R n)) H'
theorem ok_kno {k : Nat} (Z : TKn K CC ST fKno fVal dKno dVal) (T : TCv K mg CC) (TS : TSt K mg ST) : FnOk P w K mg base CX0 (k + 2) fKno dKno ["self", "count"] (spKno CC ST) := by
  have bV : Binds K dVal ["self", "count"] [] := Z.uV.binds (ps := ["self", "count"]) fun _ _ _ _ _ _ us hl => match us, hl with | [_, _], _ => rfl
  refine Z.uK.ok scKno (fun vs H Q E h => ?_) (fun cdv A outer s H vs Q E hr h => ?_)
  · obtain ⟨c, rec, sn, g, R, on, all, n, rfl, _⟩ := h
    rfl
  · obtain ⟨c, rec, sn, g, R, on, all, n, rfl, kw, lo, nb, q⟩ := h
    refine ⟨_, pss_one (ps_ret (pe_meth (pe_ixl (pe_lc (own := [("stretch", 2)]) (g := gName 2) (by rfl) scKno.nd (pi_list (pe_fld (pv 0) rfl)) (blkOk_by (own := [("stretch", 2)]) (N := ["self", "count", "stretch"]) (sc := defScope sKno) (by decide +kernel)) (fun _ _ _ _ _ => pg_name (i := 2) scKno.nd rfl (Or.inl rfl)) (fun _ _ _ _ _ => pts_one (pt_cmpR op_le (pe_fldK K rfl (pv 2) rfl) (pv 1) (nomark _))) (fun _ _ _ _ _ => pv 2)) (pe_un un_neg pe_int)) TS.cl Z.mV (ok_val (k := 0) Z.uV TS) (hr.mono (by omega)) bV .nil pass0 (pa_cons (pv 1) pa_nil))), ?_⟩
    obtain ⟨i0, z, hz, bn, lz, later⟩ := kw.find n lo
    have lt0 := (List.getElem?_eq_some_iff.mp hz).1
    have few : (sts all).length ≤ 40000 := by
      rw [sts_len]
      have h1 := cutsF_len on 0
      have h2 := kw.fo
      have e := congrArg List.length kw.cuts
      rw [List.length_map, List.length_take] at e
      omega
    have of_get : ∀ {i : Nat} {x : V}, (sts all)[i]? = some x → ∃ y, all[i]? = some y ∧ x = .ref y.st ∧ all.getD i z = y := fun {i x} h => by
      unfold sts at h
      rw [List.getElem?_map] at h
      obtain ⟨y, hy, rfl⟩ := Option.map_eq_some_iff.mp h
      exact ⟨y, hy, rfl, by rw [List.getD_eq_getElem?_getD, hy]; rfl⟩
    have eL : EvL (tLc (iList K (tFld K (tVar 0) "stretches")) (gName 2) (tTest (tOp (rI0 fun i j => .bl (decide (i ≤ j))) (tFld K (tVar 2) "begin") (tVar 1))) (tVar 2) [2]) [some (.ref c.cv), some (.int (n : Int)), none] H (given (sts all).length (fun i => decide (((all.getD i z).s.b : Int) ≤ (n : Int))) fun i => V.ref (all.getD i z).st) := el_lcL (K := K) (xs := sts all) (j := 2) (vs := [2]) (fun i => decide (((all.getD i z).s.b : Int) ≤ (n : Int))) (fun i => V.ref (all.getD i z).st) (fld_ev T.cl T.nS rfl kw.icv rfl) (sq_of kw.iss) few (fun _ => rfl) (fun i x H1 e1 hx => ?_) (fun i x H1 e1 hx _ => ?_)
    · unfold tRet tMeth
      rw [tOp]
      refine eL H (Ex.refl _) _ fun l H1 nl e1 hl => ?_
      have k1 := kw.s e1
      obtain ⟨at1, ok1⟩ := k1.oat z (List.mem_of_getElem? hz)
      have gz : all.getD i0 z = z := by rw [List.getD_eq_getElem?_getD, hz]; rfl
      refine ⟨1, rfl, l, _, -1, .ref z.st, rfl, rfl, .inl (.inl hl), ?_, z.st, z.dx, _, rfl, at1.ia, rfl, _, rfl, z.st, z.dx, z.tl, g, R, n, z.s, rfl, at1, kw.rc, ok1, bn, lz, nb, fun H2 s2 => q H2 (Same.trans e1 s2)⟩
      have := given_last (f := fun i => decide (((all.getD i z).s.b : Int) ≤ (n : Int))) (v := fun i => V.ref (all.getD i z).st) (i := i0) (decide_eq_true (by rw [gz]; omega)) (sts all).length (by rw [sts_len]; exact lt0) (fun j h1 h2 => by
        rw [sts_len] at h2
        have hy : all[j]? = some (all.getD j z) := by rw [List.getD_eq_getElem?_getD, List.getElem?_eq_getElem h2]; rfl
        have := later j _ h1 hy
        exact decide_eq_false (by omega))
      rw [gz] at this
      exact this
    all_goals obtain ⟨y, hy, rfl, gy⟩ := of_get hx
    · rw [gy]
      obtain ⟨at1, _⟩ := (kw.s e1).oat y (List.mem_of_getElem? hy)
      exact et_test (ev_op (fld_ev (σ := [some (.ref c.cv), some (.int (n : Int)), some (.ref y.st)]) (i := 2) TS.cl TS.nB rfl at1.ia rfl) (ev_var rfl) (rv_I0 (g := fun i j => .bl (decide (i ≤ j))) (i := (y.s.b : Int)) (j := (n : Int))))
    · rw [gy]
      exact ev_var rfl
def spClo (K : PySem.W.Frag) (CV CC ST : Addr) : Sp := fun vs H Q _ => ∃ (c : CvA) (rec sn : Addr) (g : Pc) (R : Nat) (on : List Nat) (H0 : Hp) (old : List Sg) (z : Sg) (x : Nat), vs = [.ref c.cv, .ref z.st] ∧ Cvd K CV CC ST g R on H0 H c old rec sn z ∧ z.s.e = some x ∧ x ≤ 1000000000000000001 ∧
  ∀ rec' H0' H', Same H0 H0' → Cvb K CV CC ST g R on H0' H' c (old ++ [z]) rec' sn [] → H' rec' = some (.lst ((recs g R x).map V.int)) → Q .non H'
theorem Cvd.knw {g : Pc} {R : Nat} {on : List Nat} {H0 H : Hp} {c : CvA} {old : List Sg} {rec sn : Addr} {z : Sg} (d : Cvd K CV CC ST g R on H0 H c old rec sn z) : Knw CC ST g R on H c (old ++ [z]) rec sn := by
  refine ⟨d.cb.icv, ?_, fun y hy => ?_, ?_, d.cb.k.asc, d.cb.k.fo, d.cb.k.rc, by simp⟩
  · rw [d.cb.iss]
    unfold sts
    rw [List.map_append]
    rfl
  · rcases List.mem_append.mp hy with h | h
    · exact ⟨(d.cb.oat y h).1.s d.cb.same, (d.cb.oat y h).2⟩
    · rw [List.mem_singleton.mp h]
      exact ⟨d.at_, d.ok⟩
  · rw [List.map_append, d.cb.cuts, List.length_append, List.length_singleton, List.take_succ, d.cut]
    rfl
theorem ok_clo {f : Addr} {fd : FuncData} {k : Nat} (F : Fun K "close_stretch" "Curve.close_stretch" sClo f fd) (Z : TKn K CC ST fKno fVal dKno dVal) (T : TCv K mg CC) (TS : TSt K mg ST) (mR : mg "range" = none) : FnOk P w K mg base CX0 (k + 3) f fd ["self", "stretch"] (spClo K CV CC ST) := by
  have bK : Binds K dKno ["self", "count"] [] := Z.uK.binds (ps := ["self", "count"]) fun _ _ _ _ _ _ us hl => match us, hl with | [_, _], _ => rfl
  refine F.ok scClo (fun vs H Q E h => ?_) (fun cdv A outer s H vs Q E hr h => ?_)
  · obtain ⟨c, rec, sn, g, R, on, H0, old, z, x, rfl, _⟩ := h
    rfl
  · obtain ⟨c, rec, sn, g, R, on, H0, old, z, x, rfl, d, he, xb, q⟩ := h
    refine ⟨_, pss_cons (ps_set (i := 2) scClo.nd rfl (.inl rfl) (pe_callB (call_max2 rfl) (by rfl) T.mX (by decide +kernel) (pa_cons pe_int (pa_cons (pe_op op_add (pe_op op_sub (pe_fld (pv 1) rfl) (pe_fld (pv 0) rfl)) pe_int) pa_nil))))
      (pss_cut (ps_setLc (i := 3) (own := [("count", 4)]) (g := gName 4) (by rfl) scClo.nd rfl rfl (by rfl) (pi_range2 (by rfl) mR (pa_cons (pv 2) (pa_cons (pe_op op_add (pe_fld (pv 1) rfl) pe_int) pa_nil))) (blkOk_by (own := [("count", 4)]) (N := ["self", "stretch", "begin", "found", "count"]) (sc := defScope sClo) (by decide +kernel)) (fun _ _ _ _ _ => pg_name (i := 4) scClo.nd rfl (Or.inl rfl)) (fun _ _ _ _ _ => pts_nil)
        (fun _ _ _ _ _ => pe_meth (pv 0) T.cl Z.mK (ok_kno (k := 0) Z T TS) (hr.mono (by omega)) bK .nil pass0 (pa_cons (pv 4) pa_nil)))
      (pss_one (ps_fld (pv 0) (pe_op op_cat (pe_op op_rep (pe_lst (pa_cons pe_int pa_nil)) (pe_op op_sub (pe_fld (pv 0) rfl) (pe_callB call_len_seq (by rfl) T.mN PySem.boot_len (pa_cons (pv 3) pa_nil)))) (pv 3)) rfl))), ?_⟩
    have lt : ∀ {n : Nat}, n ≤ 1000 → n ≤ sizeLine := fun h => Nat.le_of_lt (small1000 h)
    have rc := d.cb.k.rc
    have r1 := rc.r1
    have r2 := rc.r2
    have ist := d.at_.ia
    rw [he] at ist
    generalize hm : min (x + 1) R = m
    have bgm : x + 1 - m + m = x + 1 := by omega
    generalize hbg : x + 1 - m = bg at bgm
    refine q_asg (v := .int (bg : Int)) (ev_is (ev_max2 ev_c (ev_op (ev_op (fld_ev (σ := [some (.ref c.cv), some (.ref z.st), none, none, none]) (i := 1) TS.cl TS.nE rfl ist rfl) (fld_ev T.cl T.nR rfl d.cb.icv rfl) (rv_I0 (g := fun i j => .int (i - j)) (i := (x : Int)) (j := (R : Int)))) ev_c (rv_I0 (g := fun i j => .int (i + j))))) (by congr 1; split <;> omega)) fun H1 e1 => ?_
    have d1 := d.s e1
    refine ⟨fun σ H' => ∃ fo : Addr, σ = [some (.ref c.cv), some (.ref z.st), some (.int (bg : Int)), some (.ref fo), none] ∧ Same H1 H' ∧ H' fo = some (.lst ((List.range m).map fun i => V.int (cst g R (bg + i)))), ?_, ?_⟩
    · have tn : ((x : Int) + 1 - (bg : Int)).toNat = m := by omega
      have eL : EvL (tLc (iRng2 (tCons (tVar 2) (tCons (tOp (rI0 fun i j => .int (i + j)) (tFld K (tVar 1) "end") (tC (.int 1))) tNil))) (gName 4) tYes (tMeth CC "known" (spKno CC ST) [] E0 (tVar 0) (tCons (tVar 4) tNil)) [4]) [some (.ref c.cv), some (.ref z.st), some (.int (bg : Int)), none, none] H1 ((List.range ((x : Int) + 1 - (bg : Int)).toNat).map fun i => V.int (cst g R (bg + i))) := el_rng (fun i => V.int (cst g R (bg + i))) (ea_cons (ev_var rfl) (ea_cons (ev_op (fld_ev (i := 1) TS.cl TS.nE rfl (e1 _ _ ist) rfl) ev_c (rv_I0 (g := fun i j => .int (i + j)) (i := (x : Int)))) ea_nil)) ⟨by omega, by omega, by omega, by omega⟩ (by rw [tn]; omega) (fun _ => rfl) (fun i H2 e2 hi H3 e3 Q3 q3 => ?_)
      · rw [tn] at eL
        unfold tAsg
        exact eL H1 (Ex.refl _) _ fun fo H2 nf e2 hf => ⟨fo, rfl, e2, hf⟩
      · rw [tn] at hi
        have k3 := (d1.s (e2.trans e3)).knw
        refine ⟨_, rfl, c.cv, c.dx, _, rfl, k3.icv, rfl, _, rfl, c, rec, sn, g, R, on, old ++ [z], bg + i, ?_, k3, fun y hy => ?_, by omega, fun H4 s4 => q3 H4 s4⟩
        · show [V.ref c.cv, V.int ((bg : Int) + (i : Int))] = _
          rw [show ((bg + i : Nat) : Int) = (bg : Int) + (i : Int) by omega]
        · rw [List.length_append, List.length_singleton, Nat.add_sub_cancel, List.getElem?_append_right (Nat.le_refl _), Nat.sub_self] at hy
          cases hy
          rw [he]
          intro y hy
          injection hy with hy
          omega
    rintro σ H2 ⟨fo, rfl, s2, hf⟩
    have d2 := d1.s s2
    refine ⟨lt (show 1 ≤ 1000 by decide), fun l0 nl0 => ?_⟩
    have e5 : Same H2 (upd H2 l0 (.lst [V.int 0])) := same_new nl0
    refine ⟨_, rfl, c.cv, CC, c.dx, _, _, rfl, e5 _ _ d2.cb.icv, T.cl, T.nR, rfl, _, rfl, fo, _, rfl, .inl (.inl (.inl (e5 _ _ hf))), _, _, rfl, rfl, l0, (R : Int) - (m : Int), [.int 0], rfl, ?_, upd_same, by omega, by omega, lt (show 1 * ((R : Int) - (m : Int)).toNat ≤ 1000 by omega), fun rp nr => ?_⟩
    · rw [List.length_map, List.length_range]
    have e6 : Same H2 (upd (upd H2 l0 (.lst [V.int 0])) rp (.lst (List.replicate ((R : Int) - (m : Int)).toNat [V.int 0]).flatten)) := Same.trans e5 (same_new nr)
    refine ⟨_, rfl, rp, fo, _, _, rfl, rfl, upd_same, e6 _ _ hf, ?_, fun r3 n3 => ?_⟩
    · refine lt ?_
      rw [rep_flat, List.length_replicate, List.length_map, List.length_range]
      omega
    have hl : (List.replicate ((R : Int) - (m : Int)).toNat [V.int 0]).flatten ++ ((List.range m).map fun i => V.int (cst g R (bg + i))) = (recs g R x).map V.int := by
      rw [rep_flat, recs_nil rc x, hm, hbg, List.map_append, List.map_replicate, List.map_map, show ((R : Int) - (m : Int)).toNat = R - m by omega]
      rfl
    rw [hl]
    have e7 := Same.trans e6 (same_new (o := .lst ((recs g R x).map V.int)) n3)
    have h3 : (upd (upd (upd H2 l0 (.lst [V.int 0])) rp (.lst (List.replicate ((R : Int) - (m : Int)).toNat [V.int 0]).flatten)) r3 (.lst ((recs g R x).map V.int))) r3 = some (.lst ((recs g R x).map V.int)) := upd_same
    revert e7 h3
    generalize upd (upd (upd H2 l0 (.lst [V.int 0])) rp (.lst (List.replicate ((R : Int) - (m : Int)).toNat [V.int 0]).flatten)) r3 (.lst ((recs g R x).map V.int)) = H3
    intro e7 h3
    have d3 := d2.s e7
    refine ⟨_, rfl, c.cv, CC, c.dx, _, rfl, d3.cb.icv, T.cl, T.nE, show 7 < 1000 by decide, ?_⟩
    have n : ∀ {y : Addr} {u : HO}, H3 y = some u → u ≠ .ins CC c.dx (cvF c.p c.tv R c.cu c.sts rec sn) → ∀ o, (upd H3 c.cv o) y = some u := fun {y u} h ne o => by
      rw [upd_ne (ne_of h d3.cb.icv ne)]
      exact h
    have nst : z.st ≠ c.cv := ne_of d3.at_.ia d3.cb.icv (ins_ne (show (6 : Nat) ≠ 7 by decide))
    have ntl : z.tl ≠ c.cv := ne_of d3.at_.it d3.cb.icv (fun z => nomatch z)
    have nst2 : z.st ≠ c.sts := ne_of d3.at_.ia d3.cb.iss (fun z => nomatch z)
    have ntl2 : z.tl ≠ c.sts := fun y => by
      have h1 := d3.at_.it
      rw [y, d3.cb.iss] at h1
      injection h1 with h1
      injection h1 with h1
      have h0 := ctots_at g R z.s.b (Nat.zero_le z.s.d)
      rw [← h1] at h0
      cases ho : old with
      | nil => rw [ho] at h0; cases h0
      | cons a r =>
        rw [ho] at h0
        have h1 : atI (sts (a :: r) ++ [V.ref z.st]) ((0 : Nat) : Int) = some (.ref a.st) := at_nat (by rw [List.length_append, List.length_singleton]; omega) rfl
        rw [h1] at h0
        cases h0
    have s3 := d3.cb.same
    refine q r3 (less2 (upd H3 c.cv (.ins CC c.dx (cvF c.p c.tv R c.cu c.sts r3 sn))) c.cv c.sts) _ ?_ ⟨less2_same, if_pos (.inl rfl), if_pos (.inr rfl), ?_, ?_, d3.knw.cuts, upd_same, ?_⟩ (n h3 (fun z => nomatch z) _)
    · exact same_less2 (same_put s3 d.cb.ncv) d.cb.ncv d.cb.nss
    · exact d.cb.k.s (same_less2 (same_put s3 d.cb.ncv) d.cb.ncv d.cb.nss)
    · intro y hy
      rcases List.mem_append.mp hy with h | h
      · exact ⟨(d.cb.oat y h).1.s (same_less2 (same_put s3 d.cb.ncv) d.cb.ncv d.cb.nss), (d.cb.oat y h).2⟩
      · rw [List.mem_singleton.mp h]
        refine ⟨⟨?_, ?_⟩, d.ok⟩
        · rw [less2_at nst nst2, upd_ne nst]
          exact d3.at_.ia
        · rw [less2_at ntl ntl2, upd_ne ntl]
          exact d3.at_.it
    · rw [List.append_nil]
      exact n d3.knw.iss (fun z => nomatch z) _
end
end Sea

set_option Elab.async false
set_option linter.all false
set_option maxRecDepth 100000
set_option maxHeartbeats 4000000
/-! a list compared with an empty one; class Curve: reach_count -/
namespace Sea
open PySem PySem.Spec PyProof.Rows L2 LamX NdefX ClX Evl StX
/-- xs == [], whatever stands in xs -/
def rEqE (K : PySem.W.Frag) : R2 := fun x y H Q => ∃ a b xs, x = .ref a ∧ y = .ref b ∧ SqL K H a xs ∧ SqL K H b [] ∧ Q (.bl (decide (xs = []))) H
theorem op_eqE {X : Cx} (hu : X.A.units < cLine) : OpR X (compareOp .Eq) (rEqE X.K) := by
  intro pins s σ H x y v u Q I rx ry ⟨a, b, xs, ex, ey, h1, h2, q⟩
  subst ex
  subst ey
  obtain rfl : v = .ref a := rx
  obtain rfl : u = .ref b := ry
  obtain ⟨is, r1, l1, _⟩ := I.list h1
  obtain ⟨js, r2, l2, _⟩ := I.list h2
  cases r2
  cases r1 with
  | nil => exact SeqAt.eq_listAt (e := fun _ => true) l1.isList l2.isList rfl hu (fun j h _ => absurd h (Nat.not_lt_zero j)) ⟨.bl true, H, I, rfl, q⟩
  | cons z r => exact SeqAt.eq_list_lengthsAt l1.isList l2.isList rfl hu ⟨.bl false, H, I, rfl, q⟩
theorem scRch : FnScope ["self", "count", "stretch", "last"] ["self", "count"] (defScope sRch) := ⟨rfl, rfl, rfl, by decide +kernel, rfl, by decide +kernel, by decide +kernel⟩
theorem rv_isN {v : V} {H : Hp} : RV (fun x y H Q => y = .non ∧ Q (.bl (decide (x = .non))) H) v .non H (.bl (decide (v = V.non))) := fun H1 _ Q q => ⟨rfl, q H1 (Ex.refl _)⟩
theorem rv_eqE {K : PySem.W.Frag} {H : Hp} {a b : Addr} {xs : List V} (h1 : SqL K H a xs) (h2 : SqL K H b []) : RV (rEqE K) (.ref a) (.ref b) H (.bl (decide (xs = []))) := fun H1 e Q q => ⟨a, b, xs, rfl, rfl, ex_l e h1, ex_l e h2, q H1 (Ex.refl _)⟩
theorem et_eqE {K : PySem.W.Frag} {σ : L2.St} {H : Hp} {te : TE} {a : Addr} {xs : List V} (h : Ev te σ H (.ref a)) (hx : SqL K H a xs) : EvT (tTest (tOp (rEqE K) te (tLst tNil))) σ H (decide (xs = [])) := et_test fun H1 e Q q =>
  h H1 e _ fun H2 e2 => ⟨Nat.zero_le _, fun p np => ⟨a, p, xs, rfl, rfl, ex_l (e.trans (e2.trans (Ex.new np))) hx, .of upd_same, q _ (e2.trans (Ex.new np))⟩⟩
theorem ev_min2 {ta tb : TE} {σ : L2.St} {H : Hp} {i j : Int} (h1 : Ev ta σ H (.int i)) (h2 : Ev tb σ H (.int j)) : Ev (tCB (fun xs H Q => ∃ i j, xs = [V.int i, .int j] ∧ Q (.int (if j < i then j else i)) H) (tCons ta (tCons tb tNil))) σ H (.int (if j < i then j else i)) := fun H1 e Q q =>
  h1 H1 e _ fun H2 e2 => h2 H2 (e.trans e2) _ fun H3 e3 => ⟨i, j, rfl, q H3 (e2.trans e3)⟩
theorem last_at (l : List V) (x : V) : atI (l ++ [x]) (-1) = some x := by
  rw [show (-1 : Int) = -((1 : Nat) : Int) from rfl, atI_back (Nat.le_refl 1) (by rw [List.length_append, List.length_singleton]; omega), List.length_append, List.length_singleton, Nat.add_sub_cancel, List.getElem?_append_right (Nat.le_refl _), Nat.sub_self]
  rfl
/-- the methods that reach_count calls -/
structure TRc (K : PySem.W.Frag) (CC ST fOpn fHol fAdd fClo : Addr) (dOpn dHol dAdd dClo : FuncData) : Prop where
  mO : Meth K CC "open_stretch" fOpn
  uO : Fun K "open_stretch" "Curve.open_stretch" sOpn fOpn dOpn
  mH : Meth K ST "holds" fHol
  uH : Fun K "holds" "Stretch.holds" sHol fHol dHol
  mA : Meth K CC "add_day" fAdd
  uA : Fun K "add_day" "Curve.add_day" sAdd fAdd dAdd
  mC : Meth K CC "close_stretch" fClo
  uC : Fun K "close_stretch" "Curve.close_stretch" sClo fClo dClo
/-- what must be known of all stretches -/
structure Fit (g : Pc) (R : Nat) (on : List Nat) : Prop where
  cut : ∀ b e, (b, e) ∈ cutsF 0 on → Cut g b e
  few : ∀ b e, (b, e) ∈ cutsF 0 on → ∀ d, Low e (b + d) → FreshS g R b d → d ≤ 10000000
  fin : ∀ b x, (b, some x) ∈ cutsF 0 on → x ≤ 1000000000000000001
/-- a curve that is known for ever -/
structure Frz (K : PySem.W.Frag) (CV CC ST : Addr) (g : Pc) (R : Nat) (on : List Nat) (H : Hp) (c : CvA) (all : List Sg) (rec sn : Addr) : Prop where
  kw : Knw CC ST g R on H c all rec sn
  k : Cvk K CV g R on H c
  z : ∃ z : Sg, all[all.length - 1]? = some z ∧ z.s.e = none
theorem Frz.s {K : PySem.W.Frag} {CV CC ST : Addr} {g : Pc} {R : Nat} {on : List Nat} {H H' : Hp} {c : CvA} {all : List Sg} {rec sn : Addr} (h : Frz K CV CC ST g R on H c all rec sn) (e : Same H H') : Frz K CV CC ST g R on H' c all rec sn := ⟨h.kw.s e, h.k.s e, h.z⟩
theorem Chn.mono {l : List (Nat × Option Nat)} {b : Nat} (h : Chn b l) : ∀ {i j : Nat} {x y : Nat × Option Nat}, i ≤ j → l[i]? = some x → l[j]? = some y → x.1 ≤ y.1 := fun {i j x y} ij hx hy => by
  obtain ⟨m, rfl⟩ : ∃ m, j = i + m := ⟨j - i, by omega⟩
  clear ij
  induction m generalizing y with
  | zero =>
    rw [Nat.add_zero, hx] at hy
    cases hy
    exact Nat.le_refl _
  | succ m ih =>
    have lt := (List.getElem?_eq_some_iff.mp hy).1
    have hz : l[i + m]? = some l[i + m] := List.getElem?_eq_getElem (by omega)
    have := ih hz
    have := (h.pair hz (show l[i + m + 1]? = some y from hy)).2
    omega
section
variable {P : Program} {w : World} {K : PySem.W.Frag} {mg : Str → Option Value} {base : Heap} {CV CC ST fSt fVN fVC fRl pRl fRd pRd fEx pEx fNot fTo fOpn fHol fAdd fClo fKno fVal : Addr} {dSt dVN dVC dRl dRd dEx dNot dTo dOpn dHol dAdd dClo dKno dVal : FuncData}
def spRch (K : PySem.W.Frag) (CV CC ST : Addr) : Sp := fun vs H Q _ =>
  (∃ (c : CvA) (rec sn : Addr) (g : Pc) (R : Nat) (on : List Nat) (H0 : Hp) (nb : Nat), vs = [.ref c.cv, .int nb] ∧ Cvb K CV CC ST g R on H0 H c [] rec sn [] ∧ H rec = some (.lst ((recs g R 0).map V.int)) ∧ Fit g R on ∧ (cutsF 0 on)[(cutsF 0 on).length - 1]? = some (nb, none) ∧
    ∀ H0' old rec' sn' st dxs tl H', Same H0 H0' → Cvr K CV CC ST g R on H0' nb none 0 0 H' c old rec' sn' st dxs tl → Q .non H') ∨
  ∃ (c : CvA) (rec sn : Addr) (g : Pc) (R : Nat) (on : List Nat) (all : List Sg) (n : Int), vs = [.ref c.cv, .int n] ∧ Frz K CV CC ST g R on H c all rec sn ∧ ∀ H', Same H H' → Q .non H'
theorem ok_rch {f : Addr} {fd : FuncData} {k : Nat} (F : Fun K "reach_count" "Curve.reach_count" sRch f fd) (T : TCv K mg CC) (TS : TSt K mg ST) (MS : TMs K ST fSt dSt) (TV : TTv K mg CV fVN fVC dVN dVC) (RR : TPr K CV fRl pRl fRd pRd fEx pEx dRl dRd dEx) (M : TAd K CV CC fNot fTo dNot dTo) (N : TRc K CC ST fOpn fHol fAdd fClo dOpn dHol dAdd dClo) (Z : TKn K CC ST fKno fVal dKno dVal) (mR : mg "range" = none) :
    FnOk P w K mg base CX0 (k + 7) f fd ["self", "count"] (spRch K CV CC ST) := by
  have bO : Binds K dOpn ["self"] [] := N.uO.binds (ps := ["self"]) fun _ _ _ _ _ _ us hl => match us, hl with | [_], _ => rfl
  have bH : Binds K dHol ["self", "count"] [] := N.uH.binds (ps := ["self", "count"]) fun _ _ _ _ _ _ us hl => match us, hl with | [_, _], _ => rfl
  have bA : Binds K dAdd ["self", "stretch"] [] := N.uA.binds (ps := ["self", "stretch"]) fun _ _ _ _ _ _ us hl => match us, hl with | [_, _], _ => rfl
  have bC : Binds K dClo ["self", "stretch"] [] := N.uC.binds (ps := ["self", "stretch"]) fun _ _ _ _ _ _ us hl => match us, hl with | [_, _], _ => rfl
  refine F.ok scRch (fun vs H Q E h => ?_) (fun cdv A outer s H vs Q E hr h => ?_)
  · rcases h with ⟨c, rec, sn, g, R, on, H0, nb, rfl, _⟩ | ⟨c, rec, sn, g, R, on, all, n, rfl, _⟩
    · rfl
    · rfl
  · have hu0 : (A.deeper (envOfC "Curve.reach_count" (defScope sRch) s.heap.objs.size f cdv)).units < cLine := Nat.lt_of_le_of_lt (Nat.le_add_right _ 64) hr.units
    refine ⟨_, pss_one (ps_while PassesOwn.never (pt_val pe_bl)
      (pss_cut (ps_if (pt_cmpR (op_eqE hu0) (pe_fld (pv 0) rfl) (pe_lst pa_nil) (nomark _)) (pss_one (ps_expr (pe_meth0 (pv 0) T.cl N.mO (ok_opn (CV := CV) (k := 0) N.uO T TS MS) (hr.mono (by omega)) bO .nil pass0))) pss_nil)
      (pss_cons (ps_set (i := 2) scRch.nd rfl (.inl rfl) (pe_ixl (pe_fld (pv 0) rfl) (pe_un un_neg pe_int)))
      (pss_cons (ps_set (i := 3) scRch.nd rfl (.inl rfl) (pe_ifExp (pt_cmpR op_isN (pe_fld (pv 2) rfl) pe_non (nomark _)) (pv 1) (pe_callB (call_min2 rfl) (by rfl) T.mM (by decide +kernel) (pa_cons (pv 1) (pa_cons (pe_fld (pv 2) rfl) pa_nil)))))
      (pss_cut (ps_while PassesOwn.never (pt_not (pt_val (pe_meth (pv 2) TS.cl N.mH (ok_hol (k := 0) N.uH TS) (hr.mono (by omega)) bH .nil pass0 (pa_cons (pv 3) pa_nil)))) (pss_one (ps_expr (pe_meth (pv 0) T.cl N.mA (ok_add (CV := CV) (ST := ST) (k := 0) N.uA T TS TV RR M) (hr.mono (by omega)) bA .nil pass0 (pa_cons (pv 2) pa_nil)))))
      (pss_cons (ps_if (PW.pt (pw_or (pt_cmpR op_isN (pe_fld (pv 2) rfl) pe_non (nomark _)) (pw_or1 (pt_cmpR op_lt (pv 1) (pe_fld (pv 2) rfl) (nomark _))))) (pss_one (ps_ret pe_non)) pss_nil)
      (pss_cons (ps_expr (pe_meth (pv 0) T.cl N.mC (ok_clo (CV := CV) (k := 0) N.uC Z T TS mR) (hr.mono (by omega)) bC .nil pass0 (pa_cons (pv 2) pa_nil)))
      (pss_one (ps_expr (pe_meth0 (pv 0) T.cl N.mO (ok_opn (CV := CV) (k := 0) N.uO T TS MS) (hr.mono (by omega)) bO .nil pass0)))))))))), ?_⟩
    rcases h with ⟨c, rec, sn, g, R, on, H0, nb, rfl, cb, hre, fit, hlast, q⟩ | ⟨c, rec, sn, g, R, on, all, n, rfl, fz, q⟩
    -- while the curve is made
    · have ch := cuts_chn cb.k.asc
      have rc := cb.k.rc
      generalize hm0 : (cutsF 0 on).length = M0 at *
      refine s_while (fun m σ' H' => ∃ v2 v3, σ' = [some (.ref c.cv), some (.int (nb : Int)), v2, v3] ∧ ∃ H0', Same H0 H0' ∧ ((M0 < m ∧ ∃ rec sn, Cvb K CV CC ST g R on H0' H' c [] rec sn [] ∧ H' rec = some (.lst ((recs g R 0).map V.int))) ∨ ∃ b e old rec sn st dxs tl, M0 ≤ m + old.length ∧ Cvr K CV CC ST g R on H0' b e 0 0 H' c old rec sn st dxs tl)) (M0 + 1) ⟨none, none, rfl, H0, Same.refl _, .inl ⟨Nat.lt_succ_self _, rec, sn, cb, hre⟩⟩ ?_
      clear cb hre
      rintro m σ' H' ⟨v2, v3, rfl, H1, s01, hz⟩
      refine ⟨true, et_B ev_c, fun _ H2 e2 => ⟨fun σ2 H2 => ∃ m', m' < m ∧ ∃ v2 v3, σ2 = [some (.ref c.cv), some (.int (nb : Int)), v2, v3] ∧ ∃ H0', Same H0 H0' ∧ ((M0 < m' ∧ ∃ rec sn, Cvb K CV CC ST g R on H0' H2 c [] rec sn [] ∧ H2 rec = some (.lst ((recs g R 0).map V.int))) ∨ ∃ b e old rec sn st dxs tl, M0 ≤ m' + old.length ∧ Cvr K CV CC ST g R on H0' b e 0 0 H2 c old rec sn st dxs tl), fun σ2 H2 z => z, ?_⟩, fun z => by cases z⟩
      refine ⟨fun σ H3 => σ = [some (.ref c.cv), some (.int (nb : Int)), v2, v3] ∧ ∃ b e old rec sn st dxs tl, M0 ≤ m + old.length ∧ Cvr K CV CC ST g R on H1 b e 0 0 H3 c old rec sn st dxs tl, ?_, ?_⟩
      · rcases hz with ⟨hm, rec, sn, cb, hre⟩ | ⟨b, e, old, rec, sn, st, dxs, tl, hm, cr⟩
        · have c1 := cb.s e2
          refine s_when (b := decide ((sts [] ++ [] : List V) = [])) (et_eqE (K := K) (fld_ev (σ := [some (.ref c.cv), some (.int (nb : Int)), v2, v3]) (i := 0) T.cl T.nS rfl c1.icv rfl) (sq_of c1.iss)) (fun _ H3 e3 => ?_) (fun hb => absurd hb (by decide))
          have c2 := c1.s e3
          obtain ⟨e0, he0⟩ := ch.at0
          exact ⟨_, rfl, c.cv, c.dx, _, rfl, c2.icv, rfl, c, rec, sn, g, R, on, H1, [], 0, e0, rfl, c2, e3 _ _ (e2 _ _ hre), he0, fun st dxs tl sn' H4 c4 => ⟨rfl, 0, e0, [], rec, sn', st, dxs, tl, by rw [List.length_nil]; omega, c4⟩⟩
        · have c1 := cr.s e2
          have nn : decide ((sts old ++ [V.ref st] : List V) = []) = false := decide_eq_false (by simp)
          exact s_when (b := decide ((sts old ++ [V.ref st] : List V) = [])) (et_eqE (K := K) (fld_ev (σ := [some (.ref c.cv), some (.int (nb : Int)), v2, v3]) (i := 0) T.cl T.nS rfl c1.cb.icv rfl) (sq_of c1.cb.iss)) (fun hb => by
            rw [nn] at hb
            cases hb) (fun _ H3 e3 => ⟨rfl, b, e, old, rec, sn, st, dxs, tl, hm, c1.s e3⟩)
      clear hz
      rintro σ H3 ⟨rfl, b, e, old, rec, sn, st, dxs, tl, hm, c3⟩
      have hcut := c3.cut
      have ltq := (List.getElem?_eq_some_iff.mp hcut).1
      rw [hm0] at ltq
      have mem := List.mem_of_getElem? hcut
      have ct := fit.cut b e mem
      have few := fit.few b e mem
      have lenb : b ≤ nb := ch.mono (show old.length ≤ M0 - 1 by omega) hcut hlast
      -- the last cost that is wanted of this stretch
      obtain ⟨la, hla, hla2, hb1⟩ : ∃ la : Nat, Low e la ∧ (e = none → la = nb ∧ b = nb) ∧ b ≤ la ∧ (∀ x, e = some x → la = x ∧ x ≤ nb ∧ b < x ∧ x ≤ 1000000000000000001 ∧ ∃ e', (cutsF 0 on)[old.length + 1]? = some (x, e')) := by
        cases e with
        | none =>
          have : old.length = M0 - 1 := by
            by_cases c : old.length + 1 < M0
            · have hz : (cutsF 0 on)[old.length + 1]? = some ((cutsF 0 on)[old.length + 1]'(by rw [hm0]; exact c)) := List.getElem?_eq_getElem _
              have := (ch.pair hcut hz).1
              cases this
            · omega
          rw [this] at hcut
          rw [hcut] at hlast
          injection hlast with hlast
          injection hlast with hlast
          exact ⟨nb, Low.none, fun _ => ⟨rfl, hlast⟩, lenb, fun x hx => nomatch hx⟩
        | some x =>
          have c : old.length + 1 < M0 := by
            by_cases c : old.length + 1 < M0
            · exact c
            · have : old.length = M0 - 1 := by omega
              rw [this, hlast] at hcut
              cases hcut
          have hz : (cutsF 0 on)[old.length + 1]? = some ((cutsF 0 on)[old.length + 1]'(by rw [hm0]; exact c)) := List.getElem?_eq_getElem _
          obtain ⟨p1, p2⟩ := ch.pair hcut hz
          have le := ch.mono (show old.length + 1 ≤ M0 - 1 by omega) hz hlast
          have p1 : some x = some ((cutsF 0 on)[old.length + 1]'(by rw [hm0]; exact c)).1 := p1
          injection p1 with p1
          rw [← p1] at p2 le
          have p2 : b < x := p2
          have le : x ≤ nb := le
          refine ⟨x, fun y hy => by injection hy with hy; omega, (fun z => nomatch z), Nat.le_of_lt p2, fun y hy => ?_⟩
          injection hy with hy
          subst hy
          exact ⟨rfl, le, p2, fit.fin b x mem, _, by rw [hz, p1]⟩
      obtain ⟨hb1, hsome⟩ := hb1
      refine q_asg (v := .ref st) (ev_op (fld_ev (σ := [some (.ref c.cv), some (.int (nb : Int)), v2, v3]) (i := 0) T.cl T.nS rfl c3.cb.icv rfl) ev_neg1 (rv_ixL (.inl (.inl c3.cb.iss)) (last_at _ _))) fun H4 e4 => ?_
      have c4 := c3.s e4
      refine q_asg (v := .int (la : Int)) (ev_if (b := decide (endV e = V.non)) (et_test (ev_op (fld_ev (σ := [some (.ref c.cv), some (.int (nb : Int)), some (.ref st), v3]) (i := 2) TS.cl TS.nE rfl c4.ist rfl) ev_c rv_isN)) (fun hb => ?_) (fun hb => ?_)) fun H5 e5 => ?_
      · have hb := of_decide_eq_true hb
        cases e with
        | none => rw [(hla2 rfl).1]; exact ev_var rfl
        | some x => cases hb
      · have hb := of_decide_eq_false hb
        cases e with
        | none => exact absurd rfl hb
        | some x =>
          obtain ⟨h1, h2, _⟩ := hsome x rfl
          refine ev_is (ev_min2 (ev_var rfl) (fld_ev (σ := [some (.ref c.cv), some (.int (nb : Int)), some (.ref st), v3]) (i := 2) TS.cl TS.nE rfl c4.ist rfl) (i := (nb : Int)) (j := (x : Int))) ?_
          rw [h1]
          congr 1
          split <;> omega
      have c5 := c4.s e5
      clear c3 c4
      refine ⟨fun σ H6 => σ = [some (.ref c.cv), some (.int (nb : Int)), some (.ref st), some (.int (la : Int))] ∧ ((∃ k rec, Cvr K CV CC ST g R on H1 b e k k H6 c old rec sn st dxs tl ∧ May g R b e k ∧ b + k = la) ∨ ∃ rec k j, Cvd K CV CC ST g R on H1 H6 c old rec sn ⟨⟨b, e, k, j, true⟩, st, dxs, tl⟩ ∧ b < la), ?_, ?_⟩
      · refine s_while (fun m σ' H' => σ' = [some (.ref c.cv), some (.int (nb : Int)), some (.ref st), some (.int (la : Int))] ∧ ((∃ k rec, m + k = 10000001 ∧ Cvr K CV CC ST g R on H1 b e k k H' c old rec sn st dxs tl ∧ May g R b e k ∧ b + k ≤ la) ∨ ∃ rec k j, Cvd K CV CC ST g R on H1 H' c old rec sn ⟨⟨b, e, k, j, true⟩, st, dxs, tl⟩ ∧ b < la)) 10000001 ⟨rfl, .inl ⟨0, rec, rfl, c5, ⟨ct, hla.le hb1, fun i j _ h => absurd h (Nat.not_lt_zero j), few⟩, hb1⟩⟩ ?_
        rintro m1 σ' H' ⟨rfl, ⟨k, rec, hk, ck, may, le⟩ | ⟨rec, k, j, cd, hbl⟩⟩
        · have ev : ∀ H'', Same H' H'' → EvT (tNot (tB (tMeth ST "holds" (spHol ST) [] E0 (tVar 2) (tCons (tVar 3) tNil)))) [some (.ref c.cv), some (.int (nb : Int)), some (.ref st), some (.int (la : Int))] H'' (!(decide ((la : Int) - (b : Int) < ((ctots g R b k).length : Int)))) := fun H'' s H6 e6 Q6 q6 => by
            have c6 := (ck.s s).s e6
            refine ⟨_, rfl, st, dxs, _, rfl, c6.ist, rfl, _, rfl, st, dxs, tl, b, e, 0, 0, 0, (la : Int), _, rfl, c6.ist, c6.itl, fun H7 s7 => ⟨_, rfl, ?_⟩⟩
            exact q6 H7 s7
          refine ⟨_, ev H' (Same.refl _), fun hb H6 e6 => ?_, fun hb H6 e6 => ⟨rfl, .inl ⟨k, rec, ck.s e6, may, ?_⟩⟩⟩
          · have hb : ¬ ((la : Int) - (b : Int) < ((ctots g R b k).length : Int)) := by
              intro z
              rw [decide_eq_true z] at hb
              cases hb
            rw [ctots_len] at hb
            have c6 := ck.s e6
            refine ⟨fun σ2 H2 => ∃ m', m' < m1 ∧ σ2 = [some (.ref c.cv), some (.int (nb : Int)), some (.ref st), some (.int (la : Int))] ∧ ((∃ k rec, m' + k = 10000001 ∧ Cvr K CV CC ST g R on H1 b e k k H2 c old rec sn st dxs tl ∧ May g R b e k ∧ b + k ≤ la) ∨ ∃ rec k j, Cvd K CV CC ST g R on H1 H2 c old rec sn ⟨⟨b, e, k, j, true⟩, st, dxs, tl⟩ ∧ b < la), fun σ2 H2 z => z, ?_⟩
            have fk := may.few k may.low may.fr
            refine ⟨_, rfl, c.cv, c.dx, _, rfl, c6.cb.icv, rfl, _, rfl, c, rec, sn, st, dxs, tl, g, R, on, H1, old, b, e, k, rfl, c6, may, fun rec' H7 c7 f7 => ⟨m1 - 1, by omega, rfl, .inl ⟨k + 1, rec', by omega, c7, ⟨ct, hla.le (by omega), f7, few⟩, by omega⟩⟩, fun j H7 d7 => ⟨0, by omega, rfl, .inr ⟨rec, k, j, d7, by omega⟩⟩⟩
          · have hb : (la : Int) - (b : Int) < ((ctots g R b k).length : Int) := by
              by_cases z : (la : Int) - (b : Int) < ((ctots g R b k).length : Int)
              · exact z
              · rw [decide_eq_false z] at hb
                cases hb
            rw [ctots_len] at hb
            omega
        · have lt := (cd.ok.yes rfl).lt
          have lt : j < k := lt
          refine ⟨!(decide ((0 : Int) < (k : Int) - (j : Int)) || decide ((la : Int) - (b : Int) < ((ctots g R b k).length : Int))), fun H6 e6 Q6 q6 => ?_, fun hb => ?_, fun hb H6 e6 => ⟨rfl, .inr ⟨rec, k, j, cd.s e6, hbl⟩⟩⟩
          · have c6 := cd.s e6
            refine ⟨_, rfl, st, dxs, _, rfl, c6.at_.ia, rfl, _, rfl, st, dxs, tl, b, e, _, _, _, (la : Int), _, rfl, c6.at_.ia, c6.at_.it, fun H7 s7 => ⟨_, rfl, ?_⟩⟩
            exact q6 H7 s7
          · rw [decide_eq_true (show (0 : Int) < (k : Int) - (j : Int) by omega)] at hb
            cases hb
      clear c5
      rintro σ H6 ⟨rfl, hz⟩
      -- what is known now
      cases e with
      | none =>
        obtain ⟨hn1, hn2⟩ := hla2 rfl
        rcases hz with ⟨k, rec, c6, may, hk⟩ | ⟨rec, k, j, _, h⟩
        · have k0 : k = 0 := by omega
          subst k0
          subst hn2
          refine q_when (b := true) (et_is (et_or (a := decide (endV none = V.non)) (b := true) (et_test (ev_op (fld_ev (σ := [some (.ref c.cv), some (.int (b : Int)), some (.ref st), some (.int (la : Int))]) (i := 2) TS.cl TS.nE rfl c6.ist rfl) ev_c rv_isN)) (fun z => absurd z (by decide))) (by decide)) (fun _ H7 e7 => ?_) (fun z => by cases z)
          exact q H1 old rec sn st dxs tl H7 s01 (c6.s e7)
        · omega
      | some x =>
        obtain ⟨rfl, hx2, hx3, hx4, e', he'⟩ := hsome x rfl
        obtain ⟨rec, z, hd, hzst, hze⟩ : ∃ rec z, Cvd K CV CC ST g R on H1 H6 c old rec sn z ∧ z.st = st ∧ z.s.e = some la := by
          rcases hz with ⟨k, rec, c6, may, hk⟩ | ⟨rec, k, j, d6, h⟩
          · refine ⟨rec, ⟨⟨b, some la, k, 0, false⟩, st, dxs, tl⟩, ⟨c6.cb, c6.cut, ⟨c6.ist, c6.itl⟩, ⟨ct, may.few k may.low may.fr, may.low, (fun z => nomatch z), fun _ => by rw [hk]⟩⟩, rfl, rfl⟩
          · exact ⟨rec, _, d6, rfl, rfl⟩
        subst hzst
        have ist := hd.at_.ia
        rw [hze] at ist
        refine q_when (b := false) (et_is (et_or (a := decide (endV (some la) = V.non)) (b := decide ((nb : Int) < (la : Int))) (et_test (ev_op (fld_ev (σ := [some (.ref c.cv), some (.int (nb : Int)), some (.ref z.st), some (.int (la : Int))]) (i := 2) TS.cl TS.nE rfl ist rfl) ev_c rv_isN)) (fun _ => et_test (ev_op (ev_var rfl) (fld_ev (σ := [some (.ref c.cv), some (.int (nb : Int)), some (.ref z.st), some (.int (la : Int))]) (i := 2) TS.cl TS.nE rfl ist rfl) (rv_I0 (g := fun i j => .bl (decide (i < j))))))) (by rw [decide_eq_false (show ¬ ((nb : Int) < (la : Int)) by omega)]; rfl)) (fun z => by cases z) (fun _ H7 e7 => ?_)
        have d7 := hd.s e7
        refine ⟨_, rfl, c.cv, c.dx, _, rfl, d7.cb.icv, rfl, _, rfl, c, rec, sn, g, R, on, H1, old, z, la, rfl, d7, hze, hx4, fun rec2 H8 H9 s18 c9 r9 => ?_⟩
        have len : (old ++ [z]).length = old.length + 1 := by rw [List.length_append, List.length_singleton]
        refine ⟨_, rfl, c.cv, c.dx, _, rfl, c9.icv, rfl, c, rec2, sn, g, R, on, H8, old ++ [z], la, e', rfl, c9, r9, by rw [len]; exact he', fun st2 dx2 tl2 sn2 H10 c10 => ?_⟩
        exact ⟨M0 - (old.length + 1), by omega, _, _, rfl, H8, s01.trans s18, .inr ⟨la, e', old ++ [z], rec2, sn2, st2, dx2, tl2, by rw [len]; omega, c10⟩⟩
    -- all is known
    · refine s_while (fun _ σ' H' => σ' = [some (.ref c.cv), some (.int n), none, none] ∧ H' = H) 0 ⟨rfl, rfl⟩ ?_
      rintro m σ' H' ⟨rfl, rfl⟩
      refine ⟨true, et_B ev_c, fun _ H1 e1 => ⟨fun _ _ => False, fun _ _ z => z.elim, ?_⟩, fun z => by cases z⟩
      obtain ⟨z, hz, hze⟩ := fz.z
      have eall : all = all.take (all.length - 1) ++ [z] := by
        have lt := (List.getElem?_eq_some_iff.mp hz).1
        have := List.take_succ (l := all) (i := all.length - 1)
        rw [hz, show all.length - 1 + 1 = all.length by omega, List.take_length] at this
        exact this
      have ests : sts all = sts (all.take (all.length - 1)) ++ [.ref z.st] := by
        rw [eall]
        unfold sts
        rw [List.map_append, ← eall]
        rfl
      refine ⟨fun σ H2 => σ = [some (.ref c.cv), some (.int n), none, none] ∧ Same H' H2, ?_, ?_⟩
      · have f1 := fz.s e1
        have nn : decide (sts all = []) = false := decide_eq_false (by rw [ests]; simp)
        exact s_when (b := decide (sts all = [])) (et_eqE (K := K) (fld_ev (σ := [some (.ref c.cv), some (.int n), none, none]) (i := 0) T.cl T.nS rfl f1.kw.icv rfl) (sq_of f1.kw.iss)) (fun hb => by
          rw [nn] at hb
          cases hb) (fun _ H2 e2 => ⟨rfl, e1.trans e2⟩)
      rintro σ H2 ⟨rfl, s2⟩
      have f2 := fz.s s2
      have mem : z ∈ all := List.mem_of_getElem? hz
      have iss := f2.kw.iss
      rw [ests] at iss
      refine q_asg (v := .ref z.st) (ev_op (fld_ev (σ := [some (.ref c.cv), some (.int n), none, none]) (i := 0) T.cl T.nS rfl f2.kw.icv rfl) ev_neg1 (rv_ixL (.inl (.inl iss)) (last_at _ _))) fun H3 e3 => ?_
      have f3 := f2.s e3
      obtain ⟨at3, ok3⟩ := f3.kw.oat z mem
      have ia3 := at3.ia
      rw [hze] at ia3
      refine q_asg (v := .int n) (ev_if (b := decide (endV none = V.non)) (et_test (ev_op (fld_ev (σ := [some (.ref c.cv), some (.int n), some (.ref z.st), none]) (i := 2) TS.cl TS.nE rfl ia3 rfl) ev_c rv_isN)) (fun _ => ev_var rfl) (fun hb => absurd hb (by decide))) fun H4 e4 => ?_
      have f4 := f3.s e4
      have rp : z.s.rp = true := by
        cases e : z.s.rp with
        | true => rfl
        | false =>
          have := ok3.no e
          rw [hze] at this
          cases this
      have lt := (ok3.yes rp).lt
      have dy : decide (0 < z.s.dy) = true := decide_eq_true (by unfold SgP.dy; rw [if_pos rp]; omega)
      refine ⟨fun σ H5 => σ = [some (.ref c.cv), some (.int n), some (.ref z.st), some (.int n)] ∧ Same H4 H5, ?_, ?_⟩
      · refine s_while (fun _ σ' H' => σ' = [some (.ref c.cv), some (.int n), some (.ref z.st), some (.int n)] ∧ H' = H4) 0 ⟨rfl, rfl⟩ ?_
        rintro m σ' H5 ⟨rfl, rfl⟩
        refine ⟨false, fun H6 e6 Q1 q1 => ?_, (fun z => by cases z), fun _ H6 e6 => ⟨rfl, e6⟩⟩
        obtain ⟨at6, _⟩ := (f4.s e6).kw.oat z mem
        refine ⟨_, rfl, z.st, z.dx, _, rfl, at6.ia, rfl, _, rfl, z.st, z.dx, z.tl, z.s.b, z.s.e, z.s.st, z.s.dy, z.s.gn g R, n, _, rfl, at6.ia, at6.it, fun H7 s7 => ⟨_, rfl, ?_⟩⟩
        rw [dy]
        exact q1 H7 s7
      rintro σ H5 ⟨rfl, s5⟩
      have ia5 := s5 _ _ (e4 _ _ ia3)
      refine q_when (b := true) (et_is (et_or (a := decide (endV none = V.non)) (b := true) (et_test (ev_op (fld_ev (σ := [some (.ref c.cv), some (.int n), some (.ref z.st), some (.int n)]) (i := 2) TS.cl TS.nE rfl ia5 rfl) ev_c rv_isN)) (fun z => absurd z (by decide))) (by decide)) (fun _ H6 e6 => ?_) (fun z => by cases z)
      exact q H6 (((s2.trans e3).trans e4).trans (s5.trans e6))
end
end Sea

set_option Elab.async false
set_option linter.all false
set_option maxRecDepth 100000
set_option maxHeartbeats 4000000
/-! class Curve: at, complete -/
namespace Sea
open PySem PySem.Spec PyProof.Rows L2 LamX NdefX ClX Evl StX
theorem scCAt : FnScope ["self", "count"] ["self", "count"] (defScope sCAt) := ⟨rfl, rfl, rfl, by decide +kernel, rfl, by decide +kernel, by decide +kernel⟩
theorem scCom : FnScope ["self", "stretch"] ["self"] (defScope sCom) := ⟨rfl, rfl, rfl, by decide +kernel, rfl, by decide +kernel, by decide +kernel⟩
/-- the methods behind cost -/
structure TAt (K : PySem.W.Frag) (CC fRch fCAt fCom : Addr) (dRch dCAt dCom : FuncData) : Prop where
  mR : Meth K CC "reach_count" fRch
  uR : Fun K "reach_count" "Curve.reach_count" sRch fRch dRch
  mA : Meth K CC "at" fCAt
  uA : Fun K "at" "Curve.at" sCAt fCAt dCAt
  mC : Meth K CC "complete" fCom
  uC : Fun K "complete" "Curve.complete" sCom fCom dCom
/-- all of a curve's methods -/
structure TAll (K : PySem.W.Frag) (mg : Str → Option Value) (CV CC ST fSt fVN fVC fRl pRl fRd pRd fEx pEx fNot fTo fOpn fHol fAdd fClo fKno fVal fRch fCAt fCom : Addr) (dSt dVN dVC dRl dRd dEx dNot dTo dOpn dHol dAdd dClo dKno dVal dRch dCAt dCom : FuncData) : Prop where
  T : TCv K mg CC
  TS : TSt K mg ST
  MS : TMs K ST fSt dSt
  TV : TTv K mg CV fVN fVC dVN dVC
  RR : TPr K CV fRl pRl fRd pRd fEx pEx dRl dRd dEx
  M : TAd K CV CC fNot fTo dNot dTo
  N : TRc K CC ST fOpn fHol fAdd fClo dOpn dHol dAdd dClo
  Kn : TKn K CC ST fKno fVal dKno dVal
  mR : mg "range" = none
  A : TAt K CC fRch fCAt fCom dRch dCAt dCom
theorem Cvd.frz {K : PySem.W.Frag} {CV CC ST : Addr} {g : Pc} {R : Nat} {on : List Nat} {H0 H : Hp} {c : CvA} {old : List Sg} {rec sn : Addr} {z : Sg} (d : Cvd K CV CC ST g R on H0 H c old rec sn z) (e : z.s.e = none) : Frz K CV CC ST g R on H c (old ++ [z]) rec sn :=
  ⟨d.knw, d.cb.k.s d.cb.same, z, by rw [List.length_append, List.length_singleton, Nat.add_sub_cancel, List.getElem?_append_right (Nat.le_refl _), Nat.sub_self]; rfl, e⟩
theorem Frz.cuts {K : PySem.W.Frag} {CV CC ST : Addr} {g : Pc} {R : Nat} {on : List Nat} {H : Hp} {c : CvA} {all : List Sg} {rec sn : Addr} (f : Frz K CV CC ST g R on H c all rec sn) {z : Sg} (hz : all[all.length - 1]? = some z) : z.s.e = none := by
  obtain ⟨y, hy, he⟩ := f.z
  rw [hz] at hy
  injection hy with hy
  rw [hy]
  exact he
section
variable {P : Program} {w : World} {K : PySem.W.Frag} {mg : Str → Option Value} {base : Heap} {CV CC ST fSt fVN fVC fRl pRl fRd pRd fEx pEx fNot fTo fOpn fHol fAdd fClo fKno fVal fRch fCAt fCom : Addr} {dSt dVN dVC dRl dRd dEx dNot dTo dOpn dHol dAdd dClo dKno dVal dRch dCAt dCom : FuncData}
def spCAt (K : PySem.W.Frag) (CV CC ST : Addr) : Sp := fun vs H Q _ => ∃ (c : CvA) (rec sn : Addr) (g : Pc) (R : Nat) (on : List Nat) (all : List Sg) (n : Nat), vs = [.ref c.cv, .int n] ∧ Frz K CV CC ST g R on H c all rec sn ∧ n ≤ 2000000000000000000 ∧ ∀ H', Same H H' → Q (.int (cst g R n)) H'
theorem ok_cAt {k : Nat} (Z : TAll K mg CV CC ST fSt fVN fVC fRl pRl fRd pRd fEx pEx fNot fTo fOpn fHol fAdd fClo fKno fVal fRch fCAt fCom dSt dVN dVC dRl dRd dEx dNot dTo dOpn dHol dAdd dClo dKno dVal dRch dCAt dCom) : FnOk P w K mg base CX0 (k + 8) fCAt dCAt ["self", "count"] (spCAt K CV CC ST) := by
  have T := Z.T
  have bR : Binds K dRch ["self", "count"] [] := Z.A.uR.binds (ps := ["self", "count"]) fun _ _ _ _ _ _ us hl => match us, hl with | [_, _], _ => rfl
  have bK : Binds K dKno ["self", "count"] [] := Z.Kn.uK.binds (ps := ["self", "count"]) fun _ _ _ _ _ _ us hl => match us, hl with | [_, _], _ => rfl
  refine Z.A.uA.ok scCAt (fun vs H Q E h => ?_) (fun cdv A outer s H vs Q E hr h => ?_)
  · obtain ⟨c, rec, sn, g, R, on, all, n, rfl, _⟩ := h
    rfl
  · obtain ⟨c, rec, sn, g, R, on, all, n, rfl, fz, nb, q⟩ := h
    refine ⟨_, pss_cons (ps_expr (pe_meth (pv 0) T.cl Z.A.mR (ok_rch (CV := CV) (k := 0) Z.A.uR T Z.TS Z.MS Z.TV Z.RR Z.M Z.N Z.Kn Z.mR) (hr.mono (by omega)) bR .nil pass0 (pa_cons (pv 1) pa_nil)))
      (pss_one (ps_ret (pe_meth (pv 0) T.cl Z.Kn.mK (ok_kno (k := 0) Z.Kn T Z.TS) (hr.mono (by omega)) bK .nil pass0 (pa_cons (pv 1) pa_nil)))), ?_⟩
    refine ⟨_, rfl, c.cv, c.dx, _, rfl, fz.kw.icv, rfl, _, rfl, .inr ⟨c, rec, sn, g, R, on, all, (n : Int), rfl, fz, fun H1 s1 => ?_⟩⟩
    have f1 := fz.s s1
    exact ⟨_, rfl, c.cv, c.dx, _, rfl, f1.kw.icv, rfl, _, rfl, c, rec, sn, g, R, on, all, n, rfl, f1.kw, fun z hz => by rw [f1.cuts hz]; exact Low.none, nb, fun H2 s2 => q H2 (Same.trans s1 s2)⟩
def spCom (K : PySem.W.Frag) (CV CC ST : Addr) : Sp := fun vs H Q _ =>
  (∃ (c : CvA) (rec sn : Addr) (g : Pc) (R : Nat) (on : List Nat) (H0 : Hp), vs = [.ref c.cv] ∧ Cvb K CV CC ST g R on H0 H c [] rec sn [] ∧ H rec = some (.lst ((recs g R 0).map V.int)) ∧ Fit g R on ∧
    ∀ all rec' sn' z H', Same H0 H' → Frz K CV CC ST g R on H' c all rec' sn' → all[all.length - 1]? = some z → all.length = (cutsF 0 on).length → Q (.ref z.st) H') ∨
  ∃ (c : CvA) (rec sn : Addr) (g : Pc) (R : Nat) (on : List Nat) (all : List Sg) (z : Sg), vs = [.ref c.cv] ∧ Frz K CV CC ST g R on H c all rec sn ∧ all[all.length - 1]? = some z ∧ ∀ H', Same H H' → Q (.ref z.st) H'
theorem ok_com {k : Nat} (Z : TAll K mg CV CC ST fSt fVN fVC fRl pRl fRd pRd fEx pEx fNot fTo fOpn fHol fAdd fClo fKno fVal fRch fCAt fCom dSt dVN dVC dRl dRd dEx dNot dTo dOpn dHol dAdd dClo dKno dVal dRch dCAt dCom) : FnOk P w K mg base CX0 (k + 8) fCom dCom ["self"] (spCom K CV CC ST) := by
  have T := Z.T
  have TS := Z.TS
  have bR : Binds K dRch ["self", "count"] [] := Z.A.uR.binds (ps := ["self", "count"]) fun _ _ _ _ _ _ us hl => match us, hl with | [_, _], _ => rfl
  have bA : Binds K dAdd ["self", "stretch"] [] := Z.N.uA.binds (ps := ["self", "stretch"]) fun _ _ _ _ _ _ us hl => match us, hl with | [_, _], _ => rfl
  refine Z.A.uC.ok scCom (fun vs H Q E h => ?_) (fun cdv A outer s H vs Q E hr h => ?_)
  · rcases h with ⟨c, rec, sn, g, R, on, H0, rfl, _⟩ | ⟨c, rec, sn, g, R, on, all, z, rfl, _⟩
    · rfl
    · rfl
  · refine ⟨_, pss_cut (ps_expr (pe_meth (pv 0) T.cl Z.A.mR (ok_rch (CV := CV) (k := 0) Z.A.uR T TS Z.MS Z.TV Z.RR Z.M Z.N Z.Kn Z.mR) (hr.mono (by omega)) bR .nil pass0 (pa_cons (pe_ixt (pe_ixl (pe_fld (pv 0) rfl) (pe_un un_neg pe_int)) pe_int) pa_nil)))
      (pss_cons (ps_set (i := 1) scCom.nd rfl (.inl rfl) (pe_ixl (pe_fld (pv 0) rfl) (pe_un un_neg pe_int)))
      (pss_cons (ps_while PassesOwn.never (pt_cmpR op_eq (pe_fld (pv 1) rfl) pe_int (nomark _)) (pss_one (ps_expr (pe_meth (pv 0) T.cl Z.N.mA (ok_add (CV := CV) (ST := ST) (k := 0) Z.N.uA T TS Z.TV Z.RR Z.M) (hr.mono (by omega)) bA .nil pass0 (pa_cons (pv 1) pa_nil)))))
      (pss_one (ps_ret (pv 1))))), ?_⟩
    have cutl : ∀ {H : Hp} {ws : List V} {on : List Nat}, CuV H ws (cutsF 0 on) → on.Pairwise (· < ·) → ∃ nb p, (cutsF 0 on)[(cutsF 0 on).length - 1]? = some (nb, none) ∧ atI ws (-1) = some (.ref p) ∧ H p = some (.tup [.int (nb : Int), .non]) := fun {H ws on} cu asc => by
      have ch := cuts_chn asc
      obtain ⟨nb, hl⟩ := ch.last
      have pos : 0 < (cutsF 0 on).length := List.length_pos_iff.mpr ch.ne
      obtain ⟨p, h1, h2⟩ := cu.get hl
      refine ⟨nb, p, hl, ?_, h2⟩
      rw [show (-1 : Int) = -((1 : Nat) : Int) from rfl, atI_back (Nat.le_refl 1) (by rw [cu.len]; exact pos), cu.len]
      exact h1
    rcases h with ⟨c, rec, sn, g, R, on, H0, rfl, cb, hre, fit, q⟩ | ⟨c, rec, sn, g, R, on, all, z, rfl, fz, hz, q⟩
    · obtain ⟨ws, hcu, cu⟩ := (cb.k.s cb.same).icu
      obtain ⟨nb, p, hl, h1, h2⟩ := cutl cu cb.k.asc
      have mem := List.mem_of_getElem? hl
      have ct := fit.cut nb none mem
      have few := fit.few nb none mem
      refine ⟨fun σ H' => σ = [some (.ref c.cv), none] ∧ ∃ H0' old rec' sn' st dxs tl, Same H0 H0' ∧ Cvr K CV CC ST g R on H0' nb none 0 0 H' c old rec' sn' st dxs tl, ?_, ?_⟩
      · exact ⟨_, rfl, c.cv, c.dx, _, rfl, cb.icv, rfl, .ref c.cv, rfl, c.cv, CC, c.dx, _, _, rfl, cb.icv, T.cl, T.nC, rfl, 1, rfl, c.cu, _, -1, .ref p, rfl, rfl, .inl (.inl hcu), h1, p, _, 0, .int (nb : Int), rfl, rfl, .of h2, rfl, .inl ⟨c, rec, sn, g, R, on, H0, nb, rfl, cb, hre, fit, hl, fun H0' old rec' sn' st dxs tl H1 s1 c1 => ⟨rfl, H0', old, rec', sn', st, dxs, tl, s1, c1⟩⟩⟩
      rintro σ H1 ⟨rfl, H0', old, rec', sn', st, dxs, tl, s1, c1⟩
      refine q_asg (v := .ref st) (ev_op (fld_ev (σ := [some (.ref c.cv), none]) (i := 0) T.cl T.nS rfl c1.cb.icv rfl) ev_neg1 (rv_ixL (.inl (.inl c1.cb.iss)) (last_at _ _))) fun H2 e2 => ?_
      have c2 := c1.s e2
      refine q_while (fun m σ' H' => σ' = [some (.ref c.cv), some (.ref st)] ∧ ((∃ k rec', m + k = 10000001 ∧ Cvr K CV CC ST g R on H0' nb none k k H' c old rec' sn' st dxs tl ∧ FreshS g R nb k) ∨ ∃ k j rec', Cvd K CV CC ST g R on H0' H' c old rec' sn' ⟨⟨nb, none, k, j, true⟩, st, dxs, tl⟩)) 10000001 ⟨rfl, .inl ⟨0, rec', rfl, c2, fun i j _ h => absurd h (Nat.not_lt_zero j)⟩⟩ ?_
      rintro m σ' H' ⟨rfl, ⟨k, rec', hm, ck, fk⟩ | ⟨k, j, rec', cd⟩⟩
      · refine ⟨decide (V.int 0 = V.int 0), et_test (ev_op (fld_ev (σ := [some (.ref c.cv), some (.ref st)]) (i := 1) TS.cl TS.nD rfl ck.ist rfl) ev_c (rv_eq rfl)), fun _ H3 e3 => ⟨fun σ2 H2 => ∃ m', m' < m ∧ σ2 = [some (.ref c.cv), some (.ref st)] ∧ ((∃ k rec', m' + k = 10000001 ∧ Cvr K CV CC ST g R on H0' nb none k k H2 c old rec' sn' st dxs tl ∧ FreshS g R nb k) ∨ ∃ k j rec', Cvd K CV CC ST g R on H0' H2 c old rec' sn' ⟨⟨nb, none, k, j, true⟩, st, dxs, tl⟩), fun σ2 H2 z => z, ?_⟩, fun hb => absurd hb (by decide)⟩
        have c3 := ck.s e3
        have fk1 := few k Low.none fk
        exact ⟨_, rfl, c.cv, c.dx, _, rfl, c3.cb.icv, rfl, _, rfl, c, rec', sn', st, dxs, tl, g, R, on, H0', old, nb, none, k, rfl, c3, ⟨ct, Low.none, fk, few⟩, fun rec2 H4 c4 f4 => ⟨m - 1, by omega, rfl, .inl ⟨k + 1, rec2, by omega, c4, f4⟩⟩, fun j H4 d4 => ⟨0, by omega, rfl, .inr ⟨k, j, rec', d4⟩⟩⟩
      · have lt := (cd.ok.yes rfl).lt
        have lt : j < k := lt
        refine ⟨decide (V.int ((k : Int) - (j : Int)) = V.int 0), et_test (ev_op (fld_ev (σ := [some (.ref c.cv), some (.ref st)]) (i := 1) TS.cl TS.nD rfl cd.at_.ia rfl) ev_c (rv_eq rfl)), fun hb => ?_, fun _ H3 e3 => ?_⟩
        · have := of_decide_eq_true hb
          injection this
          omega
        · have d3 := cd.s e3
          have f3 := d3.frz rfl
          refine ⟨_, rfl, q (old ++ [⟨⟨nb, none, k, j, true⟩, st, dxs, tl⟩]) rec' sn' ⟨⟨nb, none, k, j, true⟩, st, dxs, tl⟩ H3 (s1.trans d3.cb.same) f3 ?_ ?_⟩
          · rw [List.length_append, List.length_singleton, Nat.add_sub_cancel, List.getElem?_append_right (Nat.le_refl _), Nat.sub_self]
            rfl
          · have hc := d3.cut
            have ltq := (List.getElem?_eq_some_iff.mp hc).1
            rw [List.length_append, List.length_singleton]
            by_cases e : old.length + 1 < (cutsF 0 on).length
            · have := ((cuts_chn d3.cb.k.asc).pair hc (List.getElem?_eq_getElem e)).1
              cases this
            · omega
    · obtain ⟨ws, hcu, cu⟩ := fz.k.icu
      obtain ⟨nb, p, hl, h1, h2⟩ := cutl cu fz.k.asc
      refine ⟨fun σ H' => σ = [some (.ref c.cv), none] ∧ Same H H', ?_, ?_⟩
      · exact ⟨_, rfl, c.cv, c.dx, _, rfl, fz.kw.icv, rfl, .ref c.cv, rfl, c.cv, CC, c.dx, _, _, rfl, fz.kw.icv, T.cl, T.nC, rfl, 1, rfl, c.cu, _, -1, .ref p, rfl, rfl, .inl (.inl hcu), h1, p, _, 0, .int (nb : Int), rfl, rfl, .of h2, rfl, .inr ⟨c, rec, sn, g, R, on, all, (nb : Int), rfl, fz, fun H1 s1 => ⟨rfl, s1⟩⟩⟩
      rintro σ H1 ⟨rfl, s1⟩
      have f1 := fz.s s1
      have hze := f1.cuts hz
      have mem : z ∈ all := List.mem_of_getElem? hz
      have ests : sts all = sts (all.take (all.length - 1)) ++ [.ref z.st] := by
        have lt := (List.getElem?_eq_some_iff.mp hz).1
        have h := List.take_succ (l := all) (i := all.length - 1)
        rw [hz, show all.length - 1 + 1 = all.length by omega, List.take_length] at h
        have h2 := congrArg sts h
        unfold sts at h2 ⊢
        rw [List.map_append] at h2
        exact h2
      have iss := f1.kw.iss
      rw [ests] at iss
      refine q_asg (v := .ref z.st) (ev_op (fld_ev (σ := [some (.ref c.cv), none]) (i := 0) T.cl T.nS rfl f1.kw.icv rfl) ev_neg1 (rv_ixL (.inl (.inl iss)) (last_at _ _))) fun H2 e2 => ?_
      have f2 := f1.s e2
      obtain ⟨at2, ok2⟩ := f2.kw.oat z mem
      have rp : z.s.rp = true := by
        cases e : z.s.rp with
        | true => rfl
        | false =>
          have := ok2.no e
          rw [hze] at this
          cases this
      have lt := (ok2.yes rp).lt
      have dy : z.s.dy ≠ 0 := by
        unfold SgP.dy
        rw [if_pos rp]
        omega
      refine q_while (fun _ σ' H' => σ' = [some (.ref c.cv), some (.ref z.st)] ∧ H' = H2) 0 ⟨rfl, rfl⟩ ?_
      rintro m σ' H' ⟨rfl, rfl⟩
      refine ⟨decide (V.int z.s.dy = V.int 0), et_test (ev_op (fld_ev (σ := [some (.ref c.cv), some (.ref z.st)]) (i := 1) TS.cl TS.nD rfl at2.ia rfl) ev_c (rv_eq rfl)), fun hb => ?_, fun _ H3 e3 => ⟨_, rfl, q H3 ((s1.trans e2).trans e3)⟩⟩
      have := of_decide_eq_true hb
      injection this with this
      exact absurd this dy
end
end Sea

set_option Elab.async false
set_option linter.all false
set_option maxRecDepth 100000
set_option maxHeartbeats 4000000
/-! class Costs: __init__ -/
namespace Sea
open PySem PySem.Spec PyProof.Rows L2 LamX NdefX ClX Evl StX
theorem scCoI : FnScope ["self", "tariff", "travel"] ["self", "tariff", "travel"] (defScope sCoI) := ⟨rfl, rfl, rfl, by decide +kernel, rfl, by decide +kernel, by decide +kernel⟩
abbrev coF (t tv cv st : Addr) : List (Str × V) := [("offer", .ref t), ("trips", .ref tv), ("curve", .ref cv), ("last", .ref st)]
structure TCo (K : PySem.W.Frag) (mg : Str → Option Value) (CO CC fCvI fCoI fRep pRep fRpr pRpr fCos fDpr fCut : Addr) (dCvI dCoI dRep dRpr dCos dDpr dCut : FuncData) : Prop where
  cl : Cls K CO
  nO : NoAttr K CO "offer"
  nT : NoAttr K CO "trips"
  nC : NoAttr K CO "curve"
  nL : NoAttr K CO "last"
  gC : mg "Costs" = some (.ref CO)
  mkV : Mk K CC fCvI
  uCv : Fun K "__init__" "Curve.__init__" sCvI fCvI dCvI
  mkO : Mk K CO fCoI
  uCo : Fun K "__init__" "Costs.__init__" sCoI fCoI dCoI
  pR : PropOf K CO "repetition" pRep fRep
  uR : Fun K "repetition" "Costs.repetition" sRep fRep dRep
  pP : PropOf K CO "round_price" pRpr fRpr
  uP : Fun K "round_price" "Costs.round_price" sRpr fRpr dRpr
  mC : Meth K CO "cost" fCos
  uC : Fun K "cost" "Costs.cost" sCos fCos dCos
  mD : Meth K CO "day_price" fDpr
  uD : Fun K "day_price" "Costs.day_price" sDpr fDpr dDpr
  gCut : mg "cuts_of" = some (.ref fCut)
  kCut : PySem.W.keepIn K (.ref fCut) = true
  uCut : Fun K "cuts_of" "cuts_of" sCut fCut dCut
/-- costs of a tariff for a travel -/
structure Cos (K : PySem.W.Frag) (CV CC ST CO : Addr) (g : Pc) (R : Nat) (on : List Nat) (H : Hp) (x dx t : Addr) (c : CvA) (all : List Sg) (rec sn : Addr) (z : Sg) : Prop where
  ix : H x = some (.ins CO dx (coF t c.tv c.cv z.st))
  f : Frz K CV CC ST g R on H c all rec sn
  hz : all[all.length - 1]? = some z
  full : all.length = (cutsF 0 on).length
theorem Cos.s {K : PySem.W.Frag} {CV CC ST CO : Addr} {g : Pc} {R : Nat} {on : List Nat} {H H' : Hp} {x dx t : Addr} {c : CvA} {all : List Sg} {rec sn : Addr} {z : Sg} (h : Cos K CV CC ST CO g R on H x dx t c all rec sn z) (e : Same H H') : Cos K CV CC ST CO g R on H' x dx t c all rec sn z := ⟨e _ _ h.ix, h.f.s e, h.hz, h.full⟩
section
variable {K : PySem.W.Frag} {H H1 H2 : Hp} {x dx D : Addr}
theorem born_ins (nx : H x = none) (ndx : H dx = none) : Same H (upd (upd H dx (.own x)) x (.ins D dx [])) := fun b u e => by
  rw [upd_ne (ne_of_none e nx), upd_ne (ne_of_none e ndx)]
  exact e
theorem KA.back (k : KA x H1 H2) (s : Same H H1) (nx : H x = none) : Same H H2 := fun b u e => k b u (s b u e) (ne_of_none e nx)
end
theorem Tar.same {K : PySem.W.Frag} {C : Addr} {H H' : Hp} {t p : Addr} {L : List (Int × Int)} (h : Tar K C H t p L) (s : Same H H') : Tar K C H' t p L := ⟨h.1.elim fun dx e => ⟨dx, s _ _ e⟩, h.2.tk (.same s)⟩
/-- .. something else is written -/
theorem Frz.put {K : PySem.W.Frag} {CV CC ST CO : Addr} {g : Pc} {R : Nat} {on : List Nat} {H : Hp} {c : CvA} {all : List Sg} {rec sn x dx : Addr} {fs : List (Str × V)} {o : HO} (f : Frz K CV CC ST g R on H c all rec sn) (e : H x = some (.ins CO dx fs)) (l : fs.length < 6) (tv : ∃ dv ov, Tv K CV (upd H x o) c.tv g.ln dv ov g.ds g.os) (pa : ∃ ws, SqT K (upd H x o) c.p ws ∧ PsV K (upd H x o) ws g.L) : Frz K CV CC ST g R on (upd H x o) c all rec sn := by
  have n : ∀ {y : Addr} {u : HO}, H y = some u → u ≠ .ins CO dx fs → (upd H x o) y = some u := fun {y u} h ne => by
    rw [upd_ne (ne_of h e ne)]
    exact h
  obtain ⟨ws, hc, cu⟩ := f.k.icu
  refine ⟨⟨n f.kw.icv (ins_ne (show (7 : Nat) ≠ fs.length by omega)), n f.kw.iss (fun z => nomatch z), fun y hy => ?_, f.kw.cuts, f.kw.asc, f.kw.fo, f.kw.rc, f.kw.ne⟩, ⟨⟨ws, n hc (fun z => nomatch z), cu.ins e⟩, tv, pa, f.k.os, f.k.few, f.k.fo, f.k.asc, f.k.rc, f.k.mx⟩, f.z⟩
  obtain ⟨a, b⟩ := f.kw.oat y hy
  exact ⟨⟨n a.ia (ins_ne (show (6 : Nat) ≠ fs.length by omega)), n a.it (fun z => nomatch z)⟩, b⟩
theorem fld2_ev {K : PySem.W.Frag} {C D a b dx dy : Addr} {fs gs : List (Str × V)} {f h : Str} {v : V} {σ : L2.St} {H : Hp} {i : Nat} (cl : Cls K C) (n : NoAttr K C f) (cl2 : Cls K D) (n2 : NoAttr K D h) (hs : σ[i]? = some (some (.ref a))) (ha : H a = some (.ins C dx fs)) (hf : fs.lookup f = some (.ref b)) (hb : H b = some (.ins D dy gs)) (hg : gs.lookup h = some v) : Ev (tFld K (tFld K (tVar i) f) h) σ H v := fun H1 e Q q =>
  ⟨.ref a, hs, a, C, dx, _, _, rfl, e _ _ ha, cl, n, hf, b, D, dy, _, v, rfl, e _ _ hb, cl2, n2, hg, q H1 (Ex.refl _)⟩
section
variable {P : Program} {w : World} {K : PySem.W.Frag} {mg : Str → Option Value} {base : Heap} {C CV CC ST CO cI cU cP cN fI fP pP fSt fVN fVC fRl pRl fRd pRd fEx pEx fNot fTo fOpn fHol fAdd fClo fRch fKno fVal fCAt fCom fCvI fCoI fRep pRep fRpr pRpr fCos fDpr fCut : Addr} {mc mp : Value} {fdP dVC dSt dVN dRl dRd dEx dNot dTo dOpn dHol dAdd dClo dRch dKno dVal dCAt dCom dCvI dCoI dRep dRpr dCos dDpr dCut : FuncData}
def spCoI (K : PySem.W.Frag) (C CV CC ST CO : Addr) : Sp := fun vs H Q _ => ∃ (x dx t p tv : Addr) (g : Pc) (on : List Nat) (dv ov : V) (H0 : Hp), vs = [.ref x, .ref t, .ref tv] ∧ H x = some (.ins CO dx []) ∧ H0 x = none ∧ Same H0 H ∧ Tar K C H0 t p g.L ∧ g.L ≠ [] ∧ g.L.length ≤ 1000 ∧ (∀ z ∈ g.L, PassOk z) ∧ 1 ≤ g.ln ∧ g.ln ≤ 14 ∧ Tv K CV H0 tv g.ln dv ov g.ds (ofN on) ∧ g.os = ofN on ∧ on.length ≤ 100 ∧ on.Pairwise (· < ·) ∧ (∀ o ∈ on, o ≤ 1000000000000000000) ∧ (∀ R, Reach g R → Fit g R on) ∧
  ∀ (R : Nat) (c : CvA) (all : List Sg) (rec sn : Addr) (z : Sg) H', c.tv = tv → Same H0 H' → Cos K CV CC ST CO g R on H' x dx t c all rec sn z → Q .non H'
theorem ok_coI {k : Nat} (Z : TAll K mg CV CC ST fSt fVN fVC fRl pRl fRd pRd fEx pEx fNot fTo fOpn fHol fAdd fClo fKno fVal fRch fCAt fCom dSt dVN dVC dRl dRd dEx dNot dTo dOpn dHol dAdd dClo dKno dVal dRch dCAt dCom) (TO : TCo K mg CO CC fCvI fCoI fRep pRep fRpr pRpr fCos fDpr fCut dCvI dCoI dRep dRpr dCos dDpr dCut) (T : TX K mg C cI cU cP fI mc mp) (TQ : TP K C fP pP fdP) :
    FnOk P w K mg base CX0 (k + 9) fCoI dCoI ["self", "tariff", "travel"] (spCoI K C CV CC ST CO) := by
  have bV : Binds K dCvI ["self", "passes", "travel"] [] := TO.uCv.binds (ps := ["self", "passes", "travel"]) fun _ _ _ _ _ _ us hl => match us, hl with | [_, _, _], _ => rfl
  have bC : Binds K dCom ["self"] [] := Z.A.uC.binds (ps := ["self"]) fun _ _ _ _ _ _ us hl => match us, hl with | [_], _ => rfl
  refine TO.uCo.ok scCoI (fun vs H Q E h => ?_) (fun cdv A outer s H vs Q E hr h => ?_)
  · obtain ⟨x, dx, t, p, tv, g, on, dv, ov, H0, rfl, _⟩ := h
    rfl
  · obtain ⟨x, dx, t, p, tv, g, on, dv, ov, H0, rfl, hx, nx, s0, ht, ne, fewL, ok, l1, l2, htv, hos, fo, asc, mx, fit, q⟩ := h
    refine ⟨_, pss_cons (ps_fld (pv 0) (pv 1) rfl) (pss_cons (ps_fld (pv 0) (pv 2) rfl)
      (pss_cut (ps_fld (pv 0) (pe_make (E := E0) TO.mkV (ok_cvI (k := 0) TO.uCv Z.T Z.TV Z.RR TO.uCut TO.gCut TO.kCut) (hr.mono (by omega)) (by rfl) Z.T.gC bV .nil pass0 (pa_cons (pe_passes TQ T.cl T.no (hr.mono (by omega)) (pv 1)) (pa_cons (pv 2) pa_nil))) rfl)
      (pss_one (ps_fld (pv 0) (pe_meth0 (pe_fld (pv 0) rfl) Z.T.cl Z.A.mC (ok_com (k := 0) Z) (hr.mono (by omega)) bC .nil pass0) rfl)))), ?_⟩
    refine ⟨_, rfl, _, rfl, x, CO, dx, [], rfl, hx, TO.cl, TO.nO, by decide, _, rfl, _, rfl, x, CO, dx, _, rfl, upd_same, TO.cl, TO.nT, show 1 < 1000 by decide, ?_⟩
    have s1 : Same H0 (upd (upd H x (.ins CO dx (putF "offer" (.ref t) []))) x (.ins CO dx (putF "trips" (.ref tv) (putF "offer" (.ref t) [])))) := same_put (same_put s0 nx) nx
    have x1 : (upd (upd H x (.ins CO dx (putF "offer" (.ref t) []))) x (.ins CO dx (putF "trips" (.ref tv) (putF "offer" (.ref t) [])))) x = some (.ins CO dx [("offer", .ref t), ("trips", .ref tv)]) := upd_same
    revert s1 x1
    generalize upd (upd H x (.ins CO dx (putF "offer" (.ref t) []))) x (.ins CO dx (putF "trips" (.ref tv) (putF "offer" (.ref t) []))) = H1
    intro s1 x1
    refine ⟨fun σ H' => σ = [some (.ref x), some (.ref t), some (.ref tv)] ∧ ∃ (cv dxc cu sts rec sn : Addr) (R : Nat) (ws : List V), H' x = some (.ins CO dx [("offer", .ref t), ("trips", .ref tv), ("curve", .ref cv)]) ∧ Same H0 H' ∧ H0 cv = none ∧ H0 sts = none ∧ H' cv = some (.ins CC dxc (cvF p tv R cu sts rec sn)) ∧ H' cu = some (.lst ws) ∧ CuV H' ws (cutsF 0 on) ∧ H' sts = some (.lst []) ∧ H' rec = some (.lst ((recs g R 0).map V.int)) ∧ Reach g R, ?_, ?_⟩
    · obtain ⟨⟨dxt, hti⟩, pa⟩ := id (ht.same s1)
      obtain ⟨p', us, ep, hp, hps⟩ := id pa
      cases ep
      refine ⟨_, rfl, t, dxt, _, rfl, hti, t, dxt, _, .ref p, rfl, hti, rfl, _, rfl, fun cv dxc ncv ndx nd => ?_⟩
      have sb : Same H1 (upd (upd H1 dxc (.own cv)) cv (.ins CC dxc [])) := born_ins ncv ndx
      refine ⟨cv, dxc, p, tv, us, g, on, dv, ov, rfl, upd_same, (TK.same (K := K) sb) _ _ hp, hps.tk (.same sb), fewL, ne, ok, l1, l2, (htv.same s1).same sb, fo, fun R cu sts rec sn ws H2 rc ka hcv hcu cu' nss hst hre => ⟨rfl, _, rfl, x, CO, dx, [("offer", .ref t), ("trips", .ref tv)], rfl, ?_, TO.cl, TO.nC, show 2 < 1000 by decide, rfl, cv, dxc, cu, sts, rec, sn, R, ws, upd_same, ?_⟩⟩
      · exact ka.back sb ncv _ _ x1
      · have s2 : Same H1 H2 := ka.back sb ncv
        have n : ∀ {y : Addr} {o : HO}, H2 y = some o → (∀ fs, o ≠ .ins CO dx fs) → ∀ u, (upd H2 x u) y = some o := fun {y o} e ne u => by
          rw [upd_ne (ne_of e (s2 _ _ x1) (ne _))]
          exact e
        have ncx : cv ≠ x := fun z => by rw [z, x1] at ncv; cases ncv
        refine ⟨same_put (s1.trans s2) nx, fresh_back s1 ncv, fresh_back (s1.trans sb) nss, ?_, n hcu (fun _ z => nomatch z) _, cu'.ins (s2 _ _ x1), n hst (fun _ z => nomatch z) _, n hre (fun _ z => nomatch z) _, rc⟩
        rw [upd_ne ncx]
        exact hcv
    rintro σ H2 ⟨rfl, cv, dxc, cu, sts, rec, sn, R, ws, x2, s2, ncv, nss, hcv, hcu, cu', hst, hre, rc⟩
    have ncx : x ≠ cv := ne_of x2 hcv (ins_ne (show (3 : Nat) ≠ 7 by decide))
    have nsx : x ≠ sts := ne_of x2 hst (fun z => nomatch z)
    have sH : Same H0 (less2 H2 cv sts) := same_less2 s2 ncv nss
    obtain ⟨p0, ws0, ep0, hp0, hps0⟩ := id ht.2
    cases ep0
    have wne : ws ≠ [] := fun z => by
      have := cu'.len
      rw [z] at this
      exact (cuts_chn asc).ne (List.eq_nil_of_length_eq_zero this.symm)
    have cb : Cvb K CV CC ST g R on (less2 H2 cv sts) H2 ⟨cv, dxc, p, tv, cu, sts⟩ [] rec sn [] := by
      refine ⟨less2_same, if_pos (.inl rfl), if_pos (.inr rfl), ⟨⟨ws, ?_, ?_⟩, ⟨dv, ov, ?_⟩, ⟨ws0, (TK.same (K := K) sH) _ _ hp0, hps0.tk (.same sH)⟩, hos, fewL, fo, asc, rc, mx⟩, (fun z hz => nomatch hz), rfl, hcv, hst⟩
      · rw [less2_at (ne_of hcu hcv (fun z => nomatch z)) (ne_of hcu hst (fun z => by injection z with z; exact wne z))]
        exact hcu
      · exact cu'.mono fun q xs z => by
          rw [less2_at (ne_of z hcv (fun z => nomatch z)) (ne_of z hst (fun z => nomatch z))]
          exact z
      · rw [hos]
        exact htv.same sH
    have xl : (less2 H2 cv sts) x = some (.ins CO dx [("offer", .ref t), ("trips", .ref tv), ("curve", .ref cv)]) := by
      rw [less2_at ncx nsx]
      exact x2
    refine ⟨_, rfl, x, CO, dx, _, _, rfl, x2, TO.cl, TO.nC, rfl, cv, dxc, _, rfl, hcv, rfl, .inl ⟨⟨cv, dxc, p, tv, cu, sts⟩, rec, sn, g, R, on, less2 H2 cv sts, rfl, cb, hre, fit R rc, fun all rec' sn' z H3 s3 f3 hz full => ?_⟩⟩
    have x3 := s3 _ _ xl
    have s4 : Same H0 (upd H3 x (.ins CO dx (coF t tv cv z.st))) := same_put (sH.trans s3) nx
    refine ⟨_, rfl, x, CO, dx, _, rfl, x3, TO.cl, TO.nL, show 3 < 1000 by decide, ?_⟩
    exact q R ⟨cv, dxc, p, tv, cu, sts⟩ all rec' sn' z _ rfl s4 ⟨upd_same, f3.put x3 (show 3 < 6 by decide) ⟨dv, ov, by rw [hos]; exact htv.same s4⟩ ⟨ws0, (TK.same (K := K) s4) _ _ hp0, hps0.tk (.same s4)⟩, hz, full⟩
end
end Sea

set_option Elab.async false
set_option linter.all false
set_option maxRecDepth 100000
set_option maxHeartbeats 4000000
/-! class Costs: cost, day_price, repetition -/
namespace Sea
open PySem PySem.Spec PyProof.Rows L2 LamX NdefX ClX Evl StX
theorem scRep : FnScope ["self", "place"] ["self"] (defScope sRep) := ⟨rfl, rfl, rfl, by decide +kernel, rfl, by decide +kernel, by decide +kernel⟩
theorem scCos : FnScope ["self", "count"] ["self", "count"] (defScope sCos) := ⟨rfl, rfl, rfl, by decide +kernel, rfl, by decide +kernel, by decide +kernel⟩
theorem scDpr : FnScope ["self", "day"] ["self", "day"] (defScope sDpr) := ⟨rfl, rfl, rfl, by decide +kernel, rfl, by decide +kernel, by decide +kernel⟩
theorem cutsF_mem : ∀ (on : List Nat) (b0 b : Nat) (e : Option Nat), (b, e) ∈ cutsF b0 on → b = b0 ∨ ∃ o ∈ on, b = o ∨ b = o + 1
  | [], b0, b, e, h => by
    rcases List.mem_singleton.mp h with h
    injection h with h
    exact .inl h
  | o :: r, b0, b, e, h => by
    unfold cutsF at h
    rcases List.mem_append.mp h with h | h
    · split at h
      · rcases List.mem_singleton.mp h with h
        injection h with h
        exact .inl h
      · cases h
    · rcases List.mem_cons.mp h with h | h
      · injection h with h
        exact .inr ⟨o, List.mem_cons_self, .inl h⟩
      · rcases cutsF_mem r (o + 1) b e h with h | ⟨p, hp, h⟩
        · exact .inr ⟨o, List.mem_cons_self, .inr h⟩
        · exact .inr ⟨p, List.mem_cons_of_mem _ hp, h⟩
theorem Cvk.bb {K : PySem.W.Frag} {CV : Addr} {g : Pc} {R : Nat} {on : List Nat} {H : Hp} {c : CvA} (k : Cvk K CV g R on H c) {i b : Nat} {e : Option Nat} (h : (cutsF 0 on)[i]? = some (b, e)) : b ≤ 1000000000000000001 := by
  rcases cutsF_mem on 0 b e (List.mem_of_getElem? h) with h | ⟨o, ho, h⟩
  · omega
  · have := k.mx o ho
    omega
section
variable {P : Program} {w : World} {K : PySem.W.Frag} {mg : Str → Option Value} {base : Heap} {C CV CC ST CO cV cI cU cP cN fV fI fP pP fSt fVN fVC fRl pRl fRd pRd fEx pEx fNot fTo fOpn fHol fAdd fClo fRch fKno fVal fCAt fCom fCvI fCoI fRep pRep fRpr pRpr fCos fDpr fCut : Addr} {mc mp : Value} {fdV fdP dVC dSt dVN dRl dRd dEx dNot dTo dOpn dHol dAdd dClo dRch dKno dVal dCAt dCom dCvI dCoI dRep dRpr dCos dDpr dCut : FuncData}
def spCos (K : PySem.W.Frag) (CV CC ST CO : Addr) : Sp := fun vs H Q _ => ∃ (x dx t : Addr) (c : CvA) (all : List Sg) (rec sn : Addr) (z : Sg) (g : Pc) (R : Nat) (on : List Nat) (n : Nat), vs = [.ref x, .int n] ∧ Cos K CV CC ST CO g R on H x dx t c all rec sn z ∧ n ≤ 1000000000000000000 ∧ ∀ H', Same H H' → Q (.int (cst g R n)) H'
theorem ok_cos {k : Nat} (Z : TAll K mg CV CC ST fSt fVN fVC fRl pRl fRd pRd fEx pEx fNot fTo fOpn fHol fAdd fClo fKno fVal fRch fCAt fCom dSt dVN dVC dRl dRd dEx dNot dTo dOpn dHol dAdd dClo dKno dVal dRch dCAt dCom) (TO : TCo K mg CO CC fCvI fCoI fRep pRep fRpr pRpr fCos fDpr fCut dCvI dCoI dRep dRpr dCos dDpr dCut) (EV : TEv K mg cV cN cP fV fdV mp) : FnOk P w K mg base (L2.CX P w) (k + 9) fCos dCos ["self", "count"] (spCos K CV CC ST CO) := by
  have bA : Binds K dCAt ["self", "count"] [] := Z.A.uA.binds (ps := ["self", "count"]) fun _ _ _ _ _ _ us hl => match us, hl with | [_, _], _ => rfl
  refine TO.uC.okX scCos (fun vs H Q E h => ?_) (fun cdv A outer s H vs Q E hr h => ?_)
  · obtain ⟨x, dx, t, c, all, rec, sn, z, g, R, on, n, rfl, _⟩ := h
    rfl
  · obtain ⟨x, dx, t, c, all, rec, sn, z, g, R, on, n, rfl, co, n18, q⟩ := h
    refine ⟨_, pss_cons (ps_expr (pe_call (E := E) (ok_vc (k := 0) Z.TV.uVC EV) (hr.mono (by omega)) (by rfl) Z.TV.gVC Z.TV.kVC Z.TV.bVC .nil (passes_call (takes_of rfl rfl rfl rfl) (fun _ _ _ _ h => h)) (pa_cons (pv 1) (pa_cons pe_int (pa_cons (C8.pe_gc (by rfl) Z.TV.mD) pa_nil)))))
      (pss_one (ps_ret (pe_meth (pe_fld (pv 0) rfl) Z.T.cl Z.A.mA (ok_cAt (k := 0) Z) (hr.mono (by omega)) bA .nil pass0 (pa_cons (pv 1) pa_nil)))), ?_⟩
    refine ⟨_, rfl, (n : Int), 0, 1000000000000000000, rfl, fun _ H1 s1 => ?_, fun hc => absurd ⟨by omega, by omega⟩ hc⟩
    have c1 := co.s s1
    exact ⟨_, rfl, x, CO, dx, _, _, rfl, c1.ix, TO.cl, TO.nC, rfl, c.cv, c.dx, _, rfl, c1.f.kw.icv, rfl, _, rfl, c, rec, sn, g, R, on, all, n, rfl, c1.f, by omega, fun H2 s2 => q H2 (Same.trans s1 s2)⟩
def spDpr (K : PySem.W.Frag) (CV CC ST CO : Addr) : Sp := fun vs H Q _ => ∃ (x dx t : Addr) (c : CvA) (all : List Sg) (rec sn : Addr) (z : Sg) (g : Pc) (R : Nat) (on : List Nat) (n : Nat), vs = [.ref x, .int n] ∧ Cos K CV CC ST CO g R on H x dx t c all rec sn z ∧ n < 1000000000000000000 ∧ ∀ H', Same H H' → Q (.int (cst g R (n + 1) - cst g R n)) H'
theorem ok_dpr {k : Nat} (Z : TAll K mg CV CC ST fSt fVN fVC fRl pRl fRd pRd fEx pEx fNot fTo fOpn fHol fAdd fClo fKno fVal fRch fCAt fCom dSt dVN dVC dRl dRd dEx dNot dTo dOpn dHol dAdd dClo dKno dVal dRch dCAt dCom) (TO : TCo K mg CO CC fCvI fCoI fRep pRep fRpr pRpr fCos fDpr fCut dCvI dCoI dRep dRpr dCos dDpr dCut) (EV : TEv K mg cV cN cP fV fdV mp) : FnOk P w K mg base (L2.CX P w) (k + 9) fDpr dDpr ["self", "day"] (spDpr K CV CC ST CO) := by
  have bA : Binds K dCAt ["self", "count"] [] := Z.A.uA.binds (ps := ["self", "count"]) fun _ _ _ _ _ _ us hl => match us, hl with | [_, _], _ => rfl
  refine TO.uD.okX scDpr (fun vs H Q E h => ?_) (fun cdv A outer s H vs Q E hr h => ?_)
  · obtain ⟨x, dx, t, c, all, rec, sn, z, g, R, on, n, rfl, _⟩ := h
    rfl
  · obtain ⟨x, dx, t, c, all, rec, sn, z, g, R, on, n, rfl, co, n18, q⟩ := h
    refine ⟨_, pss_cons (ps_expr (pe_call (E := E) (ok_vc (k := 0) Z.TV.uVC EV) (hr.mono (by omega)) (by rfl) Z.TV.gVC Z.TV.kVC Z.TV.bVC .nil (passes_call (takes_of rfl rfl rfl rfl) (fun _ _ _ _ h => h)) (pa_cons (pv 1) (pa_cons pe_int (pa_cons (pe_op op_sub (C8.pe_gc (by rfl) Z.TV.mD) pe_int) pa_nil)))))
      (pss_one (ps_ret (pe_op op_sub (pe_meth (pe_fld (pv 0) rfl) Z.T.cl Z.A.mA (ok_cAt (k := 0) Z) (hr.mono (by omega)) bA .nil pass0 (pa_cons (pe_op op_add (pv 1) pe_int) pa_nil)) (pe_meth (pe_fld (pv 0) rfl) Z.T.cl Z.A.mA (ok_cAt (k := 0) Z) (hr.mono (by omega)) bA .nil pass0 (pa_cons (pv 1) pa_nil))))), ?_⟩
    refine ⟨_, rfl, _, _, rfl, rfl, (n : Int), 0, _, rfl, fun _ H1 s1 => ?_, fun hc => absurd ⟨by omega, by show (n : Int) ≤ 1000000000000000000 - 1; omega⟩ hc⟩
    have c1 := co.s s1
    have at_ : ∀ {H2 : Hp} {te : TE} (m : Nat), Same H1 H2 → m ≤ 1000000000000000000 → Ev te [some (.ref x), some (.int (n : Int))] H2 (.int (m : Int)) → Ev (tMeth CC "at" (spCAt K CV CC ST) [] E0 (tFld K (tVar 0) "curve") (tCons te tNil)) [some (.ref x), some (.int (n : Int))] H2 (.int (cst g R m)) := fun {H2 te} m s2 hm he H3 e3 Q3 q3 => by
      have c3 := c1.s (s2.trans e3)
      refine ⟨_, rfl, x, CO, dx, _, _, rfl, c3.ix, TO.cl, TO.nC, rfl, c.cv, c.dx, _, rfl, c3.f.kw.icv, rfl, he H3 e3 _ fun H4 e4 => ?_⟩
      have c4 := c3.s e4
      exact ⟨c, rec, sn, g, R, on, all, m, rfl, c4.f, by omega, fun H5 s5 => q3 H5 (e4.trans s5)⟩
    refine s_ret (v := .int (cst g R (n + 1) - cst g R n)) (ev_op (at_ (n + 1) (Same.refl _) (by omega) (ev_is (ev_op (ev_var rfl) ev_c (rv_I0 (g := fun i j => .int (i + j)) (i := (n : Int)) (j := 1))) (by congr 1))) (at_ n (Same.refl _) (by omega) (ev_var rfl)) rv_I0) fun H2 e2 => q H2 (s1.trans e2)
def spRep (K : PySem.W.Frag) (CV CC ST CO : Addr) : Sp := fun vs H Q _ => ∃ (x dx t : Addr) (c : CvA) (all : List Sg) (rec sn : Addr) (z : Sg) (g : Pc) (R : Nat) (on : List Nat), vs = [.ref x] ∧ Cos K CV CC ST CO g R on H x dx t c all rec sn z ∧
  ∀ (f : Nat) (r : Addr) H', f ≤ z.s.j → (∀ k, f ≤ k → cst g R (z.s.b + (k + (z.s.d - z.s.j))) = cst g R (z.s.b + k) + z.s.gn g R) → (f = 0 ∨ cst g R (z.s.b + (f - 1 + (z.s.d - z.s.j))) ≠ cst g R (z.s.b + (f - 1)) + z.s.gn g R) → Same H H' → H' r = some (.tup [.int ((z.s.b + f : Nat) : Int), .int z.s.dy, .int (z.s.gn g R)]) → Q (.ref r) H'
theorem Cos.at_ {H : Hp} {x dx t : Addr} {c : CvA} {all : List Sg} {rec sn : Addr} {z : Sg} {g : Pc} {R : Nat} {on : List Nat} (h : Cos K CV CC ST CO g R on H x dx t c all rec sn z) : SgAt ST g R H z.s z.st z.dx z.tl ∧ SgOk g R z.s ∧ z.s.e = none ∧ z.s.rp = true := by
  have mem : z ∈ all := List.mem_of_getElem? h.hz
  obtain ⟨a, b⟩ := h.f.kw.oat z mem
  have e := h.f.cuts h.hz
  refine ⟨a, b, e, ?_⟩
  cases r : z.s.rp with
  | true => rfl
  | false =>
    have := b.no r
    rw [e] at this
    cases this
theorem ok_rep {k : Nat} (Z : TAll K mg CV CC ST fSt fVN fVC fRl pRl fRd pRd fEx pEx fNot fTo fOpn fHol fAdd fClo fKno fVal fRch fCAt fCom dSt dVN dVC dRl dRd dEx dNot dTo dOpn dHol dAdd dClo dKno dVal dRch dCAt dCom) (TO : TCo K mg CO CC fCvI fCoI fRep pRep fRpr pRpr fCos fDpr fCut dCvI dCoI dRep dRpr dCos dDpr dCut) : FnOk P w K mg base CX0 (k + 2) fRep dRep ["self"] (spRep K CV CC ST CO) := by
  have TS := Z.TS
  have bV : Binds K dVal ["self", "count"] [] := Z.Kn.uV.binds (ps := ["self", "count"]) fun _ _ _ _ _ _ us hl => match us, hl with | [_, _], _ => rfl
  refine TO.uR.ok scRep (fun vs H Q E h => ?_) (fun cdv A outer s H vs Q E hr h => ?_)
  · obtain ⟨x, dx, t, c, all, rec, sn, z, g, R, on, rfl, _⟩ := h
    rfl
  · obtain ⟨x, dx, t, c, all, rec, sn, z, g, R, on, rfl, co, q⟩ := h
    refine ⟨_, pss_cons (ps_set (i := 1) scRep.nd rfl (.inl rfl) (pe_fld (pe_fld (pv 0) rfl) rfl))
      (pss_cons (ps_while PassesOwn.never (PW.pt (pw_and (pt_cmpR op_gt (pv 1) pe_int (nomark _)) (pw_and1 (pt_cmpR op_eq (pe_meth (pe_fld (pv 0) rfl) TS.cl Z.Kn.mV (ok_val (k := 0) Z.Kn.uV TS) (hr.mono (by omega)) bV .nil pass0 (pa_cons (pe_op op_add (pe_op op_sub (pe_op op_add (pe_fld (pe_fld (pv 0) rfl) rfl) (pv 1)) pe_int) (pe_fld (pe_fld (pv 0) rfl) rfl)) pa_nil)) (pe_op op_add (pe_meth (pe_fld (pv 0) rfl) TS.cl Z.Kn.mV (ok_val (k := 0) Z.Kn.uV TS) (hr.mono (by omega)) bV .nil pass0 (pa_cons (pe_op op_sub (pe_op op_add (pe_fld (pe_fld (pv 0) rfl) rfl) (pv 1)) pe_int) pa_nil)) (pe_fld (pe_fld (pv 0) rfl) rfl)) (nomark _)))))
        (pss_one (ps_aug (i := 1) scRep.nd rfl (.inl rfl) pe_int ip_sub)))
      (pss_one (ps_ret (pe_tup (pa_cons (pe_op op_add (pe_fld (pe_fld (pv 0) rfl) rfl) (pv 1)) (pa_cons (pe_fld (pe_fld (pv 0) rfl) rfl) (pa_cons (pe_fld (pe_fld (pv 0) rfl) rfl) pa_nil))))))), ?_⟩
    obtain ⟨_, ok, hen, rp⟩ := co.at_
    have rep := ok.yes rp
    have lt := rep.lt
    have rc := co.f.kw.rc
    have big := ok.big
    have sst : z.s.st = (z.s.j : Int) := if_pos rp
    have sdy : z.s.dy = (z.s.d : Int) - z.s.j := if_pos rp
    have hb18 : z.s.b ≤ 1000000000000000001 := co.f.k.bb (co.f.kw.at_ co.hz)
    have sgn : z.s.gn g R = cst g R (z.s.b + z.s.d) - cst g R (z.s.b + z.s.j) := if_pos rp
    have nx : ∀ k, z.s.j ≤ k → cst g R (z.s.b + (k + (z.s.d - z.s.j))) = cst g R (z.s.b + k) + z.s.gn g R := fun k hk => by
      have := rep.next rc ok.cut (k - z.s.j) (by rw [hen]; exact Low.none)
      rw [sgn, show z.s.b + (k + (z.s.d - z.s.j)) = z.s.b + z.s.d + (k - z.s.j) by omega, show z.s.b + k = z.s.b + z.s.j + (k - z.s.j) by omega]
      exact this
    have fl : ∀ {σ : L2.St} {H' : Hp} {h : Str} {v : V}, Same H H' → σ[0]? = some (some (.ref x)) → NoAttr K ST h → (stF z.s.b z.s.e z.tl z.s.st z.s.dy (z.s.gn g R)).lookup h = some v → Ev (tFld K (tFld K (tVar 0) "last") h) σ H' v := fun {σ H' h v} s hs n hv => fld2_ev TO.cl TO.nL TS.cl n hs (co.s s).ix rfl (co.s s).at_.1.ia hv
    generalize hD : z.s.d - z.s.j = D at *
    have eD : z.s.dy = (D : Int) := by omega
    generalize hG : z.s.gn g R = G at *
    generalize hB : z.s.b = B at *
    refine q_asg (v := .int (z.s.j : Int)) (ev_is (fl (Same.refl H) rfl TS.nS rfl) (by rw [sst])) fun H1 e1 => ?_
    refine q_while (fun m σ' H' => ∃ f : Nat, m = f ∧ σ' = [some (.ref x), some (.int (f : Int))] ∧ f ≤ z.s.j ∧ (∀ k, f ≤ k → cst g R (B + (k + D)) = cst g R (B + k) + G) ∧ Same H H') z.s.j ⟨z.s.j, rfl, rfl, Nat.le_refl _, nx, e1⟩ ?_
    rintro f σ' H' ⟨_, rfl, rfl, hf, per, s1⟩
    have val : ∀ (n : Nat) (te : TE), B ≤ n → n ≤ 2000000000000000000 → Ev te [some (.ref x), some (.int (f : Int))] H' (.int (n : Int)) → Ev (tMeth ST "value" (spVal ST) [] E0 (tFld K (tVar 0) "last") (tCons te tNil)) [some (.ref x), some (.int (f : Int))] H' (.int (cst g R n)) := fun n te hb hn he H2 e2 Q2 q2 => by
      have c2 := co.s (s1.trans e2)
      refine ⟨_, rfl, x, CO, dx, _, _, rfl, c2.ix, TO.cl, TO.nL, rfl, z.st, z.dx, _, rfl, c2.at_.1.ia, rfl, he H2 e2 _ fun H3 e3 => ?_⟩
      have c3 := c2.s e3
      exact ⟨z.st, z.dx, z.tl, g, R, n, z.s, rfl, c3.at_.1, rc, ok, by rw [hB]; exact hb, by rw [hen]; exact Low.none, hn, fun H4 s4 => q2 H4 (e3.trans s4)⟩
    refine ⟨decide (0 < (f : Int)) && decide (V.int (cst g R (B + (f - 1 + D))) = V.int (cst g R (B + (f - 1)) + G)), et_and (et_test (ev_op (ev_var rfl) ev_c (rv_I0 (g := fun i j => .bl (decide (j < i)))))) (fun hb => ?_), fun hb H2 e2 => ?_, fun hb H2 e2 => ?_⟩
    · have f0 := of_decide_eq_true hb
      have eP : Ev (tOp (rI0 fun i j => .int (i - j)) (tOp (rI0 fun i j => .int (i + j)) (tFld K (tFld K (tVar 0) "last") "begin") (tVar 1)) (tC (.int 1))) [some (.ref x), some (.int (f : Int))] H' (.int ((B + (f - 1) : Nat) : Int)) := ev_is (ev_op (ev_op (fl s1 rfl TS.nB rfl) (ev_var rfl) (rv_I0 (g := fun i j => .int (i + j)) (i := (B : Int)) (j := (f : Int)))) ev_c (rv_I0 (g := fun i j => .int (i - j)))) (by congr 1; omega)
      exact et_test (ev_op (val (B + (f - 1 + D)) _ (by omega) (by omega) (ev_is (ev_op eP (fl s1 rfl TS.nD rfl) (rv_I0 (g := fun i j => .int (i + j)))) (by rw [eD]; congr 1; omega))) (ev_op (val (B + (f - 1)) _ (by omega) (by omega) eP) (fl s1 rfl TS.nG rfl) (rv_I0 (g := fun i j => .int (i + j)))) (rv_eq rfl))
    · rw [Bool.and_eq_true, decide_eq_true_eq, decide_eq_true_eq] at hb
      obtain ⟨f0, eq⟩ := hb
      have eq : cst g R (B + (f - 1 + D)) = cst g R (B + (f - 1)) + G := by injection eq
      refine ⟨fun σ2 H2 => ∃ m', m' < f ∧ ∃ f' : Nat, m' = f' ∧ σ2 = [some (.ref x), some (.int (f' : Int))] ∧ f' ≤ z.s.j ∧ (∀ k, f' ≤ k → cst g R (B + (k + D)) = cst g R (B + k) + G) ∧ Same H H2, fun _ _ z => z, ?_⟩
      refine ⟨_, rfl, _, _, rfl, rfl, f - 1, by omega, f - 1, rfl, ?_, by omega, fun k hk => ?_, s1.trans e2⟩
      · show _ = ([some (V.ref x), some (V.int ((f - 1 : Nat) : Int))] : L2.St)
        rw [show ((f - 1 : Nat) : Int) = (f : Int) - 1 by omega]
        rfl
      · by_cases e : k = f - 1
        · rw [e]
          exact eq
        · exact per k (by omega)
    · have s2 := s1.trans e2
      unfold tRet tTup tCons tNil
      refine (ev_op (fl s2 rfl TS.nB rfl) (ev_var rfl) (rv_I0 (g := fun i j => .int (i + j)) (i := (B : Int)) (j := (f : Int))) : Ev _ [some (.ref x), some (.int (f : Int))] H2 (.int ((B : Int) + (f : Int)))) H2 (Ex.refl _) _ fun H3 e3 => ?_
      have s3 := s2.trans e3
      refine fl s3 rfl TS.nD rfl H3 (Ex.refl _) _ fun H4 e4 => ?_
      have s4 := s3.trans e4
      refine fl s4 rfl TS.nG rfl H4 (Ex.refl _) _ fun H5 e5 => ?_
      refine ⟨Nat.le_of_lt (small1000 (show 3 ≤ 1000 by decide)), fun r nr => q f r _ hf per ?_ ((s4.trans e5).trans (same_new nr)) ?_⟩
      · by_cases f0 : f = 0
        · exact .inl f0
        · refine .inr fun z => ?_
          rw [decide_eq_true (show (0 : Int) < (f : Int) by omega), Bool.true_and] at hb
          have := of_decide_eq_false hb
          rw [z] at this
          exact this rfl
      · rw [upd_same, show ((B + f : Nat) : Int) = (B : Int) + (f : Int) by omega]
end
end Sea

set_option Elab.async false
set_option linter.all false
set_option maxRecDepth 100000
set_option maxHeartbeats 4000000
/-! common_divisor; costs do not fall; class Costs: round_price -/
namespace Sea
open PySem PySem.Spec PyProof.Rows L2 LamX NdefX ClX Evl StX
theorem scCd : FnScope ["one", "other"] ["one", "other"] (defScope sCd) := ⟨rfl, rfl, rfl, by decide +kernel, rfl, by decide +kernel, by decide +kernel⟩
def frac (n d : Int) : Int × Int := (n / (Int.gcd n d : Nat), d / (Int.gcd n d : Nat))
theorem frac_pos {n d : Int} (h : 0 < d) : 0 < (frac n d).2 := by
  have g0 : Int.gcd n d ≠ 0 := fun e => by
    have := (Int.gcd_eq_zero_iff.mp e).2
    omega
  have g1 : (0 : Int) < (Int.gcd n d : Nat) := by omega
  obtain ⟨c, hc⟩ := Int.gcd_dvd_right n d
  show 0 < d / (Int.gcd n d : Nat)
  have c0 : 0 < c := by
    rcases Int.lt_trichotomy c 0 with z | z | z
    · have := Int.mul_neg_of_pos_of_neg g1 z
      omega
    · rw [z, Int.mul_zero] at hc
      omega
    · exact z
  have : d / (Int.gcd n d : Nat) = c := by
    have e := Int.mul_ediv_cancel_left c (show ((Int.gcd n d : Nat) : Int) ≠ 0 by omega)
    rw [← hc] at e
    exact e
  rw [this]
  exact c0
theorem frac_le {n d : Int} (h : 0 < d) : (frac n d).2 ≤ d := Int.ediv_le_self _ (by omega)
def spCd : Sp := fun vs H Q _ => ∃ a b : Int, vs = [.int a, .int b] ∧ 0 ≤ a ∧ 0 ≤ b ∧ ∀ H', Same H H' → Q (.int (Int.gcd a b : Nat)) H'
theorem gcd_step {a b : Int} (h : 0 ≤ a) (h' : 0 < b) : Int.gcd b (a.fmod b) = Int.gcd a b := by
  obtain ⟨n, rfl⟩ := Int.eq_ofNat_of_zero_le h
  obtain ⟨m, rfl⟩ := Int.eq_ofNat_of_zero_le (Int.le_of_lt h')
  have e : (n : Int).fmod (m : Int) = ((n % m : Nat) : Int) := by
    rw [Int.fmod_eq_emod_of_nonneg _ (Int.natCast_nonneg m)]
    rfl
  rw [e]
  show Nat.gcd m (n % m) = Nat.gcd n m
  rw [Nat.gcd_comm n m, Nat.gcd_rec m n, Nat.gcd_comm]
section
variable {P : Program} {w : World} {K : PySem.W.Frag} {mg : Str → Option Value} {base : Heap}
theorem ok_cd {f : Addr} {fd : FuncData} {k : Nat} (F : Fun K "common_divisor" "common_divisor" sCd f fd) (mI : mg "int" = none) : FnOk P w K mg base CX0 (k + 1) f fd ["one", "other"] spCd := by
  refine F.ok scCd (fun vs H Q E h => ?_) (fun cdv A outer s H vs Q E hr h => ?_)
  · obtain ⟨a, b, rfl, _⟩ := h
    rfl
  · obtain ⟨a, b, rfl, a0, b0, q⟩ := h
    refine ⟨_, pss_cons (ps_while PassesOwn.never (pt_cmpR op_ne (pv 1) pe_int (nomark _))
        (pss_one (ps_par (i := 0) (j := 1) rfl scCd.nd rfl rfl (by decide) rfl rfl (pa_cons (pv 1) (pa_cons (pe_op op_modN (pe_callTy call_int1 (by rfl) mI (by rfl) (pa_cons (pv 0) pa_nil)) (pe_callTy call_int1 (by rfl) mI (by rfl) (pa_cons (pv 1) pa_nil))) pa_nil)) (by rfl))))
      (pss_one (ps_ret (pv 0))), ?_⟩
    refine q_while (fun m σ H' => ∃ x y : Int, σ = [some (.int x), some (.int y)] ∧ 0 ≤ x ∧ 0 ≤ y ∧ m = y.toNat ∧ Int.gcd x y = Int.gcd a b ∧ Same H H') b.toNat ⟨a, b, rfl, a0, b0, rfl, rfl, Same.refl H⟩ ?_
    rintro m σ' H' ⟨x, y, rfl, x0, y0, rfl, g, sm⟩
    refine ⟨!decide (V.int y = V.int 0), et_test (ev_op (ev_var rfl) ev_c (rv_ne rfl)), fun hb H1 e1 => ?_, fun hb H1 e1 => ?_⟩
    · have yn : 0 < y := by
        have : y ≠ 0 := fun z => by
          rw [z] at hb
          cases hb
        omega
      refine ⟨fun σ2 H2 => ∃ m', m' < y.toNat ∧ ∃ x y : Int, σ2 = [some (.int x), some (.int y)] ∧ 0 ≤ x ∧ 0 ≤ y ∧ m' = y.toNat ∧ Int.gcd x y = Int.gcd a b ∧ Same H H2, fun σ2 H2 h => h, ?_⟩
      have f0 := Int.fmod_nonneg_of_pos x yn
      have f1 := Int.fmod_lt_of_pos x yn
      refine ⟨_, rfl, (ev_op (ev_int1 (ev_var rfl)) (ev_int1 (ev_var rfl)) (rv_I (C := fun _ j => j ≠ 0) (g := fun i j => .int (i.fmod j)) (i := x) (j := y) (by omega))) H1 (Ex.refl H1) _ fun H2 e2 => ⟨_, _, rfl, _, ?_, y, x.fmod y, rfl, y0, f0, rfl, ?_, (sm.trans e1).trans e2⟩⟩
      · omega
      · rw [gcd_step x0 yn, g]
    · have y1 : y = 0 := by
        by_cases z : y = 0
        · exact z
        · rw [decide_eq_false (fun e => z (by injection e))] at hb
          cases hb
      subst y1
      refine ⟨_, rfl, ?_⟩
      have e : ((Int.gcd a b : Nat) : Int) = x := by
        rw [← g, Int.gcd_zero_right]
        omega
      have := q H1 (sm.trans e1)
      rw [e] at this
      exact this
end
structure TCd (K : PySem.W.Frag) (mg : Str → Option Value) (fCd : Addr) (dCd : FuncData) : Prop where
  gCd : mg "common_divisor" = some (.ref fCd)
  kCd : PySem.W.keepIn K (.ref fCd) = true
  uCd : Fun K "common_divisor" "common_divisor" sCd fCd dCd
theorem ev_cd {ta tb : TE} {σ : L2.St} {H : Hp} {a b : Int} (h1 : Ev ta σ H (.int a)) (h2 : Ev tb σ H (.int b)) (a0 : 0 ≤ a) (b0 : 0 ≤ b) : Ev (tCall spCd [] E0 (tCons ta (tCons tb tNil))) σ H (.int (Int.gcd a b : Nat)) := fun H1 e Q q =>
  h1 H1 e _ fun H2 e2 => h2 H2 (e.trans e2) _ fun H3 e3 => ⟨a, b, rfl, a0, b0, fun H4 s4 => q H4 ((e2.trans e3).trans s4)⟩
/-! ### costs do not fall -/
section
variable {g : Pc} {R : Nat}
theorem mono_to {f : Nat → Int} {k : Nat} (h : ∀ m, m < k → f m ≤ f (m + 1)) : ∀ {a b : Nat}, a ≤ b → b ≤ k → f a ≤ f b := fun {a b} ab bk => by
  obtain ⟨m, rfl⟩ : ∃ m, b = a + m := ⟨b - a, by omega⟩
  induction m with
  | zero => exact Int.le_refl _
  | succ m ih => exact Int.le_trans (ih (by omega) (by omega)) (h (a + m) (by omega))
theorem cAt_le (h : 1 ≤ R) {k : Nat} (m : ∀ m, m < k → cst g R m ≤ cst g R (m + 1)) {a b : Int} (ab : a ≤ b) (bk : b ≤ (k : Int)) : cAt g R a ≤ cAt g R b := by
  unfold cAt
  by_cases a0 : 0 ≤ a
  · rw [if_pos a0, if_pos (by omega)]
    exact mono_to m (by omega) (by omega)
  · rw [if_neg a0]
    by_cases b0 : 0 ≤ b
    · rw [if_pos b0, ← cst_0 (g := g) h]
      exact mono_to m (Nat.zero_le _) (by omega)
    · rw [if_neg b0]
      exact Int.le_refl _
theorem cst_grow (rc : Reach g R) : ∀ k : Nat, (∀ m, m < k → cst g R m ≤ cst g R (m + 1)) ∧ ∀ z ∈ g.L, cst g R k ≤ cAt g R ((k : Int) + 1 - z.1) + z.2
  | 0 => by
    refine ⟨fun m hm => absurd hm (Nat.not_lt_zero m), fun z hz => ?_⟩
    obtain ⟨p1, p2, p3, p4⟩ := rc.ok z hz
    have : cAt g R (((0 : Nat) : Int) + 1 - z.1) = 0 := by
      unfold cAt
      split
      · rw [show (((0 : Nat) : Int) + 1 - z.1).toNat = 0 by omega, cst_0 rc.r1]
      · rfl
    rw [this, cst_0 rc.r1]
    omega
  | k + 1 => by
    obtain ⟨m, b⟩ := cst_grow rc k
    have up : cst g R k ≤ cst g R (k + 1) := by
      rw [cst_next rc k]
      split
      · have ne : (g.L.map fun z => cAt g R ((k : Int) + 1 - z.1) + z.2) ≠ [] := by
          have := rc.ne
          simp [this]
        obtain ⟨z, hz, e⟩ := List.mem_map.mp (least_in ne).1
        rw [← e]
        exact b z hz
      · exact Int.le_refl _
    have m2 : ∀ i, i < k + 1 → cst g R i ≤ cst g R (i + 1) := fun i hi => by
      by_cases e : i = k
      · rw [e]
        exact up
      · exact m i (by omega)
    refine ⟨m2, fun z hz => ?_⟩
    obtain ⟨p1, p2, p3, p4⟩ := rc.ok z hz
    have le : cAt g R ((k : Int) + 1 - z.1) ≤ cAt g R (((k + 1 : Nat) : Int) + 1 - z.1) := cAt_le rc.r1 m2 (by omega) (by omega)
    rw [cst_next rc k]
    split
    · have ne : (g.L.map fun z => cAt g R ((k : Int) + 1 - z.1) + z.2) ≠ [] := by
        have := rc.ne
        simp [this]
      have := (least_in ne).2 _ (List.mem_map.mpr ⟨z, hz, rfl⟩)
      omega
    · have := b z hz
      omega
theorem cst_mono (rc : Reach g R) {a b : Nat} (h : a ≤ b) : cst g R a ≤ cst g R b := mono_to (cst_grow rc b).1 h (Nat.le_refl b)
theorem SgP.gn_pos (rc : Reach g R) {s : SgP} (ok : SgOk g R s) : 0 ≤ s.gn g R := by
  unfold SgP.gn
  split
  · rename_i rp
    have := (ok.yes rp).lt
    have := cst_mono rc (show s.b + s.j ≤ s.b + s.d by omega)
    omega
  · exact Int.le_refl 0
end
theorem scRpr : FnScope ["self", "price", "days", "divisor"] ["self"] (defScope sRpr) := ⟨rfl, rfl, rfl, by decide +kernel, rfl, by decide +kernel, by decide +kernel⟩
section
variable {P : Program} {w : World} {K : PySem.W.Frag} {mg : Str → Option Value} {base : Heap} {C CV CC ST CO fSt fVN fVC fRl pRl fRd pRd fEx pEx fNot fTo fOpn fHol fAdd fClo fRch fKno fVal fCAt fCom fCvI fCoI fRep pRep fRpr pRpr fCos fDpr fCut fCd : Addr} {dVC dSt dVN dRl dRd dEx dNot dTo dOpn dHol dAdd dClo dRch dKno dVal dCAt dCom dCvI dCoI dRep dRpr dCos dDpr dCut dCd : FuncData}
def spRpr (K : PySem.W.Frag) (CV CC ST CO : Addr) : Sp := fun vs H Q _ => ∃ (x dx t : Addr) (c : CvA) (all : List Sg) (rec sn : Addr) (z : Sg) (g : Pc) (R : Nat) (on : List Nat), vs = [.ref x] ∧ Cos K CV CC ST CO g R on H x dx t c all rec sn z ∧
  ∀ (r : Addr) H', Same H H' → H' r = some (.tup [.int (frac (z.s.gn g R * g.ln) z.s.dy).1, .int (frac (z.s.gn g R * g.ln) z.s.dy).2]) → Q (.ref r) H'
theorem ok_rpr {k : Nat} (Z : TAll K mg CV CC ST fSt fVN fVC fRl pRl fRd pRd fEx pEx fNot fTo fOpn fHol fAdd fClo fKno fVal fRch fCAt fCom dSt dVN dVC dRl dRd dEx dNot dTo dOpn dHol dAdd dClo dKno dVal dRch dCAt dCom) (TO : TCo K mg CO CC fCvI fCoI fRep pRep fRpr pRpr fCos fDpr fCut dCvI dCoI dRep dRpr dCos dDpr dCut) (ZC : TCd K mg fCd dCd) : FnOk P w K mg base CX0 (k + 3) fRpr dRpr ["self"] (spRpr K CV CC ST CO) := by
  have TS := Z.TS
  have bD : Binds K dCd ["one", "other"] [] := ZC.uCd.binds (ps := ["one", "other"]) fun _ _ _ _ _ _ us hl => match us, hl with | [_, _], _ => rfl
  refine TO.uP.ok scRpr (fun vs H Q E h => ?_) (fun cdv A outer s H vs Q E hr h => ?_)
  · obtain ⟨x, dx, t, c, all, rec, sn, z, g, R, on, rfl, _⟩ := h
    rfl
  · obtain ⟨x, dx, t, c, all, rec, sn, z, g, R, on, rfl, co, q⟩ := h
    refine ⟨_, pss_cut (ps_par (i := 1) (j := 2) rfl scRpr.nd rfl rfl (by decide) rfl rfl (pa_cons (pe_op op_mul (pe_fld (pe_fld (pv 0) rfl) rfl) (pe_rl Z.RR Z.TV (hr.mono (by omega)) (pe_fld (pv 0) rfl))) (pa_cons (pe_fld (pe_fld (pv 0) rfl) rfl) pa_nil)) (by rfl))
      (pss_cons (ps_set (i := 3) scRpr.nd rfl (.inl rfl) (pe_call (E := E0) (ok_cd (k := 0) ZC.uCd Z.T.mI) (hr.mono (by omega)) (by rfl) ZC.gCd ZC.kCd bD .nil pass0 (pa_cons (pv 1) (pa_cons (pv 2) pa_nil))))
      (pss_one (ps_ret (pe_tup (pa_cons (pe_op op_fdivW (pv 1) (pv 3)) (pa_cons (pe_op op_fdivW (pv 2) (pv 3)) pa_nil)))))), ?_⟩
    obtain ⟨at0, ok, hen, rp⟩ := co.at_
    have rc := co.f.kw.rc
    have l1 := rc.l1
    have l2 := rc.l2
    have gp := SgP.gn_pos rc ok
    have lt := (ok.yes rp).lt
    have big := ok.big
    have sdy : z.s.dy = (z.s.d : Int) - z.s.j := if_pos rp
    have fl : ∀ {σ : L2.St} {H' : Hp} {h : Str} {v : V}, Same H H' → σ[0]? = some (some (.ref x)) → NoAttr K ST h → (stF z.s.b z.s.e z.tl z.s.st z.s.dy (z.s.gn g R)).lookup h = some v → Ev (tFld K (tFld K (tVar 0) "last") h) σ H' v := fun {σ H' h v} s hs n hv => fld2_ev TO.cl TO.nL TS.cl n hs (co.s s).ix rfl (co.s s).at_.1.ia hv
    generalize z.s.gn g R = G at *
    generalize z.s.dy = D at *
    refine ⟨fun σ H' => σ = [some (.ref x), some (.int (G * g.ln)), some (.int D), none] ∧ Same H H', ?_, ?_⟩
    · obtain ⟨dv, ov, htv⟩ := co.f.k.tvl
      have e1 : Ev (tOp (rI CMul fun i j => .int (i * j)) (tFld K (tFld K (tVar 0) "last") "gain") (tProp CV (getSp CV "size") [] E0 (tFld K (tVar 0) "trips"))) [some (.ref x), none, none, none] H (.int (G * g.ln)) := ev_op (fl (Same.refl H) rfl TS.nG rfl) (fun H2 e2 Q2 q2 => by
        have c2 := co.s e2
        have t2 := htv.same e2
        obtain ⟨⟨dxt, hti⟩, _⟩ := id t2
        exact ⟨_, rfl, x, CO, dx, _, _, rfl, c2.ix, TO.cl, TO.nT, rfl, c.tv, dxt, _, rfl, hti, c.tv, dxt, _, _, rfl, hti, tvF_size .., q2 H2 (Ex.refl _)⟩) (rv_I (C := CMul) (g := fun i j => .int (i * j)) (i := G) (j := g.ln) (.inr ⟨by omega, by omega⟩))
      refine e1 H (Ex.refl _) _ fun H1 s1 => ?_
      refine fl s1 rfl TS.nD rfl H1 (Ex.refl _) _ fun H2 s2 => ?_
      exact ⟨_, _, rfl, rfl, s1.trans s2⟩
    rintro σ H1 ⟨rfl, s1⟩
    have D0 : 0 < D := by omega
    have gl : 0 ≤ G * g.ln := Int.mul_nonneg gp (by omega)
    refine q_asg (v := .int (Int.gcd (G * g.ln) D : Nat)) (ev_cd (ev_var rfl) (ev_var rfl) gl (by omega)) fun H2 e2 => ?_
    have g0 : (0 : Int) < (Int.gcd (G * g.ln) D : Nat) := by
      have : Int.gcd (G * g.ln) D ≠ 0 := fun e => by
        have := (Int.gcd_eq_zero_iff.mp e).2
        omega
      omega
    have gle : ((Int.gcd (G * g.ln) D : Nat) : Int) ≤ D := Int.le_of_dvd D0 (Int.gcd_dvd_right _ _)
    have lg : ((Int.gcd (G * g.ln) D : Nat) : Int).natAbs.log2 < 9000 := Nat.lt_trans ((Nat.log2_lt (show ((Int.gcd (G * g.ln) D : Nat) : Int).natAbs ≠ 0 by omega)).mpr (show _ < 2 ^ 27 by omega)) (show 27 < 9000 by decide)
    unfold tRet tTup tCons tNil
    refine (ev_op (ev_var rfl) (ev_var rfl) (rv_I (C := CDivW) (g := fun i j => .int (i / j)) (i := G * g.ln) (j := ((Int.gcd (G * g.ln) D : Nat) : Int)) ⟨g0, lg⟩) : Ev _ [some (.ref x), some (.int (G * g.ln)), some (.int D), some (.int (Int.gcd (G * g.ln) D : Nat))] H2 (.int (G * g.ln / (Int.gcd (G * g.ln) D : Nat)))) H2 (Ex.refl _) _ fun H3 e3 => ?_
    refine (ev_op (ev_var rfl) (ev_var rfl) (rv_I (C := CDivW) (g := fun i j => .int (i / j)) (i := D) (j := ((Int.gcd (G * g.ln) D : Nat) : Int)) ⟨g0, lg⟩) : Ev _ [some (.ref x), some (.int (G * g.ln)), some (.int D), some (.int (Int.gcd (G * g.ln) D : Nat))] H3 (.int (D / (Int.gcd (G * g.ln) D : Nat)))) H3 (Ex.refl _) _ fun H4 e4 => ?_
    refine ⟨Nat.le_of_lt (small1000 (show 2 ≤ 1000 by decide)), fun r nr => q r _ ((((s1.trans e2).trans e3).trans e4).trans (same_new nr)) upd_same⟩
end
end Sea

set_option Elab.async false
set_option linter.all false
set_option maxRecDepth 100000
set_option maxHeartbeats 4000000
/-! class Curve: zones -/
namespace Sea
open PySem PySem.Spec PyProof.Rows L2 LamX NdefX ClX Evl StX
/-- (begin, days, gain) -/
abbrev Zo := Int × Int × Int
def zoV (z : Zo) : List V := [.int z.1, .int z.2.1, .int z.2.2]
/-- zones as they stand -/
def ZoV (H : Hp) : List V → List Zo → Prop
  | [], [] => True
  | v :: r, c :: s => (∃ p, v = .ref p ∧ H p = some (.tup (zoV c))) ∧ ZoV H r s
  | _, _ => False
theorem ZoV.len {H : Hp} : ∀ {vs : List V} {L : List Zo}, ZoV H vs L → vs.length = L.length
  | [], [], _ => rfl
  | [], _ :: _, h => h.elim
  | _ :: _, [], h => h.elim
  | _ :: _, _ :: _, h => congrArg (· + 1) (ZoV.len h.2)
theorem ZoV.mono {H H' : Hp} (e : ∀ p xs, H p = some (.tup xs) → H' p = some (.tup xs)) : ∀ {vs : List V} {L : List Zo}, ZoV H vs L → ZoV H' vs L
  | [], [], _ => trivial
  | [], _ :: _, h => h.elim
  | _ :: _, [], h => h.elim
  | _ :: _, _ :: _, ⟨⟨p, hp, ht⟩, r⟩ => ⟨⟨p, hp, e _ _ ht⟩, ZoV.mono e r⟩
theorem ZoV.s {H H' : Hp} {vs : List V} {L : List Zo} (h : ZoV H vs L) (e : Same H H') : ZoV H' vs L := h.mono fun p xs z => e _ _ z
theorem ZoV.app {H : Hp} : ∀ {vs ws : List V} {L M : List Zo}, ZoV H vs L → ZoV H ws M → ZoV H (vs ++ ws) (L ++ M)
  | [], _, [], _, _, g => g
  | [], _, _ :: _, _, h, _ => h.elim
  | _ :: _, _, [], _, h, _ => h.elim
  | _ :: _, _, _ :: _, _, h, g => ⟨h.1, ZoV.app h.2 g⟩
theorem ZoV.get {H : Hp} : ∀ {vs : List V} {L : List Zo}, ZoV H vs L → ∀ {i : Nat} {c : Zo}, L[i]? = some c → ∃ p, vs[i]? = some (.ref p) ∧ H p = some (.tup (zoV c))
  | [], [], _, _, _, e => nomatch e
  | [], _ :: _, h, _, _, _ => h.elim
  | _ :: _, [], h, _, _, _ => h.elim
  | _ :: _, _ :: _, h, 0, c, e => by
    obtain ⟨⟨p, rfl, hp⟩, _⟩ := h
    cases e
    exact ⟨p, rfl, hp⟩
  | _ :: _, _ :: _, h, i + 1, c, e => ZoV.get h.2 (i := i) e
theorem ZoV.put {H : Hp} {vs : List V} {L : List Zo} {l : Addr} {xs : List V} {o : HO} (h : ZoV H vs L) (e : H l = some (.lst xs)) : ZoV (upd H l o) vs L := h.mono fun p ys z => by
  rw [upd_ne (ne_of z e (fun z => nomatch z))]
  exact z
/-- the zones of a stretch -/
def zo1 (g : Pc) (R : Nat) (s : SgP) : List Zo := (if 0 < s.dy ∧ 0 < s.st then [((s.b : Int), 0, 0)] else []) ++ [((s.b : Int) + s.st, s.dy, s.gn g R)]
def zoF (g : Pc) (R : Nat) (all : List Sg) : List Zo := (all.map fun z => zo1 g R z.s).flatten
theorem zoF_snoc (g : Pc) (R : Nat) (all : List Sg) (z : Sg) : zoF g R (all ++ [z]) = zoF g R all ++ zo1 g R z.s := by
  unfold zoF
  rw [List.map_append, List.flatten_append]
  show _ ++ [zo1 g R z.s].flatten = _
  rw [List.flatten_singleton]
theorem scZon : FnScope ["self", "found", "stretch"] ["self"] (defScope sZon) := ⟨rfl, rfl, rfl, by decide +kernel, rfl, by decide +kernel, by decide +kernel⟩
section
variable {P : Program} {w : World} {K : PySem.W.Frag} {mg : Str → Option Value} {base : Heap} {CV CC ST fSt fVN fVC fRl pRl fRd pRd fEx pEx fNot fTo fOpn fHol fAdd fClo fKno fVal fRch fCAt fCom : Addr} {dSt dVN dVC dRl dRd dEx dNot dTo dOpn dHol dAdd dClo dKno dVal dRch dCAt dCom : FuncData}
def spZon (K : PySem.W.Frag) (CV CC ST : Addr) : Sp := fun vs H Q _ => ∃ (c : CvA) (rec sn : Addr) (g : Pc) (R : Nat) (on : List Nat) (all : List Sg), vs = [.ref c.cv] ∧ Frz K CV CC ST g R on H c all rec sn ∧
  ∀ (l : Addr) (ws : List V) H', Same H H' → H l = none → H' l = some (.lst ws) → ZoV H' ws (zoF g R all) → Q (.ref l) H'
theorem Knw.few {g : Pc} {R : Nat} {on : List Nat} {H : Hp} {c : CvA} {all : List Sg} {rec sn : Addr} (kw : Knw CC ST g R on H c all rec sn) : all.length ≤ 201 := by
  have h1 := cutsF_len on 0
  have h2 := kw.fo
  have e := congrArg List.length kw.cuts
  rw [List.length_map, List.length_take] at e
  omega
theorem ok_zon {f : Addr} {fd : FuncData} {k : Nat} (F : Fun K "zones" "Curve.zones" sZon f fd) (Z : TAll K mg CV CC ST fSt fVN fVC fRl pRl fRd pRd fEx pEx fNot fTo fOpn fHol fAdd fClo fKno fVal fRch fCAt fCom dSt dVN dVC dRl dRd dEx dNot dTo dOpn dHol dAdd dClo dKno dVal dRch dCAt dCom) : FnOk P w K mg base CX0 (k + 9) f fd ["self"] (spZon K CV CC ST) := by
  have T := Z.T
  have TS := Z.TS
  have bC : Binds K dCom ["self"] [] := Z.A.uC.binds (ps := ["self"]) fun _ _ _ _ _ _ us hl => match us, hl with | [_], _ => rfl
  refine F.ok scZon (fun vs H Q E h => ?_) (fun cdv A outer s H vs Q E hr h => ?_)
  · obtain ⟨c, rec, sn, g, R, on, all, rfl, _⟩ := h
    rfl
  · obtain ⟨c, rec, sn, g, R, on, all, rfl, fz, q⟩ := h
    refine ⟨_, pss_cons (ps_expr (pe_meth0 (pv 0) T.cl Z.A.mC (ok_com (k := 0) Z) (hr.mono (by omega)) bC .nil pass0))
      (pss_cut (ps_set (i := 1) scZon.nd rfl (.inl rfl) (pe_lst pa_nil))
      (pss_cons (ps_for PassesOwn.never rfl (pi_list (pe_fld (pv 0) rfl)) (pg_name (i := 2) scZon.nd rfl (.inl rfl))
        (pss_cut (ps_if (PW.pt (pw_and (pt_cmpR op_gt (pe_fld (pv 2) rfl) pe_int (nomark _)) (pw_and1 (pt_cmpR op_gt (pe_fld (pv 2) rfl) pe_int (nomark _)))))
          (pss_one (ps_expr (pe_bm PySem.F.plainAttrs_list PySem.F.slot_list_append PySem.F.type_list_append mt_append (pv 1) (pa_cons (pe_tup (pa_cons (pe_fld (pv 2) rfl) (pa_cons pe_int (pa_cons pe_int pa_nil)))) pa_nil)))) pss_nil)
        (pss_one (ps_expr (pe_bm PySem.F.plainAttrs_list PySem.F.slot_list_append PySem.F.type_list_append mt_append (pv 1) (pa_cons (pe_tup (pa_cons (pe_op op_add (pe_fld (pv 2) rfl) (pe_fld (pv 2) rfl)) (pa_cons (pe_fld (pv 2) rfl) (pa_cons (pe_fld (pv 2) rfl) pa_nil)))) pa_nil))))))
      (pss_one (ps_ret (pv 1))))), ?_⟩
    have lt : ∀ {n : Nat}, n ≤ 1000 → n ≤ sizeLine := fun h => Nat.le_of_lt (small1000 h)
    have lt' : ∀ {n : Nat}, n ≤ 999 → n < sizeLine := fun h => small1000 (by omega)
    obtain ⟨z, hz, hze⟩ := fz.z
    have few := fz.kw.few
    refine ⟨_, rfl, c.cv, c.dx, _, rfl, fz.kw.icv, rfl, .inr ⟨c, rec, sn, g, R, on, all, z, rfl, fz, hz, fun H1 s1 => ?_⟩⟩
    refine ⟨fun σ H' => ∃ l, σ = [some (.ref c.cv), some (.ref l), none] ∧ Same H H' ∧ H l = none ∧ H' l = some (.lst []), ?_, ?_⟩
    · exact ⟨lt (Nat.zero_le _), fun l nl => ⟨l, rfl, s1.trans (same_new nl), fresh_back s1 nl, upd_same⟩⟩
    clear s1
    rintro σ H2 ⟨l, rfl, s2, nl, hl⟩
    have f2 := fz.s s2
    refine s_forLn (K := K) (xs := sts all) (fld_ev T.cl T.nS rfl f2.kw.icv rfl) (sq_of f2.kw.iss) (fun i σ H' => ∃ (v2 : Option V) (ws : List V), σ = [some (.ref c.cv), some (.ref l), v2] ∧ Same H H' ∧ H' l = some (.lst ws) ∧ ZoV H' ws (zoF g R (all.take i)) ∧ ws.length ≤ 2 * i) (fun H3 e3 => ⟨none, [], rfl, s2.trans e3, e3 _ _ hl, trivial, Nat.le_refl _⟩) (fun i σ' H' _ z => sq_of (fz.s z.choose_spec.choose_spec.2.1).kw.iss) (fun i x σ' H' hx hi => ?_) ?_
    · obtain ⟨v2, ws, rfl, sm, hw, zo, len⟩ := hi
      obtain ⟨y, hy, rfl⟩ : ∃ y, all[i]? = some y ∧ x = .ref y.st := by
        unfold sts at hx
        rw [List.getElem?_map] at hx
        obtain ⟨y, hy, rfl⟩ := Option.map_eq_some_iff.mp hx
        exact ⟨y, hy, rfl⟩
      have ily := (List.getElem?_eq_some_iff.mp hy).1
      have mem : y ∈ all := List.mem_of_getElem? hy
      have at_ : ∀ {H2 : Hp}, Same H H2 → SgAt ST g R H2 y.s y.st y.dx y.tl := fun s => ((fz.s s).kw.oat y mem).1
      have fl : ∀ {σ : L2.St} {H' : Hp} {h : Str} {v : V}, Same H H' → σ[2]? = some (some (.ref y.st)) → NoAttr K ST h → (stF y.s.b y.s.e y.tl y.s.st y.s.dy (y.s.gn g R)).lookup h = some v → Ev (tFld K (tVar 2) h) σ H' v := fun {σ H' h v} s hs n hv => fld_ev TS.cl n hs (at_ s).ia hv
      refine ⟨fun σ H2 => ∃ ws, σ = [some (.ref c.cv), some (.ref l), some (.ref y.st)] ∧ Same H H2 ∧ H2 l = some (.lst ws) ∧ ZoV H2 ws (zoF g R (all.take i) ++ (if 0 < y.s.dy ∧ 0 < y.s.st then [((y.s.b : Int), 0, 0)] else [])) ∧ ws.length ≤ 2 * i + 1, ?_, ?_⟩
      · refine s_when (b := decide (0 < y.s.dy) && decide (0 < y.s.st)) (et_and (et_test (ev_op (fl sm rfl TS.nD rfl) ev_c (rv_I0 (g := fun i j => .bl (decide (j < i)))))) fun _ => et_test (ev_op (fl sm rfl TS.nS rfl) ev_c (rv_I0 (g := fun i j => .bl (decide (j < i)))))) (fun hb H2 e2 => ?_) (fun hb H2 e2 => ?_)
        · rw [Bool.and_eq_true, decide_eq_true_eq, decide_eq_true_eq] at hb
          have sm2 := sm.trans e2
          refine ⟨.ref l, rfl, .inl ⟨rfl, _, .of (e2 _ _ hw)⟩, ?_⟩
          refine fl sm2 rfl TS.nB rfl H2 (Ex.refl _) _ fun H3 e3 => ?_
          refine ⟨lt (show 3 ≤ 1000 by decide), fun p np => ?_⟩
          have s4 : Same H' (upd H3 p (.tup [V.int y.s.b, V.int 0, V.int 0])) := (e2.trans e3).trans (same_new np)
          refine ⟨l, ws, .ref p, rfl, rfl, s4 _ _ hw, lt' (by omega), _, rfl, same_put (sm.trans s4) nl, upd_same, ?_, by rw [List.length_append, List.length_singleton]; omega⟩
          rw [if_pos hb]
          exact ((zo.s s4).app (ws := [.ref p]) (M := [((y.s.b : Int), 0, 0)]) ⟨⟨p, rfl, upd_same⟩, trivial⟩).put (s4 _ _ hw)
        · refine ⟨ws, rfl, sm.trans e2, e2 _ _ hw, ?_, by omega⟩
          rw [if_neg (fun z => by
            rw [decide_eq_true z.1, decide_eq_true z.2] at hb
            cases hb), List.append_nil]
          exact zo.s e2
      · clear zo hw sm len
        rintro σ H2 ⟨ws, rfl, sm, hw, zo, len⟩
        refine ⟨.ref l, rfl, .inl ⟨rfl, _, .of hw⟩, ?_⟩
        refine (ev_op (fl sm rfl TS.nB rfl) (fl sm rfl TS.nS rfl) (rv_I0 (g := fun i j => .int (i + j)) (i := (y.s.b : Int)) (j := y.s.st)) : Ev _ [some (.ref c.cv), some (.ref l), some (.ref y.st)] H2 (.int ((y.s.b : Int) + y.s.st))) H2 (Ex.refl _) _ fun H3 e3 => ?_
        refine fl (sm.trans e3) rfl TS.nD rfl H3 (Ex.refl _) _ fun H4 e4 => ?_
        refine fl ((sm.trans e3).trans e4) rfl TS.nG rfl H4 (Ex.refl _) _ fun H5 e5 => ?_
        refine ⟨lt (show 3 ≤ 1000 by decide), fun p np => ?_⟩
        have s6 : Same H2 (upd H5 p (.tup [V.int ((y.s.b : Int) + y.s.st), V.int y.s.dy, V.int (y.s.gn g R)])) := ((e3.trans e4).trans e5).trans (same_new np)
        refine ⟨l, ws, .ref p, rfl, rfl, s6 _ _ hw, lt' (by omega), some (.ref y.st), _, rfl, same_put (sm.trans s6) nl, upd_same, ?_, by rw [List.length_append, List.length_singleton]; omega⟩
        rw [List.take_succ, hy]
        show ZoV _ _ (zoF g R (all.take i ++ [y]))
        rw [zoF_snoc]
        unfold zo1
        rw [← List.append_assoc]
        exact ((zo.s s6).app (ws := [.ref p]) (M := [((y.s.b : Int) + y.s.st, y.s.dy, y.s.gn g R)]) ⟨⟨p, rfl, upd_same⟩, trivial⟩).put (s6 _ _ hw)
    · rintro σ' H' ⟨v2, ws, rfl, sm, hw, zo, len⟩
      rw [sts_len, List.take_length] at zo
      exact ⟨_, rfl, q l ws H' sm nl hw zo⟩
end
end Sea

set_option Elab.async false
set_option linter.all false
set_option maxRecDepth 100000
set_option maxHeartbeats 4000000
/-! comparison: parts_of -/
namespace Sea
open PySem PySem.Spec PyProof.Rows L2 LamX NdefX ClX Evl StX
/-- the last zone that begins by b -/
def lastA (b : Int) (a : Zo) (Z : List Zo) : Zo := Z.foldl (fun a z => if z.1 ≤ b then z else a) a
def lastLe (Z : List Zo) (b : Int) : Zo := lastA b (0, 0, 0) Z
theorem lastA_snoc (b : Int) (a : Zo) (Z : List Zo) (z : Zo) : lastA b a (Z ++ [z]) = if z.1 ≤ b then z else lastA b a Z := by
  unfold lastA
  rw [List.foldl_append]
  rfl
theorem lastA_mem (b : Int) : ∀ (Z : List Zo) (a : Zo), (∃ z ∈ Z, z.1 ≤ b) → lastA b a Z ∈ Z ∧ (lastA b a Z).1 ≤ b
  | [], _, h => by
    obtain ⟨z, hz, _⟩ := h
    cases hz
  | y :: r, a, h => by
    by_cases c : ∃ z ∈ r, z.1 ≤ b
    · have := lastA_mem b r (if y.1 ≤ b then y else a) c
      exact ⟨List.mem_cons_of_mem _ this.1, this.2⟩
    · obtain ⟨z, hz, hb⟩ := h
      rcases List.mem_cons.mp hz with rfl | hz
      · have no : ∀ (l : List Zo) (a : Zo), (∀ z ∈ l, ¬ z.1 ≤ b) → lastA b a l = a := fun l => by
          induction l with
          | nil => exact fun _ _ => rfl
          | cons x l ih =>
            intro a h
            show lastA b (if x.1 ≤ b then x else a) l = a
            rw [if_neg (h x List.mem_cons_self)]
            exact ih a fun z hz => h z (List.mem_cons_of_mem _ hz)
        have e : lastA b a (z :: r) = z := by
          show lastA b (if z.1 ≤ b then z else a) r = z
          rw [if_pos hb]
          exact no r z fun x hx hxb => c ⟨x, hx, hxb⟩
        rw [e]
        exact ⟨List.mem_cons_self, hb⟩
      · exact absurd ⟨z, hz, hb⟩ c
/-- (begin, end, days, drift) -/
abbrev Pt := Int × Option Int × Int × Int
def partF (Y Z : List Zo) (b : Int) (e : Option Int) : Pt :=
  if (lastLe Y b).2.1 = 0 ∨ (lastLe Z b).2.1 = 0 then (b, e, 0, 0)
  else
    let D := (lastLe Y b).2.1 / (Int.gcd (lastLe Y b).2.1 (lastLe Z b).2.1 : Nat) * (lastLe Z b).2.1
    (b, e, D, D / (lastLe Y b).2.1 * (lastLe Y b).2.2 - D / (lastLe Z b).2.1 * (lastLe Z b).2.2)
def nextB (bs : List Int) (i : Nat) : Option Int := bs[i + 1]?
def partsF (Y Z : List Zo) (bs : List Int) : List Pt := (List.range bs.length).map fun i => partF Y Z (bs.getD i 0) (nextB bs i)
def endI : Option Int → V
  | none => .non
  | some x => .int x
def ptV (z : Pt) : List V := [.int z.1, endI z.2.1, .int z.2.2.1, .int z.2.2.2]
/-- parts as they stand -/
def PtV (H : Hp) : List V → List Pt → Prop
  | [], [] => True
  | v :: r, c :: s => (∃ p, v = .ref p ∧ H p = some (.tup (ptV c))) ∧ PtV H r s
  | _, _ => False
theorem PtV.len {H : Hp} : ∀ {vs : List V} {L : List Pt}, PtV H vs L → vs.length = L.length
  | [], [], _ => rfl
  | [], _ :: _, h => h.elim
  | _ :: _, [], h => h.elim
  | _ :: _, _ :: _, h => congrArg (· + 1) (PtV.len h.2)
theorem PtV.mono {H H' : Hp} (e : ∀ p xs, H p = some (.tup xs) → H' p = some (.tup xs)) : ∀ {vs : List V} {L : List Pt}, PtV H vs L → PtV H' vs L
  | [], [], _ => trivial
  | [], _ :: _, h => h.elim
  | _ :: _, [], h => h.elim
  | _ :: _, _ :: _, ⟨⟨p, hp, ht⟩, r⟩ => ⟨⟨p, hp, e _ _ ht⟩, PtV.mono e r⟩
theorem PtV.s {H H' : Hp} {vs : List V} {L : List Pt} (h : PtV H vs L) (e : Same H H') : PtV H' vs L := h.mono fun p xs z => e _ _ z
theorem PtV.app {H : Hp} : ∀ {vs ws : List V} {L M : List Pt}, PtV H vs L → PtV H ws M → PtV H (vs ++ ws) (L ++ M)
  | [], _, [], _, _, g => g
  | [], _, _ :: _, _, h, _ => h.elim
  | _ :: _, _, [], _, h, _ => h.elim
  | _ :: _, _, _ :: _, _, h, g => ⟨h.1, PtV.app h.2 g⟩
theorem PtV.get {H : Hp} : ∀ {vs : List V} {L : List Pt}, PtV H vs L → ∀ {i : Nat} {c : Pt}, L[i]? = some c → ∃ p, vs[i]? = some (.ref p) ∧ H p = some (.tup (ptV c))
  | [], [], _, _, _, e => nomatch e
  | [], _ :: _, h, _, _, _ => h.elim
  | _ :: _, [], h, _, _, _ => h.elim
  | _ :: _, _ :: _, h, 0, c, e => by
    obtain ⟨⟨p, rfl, hp⟩, _⟩ := h
    cases e
    exact ⟨p, rfl, hp⟩
  | _ :: _, _ :: _, h, i + 1, c, e => PtV.get h.2 (i := i) e
theorem PtV.put {H : Hp} {vs : List V} {L : List Pt} {l : Addr} {xs : List V} {o : HO} (h : PtV H vs L) (e : H l = some (.lst xs)) : PtV (upd H l o) vs L := h.mono fun p ys z => by
  rw [upd_ne (ne_of z e (fun z => nomatch z))]
  exact z
/-! ### plain: zones of a known curve -/
/-- zones as they should be -/
structure ZGd (Z : List Zo) : Prop where
  one : ∃ z ∈ Z, z.1 = 0
  nn : ∀ z ∈ Z, 0 ≤ z.1 ∧ z.1 ≤ 1000000000010000001
  dy : ∀ z ∈ Z, 0 ≤ z.2.1 ∧ z.2.1 ≤ 10000000
theorem zo1_len (g : Pc) (R : Nat) (s : SgP) : (zo1 g R s).length ≤ 2 := by
  unfold zo1
  rw [List.length_append]
  split
  · exact Nat.le_refl 2
  · exact Nat.le_succ 1
theorem zoF_len (g : Pc) (R : Nat) : ∀ all : List Sg, (zoF g R all).length ≤ 2 * all.length
  | [] => Nat.le_refl 0
  | z :: r => by
    have h1 := zo1_len g R z.s
    have h2 := zoF_len g R r
    show (zo1 g R z.s ++ zoF g R r).length ≤ 2 * (r.length + 1)
    rw [List.length_append]
    omega
theorem zoF_mem {g : Pc} {R : Nat} {all : List Sg} {z : Zo} : z ∈ zoF g R all ↔ ∃ y ∈ all, z ∈ zo1 g R y.s := by
  unfold zoF
  rw [List.mem_flatten]
  constructor
  · rintro ⟨l, hl, hz⟩
    obtain ⟨y, hy, rfl⟩ := List.mem_map.mp hl
    exact ⟨y, hy, hz⟩
  · rintro ⟨y, hy, hz⟩
    exact ⟨_, List.mem_map.mpr ⟨y, hy, rfl⟩, hz⟩
theorem Frz.zgd {K : PySem.W.Frag} {CV CC ST : Addr} {g : Pc} {R : Nat} {on : List Nat} {H : Hp} {c : CvA} {all : List Sg} {rec sn : Addr} (f : Frz K CV CC ST g R on H c all rec sn) : ZGd (zoF g R all) := by
  have each : ∀ y ∈ all, 0 ≤ y.s.st ∧ y.s.st ≤ 10000000 ∧ 0 ≤ y.s.dy ∧ y.s.dy ≤ 10000000 ∧ (y.s.dy ≤ 0 → y.s.st = 0) := fun y hy => by
    have ok := (f.kw.oat y hy).2
    have big := ok.big
    unfold SgP.st SgP.dy
    by_cases rp : y.s.rp = true
    · have lt := (ok.yes rp).lt
      rw [if_pos rp, if_pos rp]
      exact ⟨by omega, by omega, by omega, by omega, fun _ => by omega⟩
    · rw [if_neg rp, if_neg rp]
      exact ⟨by omega, by omega, by omega, by omega, fun _ => rfl⟩
  have bb : ∀ y ∈ all, y.s.b ≤ 1000000000000000001 := fun y hy => by
    obtain ⟨i, hi⟩ := List.getElem?_of_mem hy
    exact f.k.bb (f.kw.at_ hi)
  refine ⟨?_, fun z hz => ?_, fun z hz => ?_⟩
  · have pos : 0 < all.length := List.length_pos_iff.mpr f.kw.ne
    have h0 := f.kw.at_ (List.getElem?_eq_getElem pos)
    obtain ⟨e0, he0⟩ := (cuts_chn f.kw.asc).at0
    rw [he0] at h0
    injection h0 with h0
    injection h0 with h0
    have mem : all[0] ∈ all := List.getElem_mem pos
    obtain ⟨s0, _, d0, _, sd⟩ := each _ mem
    by_cases c : (0 : Int) < all[0].s.dy ∧ (0 : Int) < all[0].s.st
    · refine ⟨(((all[0].s.b : Nat) : Int), 0, 0), zoF_mem.mpr ⟨_, mem, ?_⟩, by rw [← h0]; rfl⟩
      unfold zo1
      rw [if_pos c]
      exact List.mem_cons_self
    · refine ⟨(((all[0].s.b : Nat) : Int) + all[0].s.st, all[0].s.dy, all[0].s.gn g R), zoF_mem.mpr ⟨_, mem, ?_⟩, ?_⟩
      · unfold zo1
        exact List.mem_append_right _ List.mem_cons_self
      · show ((all[0].s.b : Nat) : Int) + all[0].s.st = 0
        have : all[0].s.st = 0 := by
          by_cases d : (0 : Int) < all[0].s.dy
          · by_cases e : (0 : Int) < all[0].s.st
            · exact absurd ⟨d, e⟩ c
            · omega
          · exact sd (by omega)
        rw [this, ← h0]
        rfl
  all_goals
    obtain ⟨y, hy, hz⟩ := zoF_mem.mp hz
    obtain ⟨s0, s1, d0, d1, sd⟩ := each y hy
    have b1 := bb y hy
    unfold zo1 at hz
    rcases List.mem_append.mp hz with hz | hz
    · split at hz
      · rw [List.mem_singleton.mp hz]
        dsimp only
        omega
      · cases hz
    · rw [List.mem_singleton.mp hz]
      dsimp only
      omega
/-! ### readings -/
section
variable {K : PySem.W.Frag} {te tl : TE} {t : TT} {σ : L2.St} {H : Hp}
theorem et_yes : EvT tYes σ H true := fun H1 e Q q => q H1 (Ex.refl _)
/-- a comprehension over a list that is just made -/
theorem el_lcN {xs : List V} {j : Nat} {vs : List Nat} (f : Nat → Bool) (v : Nat → V) (h : EvL tl σ H xs) (hz : xs.length ≤ 40000) (hw : ∀ x, wipe ((wipe σ vs).set j (some x)) vs = wipe σ vs)
    (ht : ∀ (i : Nat) (x : V) H1, Ex H H1 → xs[i]? = some x → EvT t ((wipe σ vs).set j (some x)) H1 (f i)) (he : ∀ (i : Nat) (x : V) H1, Ex H H1 → xs[i]? = some x → f i = true → Ev te ((wipe σ vs).set j (some x)) H1 (v i)) :
    EvL (tLc (iList K tl) (gName j) t te vs) σ H (given xs.length f v) := fun H0 e Q q => h H0 e _ fun p H1 np e1 hp =>
  (el_lcL (K := K) (H := H1) (tl := fun _ H Q => Q (.ref p) H) (xs := xs) f v (fun H2 e2 Q q => q H2 (Ex.refl _)) (.of hp) hz hw (fun i x H2 e2 hx => ht i x H2 ((e.trans e1).trans e2) hx) (fun i x H2 e2 hx hf => he i x H2 ((e.trans e1).trans e2) hx hf)) H1 (Ex.refl _) Q fun D H2 nD e2 hD => q D H2 (fresh_back e1 nD) (e1.trans e2) hD
theorem given_all (n : Nat) (v : Nat → V) : given n (fun _ => true) v = (List.range n).map v := by
  unfold given
  rw [List.filter_eq_self.mpr fun _ _ => rfl]
/-- begins of zones -/
theorem el_begins {ws : List V} {Z : List Zo} {j : Nat} {vs : List Nat} (h : EvL tl σ H ws) (zo : ZoV H ws Z) (few : ws.length ≤ 40000) (hw : ∀ x, wipe ((wipe σ vs).set j (some x)) vs = wipe σ vs) (hj : ∀ x, ((wipe σ vs).set j (some x))[j]? = some (some x)) :
    EvL (tLc (iList K tl) (gName j) tYes (tOp (rIxT K) (tVar j) (tC (.int 0))) vs) σ H ((Z.map (·.1)).map V.int) := by
  have e : given ws.length (fun _ => true) (fun i => V.int ((Z.getD i (0, 0, 0)).1)) = (Z.map (·.1)).map V.int := by
    rw [given_all, zo.len]
    refine List.ext_getElem? fun i => ?_
    rw [List.getElem?_map, List.getElem?_map, List.getElem?_map]
    by_cases c : i < Z.length
    · rw [List.getElem?_range c, List.getElem?_eq_getElem c]
      show some (V.int (Z.getD i (0, 0, 0)).1) = some (V.int Z[i].1)
      rw [List.getD_eq_getElem?_getD, List.getElem?_eq_getElem c]
      rfl
    · rw [List.getElem?_eq_none (by rw [List.length_range]; omega), List.getElem?_eq_none (by omega)]
      rfl
  rw [← e]
  refine el_lcN _ _ h few hw (fun _ _ _ _ _ => et_yes) (fun i x H1 e1 hx _ => ?_)
  have lt := (List.getElem?_eq_some_iff.mp hx).1
  rw [zo.len] at lt
  obtain ⟨p, h1, h2⟩ := zo.get (List.getElem?_eq_getElem lt)
  rw [hx] at h1
  injection h1 with h1
  subst h1
  rw [List.getD_eq_getElem?_getD, List.getElem?_eq_getElem lt]
  exact ev_op (ev_var (hj _)) ev_c (rv_ixT (.of (e1 _ _ h2)) rfl)
/-- the last zone that begins by b -/
theorem lastLe_at {ws : List V} {Z : List Zo} {b : Int} (zo : ZoV H ws Z) : ∀ m, m ≤ Z.length → (∃ i, i < m ∧ (Z.getD i (0, 0, 0)).1 ≤ b) → ∃ p, atI (given m (fun i => decide ((Z.getD i (0, 0, 0)).1 ≤ b)) fun i => ws.getD i .non) (-1) = some (.ref p) ∧ H p = some (.tup (zoV (lastLe (Z.take m) b)))
  | 0, _, h => by
    obtain ⟨i, hi, _⟩ := h
    exact absurd hi (Nat.not_lt_zero i)
  | m + 1, hm, h => by
    have e : given (m + 1) (fun i => decide ((Z.getD i (0, 0, 0)).1 ≤ b)) (fun i => ws.getD i .non) = given m (fun i => decide ((Z.getD i (0, 0, 0)).1 ≤ b)) (fun i => ws.getD i .non) ++ (if (Z.getD m (0, 0, 0)).1 ≤ b then [ws.getD m .non] else []) := by
      unfold given
      rw [List.range_succ, List.filter_append, List.map_append]
      congr 1
      by_cases c : (Z.getD m (0, 0, 0)).1 ≤ b
      · rw [if_pos c, List.filter_cons_of_pos (by exact decide_eq_true c)]
        rfl
      · rw [if_neg c, List.filter_cons_of_neg (by rw [decide_eq_false c]; decide)]
        rfl
    have gm : Z[m]? = some (Z.getD m (0, 0, 0)) := by rw [List.getD_eq_getElem?_getD, List.getElem?_eq_getElem (by omega)]; rfl
    have tk : Z.take (m + 1) = Z.take m ++ [Z.getD m (0, 0, 0)] := by
      rw [List.take_succ, gm]
      rfl
    rw [e, tk]
    unfold lastLe
    rw [lastA_snoc]
    by_cases c : (Z.getD m (0, 0, 0)).1 ≤ b
    · rw [if_pos c, if_pos c, last_at]
      obtain ⟨p, h1, h2⟩ := zo.get gm
      exact ⟨p, by rw [List.getD_eq_getElem?_getD, h1]; rfl, h2⟩
    · rw [if_neg c, if_neg c, List.append_nil]
      obtain ⟨i, hi, hb⟩ := h
      refine lastLe_at zo m (by omega) ⟨i, ?_, hb⟩
      by_cases e : i = m
      · rw [e] at hb
        exact absurd hb c
      · omega
/-- [z for z in Z if z[0] <= b][-1] -/
theorem ev_last {l : Addr} {ws : List V} {Z : List Zo} {b : Int} {i j jb : Nat} {vs : List Nat} (hl : H l = some (.lst ws)) (zo : ZoV H ws Z) (few : ws.length ≤ 40000) (hs : σ[i]? = some (some (.ref l))) (hw : ∀ x, wipe ((wipe σ vs).set j (some x)) vs = wipe σ vs) (hj : ∀ x, ((wipe σ vs).set j (some x))[j]? = some (some x)) (hb : ∀ x, ((wipe σ vs).set j (some x))[jb]? = some (some (.int b))) (ex : ∃ z ∈ Z, z.1 ≤ b) :
    EvD (tOp (rIxL K) (tLc (iList K (tVar i)) (gName j) (tTest (tOp (rI0 fun i j => .bl (decide (i ≤ j))) (tOp (rIxT K) (tVar j) (tC (.int 0))) (tVar jb))) (tVar j) vs) (tUn (rU fun i => .int (-i)) (tC (.int 1)))) σ H fun v H' => ∃ p, v = .ref p ∧ H' p = some (.tup (zoV (lastLe Z b))) := fun H0 e0 Q q => by
  have zo := zo.s e0
  have hl := e0 _ _ hl
  have eL : EvL (tLc (iList K (tVar i)) (gName j) (tTest (tOp (rI0 fun i j => .bl (decide (i ≤ j))) (tOp (rIxT K) (tVar j) (tC (.int 0))) (tVar jb))) (tVar j) vs) σ H0 (given ws.length (fun i => decide ((Z.getD i (0, 0, 0)).1 ≤ b)) fun i => ws.getD i .non) := by
    refine el_lcL (K := K) (xs := ws) _ _ (ev_var hs) (.of hl) few hw (fun k x H1 e1 hx => ?_) (fun k x H1 e1 hx _ => ?_)
    · have lt := (List.getElem?_eq_some_iff.mp hx).1
      rw [zo.len] at lt
      obtain ⟨p, h1, h2⟩ := zo.get (List.getElem?_eq_getElem lt)
      rw [hx] at h1
      injection h1 with h1
      subst h1
      rw [List.getD_eq_getElem?_getD, List.getElem?_eq_getElem lt]
      exact et_test (ev_op (ev_op (ev_var (hj _)) ev_c (rv_ixT (.of (e1 _ _ h2)) rfl)) (ev_var (hb _)) (rv_I0 (g := fun i j => .bl (decide (i ≤ j)))))
    · have : ws.getD k .non = x := by rw [List.getD_eq_getElem?_getD, hx]; rfl
      rw [this]
      exact ev_var (hj _)
  obtain ⟨z, hz, hzb⟩ := ex
  obtain ⟨i0, hi0⟩ := List.getElem?_of_mem hz
  have lt0 := (List.getElem?_eq_some_iff.mp hi0).1
  obtain ⟨p, h1, h2⟩ := lastLe_at (b := b) zo Z.length (Nat.le_refl _) ⟨i0, lt0, by rw [List.getD_eq_getElem?_getD, hi0]; exact hzb⟩
  rw [← zo.len] at h1
  rw [List.take_length] at h2
  refine eL H0 (Ex.refl _) _ fun D H1 nD e1 hD => ?_
  exact ⟨1, rfl, D, _, -1, .ref p, rfl, rfl, .inl (.inl hD), h1, q (.ref p) H1 e1 ⟨p, rfl, e1 _ _ h2⟩⟩
end
end Sea

set_option Elab.async false
set_option linter.all false
set_option maxRecDepth 100000
set_option maxHeartbeats 4000000
/-! comparison: parts_of -/
namespace Sea
open PySem PySem.Spec PyProof.Rows L2 LamX NdefX ClX Evl StX
abbrev NPar : List Str := ["one", "other", "zones", "others", "begins", "found", "place", "begin", "end", "mine", "yours", "days", "drift", "zone"]
theorem scPar : FnScope NPar ["one", "other"] (defScope sPar) := ⟨rfl, rfl, rfl, by decide +kernel, rfl, by decide +kernel, by decide +kernel⟩
section
variable {P : Program} {w : World} {K : PySem.W.Frag} {mg : Str → Option Value} {base : Heap} {CV CC ST fSt fVN fVC fRl pRl fRd pRd fEx pEx fNot fTo fOpn fHol fAdd fClo fKno fVal fRch fCAt fCom fZon fCd : Addr} {dSt dVN dVC dRl dRd dEx dNot dTo dOpn dHol dAdd dClo dKno dVal dRch dCAt dCom dZon dCd : FuncData}
/-- what comparisons lean on -/
structure TPar (K : PySem.W.Frag) (mg : Str → Option Value) (CC fZon : Addr) (dZon : FuncData) : Prop where
  mZ : Meth K CC "zones" fZon
  uZ : Fun K "zones" "Curve.zones" sZon fZon dZon
  mS : mg "sorted" = none
  mE : mg "set" = none
  mN : mg "enumerate" = none
def spPar (K : PySem.W.Frag) (CV CC ST : Addr) : Sp := fun vs H Q _ => ∃ (c1 c2 : CvA) (r1 s1 r2 s2 : Addr) (g1 g2 : Pc) (R1 R2 : Nat) (on1 on2 : List Nat) (a1 a2 : List Sg), vs = [.ref c1.cv, .ref c2.cv] ∧ Frz K CV CC ST g1 R1 on1 H c1 a1 r1 s1 ∧ Frz K CV CC ST g2 R2 on2 H c2 a2 r2 s2 ∧ on1.length ≤ 6 ∧ on2.length ≤ 6 ∧
  ∀ (bs : List Int) (l : Addr) (ws : List V) H', bs.Pairwise (· < ·) → (∀ k, k ∈ bs ↔ k ∈ (zoF g1 R1 a1 ++ zoF g2 R2 a2).map (·.1)) → Same H H' → H' l = some (.lst ws) → PtV H' ws (partsF (zoF g1 R1 a1) (zoF g2 R2 a2) bs) → Q (.ref l) H'
theorem ok_par {f : Addr} {fd : FuncData} {k : Nat} (F : Fun K "parts_of" "parts_of" sPar f fd) (Z : TAll K mg CV CC ST fSt fVN fVC fRl pRl fRd pRd fEx pEx fNot fTo fOpn fHol fAdd fClo fKno fVal fRch fCAt fCom dSt dVN dVC dRl dRd dEx dNot dTo dOpn dHol dAdd dClo dKno dVal dRch dCAt dCom) (X : TPar K mg CC fZon dZon) (ZC : TCd K mg fCd dCd) : FnOk P w K mg base CX0 (k + 10) f fd ["one", "other"] (spPar K CV CC ST) := by
  have T := Z.T
  have bZ : Binds K dZon ["self"] [] := X.uZ.binds (ps := ["self"]) fun _ _ _ _ _ _ us hl => match us, hl with | [_], _ => rfl
  have bD : Binds K dCd ["one", "other"] [] := ZC.uCd.binds (ps := ["one", "other"]) fun _ _ _ _ _ _ us hl => match us, hl with | [_, _], _ => rfl
  refine F.ok scPar (fun vs H Q E h => ?_) (fun cdv A outer s H vs Q E hr h => ?_)
  · obtain ⟨c1, c2, r1, s1, r2, s2, g1, g2, R1, R2, on1, on2, a1, a2, rfl, _⟩ := h
    rfl
  · obtain ⟨c1, c2, r1, s1, r2, s2, g1, g2, R1, R2, on1, on2, a1, a2, rfl, fz1, fz2, o1, o2, q⟩ := h
    refine ⟨_, pss_cut (ps_par (i := 2) (j := 3) rfl scPar.nd rfl rfl (by decide) rfl rfl (pa_cons (pe_meth0 (pv 0) T.cl X.mZ (ok_zon (CV := CV) (ST := ST) (k := 0) X.uZ Z) (hr.mono (by omega)) bZ .nil pass0) (pa_cons (pe_meth0 (pv 1) T.cl X.mZ (ok_zon (CV := CV) (ST := ST) (k := 0) X.uZ Z) (hr.mono (by omega)) bZ .nil pass0) pa_nil)) (by rfl))
      (pss_cut (ps_set (i := 4) scPar.nd rfl (.inl rfl) (pe_callB (cr_sortedSet rfl) (by rfl) X.mS (by decide +kernel) (pa_cons (pe_callTy (cr_setL rfl) (by rfl) X.mE (by decide +kernel) (pa_cons
        (pe_lc (own := [("zone", 13)]) (g := gName 13) (by rfl) scPar.nd (pi_list (pe_op op_cat (pv 2) (pv 3))) (blkOk_by (own := [("zone", 13)]) (N := NPar) (sc := defScope sPar) (by decide +kernel)) (fun _ _ _ _ _ => pg_name (i := 13) scPar.nd rfl (Or.inl rfl)) (fun _ _ _ _ _ => pts_nil) (fun _ _ _ _ _ => pe_ixtK K rfl (pv 13) pe_int)) pa_nil)) pa_nil)))
      (pss_cut (ps_set (i := 5) scPar.nd rfl (.inl rfl) (pe_lst pa_nil))
      (pss_cons (ps_for PassesOwn.never rfl (pi_enum (by rfl) X.mN (pa_cons (pv 4) pa_nil)) (pg_tup rfl (pgs_cons (pg_name (i := 6) scPar.nd rfl (.inl rfl)) (pgs_cons (pg_name (i := 7) scPar.nd rfl (.inr rfl)) pgs_nil)))
        (pss_cons (ps_set (i := 8) scPar.nd rfl (.inl rfl) (pe_ifExp (pt_cmpR op_lt (pe_op op_add (pv 6) pe_int) (pe_callB call_len_seq (by rfl) T.mN PySem.boot_len (pa_cons (pv 4) pa_nil)) (nomark _)) (pe_ixl (pv 4) (pe_op op_add (pv 6) pe_int)) pe_non))
        (pss_cut (ps_set (i := 9) scPar.nd rfl (.inl rfl) (pe_ixl (pe_lc (own := [("zone", 13)]) (g := gName 13) (by rfl) scPar.nd (pi_list (pv 2)) (blkOk_by (own := [("zone", 13)]) (N := NPar) (sc := defScope sPar) (by decide +kernel)) (fun _ _ _ _ _ => pg_name (i := 13) scPar.nd rfl (Or.inl rfl)) (fun _ _ _ _ _ => pts_one (pt_cmpR op_le (pe_ixtK K rfl (pv 13) pe_int) (pv 7) (nomark _))) (fun _ _ _ _ _ => pv 13)) (pe_un un_neg pe_int)))
        (pss_cut (ps_set (i := 10) scPar.nd rfl (.inl rfl) (pe_ixl (pe_lc (own := [("zone", 13)]) (g := gName 13) (by rfl) scPar.nd (pi_list (pv 3)) (blkOk_by (own := [("zone", 13)]) (N := NPar) (sc := defScope sPar) (by decide +kernel)) (fun _ _ _ _ _ => pg_name (i := 13) scPar.nd rfl (Or.inl rfl)) (fun _ _ _ _ _ => pts_one (pt_cmpR op_le (pe_ixtK K rfl (pv 13) pe_int) (pv 7) (nomark _))) (fun _ _ _ _ _ => pv 13)) (pe_un un_neg pe_int)))
        (pss_one (ps_if (PW.pt (pw_or (pt_cmpR op_eq (pe_ixt (pv 9) pe_int) pe_int (nomark _)) (pw_or1 (pt_cmpR op_eq (pe_ixt (pv 10) pe_int) pe_int (nomark _)))))
          (pss_one (ps_expr (pe_bm PySem.F.plainAttrs_list PySem.F.slot_list_append PySem.F.type_list_append mt_append (pv 5) (pa_cons (pe_tup (pa_cons (pv 7) (pa_cons (pv 8) (pa_cons pe_int (pa_cons pe_int pa_nil))))) pa_nil))))
          (pss_cut (ps_set (i := 11) scPar.nd rfl (.inl rfl) (pe_op op_mul (pe_op op_fdivW (pe_ixt (pv 9) pe_int) (pe_call (E := E0) (ok_cd (k := 0) ZC.uCd T.mI) (hr.mono (by omega)) (by rfl) ZC.gCd ZC.kCd bD .nil pass0 (pa_cons (pe_ixt (pv 9) pe_int) (pa_cons (pe_ixt (pv 10) pe_int) pa_nil)))) (pe_ixt (pv 10) pe_int)))
          (pss_cut (ps_set (i := 12) scPar.nd rfl (.inl rfl) (pe_op op_sub (pe_op op_mul (pe_op op_fdivW (pv 11) (pe_ixt (pv 9) pe_int)) (pe_ixt (pv 9) pe_int)) (pe_op op_mul (pe_op op_fdivW (pv 11) (pe_ixt (pv 10) pe_int)) (pe_ixt (pv 10) pe_int))))
          (pss_one (ps_expr (pe_bm PySem.F.plainAttrs_list PySem.F.slot_list_append PySem.F.type_list_append mt_append (pv 5) (pa_cons (pe_tup (pa_cons (pv 7) (pa_cons (pv 8) (pa_cons (pv 11) (pa_cons (pv 12) pa_nil))))) pa_nil))))))))))))
      (pss_one (ps_ret (pv 5)))))), ?_⟩
    have lt : ∀ {n : Nat}, n ≤ 1000 → n ≤ sizeLine := fun h => Nat.le_of_lt (small1000 h)
    have lt' : ∀ {n : Nat}, n ≤ 999 → n < sizeLine := fun h => small1000 (by omega)
    have zg1 := fz1.zgd
    have zg2 := fz2.zgd
    have few1 : (zoF g1 R1 a1).length ≤ 26 := by
      have h1 := zoF_len g1 R1 a1
      have h2 := cutsF_len on1 0
      have e := congrArg List.length fz1.kw.cuts
      rw [List.length_map, List.length_take] at e
      omega
    have few2 : (zoF g2 R2 a2).length ≤ 26 := by
      have h1 := zoF_len g2 R2 a2
      have h2 := cutsF_len on2 0
      have e := congrArg List.length fz2.kw.cuts
      rw [List.length_map, List.length_take] at e
      omega
    generalize hZ1 : zoF g1 R1 a1 = Z1 at *
    generalize hZ2 : zoF g2 R2 a2 = Z2 at *
    refine ⟨fun σ H' => ∃ l1 w1 l2 w2, σ = [some (.ref c1.cv), some (.ref c2.cv), some (.ref l1), some (.ref l2), none, none, none, none, none, none, none, none, none, none] ∧ Same H H' ∧ H' l1 = some (.lst w1) ∧ ZoV H' w1 Z1 ∧ H' l2 = some (.lst w2) ∧ ZoV H' w2 Z2, ?_, ?_⟩
    · refine ⟨_, rfl, c1.cv, c1.dx, _, rfl, fz1.kw.icv, rfl, c1, r1, s1, g1, R1, on1, a1, rfl, fz1, fun l1 w1 H1 t1 n1 h1 o1 => ?_⟩
      refine ⟨_, rfl, c2.cv, c2.dx, _, rfl, (fz2.s t1).kw.icv, rfl, c2, r2, s2, g2, R2, on2, a2, rfl, fz2.s t1, fun l2 w2 H2 t2 n2 h2 o2 => ?_⟩
      rw [hZ1] at o1
      rw [hZ2] at o2
      exact ⟨_, _, rfl, l1, w1, l2, w2, rfl, t1.trans t2, t2 _ _ h1, o1.s t2, h2, o2⟩
    rintro σ H1 ⟨l1, w1, l2, w2, rfl, sm1, h1, zo1, h2, zo2⟩
    have lw1 := zo1.len
    have lw2 := zo2.len
    refine ⟨fun σ H' => ∃ (bs : List Int) (lb : Addr), σ = [some (.ref c1.cv), some (.ref c2.cv), some (.ref l1), some (.ref l2), some (.ref lb), none, none, none, none, none, none, none, none, none] ∧ Same H1 H' ∧ H' lb = some (.lst (bs.map V.int)) ∧ bs.Pairwise (· < ·) ∧ (∀ k, k ∈ bs ↔ k ∈ (Z1 ++ Z2).map (·.1)) ∧ bs.length ≤ 60, ?_, ?_⟩
    · have eC : EvL (tOp rCat (tVar 2) (tVar 3)) [some (.ref c1.cv), some (.ref c2.cv), some (.ref l1), some (.ref l2), none, none, none, none, none, none, none, none, none, none] H1 (w1 ++ w2) := fun H2 e2 Q2 q2 => ⟨_, rfl, _, rfl, l1, l2, w1, w2, rfl, rfl, e2 _ _ h1, e2 _ _ h2, lt (by omega), fun r nr => q2 r _ nr (Ex.new nr) upd_same⟩
      have eB := el_begins (K := K) (j := 13) (vs := [13]) eC (zo1.app zo2) (by rw [List.length_append]; omega) (fun _ => rfl) (fun _ => rfl)
      unfold tAsg tCB tCons tNil
      refine eB H1 (Ex.refl _) _ fun D H2 nD e2 hD => ?_
      refine ⟨D, (Z1 ++ Z2).map (·.1), rfl, .of hD, by rw [List.length_map, List.length_append]; omega, fun a n na le => ?_⟩
      rw [List.length_map, List.length_append] at le
      refine ⟨a, _, n, rfl, upd_same, by omega, fun bs p rising mem len np => ?_⟩
      exact ⟨bs, p, rfl, (e2.trans (same_new na)).trans (same_new np), upd_same, rising, fun k => (mem k).trans decide_eq_true_iff, by omega⟩
    rintro σ H2 ⟨bs, lb, rfl, sm2, hb, rising, mem, lb60⟩
    refine ⟨fun σ H' => ∃ lf, σ = [some (.ref c1.cv), some (.ref c2.cv), some (.ref l1), some (.ref l2), some (.ref lb), some (.ref lf), none, none, none, none, none, none, none, none] ∧ Same H2 H' ∧ H' lf = some (.lst []) ∧ H2 lf = none, ?_, ?_⟩
    · exact ⟨lt (Nat.zero_le _), fun l nl => ⟨l, rfl, same_new nl, upd_same, nl⟩⟩
    rintro σ H3 ⟨lf, rfl, sm3, hf, nlf⟩
    have hll : (bs.map V.int).length = bs.length := List.length_map ..
    refine ⟨_, rfl, lb, bs.map V.int, rfl, .of (sm3 _ _ hb), for_rounds (I := Ite K lb) (bs.map V.int).length (fun i σ H' => ∃ v6 v7 v8 v9 v10 v11 v12 v13 wf, σ = [some (.ref c1.cv), some (.ref c2.cv), some (.ref l1), some (.ref l2), some (.ref lb), some (.ref lf), v6, v7, v8, v9, v10, v11, v12, v13] ∧ Same H2 H' ∧ H' lf = some (.lst wf) ∧ PtV H' wf ((partsF Z1 Z2 bs).take i) ∧ wf.length = i) ⟨none, none, none, none, none, none, none, none, [], rfl, sm3, hf, trivial, rfl⟩ ?_ ?_⟩
    · rintro i σ H4 hi ⟨v6, v7, v8, v9, v10, v11, v12, v13, wf, rfl, sm4, hwf, pt, len⟩
      rw [hll] at hi
      have hbi : bs[i]? = some bs[i] := List.getElem?_eq_getElem hi
      refine ⟨⟨_, .int bs[i], .of (sm4 _ _ hb), by rw [List.getElem?_map, hbi]; rfl⟩, ?_⟩
      rintro y HT ⟨TT, x, rfl, nT, rfl, hx⟩
      obtain rfl : x = .int bs[i] := by
        have := hx _ (.of (sm4 _ _ hb))
        rw [List.getElem?_map, hbi] at this
        exact (Option.some.inj this).symm
      have sT : Same H4 (upd H4 TT (.tup [.int (i : Nat), .int bs[i]])) := same_new nT
      refine ⟨TT, _, rfl, .of upd_same, rfl, _, _, rfl, _, _, rfl, rfl, ?_⟩
      have memb : bs[i] ∈ bs := List.getElem_mem hi
      have nb : 0 ≤ bs[i] := by
        obtain ⟨z, hz, e⟩ := List.mem_map.mp ((mem _).mp memb)
        rw [← e]
        rcases List.mem_append.mp hz with h | h
        · exact (zg1.nn z h).1
        · exact (zg2.nn z h).1
      have tk : (partsF Z1 Z2 bs).take (i + 1) = (partsF Z1 Z2 bs).take i ++ [partF Z1 Z2 bs[i] (nextB bs i)] := by
        rw [List.take_succ]
        congr 1
        unfold partsF
        rw [List.getElem?_map, List.getElem?_range hi]
        show ([partF Z1 Z2 (bs.getD i 0) (nextB bs i)] : List Pt) = _
        rw [List.getD_eq_getElem?_getD, hbi]
        rfl
      rw [tk]
      have ex1 : ∃ z ∈ Z1, z.1 ≤ bs[i] := zg1.one.elim fun z h => ⟨z, h.1, by omega⟩
      have ex2 : ∃ z ∈ Z2, z.1 ≤ bs[i] := zg2.one.elim fun z h => ⟨z, h.1, by omega⟩
      have hm1 := (lastA_mem bs[i] Z1 (0, 0, 0) ex1).1
      have hm2 := (lastA_mem bs[i] Z2 (0, 0, 0) ex2).1
      have d1 : 0 ≤ (lastLe Z1 bs[i]).2.1 ∧ (lastLe Z1 bs[i]).2.1 ≤ 10000000 := zg1.dy _ hm1
      have d2 : 0 ≤ (lastLe Z2 bs[i]).2.1 ∧ (lastLe Z2 bs[i]).2.1 ≤ 10000000 := zg2.dy _ hm2
      have hnx : nextB bs i = if i + 1 < bs.length then some (bs.getD (i + 1) 0) else none := by
        unfold nextB
        split
        · rename_i h
          rw [List.getD_eq_getElem?_getD, List.getElem?_eq_getElem h]
          rfl
        · rename_i h
          exact List.getElem?_eq_none (by omega)
      have hp : partF Z1 Z2 bs[i] (nextB bs i) = partF Z1 Z2 bs[i] (nextB bs i) := rfl
      unfold partF at hp
      clear hm1 hm2
      generalize hM : lastLe Z1 bs[i] = M at *
      generalize hY : lastLe Z2 bs[i] = Y at *
      have hbT := sm4.trans sT _ _ hb
      generalize hbv : bs[i] = b at *
      have s24 := sm4.trans sT
      revert s24
      have hwT := sT _ _ hwf
      have ptT := pt.s sT
      revert hwT ptT hbT
      generalize upd H4 TT (.tup [.int (i : Nat), .int b]) = H5
      intro hbT hwT ptT s24
      refine q_asg (v := endI (nextB bs i)) (ev_if (b := decide ((i : Int) + 1 < ((bs.map V.int).length : Int))) (et_test (ev_op (ev_op (ev_var rfl) ev_c (rv_I0 (g := fun i j => .int (i + j)) (i := (i : Int)) (j := 1))) (ev_len (ev_var rfl) (sq_of hbT)) (rv_I0 (g := fun i j => .bl (decide (i < j)))))) (fun hc => ?_) (fun hc => ?_)) fun H6 e6 => ?_
      · have hc := of_decide_eq_true hc
        rw [hll] at hc
        rw [hnx, if_pos (by omega)]
        refine ev_op (ev_var rfl) (ev_op (ev_var rfl) ev_c (rv_I0 (g := fun i j => .int (i + j)) (i := (i : Int)) (j := 1))) (rv_ixL (.inl (.inl hbT)) ?_)
        have : atI (bs.map V.int) (((i + 1 : Nat)) : Int) = some (.int (bs.getD (i + 1) 0)) := at_nat (by rw [hll]; omega) (by rw [List.getElem?_map, List.getD_eq_getElem?_getD, List.getElem?_eq_getElem (show i + 1 < bs.length by omega)]; rfl)
        exact this
      · have hc := of_decide_eq_false hc
        rw [hll] at hc
        rw [hnx, if_neg (by omega)]
        exact ev_c
      have s26 := s24.trans e6
      have s16 := sm2.trans s26
      refine ⟨fun σ H' => ∃ p9, σ = [some (.ref c1.cv), some (.ref c2.cv), some (.ref l1), some (.ref l2), some (.ref lb), some (.ref lf), some (.int (i : Nat)), some (.int b), some (endI (nextB bs i)), some (.ref p9), v10, v11, v12, v13] ∧ Same H6 H' ∧ H' p9 = some (.tup (zoV M)), ?_, ?_⟩
      · have eM := ev_last (K := K) (σ := [some (.ref c1.cv), some (.ref c2.cv), some (.ref l1), some (.ref l2), some (.ref lb), some (.ref lf), some (.int (i : Nat)), some (.int b), some (endI (nextB bs i)), v9, v10, v11, v12, v13]) (i := 2) (j := 13) (jb := 7) (vs := [13]) (b := b) (s16 _ _ h1) (zo1.s s16) (by omega) rfl (fun _ => rfl) (fun _ => rfl) (fun _ => rfl) ex1
        rw [hM] at eM
        unfold tAsg
        refine eM H6 (Ex.refl _) _ fun v H7 e7 hv => ?_
        obtain ⟨p, rfl, hp9⟩ := hv
        exact ⟨p, rfl, e7, hp9⟩
      rintro σ H7 ⟨p9, rfl, e7, hp9⟩
      refine ⟨fun σ H' => ∃ p10, σ = [some (.ref c1.cv), some (.ref c2.cv), some (.ref l1), some (.ref l2), some (.ref lb), some (.ref lf), some (.int (i : Nat)), some (.int b), some (endI (nextB bs i)), some (.ref p9), some (.ref p10), v11, v12, v13] ∧ Same H7 H' ∧ H' p10 = some (.tup (zoV Y)), ?_, ?_⟩
      · have eM := ev_last (K := K) (σ := [some (.ref c1.cv), some (.ref c2.cv), some (.ref l1), some (.ref l2), some (.ref lb), some (.ref lf), some (.int (i : Nat)), some (.int b), some (endI (nextB bs i)), some (.ref p9), v10, v11, v12, v13]) (i := 3) (j := 13) (jb := 7) (vs := [13]) (b := b) ((s16.trans e7) _ _ h2) (zo2.s (s16.trans e7)) (by omega) rfl (fun _ => rfl) (fun _ => rfl) (fun _ => rfl) ex2
        rw [hY] at eM
        unfold tAsg
        refine eM H7 (Ex.refl _) _ fun v H8 e8 hv => ?_
        obtain ⟨p, rfl, hp10⟩ := hv
        exact ⟨p, rfl, e8, hp10⟩
      rintro σ H8 ⟨p10, rfl, e8, hp10⟩
      have s68 := e7.trans e8
      have hp9 := e8 _ _ hp9
      have s28 := s26.trans s68
      have hw8 := s68 _ _ (e6 _ _ hwT)
      have pt8 := (ptT.s e6).s s68
      have ix : ∀ {σ : L2.St} {H' : Hp} {j : Nat} {p : Addr} {z : Zo}, H' p = some (.tup (zoV z)) → σ[j]? = some (some (.ref p)) → Ev (tOp (rIxT K) (tVar j) (tC (.int 1))) σ H' (.int z.2.1) ∧ Ev (tOp (rIxT K) (tVar j) (tC (.int 2))) σ H' (.int z.2.2) := fun {σ H' j p z} hp hs => ⟨ev_op (ev_var hs) ev_c (rv_ixT (.of hp) rfl), ev_op (ev_var hs) ev_c (rv_ixT (.of hp) rfl)⟩
      refine s_if (b := decide (V.int M.2.1 = V.int 0) || decide (V.int Y.2.1 = V.int 0)) (et_or (et_test (ev_op (ix hp9 rfl).1 ev_c (rv_eq rfl))) fun _ => et_test (ev_op (ix hp10 rfl).1 ev_c (rv_eq rfl))) (fun hc H9 e9 => ?_) (fun hc H9 e9 => ?_)
      · have hc : M.2.1 = 0 ∨ Y.2.1 = 0 := by
          rcases Bool.or_eq_true_iff.mp hc with h | h
          · have := of_decide_eq_true h
            injection this with this
            exact .inl this
          · have := of_decide_eq_true h
            injection this with this
            exact .inr this
        have ep : partF Z1 Z2 b (nextB bs i) = (b, nextB bs i, 0, 0) := by
          unfold partF
          rw [hM, hY, if_pos hc]
        rw [ep]
        refine ⟨.ref lf, rfl, .inl ⟨rfl, _, .of (e9 _ _ hw8)⟩, _, rfl, _, rfl, lt (show 4 ≤ 1000 by decide), fun p np => ?_⟩
        have s89 : Same H8 (upd H9 p (.tup [V.int b, endI (nextB bs i), V.int 0, V.int 0])) := Same.trans e9 (same_new np)
        refine ⟨lf, wf, .ref p, rfl, rfl, s89 _ _ hw8, lt' (by omega), _, _, _, _, _, _, _, _, _, rfl, same_put (s28.trans s89) nlf, upd_same, ?_, by rw [List.length_append, List.length_singleton, len]⟩
        exact ((pt8.s s89).app (ws := [.ref p]) (M := [(b, nextB bs i, 0, 0)]) ⟨⟨p, rfl, upd_same⟩, trivial⟩).put (s89 _ _ hw8)
      · have hc : ¬ (M.2.1 = 0 ∨ Y.2.1 = 0) := fun z => by
          rcases z with z | z
          · rw [z, decide_eq_true rfl, Bool.true_or] at hc
            cases hc
          · rw [z, decide_eq_true (p := V.int 0 = V.int 0) rfl, Bool.or_true] at hc
            cases hc
        have m0 : 0 < M.2.1 := by omega
        have y0 : 0 < Y.2.1 := by omega
        have g0 : (0 : Int) < (Int.gcd M.2.1 Y.2.1 : Nat) := by
          have : Int.gcd M.2.1 Y.2.1 ≠ 0 := fun e => by
            have := (Int.gcd_eq_zero_iff.mp e).2
            omega
          omega
        have gle : ((Int.gcd M.2.1 Y.2.1 : Nat) : Int) ≤ Y.2.1 := Int.le_of_dvd y0 (Int.gcd_dvd_right _ _)
        have lg : ∀ {n : Int}, 0 < n → n ≤ 10000000 → n.natAbs.log2 < 9000 := fun {n} h0 h => Nat.lt_trans ((Nat.log2_lt (show n.natAbs ≠ 0 by omega)).mpr (show _ < 2 ^ 27 by omega)) (show 27 < 9000 by decide)
        have ep : partF Z1 Z2 b (nextB bs i) = (b, nextB bs i, M.2.1 / (Int.gcd M.2.1 Y.2.1 : Nat) * Y.2.1, M.2.1 / (Int.gcd M.2.1 Y.2.1 : Nat) * Y.2.1 / M.2.1 * M.2.2 - M.2.1 / (Int.gcd M.2.1 Y.2.1 : Nat) * Y.2.1 / Y.2.1 * Y.2.2) := by
          unfold partF
          rw [hM, hY, if_neg hc]
        rw [ep]
        have qle : M.2.1 / (Int.gcd M.2.1 Y.2.1 : Nat) ≤ 10000000 := by
          have := Int.ediv_le_self (Int.gcd M.2.1 Y.2.1 : Nat) (Int.le_of_lt m0)
          omega
        have q0 : 0 ≤ M.2.1 / (Int.gcd M.2.1 Y.2.1 : Nat) := Int.ediv_nonneg (by omega) (by omega)
        have Dle : M.2.1 / (Int.gcd M.2.1 Y.2.1 : Nat) * Y.2.1 ≤ 10000000 * 10000000 := Int.mul_le_mul qle d2.2 (by omega) (by omega)
        have D0 : 0 ≤ M.2.1 / (Int.gcd M.2.1 Y.2.1 : Nat) * Y.2.1 := Int.mul_nonneg q0 (by omega)
        have hp9' := e9 _ _ hp9
        have hp10' := e9 _ _ hp10
        refine ⟨fun σ H' => σ = [some (.ref c1.cv), some (.ref c2.cv), some (.ref l1), some (.ref l2), some (.ref lb), some (.ref lf), some (.int (i : Nat)), some (.int b), some (endI (nextB bs i)), some (.ref p9), some (.ref p10), some (.int (M.2.1 / (Int.gcd M.2.1 Y.2.1 : Nat) * Y.2.1)), v12, v13] ∧ Same H9 H', ?_, ?_⟩
        · unfold tAsg
          refine (ev_op (ev_op (ix hp9' rfl).1 (ev_cd (ix hp9' rfl).1 (ix hp10' rfl).1 (by omega) (by omega)) (rv_I (C := CDivW) (g := fun i j => .int (i / j)) (i := M.2.1) (j := ((Int.gcd M.2.1 Y.2.1 : Nat) : Int)) ⟨g0, lg g0 (by omega)⟩)) (ix hp10' rfl).1 (rv_I (C := CMul) (g := fun i j => .int (i * j)) (j := Y.2.1) (.inr ⟨by omega, by omega⟩)) : Ev _ [some (.ref c1.cv), some (.ref c2.cv), some (.ref l1), some (.ref l2), some (.ref lb), some (.ref lf), some (.int (i : Nat)), some (.int b), some (endI (nextB bs i)), some (.ref p9), some (.ref p10), v11, v12, v13] H9 (.int (M.2.1 / (Int.gcd M.2.1 Y.2.1 : Nat) * Y.2.1))) H9 (Ex.refl _) _ fun H10 e10 => ?_
          exact ⟨rfl, e10⟩
        rintro σ H10 ⟨rfl, e10⟩
        generalize M.2.1 / (Int.gcd M.2.1 Y.2.1 : Nat) * Y.2.1 = D at *
        have hp9'' := e10 _ _ hp9'
        have hp10'' := e10 _ _ hp10'
        have a1 := Int.ediv_le_self M.2.1 D0
        have a2 := Int.ediv_le_self Y.2.1 D0
        have a3 : 0 ≤ D / M.2.1 := Int.ediv_nonneg D0 (by omega)
        have a4 : 0 ≤ D / Y.2.1 := Int.ediv_nonneg D0 (by omega)
        refine ⟨fun σ H' => σ = [some (.ref c1.cv), some (.ref c2.cv), some (.ref l1), some (.ref l2), some (.ref lb), some (.ref lf), some (.int (i : Nat)), some (.int b), some (endI (nextB bs i)), some (.ref p9), some (.ref p10), some (.int D), some (.int (D / M.2.1 * M.2.2 - D / Y.2.1 * Y.2.2)), v13] ∧ Same H10 H', ?_, ?_⟩
        · unfold tAsg
          refine (ev_op (ev_op (ev_op (ev_var rfl) (ix hp9'' rfl).1 (rv_I (C := CDivW) (g := fun i j => .int (i / j)) (i := D) (j := M.2.1) ⟨m0, lg m0 (by omega)⟩)) (ix hp9'' rfl).2 (rv_I (C := CMul) (g := fun i j => .int (i * j)) (i := D / M.2.1) (.inl ⟨by omega, by omega⟩))) (ev_op (ev_op (ev_var rfl) (ix hp10'' rfl).1 (rv_I (C := CDivW) (g := fun i j => .int (i / j)) (i := D) (j := Y.2.1) ⟨y0, lg y0 (by omega)⟩)) (ix hp10'' rfl).2 (rv_I (C := CMul) (g := fun i j => .int (i * j)) (i := D / Y.2.1) (.inl ⟨by omega, by omega⟩))) (rv_I0 (g := fun i j => .int (i - j))) : Ev _ [some (.ref c1.cv), some (.ref c2.cv), some (.ref l1), some (.ref l2), some (.ref lb), some (.ref lf), some (.int (i : Nat)), some (.int b), some (endI (nextB bs i)), some (.ref p9), some (.ref p10), some (.int D), v12, v13] H10 (.int (D / M.2.1 * M.2.2 - D / Y.2.1 * Y.2.2))) H10 (Ex.refl _) _ fun H11 e11 => ?_
          exact ⟨rfl, e11⟩
        rintro σ H11 ⟨rfl, e11⟩
        have s811 : Same H8 H11 := (e9.trans e10).trans e11
        refine ⟨.ref lf, rfl, .inl ⟨rfl, _, .of (s811 _ _ hw8)⟩, _, rfl, _, rfl, _, rfl, _, rfl, lt (show 4 ≤ 1000 by decide), fun p np => ?_⟩
        have s89 := Same.trans s811 (same_new (o := .tup [V.int b, endI (nextB bs i), V.int D, V.int (D / M.2.1 * M.2.2 - D / Y.2.1 * Y.2.2)]) np)
        refine ⟨lf, wf, .ref p, rfl, rfl, s89 _ _ hw8, lt' (by omega), _, _, _, _, _, _, _, _, _, rfl, same_put (s28.trans s89) nlf, upd_same, ?_, by rw [List.length_append, List.length_singleton, len]⟩
        exact ((pt8.s s89).app (ws := [.ref p]) (M := [(b, nextB bs i, D, D / M.2.1 * M.2.2 - D / Y.2.1 * Y.2.2)]) ⟨⟨p, rfl, upd_same⟩, trivial⟩).put (s89 _ _ hw8)
    · rintro σ' H4 ⟨v6, v7, v8, v9, v10, v11, v12, v13, wf, rfl, sm4, hwf, pt, len⟩
      refine ⟨⟨_, .of (sm4 _ _ hb), Nat.le_refl _⟩, _, rfl, ?_⟩
      rw [hll, show bs.length = (partsF Z1 Z2 bs).length by unfold partsF; rw [List.length_map, List.length_range], List.take_length] at pt
      exact q bs lf wf H4 rising mem ((sm1.trans sm2).trans sm4) hwf pt
end
end Sea

set_option Elab.async false
set_option linter.all false
set_option maxRecDepth 100000
set_option maxHeartbeats 4000000
/-! comparison: first_unlike, first_difference -/
namespace Sea
open PySem PySem.Spec PyProof.Rows L2 LamX NdefX ClX Evl StX
/-- the last number of days that is looked at in a part -/
def lastP (z : Pt) : Int := match z.2.1 with
  | none => z.1 + z.2.2.1
  | some e => if 0 < z.2.2.1 ∧ z.1 + z.2.2.1 < e then z.1 + z.2.2.1 else e - 1
def eqP (f1 f2 : Nat → Int) (z : Pt) (n : Int) : Prop := ∀ m : Nat, z.1 ≤ (m : Int) → (m : Int) < n → f1 m = f2 m
theorem parts_of_mem {Z1 Z2 : List Zo} {bs : List Int} (g1 : ZGd Z1) (g2 : ZGd Z2) (mem : ∀ k, k ∈ bs ↔ k ∈ (Z1 ++ Z2).map (·.1)) {z : Pt} (hz : z ∈ partsF Z1 Z2 bs) : 0 ≤ z.1 ∧ z.1 ≤ 1000000000010000001 ∧ 0 ≤ z.2.2.1 ∧ z.2.2.1 ≤ 100000000000000 ∧ ∀ e, z.2.1 = some e → 0 ≤ e ∧ e ≤ 1000000000010000001 := by
  have bb : ∀ k ∈ bs, 0 ≤ k ∧ k ≤ 1000000000010000001 := fun k hk => by
    obtain ⟨y, hy, e⟩ := List.mem_map.mp ((mem k).mp hk)
    rw [← e]
    rcases List.mem_append.mp hy with h | h
    · exact g1.nn y h
    · exact g2.nn y h
  unfold partsF at hz
  obtain ⟨i, hi, rfl⟩ := List.mem_map.mp hz
  have hi := List.mem_range.mp hi
  have eb : bs.getD i 0 = bs[i] := by rw [List.getD_eq_getElem?_getD, List.getElem?_eq_getElem hi]; rfl
  rw [eb]
  have b0 := bb _ (List.getElem_mem hi)
  have en : ∀ e, nextB bs i = some e → 0 ≤ e ∧ e ≤ 1000000000010000001 := fun e he => bb e (List.mem_of_getElem? he)
  have ex1 : ∃ z ∈ Z1, z.1 ≤ bs[i] := g1.one.elim fun z h => ⟨z, h.1, by omega⟩
  have ex2 : ∃ z ∈ Z2, z.1 ≤ bs[i] := g2.one.elim fun z h => ⟨z, h.1, by omega⟩
  have d1 : 0 ≤ (lastLe Z1 bs[i]).2.1 ∧ (lastLe Z1 bs[i]).2.1 ≤ 10000000 := g1.dy _ (lastA_mem bs[i] Z1 (0, 0, 0) ex1).1
  have d2 : 0 ≤ (lastLe Z2 bs[i]).2.1 ∧ (lastLe Z2 bs[i]).2.1 ≤ 10000000 := g2.dy _ (lastA_mem bs[i] Z2 (0, 0, 0) ex2).1
  unfold partF
  split
  · exact ⟨b0.1, b0.2, by show (0 : Int) ≤ 0; omega, by show (0 : Int) ≤ _; omega, en⟩
  · have q0 : 0 ≤ (lastLe Z1 bs[i]).2.1 / (Int.gcd (lastLe Z1 bs[i]).2.1 (lastLe Z2 bs[i]).2.1 : Nat) := Int.ediv_nonneg d1.1 (by omega)
    have q1 : (lastLe Z1 bs[i]).2.1 / (Int.gcd (lastLe Z1 bs[i]).2.1 (lastLe Z2 bs[i]).2.1 : Nat) ≤ 10000000 := Int.le_trans (Int.ediv_le_self _ d1.1) d1.2
    have q2 := Int.mul_le_mul q1 d2.2 d2.1 (by omega)
    exact ⟨b0.1, b0.2, Int.mul_nonneg q0 d2.1, q2, en⟩
abbrev NUnl : List Str := ["one", "other", "begin", "end", "days", "drift", "last", "count"]
theorem scUnl : FnScope NUnl ["one", "other"] (defScope sUnl) := ⟨rfl, rfl, rfl, by decide +kernel, rfl, by decide +kernel, by decide +kernel⟩
theorem scFdi : FnScope ["one", "other"] ["one", "other"] (defScope sFdi) := ⟨rfl, rfl, rfl, by decide +kernel, rfl, by decide +kernel, by decide +kernel⟩
structure TUnl (K : PySem.W.Frag) (mg : Str → Option Value) (fPar fUnl : Addr) (dPar dUnl : FuncData) : Prop where
  gP : mg "parts_of" = some (.ref fPar)
  kP : PySem.W.keepIn K (.ref fPar) = true
  uP : Fun K "parts_of" "parts_of" sPar fPar dPar
  gU : mg "first_unlike" = some (.ref fUnl)
  kU : PySem.W.keepIn K (.ref fUnl) = true
  uU : Fun K "first_unlike" "first_unlike" sUnl fUnl dUnl
section
variable {P : Program} {w : World} {K : PySem.W.Frag} {mg : Str → Option Value} {base : Heap} {CV CC ST fSt fVN fVC fRl pRl fRd pRd fEx pEx fNot fTo fOpn fHol fAdd fClo fKno fVal fRch fCAt fCom fZon fCd fPar fUnl : Addr} {dSt dVN dVC dRl dRd dEx dNot dTo dOpn dHol dAdd dClo dKno dVal dRch dCAt dCom dZon dCd dPar dUnl : FuncData}
def spUnl (K : PySem.W.Frag) (CV CC ST : Addr) : Sp := fun vs H Q _ => ∃ (c1 c2 : CvA) (r1 s1 r2 s2 : Addr) (g1 g2 : Pc) (R1 R2 : Nat) (on1 on2 : List Nat) (a1 a2 : List Sg), vs = [.ref c1.cv, .ref c2.cv] ∧ Frz K CV CC ST g1 R1 on1 H c1 a1 r1 s1 ∧ Frz K CV CC ST g2 R2 on2 H c2 a2 r2 s2 ∧ on1.length ≤ 6 ∧ on2.length ≤ 6 ∧
  ∀ (bs : List Int), bs.Pairwise (· < ·) → (∀ k, k ∈ bs ↔ k ∈ (zoF g1 R1 a1 ++ zoF g2 R2 a2).map (·.1)) →
    (∀ (i n : Nat) (z : Pt) H', Same H H' → (partsF (zoF g1 R1 a1) (zoF g2 R2 a2) bs)[i]? = some z → z.1 ≤ (n : Int) → (n : Int) ≤ lastP z → cst g1 R1 n ≠ cst g2 R2 n → eqP (cst g1 R1) (cst g2 R2) z n → (∀ (j : Nat) (y : Pt), j < i → (partsF (zoF g1 R1 a1) (zoF g2 R2 a2) bs)[j]? = some y → eqP (cst g1 R1) (cst g2 R2) y (lastP y + 1)) → Q (.int n) H') ∧
    ((∀ (j : Nat) (y : Pt), (partsF (zoF g1 R1 a1) (zoF g2 R2 a2) bs)[j]? = some y → eqP (cst g1 R1) (cst g2 R2) y (lastP y + 1)) → ∀ H', Same H H' → Q .non H')
theorem ok_unl {k : Nat} (U : TUnl K mg fPar fUnl dPar dUnl) (Z : TAll K mg CV CC ST fSt fVN fVC fRl pRl fRd pRd fEx pEx fNot fTo fOpn fHol fAdd fClo fKno fVal fRch fCAt fCom dSt dVN dVC dRl dRd dEx dNot dTo dOpn dHol dAdd dClo dKno dVal dRch dCAt dCom) (X : TPar K mg CC fZon dZon) (ZC : TCd K mg fCd dCd) : FnOk P w K mg base CX0 (k + 11) fUnl dUnl ["one", "other"] (spUnl K CV CC ST) := by
  have T := Z.T
  have bP : Binds K dPar ["one", "other"] [] := U.uP.binds (ps := ["one", "other"]) fun _ _ _ _ _ _ us hl => match us, hl with | [_, _], _ => rfl
  have bA : Binds K dCAt ["self", "count"] [] := Z.A.uA.binds (ps := ["self", "count"]) fun _ _ _ _ _ _ us hl => match us, hl with | [_, _], _ => rfl
  refine U.uU.ok scUnl (fun vs H Q E h => ?_) (fun cdv A outer s H vs Q E hr h => ?_)
  · obtain ⟨c1, c2, r1, s1, r2, s2, g1, g2, R1, R2, on1, on2, a1, a2, rfl, _⟩ := h
    rfl
  · obtain ⟨c1, c2, r1, s1, r2, s2, g1, g2, R1, R2, on1, on2, a1, a2, rfl, fz1, fz2, o1, o2, q⟩ := h
    refine ⟨_, pss_cons (ps_for PassesOwn.never rfl (pi_list (pe_call (E := E0) (ok_par (CV := CV) (ST := ST) (k := 0) U.uP Z X ZC) (hr.mono (by omega)) (by rfl) U.gP U.kP bP .nil pass0 (pa_cons (pv 0) (pa_cons (pv 1) pa_nil)))) (pg_tup rfl (pgs_cons (pg_name (i := 2) scUnl.nd rfl (.inl rfl)) (pgs_cons (pg_name (i := 3) scUnl.nd rfl (.inl rfl)) (pgs_cons (pg_name (i := 4) scUnl.nd rfl (.inl rfl)) (pgs_cons (pg_name (i := 5) scUnl.nd rfl (.inl rfl)) pgs_nil)))))
        (pss_cons (ps_set (i := 6) scUnl.nd rfl (.inl rfl) (pe_ifExp (PW.pt (pw_or (pt_cmpR op_isN (pv 3) pe_non (nomark _)) (pw_or1 (PW.pt (pw_and (pt_cmpR op_gt (pv 4) pe_int (nomark _)) (pw_and1 (pt_cmpR op_lt (pe_op op_add (pv 2) (pv 4)) (pv 3) (nomark _)))))))) (pe_op op_add (pv 2) (pv 4)) (pe_op op_sub (pv 3) pe_int)))
        (pss_one (ps_for PassesOwn.never rfl (pi_range2 (by rfl) Z.mR (pa_cons (pv 2) (pa_cons (pe_op op_add (pv 6) pe_int) pa_nil))) (pg_name (i := 7) scUnl.nd rfl (.inl rfl))
          (pss_one (ps_if (pt_cmpR op_ne (pe_meth (pv 0) T.cl Z.A.mA (ok_cAt (k := 0) Z) (hr.mono (by omega)) bA .nil pass0 (pa_cons (pv 7) pa_nil)) (pe_meth (pv 1) T.cl Z.A.mA (ok_cAt (k := 0) Z) (hr.mono (by omega)) bA .nil pass0 (pa_cons (pv 7) pa_nil)) (nomark _)) (pss_one (ps_ret (pv 7))) pss_nil))))))
      (pss_one (ps_ret pe_non)), ?_⟩
    have zg1 := fz1.zgd
    have zg2 := fz2.zgd
    refine ⟨_, rfl, _, rfl, c1, c2, r1, s1, r2, s2, g1, g2, R1, R2, on1, on2, a1, a2, rfl, fz1, fz2, o1, o2, fun bs l ws H1 rising mem sm1 hl pt => ?_⟩
    obtain ⟨qY, qN⟩ := q bs rising mem
    have bnd : ∀ {z : Pt}, z ∈ partsF (zoF g1 R1 a1) (zoF g2 R2 a2) bs → _ := fun {z} hz => parts_of_mem zg1 zg2 mem hz
    generalize hL : partsF (zoF g1 R1 a1) (zoF g2 R2 a2) bs = L at *
    refine ⟨l, rfl, ⟨ws, .of hl⟩, for_list (K := K) (a := l) (xs := ws) (fun i σ H' => ∃ v2 v3 v4 v5 v6 v7, σ = [some (.ref c1.cv), some (.ref c2.cv), v2, v3, v4, v5, v6, v7] ∧ Same H1 H' ∧ ∀ (j : Nat) (y : Pt), j < i → L[j]? = some y → eqP (cst g1 R1) (cst g2 R2) y (lastP y + 1)) ⟨none, none, none, none, none, none, rfl, Same.refl _, fun j y hj => absurd hj (Nat.not_lt_zero j)⟩ (fun i σ H' _ z => .of (z.choose_spec.choose_spec.choose_spec.choose_spec.choose_spec.choose_spec.2.1 _ _ hl)) ?_ ?_⟩
    · rintro i y σ H2 hi ⟨v2, v3, v4, v5, v6, v7, rfl, sm2, all⟩
      have lti : i < L.length := by
        have := (List.getElem?_eq_some_iff.mp hi).1
        rw [pt.len] at this
        exact this
      have hLi : L[i]? = some L[i] := List.getElem?_eq_getElem lti
      obtain ⟨p, h1, h2⟩ := pt.get hLi
      rw [hi] at h1
      injection h1 with h1
      subst h1
      obtain ⟨b0, b1, D0, D1, en⟩ := bnd (List.getElem_mem lti)
      generalize hz : L[i] = z at *
      obtain ⟨b, e, D, dr⟩ := z
      dsimp only at b0 b1 D0 D1 en
      refine ⟨p, _, rfl, .of (sm2 _ _ h2), rfl, _, _, rfl, _, _, rfl, _, _, rfl, _, _, rfl, rfl, ?_⟩
      have lb : lastP (b, e, D, dr) ≤ 1000100000010000001 ∧ -1 ≤ lastP (b, e, D, dr) := by
        unfold lastP
        cases e with
        | none =>
          dsimp only
          omega
        | some x =>
          have := en x rfl
          dsimp only
          split <;> omega
      refine q_asg (v := .int (lastP (b, e, D, dr))) ?_ fun H3 e3 => ?_
      · unfold lastP
        cases e with
        | none =>
          dsimp only
          exact ev_if (b := true) (et_is (et_or (a := decide (endI none = V.non)) (b := true) (et_test (ev_op (ev_var rfl) ev_c rv_isN)) (fun z => absurd z (by decide))) (by decide)) (fun _ => ev_op (ev_var rfl) (ev_var rfl) rv_I0) (fun z => by cases z)
        | some x =>
          dsimp only
          refine ev_if (b := decide (0 < D) && decide (b + D < x)) (et_is (et_or (a := decide (endI (some x) = V.non)) (b := decide (0 < D) && decide (b + D < x)) (et_test (ev_op (ev_var rfl) ev_c rv_isN)) (fun _ => et_and (et_test (ev_op (ev_var rfl) ev_c (rv_I0 (g := fun i j => .bl (decide (j < i)))))) fun _ => et_test (ev_op (ev_op (ev_var rfl) (ev_var rfl) (rv_I0 (g := fun i j => .int (i + j)) (i := b) (j := D))) (ev_var rfl) (rv_I0 (g := fun i j => .bl (decide (i < j))) (j := x))))) rfl) (fun hb => ?_) (fun hb => ?_)
          · rw [Bool.and_eq_true, decide_eq_true_eq, decide_eq_true_eq] at hb
            rw [if_pos hb]
            exact ev_op (ev_var rfl) (ev_var rfl) rv_I0
          · rw [if_neg (fun z => by rw [decide_eq_true z.1, decide_eq_true z.2] at hb; cases hb)]
            exact ev_op (ev_var rfl) ev_c (rv_I0 (g := fun i j => .int (i - j)) (i := x) (j := 1))
      generalize hla : lastP (b, e, D, dr) = la at *
      refine ⟨_, rfl, _, rfl, _, _, rfl, rfl, b, la + 1, rfl, ⟨by omega, by omega, by omega, by omega⟩, for_range (lo := b) (n := (la + 1 - b).toNat) (fun m σ' H' => ∃ v7, σ' = [some (.ref c1.cv), some (.ref c2.cv), some (.int b), some (endI e), some (.int D), some (.int dr), some (.int la), v7] ∧ Same H1 H' ∧ eqP (cst g1 R1) (cst g2 R2) (b, e, D, dr) (b + m)) ⟨v7, rfl, sm2.trans e3, fun m h1 h2 => by dsimp only at h1; omega⟩ ?_ ?_⟩
      · rintro m σ' H4 hm ⟨v7, rfl, sm4, low⟩
        obtain ⟨n, hn⟩ : ∃ n : Nat, b + (m : Int) = (n : Int) := ⟨(b + m).toNat, by omega⟩
        rw [hn]
        have f1 := fz1.s (sm1.trans sm4)
        have f2 := fz2.s (sm1.trans sm4)
        have e1 : Ev (tMeth CC "at" (spCAt K CV CC ST) [] E0 (tVar 0) (tCons (tVar 7) tNil)) [some (.ref c1.cv), some (.ref c2.cv), some (.int b), some (endI e), some (.int D), some (.int dr), some (.int la), some (.int (n : Int))] H4 (.int (cst g1 R1 n)) := fun H5 e5 Q5 q5 => ⟨_, rfl, c1.cv, c1.dx, _, rfl, (f1.s e5).kw.icv, rfl, _, rfl, c1, r1, s1, g1, R1, on1, a1, n, rfl, f1.s e5, by omega, fun H6 s6 => q5 H6 s6⟩
        have e2 : Ev (tMeth CC "at" (spCAt K CV CC ST) [] E0 (tVar 1) (tCons (tVar 7) tNil)) [some (.ref c1.cv), some (.ref c2.cv), some (.int b), some (endI e), some (.int D), some (.int dr), some (.int la), some (.int (n : Int))] H4 (.int (cst g2 R2 n)) := fun H5 e5 Q5 q5 => ⟨_, rfl, c2.cv, c2.dx, _, rfl, (f2.s e5).kw.icv, rfl, _, rfl, c2, r2, s2, g2, R2, on2, a2, n, rfl, f2.s e5, by omega, fun H6 s6 => q5 H6 s6⟩
        refine s_when (b := !decide (V.int (cst g1 R1 n) = V.int (cst g2 R2 n))) (et_test (ev_op e1 e2 (rv_ne rfl))) (fun hb H5 e5 => ?_) (fun hb H5 e5 => ?_)
        · have ne : cst g1 R1 n ≠ cst g2 R2 n := fun z => by
            rw [z, decide_eq_true rfl] at hb
            cases hb
          exact ⟨_, rfl, qY i n (b, e, D, dr) H5 ((sm1.trans sm4).trans e5) hLi (by dsimp only; omega) (by rw [hla]; omega) ne (fun m' h1 h2 => low m' h1 (by omega)) all⟩
        · have eq : cst g1 R1 n = cst g2 R2 n := by
            by_cases z : V.int (cst g1 R1 n) = V.int (cst g2 R2 n)
            · injection z
            · rw [decide_eq_false z] at hb
              cases hb
          refine ⟨_, rfl, sm4.trans e5, fun m' h1 h2 => ?_⟩
          by_cases e : m' = n
          · rw [e]
            exact eq
          · exact low m' h1 (by omega)
      · rintro σ' H4 ⟨v7, rfl, sm4, low⟩
        refine ⟨_, _, _, _, _, _, rfl, sm4, fun j y hj hy => ?_⟩
        by_cases ej : j = i
        · subst ej
          rw [hLi] at hy
          injection hy with hy
          rw [← hy, hla]
          exact fun m h1 h2 => low m h1 (by dsimp only at h1; omega)
        · exact all j y (by omega) hy
    · rintro σ H2 ⟨v2, v3, v4, v5, v6, v7, rfl, sm2, all⟩
      exact qN (fun j y hy => all j y (by rw [pt.len]; exact (List.getElem?_eq_some_iff.mp hy).1) hy) H2 (sm1.trans sm2)
end
end Sea

set_option Elab.async false
set_option linter.all false
set_option maxRecDepth 100000
set_option maxHeartbeats 4000000
/-! comparison: first_difference -/
namespace Sea
open PySem PySem.Spec PyProof.Rows L2 LamX NdefX ClX Evl StX
section
variable {P : Program} {w : World} {K : PySem.W.Frag} {mg : Str → Option Value} {base : Heap} {CV CC ST CO fSt fVN fVC fRl pRl fRd pRd fEx pEx fNot fTo fOpn fHol fAdd fClo fKno fVal fRch fCAt fCom fZon fCd fPar fUnl fCvI fCoI fRep pRep fRpr pRpr fCos fDpr fCut : Addr} {dSt dVN dVC dRl dRd dEx dNot dTo dOpn dHol dAdd dClo dKno dVal dRch dCAt dCom dZon dCd dPar dUnl dCvI dCoI dRep dRpr dCos dDpr dCut : FuncData}
def spFdi (K : PySem.W.Frag) (CV CC ST CO : Addr) : Sp := fun vs H Q _ => ∃ (x1 d1 t1 : Addr) (c1 : CvA) (a1 : List Sg) (r1 s1 : Addr) (z1 : Sg) (x2 d2 t2 : Addr) (c2 : CvA) (a2 : List Sg) (r2 s2 : Addr) (z2 : Sg) (g1 g2 : Pc) (R1 R2 : Nat) (on1 on2 : List Nat), vs = [.ref x1, .ref x2] ∧ Cos K CV CC ST CO g1 R1 on1 H x1 d1 t1 c1 a1 r1 s1 z1 ∧ Cos K CV CC ST CO g2 R2 on2 H x2 d2 t2 c2 a2 r2 s2 z2 ∧ on1.length ≤ 6 ∧ on2.length ≤ 6 ∧
  ∀ (bs : List Int), bs.Pairwise (· < ·) → (∀ k, k ∈ bs ↔ k ∈ (zoF g1 R1 a1 ++ zoF g2 R2 a2).map (·.1)) →
    (∀ (i n : Nat) (z : Pt) H', Same H H' → (partsF (zoF g1 R1 a1) (zoF g2 R2 a2) bs)[i]? = some z → z.1 ≤ (n : Int) → (n : Int) ≤ lastP z → cst g1 R1 n ≠ cst g2 R2 n → eqP (cst g1 R1) (cst g2 R2) z n → (∀ (j : Nat) (y : Pt), j < i → (partsF (zoF g1 R1 a1) (zoF g2 R2 a2) bs)[j]? = some y → eqP (cst g1 R1) (cst g2 R2) y (lastP y + 1)) → Q (.int n) H') ∧
    ((∀ (j : Nat) (y : Pt), (partsF (zoF g1 R1 a1) (zoF g2 R2 a2) bs)[j]? = some y → eqP (cst g1 R1) (cst g2 R2) y (lastP y + 1)) → ∀ H', Same H H' → Q .non H')
theorem ok_fdi {f : Addr} {fd : FuncData} {k : Nat} (F : Fun K "first_difference" "first_difference" sFdi f fd) (U : TUnl K mg fPar fUnl dPar dUnl) (Z : TAll K mg CV CC ST fSt fVN fVC fRl pRl fRd pRd fEx pEx fNot fTo fOpn fHol fAdd fClo fKno fVal fRch fCAt fCom dSt dVN dVC dRl dRd dEx dNot dTo dOpn dHol dAdd dClo dKno dVal dRch dCAt dCom) (X : TPar K mg CC fZon dZon) (ZC : TCd K mg fCd dCd) (TO : TCo K mg CO CC fCvI fCoI fRep pRep fRpr pRpr fCos fDpr fCut dCvI dCoI dRep dRpr dCos dDpr dCut) : FnOk P w K mg base CX0 (k + 12) f fd ["one", "other"] (spFdi K CV CC ST CO) := by
  have bU : Binds K dUnl ["one", "other"] [] := U.uU.binds (ps := ["one", "other"]) fun _ _ _ _ _ _ us hl => match us, hl with | [_, _], _ => rfl
  refine F.ok scFdi (fun vs H Q E h => ?_) (fun cdv A outer s H vs Q E hr h => ?_)
  · obtain ⟨x1, d1, t1, c1, a1, r1, s1, z1, x2, d2, t2, c2, a2, r2, s2, z2, g1, g2, R1, R2, on1, on2, rfl, _⟩ := h
    rfl
  · obtain ⟨x1, d1, t1, c1, a1, r1, s1, z1, x2, d2, t2, c2, a2, r2, s2, z2, g1, g2, R1, R2, on1, on2, rfl, h1, h2, o1, o2, q⟩ := h
    refine ⟨_, pss_one (ps_ret (pe_call (E := E0) (ok_unl (CV := CV) (ST := ST) (k := 0) U Z X ZC) (hr.mono (by omega)) (by rfl) U.gU U.kU bU .nil pass0 (pa_cons (pe_fld (pv 0) rfl) (pa_cons (pe_fld (pv 1) rfl) pa_nil)))), ?_⟩
    exact ⟨_, rfl, x1, CO, d1, _, _, rfl, h1.ix, TO.cl, TO.nC, rfl, _, rfl, x2, CO, d2, _, _, rfl, h2.ix, TO.cl, TO.nC, rfl, c1, c2, r1, s1, r2, s2, g1, g2, R1, R2, on1, on2, a1, a2, rfl, h1.f, h2.f, o1, o2, q⟩
end
end Sea

set_option Elab.async false
set_option linter.all false
set_option maxRecDepth 100000
set_option maxHeartbeats 4000000
/-! plain: the same days, the same costs; stretches without exceptions -/
namespace Sea
open PySem PySem.Spec PyProof.Rows L2 LamX NdefX ClX Evl StX
theorem recs_congr {g h : Pc} (hL : g.L = h.L) {R : Nat} : ∀ n : Nat, (∀ k, k < n → gos g k = gos h k) → recs g R n = recs h R n
  | 0, _ => rfl
  | n + 1, e => by
    have ih := recs_congr hL (R := R) n fun k hk => e k (by omega)
    show (recs g R n).drop 1 ++ [nxt g n (recs g R n)] = (recs h R n).drop 1 ++ [nxt h n (recs h R n)]
    rw [ih]
    unfold nxt
    rw [e n (Nat.lt_succ_self n), hL]
theorem cst_congr {g h : Pc} (hL : g.L = h.L) {R n : Nat} (e : ∀ k, k < n → gos g k = gos h k) : cst g R n = cst h R n := by
  unfold cst
  rw [recs_congr hL n e]
theorem stC_congr {g h : Pc} (hL : g.L = h.L) {R n : Nat} (e : ∀ k, k < n → gos g k = gos h k) : stC g R n = stC h R n := by
  unfold stC
  rw [recs_congr hL n e, cst_congr hL e]
/-- a stretch of one day, or one without exceptions -/
theorem cutsF_in : ∀ (on : List Nat) (b0 b : Nat) (e : Option Nat), (∀ o ∈ on, b0 ≤ o) → on.Pairwise (· < ·) → (b, e) ∈ cutsF b0 on → b0 ≤ b ∧ (e = some (b + 1) ∨ ∀ o ∈ on, o < b ∨ ∃ x, e = some x ∧ x ≤ o)
  | [], b0, b, e, _, _, h => by
    have h := List.mem_singleton.mp h
    injection h with h1 h2
    exact ⟨Nat.le_of_eq h1.symm, .inr fun o ho => nomatch ho⟩
  | o :: r, b0, b, e, lo, asc, h => by
    obtain ⟨p1, p2⟩ := List.pairwise_cons.mp asc
    have l0 := lo o List.mem_cons_self
    unfold cutsF at h
    rcases List.mem_append.mp h with h | h
    · split at h
      · have h := List.mem_singleton.mp h
        injection h with h1 h2
        refine ⟨Nat.le_of_eq h1.symm, .inr fun o' ho => .inr ⟨o, h2, ?_⟩⟩
        rcases List.mem_cons.mp ho with rfl | ho
        · exact Nat.le_refl _
        · exact Nat.le_of_lt (p1 o' ho)
      · cases h
    · rcases List.mem_cons.mp h with h | h
      · injection h with h1 h2
        exact ⟨by omega, .inl (by rw [h2, h1])⟩
      · obtain ⟨q1, q2⟩ := cutsF_in r (o + 1) b e (fun x hx => p1 x hx) p2 h
        refine ⟨by omega, q2.imp id fun q o' ho => ?_⟩
        rcases List.mem_cons.mp ho with rfl | ho
        · exact .inl (by omega)
        · exact q o' ho
/-- a day that is no exception -/
theorem gos_plain {g : Pc} {on : List Nat} (ho : g.os = ofN on) {k : Nat} (h : k ∉ on) : gos g k = decide ((k : Int).fmod g.ln ∈ g.ds) := by
  unfold gos trv
  have : inV (.int (k : Int)) (g.os.map V.int) = false := by
    rw [inV_int, ho]
    refine decide_eq_false fun z => ?_
    obtain ⟨o, hm, e⟩ := List.mem_map.mp z
    have : o = k := by omega
    exact h (this ▸ hm)
  rw [this, inV_int]
  cases decide ((k : Int).fmod g.ln ∈ g.ds) <;> rfl
theorem cut_of {g : Pc} {on : List Nat} (ho : g.os = ofN on) (l1 : 1 ≤ g.ln) (asc : on.Pairwise (· < ·)) {b : Nat} {e : Option Nat} (h : (b, e) ∈ cutsF 0 on) : Cut g b e := fun i j hi hj hm => by
  rcases (cutsF_in on 0 b e (fun o _ => Nat.zero_le o) asc h).2 with he | he
  · have a := hi _ he
    have c := hj _ he
    rw [show i = 0 by omega, show j = 0 by omega]
  · have no : ∀ i : Nat, Low e (b + i + 1) → b + i ∉ on := fun i hi z => by
      rcases he _ z with h | ⟨x, hx, h⟩
      · omega
      · have := hi x hx
        omega
    rw [gos_plain ho (no i hi), gos_plain ho (no j hj)]
    have := mod_adds (by omega) hm b
    rw [Nat.add_comm b i, Nat.add_comm b j, this]
end Sea

set_option Elab.async false
set_option linter.all false
set_option maxRecDepth 100000
set_option maxHeartbeats 4000000
/-! plain: what repeats is found in time -/
namespace Sea
open PySem PySem.Spec PyProof.Rows L2 LamX NdefX ClX Evl StX
/-- passes of at most 9 days, prices of at most 97 -/
structure Small (g : Pc) : Prop where
  len : ∀ z ∈ g.L, z.1 ≤ 9
  pri : ∀ z ∈ g.L, z.2 ≤ 97
section
variable {g : Pc} {R : Nat}
theorem fmod_round (x n : Int) (h : 0 < n) : (x + n).fmod n = x.fmod n := by
  rw [Int.fmod_eq_emod_of_nonneg _ (by omega), Int.fmod_eq_emod_of_nonneg _ (by omega), Int.add_emod_right]
def netG (g : Pc) (R : Nat) (rc : Reach g R) (sm : Small g) : Net where
  L := g.ln.toNat
  R := 9
  Ed x := if decide ((x - 1).fmod g.ln ∈ g.ds) = true then g.L else [(1, 0)]
  l1 := by have := rc.l1; omega
  per x := by
    have := rc.l1
    rw [show x + ((g.ln.toNat : Nat) : Int) - 1 = x - 1 + g.ln by omega, fmod_round _ _ (by omega)]
  len x z hz := by
    split at hz
    · exact ⟨(rc.ok z hz).1, sm.len z hz⟩
    · rw [List.mem_singleton.mp hz]
      exact ⟨by decide, by decide⟩
  pri x z hz := by
    split at hz
    · have := (rc.ok z hz).2.2.1
      omega
    · rw [List.mem_singleton.mp hz]
      decide
  ne x := by
    split
    · exact rc.ne
    · exact fun z => nomatch z
theorem cAt_mono (rc : Reach g R) {a b : Int} (h : a ≤ b) : cAt g R a ≤ cAt g R b := cAt_le rc.r1 (cst_grow rc b.toNat).1 h (by omega)
theorem cAt_nat (k : Nat) : cAt g R (k : Int) = cst g R k := if_pos (Int.natCast_nonneg k)
theorem least_le {l : List Int} {x : Int} (h : x ∈ l) : least l ≤ x := (least_in (List.ne_nil_of_mem h)).2 x h
theorem cAt_step (rc : Reach g R) (sm : Small g) (x : Int) : cAt g R (x + 1) ≤ cAt g R x + 97 := by
  by_cases h : 0 ≤ x
  · obtain ⟨k, rfl⟩ := Int.eq_ofNat_of_zero_le h
    rw [show ((k : Nat) : Int) + 1 = ((k + 1 : Nat) : Int) by omega, cAt_nat, cAt_nat, cst_next rc k]
    split
    · obtain ⟨z, hz⟩ := List.exists_mem_of_ne_nil _ rc.ne
      have h1 := least_le (List.mem_map.mpr ⟨z, hz, rfl⟩ : cAt g R ((k : Int) + 1 - z.1) + z.2 ∈ g.L.map fun z => cAt g R ((k : Int) + 1 - z.1) + z.2)
      have h2 := cAt_mono rc (show (k : Int) + 1 - z.1 ≤ (k : Int) by have := (rc.ok z hz).1; omega)
      have h3 := sm.pri z hz
      rw [cAt_nat] at h2
      omega
    · omega
  · have h1 : cAt g R x = 0 := if_neg h
    have h2 : cAt g R (x + 1) = 0 := by
      unfold cAt
      split
      · rw [show (x + 1).toNat = 0 by omega, cst_0 rc.r1]
      · rfl
    omega
theorem cAt_steps (rc : Reach g R) (sm : Small g) (x : Int) : ∀ m : Nat, cAt g R (x + m) ≤ cAt g R x + 97 * m
  | 0 => by rw [show x + ((0 : Nat) : Int) = x by omega]; omega
  | m + 1 => by
    have h1 := cAt_steps rc sm x m
    have h2 := cAt_step rc sm (x + m)
    rw [show x + ((m + 1 : Nat) : Int) = x + (m : Int) + 1 by omega]
    omega
/-- behind the last exception costs follow the pattern -/
theorem least_g (rc : Reach g R) (sm : Small g) {b : Nat} (pl : ∀ k : Nat, b ≤ k → gos g k = decide ((k : Int).fmod g.ln ∈ g.ds)) : Least (netG g R rc sm) (cAt g R) b where
  up x hx z hz := by
    obtain ⟨k, hk⟩ : ∃ k : Nat, x = ((k + 1 : Nat) : Int) := ⟨(x - 1).toNat, by omega⟩
    have hg := pl k (by omega)
    have hz : z ∈ (if decide ((x - 1).fmod g.ln ∈ g.ds) = true then g.L else [(1, 0)]) := hz
    rw [show x - 1 = (k : Int) by omega, ← hg] at hz
    rw [hk, cAt_nat, cst_next rc k]
    split at hz
    · rename_i c
      rw [if_pos c]
      exact least_le (List.mem_map.mpr ⟨z, hz, by rw [show ((k + 1 : Nat) : Int) = (k : Int) + 1 by omega]⟩)
    · rename_i c
      rw [if_neg c, List.mem_singleton.mp hz]
      show cst g R k ≤ cAt g R (((k + 1 : Nat) : Int) - 1) + 0
      rw [show ((k + 1 : Nat) : Int) - 1 = (k : Int) by omega, cAt_nat]
      omega
  at_ x hx := by
    obtain ⟨k, hk⟩ : ∃ k : Nat, x = ((k + 1 : Nat) : Int) := ⟨(x - 1).toNat, by omega⟩
    have hg := pl k (by omega)
    show ∃ z, z ∈ (if decide ((x - 1).fmod g.ln ∈ g.ds) = true then g.L else [(1, 0)]) ∧ _
    rw [show x - 1 = (k : Int) by omega, ← hg, hk, cAt_nat, cst_next rc k]
    by_cases c : gos g k = true
    · rw [if_pos c, if_pos c]
      have ne : (g.L.map fun z => cAt g R ((k : Int) + 1 - z.1) + z.2) ≠ [] := by
        have := rc.ne
        simp [this]
      obtain ⟨z, hz, e⟩ := List.mem_map.mp (least_in ne).1
      exact ⟨z, hz, by rw [← e, show ((k + 1 : Nat) : Int) = (k : Int) + 1 by omega]⟩
    · rw [if_neg c, if_neg c]
      refine ⟨(1, 0), List.mem_singleton.mpr rfl, ?_⟩
      show cst g R k = cAt g R (((k + 1 : Nat) : Int) - 1) + 0
      rw [show ((k + 1 : Nat) : Int) - 1 = (k : Int) by omega, cAt_nat]
      omega
  mono x _ := cAt_mono rc (by omega)
theorem div2520 (q : Int) (h1 : 1 ≤ q) (h9 : q ≤ 9) : q ∣ ((2520 : Nat) : Int) := by
  have : q = 1 ∨ q = 2 ∨ q = 3 ∨ q = 4 ∨ q = 5 ∨ q = 6 ∨ q = 7 ∨ q = 8 ∨ q = 9 := by omega
  rcases this with rfl | rfl | rfl | rfl | rfl | rfl | rfl | rfl | rfl <;> decide
/-- .. so they repeat from some 6 million days on -/
theorem settle_g (rc : Reach g R) (sm : Small g) {b : Nat} (pl : ∀ k : Nat, b ≤ k → gos g k = decide ((k : Int).fmod g.ln ∈ g.ds)) : ∃ G : Int, ∀ n : Int, 6098652 < n - b → cAt g R (n + g.ln * 2520) = cAt g R n + G := by
  have l1 := rc.l1
  have l2 := rc.l2
  have hW : ∀ (x : Int) (z : Int × Int), z ∈ (netG g R rc sm).Ed x → z.2 ≤ 97 := fun x z hz => by
    have hz : z ∈ (if decide ((x - 1).fmod g.ln ∈ g.ds) = true then g.L else [(1, 0)]) := hz
    split at hz
    · exact sm.pri z hz
    · rw [List.mem_singleton.mp hz]
      decide
  obtain ⟨Ln, hL⟩ : ∃ n : Nat, n = g.ln.toNat := ⟨_, rfl⟩
  obtain ⟨G, h⟩ := (least_g rc sm pl).settles (W := 97) (U := 2231) (K := 2520) (B := 45881) (by decide) hW (by decide) div2520 (by decide) (by
    show cAt g R ((b : Int) + ((g.ln.toNat : Nat) : Int)) - cAt g R ((b : Int) - 9 + 1) ≤ 2231
    have := cAt_steps rc sm ((b : Int) - 8) (g.ln.toNat + 8)
    rw [show (b : Int) - 8 + ((g.ln.toNat + 8 : Nat) : Int) = (b : Int) + ((g.ln.toNat : Nat) : Int) by omega] at this
    rw [show (b : Int) - 9 + 1 = (b : Int) - 8 by omega]
    omega) (by
    show (9 : Int) * (2231 + ((g.ln.toNat : Nat) : Int) * 97) + ((g.ln.toNat : Nat) : Int) * 97 * (9 + 1) ≤ ((45881 : Nat) : Int)
    omega)
  refine ⟨G, fun n hn => ?_⟩
  have := h n (by
    show (9 : Int) * ((g.ln.toNat * (45881 + 1) + g.ln.toNat * 2520 : Nat) : Int) < n - b
    omega)
  rw [show n + g.ln * 2520 = n + ((netG g R rc sm).L : Int) * ((2520 : Nat) : Int) by
    show n + g.ln * 2520 = n + ((g.ln.toNat : Nat) : Int) * ((2520 : Nat) : Int)
    rw [show ((g.ln.toNat : Nat) : Int) = g.ln by omega]
    rfl]
  exact this
end
end Sea

set_option Elab.async false
set_option linter.all false
set_option maxRecDepth 100000
set_option maxHeartbeats 4000000
/-! plain: all stretches are fit -/
namespace Sea
open PySem PySem.Spec PyProof.Rows L2 LamX NdefX ClX Evl StX
section
variable {g : Pc} {R : Nat}
theorem recs_at (rc : Reach g R) (k : Nat) {t : Nat} (h : t < R) : (recs g R k)[t]? = some (cAt g R ((k : Int) + 1 - ((R - t : Nat) : Int))) := by
  have hl := recs_len (g := g) rc.r1 k
  have hb := recs_back (g := g) rc.r1 k (R - t) (by omega) (by omega)
  rw [atI_back (by omega) (by rw [hl]; omega), hl, show R - (R - t) = t by omega] at hb
  rw [hb]
  congr 1
  unfold cAt
  by_cases c : R - t ≤ k
  · rw [if_pos c, if_pos (by omega)]
    congr 1
    omega
  · rw [if_neg c]
    by_cases d : (0 : Int) ≤ (k : Int) + 1 - ((R - t : Nat) : Int)
    · rw [if_pos d, show ((k : Int) + 1 - ((R - t : Nat) : Int)).toNat = 0 by omega, cst_0 rc.r1]
    · rw [if_neg d]
theorem stC_shift (rc : Reach g R) {m n : Nat} {G : Int} (h : ∀ t : Nat, t < R → cAt g R ((n : Int) + 1 - ((R - t : Nat) : Int)) = cAt g R ((m : Int) + 1 - ((R - t : Nat) : Int)) + G) : stC g R m = stC g R n := by
  have e : recs g R n = (recs g R m).map (· + G) := by
    refine List.ext_getElem? fun t => ?_
    by_cases c : t < R
    · rw [recs_at rc n c, List.getElem?_map, recs_at rc m c, h t c]
      rfl
    · rw [List.getElem?_eq_none (by rw [recs_len rc.r1]; omega), List.getElem?_eq_none (by rw [List.length_map, recs_len rc.r1]; omega)]
  have ec : cst g R n = cst g R m + G := by
    have h1 := cst_one rc n
    rw [e, atI_map, cst_one rc m] at h1
    injection h1 with h1
    exact h1.symm
  unfold stC
  rw [e, List.map_map, ec]
  refine List.map_congr_left fun v _ => ?_
  show cst g R m - v = cst g R m + G - (v + G)
  omega
theorem few_of (rc : Reach g R) (sm : Small g) {b : Nat} (pl : ∀ k : Nat, b ≤ k → gos g k = decide ((k : Int).fmod g.ln ∈ g.ds)) (d : Nat) (f : FreshS g R b d) : d ≤ 10000000 := by
  by_cases c : d ≤ 10000000
  · exact c
  · exfalso
    have l1 := rc.l1
    have l2 := rc.l2
    have r2 := rc.r2
    obtain ⟨G, hG⟩ := settle_g rc sm pl
    obtain ⟨n, hn⟩ : ∃ n : Nat, g.ln = (n : Int) := ⟨g.ln.toNat, by omega⟩
    have n1 : 1 ≤ n := by omega
    have n14 : n ≤ 14 := by omega
    have dm := Nat.div_add_mod 6098680 n
    have ml := Nat.mod_lt 6098680 (show 0 < n by omega)
    obtain ⟨q, hq⟩ : ∃ q, q = 6098680 / n := ⟨_, rfl⟩
    rw [← hq] at dm
    have ei : n * (q + 1) = n * q + n := Nat.mul_succ n q
    have ej : n * (q + 1 + 2520) = n * (q + 1) + n * 2520 := Nat.mul_add n (q + 1) 2520
    have m0 : ∀ m : Nat, ((n * m : Nat) : Int).fmod g.ln = 0 := fun m => by
      rw [hn, Int.fmod_eq_emod_of_nonneg _ (by omega), Int.natCast_mul, Int.mul_emod_right]
    refine f (n * (q + 1)) (n * (q + 1 + 2520)) (by omega) (by omega) (m0 _) (m0 _) (stC_shift rc (G := G) fun t ht => ?_)
    have := hG (((b + n * (q + 1) : Nat) : Int) + 1 - ((R - t : Nat) : Int)) (by omega)
    rw [← this]
    congr 1
    rw [hn]
    omega
end
theorem gos_os {g h : Pc} (hl : g.ln = h.ln) (hd : g.ds = h.ds) {on1 on2 : List Nat} (h1 : g.os = ofN on1) (h2 : h.os = ofN on2) {k : Nat} (e : k ∈ on1 ↔ k ∈ on2) : gos g k = gos h k := by
  have mem : ∀ on : List Nat, ((k : Int) ∈ ofN on) ↔ k ∈ on := fun on => by
    constructor
    · intro z
      obtain ⟨o, hm, e⟩ := List.mem_map.mp z
      have : o = k := by omega
      exact this ▸ hm
    · exact fun z => List.mem_map.mpr ⟨k, z, rfl⟩
  unfold gos trv
  rw [inV_int, inV_int, inV_int, inV_int, h1, h2, hl, hd]
  have : decide ((k : Int) ∈ ofN on1) = decide ((k : Int) ∈ ofN on2) := by
    by_cases c : k ∈ on1
    · rw [decide_eq_true ((mem on1).mpr c), decide_eq_true ((mem on2).mpr (e.mp c))]
    · rw [decide_eq_false (fun z => c ((mem on1).mp z)), decide_eq_false (fun z => c (e.mpr ((mem on2).mp z)))]
  rw [this]
theorem cutsF_end : ∀ (on : List Nat) (b0 b x : Nat), (b, some x) ∈ cutsF b0 on → ∃ o ∈ on, x ≤ o + 1
  | [], b0, b, x, h => by
    have h := List.mem_singleton.mp h
    injection h with h1 h2
    cases h2
  | o :: r, b0, b, x, h => by
    unfold cutsF at h
    rcases List.mem_append.mp h with h | h
    · split at h
      · have h := List.mem_singleton.mp h
        injection h with h1 h2
        injection h2 with h2
        exact ⟨o, List.mem_cons_self, by omega⟩
      · cases h
    · rcases List.mem_cons.mp h with h | h
      · injection h with h1 h2
        injection h2 with h2
        exact ⟨o, List.mem_cons_self, by omega⟩
      · obtain ⟨p, hp, e⟩ := cutsF_end r (o + 1) b x h
        exact ⟨p, List.mem_cons_of_mem _ hp, e⟩
theorem fit_of {g : Pc} {on : List Nat} (ho : g.os = ofN on) (asc : on.Pairwise (· < ·)) (mx : ∀ o ∈ on, o ≤ 1000000000000000000) (sm : Small g) (R : Nat) (rc : Reach g R) : Fit g R on where
  cut b e h := cut_of ho rc.l1 asc h
  fin b x h := by
    obtain ⟨o, hm, e⟩ := cutsF_end on 0 b x h
    have := mx o hm
    omega
  few b e h d lo fr := by
    rcases (cutsF_in on 0 b e (fun o _ => Nat.zero_le o) asc h).2 with he | he
    · have := lo _ he
      omega
    · let g' : Pc := ⟨g.L, g.ln, g.ds, ofN (on.filter fun o => decide (o < b))⟩
      have rc' : Reach g' R := ⟨rc.l1, rc.l2, rc.ok, rc.ne, rc.le, rc.r1, rc.r2⟩
      have sm' : Small g' := ⟨sm.len, sm.pri⟩
      have pl : ∀ k : Nat, b ≤ k → gos g' k = decide ((k : Int).fmod g'.ln ∈ g'.ds) := fun k hk => gos_plain (g := g') (on := on.filter fun o => decide (o < b)) rfl fun z => by
        have := of_decide_eq_true (List.mem_filter.mp z).2
        omega
      have same : ∀ k : Nat, k < b + d → gos g k = gos g' k := fun k hk => gos_os (g := g) (h := g') rfl rfl ho rfl (by
        constructor
        · intro z
          refine List.mem_filter.mpr ⟨z, decide_eq_true ?_⟩
          rcases he k z with h | ⟨x, hx, h⟩
          · exact h
          · have := lo x hx
            omega
        · exact fun z => (List.mem_filter.mp z).1)
      refine few_of rc' sm' pl d fun i j hi hj h1 h2 => ?_
      rw [← stC_congr (g := g) (h := g') rfl fun k hk => same k (by omega), ← stC_congr (g := g) (h := g') rfl fun k hk => same k (by omega)]
      exact fr i j hi hj h1 h2
end Sea

set_option Elab.async false
set_option linter.all false
set_option maxRecDepth 100000
set_option maxHeartbeats 4000000
/-! plain: exceptions do not change the price per round -/
namespace Sea
open PySem PySem.Spec PyProof.Rows L2 LamX NdefX ClX Evl StX
theorem cAt_pos {g : Pc} {R : Nat} (rc : Reach g R) (x : Int) : 0 ≤ cAt g R x := by
  by_cases h : 0 ≤ x
  · have := cAt_mono rc (show (0 : Int) ≤ x from h)
    have e : cAt g R 0 = 0 := by
      unfold cAt
      rw [if_pos (Int.le_refl 0)]
      exact cst_0 rc.r1
    omega
  · unfold cAt
    rw [if_neg h]
    exact Int.le_refl 0
/-- behind b both follow the same days -/
theorem near {g h : Pc} {R S : Nat} (rc : Reach g R) (rd : Reach h S) (hL : g.L = h.L) {b : Nat} (e : ∀ k : Nat, b ≤ k → gos g k = gos h k) : ∀ n : Nat, ∀ x : Int, x ≤ (n : Int) → cAt g R x ≤ cAt h S x + cAt g R b
  | 0, x, hx => by
    have h1 := cAt_mono rc (show x ≤ (b : Int) by omega)
    have h2 := cAt_pos rd x
    omega
  | n + 1, x, hx => by
    by_cases c : x ≤ (b : Int)
    · have h1 := cAt_mono rc c
      have h2 := cAt_pos rd x
      omega
    · by_cases d : x ≤ (n : Int)
      · exact near rc rd hL e n x d
      · have ex : x = ((n + 1 : Nat) : Int) := by omega
        rw [ex, cAt_nat, cAt_nat, cst_next rc n, cst_next rd n, ← e n (by omega), ← hL]
        split
        · have ne : (g.L.map fun z => cAt h S ((n : Int) + 1 - z.1) + z.2) ≠ [] := by
            have := rc.ne
            simp [this]
          obtain ⟨z, hz, ez⟩ := List.mem_map.mp (least_in ne).1
          have h1 := least_le (List.mem_map.mpr ⟨z, hz, rfl⟩ : cAt g R ((n : Int) + 1 - z.1) + z.2 ∈ g.L.map fun z => cAt g R ((n : Int) + 1 - z.1) + z.2)
          have h2 := near rc rd hL e n ((n : Int) + 1 - z.1) (by have := (rc.ok z hz).1; omega)
          rw [← ez]
          omega
        · have := near rc rd hL e n (n : Int) (Int.le_refl _)
          rw [cAt_nat, cAt_nat] at this
          exact this
/-- .. so they grow alike -/
theorem alike {f1 f2 : Nat → Int} {s1 s2 D1 D2 : Nat} {G1 G2 C1 C2 : Int} (p1 : ∀ n, s1 ≤ n → f1 (n + D1) = f1 n + G1) (p2 : ∀ n, s2 ≤ n → f2 (n + D2) = f2 n + G2) (u : ∀ n, f1 n ≤ f2 n + C1) (v : ∀ n, f2 n ≤ f1 n + C2) : G1 * D2 = G2 * D1 := by
  have turns : ∀ {f : Nat → Int} {s D : Nat} {G : Int}, (∀ n, s ≤ n → f (n + D) = f n + G) → ∀ (t n : Nat), s ≤ n → f (n + t * D) = f n + t * G := fun {f s D G} p t => by
    induction t with
    | zero =>
      intro n _
      rw [Nat.zero_mul, Nat.add_zero]
      show _ = _ + (0 : Int) * G
      rw [Int.zero_mul, Int.add_zero]
    | succ t ih =>
      intro n hn
      rw [show n + (t + 1) * D = n + t * D + D by rw [Nat.succ_mul]; omega, p _ (by omega), ih n hn, show ((t + 1 : Nat) : Int) = (t : Int) + 1 by omega, Int.add_mul, Int.one_mul]
      omega
  have both : ∀ t : Nat, f1 (s1 + s2 + t * (D1 * D2)) = f1 (s1 + s2) + t * (G1 * D2) ∧ f2 (s1 + s2 + t * (D1 * D2)) = f2 (s1 + s2) + t * (G2 * D1) := fun t => by
    have h1 := turns p1 (t * D2) (s1 + s2) (by omega)
    have h2 := turns p2 (t * D1) (s1 + s2) (by omega)
    constructor
    · rw [show t * (D1 * D2) = t * D2 * D1 by rw [Nat.mul_comm D1 D2, Nat.mul_assoc], h1, Int.natCast_mul, Int.mul_assoc, Int.mul_comm (D2 : Int) G1]
    · rw [show t * (D1 * D2) = t * D1 * D2 by rw [Nat.mul_assoc], h2, Int.natCast_mul, Int.mul_assoc, Int.mul_comm (D1 : Int) G2]
  generalize G1 * (D2 : Int) = a at *
  generalize G2 * (D1 : Int) = c at *
  have no : ∀ {A B x y C : Int}, (∀ t : Nat, A + (t : Int) * x ≤ B + (t : Int) * y + C) → x ≤ y := fun {A B x y C} h => by
    by_cases l : x ≤ y
    · exact l
    · exfalso
      have h1 := h (B + C - A + 1).toNat
      have h0 := h 0
      have e0 : ((0 : Nat) : Int) * x = 0 := Int.zero_mul x
      have e1 : ((0 : Nat) : Int) * y = 0 := Int.zero_mul y
      have ht : (((B + C - A + 1).toNat : Nat) : Int) = B + C - A + 1 := by omega
      have hm := Int.mul_le_mul_of_nonneg_left (show y + 1 ≤ x by omega) (show (0 : Int) ≤ (((B + C - A + 1).toNat : Nat) : Int) by omega)
      rw [Int.mul_add, Int.mul_one] at hm
      generalize (((B + C - A + 1).toNat : Nat) : Int) * x = X at *
      generalize (((B + C - A + 1).toNat : Nat) : Int) * y = Y at *
      omega
  have l1 : a ≤ c := no (A := f1 (s1 + s2)) (B := f2 (s1 + s2)) (C := C1) fun t => by
    have := u (s1 + s2 + t * (D1 * D2))
    rw [(both t).1, (both t).2] at this
    exact this
  have l2 : c ≤ a := no (A := f2 (s1 + s2)) (B := f1 (s1 + s2)) (C := C2) fun t => by
    have := v (s1 + s2 + t * (D1 * D2))
    rw [(both t).1, (both t).2] at this
    exact this
  omega
theorem frac_mul {n d c : Int} (hc : 0 < c) : frac (n * c) (d * c) = frac n d := by
  unfold frac
  rw [Int.gcd_mul_right, Int.natCast_mul, show ((c.natAbs : Nat) : Int) = c by omega, Int.mul_ediv_mul_of_pos_left _ _ hc, Int.mul_ediv_mul_of_pos_left _ _ hc]
theorem frac_eq {n d m e : Int} (hd : 0 < d) (he : 0 < e) (h : n * e = m * d) : frac n d = frac m e := by
  rw [← frac_mul (n := n) (d := d) he, ← frac_mul (n := m) (d := e) hd, h, Int.mul_comm d e]
end Sea

set_option Elab.async false
set_option linter.all false
set_option maxRecDepth 100000
set_option maxHeartbeats 4000000
/-! plain: exceptions do not change the price per round; costs ahead of the first exception -/
namespace Sea
open PySem PySem.Spec PyProof.Rows L2 LamX NdefX ClX Evl StX
theorem above : ∀ on : List Nat, ∃ b, ∀ o ∈ on, o < b
  | [] => ⟨0, fun o ho => nomatch ho⟩
  | a :: r => by
    obtain ⟨b, hb⟩ := above r
    refine ⟨a + b + 1, fun o ho => ?_⟩
    rcases List.mem_cons.mp ho with rfl | ho
    · omega
    · have := hb o ho
      omega
theorem SgOk.per {g : Pc} {R : Nat} {s : SgP} (ok : SgOk g R s) (rc : Reach g R) (e : s.e = none) (rp : s.rp = true) : s.dy = ((s.d - s.j : Nat) : Int) ∧ 0 < s.dy ∧ ∀ n, s.b + s.j ≤ n → cst g R (n + (s.d - s.j)) = cst g R n + s.gn g R := by
  have rep := ok.yes rp
  have lt := rep.lt
  have sdy : s.dy = (s.d : Int) - s.j := if_pos rp
  have sgn : s.gn g R = cst g R (s.b + s.d) - cst g R (s.b + s.j) := if_pos rp
  refine ⟨by omega, by omega, fun n hn => ?_⟩
  have := rep.next rc ok.cut (n - (s.b + s.j)) (by rw [e]; exact Low.none)
  rw [sgn, show n + (s.d - s.j) = s.b + s.d + (n - (s.b + s.j)) by omega]
  rw [show s.b + s.j + (n - (s.b + s.j)) = n by omega] at this
  exact this
theorem rpr_same {g h : Pc} {R S : Nat} (rc : Reach g R) (rd : Reach h S) (hL : g.L = h.L) (hl : g.ln = h.ln) (hd : g.ds = h.ds) {on1 on2 : List Nat} (h1 : g.os = ofN on1) (h2 : h.os = ofN on2) {s t : SgP} (ok1 : SgOk g R s) (ok2 : SgOk h S t) (e1 : s.e = none) (e2 : t.e = none) (r1 : s.rp = true) (r2 : t.rp = true) : frac (s.gn g R * g.ln) s.dy = frac (t.gn h S * h.ln) t.dy := by
  obtain ⟨a1, a2, a3⟩ := ok1.per rc e1 r1
  obtain ⟨b1, b2, b3⟩ := ok2.per rd e2 r2
  obtain ⟨b, hb⟩ := above (on1 ++ on2)
  have go : ∀ k : Nat, b ≤ k → gos g k = gos h k := fun k hk => gos_os hl hd h1 h2 (by
    constructor
    · intro z
      have := hb k (List.mem_append_left _ z)
      omega
    · intro z
      have := hb k (List.mem_append_right _ z)
      omega)
  have al := alike (f1 := cst g R) (f2 := cst h S) (C1 := cAt g R b) (C2 := cAt h S b) a3 b3 (fun n => by
    have := near rc rd hL go n n (Int.le_refl _)
    rw [cAt_nat, cAt_nat] at this
    exact this) (fun n => by
    have := near rd rc hL.symm (fun k hk => (go k hk).symm) n n (Int.le_refl _)
    rw [cAt_nat, cAt_nat] at this
    exact this)
  refine frac_eq a2 b2 ?_
  rw [a1, b1, ← hl, Int.mul_assoc, Int.mul_assoc, Int.mul_comm g.ln, Int.mul_comm g.ln, ← Int.mul_assoc, ← Int.mul_assoc, al]
/-- no exception ahead of day o: the same costs as far as o -/
theorem ahead {g h : Pc} {R : Nat} (hL : g.L = h.L) (hl : g.ln = h.ln) (hd : g.ds = h.ds) {on1 on2 : List Nat} (h1 : g.os = ofN on1) (h2 : h.os = ofN on2) {o : Nat} (n1 : ∀ x ∈ on1, o ≤ x) (n2 : ∀ x ∈ on2, o ≤ x) {n : Nat} (hn : n ≤ o) : cst g R n = cst h R n :=
  cst_congr hL fun k hk => gos_os hl hd h1 h2 (by
    constructor
    · intro z
      have := n1 k z
      omega
    · intro z
      have := n2 k z
      omega)
/-- a day without travel costs nothing -/
theorem free_day {g : Pc} {R : Nat} (rc : Reach g R) {k : Nat} (h : gos g k = false) : cst g R (k + 1) - cst g R k = 0 := by
  rw [cst_next rc k, if_neg (by rw [h]; decide)]
  omega
/-- the window does not matter -/
theorem cst_win {g : Pc} {R S : Nat} (rc : Reach g R) (rd : Reach g S) : ∀ n : Nat, ∀ m, m ≤ n → cst g R m = cst g S m
  | 0, m, hm => by
    rw [show m = 0 by omega, cst_0 rc.r1, cst_0 rd.r1]
  | n + 1, m, hm => by
    by_cases c : m ≤ n
    · exact cst_win rc rd n m c
    · rw [show m = n + 1 by omega, cst_next rc n, cst_next rd n, cst_win rc rd n n (Nat.le_refl n)]
      split
      · congr 1
        refine List.map_congr_left fun z hz => ?_
        have p1 := (rc.ok z hz).1
        congr 1
        unfold cAt
        split
        · exact cst_win rc rd n _ (by omega)
        · rfl
      · rfl
end Sea

set_option Elab.async false
set_option linter.all false
set_option maxRecDepth 100000
set_option maxHeartbeats 4000000
/-! plain: exceptions that come and go -/
namespace Sea
open PySem PySem.Spec PyProof.Rows L2 LamX NdefX ClX Evl StX
theorem Wex.mem {os xs : List Int} {day : Int} (h : Wex os day xs) (d : Int) : d ∈ xs ↔ (d ∈ os ∧ d ≠ day) ∨ (day ∉ os ∧ (d ∈ os ∨ d = day)) := by
  rw [h.1.mem_iff]
  by_cases c : day ∈ os
  · rw [if_pos c, List.mem_filter]
    constructor
    · rintro ⟨a, b⟩
      exact .inl ⟨a, of_decide_eq_true b⟩
    · rintro (⟨a, b⟩ | ⟨a, _⟩)
      · exact ⟨a, decide_eq_true b⟩
      · exact absurd c a
  · rw [if_neg c, List.mem_append, List.mem_singleton]
    constructor
    · exact fun z => .inr ⟨c, z⟩
    · rintro (⟨a, _⟩ | ⟨_, b⟩)
      · exact .inl a
      · exact b
/-- another day is as before, the day itself is turned -/
theorem Wex.ne {os xs : List Int} {day : Int} (h : Wex os day xs) {d : Int} (n : d ≠ day) : d ∈ xs ↔ d ∈ os := by
  rw [h.mem d]
  constructor
  · rintro (⟨a, _⟩ | ⟨_, a | a⟩)
    · exact a
    · exact a
    · exact absurd a n
  · exact fun a => .inl ⟨a, n⟩
theorem Wex.eq {os xs : List Int} {day : Int} (h : Wex os day xs) : day ∈ xs ↔ day ∉ os := by
  rw [h.mem day]
  constructor
  · rintro (⟨_, a⟩ | ⟨a, _⟩)
    · exact absurd rfl a
    · exact a
  · exact fun a => .inr ⟨a, .inr rfl⟩
/-- put in and taken out again -/
theorem Wex.back {os xs ys : List Int} {day lg : Int} (g : Good os lg) (d0 : 0 ≤ day) (d1 : day ≤ lg) (h : Wex os day xs) (k : Wex xs day ys) : ys = os := by
  have gx := h.good g d0 d1
  have n1 := k.nodup gx
  have n0 : os.Nodup := (good_iff.mp g).1.imp fun h => Int.ne_of_lt h
  refine sorted_uniq ((List.perm_ext_iff_of_nodup n1 n0).mpr fun d => ?_) k.2 ((good_iff.mp g).1.imp fun h => Int.le_of_lt h)
  by_cases c : d = day
  · rw [c, k.eq, h.eq]
    exact Decidable.not_not
  · rw [k.ne c, h.ne c]
theorem trv_ne {ln : Int} {ds os xs : List Int} {day d : Int} (h : Wex os day xs) (n : d ≠ day) : trv ln ds xs d = trv ln ds os d := by
  unfold trv
  rw [inV_int, inV_int, inV_int]
  have : decide (d ∈ xs) = decide (d ∈ os) := by
    by_cases c : d ∈ os
    · rw [decide_eq_true c, decide_eq_true ((h.ne n).mpr c)]
    · rw [decide_eq_false c, decide_eq_false fun z => c ((h.ne n).mp z)]
  rw [this]
theorem trv_eq {ln : Int} {ds os xs : List Int} {day : Int} (h : Wex os day xs) : trv ln ds xs day = !trv ln ds os day := by
  unfold trv
  rw [inV_int, inV_int, inV_int]
  have : decide (day ∈ xs) = !decide (day ∈ os) := by
    by_cases c : day ∈ os
    · rw [decide_eq_true c, decide_eq_false fun z => (h.eq.mp z) c]
      rfl
    · rw [decide_eq_false c, decide_eq_true (h.eq.mpr c)]
      rfl
  rw [this]
  cases decide (day.fmod ln ∈ ds) <;> cases decide (day ∈ os) <;> rfl
end Sea

set_option Elab.async false
set_option linter.all false
set_option maxRecDepth 100000
set_option maxHeartbeats 4000000
/-! plain: the code's count of travel days, day by day -/
namespace Sea
open PySem PySem.Spec PyProof.Rows L2
theorem trv_xor (ln : Int) (ds os : List Int) (day : Int) : trv ln ds os day = (decide (day.fmod ln ∈ ds) != decide (day ∈ os)) := by
  unfold trv
  rw [inV_int, inV_int]
  cases decide (day.fmod ln ∈ ds) <;> cases decide (day ∈ os) <;> rfl
/-- what an exception adds to the count of the days below c -/
def oddAt (ln : Int) (ds : List Int) (c day : Int) : Int := if day < c then (if day.fmod ln ∈ ds then -1 else 1) else 0
theorem ct_fold (ln : Int) (ds : List Int) (c : Int) : ∀ (os : List Int) (t : Int), os.foldl (ctStep ln ds c) t = t + (os.map (oddAt ln ds c)).sum
  | [], t => by simp
  | o :: os, t => by
    rw [List.foldl_cons, ct_fold ln ds c os, List.map_cons, List.sum_cons]
    have e : ctStep ln ds c t o = t + oddAt ln ds c o := by
      unfold ctStep oddAt
      rw [inV_int]
      by_cases h : o < c
      · rw [if_pos h, if_pos h]
        by_cases m : o.fmod ln ∈ ds
        · rw [if_pos m, if_pos (decide_eq_true m)]
        · rw [if_neg m, if_neg (by rw [decide_eq_false m]; decide)]
      · rw [if_neg h, if_neg h, Int.add_zero]
    rw [e, Int.add_assoc]
theorem odd_step (ln : Int) (ds : List Int) (c : Int) : ∀ {os : List Int}, os.Pairwise (· < ·) → (os.map (oddAt ln ds (c + 1))).sum = (os.map (oddAt ln ds c)).sum + (if c ∈ os then (if c.fmod ln ∈ ds then -1 else 1) else 0)
  | [], _ => by simp
  | o :: os, h => by
    have ⟨ho, hr⟩ := List.pairwise_cons.mp h
    rw [List.map_cons, List.map_cons, List.sum_cons, List.sum_cons, odd_step ln ds c hr]
    by_cases e : o = c
    · subst e
      have no : o ∉ os := fun z => Int.lt_irrefl _ (ho o z)
      rw [if_neg no, if_pos List.mem_cons_self]
      unfold oddAt
      rw [if_pos (by omega), if_neg (Int.lt_irrefl _)]
      omega
    · have mem : (c ∈ o :: os) ↔ c ∈ os := by
        rw [List.mem_cons]
        exact ⟨fun z => z.elim (fun z => absurd z.symm e) id, .inr⟩
      have same : oddAt ln ds (c + 1) o = oddAt ln ds c o := by
        unfold oddAt
        by_cases l : o < c
        · rw [if_pos l, if_pos (by omega)]
        · rw [if_neg l, if_neg (by omega)]
      rw [same]
      by_cases m : c ∈ os
      · rw [if_pos m, if_pos (mem.mpr m)]
        omega
      · rw [if_neg m, if_neg (fun z => m (mem.mp z))]
        omega
theorem rest_eq (ln : Int) (ds : List Int) (c : Int) : (ctRest ln ds c).length = (ds.filter fun d => decide (d < c.fmod ln)).length := by
  unfold ctRest
  have := given_take ds (fun d => decide (d < c.fmod ln)) ds.length (Nat.le_refl _)
  rw [this, List.take_length, List.length_map]
theorem below_step (r : Int) : ∀ {ds : List Int}, ds.Pairwise (· < ·) → ((ds.filter fun d => decide (d < r + 1)).length : Int) = ((ds.filter fun d => decide (d < r)).length : Int) + (if r ∈ ds then 1 else 0)
  | [], _ => by simp
  | d :: ds, h => by
    have ⟨hd, hr⟩ := List.pairwise_cons.mp h
    have ih := below_step r hr
    by_cases e : d = r
    · subst e
      have no : d ∉ ds := fun z => Int.lt_irrefl _ (hd d z)
      rw [if_neg no] at ih
      rw [if_pos List.mem_cons_self, List.filter_cons_of_pos (by simp; omega), List.filter_cons_of_neg (by simp), List.length_cons]
      omega
    · have mem : (r ∈ d :: ds) ↔ r ∈ ds := by
        rw [List.mem_cons]
        exact ⟨fun z => z.elim (fun z => absurd z.symm e) id, .inr⟩
      have same : (if r ∈ d :: ds then (1 : Int) else 0) = if r ∈ ds then 1 else 0 := by
        by_cases m : r ∈ ds
        · rw [if_pos m, if_pos (mem.mpr m)]
        · rw [if_neg m, if_neg (fun z => m (mem.mp z))]
      rw [same]
      by_cases l : d < r
      · rw [List.filter_cons_of_pos (by simp; omega), List.filter_cons_of_pos (by simpa using l), List.length_cons, List.length_cons]
        omega
      · rw [List.filter_cons_of_neg (by simp; omega), List.filter_cons_of_neg (by simpa using l)]
        exact ih
theorem tot_step {ln : Int} {ds : List Int} (l1 : 1 ≤ ln) (g : Good ds (ln - 1)) (c : Int) : ctTot ln ds (c + 1) = ctTot ln ds c + (if c.fmod ln ∈ ds then 1 else 0) := by
  have pos : 0 < ln := by omega
  have ⟨pw, all⟩ := good_iff.mp g
  unfold ctTot
  rw [rest_eq, rest_eq, Int.fmod_eq_emod_of_nonneg _ (by omega), Int.fmod_eq_emod_of_nonneg _ (by omega), Int.fdiv_eq_ediv_of_nonneg _ (by omega), Int.fdiv_eq_ediv_of_nonneg _ (by omega)]
  have r0 := Int.emod_nonneg c (show ln ≠ 0 by omega)
  have r1 := Int.emod_lt_of_pos c pos
  have eq := Int.emod_add_mul_ediv c ln
  by_cases last : c % ln + 1 < ln
  · have ⟨eq1, er⟩ := (Int.ediv_emod_unique pos (a := c + 1) (r := c % ln + 1) (q := c / ln)).mpr ⟨by omega, by omega, last⟩
    rw [eq1, er, below_step _ pw]
    omega
  · have ⟨eq1, er⟩ := (Int.ediv_emod_unique pos (a := c + 1) (r := 0) (q := c / ln + 1)).mpr ⟨by rw [Int.mul_add]; omega, Int.le_refl _, pos⟩
    rw [eq1, er]
    have none_ : ds.filter (fun d => decide (d < 0)) = [] := List.filter_eq_nil_iff.mpr fun x hx => by
      have := (all x hx).1
      simp
      omega
    have every : ds.filter (fun d => decide (d < c % ln + 1)) = ds := List.filter_eq_self.mpr fun x hx => by
      have := (all x hx).2
      simp
      omega
    have := below_step (c % ln) pw
    rw [every] at this
    rw [none_, List.length_nil, Int.add_mul]
    omega
theorem ct_step {ln : Int} {ds os : List Int} (t : TvOk ln ds os) (c : Int) : ctAll ln ds os (c + 1) = ctAll ln ds os c + (if trv ln ds os c = true then 1 else 0) := by
  unfold ctAll
  rw [ct_fold, ct_fold, tot_step t.l1 t.gd, odd_step ln ds c (good_iff.mp t.go).1, trv_xor]
  by_cases a : c.fmod ln ∈ ds <;> by_cases b : c ∈ os
  · rw [if_pos a, if_pos b, if_pos a, decide_eq_true a, decide_eq_true b]
    simp
    omega
  · rw [if_pos a, if_neg b, decide_eq_true a, decide_eq_false b]
    simp
    omega
  · rw [if_neg a, if_pos b, if_neg a, decide_eq_false a, decide_eq_true b]
    simp
    omega
  · rw [if_neg a, if_neg b, decide_eq_false a, decide_eq_false b]
    simp
theorem ct_zero {ln : Int} {ds os : List Int} (t : TvOk ln ds os) : ctAll ln ds os 0 = 0 := by
  have ⟨_, all⟩ := good_iff.mp t.gd
  have ⟨_, allo⟩ := good_iff.mp t.go
  unfold ctAll
  rw [ct_fold]
  have z : (os.map (oddAt ln ds 0)).sum = 0 := by
    have : ∀ xs : List Int, (∀ x ∈ xs, 0 ≤ x) → (xs.map (oddAt ln ds 0)).sum = 0 := by
      intro xs
      induction xs with
      | nil => exact fun _ => rfl
      | cons x xs ih =>
        intro h
        rw [List.map_cons, List.sum_cons, ih fun y hy => h y (List.mem_cons_of_mem _ hy)]
        unfold oddAt
        rw [if_neg (by have := h x List.mem_cons_self; omega)]
        rfl
    exact this os fun x hx => (allo x hx).1
  rw [z]
  unfold ctTot
  rw [rest_eq, Int.zero_fmod, Int.zero_fdiv, List.filter_eq_nil_iff.mpr fun x hx => by
    have := (all x hx).1
    simp
    omega]
  simp
theorem ct_count {ln : Int} {ds os : List Int} (t : TvOk ln ds os) : ∀ n : Nat, ctAll ln ds os (n : Int) = ((tdL ln ds os 0 n).length : Nat)
  | 0 => by
    rw [show ((0 : Nat) : Int) = 0 from rfl, ct_zero t]
    rfl
  | n + 1 => by
    rw [show ((n + 1 : Nat) : Int) = (n : Int) + 1 by omega, ct_step t, ct_count t n, tdL_succ, Int.zero_add, List.length_append]
    by_cases h : trv ln ds os (n : Int) = true
    · rw [if_pos h, if_pos h]
      simp
    · rw [if_neg h, if_neg h]
      simp
end Sea

set_option Elab.async false
set_option linter.all false
set_option maxRecDepth 100000
set_option maxHeartbeats 4000000
/-! plain: travel days and their number when a day is turned -/
namespace Sea
open PySem PySem.Spec PyProof.Rows L2
theorem ct_turn {ln : Int} {ds os xs : List Int} {day : Nat} (t : TvOk ln ds os) (u : TvOk ln ds xs) (h : Wex os (day : Int) xs) : ∀ n : Nat, ctAll ln ds xs (n : Int) = ctAll ln ds os (n : Int) + (if day < n then (if trv ln ds xs (day : Int) = true then 1 else -1) else 0)
  | 0 => by
    rw [show ((0 : Nat) : Int) = 0 from rfl, ct_zero t, ct_zero u, if_neg (by omega)]
    rfl
  | n + 1 => by
    have ih := ct_turn t u h n
    rw [show ((n + 1 : Nat) : Int) = (n : Int) + 1 by omega, ct_step t, ct_step u, ih]
    by_cases e : n = day
    · subst e
      rw [if_neg (Nat.lt_irrefl n), if_pos (Nat.lt_succ_self n), trv_eq h]
      cases trv ln ds os (n : Int)
      · simp
      · simp
        omega
    · rw [trv_ne h (show (n : Int) ≠ (day : Int) by omega)]
      by_cases c : day < n
      · rw [if_pos c, if_pos (show day < n + 1 by omega)]
        omega
      · rw [if_neg c, if_neg (show ¬ day < n + 1 by omega)]
        omega
end Sea

set_option Elab.async false
set_option linter.all false
set_option maxRecDepth 100000
set_option maxHeartbeats 4000000
/-! plain: the travel days near a day that is turned -/
namespace Sea
open PySem PySem.Spec PyProof.Rows L2
theorem tdL_mem {ln : Int} {ds os : List Int} {fi : Int} {n : Nat} {d : Int} : d ∈ tdL ln ds os fi n ↔ fi ≤ d ∧ d < fi + n ∧ trv ln ds os d = true := by
  unfold tdL
  rw [List.mem_map]
  constructor
  · rintro ⟨i, hi, rfl⟩
    obtain ⟨h1, h2⟩ := List.mem_filter.mp hi
    have := List.mem_range.mp h1
    exact ⟨by omega, by omega, h2⟩
  · rintro ⟨h1, h2, h3⟩
    have e : fi + (((d - fi).toNat : Nat) : Int) = d := by omega
    exact ⟨(d - fi).toNat, List.mem_filter.mpr ⟨List.mem_range.mpr (by omega), by rw [e]; exact h3⟩, e⟩
theorem tdL_asc (ln : Int) (ds os : List Int) (fi : Int) : ∀ n : Nat, (tdL ln ds os fi n).Pairwise (· < ·)
  | 0 => List.Pairwise.nil
  | n + 1 => by
    rw [tdL_succ, List.pairwise_append]
    refine ⟨tdL_asc ln ds os fi n, ?_, fun a ha b hb => ?_⟩
    · split
      · exact List.pairwise_singleton _ _
      · exact List.Pairwise.nil
    · split at hb
      · rw [List.mem_singleton.mp hb]
        exact (tdL_mem.mp ha).2.1
      · cases hb
theorem asc_nodup {l : List Int} (h : l.Pairwise (· < ·)) : l.Nodup := h.imp fun h => Int.ne_of_lt h
theorem asc_le {l : List Int} (h : l.Pairwise (· < ·)) : l.Pairwise (· ≤ ·) := h.imp fun h => Int.le_of_lt h
/-- the day is none any more -/
theorem tdL_off {ln : Int} {ds os xs : List Int} {day fi : Int} {n : Nat} (h : Wex os day xs) (t : trv ln ds xs day = false) : tdL ln ds xs fi n = (tdL ln ds os fi n).filter fun o => decide (o ≠ day) := by
  have a := tdL_asc ln ds xs fi n
  have b : ((tdL ln ds os fi n).filter fun o => decide (o ≠ day)).Pairwise (· < ·) := (tdL_asc ln ds os fi n).sublist List.filter_sublist
  refine sorted_uniq ((List.perm_ext_iff_of_nodup (asc_nodup a) (asc_nodup b)).mpr fun d => ?_) (asc_le a) (asc_le b)
  rw [List.mem_filter, tdL_mem, tdL_mem]
  by_cases c : d = day
  · subst c
    rw [t]
    constructor
    · rintro ⟨_, _, z⟩
      cases z
    · rintro ⟨_, z⟩
      exact absurd rfl (of_decide_eq_true z)
  · rw [trv_ne h c]
    exact ⟨fun z => ⟨z, decide_eq_true c⟩, fun z => z.1⟩
/-- the day is one now -/
theorem tdL_on {ln : Int} {ds os xs ys : List Int} {day fi : Int} {n : Nat} (h : Wex os day xs) (t : trv ln ds xs day = true) (lo : fi ≤ day) (hi : day < fi + n) (p : ys.Perm (tdL ln ds os fi n ++ [day])) (s : ys.Pairwise (· ≤ ·)) : tdL ln ds xs fi n = ys := by
  have a := tdL_asc ln ds xs fi n
  have no : trv ln ds os day = false := by
    have := trv_eq (ln := ln) (ds := ds) h
    rw [t] at this
    cases e : trv ln ds os day with
    | false => rfl
    | true => rw [e] at this; cases this
  have nd : (tdL ln ds os fi n ++ [day]).Nodup := by
    rw [List.nodup_append]
    refine ⟨asc_nodup (tdL_asc ln ds os fi n), by simp, fun x hx y hy => ?_⟩
    rw [List.mem_singleton.mp hy]
    rintro rfl
    have := (tdL_mem.mp hx).2.2
    rw [no] at this
    cases this
  refine sorted_uniq (List.Perm.trans ((List.perm_ext_iff_of_nodup (asc_nodup a) nd).mpr fun d => ?_) p.symm) (asc_le a) s
  rw [List.mem_append, List.mem_singleton, tdL_mem, tdL_mem]
  by_cases c : d = day
  · subst c
    exact ⟨fun _ => .inr rfl, fun _ => ⟨lo, hi, t⟩⟩
  · rw [trv_ne h c]
    exact ⟨.inl, fun z => z.elim id fun z => absurd z c⟩
end Sea

set_option Elab.async false
set_option linter.all false
set_option maxRecDepth 100000
set_option maxHeartbeats 4000000
namespace Sea
open PySem PySem.Spec PyProof.Rows L2 LamX NdefX ClX Evl StX
theorem scDrawn : FnScope ["_law_h", "_law_most", "_law_found", "_law_wide", "_law_k", "_law_length", "_law_price"] ["_law_h", "_law_most"] (defScope sDrawn) := ⟨rfl, rfl, rfl, by decide +kernel, rfl, by decide +kernel, by decide +kernel⟩
theorem lgs {n : Int} (h0 : 0 < n) (h : n ≤ 1073741824) : n.natAbs.log2 < 9000 := Nat.lt_trans ((Nat.log2_lt (show n.natAbs ≠ 0 by omega)).mpr (show _ < 2 ^ 31 by omega)) (show 31 < 9000 by decide)
def spDrawn (K : PySem.W.Frag) : Sp := fun vs H Q _ => ∃ (h c : Addr) (m : Int), vs = [.ref h, .int m] ∧ 0 < m ∧ m ≤ 7 ∧ Dr H h c ∧ ∀ (v : V) (L : List (Int × Int)) (H' : Hp), PsA K H' v L → 1 ≤ L.length → (L.length : Int) ≤ m → (∀ z ∈ L, 1 ≤ z.1) → Dr H' h c → Kp h c H H' → Q v H'
section
variable {P : Program} {w : World} {K : PySem.W.Frag} {mg : Str → Option Value} {base : Heap} {fN : Addr} {fdN : FuncData}
theorem ok_drawn {f : Addr} {fd : FuncData} {k : Nat} (F : Fun K "_law_passes" "_law_passes" sDrawn f fd) (T : TNx K mg fN fdN) (mR : mg "range" = none) (mI : mg "min" = none) (mT : mg "tuple" = none) : FnOk P w K mg base CX0 (k + 2) f fd ["_law_h", "_law_most"] (spDrawn K) := by
  refine F.ok scDrawn (fun vs H Q E h => ?_) (fun cdv A outer s H vs Q E hr h => ?_)
  · obtain ⟨h, c, m, rfl, _⟩ := h
    rfl
  · obtain ⟨h, c, m, rfl, m0, m7, d, q⟩ := h
    have hr1 := hr.mono (show 1 ≤ k + 1 by omega)
    refine ⟨_, pss_cons (ps_par (i := 2) (j := 3) (by rfl) scDrawn.nd rfl rfl (by decide) rfl rfl (pa_cons (pe_lst pa_nil) (pa_cons (pe_ixl (pe_lst (pa_cons pe_int (pa_cons pe_int (pa_cons (pe_op op_pow pe_int pe_int) pa_nil)))) (pe_next T hr1 (by rfl) (pv 0) pe_int)) pa_nil)) (by rfl))
      (pss_cons (ps_for PassesOwn.never rfl (pi_range1 (by rfl) mR (pa_cons (pe_op op_add pe_int (pe_next T hr1 (by rfl) (pv 0) (pv 1))) pa_nil)) (pg_name (i := 4) scDrawn.nd rfl (.inl rfl))
        (pss_cons (ps_set (i := 5) scDrawn.nd rfl (.inl rfl) (pe_op op_add pe_int (pe_next T hr1 (by rfl) (pv 0) (pe_ixl (pe_lst (pa_cons pe_int (pa_cons pe_int (pa_cons pe_int pa_nil)))) (pe_next T hr1 (by rfl) (pv 0) pe_int)))))
        (pss_cons (ps_set (i := 6) scDrawn.nd rfl (.inl rfl) (pe_op op_add pe_int (pe_next T hr1 (by rfl) (pv 0) (pv 3))))
        (pss_one (ps_expr (pe_bm PySem.F.plainAttrs_list PySem.F.slot_list_append PySem.F.type_list_append mt_append (pv 2) (pa_cons (pe_tup (pa_cons (pv 5) (pa_cons (pe_ifExp (pt_cmpR op_gt (pe_next T hr1 (by rfl) (pv 0) pe_int) pe_int (nomark _)) (pe_callB (call_min2 rfl) (by rfl) mI (by rfl) (pa_cons (pe_op op_pow pe_int pe_int) (pa_cons (pe_op op_mul (pv 6) (pv 5)) pa_nil))) (pv 6)) pa_nil))) pa_nil)))))))
      (pss_one (ps_ret (pe_callTy call_tuple_of (by rfl) mT (by rfl) (pa_cons (pv 2) pa_nil))))), ?_⟩
    have ltb : ∀ {n : Nat}, n ≤ 1000 → n ≤ sizeLine := fun h => Nat.le_of_lt (small1000 h)
    refine ⟨ltb (show 0 ≤ 1000 by decide), fun D nD => ?_⟩
    have d1 : Dr (upd H D (.lst [])) h c := d.new nD
    refine ⟨_, _, rfl, rfl, ⟨by decide, by decide, by decide⟩, ltb (show 3 ≤ 1000 by decide), fun l3 n3 => ?_⟩
    have d2 := d1.new (o := .lst [V.int 9, V.int 40, V.int (10 ^ (6 : Int).toNat)]) n3
    refine ⟨_, rfl, h, c, 3, rfl, by decide, by decide, d2, fun v1 H1 a1 b1 e1 k1 => ?_⟩
    obtain ⟨_, _, _, _, hh, hc0, _⟩ := id d
    have nDh : D ≠ h := fun z => by
      rw [z, hh] at nD
      cases nD
    have nDc : D ≠ c := fun z => by
      rw [z, hc0] at nD
      cases nD
    obtain ⟨_, _, _, _, hh1, hc1, _⟩ := id d1
    have n3h : l3 ≠ h := fun z => by
      rw [z, hh1] at n3
      cases n3
    have n3c : l3 ≠ c := fun z => by
      rw [z, hc1] at n3
      cases n3
    have n3D : D ≠ l3 := fun z => by
      rw [← z, upd_same] at n3
      cases n3
    obtain ⟨wd, hw, hwd⟩ := pick3 9 40 (10 ^ (6 : Int).toNat) v1 a1 b1
    have wd0 : 0 < wd := by
      rcases hwd with z | z | z
      · rw [z]; decide
      · rw [z]; decide
      · rw [z]; decide
    have wd1 : wd < 1073741824 := by
      rcases hwd with z | z | z
      · rw [z]; decide
      · rw [z]; decide
      · rw [z]; decide
    refine ⟨l3, _, v1, _, rfl, rfl, SqL.of (k1 _ _ upd_same n3h n3c), hw, ?_⟩
    refine ⟨_, _, rfl, ?_⟩
    have hD1 : H1 D = some (.lst []) := k1 _ _ (by rw [upd_ne n3D, upd_same]) nDh nDc
    have kk1 : Kp h c H H1 := ((Kp.new nD).trans (Kp.new n3)).trans k1
    dsimp only
    refine ⟨_, rfl, _, rfl, h, c, m, rfl, m0, lgs m0 (by omega), e1, fun v2 H2 a2 b2 e2 k2 => ?_⟩
    refine ⟨_, _, rfl, rfl, 1 + v2, rfl, by omega, by omega, for_range (lo := 0) (n := (1 + v2).toNat) (fun i σ H' => ∃ v4 v5 v6 vs L, σ = [some (.ref h), some (.int m), some (.ref D), some (.int wd), v4, v5, v6] ∧ Dr H' h c ∧ Kp h c H H' ∧ H' D = some (.lst vs) ∧ PsV K H' vs L ∧ L.length = i ∧ ∀ z ∈ L, 1 ≤ z.1)
      ⟨none, none, none, [], [], rfl, e2, kk1.trans k2, k2 _ _ hD1 nDh nDc, .nil, rfl, fun z hz => nomatch hz⟩ ?_ ?_⟩
    · rintro i σ H' hi ⟨v4, v5, v6, vs, L, rfl, d, kp, hD, hv, hl, hp1⟩
      obtain ⟨_, _, _, _, hh, hc0, _⟩ := id d
      refine ⟨_, rfl, ltb (show 3 ≤ 1000 by decide), fun l nl => ?_⟩
      have nlh : l ≠ h := fun z => by
        rw [z, hh] at nl
        cases nl
      have nlc : l ≠ c := fun z => by
        rw [z, hc0] at nl
        cases nl
      have nlD : D ≠ l := ne_of_none hD nl
      refine ⟨_, rfl, h, c, 3, rfl, by decide, by decide, d.new nl, fun v1 H1 a1 b1 e1 k1 => ?_⟩
      obtain ⟨wl, hwl, hwl2⟩ := pick3 3 9 28 v1 a1 b1
      have wl0 : 0 < wl ∧ wl ≤ 28 := by
        rcases hwl2 with z | z | z
        · rw [z]; decide
        · rw [z]; decide
        · rw [z]; decide
      refine ⟨l, _, v1, _, rfl, rfl, SqL.of (k1 _ _ upd_same nlh nlc), hwl, ?_⟩
      refine ⟨h, c, wl, rfl, wl0.1, lgs wl0.1 (by omega), e1, fun v2 H2 a2 b2 e2 k2 => ?_⟩
      refine ⟨_, _, rfl, rfl, ?_⟩
      refine ⟨_, rfl, _, rfl, h, c, wd, rfl, wd0, lgs wd0 (by omega), e2, fun v3 H3 a3 b3 e3 k3 => ?_⟩
      refine ⟨_, _, rfl, rfl, ?_⟩
      have kk : Kp h c H' H3 := (((Kp.new nl).trans k1).trans k2).trans k3
      have hD3 : H3 D = some (.lst vs) := kk _ _ hD nDh nDc
      have hv3 : PsV K H3 vs L := hv.tk (d.tk kk)
      refine ⟨_, rfl, .inl ⟨rfl, _, SqL.of hD3⟩, _, rfl, _, rfl, h, c, 3, rfl, by decide, by decide, e3, fun v4 H4 a4 b4 e4 k4 => ?_⟩
      have hD4 : H4 D = some (.lst vs) := k4 _ _ hD3 nDh nDc
      have hv4 : PsV K H4 vs L := hv3.tk (e3.tk k4)
      have fin : ∀ (y : Int) (tp : Addr), H4 tp = none → ∃ (l : Addr) (xs : List V) (z : V), V.ref D = .ref l ∧ [V.ref tp] = [z] ∧ (upd H4 tp (.tup [.int (1 + v2), .int y])) l = some (.lst xs) ∧ xs.length < sizeLine ∧
          ∃ v4 v5 v6 vs L, ([some (.ref h), some (.int m), some (.ref D), some (.int wd), some (.int (0 + (i : Int))), some (.int (1 + v2)), some (.int (1 + v3))] : L2.St) = [some (.ref h), some (.int m), some (.ref D), some (.int wd), v4, v5, v6] ∧
            Dr (upd (upd H4 tp (.tup [.int (1 + v2), .int y])) l (.lst (xs ++ [z]))) h c ∧ Kp h c H (upd (upd H4 tp (.tup [.int (1 + v2), .int y])) l (.lst (xs ++ [z]))) ∧ (upd (upd H4 tp (.tup [.int (1 + v2), .int y])) l (.lst (xs ++ [z]))) D = some (.lst vs) ∧ PsV K (upd (upd H4 tp (.tup [.int (1 + v2), .int y])) l (.lst (xs ++ [z]))) vs L ∧ L.length = i + 1 ∧ ∀ z ∈ L, 1 ≤ z.1 := by
        intro y tp ntp
        have nDt : D ≠ tp := ne_of_none hD4 ntp
        have hD5 : (upd H4 tp (.tup [.int (1 + v2), .int y])) D = some (.lst vs) := by
          rw [upd_ne nDt]
          exact hD4
        have tk5 : TK K H4 (upd (upd H4 tp (.tup [.int (1 + v2), .int y])) D (.lst (vs ++ [V.ref tp]))) := (TK.new ntp).trans (.but (fun b => b = D) (fun b o e n => by
          rw [upd_ne n]
          exact e) fun b xs z => by
          rw [z]
          exact Rd.lst_no hD5)
        refine ⟨D, vs, _, rfl, rfl, hD5, small1000 (by rw [hv4.len]; omega), _, _, _, vs ++ [.ref tp], L ++ [(1 + v2, y)], rfl, ?_, ?_, upd_same, (hv4.tk tk5).app (.cons ⟨tp, rfl, .of ?_⟩ .nil), by rw [List.length_append, hl]; rfl, fun z hz => (List.mem_append.mp hz).elim (hp1 z) fun hz => by rw [List.mem_singleton.mp hz]; show 1 ≤ 1 + v2; omega⟩
        · obtain ⟨n0, mm, kk2, ns, f1, f2, f3⟩ := e4.new (o := .tup [.int (1 + v2), .int y]) ntp
          exact ⟨n0, mm, kk2, ns, by rw [upd_ne nDh.symm]; exact f1, by rw [upd_ne nDc.symm]; exact f2, f3⟩
        · intro b o e n1 n2
          have hb : b ≠ D := ne_of_none e nD
          rw [upd_ne hb]
          exact ((kp.trans kk).trans (k4.trans (Kp.new ntp))) b o e n1 n2
        · rw [upd_ne nDt.symm, upd_same]
      refine ⟨_, _, rfl, rfl, _, rfl, ?_⟩
      refine ite2 (fun _ => ?_) (fun _ => ?_)
      · refine ⟨_, _, rfl, rfl, ⟨by decide, by decide, by decide⟩, _, rfl, _, rfl, _, _, rfl, rfl, .inr ⟨by omega, by omega⟩, _, _, rfl, ?_⟩
        exact ⟨ltb (show 2 ≤ 1000 by decide), fun tp ntp => fin _ tp ntp⟩
      · refine ⟨_, rfl, ?_⟩
        exact ⟨ltb (show 2 ≤ 1000 by decide), fun tp ntp => fin _ tp ntp⟩
    · rintro σ H' ⟨v4, v5, v6, vs, L, rfl, d, kp, hD, hv, hl, hp1⟩
      refine ⟨_, rfl, D, vs, rfl, .inl ⟨.of hD, fun l nl => q _ L _ ⟨l, vs, rfl, .of upd_same, hv.tk (.new nl)⟩ (by omega) (by omega) hp1 (d.new nl) (kp.trans (Kp.new nl))⟩⟩
end
end Sea

set_option Elab.async false
set_option linter.all false
set_option maxRecDepth 100000
set_option maxHeartbeats 4000000
/-! _law_costs -/
namespace Sea
open PySem PySem.Spec PyProof.Rows L2 LamX NdefX ClX Evl StX
abbrev NLc : List Str := ["_law_passes_here", "_law_pattern_here", "_law_odd", "_law_tariff"]
theorem scLc : FnScope NLc ["_law_passes_here", "_law_pattern_here", "_law_odd"] (defScope sLc) := ⟨rfl, rfl, rfl, by decide +kernel, rfl, by decide +kernel, by decide +kernel⟩
theorem bad_few {L : List (Int × Int)} (ne : L ≠ []) (few : L.length ≤ 4) (ok : ∀ z ∈ L, 1 ≤ z.1 ∧ z.1 ≤ 9 ∧ 1 ≤ z.2 ∧ z.2 ≤ 97) : bad L = none := by
  unfold bad
  rw [if_neg ne]
  refine fb_all L 0 fun j x hx => ?_
  obtain ⟨a, b, c, d⟩ := ok x (List.mem_of_getElem? hx)
  have hj : j < L.length := (List.getElem?_eq_some_iff.mp hx).1
  have e : decide (V.int (((0 + j : Nat) : Nat) : Int) = V.int 6) = false := decide_eq_false fun z => by
    injection z with z
    omega
  unfold badI okP
  rw [e, decide_eq_true a, decide_eq_true (show x.1 ≤ 28 by omega), decide_eq_true c, decide_eq_true (show x.2 ≤ 1000000 by omega)]
  rfl
/-- a tariff of the first passes -/
theorem mk_take {K : PySem.W.Frag} {C cI : Addr} {H : Hp} {us : List V} {L : List (Int × Int)} {Q : VK} {E : XK} (h : PsV K H us L) (few : L.length ≤ 4) (ok : ∀ z ∈ L, 1 ≤ z.1 ∧ z.1 ≤ 9 ∧ 1 ≤ z.2 ∧ z.2 ≤ 97) (n : Nat) (n1 : 1 ≤ n) (l1 : 1 ≤ L.length) (q : ∀ a H', Same H H' → (L.length ≤ n → ∃ p, Tar K C H' a p L) → Q (.ref a) H') : spMk K C cI (us.take n) H Q E := by
  have hl : (L.take n).length ≤ 4 := by
    rw [List.length_take]
    omega
  have b : bad (L.take n) = none := bad_few (fun z => by
    have z := congrArg List.length z
    rw [List.length_take] at z
    simp only [List.length_nil] at z
    omega) hl fun z hz => ok z (List.mem_of_mem_take hz)
  exact ⟨L.take n, h.take n, by omega, fun _ a p H' s _ t => q a H' s fun z => ⟨p, by
    rw [List.take_of_length_le z] at t
    exact t⟩, fun i d H' z => by
    rw [b] at z
    cases z⟩
section
variable {P : Program} {w : World} {K : PySem.W.Frag} {mg : Str → Option Value} {base : Heap} {C CV CC ST CO cV cI cU cP cN fV fI fT fP pP fTv fSt fVN fVC fRl pRl fRd pRd fEx pEx fNot fTo fOpn fHol fAdd fClo fRch fKno fVal fCAt fCom fCvI fCoI fRep pRep fRpr pRpr fCos fDpr fCut : Addr} {mc mp mq : Value} {fdV fdP fdI fdT dTv dVC dSt dVN dRl dRd dEx dNot dTo dOpn dHol dAdd dClo dRch dKno dVal dCAt dCom dCvI dCoI dRep dRpr dCos dDpr dCut : FuncData}
def spLc (K : PySem.W.Frag) (C CV CC ST CO : Addr) : Sp := fun vs H Q _ => ∃ (v pt o : V) (L : List (Int × Int)) (ln : Int) (ds : List Int) (on : List Nat), vs = [v, pt, o] ∧ PsA K H v L ∧ 1 ≤ L.length ∧ L.length ≤ 4 ∧ (∀ z ∈ L, 1 ≤ z.1 ∧ z.1 ≤ 9 ∧ 1 ≤ z.2 ∧ z.2 ≤ 97) ∧ PtA K H pt ln ds ∧ TvOk ln ds (ofN on) ∧ on.length ≤ 6 ∧ TiA K H o (ofN on) ∧
  ∀ (R : Nat) (x dx t : Addr) (c : CvA) (all : List Sg) (rec sn : Addr) (z : Sg) H', Same H H' → Cos K CV CC ST CO ⟨L, ln, ds, ofN on⟩ R on H' x dx t c all rec sn z → Q (.ref x) H'
theorem ok_lc {f : Addr} {fd : FuncData} {k : Nat} (F : Fun K "_law_costs" "_law_costs" sLc f fd) (Z : TAll K mg CV CC ST fSt fVN fVC fRl pRl fRd pRd fEx pEx fNot fTo fOpn fHol fAdd fClo fKno fVal fRch fCAt fCom dSt dVN dVC dRl dRd dEx dNot dTo dOpn dHol dAdd dClo dKno dVal dRch dCAt dCom) (TO : TCo K mg CO CC fCvI fCoI fRep pRep fRpr pRpr fCos fDpr fCut dCvI dCoI dRep dRpr dCos dDpr dCut) (TT : TX K mg C cI cU cP fI mc mp) (TQ : TP K C fP pP fdP) (TM : TMk K C fI fT fdI fdT) (EV : TEv K mg cV cN cP fV fdV mq) (MK : Mk K CV fTv) (IV : Fun K "__init__" "Travel.__init__" sTvI fTv dTv) :
    FnOk P w K mg base (L2.CX P w) (k + 11) f fd ["_law_passes_here", "_law_pattern_here", "_law_odd"] (spLc K C CV CC ST CO) := by
  have bO : Binds K dCoI ["self", "tariff", "travel"] [] := TO.uCo.binds (ps := ["self", "tariff", "travel"]) fun _ _ _ _ _ _ us hl => match us, hl with | [_, _, _], _ => rfl
  refine F.okX scLc (fun vs H Q E h => ?_) (fun cdv A outer s H vs Q E hr h => ?_)
  · obtain ⟨v, pt, o, L, ln, ds, on, rfl, _⟩ := h
    rfl
  · obtain ⟨v, pt, o, L, ln, ds, on, rfl, hv, n1, n4, ok, hpt, tv, n6, ho, q⟩ := h
    have PX : Passes (L2.CX P w) (cxOf (L2.CX P w) P w K mg base NLc "_law_costs" (defScope sLc) f cdv A outer s H E) E := passes_call (takes_of rfl rfl rfl rfl) (fun _ _ _ _ h => h)
    have h5 := hr.mono (show 5 ≤ k + 10 by omega)
    refine ⟨_, pss_cut (ps_set (i := 3) scLc.nd rfl (.inl rfl) (pe_tar TT TM h5 PX (by rfl) (pa_cons (pe_ixt (pv 0) pe_int) pa_nil)))
      (pss_cut (ps_if (pt_cmpR op_eq (pe_callB call_len_seq (by rfl) Z.T.mN PySem.boot_len (pa_cons (pv 0) pa_nil)) pe_int (nomark _)) (pss_one (ps_set (i := 3) scLc.nd rfl (.inl rfl) (pe_tar TT TM h5 PX (by rfl) (pa_cons (pe_ixt (pv 0) pe_int) (pa_cons (pe_ixt (pv 0) pe_int) pa_nil))))) pss_nil)
      (pss_cut (ps_if (pt_cmpR op_eq (pe_callB call_len_seq (by rfl) Z.T.mN PySem.boot_len (pa_cons (pv 0) pa_nil)) pe_int (nomark _)) (pss_one (ps_set (i := 3) scLc.nd rfl (.inl rfl) (pe_tar TT TM h5 PX (by rfl) (pa_cons (pe_ixt (pv 0) pe_int) (pa_cons (pe_ixt (pv 0) pe_int) (pa_cons (pe_ixt (pv 0) pe_int) pa_nil)))))) pss_nil)
      (pss_cut (ps_if (pt_cmpR op_eq (pe_callB call_len_seq (by rfl) Z.T.mN PySem.boot_len (pa_cons (pv 0) pa_nil)) pe_int (nomark _)) (pss_one (ps_set (i := 3) scLc.nd rfl (.inl rfl) (pe_tar TT TM h5 PX (by rfl) (pa_cons (pe_ixt (pv 0) pe_int) (pa_cons (pe_ixt (pv 0) pe_int) (pa_cons (pe_ixt (pv 0) pe_int) (pa_cons (pe_ixt (pv 0) pe_int) pa_nil))))))) pss_nil)
      (pss_one (ps_ret (pe_make (E := E0) TO.mkO (ok_coI (k := 0) Z TO TT TQ) (hr.mono (by omega)) (by rfl) TO.gC bO .nil pass0 (pa_cons (pv 3) (pa_cons (pe_makeK (E := E) MK (ok_tvI IV EV Z.TV) (hr.mono (by omega)) (by rfl) Z.TV.gC (kb_tvI IV) PX (pa_cons (pe_ixt (pv 1) pe_int) (pa_cons (pe_ixt (pv 1) pe_int) pa_nil)) (pk_cons (pv 2) pk_nil)) pa_nil)))))))), ?_⟩
    obtain ⟨va, us, rfl, hva, hus⟩ := hv
    have hlen : us.length = L.length := hus.len
    have ix : ∀ {σ : L2.St} {H' : Hp} {j : Nat} {x : V}, Same H H' → σ[0]? = some (some (.ref va)) → us[j]? = some x → Ev (tOp (rIxT K) (tVar 0) (tC (.int (j : Nat)))) σ H' x := fun {σ H' j x} s0 hσ hx => ev_op (ev_var hσ) ev_c (rv_ixT ((TK.same s0) _ _ hva) (by
      have hj := (List.getElem?_eq_some_iff.mp hx).1
      unfold atI ixN
      rw [if_pos (by omega), if_pos (by omega)]
      exact hx))
    have at_ : ∀ j, j < L.length → ∃ x, us[j]? = some x := fun j hj => ⟨us[j], List.getElem?_eq_getElem (by omega)⟩
    refine ⟨fun σ H' => ∃ tt : Addr, σ = [some (.ref va), some pt, some o, some (.ref tt)] ∧ Same H H' ∧ (L.length ≤ 1 → ∃ p, Tar K C H' tt p L), ?_, ?_⟩
    · obtain ⟨x0, h0⟩ := at_ 0 (by omega)
      have e1 : us.take 1 = [x0] := by
        match us, h0 with
        | y :: r, h0 => cases h0; rfl
      have ea : EvA (tCons (tOp (rIxT K) (tVar 0) (tC (.int 0))) tNil) ([some (.ref va), some pt, some o, none] : L2.St) H [x0] := ea_cons (ix (j := 0) (fun _ _ e => e) rfl h0) ea_nil
      unfold tAsg
      refine ea H (Ex.refl _) _ fun H1 e1' => ?_
      show spMk K C cI [x0] H1 _ E
      rw [← e1]
      exact mk_take ((hus.tk (.same e1'))) n4 ok 1 (by omega) n1 fun a H' s t => ⟨a, rfl, Same.trans e1' s, t⟩
    rintro σ H1 ⟨t1, rfl, s1, r1⟩
    refine ⟨fun σ H' => ∃ tt : Addr, σ = [some (.ref va), some pt, some o, some (.ref tt)] ∧ Same H H' ∧ (L.length ≤ 2 → ∃ p, Tar K C H' tt p L), ?_, ?_⟩
    · refine s_when (b := decide (V.int (us.length : Nat) = V.int 2)) (et_test (ev_op (ev_lenT rfl ((TK.same s1) _ _ hva)) ev_c (rv_eq rfl))) (fun hb H2 e2 => ?_) (fun hb H2 e2 => ⟨t1, rfl, Same.trans s1 e2, fun hl => ?_⟩)
      · have hb : ((us.length : Nat) : Int) = 2 := by
          have := of_decide_eq_true hb
          injection this
        have s2 : Same H H2 := Same.trans s1 e2
        obtain ⟨x0, h0⟩ := at_ 0 (by omega)
        obtain ⟨x1, h1⟩ := at_ 1 (by omega)
        have e1 : us.take 2 = [x0, x1] := by
          match us, h0, h1 with
          | y0 :: y1 :: r, h0, h1 =>
            cases h0; cases h1; rfl
        have ea : EvA (tCons (tOp (rIxT K) (tVar 0) (tC (.int 0))) (tCons (tOp (rIxT K) (tVar 0) (tC (.int 1))) tNil)) ([some (.ref va), some pt, some o, some (.ref t1)] : L2.St) H2 [x0, x1] := ea_cons (ix (j := 0) s2 rfl h0) (ea_cons (ix (j := 1) s2 rfl h1) ea_nil)
        unfold tAsg
        refine ea H2 (Ex.refl _) _ fun H3 e3 => ?_
        show spMk K C cI [x0, x1] H3 _ E
        rw [← e1]
        have s3 : Same H H3 := Same.trans s2 e3
        exact mk_take ((hus.tk (.same s3))) n4 ok 2 (by omega) n1 fun a H' s t => ⟨a, rfl, Same.trans s3 s, t⟩
      · have hb : ¬ ((us.length : Nat) : Int) = 2 := fun z => of_decide_eq_false hb (by rw [z])
        obtain ⟨p, tp⟩ := r1 (by omega)
        exact ⟨p, tp.same e2⟩
    rintro σ H2 ⟨t2, rfl, s2, r2⟩
    refine ⟨fun σ H' => ∃ tt : Addr, σ = [some (.ref va), some pt, some o, some (.ref tt)] ∧ Same H H' ∧ (L.length ≤ 3 → ∃ p, Tar K C H' tt p L), ?_, ?_⟩
    · refine s_when (b := decide (V.int (us.length : Nat) = V.int 3)) (et_test (ev_op (ev_lenT rfl ((TK.same s2) _ _ hva)) ev_c (rv_eq rfl))) (fun hb H2 e2 => ?_) (fun hb H2 e2 => ⟨t2, rfl, Same.trans s2 e2, fun hl => ?_⟩)
      · have hb : ((us.length : Nat) : Int) = 3 := by
          have := of_decide_eq_true hb
          injection this
        have s2 : Same H H2 := Same.trans s2 e2
        obtain ⟨x0, h0⟩ := at_ 0 (by omega)
        obtain ⟨x1, h1⟩ := at_ 1 (by omega)
        obtain ⟨x2, h2⟩ := at_ 2 (by omega)
        have e1 : us.take 3 = [x0, x1, x2] := by
          match us, h0, h1, h2 with
          | y0 :: y1 :: y2 :: r, h0, h1, h2 =>
            cases h0; cases h1; cases h2; rfl
        have ea : EvA (tCons (tOp (rIxT K) (tVar 0) (tC (.int 0))) (tCons (tOp (rIxT K) (tVar 0) (tC (.int 1))) (tCons (tOp (rIxT K) (tVar 0) (tC (.int 2))) tNil))) ([some (.ref va), some pt, some o, some (.ref t2)] : L2.St) H2 [x0, x1, x2] := ea_cons (ix (j := 0) s2 rfl h0) (ea_cons (ix (j := 1) s2 rfl h1) (ea_cons (ix (j := 2) s2 rfl h2) ea_nil))
        unfold tAsg
        refine ea H2 (Ex.refl _) _ fun H3 e3 => ?_
        show spMk K C cI [x0, x1, x2] H3 _ E
        rw [← e1]
        have s3 : Same H H3 := Same.trans s2 e3
        exact mk_take ((hus.tk (.same s3))) n4 ok 3 (by omega) n1 fun a H' s t => ⟨a, rfl, Same.trans s3 s, t⟩
      · have hb : ¬ ((us.length : Nat) : Int) = 3 := fun z => of_decide_eq_false hb (by rw [z])
        obtain ⟨p, tp⟩ := r2 (by omega)
        exact ⟨p, tp.same e2⟩
    rintro σ H3 ⟨t3, rfl, s3, r3⟩
    refine ⟨fun σ H' => ∃ tt : Addr, σ = [some (.ref va), some pt, some o, some (.ref tt)] ∧ Same H H' ∧ (L.length ≤ 4 → ∃ p, Tar K C H' tt p L), ?_, ?_⟩
    · refine s_when (b := decide (V.int (us.length : Nat) = V.int 4)) (et_test (ev_op (ev_lenT rfl ((TK.same s3) _ _ hva)) ev_c (rv_eq rfl))) (fun hb H2 e2 => ?_) (fun hb H2 e2 => ⟨t3, rfl, Same.trans s3 e2, fun hl => ?_⟩)
      · have hb : ((us.length : Nat) : Int) = 4 := by
          have := of_decide_eq_true hb
          injection this
        have s2 : Same H H2 := Same.trans s3 e2
        obtain ⟨x0, h0⟩ := at_ 0 (by omega)
        obtain ⟨x1, h1⟩ := at_ 1 (by omega)
        obtain ⟨x2, h2⟩ := at_ 2 (by omega)
        obtain ⟨x3, h3⟩ := at_ 3 (by omega)
        have e1 : us.take 4 = [x0, x1, x2, x3] := by
          match us, h0, h1, h2, h3 with
          | y0 :: y1 :: y2 :: y3 :: r, h0, h1, h2, h3 =>
            cases h0; cases h1; cases h2; cases h3; rfl
        have ea : EvA (tCons (tOp (rIxT K) (tVar 0) (tC (.int 0))) (tCons (tOp (rIxT K) (tVar 0) (tC (.int 1))) (tCons (tOp (rIxT K) (tVar 0) (tC (.int 2))) (tCons (tOp (rIxT K) (tVar 0) (tC (.int 3))) tNil)))) ([some (.ref va), some pt, some o, some (.ref t3)] : L2.St) H2 [x0, x1, x2, x3] := ea_cons (ix (j := 0) s2 rfl h0) (ea_cons (ix (j := 1) s2 rfl h1) (ea_cons (ix (j := 2) s2 rfl h2) (ea_cons (ix (j := 3) s2 rfl h3) ea_nil)))
        unfold tAsg
        refine ea H2 (Ex.refl _) _ fun H3 e3 => ?_
        show spMk K C cI [x0, x1, x2, x3] H3 _ E
        rw [← e1]
        have s3 : Same H H3 := Same.trans s2 e3
        exact mk_take ((hus.tk (.same s3))) n4 ok 4 (by omega) n1 fun a H' s t => ⟨a, rfl, Same.trans s3 s, t⟩
      · have hb : ¬ ((us.length : Nat) : Int) = 4 := fun z => of_decide_eq_false hb (by rw [z])
        obtain ⟨p, tp⟩ := r3 (by omega)
        exact ⟨p, tp.same e2⟩
    rintro σ H4 ⟨t4, rfl, s4, r4⟩
    obtain ⟨p, tp⟩ := r4 n4
    obtain ⟨pa, pd, rfl, hpa, hpd⟩ := hpt
    have hpa4 := (TK.same (K := K) s4) _ _ hpa
    have hpd4 := hpd.tk (.same s4)
    have ho4 := ho.tk (.same s4)
    refine ⟨_, rfl, ⟨_, rfl, pa, _, 0, _, rfl, rfl, hpa4, rfl, _, rfl, pa, _, 1, _, rfl, rfl, hpa4, rfl, ?_⟩⟩
    refine ⟨_, rfl, ?_⟩
    refine tv_mk (K := K) (C := CV) (cV := cV) (Q := fun v H3 => ∀ (x dx : Addr), H3 x = none → H3 dx = none → dx ≠ x → spCoI K C CV CC ST CO [V.ref x, V.ref t4, v] (upd (upd H3 dx (.own x)) x (.ins CO dx [])) (fun u H2 => u = .non ∧ Q (.ref x) H2) E0) (E := E) hpd4 ho4 (by have := tv.nd; have := tv.l2; omega) (by rw [List.length_map]; omega) (fun _ a H' sm na t => ?_) (fun pt i dd H' z => by
      rw [tv.tbad (by rw [List.length_map]; exact n6)] at z
      cases z)
    intro x dx nx ndx ne
    have s5 : Same H H' := Same.trans s4 sm
    have asc : on.Pairwise (· < ·) := by
      have := (good_iff.mp tv.go).1
      rw [List.pairwise_map] at this
      exact this.imp fun h => by omega
    have mx : ∀ o ∈ on, o ≤ 1000000000000000000 := fun o ho => by
      have := (good_iff.mp tv.go).2 (o : Int) (List.mem_map_of_mem ho)
      omega
    have small : Small ⟨L, ln, ds, ofN on⟩ := ⟨fun z hz => (ok z hz).2.1, fun z hz => (ok z hz).2.2.2⟩
    refine ⟨x, dx, t4, p, a, ⟨L, ln, ds, ofN on⟩, on, pd, o, H', rfl, upd_same, nx, born_ins nx ndx, tp.same sm, fun z => ?_, by show L.length ≤ 1000; omega, fun z hz => ?_, tv.l1, tv.l2, t, rfl, by omega, asc, mx, fun R rc => fit_of rfl asc mx small R rc, fun R c all rec sn z H2 hc s6 co => ⟨rfl, q R x dx t4 c all rec sn z H2 (Same.trans s5 s6) co⟩⟩
    · have z : L = [] := z
      rw [z] at n1
      exact absurd n1 (by decide)
    · obtain ⟨a, b, c, d⟩ := ok z hz
      exact ⟨a, by omega, c, by omega⟩
end
end Sea

set_option Elab.async false
set_option linter.all false
set_option maxRecDepth 100000
set_option maxHeartbeats 4000000
/-! a generator method in a list comprehension; evaluations for the law -/
namespace Sea
open PySem PySem.Spec PyProof.Rows L2 LamX NdefX ClX Evl StX
theorem pw18 : (10 : Int) ^ (18 : Int).toNat = 1000000000000000000 := by decide +kernel
theorem pw17 : (10 : Int) ^ (17 : Int).toNat = 100000000000000000 := by decide +kernel
section
variable {K : PySem.W.Frag} {C h c a : Addr} {σ : L2.St} {H H' : Hp} {ln : Int} {d o pv ov : V} {ds os : List Int} {te ta tb : TE} {Q : VK}
theorem nx_in {i : Nat} {m : Int} (hs : σ[i]? = some (some (.ref h))) (m0 : 0 < m) (ml : m.natAbs.log2 < 9000) (d : Dr H h c) (k : ∀ j : Nat, (j : Int) < m → ∀ H2, Dr H2 h c → Kp h c H H2 → Q (.int j) H2) : tCall spNext [] E0 (tCons (tVar i) (tCons (tC (.int m)) tNil)) σ H Q := by
  refine ⟨_, hs, h, c, m, rfl, m0, ml, d, fun j H2 j0 j1 d2 k2 => ?_⟩
  obtain ⟨z, rfl⟩ := Int.eq_ofNat_of_zero_le j0
  exact k z j1 H2 d2 k2
theorem TiA.kp {ns : List Int} {v : V} {H H' : Hp} (t : TiA K H v ns) (d : Dr H h c) (k : Kp h c H H') : TiA K H' v ns := t.tk (d.tk k)
theorem Tv.kp (t : Tv K C H a ln d o ds os) (dr : Dr H h c) (k : Kp h c H H') : Tv K C H' a ln d o ds os := by
  obtain ⟨⟨dx, ha⟩, hd, ho⟩ := t
  obtain ⟨n0, mm, kk, ns, f1, f2, f3⟩ := id dr
  refine ⟨⟨dx, k _ _ ha ?_ ?_⟩, hd.kp dr k, ho.kp dr k⟩
  · rintro rfl
    rw [ha] at f1
    cases f1
  · rintro rfl
    rw [ha] at f2
    cases f2
theorem ev_ct {i : Nat} {n : Int} {cN : Addr} (hs : σ[i]? = some (some (.ref a))) (t : Tv K C H a ln d o ds os) (ok : TvOk ln ds os) (hn : 0 ≤ n ∧ n ≤ 1000000000000000000) (hx : Ev te σ H (.int n)) : Ev (tMeth C "count_travel_days" (spCt K C cN) [] E0 (tVar i) (tCons te tNil)) σ H (.int (ctAll ln ds os n)) := by
  intro H1 e Q q
  have t1 := t.same e
  obtain ⟨dx, ha⟩ := t1.1
  refine ⟨_, hs, a, dx, _, rfl, ha, tvF_no _ _ _ (by decide +kernel) (by decide +kernel) (by decide +kernel), hx H1 e _ fun H2 e2 => ?_⟩
  exact ⟨a, ln, n, d, o, ds, os, rfl, t1.same e2, ok.l1, ok.l2, by have := ok.nd; have := ok.l2; omega, fun _ H3 s3 => q H3 (Same.trans e2 s3), fun nb => absurd hn nb⟩
theorem ev_is_td {i : Nat} {n : Int} {cN : Addr} (hs : σ[i]? = some (some (.ref a))) (t : Tv K C H a ln d o ds os) (ok : TvOk ln ds os) (hn : 0 ≤ n ∧ n ≤ 1000000000000000000) (hx : Ev te σ H (.int n)) : Ev (tMeth C "is_travel_day" (spIs K C cN) [] E0 (tVar i) (tCons te tNil)) σ H (.bl (trv ln ds os n)) := by
  intro H1 e Q q
  have t1 := t.same e
  obtain ⟨dx, ha⟩ := t1.1
  have := ok.l1
  refine ⟨_, hs, a, dx, _, rfl, ha, tvF_no _ _ _ (by decide +kernel) (by decide +kernel) (by decide +kernel), hx H1 e _ fun H2 e2 => ?_⟩
  exact ⟨a, ln, n, d, o, ds, os, rfl, t1.same e2, by omega, fun _ H3 s3 => q H3 (Same.trans e2 s3), fun nb => absurd hn nb⟩
theorem el_catL {xs ys : List V} (h1 : EvL ta σ H xs) (h2 : EvL tb σ H ys) (few : xs.length + ys.length ≤ 1000) : EvL (tOp rCat ta tb) σ H (xs ++ ys) := by
  intro H1 e Q q
  refine h1 H1 e _ fun p H2 np e2 hp => h2 H2 (e.trans e2) _ fun r H3 nr e3 hr => ?_
  exact ⟨p, r, xs, ys, rfl, rfl, e3 _ _ hp, hr, Nat.le_of_lt (small1000 few), fun l nl => q l _ (fresh_back (e2.trans e3) nl) ((e2.trans e3).trans (Ex.new nl)) upd_same⟩
/-- [one for one in travel.travel_days(first, last)] -/
theorem el_tdC {i : Nat} {fi la : Int} {cN : Addr} (hs : σ[i]? = some (some (.ref a))) (t : Tv K C H a ln d o ds os) (l1 : 1 ≤ ln) (ok : tdOk fi la) (hx : Ev ta σ H (.int fi)) (hy : Ev tb σ H (.int la)) :
    EvL (tListG (tMethG C "travel_days" (spTd K C cN) [] (fun _ _ _ => False) (tVar i) (tCons ta (tCons tb tNil)))) σ H ((tdL ln ds os fi (la + 1 - fi).toNat).map V.int) := by
  intro H1 e Q q
  have t1 := t.same e
  obtain ⟨dx, ha⟩ := t1.1
  refine ⟨_, hs, a, dx, _, rfl, ha, tvF_no _ _ _ (by decide +kernel) (by decide +kernel) (by decide +kernel), ea_cons hx (ea_cons hy ea_nil) H1 e _ fun H2 e2 => ?_⟩
  refine ⟨a, ln, fi, la, d, o, ds, os, rfl, t1.same e2, by omega, fun _ H3 s3 p np => ?_, fun nb => absurd ok nb⟩
  exact q p _ (fresh_back (Same.trans e2 s3) np) ((Same.trans e2 s3).trans (Ex.new np)) upd_same
end
section
variable {X : Cx} {k : Nat} {p pos pos' : Pos}
/-- a comprehension over a generator, whatever its list is for -/
theorem lcG_core {pins : List (Addr × Obj)} {s : Shared} {σ : L2.St} {H : Hp} {Q : VK} {e : Expr} {tg : TGen} {y : Str} {py py2 : Pos} {scope : Scope} {own : List (Str × Nat)} {use : Option (Value → Sem Unit)} {Qf : Value → Shared → Prop} (I : Inv X pins σ H s) (hq : tListG tg σ H Q)
    (h : PCGen X k e tg) (hr : Room (k + 1) X.A) (ok : BlkOk X.N X.env.scope scope own) (hy : scope.names.lookup y = some .local) (hd : (y == ("__debug__" : Str)) = false)
    (hs : ∀ z, foldedSetIterable e X.env z = pure z)
    (hRR : ∀ D C s' m H', Inv X pins σ H' s' → Q (.ref D) H' → s'.heap.Ns C m → FpOk X pins H' C → compPost (model X.prog X.w) X.A X.xe use Qf (.ref D) C (.ok .next) s') :
    wpAny (model X.prog X.w) X.A (comprehension (.ListComp (.Name y py) [⟨.Name y py2, e, [], 0⟩] scope pos) scope X.env pos' (newList []) false (eval e X.env) use) Qf X.xe s := by
  have cells : ∀ y ∈ scope.names, y.2 = .free → ∃ c, X.env.cells.lookup y.1 = some c := fun y hy e => (ok.free y hy e).elim (fun z => I.ok.has _ (.inl z)) fun z => I.ok.has _ (.inr z)
  refine wpAny_comprehension_free (use := use) rfl hs (closure_ok cells) ok.kind (fun y hy e => by rw [ok.uniq y hy, e]) (thn (h.run pins s σ H _ I hq) fun u s1 ⟨H1, sc, I1, a, g, c, eu, ha1, ha2, hg, hgs, hos, hb, hl, hkp, wake⟩ => ?_)
  subst eu
  refine wpAny_pyIter_gen hg (wpAny_newObj_type (newEnv_comp ?_) (by show 0 ≤ sizeLine; decide))
  generalize hs3 : ({ s1 with heap := s1.heap.push { cls := .type "list", data := .seq ([] : List Value).toArray } } : Shared) = s3
  have h3 : s3.heap = s1.heap.push { cls := .type "list", data := .seq ([] : List Value).toArray } := by rw [← hs3]
  have g3 : s3.gens = s1.gens := by rw [← hs3]
  have o3 : s3.os = s1.os := by rw [← hs3]
  have z3 : s3.heap.objs.size = s1.heap.objs.size + 1 := by rw [h3, Heap.size_push]
  show codeAny _ _ (.compStart (.ListComp (.Name y py) [⟨.Name y py2, e, [], 0⟩] scope pos) 0 (.ref a) (.ref s1.heap.objs.size) (compEnvC scope (cellsFrom (s3.heap.objs.size + 1) scope.names (cloFrom X.env.cells scope.names [])) s3.heap.objs.size X.env)) (compPost (model X.prog X.w) X.A X.xe use Qf (.ref s1.heap.objs.size) s3.heap.objs.size) { s3 with heap := pushCells (s3.heap.push { cls := .type "dict", data := .dict #[] }) scope.names }
  generalize hce : compEnvC scope (cellsFrom (s3.heap.objs.size + 1) scope.names (cloFrom X.env.cells scope.names [])) s3.heap.objs.size X.env = ce
  have cL : ce.locals = s3.heap.objs.size := by rw [← hce]; rfl
  have cK : ce.scope.kind = .function := by rw [← hce]; exact ok.kind
  have cY : ce.kindOf y = some .local := by
    rw [← hce]
    exact lookup_relS_keep (by decide) hy
  have kp4 : ∀ b o, s1.heap.get? b = some o → (pushCells (s3.heap.push { cls := .type "dict", data := .dict #[] }) scope.names).get? b = some o := fun b o q => pushCells_keeps _ _ _ _ (Heap.get?_push_of_some _ (by rw [h3]; exact Heap.get?_push_of_some _ q))
  have eS4 : (pushCells (s3.heap.push { cls := .type "dict", data := .dict #[] }) scope.names).get? s1.heap.objs.size = some (lstObj #[] 0) := pushCells_keeps _ _ _ _ (Heap.get?_push_of_some _ (by rw [h3]; exact Heap.get?_push_size _ rfl))
  have eC4 : (pushCells (s3.heap.push { cls := .type "dict", data := .dict #[] }) scope.names).Ns s3.heap.objs.size (fun _ => none) := Heap.Ns.keeps (Heap.Ns.new ..) fun b o q => pushCells_keeps _ _ _ _ q
  have ne : s1.heap.objs.size ≠ s3.heap.objs.size := by omega
  have eC4' := frO_ns eC4
  have lt3 : s1.heap.objs.size < s3.heap.objs.size := by rw [z3]; exact Nat.lt_succ_self _
  have kin : cStatics < s1.heap.objs.size := let ⟨_, hn, _⟩ := hl; hn.lt
  have loop : codeAny (model X.prog X.w) X.A (.compLoop (.ListComp (.Name y py) [⟨.Name y py2, e, [], 0⟩] scope pos) 0 (.ref a) (.ref s1.heap.objs.size) ce) (compPost (model X.prog X.w) X.A X.xe use Qf (.ref s1.heap.objs.size) s3.heap.objs.size) { s3 with heap := pushCells (s3.heap.push { cls := .type "dict", data := .dict #[] }) scope.names } := by
    refine lcG_loop (Z := ⟨s1.heap.objs.size, s3.heap.objs.size, ne⟩) (P := X.prog) (w := X.w) (outer := X.stack) (H := H1) (sc := sc) (Q := fun out H2 => ∀ p, H2 p = none → Q (.ref p) (upd H2 p (.lst out))) (g := g) hr.hd hr.depth cL cK cY hd ?_ ?_ ?_ ?_ (fun s' acc c o H' ys q1 q2 q3 q4 q5 q6 q7 q8 q9 q10 q11 q12 => ?_) sizeLine _ (hg.keeps kp4) (hl.keeps kp4) ⟨.fresh c, ?_, rfl, ?_⟩
    · exact Nat.ne_of_gt ha2
    · exact Nat.ne_of_gt (Nat.lt_trans ha2 lt3)
    · exact Nat.ne_of_gt kin
    · exact Nat.ne_of_gt (Nat.lt_trans kin lt3)
    · obtain ⟨m, hm⟩ := q3.ns q2
      have low : sc.heap.objs.size ≤ s1.heap.objs.size := Nat.le_trans ha1 (Nat.le_of_lt ha2)
      have J := I1.drained low q5 q1 q4 .nil q6 q7 q8 q9 q10
      exact hRR s1.heap.objs.size s3.heap.objs.size _ m _ J (q12 _ q10) hm (I1.fpOk (H' := upd H' s1.heap.objs.size (.lst ys)) (Nat.le_trans low (Nat.le_of_lt lt3)) (by rw [upd_ne (Ne.symm ne)]; exact q11))
    · show s3.gens[g]? = _
      rw [g3]
      exact hgs
    · refine wake X.A.in1 ⟨s1.heap.objs.size, s3.heap.objs.size, ne⟩ _ hr.in1 I1.ok.frames (Nat.le_refl _) (Nat.le_of_lt lt3) kp4 ⟨0, eS4⟩ eC4' ?_ ?_
      · show s3.os = _
        rw [o3]
        exact hos
      · exact allBare_setGen (s := { s3 with heap := _ }) (by show AllBare s3.gens; rw [g3]; exact hb) rfl
  exact codeAny_compStart_list loop (wpAny_pyIter_gen (hg.keeps kp4) loop)
/-- name = [x for x in generator] on one line, the name a local -/
theorem ps_setLcG {i : Nat} {z : Str} {pz spos : Pos} {e : Expr} {tg : TGen} {y : Str} {py py2 : Pos} {scope : Scope} {own : List (Str × Nat)} (hN : X.N.Nodup) (hz : X.N[i]? = some z) (hzl : X.env.scope.names.lookup z = some .local)
    (hsw : swapsWith (.ListComp (.Name y py) [⟨.Name y py2, e, [], 0⟩] scope pos) (some (.Name z pz)) spos.line X.env = pure true) (h : PCGen X k e tg) (hr : Room (k + 1) X.A) (ok : BlkOk X.N X.env.scope scope own) (hy : scope.names.lookup y = some .local) (hd : (y == ("__debug__" : Str)) = false := by decide)
    (hs : ∀ z, foldedSetIterable e X.env z = pure z := by intro _; rfl) : PS X (.Assign [.Name z pz] (.ListComp (.Name y py) [⟨.Name y py2, e, [], 0⟩] scope pos) spos) (tAsg (tListG tg) (gName i)) := by
  refine ⟨fun pins s σ H D I hq => ?_⟩
  rw [exec_Assign_Name_used _ _ _ _ hsw]
  refine wpAny_bind (wpAny_standAt (wpAny_bind ?_))
  show wpAny _ X.A (do let _ ← comprehension (.ListComp (.Name y py) [⟨.Name y py2, e, [], 0⟩] scope pos) scope X.env (firstIterPos [⟨.Name y py2, e, [], 0⟩] pos) (newList []) false (eval e X.env) (some (assign (.Name z pz) X.env))) _ _ s
  have hq : tListG tg σ H (fun x H1 => gName i x σ H1 D.nx) := hq
  refine wpAny_bind (thn (lcG_core (Qf := fun _ s' => SP X pins D .next s') I hq h hr ok hy hd hs fun L C s' m H' I' q hn f => ?_) fun _ s' hq => wpAny_pure (wpAny_pure hq))
  show wpAny _ _ (assign (.Name z pz) X.env (.ref L)) _ _ _
  refine wpAny_assign_Name (store_ok2 (v := V.ref L) I' hN hz (.inl hzl) rfl ?_ (.inr hzl))
  rintro s2 I2 ⟨a, sb, ha⟩
  have ne : C ≠ a := ha.elim (fun z => z ▸ f.2.1) fun z e => f.2.2.2.2.1 _ a z e.symm
  exact ⟨m, hn.sameBut sb ne, fun h3 sb3 => ⟨_, H', I2.turned (t' := s2.toks) (fun b o hb e => (sb3.2 b hb).trans e) f.1 f.2.1 f.2.2.2.1 f.2.2.2.2.1 f.2.2.2.2.2, q⟩⟩
end
section
variable {X : Cx} {k : Nat} {f C : Addr} {fd : FuncData} {ps : List Str} {sp : SpG} {dvs : List V} {ds : List Value} {m : Str} {o : Expr} {apos pos' : Pos} {ta : TE}
theorem pcgen_meth {pl : Sem Bool} {e : Expr} {es : List Expr} {t : TA} (ho : PE X o ta) (cl : Cls X.K C) (hm : Meth X.K C m f) (F : CFn X.prog X.w X.K X.mg X.base k f fd ps sp) (hr : Room k X.A) (hb : Binds X.K fd ps ds) (hd : Vals dvs ds) (ha : PA X (e :: es) t)
    (hst : starEach (e :: es) X.env = (false, eval e X.env) :: starEach es X.env := by rfl) (hpl : (backTo pos' (starEach es X.env)).any (·.1) = false := by rfl)
    (ht : eval (.Call (.Attribute o m apos) (e :: es) [] pos') X.env = (do
      let ov ← eval o X.env
      standAt apos.atName
      let (f, first) ← holding [ov] (getMethod ov m pl)
      callWith pos' f first (backTo pos' (starEach (e :: es) X.env)) (backToKw pos' (keywordEach [] X.env))) := by rfl) :
    PCGen X k (.Call (.Attribute o m apos) (e :: es) [] pos') (tMethG C m sp dvs (fun _ _ _ => False) ta t) := by
  refine ⟨fun pins s σ H cont I h => PySem.W.methodCall_KW (pl := pl) (thn (ho.run pins s σ H _ I h) ?_) ht⟩
  rintro u s1 ⟨x, H1, I1, rx, a, dx, fs, rfl, ea, l, q⟩
  obtain rfl : u = Value.ref a := rx
  refine getmeth_ok I1 ea cl hm l (PySem.W.callWith_K (first := [.ref a]) (h₀ := X.base) I.ok.mod.kin hm.kp (thn (ha.run pos' pins s1 σ H1 _ I1 q) ?_) hst hpl)
  rintro us s2 ⟨vs, H2, I2, r, q2⟩
  refine ⟨I2.kIn, ?_⟩
  have all : Vals (V.ref a :: (vs ++ dvs)) (Value.ref a :: (us ++ ds)) := .cons rfl (r.append hd)
  have many : (Value.ref a :: (us ++ ds)).length = ps.length := all.length ▸ F.len _ _ _ _ q2
  refine wpAny_call (codeAny_mono (F.run X.A X.stack s2 H2 ⟨.ref a :: us, []⟩ (.ref a :: (us ++ ds)) (.ref a :: (vs ++ dvs)) cont _ hr I2.env0 (hb s2 (.ref a :: us) I2.kIn many) all q2) fun r s3 z => ?_)
  match r, z with
  | .ok (.ret u), z => exact ⟨H2, s2, I2, z⟩
end
section
variable {P : Program} {w : World} {K : PySem.W.Frag} {mg : Str → Option Value} {base : Heap} {cV cN cP fV C fVN fVC fTo : Addr} {fdV dVN dVC dTo : FuncData} {mp : Value}
theorem ok_tdC {f : Addr} {fd : FuncData} {k : Nat} (F : Fun K "travel_days" "Travel.travel_days" sTd f fd) (T : TEv K mg cV cN cP fV fdV mp) (W : TTv K mg C fVN fVC dVN dVC) (mI : mg "int" = none) (mM : mg "min" = none) (mR : mg "range" = none) (M : Meth K C "travels_on" fTo) (U : Fun K "travels_on" "Travel.travels_on" sTo fTo dTo) :
    CFn P w K mg base (k + 2) f fd ["self", "first", "last"] (spTd K C cN) := by
  obtain ⟨oc, od, kV, doc, pm, an, cdv, ct, osl, rfl, lk, hcd⟩ := F.ex
  refine cfn_of (N := ["self", "first", "last", "day"]) lk hcd scTd ?_ fun A outer s H vs Q E pn hr h => ?_
  · rintro vs H Q E ⟨a, ln, fi, la, d, o, ds, os, rfl, _⟩
    rfl
  · obtain ⟨a, ln, fi, la, d, o, ds, os, rfl, ht, hn, q1, q2⟩ := h
    have bTo : Binds K dTo ["self", "day"] [] := U.binds (ps := ["self", "day"]) fun _ _ _ _ _ _ us hl => match us, hl with | [_, _], _ => rfl
    refine ⟨_, css_cons (cs_ps (ps_expr (pe_call (E := E) (ok_vc (k := k) W.uVC T) hr (by rfl) W.gVC W.kVC W.bVC .nil (passes_call takes_gcx (fun _ _ _ _ h => h)) (pa_cons (pv 1) (pa_cons pe_int (pa_cons (C8.pe_gc (by rfl) W.mD) pa_nil))))))
      (css_cons (cs_ps (ps_expr (pe_call (E := E) (ok_vc (k := k) W.uVC T) hr (by rfl) W.gVC W.kVC W.bVC .nil (passes_call takes_gcx (fun _ _ _ _ h => h)) (pa_cons (pv 2) (pa_cons (pv 1) (pa_cons (pe_callB (call_min2 rfl) (by rfl) mM (by decide +kernel) (pa_cons (C8.pe_gc (by rfl) W.mD) (pa_cons (pe_op op_sub (pe_op op_add (pv 1) (C8.pe_gc (by rfl) W.mY)) pe_int) pa_nil))) pa_nil))))))
      (css_cons (cs_for owns_gcx rfl (pi_range2 (by rfl) mR (pa_cons (pv 1) (pa_cons (pe_op op_add (pv 2) pe_int) pa_nil))) (pg_name (i := 3) scTd.nd rfl (.inl rfl))
        (css_cons (cs_if (pt_val (pe_meth (E := E0) (pv 0) W.cl M (ok_to (k := k) U W mI) hr bTo .nil pass0 (pa_cons (pv 3) pa_nil))) (css_cons (cs_yield (pv 3)) css_nil) css_nil) css_nil)) css_nil)), ?_⟩
    refine ⟨_, rfl, fi, 0, 1000000000000000000, rfl, fun hb H1 s1 => ?_, fun nb H1 s1 => q2 (fun ok => nb ok.1) H1 s1⟩
    refine ⟨_, rfl, _, rfl, _, rfl, _, _, rfl, rfl, _, _, rfl, rfl, _, _, rfl, la, fi, _, rfl, fun hb2 H2 s2 => ?_, fun nb H2 s2 => q2 (fun ok => nb ok.2) H2 (Same.trans s1 s2)⟩
    have ok : tdOk fi la := ⟨hb, hb2⟩
    have la1 : la ≤ 1000000000000000000 := by
      have := ok.2.2
      split at this <;> omega
    have many : (la + 1 - fi).toNat ≤ 10000 := by
      have := ok.2.2
      split at this <;> omega
    refine ⟨_, rfl, _, rfl, _, _, rfl, rfl, fi, la + 1, rfl, ⟨by omega, by omega, by omega, by omega⟩, ?_⟩
    refine gfor_rounds (I := Itr fi (la + 1 - fi).toNat) (la + 1 - fi).toNat (fun i ys σ H' => ys = (tdL ln ds os fi i).map V.int ∧ (∃ v3, σ = [some (.ref a), some (.int fi), some (.int la), v3]) ∧ Same H H') ⟨rfl, ⟨none, rfl⟩, Same.trans s1 s2⟩ ?_ ?_
    · rintro i ys σ H3 hi ⟨rfl, ⟨v3, rfl⟩, sm⟩
      refine ⟨hi, ?_⟩
      rintro x H4 ⟨rfl, rfl⟩
      have t3 := ht.same sm
      obtain ⟨dx, ha⟩ := t3.1
      refine ⟨_, rfl, a, dx, _, rfl, ha, tvF_no _ _ _ (by decide +kernel) (by decide +kernel) (by decide +kernel), _, rfl, a, ln, fi + (i : Int), d, o, ds, os, rfl, t3, hn, fun H4 s4 => ⟨_, rfl, ?_⟩⟩
      cases e : trv ln ds os (fi + (i : Int)) with
      | true =>
        refine ⟨?_, _, rfl, ?_, ⟨_, rfl⟩, Same.trans sm s4⟩
        · rw [List.length_map]
          exact small1000' (Nat.le_trans (tdL_len ..) (by omega))
        · rw [tdL_succ, if_pos e, List.map_append]
          rfl
      | false =>
        refine ⟨?_, ⟨_, rfl⟩, Same.trans sm s4⟩
        rw [tdL_succ, if_neg (by rw [e]; decide), List.append_nil]
    · rintro ys σ H3 ⟨rfl, _, sm⟩
      exact ⟨Nat.le_refl _, q1 ok H3 sm⟩
end
end Sea

set_option Elab.async false
set_option linter.all false
set_option maxRecDepth 100000
set_option maxHeartbeats 4000000
namespace Sea
open PySem PySem.Spec PyProof.Rows L2 LamX NdefX ClX Evl StX
theorem scTl : FnScope ["self"] ["self"] (defScope sTl) := ⟨rfl, rfl, rfl, by decide +kernel, rfl, by decide +kernel, by decide +kernel⟩
/-- all that the law leans on -/
structure Gd (K : PySem.W.Frag) (mg : Str → Option Value) where
  C : Addr
  CV : Addr
  CC : Addr
  ST : Addr
  CO : Addr
  cP : Addr
  cI : Addr
  cV : Addr
  cU : Addr
  cN : Addr
  fI : Addr
  fV : Addr
  fT : Addr
  fTv : Addr
  fP : Addr
  pP : Addr
  fVN : Addr
  fVC : Addr
  fRl : Addr
  pRl : Addr
  fRd : Addr
  pRd : Addr
  fEx : Addr
  pEx : Addr
  fTo : Addr
  fIs : Addr
  fCt : Addr
  fTd : Addr
  fWx : Addr
  fSt : Addr
  fNot : Addr
  fOpn : Addr
  fHol : Addr
  fAdd : Addr
  fClo : Addr
  fKno : Addr
  fVal : Addr
  fRch : Addr
  fCAt : Addr
  fCom : Addr
  fZon : Addr
  fCvI : Addr
  fCoI : Addr
  fRep : Addr
  pRep : Addr
  fRpr : Addr
  pRpr : Addr
  fCos : Addr
  fDpr : Addr
  fCut : Addr
  pTl : Addr
  fTl : Addr
  fCd : Addr
  fPar : Addr
  fUnl : Addr
  fFdi : Addr
  fMx : Addr
  fN : Addr
  fPs : Addr
  fPat : Addr
  fLc : Addr
  fTu : Addr
  eT : Addr
  mc : Value
  mp : Value
  mq : Value
  dI : FuncData
  dV : FuncData
  dT : FuncData
  dTv : FuncData
  dP : FuncData
  dVN : FuncData
  dVC : FuncData
  dRl : FuncData
  dRd : FuncData
  dEx : FuncData
  dTo : FuncData
  dIs : FuncData
  dCt : FuncData
  dTd : FuncData
  dWx : FuncData
  dSt : FuncData
  dNot : FuncData
  dOpn : FuncData
  dHol : FuncData
  dAdd : FuncData
  dClo : FuncData
  dKno : FuncData
  dVal : FuncData
  dRch : FuncData
  dCAt : FuncData
  dCom : FuncData
  dZon : FuncData
  dCvI : FuncData
  dCoI : FuncData
  dRep : FuncData
  dRpr : FuncData
  dCos : FuncData
  dDpr : FuncData
  dCut : FuncData
  dTl : FuncData
  dCd : FuncData
  dPar : FuncData
  dUnl : FuncData
  dFdi : FuncData
  dMx : FuncData
  dN : FuncData
  dPs : FuncData
  dPat : FuncData
  dLc : FuncData
  dTu : FuncData
  X : TX K mg C cI cU cP fI mc mp
  I : TMk K C fI fT dI dT
  Q : TP K C fP pP dP
  EV : TEv K mg cV cN cP fV dV mq
  ZZ : TAll K mg CV CC ST fSt fVN fVC fRl pRl fRd pRd fEx pEx fNot fTo fOpn fHol fAdd fClo fKno fVal fRch fCAt fCom dSt dVN dVC dRl dRd dEx dNot dTo dOpn dHol dAdd dClo dKno dVal dRch dCAt dCom
  TO : TCo K mg CO CC fCvI fCoI fRep pRep fRpr pRpr fCos fDpr fCut dCvI dCoI dRep dRpr dCos dDpr dCut
  CD : TCd K mg fCd dCd
  PA : TPar K mg CC fZon dZon
  UN : TUnl K mg fPar fUnl dPar dUnl
  mkV : Mk K CV fTv
  uTv : Fun K "__init__" "Travel.__init__" sTvI fTv dTv
  N : TNx K mg fN dN
  kTv : FunD K "__init__" "Travel.__init__" (defArgs sTvI) (defBody sTvI) (defScope sTvI) [] [("exceptions", V.ref eT)] fTv dTv
  eTv : ∃ (o : Obj) (n : Nat), K.lookup eT = some o ∧ o.cls = .type "tuple" ∧ o.data = .seq #[] n
  qTl : PropOf K CO "travel" pTl fTl
  uTl : Fun K "travel" "Costs.travel" sTl fTl dTl
  mIs : Meth K CV "is_travel_day" fIs
  uIs : Fun K "is_travel_day" "Travel.is_travel_day" sIs fIs dIs
  mCt : Meth K CV "count_travel_days" fCt
  uCt : Fun K "count_travel_days" "Travel.count_travel_days" sCt fCt dCt
  mTd : Meth K CV "travel_days" fTd
  uTd : Fun K "travel_days" "Travel.travel_days" sTd fTd dTd
  mWx : Meth K CV "with_exception" fWx
  uWx : Fun K "with_exception" "Travel.with_exception" sWx fWx dWx
  gFdi : mg "first_difference" = some (.ref fFdi)
  kFdi : PySem.W.keepIn K (.ref fFdi) = true
  uFdi : Fun K "first_difference" "first_difference" sFdi fFdi dFdi
  gMx : mg "_law_mix" = some (.ref fMx)
  kMx : PySem.W.keepIn K (.ref fMx) = true
  uMx : Fun K "_law_mix" "_law_mix" sMix fMx dMx
  gPs : mg "_law_passes" = some (.ref fPs)
  kPs : PySem.W.keepIn K (.ref fPs) = true
  uPs : Fun K "_law_passes" "_law_passes" sDrawn fPs dPs
  gPat : mg "_law_pattern" = some (.ref fPat)
  kPat : PySem.W.keepIn K (.ref fPat) = true
  uPat : Fun K "_law_pattern" "_law_pattern" sPat fPat dPat
  gLc : mg "_law_costs" = some (.ref fLc)
  kLc : PySem.W.keepIn K (.ref fLc) = true
  uLc : Fun K "_law_costs" "_law_costs" sLc fLc dLc
  gTu : mg "_law_is_turned" = some (.ref fTu)
  kTu : PySem.W.keepIn K (.ref fTu) = true
  uTu : Fun K "_law_is_turned" "_law_is_turned" sTu fTu dTu
  m_range : mg "range" = none
  m_tuple : mg "tuple" = none
  m_len : mg "len" = none
  m_int : mg "int" = none
  m_min : mg "min" = none
  m_max : mg "max" = none
  m_sorted : mg "sorted" = none
  m_list : mg "list" = none
section
variable {K : PySem.W.Frag} {mg : Str → Option Value}
theorem Gd.bIs (G : Gd K mg) : Binds K G.dIs ["self", "day"] [] := G.uIs.binds (ps := ["self", "day"]) fun _ _ _ _ _ _ us hl => match us, hl with | [_, _], _ => rfl
theorem Gd.bCt (G : Gd K mg) : Binds K G.dCt ["self", "count"] [] := G.uCt.binds (ps := ["self", "count"]) fun _ _ _ _ _ _ us hl => match us, hl with | [_, _], _ => rfl
theorem Gd.bTd (G : Gd K mg) : Binds K G.dTd ["self", "first", "last"] [] := G.uTd.binds (ps := ["self", "first", "last"]) fun _ _ _ _ _ _ us hl => match us, hl with | [_, _, _], _ => rfl
theorem Gd.bWx (G : Gd K mg) : Binds K G.dWx ["self", "day"] [] := G.uWx.binds (ps := ["self", "day"]) fun _ _ _ _ _ _ us hl => match us, hl with | [_, _], _ => rfl
theorem Gd.bFdi (G : Gd K mg) : Binds K G.dFdi ["one", "other"] [] := G.uFdi.binds (ps := ["one", "other"]) fun _ _ _ _ _ _ us hl => match us, hl with | [_, _], _ => rfl
theorem Gd.bMx (G : Gd K mg) : Binds K G.dMx ["_law_script", "_law_seed"] [] := G.uMx.binds (ps := ["_law_script", "_law_seed"]) fun _ _ _ _ _ _ us hl => match us, hl with | [_, _], _ => rfl
theorem Gd.bPs (G : Gd K mg) : Binds K G.dPs ["_law_h", "_law_most"] [] := G.uPs.binds (ps := ["_law_h", "_law_most"]) fun _ _ _ _ _ _ us hl => match us, hl with | [_, _], _ => rfl
theorem Gd.bPat (G : Gd K mg) : Binds K G.dPat ["_law_h", "_law_most"] [] := G.uPat.binds (ps := ["_law_h", "_law_most"]) fun _ _ _ _ _ _ us hl => match us, hl with | [_, _], _ => rfl
theorem Gd.bLc (G : Gd K mg) : Binds K G.dLc ["_law_passes_here", "_law_pattern_here", "_law_odd"] [] := G.uLc.binds (ps := ["_law_passes_here", "_law_pattern_here", "_law_odd"]) fun _ _ _ _ _ _ us hl => match us, hl with | [_, _, _], _ => rfl
theorem Gd.bTu (G : Gd K mg) : Binds K G.dTu ["_law_h", "_law_travel", "_law_other", "_law_day"] [] := G.uTu.binds (ps := ["_law_h", "_law_travel", "_law_other", "_law_day"]) fun _ _ _ _ _ _ us hl => match us, hl with | [_, _, _, _], _ => rfl
theorem Gd.bTl (G : Gd K mg) : Binds K G.dTl ["self"] [] := G.uTl.binds (ps := ["self"]) fun _ _ _ _ _ _ us hl => match us, hl with | [_], _ => rfl
theorem Gd.bRp (G : Gd K mg) : Binds K G.dRpr ["self"] [] := G.TO.uP.binds (ps := ["self"]) fun _ _ _ _ _ _ us hl => match us, hl with | [_], _ => rfl
theorem Gd.bRe (G : Gd K mg) : Binds K G.dRep ["self"] [] := G.TO.uR.binds (ps := ["self"]) fun _ _ _ _ _ _ us hl => match us, hl with | [_], _ => rfl
theorem Gd.bCo (G : Gd K mg) : Binds K G.dCos ["self", "count"] [] := G.TO.uC.binds (ps := ["self", "count"]) fun _ _ _ _ _ _ us hl => match us, hl with | [_, _], _ => rfl
theorem Gd.bDp (G : Gd K mg) : Binds K G.dDpr ["self", "day"] [] := G.TO.uD.binds (ps := ["self", "day"]) fun _ _ _ _ _ _ us hl => match us, hl with | [_, _], _ => rfl
/-- Travel(a, b): the exceptions lack -/
theorem Gd.bTv0 (G : Gd K mg) : ∃ ds, Vals [V.ref G.eT] ds ∧ Binds K G.dTv ["self", "length", "days", "exceptions"] ds :=
  G.kTv.binds0 (ps := ["self", "length", "days", "exceptions"]) 3 (by simp) rfl fun D doc pm an cdv ct us ks l1 l2 => match us, ks, l1, l2 with
    | [u, v, x], [y], _, _ => ⟨_, _, _, _, _, _, rfl, rfl, rfl⟩
theorem Gd.nil (G : Gd K mg) (H : Hp) : TiA K H (.ref G.eT) [] := by
  obtain ⟨o, n, h1, h2, h3⟩ := G.eTv
  exact ⟨_, rfl, .inr ⟨o, #[], n, h1, h2, h3, Nat.zero_le _, .nil⟩⟩
end
section
variable {X : Cx} {e : Expr} {te : TE} {pos : Pos}
/-- costs.travel -/
theorem pe_tl (G : Gd X.K X.mg) (hr : Room 2 X.A) (he : PE X e te) (hab : attributeBase e "travel" X.env (eval e X.env) = eval e X.env := by rfl) : PE X (.Attribute e "travel" pos) (tProp G.CO (getSp G.CO "trips") [] E0 te) := by
  obtain ⟨oc, od, kV, doc, pm, an, cdv, ct, osl, h, lk, hcd⟩ := G.uTl.ex
  have b := G.bTl
  rw [h] at b lk
  exact pe_prop he G.TO.cl G.qTl (fn_getter (k := 0) lk hcd scTl rfl rfl G.TO.cl G.TO.nT) hr b .nil pass0 hab
end
end Sea

set_option Elab.async false
set_option linter.all false
set_option maxRecDepth 100000
set_option maxHeartbeats 4000000
/-! _law_is_turned -/
namespace Sea
open PySem PySem.Spec PyProof.Rows L2 LamX NdefX ClX Evl StX
abbrev NTu : List Str := ["_law_h", "_law_travel", "_law_other", "_law_day", "_law_some", "_law_more", "_law_count", "_law_turned", "_law_first", "_law_last", "_law_days", "_law_due", "_law_one"]
theorem scTu : FnScope NTu ["_law_h", "_law_travel", "_law_other", "_law_day"] (defScope sTu) := ⟨rfl, rfl, rfl, by decide +kernel, rfl, by decide +kernel, by decide +kernel⟩
def spTu (K : PySem.W.Frag) (C : Addr) : Sp := fun vs H Q _ => ∃ (h c a b : Addr) (day : Nat) (ln : Int) (d o o2 : V) (ds os xs : List Int), vs = [.ref h, .ref a, .ref b, .int day] ∧ Dr H h c ∧ Tv K C H a ln d o ds os ∧ Tv K C H b ln d o2 ds xs ∧ TvOk ln ds os ∧ TvOk ln ds xs ∧ os.length ≤ 6 ∧ xs.length ≤ 6 ∧ (day : Int) < 1000000000000000000 ∧ Wex os (day : Int) xs ∧
  ∀ H', Dr H' h c → Kp h c H H' → Q (.bl true) H'
structure TuI (K : PySem.W.Frag) (C h c a b : Addr) (ln : Int) (d o o2 : V) (ds os xs : List Int) (H0 H : Hp) : Prop where
  t1 : Tv K C H a ln d o ds os
  t2 : Tv K C H b ln d o2 ds xs
  hd : Dr H h c
  hk : Kp h c H0 H
section
variable {K : PySem.W.Frag} {C h c a b : Addr} {ln : Int} {d o o2 : V} {ds os xs : List Int} {H0 H H' : Hp} {σ : L2.St} {te tx ta tb : TE} {t : TT}
theorem TuI.same (x : TuI K C h c a b ln d o o2 ds os xs H0 H) (e : Ex H H') : TuI K C h c a b ln d o o2 ds os xs H0 H' := ⟨x.t1.same e, x.t2.same e, x.hd.same e, x.hk.trans (.same e)⟩
theorem TuI.kp (x : TuI K C h c a b ln d o o2 ds os xs H0 H) (d' : Dr H' h c) (k' : Kp h c H H') : TuI K C h c a b ln d o o2 ds os xs H0 H' := ⟨x.t1.kp x.hd k', x.t2.kp x.hd k', d', x.hk.trans k'⟩
theorem ed_if {b : Bool} {R : V → Hp → Prop} (h : EvT t σ H b) (h1 : b = true → EvD ta σ H R) (h2 : b = false → EvD tb σ H R) : EvD (tIf t ta tb) σ H R := fun H1 e Q q => h H1 e _ fun H2 e2 => by
  cases b with
  | true => exact iteT (h1 rfl H2 (e.trans e2) Q fun v H3 e3 => q v H3 (e2.trans e3))
  | false => exact iteF (h2 rfl H2 (e.trans e2) Q fun v H3 e3 => q v H3 (e2.trans e3))
theorem el_catV {p : Addr} {us ys : List V} (h1 : Ev ta σ H (.ref p)) (hp : H p = some (.lst us)) (h2 : EvL tb σ H ys) (few : us.length + ys.length ≤ 1000) : EvL (tOp rCat ta tb) σ H (us ++ ys) := fun H1 e Q q =>
  h1 H1 e _ fun H2 e2 => h2 H2 (e.trans e2) _ fun r H3 nr e3 hr => ⟨p, r, us, ys, rfl, rfl, (e.trans (e2.trans e3)) _ _ hp, hr, Nat.le_of_lt (small1000 few), fun l nl => q l _ (fresh_back (e2.trans e3) nl) ((e2.trans e3).trans (Ex.new nl)) upd_same⟩
theorem edp_list {ns : List Int} (h : EvL te σ H (ns.map V.int)) : EvDp K te σ H (.list (ns.map PyData.int)) := fun H1 e Q q => h H1 e _ fun p H2 np e2 hp => q (.ref p) H2 e2 (.lst (.of hp) (intsDp ns))
theorem tups_sh (ns : List Int) : SeqAt.shaped (.tuple (ns.map PyData.int)) = true := by
  show (PyData.canLayAll0 (ns.map PyData.int) && decide (PyData.depthAll (ns.map PyData.int) + 1 ≤ 64)) = true
  rw [ints_lay, ints_dep]
  rfl
/-- travel.exceptions -/
theorem edp_ex {i : Nat} (hs : σ[i]? = some (some (.ref a))) (ht : Tv K C H a ln d o ds os) : EvDp K (tProp C (getSp C "odd_days") [] E0 (tVar i)) σ H (.tuple (os.map PyData.int)) := fun H1 e Q q => by
  obtain ⟨⟨dx, ha⟩, _, p, rfl, hp⟩ := ht.same e
  exact ⟨.ref a, hs, a, dx, _, rfl, ha, a, dx, _, _, rfl, ha, tvF_odd .., q _ H1 (Ex.refl _) (.tup hp (intsDp _))⟩
/-- travel.with_exception(day).exceptions -/
theorem edp_wx {i : Nat} {cV cN : Addr} {day : Nat} (hs : σ[i]? = some (some (.ref b))) (hx : Ev tx σ H (.int (day : Int))) (ht : Tv K C H b ln d o2 ds xs) (ok : TvOk ln ds xs) (go : Good os 1000000000000000000) (few : xs.length ≤ 6) (few2 : os.length ≤ 6) (hd : (day : Int) < 1000000000000000000) (wx : Wex os (day : Int) xs) :
    EvDp K (tProp C (getSp C "odd_days") [] E0 (tMeth C "with_exception" (spWx K C cV cN) [] E0 (tVar i) (tCons tx tNil))) σ H (.tuple (os.map PyData.int)) := fun H1 e Q q => by
  have t1 := ht.same e
  obtain ⟨dx, hb⟩ := t1.1
  refine ⟨_, hs, b, dx, _, rfl, hb, tvF_no _ _ _ (by decide +kernel) (by decide +kernel) (by decide +kernel), hx H1 e _ fun H2 e2 => ?_⟩
  refine ⟨b, ln, _, d, o2, ds, xs, rfl, t1.same e2, ok, few, fun _ ys wy => ?_, fun nb => absurd ⟨Int.natCast_nonneg _, Int.le_of_lt hd⟩ nb⟩
  obtain rfl := Wex.back go (Int.natCast_nonneg _) (Int.le_of_lt hd) wx wy
  refine ⟨fun _ a' o' H' s t => ?_, fun no => absurd few2 (by omega)⟩
  obtain ⟨⟨dy, ha⟩, _, p, rfl, hp⟩ := t
  exact ⟨a', dy, _, rfl, ha, a', dy, _, _, rfl, ha, tvF_odd .., q _ H' (Same.trans e2 s) (.tup hp (intsDp _))⟩
end
section
variable {P : Program} {w : World} {K : PySem.W.Frag} {mg : Str → Option Value} {base : Heap}
theorem ok_tu {f : Addr} {fd : FuncData} {k : Nat} (F : Fun K "_law_is_turned" "_law_is_turned" sTu f fd) (G : Gd K mg) : FnOk P w K mg base CX0 (k + 8) f fd ["_law_h", "_law_travel", "_law_other", "_law_day"] (spTu K G.CV) := by
  refine F.ok scTu (fun vs H Q E h => ?_) (fun cdv A outer s H vs Q E hr h => ?_)
  · obtain ⟨h, c, a, b, day, ln, d, o, o2, ds, os, xs, rfl, _⟩ := h
    rfl
  · have h1 := hr.mono (show 1 ≤ k + 7 by omega)
    have h2 := hr.mono (show 2 ≤ k + 7 by omega)
    have h3 := hr.mono (show 3 ≤ k + 7 by omega)
    have h7 := hr.mono (show 7 ≤ k + 7 by omega)
    have hu := hr.units
    refine ⟨_, pss_cut (ps_if (pt_cmpR op_eq (pe_meth (E := E0) (pv 1) G.ZZ.TV.cl G.mIs (ok_is (k := 0) G.uIs G.EV G.ZZ.TV G.m_int G.ZZ.M.mT G.ZZ.M.uT) h2 G.bIs .nil passL (pa_cons (pv 3) pa_nil)) (pe_meth (E := E0) (pv 2) G.ZZ.TV.cl G.mIs (ok_is (k := 0) G.uIs G.EV G.ZZ.TV G.m_int G.ZZ.M.mT G.ZZ.M.uT) h2 G.bIs .nil passL (pa_cons (pv 3) pa_nil)) (nomark _)) (pss_one (ps_ret pe_bl)) pss_nil)
      (pss_cut (ps_if (pt_cmpR (op_neD hu) (pe_ex G.ZZ.RR G.ZZ.TV h2 (pe_meth (E := E0) (pv 2) G.ZZ.TV.cl G.mWx (ok_wx G.uWx G.EV G.ZZ.TV G.m_tuple G.m_sorted G.m_len G.mkV G.uTv) h7 G.bWx .nil passL (pa_cons (pv 3) pa_nil))) (pe_ex G.ZZ.RR G.ZZ.TV h2 (pv 1)) (nomark _)) (pss_one (ps_ret pe_bl)) pss_nil)
      (pss_cut (ps_set (i := 4) scTu.nd rfl (.inl rfl) (pe_lst (pa_cons (pe_callB (call_max2 rfl) (by rfl) G.m_max (by decide +kernel) (pa_cons pe_int (pa_cons (pe_op op_sub (pe_op op_sub (pv 3) pe_int) (pe_next G.N h1 (by rfl) (pv 0) pe_int)) pa_nil))) (pa_cons (pe_callB (call_min2 rfl) (by rfl) G.m_min (by decide +kernel) (pa_cons (pe_op op_pow pe_int pe_int) (pa_cons (pe_op op_add (pe_op op_add (pv 3) pe_int) (pe_next G.N h1 (by rfl) (pv 0) pe_int)) pa_nil))) pa_nil))))
      (pss_cut (ps_if (pt_cmpR (op_neD hu) (pe_lc (own := [("_law_one", 12)]) (g := gName 12) (by rfl) scTu.nd (pi_list (pv 4)) (blkOk_by (own := [("_law_one", 12)]) (N := NTu) (sc := defScope sTu) (by decide +kernel)) (fun _ _ _ _ _ => pg_name (i := 12) scTu.nd rfl (Or.inl rfl))
          (fun _ _ _ _ _ => pts_one (PW.pt (pw_and (pt_cmpR op_ne (pv 12) (pv 3) (nomark _)) (pw_and1 (pt_cmpR op_ne (pe_meth (E := E0) (pv 1) G.ZZ.TV.cl G.mIs (ok_is (k := 0) G.uIs G.EV G.ZZ.TV G.m_int G.ZZ.M.mT G.ZZ.M.uT) h2 G.bIs .nil passL (pa_cons (pv 12) pa_nil)) (pe_meth (E := E0) (pv 2) G.ZZ.TV.cl G.mIs (ok_is (k := 0) G.uIs G.EV G.ZZ.TV G.m_int G.ZZ.M.mT G.ZZ.M.uT) h2 G.bIs .nil passL (pa_cons (pv 12) pa_nil)) (nomark _)))))) (fun _ _ _ _ _ => pv 12)) (pe_lst pa_nil) (nomark _)) (pss_one (ps_ret pe_bl)) pss_nil)
      (pss_cut (ps_set (i := 5) scTu.nd rfl (.inl rfl) (pe_ifExp (pt_val (pe_meth (E := E0) (pv 2) G.ZZ.TV.cl G.mIs (ok_is (k := 0) G.uIs G.EV G.ZZ.TV G.m_int G.ZZ.M.mT G.ZZ.M.uT) h2 G.bIs .nil passL (pa_cons (pv 3) pa_nil))) pe_int (pe_op op_sub pe_int pe_int)))
      (pss_cut (ps_for PassesOwn.never rfl (pi_tup (pe_tup (pa_cons (pv 3) (pa_cons (pe_callB (call_min2 rfl) (by rfl) G.m_min (by decide +kernel) (pa_cons (pe_op op_pow pe_int pe_int) (pa_cons (pe_op op_add (pv 3) pe_int) pa_nil))) (pa_cons (pe_op op_pow pe_int pe_int) (pa_cons (pe_next G.N h1 (by rfl) (pv 0) (pe_op op_pow pe_int pe_int)) pa_nil)))))) (pg_name (i := 6) scTu.nd rfl (.inl rfl))
        (pss_cut (ps_set (i := 7) scTu.nd rfl (.inl rfl) (pe_ifExp (pt_cmpR op_gt (pv 6) (pv 3) (nomark _)) (pv 5) pe_int))
          (pss_one (ps_if (pt_cmpR op_ne (pe_meth (E := E0) (pv 2) G.ZZ.TV.cl G.mCt (ok_ct (k := 0) G.uCt G.EV G.ZZ.TV G.m_int G.m_len) h2 G.bCt .nil passL (pa_cons (pv 6) pa_nil)) (pe_op op_add (pe_meth (E := E0) (pv 1) G.ZZ.TV.cl G.mCt (ok_ct (k := 0) G.uCt G.EV G.ZZ.TV G.m_int G.m_len) h2 G.bCt .nil passL (pa_cons (pv 6) pa_nil)) (pv 7)) (nomark _)) (pss_one (ps_ret pe_bl)) pss_nil))))
      (pss_cut (ps_par (i := 8) (j := 9) (by rfl) scTu.nd rfl rfl (by decide) rfl rfl (pa_cons (pe_callB (call_max2 rfl) (by rfl) G.m_max (by decide +kernel) (pa_cons pe_int (pa_cons (pe_op op_sub (pv 3) pe_int) pa_nil))) (pa_cons (pe_callB (call_min2 rfl) (by rfl) G.m_min (by decide +kernel) (pa_cons (pe_op op_pow pe_int pe_int) (pa_cons (pe_op op_add (pv 3) pe_int) pa_nil))) pa_nil)) (by rfl))
      (pss_cut (ps_setLcG (i := 10) (own := [("_law_one", 12)]) scTu.nd rfl rfl (sw_true rfl rfl rfl (by decide +kernel)) (pcgen_meth (pv 1) G.ZZ.TV.cl G.mTd (ok_tdC (k := 0) G.uTd G.EV G.ZZ.TV G.m_int G.m_min G.m_range G.ZZ.M.mT G.ZZ.M.uT) h2 G.bTd .nil (pa_cons (pv 8) (pa_cons (pv 9) pa_nil))) h3 (blkOk_by (own := [("_law_one", 12)]) (N := NTu) (sc := defScope sTu) (by decide +kernel)) (by rfl))
      (pss_cut (ps_set (i := 11) scTu.nd rfl (.inl rfl) (pe_ifExp (pt_cmpR op_eq (pv 5) pe_int (nomark _)) (pe_callB cr_sortedI (by rfl) G.m_sorted (by decide +kernel) (pa_cons (pe_op op_cat (pv 10) (pe_lst (pa_cons (pv 3) pa_nil))) pa_nil))
          (pe_lc (own := [("_law_one", 12)]) (g := gName 12) (by rfl) scTu.nd (pi_list (pv 10)) (blkOk_by (own := [("_law_one", 12)]) (N := NTu) (sc := defScope sTu) (by decide +kernel)) (fun _ _ _ _ _ => pg_name (i := 12) scTu.nd rfl (Or.inl rfl)) (fun _ _ _ _ _ => pts_one (pt_cmpR op_ne (pv 12) (pv 3) (nomark _))) (fun _ _ _ _ _ => pv 12))))
      (pss_one (ps_ret (pe_cmpR (op_eqD hu) (pe_lcG (own := [("_law_one", 12)]) (pcgen_meth (pv 2) G.ZZ.TV.cl G.mTd (ok_tdC (k := 0) G.uTd G.EV G.ZZ.TV G.m_int G.m_min G.m_range G.ZZ.M.mT G.ZZ.M.uT) h2 G.bTd .nil (pa_cons (pv 8) (pa_cons (pv 9) pa_nil))) h3 (blkOk_by (own := [("_law_one", 12)]) (N := NTu) (sc := defScope sTu) (by decide +kernel)) (by rfl)) (pv 11) (nomark _)))))))))))), ?_⟩
    obtain ⟨h, c, a, b, day, ln, d, o, o2, ds, os, xs, rfl, dr, ht1, ht2, ok1, ok2, few1, few2, dl, wx, q⟩ := h
    have x0 : TuI K G.CV h c a b ln d o o2 ds os xs H H := ⟨ht1, ht2, dr, .refl⟩
    have d0 : (0 : Int) ≤ (day : Int) := Int.natCast_nonneg _
    have rng : (0 : Int) ≤ (day : Int) ∧ (day : Int) ≤ 1000000000000000000 := ⟨d0, Int.le_of_lt dl⟩
    have te := trv_eq (ln := ln) (ds := ds) wx
    have tn : ∀ {w : Int}, w ≠ (day : Int) → trv ln ds xs w = trv ln ds os w := fun n => trv_ne wx n
    have l1 := ok1.l1
    refine ⟨fun σ H' => σ = ([some (.ref h), some (.ref a), some (.ref b), some (.int (day : Int)), none, none, none, none, none, none, none, none, none] : L2.St) ∧ TuI K G.CV h c a b ln d o o2 ds os xs H H', ?_, ?_⟩
    · refine s_when (b := false) (et_is (et_test (ev_op (ev_is_td rfl ht1 ok1 rng (ev_var rfl)) (ev_is_td rfl ht2 ok2 rng (ev_var rfl)) (rv_eq rfl))) ?_) (fun z => by cases z) fun _ H1 e1 => ⟨rfl, x0.same e1⟩
      rw [te]
      cases trv ln ds os (day : Int) <;> rfl
    rintro σ H1 ⟨rfl, x1⟩
    refine ⟨fun σ H' => σ = ([some (.ref h), some (.ref a), some (.ref b), some (.int (day : Int)), none, none, none, none, none, none, none, none, none] : L2.St) ∧ TuI K G.CV h c a b ln d o o2 ds os xs H H', ?_, ?_⟩
    · exact s_when (b := false) (et_same (edp_wx rfl (ev_var rfl) x1.t2 ok2 ok1.go few2 few1 dl wx) (edp_ex rfl x1.t1) (tups_sh os)) (fun z => by cases z) fun _ H2 e2 => ⟨rfl, x1.same e2⟩
    rintro σ H2 ⟨rfl, x2⟩
    refine ⟨fun σ H' => ∃ (p : Addr) (u v : Int), (0 ≤ u ∧ u ≤ 1000000000000000000) ∧ (0 ≤ v ∧ v ≤ 1000000000000000000) ∧ σ = ([some (.ref h), some (.ref a), some (.ref b), some (.int (day : Int)), some (.ref p), none, none, none, none, none, none, none, none] : L2.St) ∧ TuI K G.CV h c a b ln d o o2 ds os xs H H' ∧ H' p = some (.lst [.int u, .int v]), ?_, ?_⟩
    · refine ⟨_, rfl, _, _, rfl, rfl, _, rfl, h, c, 20, rfl, by decide, by decide, x2.hd, fun y H3 y0 y1 d3 k3 => ⟨_, _, rfl, rfl, _, _, rfl, _, _, rfl, rfl, ⟨by decide, by decide, by decide⟩, _, rfl, _, _, rfl, rfl, _, rfl, h, c, 20, rfl, by decide, by decide, d3, fun z H4 z0 z1 d4 k4 => ⟨_, _, rfl, rfl, _, _, rfl, ?_⟩⟩⟩
      refine ⟨Nat.le_of_lt (small1000 (show 2 ≤ 1000 by decide)), fun p np => ⟨p, _, _, ?_, ?_, rfl, ((x2.kp d3 k3).kp d4 k4).same (Ex.new np), upd_same⟩⟩
      · split <;> omega
      · rw [pw18]
        split <;> omega
    rintro σ H3 ⟨p, u, v, ru, rv, rfl, x3, hp⟩
    refine ⟨fun σ H' => σ = ([some (.ref h), some (.ref a), some (.ref b), some (.int (day : Int)), some (.ref p), none, none, none, none, none, none, none, none] : L2.St) ∧ TuI K G.CV h c a b ln d o o2 ds os xs H H', ?_, ?_⟩
    · have eL := el_lcL (K := K) (a := p) (xs := [.int u, .int v]) (tl := tVar 4) (te := tVar 12) (t := tAnd (tTest (tOp rNe (tVar 12) (tVar 3))) (tTest (tOp rNe (tMeth G.CV "is_travel_day" (spIs K G.CV G.cN) [] E0 (tVar 1) (tCons (tVar 12) tNil)) (tMeth G.CV "is_travel_day" (spIs K G.CV G.cN) [] E0 (tVar 2) (tCons (tVar 12) tNil))))) (j := 12) (vs := [12])
        (σ := ([some (.ref h), some (.ref a), some (.ref b), some (.int (day : Int)), some (.ref p), none, none, none, none, none, none, none, none] : L2.St)) (H := H3)
        (fun _ => false) (fun _ => .non) (ev_var rfl) (.of hp) (show 2 ≤ 40000 by decide) (fun _ => rfl) (fun i x H4 e4 hx => by
          obtain ⟨w, rfl, rw⟩ : ∃ w : Int, x = .int w ∧ 0 ≤ w ∧ w ≤ 1000000000000000000 := by
            match i, hx with
            | 0, hx => cases hx; exact ⟨u, rfl, ru⟩
            | 1, hx => cases hx; exact ⟨v, rfl, rv⟩
          have x4 := x3.same e4
          refine et_is (et_and (a := !decide (V.int w = V.int (day : Int))) (b := false) (et_test (ev_op (ev_var rfl) (ev_var rfl) (rv_ne rfl))) fun hne => ?_) (Bool.and_false _)
          refine et_is (et_test (ev_op (ev_is_td rfl x4.t1 ok1 rw (ev_var rfl)) (ev_is_td rfl x4.t2 ok2 rw (ev_var rfl)) (rv_ne rfl))) ?_
          have hne : w ≠ (day : Int) := fun z => by
            rw [z, decide_eq_true rfl] at hne
            cases hne
          rw [tn hne, decide_eq_true rfl]
          rfl) (fun i x H4 e4 hx hf => by cases hf)
      exact s_when (b := false) (et_same (edp_list (ns := []) eL) (edp_lst eda_nil (by decide)) (ints_sh [])) (fun z => by cases z) fun _ H4 e4 => ⟨rfl, x3.same e4⟩
    rintro σ H4 ⟨rfl, x4⟩
    refine ⟨fun σ H' => σ = ([some (.ref h), some (.ref a), some (.ref b), some (.int (day : Int)), some (.ref p), some (.int (if trv ln ds xs (day : Int) = true then 1 else -1)), none, none, none, none, none, none, none] : L2.St) ∧ TuI K G.CV h c a b ln d o o2 ds os xs H H', ?_, ?_⟩
    · refine s_asg (v := .int (if trv ln ds xs (day : Int) = true then 1 else -1)) (ev_if (et_B (ev_is_td rfl x4.t2 ok2 rng (ev_var rfl))) (fun hb => ?_) (fun hb => ?_)) fun H5 e5 => ⟨rfl, x4.same e5⟩
      · rw [if_pos hb]
        exact ev_c
      · rw [if_neg (by rw [hb]; decide)]
        exact ev_op ev_c ev_c rv_I0
    rintro σ H5 ⟨rfl, x5⟩
    refine ⟨fun σ H' => ∃ v6 v7 : Option V, σ = ([some (.ref h), some (.ref a), some (.ref b), some (.int (day : Int)), some (.ref p), some (.int (if trv ln ds xs (day : Int) = true then 1 else -1)), v6, v7, none, none, none, none, none] : L2.St) ∧ TuI K G.CV h c a b ln d o o2 ds os xs H H', ?_, ?_⟩
    · refine ⟨_, rfl, _, _, rfl, rfl, ⟨by decide, by decide, by decide⟩, _, rfl, _, _, rfl, rfl, _, _, rfl, _, _, rfl, rfl, ⟨by decide, by decide, by decide⟩, _, rfl, _, _, rfl, rfl, ⟨by decide, by decide, by decide⟩, h, c, _, rfl, by decide +kernel, by decide +kernel, x5.hd, fun y H6 y0 y1 d6 k6 => ?_⟩
      refine ⟨Nat.le_of_lt (small1000 (show 4 ≤ 1000 by decide)), fun r nr => ?_⟩
      dsimp only
      rw [pw18] at y1 ⊢
      generalize hN : [(day : Int), if (day : Int) + 1 < 1000000000000000000 then (day : Int) + 1 else 1000000000000000000, 1000000000000000000, y] = ns
      have hV : ([V.int (day : Int), V.int (if (day : Int) + 1 < 1000000000000000000 then (day : Int) + 1 else 1000000000000000000), V.int 1000000000000000000, V.int y] : List V) = ns.map V.int := by rw [← hN]; rfl
      have rn : ∀ w ∈ ns, 0 ≤ w ∧ w ≤ 1000000000000000000 := fun w hw => by
        rw [← hN] at hw
        simp only [List.mem_cons, List.not_mem_nil, or_false] at hw
        rcases hw with z | z | z | z
        · omega
        · rw [z]
          split <;> omega
        · omega
        · omega
      rw [hV]
      have x7 := (x5.kp d6 k6).same (Ex.new (o := HO.tup (ns.map V.int)) nr)
      have hr7 : (upd H6 r (HO.tup (ns.map V.int))) r = some (.tup (ns.map V.int)) := upd_same
      revert x7 hr7
      generalize upd H6 r (HO.tup (ns.map V.int)) = H7
      intro x7 hr7
      refine ⟨r, rfl, ⟨_, .of hr7⟩, for_tup (K := K) (a := r) (xs := ns.map V.int) (D := { nx := fun σ H' => ∃ v6 v7 : Option V, σ = ([some (.ref h), some (.ref a), some (.ref b), some (.int (day : Int)), some (.ref p), some (.int (if trv ln ds xs (day : Int) = true then 1 else -1)), v6, v7, none, none, none, none, none] : L2.St) ∧ TuI K G.CV h c a b ln d o o2 ds os xs H H', rt := Q }) (fun i σ H' => (∃ v6 v7 : Option V, σ = ([some (.ref h), some (.ref a), some (.ref b), some (.int (day : Int)), some (.ref p), some (.int (if trv ln ds xs (day : Int) = true then 1 else -1)), v6, v7, none, none, none, none, none] : L2.St)) ∧ TuI K G.CV h c a b ln d o o2 ds os xs H H' ∧ SqT K H' r (ns.map V.int))
        ⟨⟨none, none, rfl⟩, x7, .of hr7⟩ (fun i σ' H' _ ⟨_, _, hs⟩ => hs) ?_ ?_⟩
      · rintro i x σ' H' hx ⟨⟨v6, v7, rfl⟩, x8, hs⟩
        obtain ⟨w, hw, rfl⟩ := List.mem_map.mp (List.mem_of_getElem? hx)
        have rw_ := rn w hw
        obtain ⟨n, rfl⟩ := Int.eq_ofNat_of_zero_le rw_.1
        refine ⟨fun σ H' => σ = ([some (.ref h), some (.ref a), some (.ref b), some (.int (day : Int)), some (.ref p), some (.int (if trv ln ds xs (day : Int) = true then 1 else -1)), some (.int (n : Int)), some (.int (if day < n then (if trv ln ds xs (day : Int) = true then 1 else -1) else 0)), none, none, none, none, none] : L2.St) ∧ TuI K G.CV h c a b ln d o o2 ds os xs H H' ∧ SqT K H' r (ns.map V.int), ?_, ?_⟩
        · refine s_asg (v := .int (if day < n then (if trv ln ds xs (day : Int) = true then 1 else -1) else 0)) (ev_if (b := decide ((n : Int) > (day : Int))) (et_test (ev_op (ev_var rfl) (ev_var rfl) rv_I0)) (fun hb => ?_) (fun hb => ?_)) fun H9 e9 => ⟨rfl, x8.same e9, ex_t e9 hs⟩
          · have hb := of_decide_eq_true hb
            rw [if_pos (show day < n by omega)]
            exact ev_var rfl
          · have hb := of_decide_eq_false hb
            rw [if_neg (show ¬ day < n by omega)]
            exact ev_c
        · rintro σ2 H9 ⟨rfl, x9, hs9⟩
          refine s_when (b := false) (et_is (et_test (ev_op (ev_ct (n := (n : Int)) rfl x9.t2 ok2 rw_ (ev_var rfl)) (ev_op (ev_ct (n := (n : Int)) rfl x9.t1 ok1 rw_ (ev_var rfl)) (ev_var rfl) rv_I0) (rv_ne rfl))) ?_) (fun z => by cases z) fun _ H10 e10 => ⟨⟨_, _, rfl⟩, x9.same e10, ex_t e10 hs9⟩
          rw [ct_turn ok1 ok2 wx n, decide_eq_true rfl]
          rfl
      · rintro σ' H' ⟨⟨v6, v7, rfl⟩, x8, _⟩
        exact ⟨v6, v7, rfl, x8⟩
    rintro σ H6 ⟨v6, v7, rfl, x6⟩
    generalize hfi : (if (day : Int) - 9 > 0 then (day : Int) - 9 else 0) = fi
    generalize hla : (if (day : Int) + 9 < 1000000000000000000 then (day : Int) + 9 else 1000000000000000000) = la
    have bf : 0 ≤ fi ∧ fi ≤ (day : Int) ∧ (day : Int) ≤ fi + 9 := by
      rw [← hfi]
      split <;> omega
    have bl : (day : Int) ≤ la ∧ la ≤ (day : Int) + 9 ∧ la ≤ 1000000000000000000 := by
      rw [← hla]
      split <;> omega
    have tok : tdOk fi la := ⟨⟨bf.1, by omega⟩, by omega, by split <;> omega⟩
    refine ⟨fun σ H' => σ = ([some (.ref h), some (.ref a), some (.ref b), some (.int (day : Int)), some (.ref p), some (.int (if trv ln ds xs (day : Int) = true then 1 else -1)), v6, v7, some (.int fi), some (.int la), none, none, none] : L2.St) ∧ TuI K G.CV h c a b ln d o o2 ds os xs H H', ?_, ?_⟩
    · refine ea_cons (ev_is (ev_max2 ev_c (ev_op (ev_var rfl) ev_c rv_I0)) (by rw [hfi])) (ea_cons (ev_is (ev_min2 (ev_pw ev_c ev_c ⟨by decide, by decide, by decide⟩) (ev_op (ev_var rfl) ev_c rv_I0)) (by rw [pw18, hla])) ea_nil) H6 (Ex.refl _) _ fun H7 e7 => ⟨_, _, rfl, rfl, x6.same e7⟩
    rintro σ H7 ⟨rfl, x7⟩
    have nn : (la + 1 - fi).toNat ≤ 19 := by omega
    have tlen := tdL_len ln ds os fi (la + 1 - fi).toNat
    refine ⟨fun σ H' => ∃ r : Addr, σ = ([some (.ref h), some (.ref a), some (.ref b), some (.int (day : Int)), some (.ref p), some (.int (if trv ln ds xs (day : Int) = true then 1 else -1)), v6, v7, some (.int fi), some (.int la), some (.ref r), none, none] : L2.St) ∧ TuI K G.CV h c a b ln d o o2 ds os xs H H' ∧ H' r = some (.lst ((tdL ln ds os fi (la + 1 - fi).toNat).map V.int)), ?_, ?_⟩
    · exact s_asgL (el_tdC rfl x7.t1 l1 tok (ev_var rfl) (ev_var rfl)) fun r H8 nr e8 hr => ⟨r, rfl, x7.same e8, hr⟩
    rintro σ H8 ⟨r, rfl, x8, hr⟩
    refine ⟨fun σ H' => ∃ v : V, σ = ([some (.ref h), some (.ref a), some (.ref b), some (.int (day : Int)), some (.ref p), some (.int (if trv ln ds xs (day : Int) = true then 1 else -1)), v6, v7, some (.int fi), some (.int la), some (.ref r), some v, none] : L2.St) ∧ TuI K G.CV h c a b ln d o o2 ds os xs H H' ∧ LiA K H' v (tdL ln ds xs fi (la + 1 - fi).toNat), ?_, ?_⟩
    · have eD : EvD (tIf (tTest (tOp rEq (tVar 5) (tC (.int 1)))) (tCB (rSortedI K) (tCons (tOp rCat (tVar 10) (tLst (tCons (tVar 3) tNil))) tNil)) (tLc (iList K (tVar 10)) (gName 12) (tTest (tOp rNe (tVar 12) (tVar 3))) (tVar 12) [12])) ([some (.ref h), some (.ref a), some (.ref b), some (.int (day : Int)), some (.ref p), some (.int (if trv ln ds xs (day : Int) = true then 1 else -1)), v6, v7, some (.int fi), some (.int la), some (.ref r), none, none] : L2.St) H8 fun v H => LiA K H v (tdL ln ds xs fi (la + 1 - fi).toNat) := by
        refine ed_if (b := trv ln ds xs (day : Int)) (et_is (et_test (ev_op (ev_var rfl) ev_c (rv_eq rfl))) ?_) (fun ht => ?_) (fun ht => ?_)
        · cases trv ln ds xs (day : Int) <;> rfl
        · have eC := el_catV (p := r) (ta := tVar 10) (tb := tLst (tCons (tVar 3) tNil)) (σ := ([some (.ref h), some (.ref a), some (.ref b), some (.int (day : Int)), some (.ref p), some (.int (if trv ln ds xs (day : Int) = true then 1 else -1)), v6, v7, some (.int fi), some (.int la), some (.ref r), none, none] : L2.St)) (H := H8) (us := (tdL ln ds os fi (la + 1 - fi).toNat).map V.int) (ys := [(day : Int)].map V.int) (ev_var rfl) hr (el_lst (ea_cons (ev_var rfl) ea_nil) (show 1 ≤ 100000 by decide)) (by rw [List.length_map]; show _ + 1 ≤ 1000; omega)
          rw [← List.map_append] at eC
          refine ei_imp (ei_sortL (ei_lst eC)) fun v H ⟨ms, pm, rs, hl⟩ => ?_
          rw [tdL_on wx ht bf.2.1 (by omega) pm rs]
          exact hl
        · have item : ∀ (i : Nat) (x : V), ((tdL ln ds os fi (la + 1 - fi).toNat).map V.int)[i]? = some x → x = .int ((tdL ln ds os fi (la + 1 - fi).toNat).getD i 0) := fun i x hx => by
            rw [List.getElem?_map] at hx
            cases hi : (tdL ln ds os fi (la + 1 - fi).toNat)[i]? with
            | none =>
              rw [hi] at hx
              cases hx
            | some y =>
              rw [hi] at hx
              cases hx
              rw [List.getD_eq_getElem?_getD, hi]
              rfl
          have eL := el_lcL (K := K) (tl := tVar 10) (te := tVar 12) (t := tTest (tOp rNe (tVar 12) (tVar 3))) (j := 12) (vs := [12]) (σ := ([some (.ref h), some (.ref a), some (.ref b), some (.int (day : Int)), some (.ref p), some (.int (if trv ln ds xs (day : Int) = true then 1 else -1)), v6, v7, some (.int fi), some (.int la), some (.ref r), none, none] : L2.St)) (H := H8)
            (fun i => decide ((tdL ln ds os fi (la + 1 - fi).toNat).getD i 0 ≠ (day : Int))) (fun i => .int ((tdL ln ds os fi (la + 1 - fi).toNat).getD i 0)) (ev_var rfl) (.of hr) (by rw [List.length_map]; omega) (fun _ => rfl)
            (fun i x H9 e9 hx => by
              rw [item i x hx]
              refine et_is (et_test (ev_op (ev_var rfl) (ev_var rfl) (rv_ne rfl))) ?_
              rw [dec_int]
              by_cases z : (tdL ln ds os fi (la + 1 - fi).toNat).getD i 0 = (day : Int)
              · rw [beq_iff_eq.mpr z, decide_eq_false (fun n => n z)]
                rfl
              · rw [beq_false_of_ne z, decide_eq_true z]
                rfl)
            (fun i x H9 e9 hx _ => by
              rw [item i x hx]
              exact ev_var rfl)
          rw [given_filter (tdL ln ds os fi (la + 1 - fi).toNat) (fun o => decide (o ≠ (day : Int))), ← tdL_off wx ht] at eL
          exact ei_lst eL
      exact eD H8 (Ex.refl _) _ fun v H9 e9 hv => ⟨v, rfl, x8.same e9, hv⟩
    rintro σ H9 ⟨v, rfl, x9, w, rfl, hw⟩
    refine s_ret (ev_eqD (edp_list (el_tdC rfl x9.t2 l1 tok (ev_var rfl) (ev_var rfl))) (edp_ev (ev_var rfl) fun H10 e10 => .lst (ex_l e10 hw) (intsDp _)) (ints_sh _)) fun H10 e10 => q H10 (x9.same e10).hd (x9.same e10).hk
end
end Sea

set_option Elab.async false
set_option linter.all false
set_option maxRecDepth 100000
set_option maxHeartbeats 4000000
/-! what the law's walk asks: the days turned so far, undone in turn; costs, read -/
namespace Sea
open PySem PySem.Spec PyProof.Rows L2 LamX NdefX ClX Evl StX
/-- exceptions to which the days led, the last first -/
def Und : List Int → List Int → Prop
  | [], os => os = []
  | day :: r, os => ∃ prev, (0 ≤ day ∧ day < 1000000000000000000) ∧ Good prev 1000000000000000000 ∧ prev.length ≤ r.length ∧ Wex prev day os ∧ Und r prev
theorem Und.good : ∀ {p os : List Int}, Und p os → Good os 1000000000000000000 ∧ os.length ≤ p.length
  | [], os, h => by
    have h : os = [] := h
    subst h
    exact ⟨fun j hj => absurd hj (Nat.not_lt_zero _), Nat.le_refl _⟩
  | day :: r, os, h => by
    obtain ⟨prev, hd, gp, lp, wx, _⟩ := h
    have := wx.len
    exact ⟨wx.good gp hd.1 (by omega), by rw [List.length_cons]; omega⟩
theorem Und.turn {p os xs : List Int} {day : Int} (h : Und p os) (h0 : 0 ≤ day) (h1 : day < 1000000000000000000) (wx : Wex os day xs) : Und (day :: p) xs := ⟨os, ⟨h0, h1⟩, h.good.1, h.good.2, wx, h⟩
theorem Und.back {p os ys : List Int} {day : Int} (h : Und (day :: p) os) (wx : Wex os day ys) : Und p ys := by
  obtain ⟨prev, hd, gp, _, w0, u⟩ := h
  rw [Wex.back gp hd.1 (by omega) w0 wx]
  exact u
theorem ofN_of {os : List Int} (g : Good os 1000000000000000000) : ∃ on : List Nat, os = ofN on := ⟨os.map Int.toNat, by
  unfold ofN
  rw [List.map_map]
  refine (List.map_id os).symm.trans (List.map_congr_left fun x hx => ?_)
  have := ((good_iff.mp g).2 x hx).1
  show x = ((x.toNat : Nat) : Int)
  omega⟩
theorem last_cut {on : List Nat} (asc : on.Pairwise (· < ·)) {b : Nat} (h : (b, none) ∈ cutsF 0 on) : ∀ o ∈ on, o < b := fun o ho => by
  rcases (cutsF_in on 0 b none (fun o _ => Nat.zero_le o) asc h).2 with z | z
  · cases z
  · rcases z o ho with z | ⟨x, z, _⟩
    · exact z
    · cases z
section
variable {K : PySem.W.Frag} {mg : Str → Option Value} {CV CC ST CO : Addr} {g : Pc} {R : Nat} {on : List Nat} {H : Hp} {x dx t : Addr} {c : CvA} {all : List Sg} {rec sn : Addr} {z : Sg} {σ : L2.St} {te ta tb : TE} {i : Nat}
theorem Cos.rc (h : Cos K CV CC ST CO g R on H x dx t c all rec sn z) : Reach g R := h.f.kw.rc
theorem Cos.behind (h : Cos K CV CC ST CO g R on H x dx t c all rec sn z) : ∀ o ∈ on, o < z.s.b := by
  have e := h.f.kw.at_ h.hz
  rw [h.at_.2.2.1] at e
  exact last_cut h.f.kw.asc (List.mem_of_getElem? e)
theorem ev_cos {n : Nat} (hs : σ[i]? = some (some (.ref x))) (h : Cos K CV CC ST CO g R on H x dx t c all rec sn z) (hn : n ≤ 1000000000000000000) (he : Ev te σ H (.int (n : Int))) : Ev (tMeth CO "cost" (spCos K CV CC ST CO) [] E0 (tVar i) (tCons te tNil)) σ H (.int (cst g R n)) := fun H1 e Q q =>
  ⟨_, hs, x, dx, _, rfl, (h.s e).ix, rfl, he H1 e _ fun H2 e2 => ⟨x, dx, t, c, all, rec, sn, z, g, R, on, n, rfl, (h.s e).s e2, hn, fun H3 s3 => q H3 (Same.trans e2 s3)⟩⟩
theorem ev_dpr {n : Nat} (hs : σ[i]? = some (some (.ref x))) (h : Cos K CV CC ST CO g R on H x dx t c all rec sn z) (hn : n < 1000000000000000000) (he : Ev te σ H (.int (n : Int))) : Ev (tMeth CO "day_price" (spDpr K CV CC ST CO) [] E0 (tVar i) (tCons te tNil)) σ H (.int (cst g R (n + 1) - cst g R n)) := fun H1 e Q q =>
  ⟨_, hs, x, dx, _, rfl, (h.s e).ix, rfl, he H1 e _ fun H2 e2 => ⟨x, dx, t, c, all, rec, sn, z, g, R, on, n, rfl, (h.s e).s e2, hn, fun H3 s3 => q H3 (Same.trans e2 s3)⟩⟩
theorem edp_rpr (hs : σ[i]? = some (some (.ref x))) (h : Cos K CV CC ST CO g R on H x dx t c all rec sn z) : EvDp K (tProp CO (spRpr K CV CC ST CO) [] E0 (tVar i)) σ H (.tuple [.int (frac (z.s.gn g R * g.ln) z.s.dy).1, .int (frac (z.s.gn g R * g.ln) z.s.dy).2]) := fun H1 e Q q =>
  ⟨.ref x, hs, x, dx, _, rfl, (h.s e).ix, x, dx, t, c, all, rec, sn, z, g, R, on, rfl, h.s e, fun r H' s hr => q _ H' s (.tup (.of hr) (.cons (.int _) (.cons (.int _) .nil)))⟩
theorem ed_rep (hs : σ[i]? = some (some (.ref x))) (h : Cos K CV CC ST CO g R on H x dx t c all rec sn z) : EvD (tOp (rIxT K) (tProp CO (spRep K CV CC ST CO) [] E0 (tVar i)) (tC (.int 0))) σ H fun v _ => ∃ b : Nat, v = .int (b : Int) ∧ z.s.b ≤ b := fun H1 e Q q =>
  ⟨.ref x, hs, x, dx, _, rfl, (h.s e).ix, x, dx, t, c, all, rec, sn, z, g, R, on, rfl, h.s e, fun f r H' _ _ _ s hr => ⟨r, _, 0, _, rfl, rfl, .of hr, rfl, q _ H' s ⟨z.s.b + f, rfl, Nat.le_add_right _ _⟩⟩⟩
theorem et_le_no {j : Int} (h : EvD ta σ H fun v _ => ∃ b : Nat, v = .int (b : Int) ∧ j < (b : Int)) (hb : Ev tb σ H (.int j)) : EvT (tTest (tOp (rI0 fun i j => .bl (decide (i ≤ j))) ta tb)) σ H false := fun H1 e Q q =>
  h H1 e _ fun v H2 e2 ⟨b, ev, lt⟩ => by
    subst ev
    refine hb H2 (e.trans e2) _ fun H3 e3 => ⟨_, _, rfl, rfl, _, rfl, ?_⟩
    rw [decide_eq_false (show ¬ (b : Int) ≤ j by omega)]
    exact q H3 (e2.trans e3)
theorem et_notN {v : V} (hs : σ[i]? = some (some v)) : EvT (tTest (tOp (fun x y H Q => y = .non ∧ Q (.bl (!decide (x = .non))) H) (tVar i) (tC .non))) σ H (!decide (v = .non)) := fun H1 e Q q => ⟨v, hs, rfl, _, rfl, q H1 (Ex.refl _)⟩
theorem el_rev {l : Addr} {us : List V} (hs : σ[i]? = some (some (.ref l))) (hl : H l = some (.lst us)) : EvL (tRevL K (tVar i)) σ H us.reverse := fun H1 e Q q => ⟨_, hs, l, _, rfl, .of (e _ _ hl), fun r nr => q r _ nr (Ex.new nr) upd_same⟩
theorem Reach.to {g h : Pc} {R : Nat} (r : Reach g R) (hL : h.L = g.L) (hl : h.ln = g.ln) : Reach h R := ⟨hl ▸ r.l1, hl ▸ r.l2, hL ▸ r.ok, hL ▸ r.ne, hL ▸ r.le, r.r1, r.r2⟩
/-- costs.travel.is_travel_day(day) -/
theorem ev_tlis {cN : Addr} {n : Nat} (cl : Cls K CO) (hs : σ[i]? = some (some (.ref x))) (h : Cos K CV CC ST CO g R on H x dx t c all rec sn z) (hn : n ≤ 1000000000000000000) (he : Ev te σ H (.int (n : Int))) :
    Ev (tMeth CV "is_travel_day" (spIs K CV cN) [] E0 (tProp CO (getSp CO "trips") [] E0 (tVar i)) (tCons te tNil)) σ H (.bl (gos g n)) := fun H1 e Q q => by
  have h1 := h.s e
  obtain ⟨dv, ov, tv⟩ := h1.f.k.tvl
  obtain ⟨dy, ha⟩ := tv.1
  refine ⟨.ref x, hs, x, dx, _, rfl, h1.ix, x, dx, _, _, rfl, h1.ix, rfl, c.tv, dy, _, rfl, ha, tvF_no _ _ _ (by decide +kernel) (by decide +kernel) (by decide +kernel), he H1 e _ fun H2 e2 => ?_⟩
  have l1 := h1.rc.l1
  exact ⟨c.tv, g.ln, _, dv, ov, g.ds, g.os, rfl, tv.same e2, by omega, fun _ H3 s3 => q H3 (Same.trans e2 s3), fun nb => absurd (show (0 : Int) ≤ (n : Int) ∧ (n : Int) ≤ 1000000000000000000 by omega) nb⟩
theorem ev_ex {a : Addr} {ln : Int} {d o : V} {ds os : List Int} (hs : σ[i]? = some (some (.ref a))) (ht : Tv K CV H a ln d o ds os) : Ev (tProp CV (getSp CV "odd_days") [] E0 (tVar i)) σ H o := fun H1 e Q q => by
  obtain ⟨⟨dx, ha⟩, _⟩ := ht.same e
  exact ⟨.ref a, hs, a, dx, _, rfl, ha, a, dx, _, _, rfl, ha, tvF_odd .., q H1 (Ex.refl _)⟩
/-- Travel(a, b) -/
theorem tv_mk1 (G : Gd K mg) {R : VK} {E : XK} {ln : Int} {d : V} {ds : List Int} {y dy : Addr} (hd : TiA K H d ds) (ok : TvOk ln ds []) (ny : H y = none) (ndy : H dy = none) (q : ∀ H', Same H H' → Tv K G.CV H' y ln d (.ref G.eT) ds [] → R .non H') :
    spTvI K G.CV G.cV (.ref y :: ([.int ln, d] ++ [.ref G.eT])) (upd (upd H dy (.own y)) y (.ins G.CV dy [])) R E := by
  have s0 := born_ins (D := G.CV) ny ndy
  refine ⟨y, dy, ln, d, .ref G.eT, ds, [], rfl, upd_same, hd.tk (.same s0), G.nil _, by have := ok.nd; have := ok.l2; omega, by decide, fun _ H' keep at_ => ?_, fun pt i dd H' z => ?_⟩
  · have sm : Same H H' := fun b u e => keep b u (s0 b u e) (ne_of_none e ny)
    exact q H' sm ⟨⟨dy, at_⟩, hd.tk (.same sm), G.nil _⟩
  · rw [ok.tbad (by decide)] at z
    cases z
theorem log17 {n : Int} (h0 : 0 < n) (h1 : n ≤ 100000000000000000) : n.natAbs.log2 < 9000 := by
  have h2 : n.natAbs < 2 ^ 57 := Nat.lt_of_le_of_lt (show n.natAbs ≤ 100000000000000000 by omega) (by decide)
  exact Nat.lt_trans ((Nat.log2_lt (by omega)).mpr h2) (by decide)
end
end Sea

set_option Elab.async false
set_option linter.all false
set_option maxRecDepth 100000
set_option maxHeartbeats 4000000
/-! the law -/
namespace Sea
open PySem PySem.Spec PyProof.Rows L2 LamX NdefX ClX Evl StX
abbrev NLaw : List Str := ["_law_script", "_law_h", "_law_passes_here", "_law_pattern_here", "_law_travel", "_law_wide", "_law_past", "_law_turn", "_law_day", "_law_other", "_law_costs_here", "_law_plain", "_law_first", "_law_size", "_law_price"]
theorem scLaw : FnScope NLaw ["_law_script"] (defScope sLaw) := ⟨rfl, rfl, rfl, by decide +kernel, rfl, by decide +kernel, by decide +kernel⟩
def spLaw (K : PySem.W.Frag) : Sp := fun vs H Q _ => ∃ (a : Addr) (ns : List Int), vs = [.ref a] ∧ SqL K H a (ns.map V.int) ∧ ns.length ≤ 63 ∧ ∀ H', Q (.bl true) H'
/-- what stays through the turns -/
structure LwI (K : PySem.W.Frag) (CV h c a l : Addr) (v pt o : V) (L : List (Int × Int)) (ln : Int) (ds os p : List Int) (H : Hp) : Prop where
  hd : Dr H h c
  hv : PsA K H v L
  hp : PtA K H pt ln ds
  ht : ∃ d, Tv K CV H a ln d o ds os
  hl : H l = some (.lst (p.map V.int))
  nl : l ≠ h ∧ l ≠ c
  un : Und p.reverse os
theorem PtA.tk {K : PySem.W.Frag} {H H' : Hp} {ln : Int} {ds : List Int} {v : V} (k : TK K H H') (t : PtA K H v ln ds) : PtA K H' v ln ds := by
  obtain ⟨p, dv, rfl, hp, hd⟩ := t
  exact ⟨p, dv, rfl, k _ _ hp, hd.tk k⟩
section
variable {K : PySem.W.Frag} {CV h c a l : Addr} {v pt o : V} {L : List (Int × Int)} {ln : Int} {ds os p : List Int} {H H' : Hp}
theorem LwI.kp (x : LwI K CV h c a l v pt o L ln ds os p H) (d' : Dr H' h c) (k : Kp h c H H') : LwI K CV h c a l v pt o L ln ds os p H' :=
  ⟨d', x.hv.tk (x.hd.tk k), x.hp.tk (x.hd.tk k), x.ht.elim fun d t => ⟨d, t.kp x.hd k⟩, k _ _ x.hl x.nl.1 x.nl.2, x.nl, x.un⟩
theorem LwI.app (x : LwI K CV h c a l v pt o L ln ds os p H) {a2 : Addr} {d o2 : V} {xs : List Int} {day : Int} (t2 : Tv K CV H a2 ln d o2 ds xs) (wx : Wex os day xs) (h0 : 0 ≤ day) (h1 : day < 1000000000000000000) :
    LwI K CV h c a2 l v pt o2 L ln ds xs (p ++ [day]) (upd H l (.lst (p.map V.int ++ [V.int day]))) := by
  have k : TK K H (upd H l (.lst (p.map V.int ++ [V.int day]))) := .but (fun b => b = l) (fun b o e n => by
    rw [upd_ne n]
    exact e) fun b xs z => by
    rw [z]
    exact Rd.lst_no x.hl
  obtain ⟨⟨dx, ha⟩, t3, t4⟩ := t2
  have ne : a2 ≠ l := ne_of ha x.hl (fun z => nomatch z)
  refine ⟨?_, x.hv.tk k, x.hp.tk k, ⟨d, ⟨dx, by rw [upd_ne ne]; exact ha⟩, t3.tk k, t4.tk k⟩, by rw [upd_same, List.map_append]; rfl, x.nl, ?_⟩
  · obtain ⟨n0, mm, kk, es, f1, f2, f3⟩ := x.hd
    exact ⟨n0, mm, kk, es, by rw [upd_ne x.nl.1.symm]; exact f1, by rw [upd_ne x.nl.2.symm]; exact f2, f3⟩
  · rw [List.reverse_append]
    exact x.un.turn h0 h1 wx
theorem LwI.same (x : LwI K CV h c a l v pt o L ln ds os p H) (e : Same H H') : LwI K CV h c a l v pt o L ln ds os p H' := x.kp (x.hd.same e) (.same e)
end
section
variable {P : Program} {w : World} {K : PySem.W.Frag} {mg : Str → Option Value} {base : Heap}
theorem ok_law {f : Addr} {fd : FuncData} (G : Gd K mg) (F : Fun K "law" "law" sLaw f fd) : FnOk P w K mg base CX0 14 f fd ["_law_script"] (spLaw K) := by
  obtain ⟨dsT, rT, bT⟩ := G.bTv0
  refine F.ok scLaw (fun vs H Q E h => ?_) (fun cdv A outer s H vs Q E hr h => ?_)
  · obtain ⟨a, ns, rfl, _⟩ := h
    rfl
  · have h1 := hr.mono (show 1 ≤ 13 by decide)
    have h2 := hr.mono (show 2 ≤ 13 by decide)
    have h3 := hr.mono (show 3 ≤ 13 by decide)
    have h6 := hr.mono (show 6 ≤ 13 by decide)
    have h7 := hr.mono (show 7 ≤ 13 by decide)
    have h8 := hr.mono (show 8 ≤ 13 by decide)
    have h9 := hr.mono (show 9 ≤ 13 by decide)
    have h11 := hr.mono (show 11 ≤ 13 by decide)
    have h12 := hr.mono (show 12 ≤ 13 by decide)
    have hu := hr.units
    refine ⟨_, pss_cut (ps_set (i := 1) scLaw.nd rfl (.inl rfl) (pe_call (E := E0) (ok_mix (k := 0) G.uMx G.m_list G.m_int) h1 (by rfl) G.gMx G.kMx G.bMx .nil pass0 (pa_cons (pv 0) (pa_cons pe_int pa_nil))))
      (pss_cut (ps_set (i := 2) scLaw.nd rfl (.inl rfl) (pe_callTy call_tuple_of (by rfl) G.m_tuple (by rfl) (pa_cons (pe_lc (own := [("_law_size", 13), ("_law_price", 14)]) (g := gTup K 2 (gCons (gName 13) (gCons (gName 14) gNil))) (by rfl) scLaw.nd (pi_tup (pe_call (E := E0) (ok_drawn (k := 0) G.uPs G.N G.m_range G.m_min G.m_tuple) h2 (by rfl) G.gPs G.kPs G.bPs .nil pass0 (pa_cons (pv 1) (pa_cons pe_int pa_nil))))
          (blkOk_by (own := [("_law_size", 13), ("_law_price", 14)]) (N := NLaw) (sc := defScope sLaw) (by decide +kernel)) (fun _ _ _ _ _ => pg_tupK rfl rfl (pgs_cons (pg_name (i := 13) scLaw.nd rfl (Or.inl rfl)) (pgs_cons (pg_name (i := 14) scLaw.nd rfl (Or.inl rfl)) pgs_nil))) (fun _ _ _ _ _ => pts_nil)
          (fun _ _ _ _ _ => pe_tup (pa_cons (pe_callB (call_min2 rfl) (by rfl) G.m_min (by decide +kernel) (pa_cons (pv 13) (pa_cons pe_int pa_nil))) (pa_cons (pe_op op_add pe_int (pe_op op_modN (pv 14) pe_int)) pa_nil)))) pa_nil)))
      (pss_cut (ps_set (i := 3) scLaw.nd rfl (.inl rfl) (pe_call (E := E0) (ok_pat (k := 0) G.uPat G.N G.m_range G.m_tuple) h2 (by rfl) G.gPat G.kPat G.bPat .nil pass0 (pa_cons (pv 1) (pa_cons pe_int pa_nil))))
      (pss_cut (ps_par3 (i := 4) (j := 5) (l := 6) (by rfl) scLaw.nd rfl rfl rfl (by decide) (by decide) (by decide) rfl rfl rfl (pa_cons (pe_make (E := E0) G.mkV (ok_tvI G.uTv G.EV G.ZZ.TV) h6 (by rfl) G.ZZ.TV.gC bT rT passL (pa_cons (pe_ixt (pv 3) pe_int) (pa_cons (pe_ixt (pv 3) pe_int) pa_nil)))
          (pa_cons (pe_ixl (pe_lst (pa_cons pe_int (pa_cons (pe_op op_pow pe_int pe_int) pa_nil))) (pe_next G.N h1 (by rfl) (pv 1) pe_int)) (pa_cons (pe_lst pa_nil) pa_nil))) (by rfl))
      (pss_cut (ps_for PassesOwn.never rfl (pi_range1 (by rfl) G.m_range (pa_cons (pe_next G.N h1 (by rfl) (pv 1) pe_int) pa_nil)) (pg_name (i := 7) scLaw.nd rfl (.inl rfl))
        (pss_cut (ps_set (i := 8) scLaw.nd rfl (.inl rfl) (pe_next G.N h1 (by rfl) (pv 1) (pv 5)))
        (pss_cut (ps_set (i := 9) scLaw.nd rfl (.inl rfl) (pe_meth (E := E0) (pv 4) G.ZZ.TV.cl G.mWx (ok_wx G.uWx G.EV G.ZZ.TV G.m_tuple G.m_sorted G.m_len G.mkV G.uTv) h7 G.bWx .nil passL (pa_cons (pv 8) pa_nil)))
        (pss_cut (ps_if (pt_not (pt_val (pe_call (E := E0) (ok_tu (k := 0) G.uTu G) h8 (by rfl) G.gTu G.kTu G.bTu .nil pass0 (pa_cons (pv 1) (pa_cons (pv 4) (pa_cons (pv 9) (pa_cons (pv 8) pa_nil))))))) (pss_one (ps_ret pe_bl)) pss_nil)
        (pss_cut (ps_expr (pe_bm PySem.F.plainAttrs_list PySem.F.slot_list_append PySem.F.type_list_append mt_append (pv 6) (pa_cons (pv 8) pa_nil)))
        (pss_one (ps_set (i := 4) scLaw.nd rfl (.inl rfl) (pv 9))))))))
      (pss_cut (ps_set (i := 10) scLaw.nd rfl (.inl rfl) (pe_call (E := E0) (ok_lc (k := 0) G.uLc G.ZZ G.TO G.X G.Q G.I G.EV G.mkV G.uTv) h11 (by rfl) G.gLc G.kLc G.bLc .nil passL (pa_cons (pv 2) (pa_cons (pv 3) (pa_cons (pe_ex G.ZZ.RR G.ZZ.TV h2 (pv 4)) pa_nil)))))
      (pss_cut (ps_set (i := 11) scLaw.nd rfl (.inl rfl) (pe_call (E := E0) (ok_lc (k := 0) G.uLc G.ZZ G.TO G.X G.Q G.I G.EV G.mkV G.uTv) h11 (by rfl) G.gLc G.kLc G.bLc .nil passL (pa_cons (pv 2) (pa_cons (pv 3) (pa_cons (pe_tup pa_nil) pa_nil)))))
      (pss_cut (ps_if (pt_cmpR (op_neD hu) (pe_prop (E := E0) (pv 11) G.TO.cl G.TO.pP (ok_rpr (k := 0) G.ZZ G.TO G.CD) (hr.mono (by decide)) G.bRp .nil pass0 (by rfl)) (pe_prop (E := E0) (pv 10) G.TO.cl G.TO.pP (ok_rpr (k := 0) G.ZZ G.TO G.CD) (hr.mono (by decide)) G.bRp .nil pass0 (by rfl)) (nomark _)) (pss_one (ps_ret pe_bl)) pss_nil)
      (pss_cut (ps_if (pt_cmpR (op_neD hu) (pe_ex G.ZZ.RR G.ZZ.TV h2 (pv 4)) (pe_tup pa_nil) (nomark _))
        (pss_cut (ps_set (i := 8) scLaw.nd rfl (.inl rfl) (pe_ixt (pe_ex G.ZZ.RR G.ZZ.TV h2 (pv 4)) pe_int))
        (pss_cut (ps_if (PW.pt (pw_or (pt_cmpR op_le (pe_ixt (pe_prop (E := E0) (pv 10) G.TO.cl G.TO.pR (ok_rep (k := 0) G.ZZ G.TO) (hr.mono (by decide)) G.bRe .nil pass0 (by rfl)) pe_int) (pe_ixt (pe_ex G.ZZ.RR G.ZZ.TV h2 (pv 4)) (pe_un un_neg pe_int)) (nomark _))
            (pw_or1 (pt_cmpR op_ne (pe_meth (E := E0) (pv 10) G.TO.cl G.TO.mC (ok_cos (k := 0) G.ZZ G.TO G.EV) h9 G.bCo .nil passL (pa_cons (pv 8) pa_nil)) (pe_meth (E := E0) (pv 11) G.TO.cl G.TO.mC (ok_cos (k := 0) G.ZZ G.TO G.EV) h9 G.bCo .nil passL (pa_cons (pv 8) pa_nil)) (nomark _))))) (pss_one (ps_ret pe_bl)) pss_nil)
        (pss_cut (ps_set (i := 12) scLaw.nd rfl (.inl rfl) (pe_call (E := E0) (ok_fdi (k := 0) G.uFdi G.UN G.ZZ G.PA G.CD G.TO) h12 (by rfl) G.gFdi G.kFdi G.bFdi .nil pass0 (pa_cons (pv 10) (pa_cons (pv 11) pa_nil))))
        (pss_cut (ps_if (PW.pt (pw_and (pt_cmpR op_notN (pv 12) pe_non (nomark _)) (pw_and1 (pt_cmpR op_le (pv 12) (pv 8) (nomark _))))) (pss_one (ps_ret pe_bl)) pss_nil)
        (pss_one (ps_if (PW.pt (pw_and (pt_not (pt_val (pe_meth (E := E0) (pe_tl G h2 (pv 10)) G.ZZ.TV.cl G.mIs (ok_is (k := 0) G.uIs G.EV G.ZZ.TV G.m_int G.ZZ.M.mT G.ZZ.M.uT) h2 G.bIs .nil passL (pa_cons (pv 8) pa_nil)))) (pw_and (pt_cmpR op_lt (pv 8) (pe_op op_pow pe_int pe_int) (nomark _)) (pw_and1 (pt_cmpR op_ne (pe_meth (E := E0) (pv 10) G.TO.cl G.TO.mD (ok_dpr (k := 0) G.ZZ G.TO G.EV) h9 G.bDp .nil passL (pa_cons (pv 8) pa_nil)) pe_int (nomark _)))))) (pss_one (ps_ret pe_bl)) pss_nil)))))) pss_nil)
      (pss_cut (ps_for PassesOwn.never rfl (pi_list (pe_revL (pv 6))) (pg_name (i := 8) scLaw.nd rfl (.inl rfl)) (pss_one (ps_set (i := 4) scLaw.nd rfl (.inl rfl) (pe_meth (E := E0) (pv 4) G.ZZ.TV.cl G.mWx (ok_wx G.uWx G.EV G.ZZ.TV G.m_tuple G.m_sorted G.m_len G.mkV G.uTv) h7 G.bWx .nil passL (pa_cons (pv 8) pa_nil)))))
      (pss_one (ps_ret (pe_cmpR (op_eqD hu) (pe_ex G.ZZ.RR G.ZZ.TV h2 (pv 4)) (pe_tup pa_nil) (nomark _))))))))))))), ?_⟩
    -- READING
    obtain ⟨sc, ns, rfl, hS, hlen, q⟩ := h
    have lt : ∀ {n : Nat}, n ≤ 1000 → n ≤ sizeLine := fun h => Nat.le_of_lt (small1000 h)
    refine ⟨fun σ H' => ∃ h c : Addr, σ = ([some (.ref sc), some (.ref h), none, none, none, none, none, none, none, none, none, none, none, none, none] : L2.St) ∧ Dr H' h c, ?_, ?_⟩
    · exact ⟨_, rfl, sc, ns, 63, rfl, hS, hlen, fun h c H' s nh nc dr => ⟨h, c, rfl, dr⟩⟩
    rintro σ H1 ⟨h, c, rfl, d1⟩
    refine ⟨fun σ H' => ∃ (v : V) (L : List (Int × Int)), σ = ([some (.ref sc), some (.ref h), some v, none, none, none, none, none, none, none, none, none, none, none, none] : L2.St) ∧ Dr H' h c ∧ PsA K H' v L ∧ 1 ≤ L.length ∧ L.length ≤ 3 ∧ (∀ z ∈ L, 1 ≤ z.1 ∧ z.1 ≤ 9 ∧ 1 ≤ z.2 ∧ z.2 ≤ 97), ?_, ?_⟩
    · refine ⟨_, rfl, h, c, 3, rfl, by decide, by decide, d1, fun v L H2 hv n1 n3 pos d2 k2 => ?_⟩
      obtain ⟨a, us, rfl, ha, hus⟩ := hv
      refine ⟨a, rfl, ⟨us, ha⟩, fun D nD => ?_⟩
      have nn := d2.nh nD
      refine lc_tup (K := K) (a := a) (xs := us) (fun i H' => ∃ (ws : List V) (M : List (Int × Int)), H' D = some (.lst ws) ∧ PsV K H' ws M ∧ M.length = i ∧ (∀ z ∈ M, 1 ≤ z.1 ∧ z.1 ≤ 9 ∧ 1 ≤ z.2 ∧ z.2 ≤ 97) ∧ Dr H' h c ∧ SqT K H' a us ∧ PsV K H' us L)
        ⟨[], [], upd_same, .nil, rfl, fun _ h => (nomatch h), d2.new nD, (TK.new nD) _ _ ha, hus.tk (.new nD)⟩ (fun i H' _ ⟨_, _, _, _, _, _, _, z, _⟩ => z) ?_ ?_
      · rintro i x H' hx ⟨ws, M, hD, hM, hl, hok, d4, ha4, hus4⟩
        obtain ⟨z, hz, b, rfl, hb⟩ := hus4.get hx
        have p0 := pos z (List.mem_of_getElem? hz)
        have i3 : i < 3 := by
          have := (List.getElem?_eq_some_iff.mp hz).1
          omega
        refine ⟨b, _, rfl, hb, rfl, _, _, rfl, _, _, rfl, rfl, ?_⟩
        refine ⟨rfl, ?_⟩
        unfold tYes
        dsimp only
        rw [if_pos (rfl : true = true)]
        refine ⟨_, rfl, _, _, rfl, _, rfl, _, _, rfl, rfl, (show (97 : Int) ≠ 0 by decide), _, _, rfl, rfl, lt (show 2 ≤ 1000 by decide), fun tp ntp => ?_⟩
        have nDt : D ≠ tp := ne_of_none hD ntp
        have hD5 : (upd H' tp (.tup [.int (if 9 < z.1 then 9 else z.1), .int (1 + z.2.fmod 97)])) D = some (.lst ws) := by
          rw [upd_ne nDt]
          exact hD
        have tk5 : TK K H' (upd (upd H' tp (.tup [.int (if 9 < z.1 then 9 else z.1), .int (1 + z.2.fmod 97)])) D (.lst (ws ++ [V.ref tp]))) := (TK.new ntp).trans (.but (fun b => b = D) (fun b o e n => by
            rw [upd_ne n]
            exact e) fun b xs z => by
            rw [z]
            exact Rd.lst_no hD5)
        refine ⟨ws, hD5, small1000 (by rw [hM.len]; omega), ws ++ [.ref tp], M ++ [(if 9 < z.1 then 9 else z.1, 1 + z.2.fmod 97)], upd_same, (hM.tk tk5).app (.cons ⟨tp, rfl, .of ?_⟩ .nil), by rw [List.length_append, hl]; rfl, fun y hy => ?_, ?_, tk5 _ _ ha4, hus4.tk tk5⟩
        · rw [upd_ne nDt.symm, upd_same]
        · rcases List.mem_append.mp hy with hy | hy
          · exact hok y hy
          · rw [List.mem_singleton.mp hy]
            have m0 := Int.fmod_nonneg_of_pos z.2 (show (0 : Int) < 97 by decide)
            have m1 := Int.fmod_lt_of_pos z.2 (show (0 : Int) < 97 by decide)
            refine ⟨?_, ?_, ?_, ?_⟩
            · show 1 ≤ (if 9 < z.1 then 9 else z.1)
              split <;> omega
            · show (if 9 < z.1 then 9 else z.1) ≤ 9
              split <;> omega
            · show 1 ≤ 1 + z.2.fmod 97
              omega
            · show 1 + z.2.fmod 97 ≤ 97
              omega
        · obtain ⟨n0, mm, kk, es, f1, f2, f3⟩ := d4.new (o := .tup [.int (if 9 < z.1 then 9 else z.1), .int (1 + z.2.fmod 97)]) ntp
          exact ⟨n0, mm, kk, es, by rw [upd_ne nn.1.symm]; exact f1, by rw [upd_ne nn.2.symm]; exact f2, f3⟩
      · rintro H' ⟨ws, M, hD, hM, hl, hok, d4, ha4, hus4⟩
        have eM : M.length = L.length := by rw [hl, hus.len]
        exact ⟨D, ws, rfl, .inl ⟨.of hD, fun r nr => ⟨.ref r, M, rfl, d4.new nr, ⟨r, ws, rfl, .of upd_same, hM.tk (.new nr)⟩, by omega, by omega, hok⟩⟩⟩
    rintro σ H2 ⟨v, L, rfl, d2, hv, n1, n3, okL⟩
    refine ⟨fun σ H' => ∃ (pt : V) (ln : Int) (ds : List Int), σ = ([some (.ref sc), some (.ref h), some v, some pt, none, none, none, none, none, none, none, none, none, none, none] : L2.St) ∧ Dr H' h c ∧ PsA K H' v L ∧ PtA K H' pt ln ds ∧ TvOk ln ds [], ?_, ?_⟩
    · exact ⟨_, rfl, h, c, 14, rfl, by decide, by decide, d2, fun pt ln ds H3 hp l1 l2 gd nd d3 k3 => ⟨pt, ln, ds, rfl, d3, hv.tk (d2.tk k3), hp, l1, l2, gd, nd, fun j hj => absurd hj (Nat.not_lt_zero _)⟩⟩
    rintro σ H3 ⟨pt, ln, ds, rfl, d3, hv3, hp3, ok0⟩
    have okT : ∀ {os : List Int}, Good os 1000000000000000000 → TvOk ln ds os := fun g => ⟨ok0.l1, ok0.l2, ok0.gd, ok0.nd, g⟩
    refine ⟨fun σ H' => ∃ (a l : Addr) (wd : Int) (o : V), (0 < wd ∧ wd ≤ 100000000000000000) ∧ σ = ([some (.ref sc), some (.ref h), some v, some pt, some (.ref a), some (.int wd), some (.ref l), none, none, none, none, none, none, none, none] : L2.St) ∧ LwI K G.CV h c a l v pt o L ln ds [] [] H', ?_, ?_⟩
    · have hp3' := hp3
      obtain ⟨pa, pd, rfl, hpa, hpd⟩ := hp3
      refine ⟨_, rfl, pa, _, 0, _, rfl, rfl, hpa, rfl, _, rfl, pa, _, 1, _, rfl, rfl, hpa, rfl, ?_⟩
      intro a da na nda nea
      refine tv_mk1 G hpd ok0 na nda fun H4 s4 t4 => ⟨rfl, ?_⟩
      refine ⟨_, _, rfl, rfl, ⟨by decide, by decide, by decide⟩, lt (show 2 ≤ 1000 by decide), fun r nr => ?_⟩
      have d4 := (d3.same s4).new (o := .lst [V.int 60, V.int (10 ^ (17 : Int).toNat)]) nr
      refine ⟨_, rfl, h, c, 2, rfl, by decide, by decide, d4, fun y H5 y0 y1 d5 k5 => ?_⟩
      obtain ⟨wd, hw, hw2⟩ := pick2 60 (10 ^ (17 : Int).toNat) y y0 y1
      have nr2 := (d3.same s4).nh nr
      refine ⟨r, _, y, _, rfl, rfl, .of (k5 _ _ upd_same nr2.1 nr2.2), hw, ?_⟩
      refine ⟨Nat.zero_le _, fun l nl => ⟨_, _, _, rfl, ?_⟩⟩
      have d6 := d5.new (o := .lst []) nl
      have nl2 := d5.nh nl
      have kk : Kp h c H3 (upd H5 l (.lst [])) := (((Kp.same s4).trans (Kp.new nr)).trans k5).trans (Kp.new nl)
      refine ⟨a, l, wd, .ref G.eT, ?_, rfl, d6, hv3.tk (d3.tk kk), hp3'.tk (d3.tk kk), ⟨pd, ((t4.kp (d3.same s4) (Kp.new nr)).kp d4 k5).kp d5 (Kp.new nl)⟩, upd_same, nl2, rfl⟩
      rw [pw17] at hw2
      rcases hw2 with z | z <;> rw [z] <;> decide
    rintro σ H4 ⟨a0, l, wd, o0, hwd, rfl, x4⟩
    refine ⟨fun σ H' => ∃ (a : Addr) (o : V) (os p : List Int) (v7 v8 v9 : Option V), p.length ≤ 6 ∧ σ = ([some (.ref sc), some (.ref h), some v, some pt, some (.ref a), some (.int wd), some (.ref l), v7, v8, v9, none, none, none, none, none] : L2.St) ∧ LwI K G.CV h c a l v pt o L ln ds os p H', ?_, ?_⟩
    · refine ⟨_, rfl, h, c, 7, rfl, by decide, by decide, x4.hd, fun y H5 y0 y1 d5 k5 => ?_⟩
      refine ⟨y, rfl, by omega, by omega, for_range (lo := 0) (n := y.toNat) (fun i σ H' => ∃ (a : Addr) (o : V) (os p : List Int) (v7 v8 v9 : Option V), p.length = i ∧ σ = ([some (.ref sc), some (.ref h), some v, some pt, some (.ref a), some (.int wd), some (.ref l), v7, v8, v9, none, none, none, none, none] : L2.St) ∧ LwI K G.CV h c a l v pt o L ln ds os p H')
        ⟨a0, o0, [], [], none, none, none, rfl, rfl, x4.kp d5 k5⟩ ?_ ?_⟩
      · rintro i σ H6 hi ⟨a, o, os, p, v7, v8, v9, hp, rfl, x6⟩
        refine ⟨fun σ H' => ∃ (day : Nat), (day : Int) < wd ∧ σ = ([some (.ref sc), some (.ref h), some v, some pt, some (.ref a), some (.int wd), some (.ref l), some (.int (0 + (i : Int))), some (.int (day : Int)), v9, none, none, none, none, none] : L2.St) ∧ LwI K G.CV h c a l v pt o L ln ds os p H', ?_, ?_⟩
        · refine ⟨_, rfl, _, rfl, h, c, wd, rfl, hwd.1, log17 hwd.1 hwd.2, x6.hd, fun z H7 z0 z1 d7 k7 => ?_⟩
          obtain ⟨day, rfl⟩ := Int.eq_ofNat_of_zero_le z0
          exact ⟨day, z1, rfl, x6.kp d7 k7⟩
        rintro σ H7 ⟨day, hday, rfl, x7⟩
        have d0 : (0 : Int) ≤ (day : Int) := Int.natCast_nonneg _
        have d1' : (day : Int) < 1000000000000000000 := by omega
        have few : os.length ≤ 5 := by
          have := x7.un.good.2
          rw [List.length_reverse] at this
          omega
        have okos := okT x7.un.good.1
        refine ⟨fun σ H' => ∃ (a2 : Addr) (d o2 : V) (xs : List Int), Wex os (day : Int) xs ∧ xs.length ≤ 6 ∧ σ = ([some (.ref sc), some (.ref h), some v, some pt, some (.ref a), some (.int wd), some (.ref l), some (.int (0 + (i : Int))), some (.int (day : Int)), some (.ref a2), none, none, none, none, none] : L2.St) ∧ LwI K G.CV h c a l v pt o L ln ds os p H' ∧ Tv K G.CV H' a ln d o ds os ∧ Tv K G.CV H' a2 ln d o2 ds xs, ?_, ?_⟩
        · obtain ⟨d, t7⟩ := x7.ht
          obtain ⟨dx, ha⟩ := t7.1
          refine ⟨_, rfl, a, dx, _, rfl, ha, tvF_no _ _ _ (by decide +kernel) (by decide +kernel) (by decide +kernel), _, rfl, a, ln, _, d, o, ds, os, rfl, t7, okos, by omega, fun _ xs wx => ⟨fun x6' a2 o2 H8 s8 t8 => ⟨a2, d, o2, xs, wx, x6', rfl, x7.same s8, t7.same s8, t8⟩, fun no => absurd wx.len (by omega)⟩, fun nb => absurd ⟨d0, Int.le_of_lt d1'⟩ nb⟩
        rintro σ H8 ⟨a2, d, o2, xs, wx, xs6, rfl, x8, t8, u8⟩
        have okxs := okT (wx.good okos.go d0 (Int.le_of_lt d1'))
        refine ⟨fun σ H' => σ = ([some (.ref sc), some (.ref h), some v, some pt, some (.ref a), some (.int wd), some (.ref l), some (.int (0 + (i : Int))), some (.int (day : Int)), some (.ref a2), none, none, none, none, none] : L2.St) ∧ LwI K G.CV h c a l v pt o L ln ds os p H' ∧ Tv K G.CV H' a2 ln d o2 ds xs, ?_, ?_⟩
        · refine ⟨_, rfl, _, rfl, _, rfl, _, rfl, h, c, a, a2, day, ln, d, o, o2, ds, os, xs, rfl, x8.hd, t8, u8, okos, okxs, by omega, xs6, d1', wx, fun H9 d9 k9 => ?_⟩
          exact ⟨true, rfl, iteF ⟨rfl, x8.kp d9 k9, u8.kp x8.hd k9⟩⟩
        rintro σ H9 ⟨rfl, x9, u9⟩
        refine ⟨fun σ H' => σ = ([some (.ref sc), some (.ref h), some v, some pt, some (.ref a), some (.int wd), some (.ref l), some (.int (0 + (i : Int))), some (.int (day : Int)), some (.ref a2), none, none, none, none, none] : L2.St) ∧ LwI K G.CV h c a2 l v pt o2 L ln ds xs (p ++ [(day : Int)]) H', ?_, ?_⟩
        · refine s_app x9.hl (ev_var rfl) (ev_var rfl) (by rw [List.length_map]; omega) fun H10 e10 => ⟨rfl, ?_⟩
          exact (x9.same e10).app (u9.same e10) wx d0 d1'
        rintro σ H10 ⟨rfl, x10⟩
        exact s_asg (ev_var rfl) fun H11 e11 => ⟨a2, o2, xs, p ++ [(day : Int)], _, _, _, by rw [List.length_append, hp]; rfl, rfl, x10.same e11⟩
      · rintro σ H6 ⟨a, o, os, p, v7, v8, v9, hp, rfl, x6⟩
        exact ⟨a, o, os, p, v7, v8, v9, by omega, rfl, x6⟩
    rintro σ H5 ⟨a, o, os, p, v7, v8, v9, p6, rfl, x5⟩
    obtain ⟨on, rfl⟩ := ofN_of x5.un.good.1
    have gos_ := x5.un.good.1
    have on6 : on.length ≤ 6 := by
      have := x5.un.good.2
      rw [List.length_map, List.length_reverse] at this
      omega
    refine ⟨fun σ H' => ∃ (R : Nat) (x dx t : Addr) (cv : CvA) (all : List Sg) (rec sn : Addr) (z : Sg), σ = ([some (.ref sc), some (.ref h), some v, some pt, some (.ref a), some (.int wd), some (.ref l), v7, v8, v9, some (.ref x), none, none, none, none] : L2.St) ∧ LwI K G.CV h c a l v pt o L ln ds (ofN on) p H' ∧ Cos K G.CV G.CC G.ST G.CO ⟨L, ln, ds, ofN on⟩ R on H' x dx t cv all rec sn z, ?_, ?_⟩
    · obtain ⟨d, t5⟩ := x5.ht
      obtain ⟨⟨dx, ha⟩, td, to⟩ := id t5
      refine ⟨_, rfl, _, rfl, _, rfl, a, dx, _, rfl, ha, a, dx, _, _, rfl, ha, tvF_odd .., v, pt, o, L, ln, ds, on, rfl, x5.hv, n1, by omega, okL, x5.hp, okT gos_, on6, to, fun R x dx t cv all rec sn z H6 s6 co => ⟨R, x, dx, t, cv, all, rec, sn, z, rfl, x5.same s6, co⟩⟩
    rintro σ H6 ⟨R, x, dx, t, cv, all, rec, sn, z, rfl, x6, co⟩
    refine ⟨fun σ H' => ∃ (S : Nat) (y dy u : Addr) (cw : CvA) (bll : List Sg) (rfc sm : Addr) (zz : Sg), σ = ([some (.ref sc), some (.ref h), some v, some pt, some (.ref a), some (.int wd), some (.ref l), v7, v8, v9, some (.ref x), some (.ref y), none, none, none] : L2.St) ∧ LwI K G.CV h c a l v pt o L ln ds (ofN on) p H' ∧ Cos K G.CV G.CC G.ST G.CO ⟨L, ln, ds, ofN on⟩ R on H' x dx t cv all rec sn z ∧ Cos K G.CV G.CC G.ST G.CO ⟨L, ln, ds, ofN []⟩ S [] H' y dy u cw bll rfc sm zz, ?_, ?_⟩
    · refine ⟨_, rfl, _, rfl, Nat.zero_le _, fun e ne => ?_⟩
      have s7 := same_new (H := H6) (o := HO.tup []) ne
      refine ⟨v, pt, .ref e, L, ln, ds, [], rfl, (x6.same s7).hv, n1, by omega, okL, (x6.same s7).hp, ok0, by decide, ⟨e, rfl, .of upd_same⟩, fun S y dy u cw bll rfc sm zz H8 s8 co2 => ⟨S, y, dy, u, cw, bll, rfc, sm, zz, rfl, (x6.same s7).same s8, (co.s s7).s s8, co2⟩⟩
    rintro σ H7 ⟨S, y, dy, u, cw, bll, rfc, sm, zz, rfl, x7, co, cp⟩
    refine ⟨fun σ H' => σ = ([some (.ref sc), some (.ref h), some v, some pt, some (.ref a), some (.int wd), some (.ref l), v7, v8, v9, some (.ref x), some (.ref y), none, none, none] : L2.St) ∧ LwI K G.CV h c a l v pt o L ln ds (ofN on) p H' ∧ Cos K G.CV G.CC G.ST G.CO ⟨L, ln, ds, ofN on⟩ R on H' x dx t cv all rec sn z ∧ Cos K G.CV G.CC G.ST G.CO ⟨L, ln, ds, ofN []⟩ S [] H' y dy u cw bll rfc sm zz, ?_, ?_⟩
    · have eq := rpr_same cp.rc co.rc rfl rfl rfl (on1 := []) (on2 := on) rfl rfl cp.at_.2.1 co.at_.2.1 cp.at_.2.2.1 co.at_.2.2.1 cp.at_.2.2.2 co.at_.2.2.2
      have e1 := edp_rpr (σ := ([some (.ref sc), some (.ref h), some v, some pt, some (.ref a), some (.int wd), some (.ref l), v7, v8, v9, some (.ref x), some (.ref y), none, none, none] : L2.St)) (i := 11) rfl cp
      have e2 := edp_rpr (σ := ([some (.ref sc), some (.ref h), some v, some pt, some (.ref a), some (.int wd), some (.ref l), v7, v8, v9, some (.ref x), some (.ref y), none, none, none] : L2.St)) (i := 10) rfl co
      rw [eq] at e1
      exact s_when (b := false) (et_same e1 e2 rfl) (fun z => by cases z) fun _ H8 e8 => ⟨rfl, x7.same e8, co.s e8, cp.s e8⟩
    rintro σ H8 ⟨rfl, x8, co, cp⟩
    refine ⟨fun σ H' => ∃ w8 w12 : Option V, σ = ([some (.ref sc), some (.ref h), some v, some pt, some (.ref a), some (.int wd), some (.ref l), v7, w8, v9, some (.ref x), some (.ref y), w12, none, none] : L2.St) ∧ LwI K G.CV h c a l v pt o L ln ds (ofN on) p H', ?_, ?_⟩
    · obtain ⟨d, t8⟩ := x8.ht
      refine s_when (et_neD (edp_ex rfl t8) (edp_tup eda_nil (by decide)) (tups_sh _) (tups_sh [])) (fun hb H9 e9 => ?_) (fun _ H9 e9 => ⟨_, _, rfl, x8.same e9⟩)
      cases on with
      | nil => exact absurd hb (by decide)
      | cons o0 onr =>
        have x9 := x8.same e9
        have t9 := t8.same e9
        have co9 := co.s e9
        have cp9 := cp.s e9
        obtain ⟨po, epo, hpo⟩ := id t9.2.2
        have asc := co.f.kw.asc
        have mx0 : o0 ≤ 1000000000000000000 := co.f.k.mx o0 (List.mem_cons_self ..)
        have low : ∀ y ∈ o0 :: onr, o0 ≤ y := fun y hy => by
          rcases List.mem_cons.mp hy with z | z
          · omega
          · have := (List.pairwise_cons.mp asc).1 y z
            omega
        have rS : Reach ⟨L, ln, ds, ofN []⟩ R := co.rc.to rfl rfl
        have same : ∀ n, n ≤ o0 → cst ⟨L, ln, ds, ofN (o0 :: onr)⟩ R n = cst ⟨L, ln, ds, ofN []⟩ S n := fun n hn =>
          (ahead (R := R) (g := ⟨L, ln, ds, ofN (o0 :: onr)⟩) (h := ⟨L, ln, ds, ofN []⟩) rfl rfl rfl rfl (on2 := []) rfl low (fun _ hx => (nomatch hx)) hn).trans (cst_win rS cp.rc n n (Nat.le_refl n))
        obtain ⟨ini, lst, ei⟩ : ∃ ini lst, o0 :: onr = ini ++ [lst] := ⟨_, _, (List.dropLast_concat_getLast (List.cons_ne_nil o0 onr)).symm⟩
        refine ⟨fun σ H' => σ = ([some (.ref sc), some (.ref h), some v, some pt, some (.ref a), some (.int wd), some (.ref l), v7, some (.int (o0 : Int)), v9, some (.ref x), some (.ref y), none, none, none] : L2.St) ∧ LwI K G.CV h c a l v pt o L ln ds (ofN (o0 :: onr)) p H' ∧ Cos K G.CV G.CC G.ST G.CO ⟨L, ln, ds, ofN (o0 :: onr)⟩ R (o0 :: onr) H' x dx t cv all rec sn z ∧ Cos K G.CV G.CC G.ST G.CO ⟨L, ln, ds, ofN []⟩ S [] H' y dy u cw bll rfc sm zz, ?_, ?_⟩
        · refine s_asg (v := .int (o0 : Int)) (ev_op (r := rIxT K) (x := o) (ev_ex rfl t9) ev_c ?_) fun H10 e10 => ⟨rfl, x9.same e10, co9.s e10, cp9.s e10⟩
          rw [epo]
          refine rv_ixT hpo ?_
          unfold atI ixN
          rw [if_pos (Int.le_refl 0), if_pos (by rw [List.length_map, List.length_map, List.length_cons]; omega)]
          rfl
        rintro σ H10 ⟨rfl, x10, co10, cp10⟩
        refine ⟨fun σ H' => σ = ([some (.ref sc), some (.ref h), some v, some pt, some (.ref a), some (.int wd), some (.ref l), v7, some (.int (o0 : Int)), v9, some (.ref x), some (.ref y), none, none, none] : L2.St) ∧ LwI K G.CV h c a l v pt o L ln ds (ofN (o0 :: onr)) p H' ∧ Cos K G.CV G.CC G.ST G.CO ⟨L, ln, ds, ofN (o0 :: onr)⟩ R (o0 :: onr) H' x dx t cv all rec sn z ∧ Cos K G.CV G.CC G.ST G.CO ⟨L, ln, ds, ofN []⟩ S [] H' y dy u cw bll rfc sm zz, ?_, ?_⟩
        · obtain ⟨d10, t10⟩ := x10.ht
          obtain ⟨po, epo, hpo⟩ := id t10.2.2
          have eLast : Ev (tOp (rIxT K) (tProp G.CV (getSp G.CV "odd_days") [] E0 (tVar 4)) (tUn (rU fun i => .int (-i)) (tC (.int 1)))) ([some (.ref sc), some (.ref h), some v, some pt, some (.ref a), some (.int wd), some (.ref l), v7, some (.int (o0 : Int)), v9, some (.ref x), some (.ref y), none, none, none] : L2.St) H10 (.int (lst : Int)) := by
            refine ev_op (x := o) (ev_ex rfl t10) ev_neg1 ?_
            rw [epo]
            refine rv_ixT hpo ?_
            rw [ei]
            unfold ofN
            rw [List.map_append, List.map_append]
            exact last_at _ _
          have lastIn : lst ∈ o0 :: onr := by
            rw [ei]
            exact List.mem_append_right _ (List.mem_singleton.mpr rfl)
          have bh := co10.behind lst lastIn
          refine s_when (b := false) (et_is (et_or (a := false) (b := false) (et_le_no (j := (lst : Int)) (ei_imp (ed_rep rfl co10) fun v H ⟨b, e, hb⟩ => ⟨b, e, by omega⟩) eLast) fun _ => et_is (et_test (ev_op (ev_cos rfl co10 mx0 (ev_var rfl)) (ev_cos rfl cp10 mx0 (ev_var rfl)) (rv_ne rfl))) ?_) rfl) (fun z => by cases z) fun _ H11 e11 => ⟨rfl, x10.same e11, co10.s e11, cp10.s e11⟩
          rw [same o0 (Nat.le_refl _), decide_eq_true rfl]
          rfl
        rintro σ H11 ⟨rfl, x11, co11, cp11⟩
        refine ⟨fun σ H' => ∃ w : V, (w = .non ∨ ∃ n : Nat, w = .int (n : Int) ∧ o0 < n) ∧ σ = ([some (.ref sc), some (.ref h), some v, some pt, some (.ref a), some (.int wd), some (.ref l), v7, some (.int (o0 : Int)), v9, some (.ref x), some (.ref y), some w, none, none] : L2.St) ∧ LwI K G.CV h c a l v pt o L ln ds (ofN (o0 :: onr)) p H' ∧ Cos K G.CV G.CC G.ST G.CO ⟨L, ln, ds, ofN (o0 :: onr)⟩ R (o0 :: onr) H' x dx t cv all rec sn z ∧ Cos K G.CV G.CC G.ST G.CO ⟨L, ln, ds, ofN []⟩ S [] H' y dy u cw bll rfc sm zz, ?_, ?_⟩
        · refine ⟨_, rfl, _, rfl, x, dx, t, cv, all, rec, sn, z, y, dy, u, cw, bll, rfc, sm, zz, _, _, R, S, o0 :: onr, [], rfl, co11, cp11, on6, by decide, fun bs _ _ => ⟨fun i n zp H12 s12 _ _ _ ne _ _ => ?_, fun _ H12 s12 => ?_⟩⟩
          · refine ⟨.int (n : Int), .inr ⟨n, rfl, ?_⟩, rfl, x11.same s12, co11.s s12, cp11.s s12⟩
            by_cases hn : n ≤ o0
            · exact absurd (same n hn) ne
            · omega
          · exact ⟨.non, .inl rfl, rfl, x11.same s12, co11.s s12, cp11.s s12⟩
        rintro σ H12 ⟨w, hw, rfl, x12, co12, cp12⟩
        refine ⟨fun σ H' => σ = ([some (.ref sc), some (.ref h), some v, some pt, some (.ref a), some (.int wd), some (.ref l), v7, some (.int (o0 : Int)), v9, some (.ref x), some (.ref y), some w, none, none] : L2.St) ∧ LwI K G.CV h c a l v pt o L ln ds (ofN (o0 :: onr)) p H' ∧ Cos K G.CV G.CC G.ST G.CO ⟨L, ln, ds, ofN (o0 :: onr)⟩ R (o0 :: onr) H' x dx t cv all rec sn z ∧ Cos K G.CV G.CC G.ST G.CO ⟨L, ln, ds, ofN []⟩ S [] H' y dy u cw bll rfc sm zz, ?_, ?_⟩
        · refine s_when (b := false) (et_is (et_and (a := !decide (w = .non)) (b := false) (et_notN rfl) fun hn => ?_) (Bool.and_false _)) (fun z => by cases z) fun _ H13 e13 => ⟨rfl, x12.same e13, co12.s e13, cp12.s e13⟩
          rcases hw with rfl | ⟨n, rfl, ln'⟩
          · cases hn
          · refine et_is (et_test (ev_op (r := rI0 fun i j => .bl (decide (i ≤ j))) (ev_var rfl) (ev_var rfl) rv_I0)) ?_
            exact decide_eq_false (by omega)
        rintro σ H13 ⟨rfl, x13, co13, cp13⟩
        refine s_when (b := false) (et_is (et_and (a := !gos ⟨L, ln, ds, ofN (o0 :: onr)⟩ o0) (b := false) (et_not (et_B (ev_tlis G.TO.cl rfl co13 mx0 (ev_var rfl)))) fun hg => ?_) (Bool.and_false _)) (fun z => by cases z) fun _ H14 e14 => ⟨_, _, rfl, x13.same e14⟩
        have hg : gos ⟨L, ln, ds, ofN (o0 :: onr)⟩ o0 = false := by
          cases e : gos ⟨L, ln, ds, ofN (o0 :: onr)⟩ o0 with
          | true =>
            rw [e] at hg
            cases hg
          | false => rfl
        refine et_is (et_and (a := decide ((o0 : Int) < 1000000000000000000)) (b := false) (et_test (ev_op (ev_var rfl) (ev_is (ev_pw ev_c ev_c ⟨by decide, by decide, by decide⟩) (by rw [pw18])) rv_I0)) fun hl => ?_) (Bool.and_false _)
        have hl := of_decide_eq_true hl
        refine et_is (et_test (ev_op (ev_dpr rfl co13 (by omega) (ev_var rfl)) ev_c (rv_ne rfl))) ?_
        rw [free_day co13.rc hg]
        rfl
    rintro σ H9 ⟨w8, w12, rfl, x9⟩
    refine ⟨fun σ H' => ∃ (a : Addr) (d o : V) (w8 : Option V), σ = ([some (.ref sc), some (.ref h), some v, some pt, some (.ref a), some (.int wd), some (.ref l), v7, w8, v9, some (.ref x), some (.ref y), w12, none, none] : L2.St) ∧ Tv K G.CV H' a ln d o ds [], ?_, ?_⟩
    · have eR := el_rev (K := K) (σ := ([some (.ref sc), some (.ref h), some v, some pt, some (.ref a), some (.int wd), some (.ref l), v7, w8, v9, some (.ref x), some (.ref y), w12, none, none] : L2.St)) (i := 6) rfl x9.hl
      rw [← List.map_reverse] at eR
      refine s_forNL eR (fun r i σ' H' => ∃ (a : Addr) (d o : V) (os : List Int) (w8 : Option V), σ' = ([some (.ref sc), some (.ref h), some v, some pt, some (.ref a), some (.int wd), some (.ref l), v7, w8, v9, some (.ref x), some (.ref y), w12, none, none] : L2.St) ∧ Tv K G.CV H' a ln d o ds os ∧ Und (p.reverse.drop i) os ∧ H' r = some (.lst (p.reverse.map V.int)))
        (fun r H10 nr e10 hr => ?_) (fun r i σ' H' _ ⟨_, _, _, _, _, _, _, _, hr⟩ => .of hr) ?_ ?_
      · obtain ⟨d, t9⟩ := x9.ht
        exact ⟨a, d, o, _, w8, rfl, t9.same e10, x9.un, hr⟩
      · rintro r i xv σ' H' hx ⟨a, d, o, os, w8, rfl, t, un, hr⟩
        rw [List.getElem?_map] at hx
        cases hd : p.reverse[i]? with
        | none =>
          rw [hd] at hx
          cases hx
        | some day =>
          rw [hd] at hx
          cases hx
          obtain ⟨hi, hday⟩ := List.getElem?_eq_some_iff.mp hd
          rw [List.drop_eq_getElem_cons hi, hday] at un
          obtain ⟨dx, ha⟩ := t.1
          have ug := un.good
          have rng : 0 ≤ day ∧ day ≤ 1000000000000000000 := by
            obtain ⟨_, h0, _⟩ := un
            omega
          have lp : (day :: p.reverse.drop (i + 1)).length ≤ 6 := by
            rw [List.length_cons, List.length_drop]
            rw [List.length_reverse] at hi ⊢
            omega
          refine ⟨_, rfl, a, dx, _, rfl, ha, tvF_no _ _ _ (by decide +kernel) (by decide +kernel) (by decide +kernel), _, rfl, a, ln, day, d, o, ds, os, rfl, t, okT ug.1, by omega, fun _ xs wx => ?_, fun nb => absurd rng nb⟩
          have ub := un.back wx
          refine ⟨fun _ a' o' H11 s11 t11 => ⟨a', d, o', xs, _, rfl, t11, ub, s11 _ _ hr⟩, fun no => ?_⟩
          have := ub.good.2
          rw [List.length_cons] at lp
          omega
      · rintro r σ' H' ⟨a, d, o, os, w8, rfl, t, un, hr⟩
        rw [List.length_map, List.drop_length] at un
        have un : os = [] := un
        subst un
        exact ⟨a, d, o, w8, rfl, t⟩
    rintro σ H10 ⟨a2, d2, o2, w82, rfl, t10⟩
    exact s_ret (ev_eqD (d := .tuple []) (edp_ex rfl t10) (edp_tup eda_nil (by decide)) (tups_sh [])) fun H11 e11 => q H11
end
end Sea

set_option Elab.async false
set_option linter.all false
set_option maxRecDepth 100000
set_option maxHeartbeats 8000000
namespace Sea
open PySem PySem.Spec PyProof.Rows L2 LamX NdefX ClX StX
theorem all_mk {l : PySem.W.OpenLaw} {w : World} {K : PySem.W.Frag} {h : Heap} {mg : Str → Option Value} {fa : Addr} (X : K.In h) (Gn : h.Ns mainGlobals mg) (hfa : mg "law" = some (.ref fa))
    {C CV CC ST CO cP cI cV cN pP pRl pRd pEx pRep pRpr pTl eT fI fV fT fTv fP fRl fRd fEx fTo fIs fCt fTd fWx fSt fHol fVal fCvI fOpn fNot fAdd fClo fKno fRch fCAt fCom fZon fCoI fRep fRpr fTl fCos fDpr fVN fVC fCut fCd fPar fUnl fFdi fMx fN fPs fPat fLc fTu fLaw : Addr}
    {t0 : Tok} {t1 : Tok} {t2 : Tok} {u0 : Tok} {u1 : Tok} {u2 : Tok} {u3 : Tok} {nmI qI : Str} {xNI : Addr} {xbsI xbmI xsubI : List Value} {xsnI : List Str} {xabI : Bool} {xcolI : Option Bool} {xddI : Option Addr} {xm0I xm1I xm2I xm3I xm5I : Option Value} {nmV qV : Str} {xNV : Addr} {xbsV xbmV xsubV : List Value} {xsnV : List Str} {xabV : Bool} {xcolV : Option Bool} {xddV : Option Addr} {xm0V xm1V xm2V xm3V xm5V : Option Value} {ocT : Value} {dcT : Value} {pmT : Value} {ctT : Value} {cdT : Value} {kVT : Value} {odT anT : Option Addr} {slT : Array (Option Value)} {ocI : Value} {dcI : Value} {pmI : Value} {ctI : Value} {cdI : Value} {kVI : Value} {odI anI : Option Addr} {slI : Array (Option Value)} {ocXV : Value} {dcXV : Value} {pmXV : Value} {ctXV : Value} {cdXV : Value} {kVXV : Value} {odXV anXV : Option Addr} {slXV : Array (Option Value)} {reP : List Value} {ocP : Value} {dcP : Value} {pmP : Value} {ctP : Value} {cdP : Value} {kVP : Value} {odP anP : Option Addr} {slP : Array (Option Value)} {ocTv : Value} {dcTv : Value} {pmTv : Value} {ctTv : Value} {cdTv : Value} {odTv anTv : Option Addr} {slTv : Array (Option Value)} {kD : Addr} {eTd : Option Addr} {eTn : Nat} {eTs : Array (Option Value)} {reRl : List Value} {ocRl : Value} {dcRl : Value} {pmRl : Value} {ctRl : Value} {cdRl : Value} {kVRl : Value} {odRl anRl : Option Addr} {slRl : Array (Option Value)} {reRd : List Value} {ocRd : Value} {dcRd : Value} {pmRd : Value} {ctRd : Value} {cdRd : Value} {kVRd : Value} {odRd anRd : Option Addr} {slRd : Array (Option Value)} {reEx : List Value} {ocEx : Value} {dcEx : Value} {pmEx : Value} {ctEx : Value} {cdEx : Value} {kVEx : Value} {odEx anEx : Option Addr} {slEx : Array (Option Value)} {ocTo : Value} {dcTo : Value} {pmTo : Value} {ctTo : Value} {cdTo : Value} {kVTo : Value} {odTo anTo : Option Addr} {slTo : Array (Option Value)} {ocIs : Value} {dcIs : Value} {pmIs : Value} {ctIs : Value} {cdIs : Value} {kVIs : Value} {odIs anIs : Option Addr} {slIs : Array (Option Value)} {ocCt : Value} {dcCt : Value} {pmCt : Value} {ctCt : Value} {cdCt : Value} {kVCt : Value} {odCt anCt : Option Addr} {slCt : Array (Option Value)} {ocTd : Value} {dcTd : Value} {pmTd : Value} {ctTd : Value} {cdTd : Value} {kVTd : Value} {odTd anTd : Option Addr} {slTd : Array (Option Value)} {ocWx : Value} {dcWx : Value} {pmWx : Value} {ctWx : Value} {cdWx : Value} {kVWx : Value} {odWx anWx : Option Addr} {slWx : Array (Option Value)} {ocSt : Value} {dcSt : Value} {pmSt : Value} {ctSt : Value} {cdSt : Value} {kVSt : Value} {odSt anSt : Option Addr} {slSt : Array (Option Value)} {ocHol : Value} {dcHol : Value} {pmHol : Value} {ctHol : Value} {cdHol : Value} {kVHol : Value} {odHol anHol : Option Addr} {slHol : Array (Option Value)} {ocVal : Value} {dcVal : Value} {pmVal : Value} {ctVal : Value} {cdVal : Value} {kVVal : Value} {odVal anVal : Option Addr} {slVal : Array (Option Value)} {ocCvI : Value} {dcCvI : Value} {pmCvI : Value} {ctCvI : Value} {cdCvI : Value} {kVCvI : Value} {odCvI anCvI : Option Addr} {slCvI : Array (Option Value)} {ocOpn : Value} {dcOpn : Value} {pmOpn : Value} {ctOpn : Value} {cdOpn : Value} {kVOpn : Value} {odOpn anOpn : Option Addr} {slOpn : Array (Option Value)} {ocNot : Value} {dcNot : Value} {pmNot : Value} {ctNot : Value} {cdNot : Value} {kVNot : Value} {odNot anNot : Option Addr} {slNot : Array (Option Value)} {ocAdd : Value} {dcAdd : Value} {pmAdd : Value} {ctAdd : Value} {cdAdd : Value} {kVAdd : Value} {odAdd anAdd : Option Addr} {slAdd : Array (Option Value)} {ocClo : Value} {dcClo : Value} {pmClo : Value} {ctClo : Value} {cdClo : Value} {kVClo : Value} {odClo anClo : Option Addr} {slClo : Array (Option Value)} {ocKno : Value} {dcKno : Value} {pmKno : Value} {ctKno : Value} {cdKno : Value} {kVKno : Value} {odKno anKno : Option Addr} {slKno : Array (Option Value)} {ocRch : Value} {dcRch : Value} {pmRch : Value} {ctRch : Value} {cdRch : Value} {kVRch : Value} {odRch anRch : Option Addr} {slRch : Array (Option Value)} {ocCAt : Value} {dcCAt : Value} {pmCAt : Value} {ctCAt : Value} {cdCAt : Value} {kVCAt : Value} {odCAt anCAt : Option Addr} {slCAt : Array (Option Value)} {ocCom : Value} {dcCom : Value} {pmCom : Value} {ctCom : Value} {cdCom : Value} {kVCom : Value} {odCom anCom : Option Addr} {slCom : Array (Option Value)} {ocZon : Value} {dcZon : Value} {pmZon : Value} {ctZon : Value} {cdZon : Value} {kVZon : Value} {odZon anZon : Option Addr} {slZon : Array (Option Value)} {ocCoI : Value} {dcCoI : Value} {pmCoI : Value} {ctCoI : Value} {cdCoI : Value} {kVCoI : Value} {odCoI anCoI : Option Addr} {slCoI : Array (Option Value)} {reRep : List Value} {ocRep : Value} {dcRep : Value} {pmRep : Value} {ctRep : Value} {cdRep : Value} {kVRep : Value} {odRep anRep : Option Addr} {slRep : Array (Option Value)} {reRpr : List Value} {ocRpr : Value} {dcRpr : Value} {pmRpr : Value} {ctRpr : Value} {cdRpr : Value} {kVRpr : Value} {odRpr anRpr : Option Addr} {slRpr : Array (Option Value)} {reTl : List Value} {ocTl : Value} {dcTl : Value} {pmTl : Value} {ctTl : Value} {cdTl : Value} {kVTl : Value} {odTl anTl : Option Addr} {slTl : Array (Option Value)} {ocCos : Value} {dcCos : Value} {pmCos : Value} {ctCos : Value} {cdCos : Value} {kVCos : Value} {odCos anCos : Option Addr} {slCos : Array (Option Value)} {ocDpr : Value} {dcDpr : Value} {pmDpr : Value} {ctDpr : Value} {cdDpr : Value} {kVDpr : Value} {odDpr anDpr : Option Addr} {slDpr : Array (Option Value)} {ocVN : Value} {dcVN : Value} {pmVN : Value} {ctVN : Value} {cdVN : Value} {kVVN : Value} {odVN anVN : Option Addr} {slVN : Array (Option Value)} {ocVC : Value} {dcVC : Value} {pmVC : Value} {ctVC : Value} {cdVC : Value} {kVVC : Value} {odVC anVC : Option Addr} {slVC : Array (Option Value)} {ocCut : Value} {dcCut : Value} {pmCut : Value} {ctCut : Value} {cdCut : Value} {kVCut : Value} {odCut anCut : Option Addr} {slCut : Array (Option Value)} {ocCd : Value} {dcCd : Value} {pmCd : Value} {ctCd : Value} {cdCd : Value} {kVCd : Value} {odCd anCd : Option Addr} {slCd : Array (Option Value)} {ocPar : Value} {dcPar : Value} {pmPar : Value} {ctPar : Value} {cdPar : Value} {kVPar : Value} {odPar anPar : Option Addr} {slPar : Array (Option Value)} {ocUnl : Value} {dcUnl : Value} {pmUnl : Value} {ctUnl : Value} {cdUnl : Value} {kVUnl : Value} {odUnl anUnl : Option Addr} {slUnl : Array (Option Value)} {ocFdi : Value} {dcFdi : Value} {pmFdi : Value} {ctFdi : Value} {cdFdi : Value} {kVFdi : Value} {odFdi anFdi : Option Addr} {slFdi : Array (Option Value)} {ocMx : Value} {dcMx : Value} {pmMx : Value} {ctMx : Value} {cdMx : Value} {kVMx : Value} {odMx anMx : Option Addr} {slMx : Array (Option Value)} {ocN : Value} {dcN : Value} {pmN : Value} {ctN : Value} {cdN : Value} {kVN : Value} {odN anN : Option Addr} {slN : Array (Option Value)} {ocPs : Value} {dcPs : Value} {pmPs : Value} {ctPs : Value} {cdPs : Value} {kVPs : Value} {odPs anPs : Option Addr} {slPs : Array (Option Value)} {ocPat : Value} {dcPat : Value} {pmPat : Value} {ctPat : Value} {cdPat : Value} {kVPat : Value} {odPat anPat : Option Addr} {slPat : Array (Option Value)} {ocLc : Value} {dcLc : Value} {pmLc : Value} {ctLc : Value} {cdLc : Value} {kVLc : Value} {odLc anLc : Option Addr} {slLc : Array (Option Value)} {ocTu : Value} {dcTu : Value} {pmTu : Value} {ctTu : Value} {cdTu : Value} {kVTu : Value} {odTu anTu : Option Addr} {slTu : Array (Option Value)} {ocLaw : Value} {dcLaw : Value} {pmLaw : Value} {ctLaw : Value} {cdLaw : Value} {kVLaw : Value} {odLaw anLaw : Option Addr} {slLaw : Array (Option Value)}
    (aC : PySem.W.nsIn K mainGlobals "Tariff" = some (some (.ref C)))
    (aCV : PySem.W.nsIn K mainGlobals "Travel" = some (some (.ref CV)))
    (aP : PySem.W.nsIn K mainGlobals "PassError" = some (some (.ref cP)))
    (aI : PySem.W.nsIn K mainGlobals "InvalidTariff" = some (some (.ref cI)))
    (aV : PySem.W.nsIn K mainGlobals "InvalidTravel" = some (some (.ref cV)))
    (aN : PySem.W.nsIn K mainGlobals "InvalidCount" = some (some (.ref cN)))
    (aCC : PySem.W.nsIn K mainGlobals "Curve" = some (some (.ref CC)))
    (aST : PySem.W.nsIn K mainGlobals "Stretch" = some (some (.ref ST)))
    (aCO : PySem.W.nsIn K mainGlobals "Costs" = some (some (.ref CO)))
    (z_enumerate : PySem.W.nsIn K mainGlobals "enumerate" = some none)
    (z_len : PySem.W.nsIn K mainGlobals "len" = some none)
    (z_tuple : PySem.W.nsIn K mainGlobals "tuple" = some none)
    (z_int : PySem.W.nsIn K mainGlobals "int" = some none)
    (z_range : PySem.W.nsIn K mainGlobals "range" = some none)
    (z_max : PySem.W.nsIn K mainGlobals "max" = some none)
    (z_min : PySem.W.nsIn K mainGlobals "min" = some none)
    (z_sorted : PySem.W.nsIn K mainGlobals "sorted" = some none)
    (z_list : PySem.W.nsIn K mainGlobals "list" = some none)
    (z_set : PySem.W.nsIn K mainGlobals "set" = some none)
    (pgC : PySem.W.plainGet K C Str.empty = true)
    (hdC : PySem.W.hasDictIn K C = true)
    (poC : PySem.W.plainOver K C = true)
    (saC : PySem.W.findIn K (.ref C) "__setattr__" = some (some (.builtin "object.__setattr__")))
    (mkC : PySem.W.makesIn K C = true)
    (kpCC : PySem.W.keepIn K (.ref C) = true)
    (pgV : PySem.W.plainGet K CV Str.empty = true)
    (hdV : PySem.W.hasDictIn K CV = true)
    (poV : PySem.W.plainOver K CV = true)
    (saV : PySem.W.findIn K (.ref CV) "__setattr__" = some (some (.builtin "object.__setattr__")))
    (mkV : PySem.W.makesIn K CV = true)
    (kpCV : PySem.W.keepIn K (.ref CV) = true)
    (pgQ : PySem.W.plainGet K CC Str.empty = true)
    (hdQ : PySem.W.hasDictIn K CC = true)
    (poQ : PySem.W.plainOver K CC = true)
    (saQ : PySem.W.findIn K (.ref CC) "__setattr__" = some (some (.builtin "object.__setattr__")))
    (mkQ : PySem.W.makesIn K CC = true)
    (kpCQ : PySem.W.keepIn K (.ref CC) = true)
    (pgX : PySem.W.plainGet K ST Str.empty = true)
    (hdX : PySem.W.hasDictIn K ST = true)
    (poX : PySem.W.plainOver K ST = true)
    (saX : PySem.W.findIn K (.ref ST) "__setattr__" = some (some (.builtin "object.__setattr__")))
    (mkX : PySem.W.makesIn K ST = true)
    (kpCX : PySem.W.keepIn K (.ref ST) = true)
    (pgO : PySem.W.plainGet K CO Str.empty = true)
    (hdO : PySem.W.hasDictIn K CO = true)
    (poO : PySem.W.plainOver K CO = true)
    (saO : PySem.W.findIn K (.ref CO) "__setattr__" = some (some (.builtin "object.__setattr__")))
    (mkO : PySem.W.makesIn K CO = true)
    (kpCO : PySem.W.keepIn K (.ref CO) = true)
    (nO : PySem.W.findIn K (.ref C) "offers" = some none)
    (rd : PySem.W.readsIn K C (.type "type") = true)
    (ga : PySem.W.specialIn K (.ref C) "__getattribute__" = some (some (.builtin "type.__getattribute__")))
    (v0 : PySem.W.findCls K (.ref C) (.type "type") "MAX_LENGTH" = some (.val (.int 28 t0)))
    (v1 : PySem.W.findCls K (.ref C) (.type "type") "MAX_PRICE" = some (.val (.int 1000000 t1)))
    (v2 : PySem.W.findCls K (.ref C) (.type "type") "MAX_PASSES" = some (.val (.int 6 t2)))
    (nA0 : PySem.W.findIn K (.ref CV) "size" = some none)
    (nA1 : PySem.W.findIn K (.ref CV) "pattern" = some none)
    (nA2 : PySem.W.findIn K (.ref CV) "odd_days" = some none)
    (nQ0 : PySem.W.findIn K (.ref CC) "offers" = some none)
    (nQ1 : PySem.W.findIn K (.ref CC) "days_of_travel" = some none)
    (nQ2 : PySem.W.findIn K (.ref CC) "reach" = some none)
    (nQ3 : PySem.W.findIn K (.ref CC) "cuts" = some none)
    (nQ4 : PySem.W.findIn K (.ref CC) "stretches" = some none)
    (nQ5 : PySem.W.findIn K (.ref CC) "recent" = some none)
    (nQ6 : PySem.W.findIn K (.ref CC) "seen" = some none)
    (nX0 : PySem.W.findIn K (.ref ST) "begin" = some none)
    (nX1 : PySem.W.findIn K (.ref ST) "end" = some none)
    (nX2 : PySem.W.findIn K (.ref ST) "totals" = some none)
    (nX3 : PySem.W.findIn K (.ref ST) "start" = some none)
    (nX4 : PySem.W.findIn K (.ref ST) "days" = some none)
    (nX5 : PySem.W.findIn K (.ref ST) "gain" = some none)
    (nP0 : PySem.W.findIn K (.ref CO) "offer" = some none)
    (nP1 : PySem.W.findIn K (.ref CO) "trips" = some none)
    (nP2 : PySem.W.findIn K (.ref CO) "curve" = some none)
    (nP3 : PySem.W.findIn K (.ref CO) "last" = some none)
    (w0 : PySem.W.nsIn K mainGlobals "MAX_ROUND" = some (some (.int 14 u0)))
    (w1 : PySem.W.nsIn K mainGlobals "MAX_EXCEPTIONS" = some (some (.int 6 u1)))
    (w2 : PySem.W.nsIn K mainGlobals "MAX_DAYS" = some (some (.int 1000000000000000000 u2)))
    (w3 : PySem.W.nsIn K mainGlobals "MAX_YIELDED" = some (some (.int 10000 u3)))
    (xLI : K.lookup cI = some (excClassObj nmI qI cI xNI xbsI xbmI true xsnI xsubI xabI xcolI xddI xm0I xm1I xm2I xm3I xm5I "ValueError.__new__"))
    (xrvI : PySem.HandSPX.refsVE xbmI = true)
    (xsaI : PySem.W.findIn K (.ref cI) "__setattr__" = some (some (.builtin "object.__setattr__")))
    (sI : PySem.W.subIn K (.ref cI) (.type "BaseException") = some true)
    (yI : PySem.W.typeIn K (.ref cI) = some (.type "type"))
    (kpI : PySem.W.keepIn K (.ref cI) = true)
    (nI_index : PySem.W.findIn K (.ref cI) "index" = some none)
    (iI : PySem.W.findIn K (.ref cI) "__init__" = some (some (.ref fI)))
    (tI : PySem.W.typeIn K (.ref fI) = some (.type "function"))
    (egI : PySem.W.findIn K (.ref cI) "__getattribute__" = some (some (.builtin "BaseException.__getattribute__")))
    (ekI : PySem.W.findIn K (.ref cI) "__getattr__" = some none)
    (ehI : PySem.W.hasDictIn K cI = true)
    (xLV : K.lookup cV = some (excClassObj nmV qV cV xNV xbsV xbmV true xsnV xsubV xabV xcolV xddV xm0V xm1V xm2V xm3V xm5V "ValueError.__new__"))
    (xrvV : PySem.HandSPX.refsVE xbmV = true)
    (xsaV : PySem.W.findIn K (.ref cV) "__setattr__" = some (some (.builtin "object.__setattr__")))
    (sV : PySem.W.subIn K (.ref cV) (.type "BaseException") = some true)
    (yV : PySem.W.typeIn K (.ref cV) = some (.type "type"))
    (kpV : PySem.W.keepIn K (.ref cV) = true)
    (nV_part : PySem.W.findIn K (.ref cV) "part" = some none)
    (nV_index : PySem.W.findIn K (.ref cV) "index" = some none)
    (iV : PySem.W.findIn K (.ref cV) "__init__" = some (some (.ref fV)))
    (tV : PySem.W.typeIn K (.ref fV) = some (.type "function"))
    (egV : PySem.W.findIn K (.ref cV) "__getattribute__" = some (some (.builtin "BaseException.__getattribute__")))
    (ekV : PySem.W.findIn K (.ref cV) "__getattr__" = some none)
    (ehV : PySem.W.hasDictIn K cV = true)
    (prd : PySem.W.readsIn K cP (.type "type") = true)
    (pga : PySem.W.specialIn K (.ref cP) "__getattribute__" = some (some (.builtin "type.__getattribute__")))
    (pat : PySem.W.findCls K (.ref cP) (.type "type") "__init__" = some (.val (.builtin "ValueError.__init__")))
    (qN : PySem.W.excIn K cN [.type "ValueError", .type "Exception", .type "BaseException", .type "object"] "ValueError.__new__" = true)
    (kN : PySem.W.keepIn K (.ref cN) = true)
    (sN : PySem.W.subIn K (.ref cN) (.type "BaseException") = some true)
    (yN : PySem.W.typeIn K (.ref cN) = some (.type "type"))
    (atT : PySem.W.findIn K (.ref C) "__init__" = some (some (.ref fT)))
    (ifT : PySem.W.isFn K (.ref fT) = true)
    (lT : K.lookup fT = some ⟨ocT, odT, .func (PySem.W.fnOf "__init__" "Tariff.__init__" (defArgs sInit) (defBody sInit) (defScope sInit) .none kVT dcT pmT anT cdT ctT), slT⟩)
    (cd_T : PySem.W.codeIn K cdT "Tariff.__init__" = true)
    (kp_T : PySem.W.keepIn K (.ref fT) = true)
    (lI : K.lookup fI = some ⟨ocI, odI, .func (PySem.W.fnOf "__init__" "InvalidTariff.__init__" (defArgs sIT) (defBody sIT) (defScope sIT) .none kVI dcI pmI anI cdI ctI), slI⟩)
    (cd_I : PySem.W.codeIn K cdI "InvalidTariff.__init__" = true)
    (kp_I : PySem.W.keepIn K (.ref fI) = true)
    (lXV : K.lookup fV = some ⟨ocXV, odXV, .func (PySem.W.fnOf "__init__" "InvalidTravel.__init__" (defArgs sIV) (defBody sIV) (defScope sIV) .none kVXV dcXV pmXV anXV cdXV ctXV), slXV⟩)
    (cd_XV : PySem.W.codeIn K cdXV "InvalidTravel.__init__" = true)
    (kp_XV : PySem.W.keepIn K (.ref fV) = true)
    (atP : PySem.W.findIn K (.ref C) "passes" = some (some (.ref pP)))
    (geP : PySem.W.specialIn K (.ref pP) "__get__" = some (some (.builtin "property.__get__")))
    (taP : PySem.W.takesIn K (.ref pP) = some true)
    (rcP : PySem.W.recIn K pP "property" = some (.ref fP :: reP))
    (lP : K.lookup fP = some ⟨ocP, odP, .func (PySem.W.fnOf "passes" "Tariff.passes" (defArgs sPasses) (defBody sPasses) (defScope sPasses) .none kVP dcP pmP anP cdP ctP), slP⟩)
    (cd_P : PySem.W.codeIn K cdP "Tariff.passes" = true)
    (kp_P : PySem.W.keepIn K (.ref fP) = true)
    (atTv : PySem.W.findIn K (.ref CV) "__init__" = some (some (.ref fTv)))
    (ifTv : PySem.W.isFn K (.ref fTv) = true)
    (lTv : K.lookup fTv = some ⟨ocTv, odTv, .func (PySem.W.fnOf "__init__" "Travel.__init__" (defArgs sTvI) (defBody sTvI) (defScope sTvI) .none (.ref kD) dcTv pmTv anTv cdTv ctTv), slTv⟩)
    (cd_Tv : PySem.W.codeIn K cdTv "Travel.__init__" = true)
    (kp_Tv : PySem.W.keepIn K (.ref fTv) = true)
    (kx : PySem.W.nsIn K kD "exceptions" = some (some (.ref eT)))
    (eTl : K.lookup eT = some ⟨.type "tuple", eTd, .seq #[] eTn, eTs⟩)
    (atRl : PySem.W.findIn K (.ref CV) "round_length" = some (some (.ref pRl)))
    (geRl : PySem.W.specialIn K (.ref pRl) "__get__" = some (some (.builtin "property.__get__")))
    (taRl : PySem.W.takesIn K (.ref pRl) = some true)
    (rcRl : PySem.W.recIn K pRl "property" = some (.ref fRl :: reRl))
    (lRl : K.lookup fRl = some ⟨ocRl, odRl, .func (PySem.W.fnOf "round_length" "Travel.round_length" (defArgs sRl) (defBody sRl) (defScope sRl) .none kVRl dcRl pmRl anRl cdRl ctRl), slRl⟩)
    (cd_Rl : PySem.W.codeIn K cdRl "Travel.round_length" = true)
    (kp_Rl : PySem.W.keepIn K (.ref fRl) = true)
    (atRd : PySem.W.findIn K (.ref CV) "round_days" = some (some (.ref pRd)))
    (geRd : PySem.W.specialIn K (.ref pRd) "__get__" = some (some (.builtin "property.__get__")))
    (taRd : PySem.W.takesIn K (.ref pRd) = some true)
    (rcRd : PySem.W.recIn K pRd "property" = some (.ref fRd :: reRd))
    (lRd : K.lookup fRd = some ⟨ocRd, odRd, .func (PySem.W.fnOf "round_days" "Travel.round_days" (defArgs sRd) (defBody sRd) (defScope sRd) .none kVRd dcRd pmRd anRd cdRd ctRd), slRd⟩)
    (cd_Rd : PySem.W.codeIn K cdRd "Travel.round_days" = true)
    (kp_Rd : PySem.W.keepIn K (.ref fRd) = true)
    (atEx : PySem.W.findIn K (.ref CV) "exceptions" = some (some (.ref pEx)))
    (geEx : PySem.W.specialIn K (.ref pEx) "__get__" = some (some (.builtin "property.__get__")))
    (taEx : PySem.W.takesIn K (.ref pEx) = some true)
    (rcEx : PySem.W.recIn K pEx "property" = some (.ref fEx :: reEx))
    (lEx : K.lookup fEx = some ⟨ocEx, odEx, .func (PySem.W.fnOf "exceptions" "Travel.exceptions" (defArgs sEx) (defBody sEx) (defScope sEx) .none kVEx dcEx pmEx anEx cdEx ctEx), slEx⟩)
    (cd_Ex : PySem.W.codeIn K cdEx "Travel.exceptions" = true)
    (kp_Ex : PySem.W.keepIn K (.ref fEx) = true)
    (atTo : PySem.W.findIn K (.ref CV) "travels_on" = some (some (.ref fTo)))
    (ifTo : PySem.W.isFn K (.ref fTo) = true)
    (lTo : K.lookup fTo = some ⟨ocTo, odTo, .func (PySem.W.fnOf "travels_on" "Travel.travels_on" (defArgs sTo) (defBody sTo) (defScope sTo) .none kVTo dcTo pmTo anTo cdTo ctTo), slTo⟩)
    (cd_To : PySem.W.codeIn K cdTo "Travel.travels_on" = true)
    (kp_To : PySem.W.keepIn K (.ref fTo) = true)
    (atIs : PySem.W.findIn K (.ref CV) "is_travel_day" = some (some (.ref fIs)))
    (ifIs : PySem.W.isFn K (.ref fIs) = true)
    (lIs : K.lookup fIs = some ⟨ocIs, odIs, .func (PySem.W.fnOf "is_travel_day" "Travel.is_travel_day" (defArgs sIs) (defBody sIs) (defScope sIs) .none kVIs dcIs pmIs anIs cdIs ctIs), slIs⟩)
    (cd_Is : PySem.W.codeIn K cdIs "Travel.is_travel_day" = true)
    (kp_Is : PySem.W.keepIn K (.ref fIs) = true)
    (atCt : PySem.W.findIn K (.ref CV) "count_travel_days" = some (some (.ref fCt)))
    (ifCt : PySem.W.isFn K (.ref fCt) = true)
    (lCt : K.lookup fCt = some ⟨ocCt, odCt, .func (PySem.W.fnOf "count_travel_days" "Travel.count_travel_days" (defArgs sCt) (defBody sCt) (defScope sCt) .none kVCt dcCt pmCt anCt cdCt ctCt), slCt⟩)
    (cd_Ct : PySem.W.codeIn K cdCt "Travel.count_travel_days" = true)
    (kp_Ct : PySem.W.keepIn K (.ref fCt) = true)
    (atTd : PySem.W.findIn K (.ref CV) "travel_days" = some (some (.ref fTd)))
    (ifTd : PySem.W.isFn K (.ref fTd) = true)
    (lTd : K.lookup fTd = some ⟨ocTd, odTd, .func (PySem.W.fnOf "travel_days" "Travel.travel_days" (defArgs sTd) (defBody sTd) (defScope sTd) .none kVTd dcTd pmTd anTd cdTd ctTd), slTd⟩)
    (cd_Td : PySem.W.codeIn K cdTd "Travel.travel_days" = true)
    (kp_Td : PySem.W.keepIn K (.ref fTd) = true)
    (atWx : PySem.W.findIn K (.ref CV) "with_exception" = some (some (.ref fWx)))
    (ifWx : PySem.W.isFn K (.ref fWx) = true)
    (lWx : K.lookup fWx = some ⟨ocWx, odWx, .func (PySem.W.fnOf "with_exception" "Travel.with_exception" (defArgs sWx) (defBody sWx) (defScope sWx) .none kVWx dcWx pmWx anWx cdWx ctWx), slWx⟩)
    (cd_Wx : PySem.W.codeIn K cdWx "Travel.with_exception" = true)
    (kp_Wx : PySem.W.keepIn K (.ref fWx) = true)
    (atSt : PySem.W.findIn K (.ref ST) "__init__" = some (some (.ref fSt)))
    (ifSt : PySem.W.isFn K (.ref fSt) = true)
    (lSt : K.lookup fSt = some ⟨ocSt, odSt, .func (PySem.W.fnOf "__init__" "Stretch.__init__" (defArgs sStI) (defBody sStI) (defScope sStI) .none kVSt dcSt pmSt anSt cdSt ctSt), slSt⟩)
    (cd_St : PySem.W.codeIn K cdSt "Stretch.__init__" = true)
    (kp_St : PySem.W.keepIn K (.ref fSt) = true)
    (atHol : PySem.W.findIn K (.ref ST) "holds" = some (some (.ref fHol)))
    (ifHol : PySem.W.isFn K (.ref fHol) = true)
    (lHol : K.lookup fHol = some ⟨ocHol, odHol, .func (PySem.W.fnOf "holds" "Stretch.holds" (defArgs sHol) (defBody sHol) (defScope sHol) .none kVHol dcHol pmHol anHol cdHol ctHol), slHol⟩)
    (cd_Hol : PySem.W.codeIn K cdHol "Stretch.holds" = true)
    (kp_Hol : PySem.W.keepIn K (.ref fHol) = true)
    (atVal : PySem.W.findIn K (.ref ST) "value" = some (some (.ref fVal)))
    (ifVal : PySem.W.isFn K (.ref fVal) = true)
    (lVal : K.lookup fVal = some ⟨ocVal, odVal, .func (PySem.W.fnOf "value" "Stretch.value" (defArgs sVal) (defBody sVal) (defScope sVal) .none kVVal dcVal pmVal anVal cdVal ctVal), slVal⟩)
    (cd_Val : PySem.W.codeIn K cdVal "Stretch.value" = true)
    (kp_Val : PySem.W.keepIn K (.ref fVal) = true)
    (atCvI : PySem.W.findIn K (.ref CC) "__init__" = some (some (.ref fCvI)))
    (ifCvI : PySem.W.isFn K (.ref fCvI) = true)
    (lCvI : K.lookup fCvI = some ⟨ocCvI, odCvI, .func (PySem.W.fnOf "__init__" "Curve.__init__" (defArgs sCvI) (defBody sCvI) (defScope sCvI) .none kVCvI dcCvI pmCvI anCvI cdCvI ctCvI), slCvI⟩)
    (cd_CvI : PySem.W.codeIn K cdCvI "Curve.__init__" = true)
    (kp_CvI : PySem.W.keepIn K (.ref fCvI) = true)
    (atOpn : PySem.W.findIn K (.ref CC) "open_stretch" = some (some (.ref fOpn)))
    (ifOpn : PySem.W.isFn K (.ref fOpn) = true)
    (lOpn : K.lookup fOpn = some ⟨ocOpn, odOpn, .func (PySem.W.fnOf "open_stretch" "Curve.open_stretch" (defArgs sOpn) (defBody sOpn) (defScope sOpn) .none kVOpn dcOpn pmOpn anOpn cdOpn ctOpn), slOpn⟩)
    (cd_Opn : PySem.W.codeIn K cdOpn "Curve.open_stretch" = true)
    (kp_Opn : PySem.W.keepIn K (.ref fOpn) = true)
    (atNot : PySem.W.findIn K (.ref CC) "note_state" = some (some (.ref fNot)))
    (ifNot : PySem.W.isFn K (.ref fNot) = true)
    (lNot : K.lookup fNot = some ⟨ocNot, odNot, .func (PySem.W.fnOf "note_state" "Curve.note_state" (defArgs sNot) (defBody sNot) (defScope sNot) .none kVNot dcNot pmNot anNot cdNot ctNot), slNot⟩)
    (cd_Not : PySem.W.codeIn K cdNot "Curve.note_state" = true)
    (kp_Not : PySem.W.keepIn K (.ref fNot) = true)
    (atAdd : PySem.W.findIn K (.ref CC) "add_day" = some (some (.ref fAdd)))
    (ifAdd : PySem.W.isFn K (.ref fAdd) = true)
    (lAdd : K.lookup fAdd = some ⟨ocAdd, odAdd, .func (PySem.W.fnOf "add_day" "Curve.add_day" (defArgs sAdd) (defBody sAdd) (defScope sAdd) .none kVAdd dcAdd pmAdd anAdd cdAdd ctAdd), slAdd⟩)
    (cd_Add : PySem.W.codeIn K cdAdd "Curve.add_day" = true)
    (kp_Add : PySem.W.keepIn K (.ref fAdd) = true)
    (atClo : PySem.W.findIn K (.ref CC) "close_stretch" = some (some (.ref fClo)))
    (ifClo : PySem.W.isFn K (.ref fClo) = true)
    (lClo : K.lookup fClo = some ⟨ocClo, odClo, .func (PySem.W.fnOf "close_stretch" "Curve.close_stretch" (defArgs sClo) (defBody sClo) (defScope sClo) .none kVClo dcClo pmClo anClo cdClo ctClo), slClo⟩)
    (cd_Clo : PySem.W.codeIn K cdClo "Curve.close_stretch" = true)
    (kp_Clo : PySem.W.keepIn K (.ref fClo) = true)
    (atKno : PySem.W.findIn K (.ref CC) "known" = some (some (.ref fKno)))
    (ifKno : PySem.W.isFn K (.ref fKno) = true)
    (lKno : K.lookup fKno = some ⟨ocKno, odKno, .func (PySem.W.fnOf "known" "Curve.known" (defArgs sKno) (defBody sKno) (defScope sKno) .none kVKno dcKno pmKno anKno cdKno ctKno), slKno⟩)
    (cd_Kno : PySem.W.codeIn K cdKno "Curve.known" = true)
    (kp_Kno : PySem.W.keepIn K (.ref fKno) = true)
    (atRch : PySem.W.findIn K (.ref CC) "reach_count" = some (some (.ref fRch)))
    (ifRch : PySem.W.isFn K (.ref fRch) = true)
    (lRch : K.lookup fRch = some ⟨ocRch, odRch, .func (PySem.W.fnOf "reach_count" "Curve.reach_count" (defArgs sRch) (defBody sRch) (defScope sRch) .none kVRch dcRch pmRch anRch cdRch ctRch), slRch⟩)
    (cd_Rch : PySem.W.codeIn K cdRch "Curve.reach_count" = true)
    (kp_Rch : PySem.W.keepIn K (.ref fRch) = true)
    (atCAt : PySem.W.findIn K (.ref CC) "at" = some (some (.ref fCAt)))
    (ifCAt : PySem.W.isFn K (.ref fCAt) = true)
    (lCAt : K.lookup fCAt = some ⟨ocCAt, odCAt, .func (PySem.W.fnOf "at" "Curve.at" (defArgs sCAt) (defBody sCAt) (defScope sCAt) .none kVCAt dcCAt pmCAt anCAt cdCAt ctCAt), slCAt⟩)
    (cd_CAt : PySem.W.codeIn K cdCAt "Curve.at" = true)
    (kp_CAt : PySem.W.keepIn K (.ref fCAt) = true)
    (atCom : PySem.W.findIn K (.ref CC) "complete" = some (some (.ref fCom)))
    (ifCom : PySem.W.isFn K (.ref fCom) = true)
    (lCom : K.lookup fCom = some ⟨ocCom, odCom, .func (PySem.W.fnOf "complete" "Curve.complete" (defArgs sCom) (defBody sCom) (defScope sCom) .none kVCom dcCom pmCom anCom cdCom ctCom), slCom⟩)
    (cd_Com : PySem.W.codeIn K cdCom "Curve.complete" = true)
    (kp_Com : PySem.W.keepIn K (.ref fCom) = true)
    (atZon : PySem.W.findIn K (.ref CC) "zones" = some (some (.ref fZon)))
    (ifZon : PySem.W.isFn K (.ref fZon) = true)
    (lZon : K.lookup fZon = some ⟨ocZon, odZon, .func (PySem.W.fnOf "zones" "Curve.zones" (defArgs sZon) (defBody sZon) (defScope sZon) .none kVZon dcZon pmZon anZon cdZon ctZon), slZon⟩)
    (cd_Zon : PySem.W.codeIn K cdZon "Curve.zones" = true)
    (kp_Zon : PySem.W.keepIn K (.ref fZon) = true)
    (atCoI : PySem.W.findIn K (.ref CO) "__init__" = some (some (.ref fCoI)))
    (ifCoI : PySem.W.isFn K (.ref fCoI) = true)
    (lCoI : K.lookup fCoI = some ⟨ocCoI, odCoI, .func (PySem.W.fnOf "__init__" "Costs.__init__" (defArgs sCoI) (defBody sCoI) (defScope sCoI) .none kVCoI dcCoI pmCoI anCoI cdCoI ctCoI), slCoI⟩)
    (cd_CoI : PySem.W.codeIn K cdCoI "Costs.__init__" = true)
    (kp_CoI : PySem.W.keepIn K (.ref fCoI) = true)
    (atRep : PySem.W.findIn K (.ref CO) "repetition" = some (some (.ref pRep)))
    (geRep : PySem.W.specialIn K (.ref pRep) "__get__" = some (some (.builtin "property.__get__")))
    (taRep : PySem.W.takesIn K (.ref pRep) = some true)
    (rcRep : PySem.W.recIn K pRep "property" = some (.ref fRep :: reRep))
    (lRep : K.lookup fRep = some ⟨ocRep, odRep, .func (PySem.W.fnOf "repetition" "Costs.repetition" (defArgs sRep) (defBody sRep) (defScope sRep) .none kVRep dcRep pmRep anRep cdRep ctRep), slRep⟩)
    (cd_Rep : PySem.W.codeIn K cdRep "Costs.repetition" = true)
    (kp_Rep : PySem.W.keepIn K (.ref fRep) = true)
    (atRpr : PySem.W.findIn K (.ref CO) "round_price" = some (some (.ref pRpr)))
    (geRpr : PySem.W.specialIn K (.ref pRpr) "__get__" = some (some (.builtin "property.__get__")))
    (taRpr : PySem.W.takesIn K (.ref pRpr) = some true)
    (rcRpr : PySem.W.recIn K pRpr "property" = some (.ref fRpr :: reRpr))
    (lRpr : K.lookup fRpr = some ⟨ocRpr, odRpr, .func (PySem.W.fnOf "round_price" "Costs.round_price" (defArgs sRpr) (defBody sRpr) (defScope sRpr) .none kVRpr dcRpr pmRpr anRpr cdRpr ctRpr), slRpr⟩)
    (cd_Rpr : PySem.W.codeIn K cdRpr "Costs.round_price" = true)
    (kp_Rpr : PySem.W.keepIn K (.ref fRpr) = true)
    (atTl : PySem.W.findIn K (.ref CO) "travel" = some (some (.ref pTl)))
    (geTl : PySem.W.specialIn K (.ref pTl) "__get__" = some (some (.builtin "property.__get__")))
    (taTl : PySem.W.takesIn K (.ref pTl) = some true)
    (rcTl : PySem.W.recIn K pTl "property" = some (.ref fTl :: reTl))
    (lTl : K.lookup fTl = some ⟨ocTl, odTl, .func (PySem.W.fnOf "travel" "Costs.travel" (defArgs sTl) (defBody sTl) (defScope sTl) .none kVTl dcTl pmTl anTl cdTl ctTl), slTl⟩)
    (cd_Tl : PySem.W.codeIn K cdTl "Costs.travel" = true)
    (kp_Tl : PySem.W.keepIn K (.ref fTl) = true)
    (atCos : PySem.W.findIn K (.ref CO) "cost" = some (some (.ref fCos)))
    (ifCos : PySem.W.isFn K (.ref fCos) = true)
    (lCos : K.lookup fCos = some ⟨ocCos, odCos, .func (PySem.W.fnOf "cost" "Costs.cost" (defArgs sCos) (defBody sCos) (defScope sCos) .none kVCos dcCos pmCos anCos cdCos ctCos), slCos⟩)
    (cd_Cos : PySem.W.codeIn K cdCos "Costs.cost" = true)
    (kp_Cos : PySem.W.keepIn K (.ref fCos) = true)
    (atDpr : PySem.W.findIn K (.ref CO) "day_price" = some (some (.ref fDpr)))
    (ifDpr : PySem.W.isFn K (.ref fDpr) = true)
    (lDpr : K.lookup fDpr = some ⟨ocDpr, odDpr, .func (PySem.W.fnOf "day_price" "Costs.day_price" (defArgs sDpr) (defBody sDpr) (defScope sDpr) .none kVDpr dcDpr pmDpr anDpr cdDpr ctDpr), slDpr⟩)
    (cd_Dpr : PySem.W.codeIn K cdDpr "Costs.day_price" = true)
    (kp_Dpr : PySem.W.keepIn K (.ref fDpr) = true)
    (atVN : PySem.W.nsIn K mainGlobals "validate_numbers" = some (some (.ref fVN)))
    (lVN : K.lookup fVN = some ⟨ocVN, odVN, .func (PySem.W.fnOf "validate_numbers" "validate_numbers" (defArgs sVN) (defBody sVN) (defScope sVN) .none kVVN dcVN pmVN anVN cdVN ctVN), slVN⟩)
    (cd_VN : PySem.W.codeIn K cdVN "validate_numbers" = true)
    (kp_VN : PySem.W.keepIn K (.ref fVN) = true)
    (atVC : PySem.W.nsIn K mainGlobals "validate_count" = some (some (.ref fVC)))
    (lVC : K.lookup fVC = some ⟨ocVC, odVC, .func (PySem.W.fnOf "validate_count" "validate_count" (defArgs sVC) (defBody sVC) (defScope sVC) .none kVVC dcVC pmVC anVC cdVC ctVC), slVC⟩)
    (cd_VC : PySem.W.codeIn K cdVC "validate_count" = true)
    (kp_VC : PySem.W.keepIn K (.ref fVC) = true)
    (atCut : PySem.W.nsIn K mainGlobals "cuts_of" = some (some (.ref fCut)))
    (lCut : K.lookup fCut = some ⟨ocCut, odCut, .func (PySem.W.fnOf "cuts_of" "cuts_of" (defArgs sCut) (defBody sCut) (defScope sCut) .none kVCut dcCut pmCut anCut cdCut ctCut), slCut⟩)
    (cd_Cut : PySem.W.codeIn K cdCut "cuts_of" = true)
    (kp_Cut : PySem.W.keepIn K (.ref fCut) = true)
    (atCd : PySem.W.nsIn K mainGlobals "common_divisor" = some (some (.ref fCd)))
    (lCd : K.lookup fCd = some ⟨ocCd, odCd, .func (PySem.W.fnOf "common_divisor" "common_divisor" (defArgs sCd) (defBody sCd) (defScope sCd) .none kVCd dcCd pmCd anCd cdCd ctCd), slCd⟩)
    (cd_Cd : PySem.W.codeIn K cdCd "common_divisor" = true)
    (kp_Cd : PySem.W.keepIn K (.ref fCd) = true)
    (atPar : PySem.W.nsIn K mainGlobals "parts_of" = some (some (.ref fPar)))
    (lPar : K.lookup fPar = some ⟨ocPar, odPar, .func (PySem.W.fnOf "parts_of" "parts_of" (defArgs sPar) (defBody sPar) (defScope sPar) .none kVPar dcPar pmPar anPar cdPar ctPar), slPar⟩)
    (cd_Par : PySem.W.codeIn K cdPar "parts_of" = true)
    (kp_Par : PySem.W.keepIn K (.ref fPar) = true)
    (atUnl : PySem.W.nsIn K mainGlobals "first_unlike" = some (some (.ref fUnl)))
    (lUnl : K.lookup fUnl = some ⟨ocUnl, odUnl, .func (PySem.W.fnOf "first_unlike" "first_unlike" (defArgs sUnl) (defBody sUnl) (defScope sUnl) .none kVUnl dcUnl pmUnl anUnl cdUnl ctUnl), slUnl⟩)
    (cd_Unl : PySem.W.codeIn K cdUnl "first_unlike" = true)
    (kp_Unl : PySem.W.keepIn K (.ref fUnl) = true)
    (atFdi : PySem.W.nsIn K mainGlobals "first_difference" = some (some (.ref fFdi)))
    (lFdi : K.lookup fFdi = some ⟨ocFdi, odFdi, .func (PySem.W.fnOf "first_difference" "first_difference" (defArgs sFdi) (defBody sFdi) (defScope sFdi) .none kVFdi dcFdi pmFdi anFdi cdFdi ctFdi), slFdi⟩)
    (cd_Fdi : PySem.W.codeIn K cdFdi "first_difference" = true)
    (kp_Fdi : PySem.W.keepIn K (.ref fFdi) = true)
    (atMx : PySem.W.nsIn K mainGlobals "_law_mix" = some (some (.ref fMx)))
    (lMx : K.lookup fMx = some ⟨ocMx, odMx, .func (PySem.W.fnOf "_law_mix" "_law_mix" (defArgs sMix) (defBody sMix) (defScope sMix) .none kVMx dcMx pmMx anMx cdMx ctMx), slMx⟩)
    (cd_Mx : PySem.W.codeIn K cdMx "_law_mix" = true)
    (kp_Mx : PySem.W.keepIn K (.ref fMx) = true)
    (atN : PySem.W.nsIn K mainGlobals "_law_next" = some (some (.ref fN)))
    (lN : K.lookup fN = some ⟨ocN, odN, .func (PySem.W.fnOf "_law_next" "_law_next" (defArgs sNext) (defBody sNext) (defScope sNext) .none kVN dcN pmN anN cdN ctN), slN⟩)
    (cd_N : PySem.W.codeIn K cdN "_law_next" = true)
    (kp_N : PySem.W.keepIn K (.ref fN) = true)
    (atPs : PySem.W.nsIn K mainGlobals "_law_passes" = some (some (.ref fPs)))
    (lPs : K.lookup fPs = some ⟨ocPs, odPs, .func (PySem.W.fnOf "_law_passes" "_law_passes" (defArgs sDrawn) (defBody sDrawn) (defScope sDrawn) .none kVPs dcPs pmPs anPs cdPs ctPs), slPs⟩)
    (cd_Ps : PySem.W.codeIn K cdPs "_law_passes" = true)
    (kp_Ps : PySem.W.keepIn K (.ref fPs) = true)
    (atPat : PySem.W.nsIn K mainGlobals "_law_pattern" = some (some (.ref fPat)))
    (lPat : K.lookup fPat = some ⟨ocPat, odPat, .func (PySem.W.fnOf "_law_pattern" "_law_pattern" (defArgs sPat) (defBody sPat) (defScope sPat) .none kVPat dcPat pmPat anPat cdPat ctPat), slPat⟩)
    (cd_Pat : PySem.W.codeIn K cdPat "_law_pattern" = true)
    (kp_Pat : PySem.W.keepIn K (.ref fPat) = true)
    (atLc : PySem.W.nsIn K mainGlobals "_law_costs" = some (some (.ref fLc)))
    (lLc : K.lookup fLc = some ⟨ocLc, odLc, .func (PySem.W.fnOf "_law_costs" "_law_costs" (defArgs sLc) (defBody sLc) (defScope sLc) .none kVLc dcLc pmLc anLc cdLc ctLc), slLc⟩)
    (cd_Lc : PySem.W.codeIn K cdLc "_law_costs" = true)
    (kp_Lc : PySem.W.keepIn K (.ref fLc) = true)
    (atTu : PySem.W.nsIn K mainGlobals "_law_is_turned" = some (some (.ref fTu)))
    (lTu : K.lookup fTu = some ⟨ocTu, odTu, .func (PySem.W.fnOf "_law_is_turned" "_law_is_turned" (defArgs sTu) (defBody sTu) (defScope sTu) .none kVTu dcTu pmTu anTu cdTu ctTu), slTu⟩)
    (cd_Tu : PySem.W.codeIn K cdTu "_law_is_turned" = true)
    (kp_Tu : PySem.W.keepIn K (.ref fTu) = true)
    (atLaw : PySem.W.nsIn K mainGlobals "law" = some (some (.ref fLaw)))
    (lLaw : K.lookup fLaw = some ⟨ocLaw, odLaw, .func (PySem.W.fnOf "law" "law" (defArgs sLaw) (defBody sLaw) (defScope sLaw) .none kVLaw dcLaw pmLaw anLaw cdLaw ctLaw), slLaw⟩)
    (cd_Law : PySem.W.codeIn K cdLaw "law" = true)
    (kp_Law : PySem.W.keepIn K (.ref fLaw) = true)
    : LawAtS l w K CX0 14 63 "_law_script" mg fa h := by
  have e := hfa.symm.trans (PySem.W.mg_of X Gn atLaw)
  cases e
  have oexI : OexC K cI := ⟨⟨_, _, _, _, _, _, _, _, _, _, _, _, _, _, _, xLI, xrvI⟩, xsaI, sI, yI, kpI⟩
  have oexV : OexC K cV := ⟨⟨_, _, _, _, _, _, _, _, _, _, _, _, _, _, _, xLV, xrvV⟩, xsaV, sV, yV, kpV⟩
  let G : Gd K mg := {
    C := C, CV := CV, CC := CC, ST := ST, CO := CO, cP := cP, cI := cI, cV := cV, cN := cN, fI := fI, fV := fV, fT := fT, fTv := fTv, fP := fP, pP := pP, fVN := fVN, fVC := fVC, fRl := fRl, pRl := pRl, fRd := fRd, pRd := pRd, fEx := fEx, pEx := pEx, fTo := fTo, fIs := fIs, fCt := fCt, fTd := fTd, fWx := fWx, fSt := fSt, fNot := fNot, fOpn := fOpn, fHol := fHol, fAdd := fAdd, fClo := fClo, fKno := fKno, fVal := fVal, fRch := fRch, fCAt := fCAt, fCom := fCom, fZon := fZon, fCvI := fCvI, fCoI := fCoI, fRep := fRep, pRep := pRep, fRpr := fRpr, pRpr := pRpr, fCos := fCos, fDpr := fDpr, fCut := fCut, pTl := pTl, fTl := fTl, fCd := fCd, fPar := fPar, fUnl := fUnl, fFdi := fFdi, fMx := fMx, fN := fN, fPs := fPs, fPat := fPat, fLc := fLc, fTu := fTu, eT := eT, cU := cP, mc := (.type "type"), mp := (.type "type"), mq := (.type "type")
    dI := _, dV := _, dT := _, dTv := _, dP := _, dVN := _, dVC := _, dRl := _, dRd := _, dEx := _, dTo := _, dIs := _, dCt := _, dTd := _, dWx := _, dSt := _, dNot := _, dOpn := _, dHol := _, dAdd := _, dClo := _, dKno := _, dVal := _, dRch := _, dCAt := _, dCom := _, dZon := _, dCvI := _, dCoI := _, dRep := _, dRpr := _, dCos := _, dDpr := _, dCut := _, dTl := _, dCd := _, dPar := _, dUnl := _, dFdi := _, dMx := _, dN := _, dPs := _, dPat := _, dLc := _, dTu := _
    X := { cl := ⟨pgC, hdC, poC, saC⟩, no := nO, gC := PySem.W.mg_of X Gn aC, cr := ⟨rd, ga⟩, v1 := ⟨_, v0, ⟨_, rfl⟩⟩, v2 := ⟨_, v1, ⟨_, rfl⟩⟩, v3 := ⟨_, v2, ⟨_, rfl⟩⟩, mE := PySem.W.mg_none_of X Gn z_enumerate, mN := PySem.W.mg_none_of X Gn z_len, mT := PySem.W.mg_none_of X Gn z_tuple, xI := oexI, nI := nI_index, gI := PySem.W.mg_of X Gn aI, iI := iI, tI := tI, pI := ⟨PySem.W.mg_of X Gn aP, prd, pga, pat⟩ }
    I := { mkf := ⟨mkC, atT, ifT, kpCC⟩, fT := fun_mk (st := sInit) lT cd_T kp_T, fI := fun_mk (st := sIT) lI cd_I kp_I }
    Q := { pr := ⟨atP, geP, taP, ⟨_, rcP⟩⟩, fu := fun_mk (st := sPasses) lP cd_P kp_P }
    EV := { xV := oexV, nP := nV_part, nI := nV_index, gV := PySem.W.mg_of X Gn aV, iV := iV, tV := tV, fu := fun_mk (st := sIV) lXV cd_XV kp_XV, pI := ⟨PySem.W.mg_of X Gn aP, prd, pga, pat⟩, qN := qN, gN := PySem.W.mg_of X Gn aN, kN := kN, sN := sN, yN := yN }
    ZZ := { T := { cl := ⟨pgQ, hdQ, poQ, saQ⟩, nO := nQ0, nT := nQ1, nR := nQ2, nC := nQ3, nS := nQ4, nE := nQ5, nN := nQ6, gC := PySem.W.mg_of X Gn aCC, mX := PySem.W.mg_none_of X Gn z_max, mM := PySem.W.mg_none_of X Gn z_min, mN := PySem.W.mg_none_of X Gn z_len, mI := PySem.W.mg_none_of X Gn z_int, mT := PySem.W.mg_none_of X Gn z_tuple }
            TS := { cl := ⟨pgX, hdX, poX, saX⟩, nB := nX0, nE := nX1, nT := nX2, nS := nX3, nD := nX4, nG := nX5, gS := PySem.W.mg_of X Gn aST, mN := PySem.W.mg_none_of X Gn z_len, mI := PySem.W.mg_none_of X Gn z_int }
            MS := { mkS := ⟨mkX, atSt, ifSt, kpCX⟩, fu := fun_mk (st := sStI) lSt cd_St kp_St }
            TV := { cl := ⟨pgV, hdV, poV, saV⟩, nS := nA0, nP := nA1, nO := nA2, gC := PySem.W.mg_of X Gn aCV, mR := ⟨_, PySem.W.mg_of X Gn w0, ⟨_, rfl⟩⟩, mX := ⟨_, PySem.W.mg_of X Gn w1, ⟨_, rfl⟩⟩, mD := ⟨_, PySem.W.mg_of X Gn w2, ⟨_, rfl⟩⟩, mY := ⟨_, PySem.W.mg_of X Gn w3, ⟨_, rfl⟩⟩, mE := PySem.W.mg_none_of X Gn z_enumerate, gVN := PySem.W.mg_of X Gn atVN, kVN := kp_VN, uVN := fun_mk (st := sVN) lVN cd_VN kp_VN, gVC := PySem.W.mg_of X Gn atVC, kVC := kp_VC, uVC := fun_mk (st := sVC) lVC cd_VC kp_VC }
            RR := { pL := ⟨atRl, geRl, taRl, ⟨_, rcRl⟩⟩, uL := fun_mk (st := sRl) lRl cd_Rl kp_Rl, pD := ⟨atRd, geRd, taRd, ⟨_, rcRd⟩⟩, uD := fun_mk (st := sRd) lRd cd_Rd kp_Rd, pE := ⟨atEx, geEx, taEx, ⟨_, rcEx⟩⟩, uE := fun_mk (st := sEx) lEx cd_Ex kp_Ex }
            M := { mN := ⟨atNot, ifNot, kp_Not⟩, uN := fun_mk (st := sNot) lNot cd_Not kp_Not, mT := ⟨atTo, ifTo, kp_To⟩, uT := fun_mk (st := sTo) lTo cd_To kp_To }
            N := { mO := ⟨atOpn, ifOpn, kp_Opn⟩, uO := fun_mk (st := sOpn) lOpn cd_Opn kp_Opn, mH := ⟨atHol, ifHol, kp_Hol⟩, uH := fun_mk (st := sHol) lHol cd_Hol kp_Hol, mA := ⟨atAdd, ifAdd, kp_Add⟩, uA := fun_mk (st := sAdd) lAdd cd_Add kp_Add, mC := ⟨atClo, ifClo, kp_Clo⟩, uC := fun_mk (st := sClo) lClo cd_Clo kp_Clo }
            Kn := { mK := ⟨atKno, ifKno, kp_Kno⟩, uK := fun_mk (st := sKno) lKno cd_Kno kp_Kno, mV := ⟨atVal, ifVal, kp_Val⟩, uV := fun_mk (st := sVal) lVal cd_Val kp_Val }
            mR := PySem.W.mg_none_of X Gn z_range
            A := { mR := ⟨atRch, ifRch, kp_Rch⟩, uR := fun_mk (st := sRch) lRch cd_Rch kp_Rch, mA := ⟨atCAt, ifCAt, kp_CAt⟩, uA := fun_mk (st := sCAt) lCAt cd_CAt kp_CAt, mC := ⟨atCom, ifCom, kp_Com⟩, uC := fun_mk (st := sCom) lCom cd_Com kp_Com } }
    TO := { cl := ⟨pgO, hdO, poO, saO⟩, nO := nP0, nT := nP1, nC := nP2, nL := nP3, gC := PySem.W.mg_of X Gn aCO, mkV := ⟨mkQ, atCvI, ifCvI, kpCQ⟩, uCv := fun_mk (st := sCvI) lCvI cd_CvI kp_CvI, mkO := ⟨mkO, atCoI, ifCoI, kpCO⟩, uCo := fun_mk (st := sCoI) lCoI cd_CoI kp_CoI, pR := ⟨atRep, geRep, taRep, ⟨_, rcRep⟩⟩, uR := fun_mk (st := sRep) lRep cd_Rep kp_Rep, pP := ⟨atRpr, geRpr, taRpr, ⟨_, rcRpr⟩⟩, uP := fun_mk (st := sRpr) lRpr cd_Rpr kp_Rpr, mC := ⟨atCos, ifCos, kp_Cos⟩, uC := fun_mk (st := sCos) lCos cd_Cos kp_Cos, mD := ⟨atDpr, ifDpr, kp_Dpr⟩, uD := fun_mk (st := sDpr) lDpr cd_Dpr kp_Dpr, gCut := PySem.W.mg_of X Gn atCut, kCut := kp_Cut, uCut := fun_mk (st := sCut) lCut cd_Cut kp_Cut }
    CD := { gCd := PySem.W.mg_of X Gn atCd, kCd := kp_Cd, uCd := fun_mk (st := sCd) lCd cd_Cd kp_Cd }
    PA := { mZ := ⟨atZon, ifZon, kp_Zon⟩, uZ := fun_mk (st := sZon) lZon cd_Zon kp_Zon, mS := PySem.W.mg_none_of X Gn z_sorted, mE := PySem.W.mg_none_of X Gn z_set, mN := PySem.W.mg_none_of X Gn z_enumerate }
    UN := { gP := PySem.W.mg_of X Gn atPar, kP := kp_Par, uP := fun_mk (st := sPar) lPar cd_Par kp_Par, gU := PySem.W.mg_of X Gn atUnl, kU := kp_Unl, uU := fun_mk (st := sUnl) lUnl cd_Unl kp_Unl }
    mkV := ⟨mkV, atTv, ifTv, kpCV⟩, uTv := fun_mk (st := sTvI) lTv cd_Tv kp_Tv
    N := { g := PySem.W.mg_of X Gn atN, kp := kp_N, fu := fun_mk (st := sNext) lN cd_N kp_N, mM := PySem.W.mg_none_of X Gn z_max, mN := PySem.W.mg_none_of X Gn z_len, mI := PySem.W.mg_none_of X Gn z_int }
    kTv := ⟨⟨_, _, _, _, _, _, _, _, _, _, rfl, lTv, cd_Tv, .inl ⟨rfl, rfl⟩, .inr ⟨kD, rfl, fun q hq => by
      rw [List.mem_singleton.mp hq]
      exact ⟨_, kx, rfl⟩⟩⟩, kp_Tv⟩
    eTv := ⟨_, _, eTl, rfl, rfl⟩
    qTl := ⟨atTl, geTl, taTl, ⟨_, rcTl⟩⟩, uTl := fun_mk (st := sTl) lTl cd_Tl kp_Tl
    mIs := ⟨atIs, ifIs, kp_Is⟩, uIs := fun_mk (st := sIs) lIs cd_Is kp_Is, mCt := ⟨atCt, ifCt, kp_Ct⟩, uCt := fun_mk (st := sCt) lCt cd_Ct kp_Ct, mTd := ⟨atTd, ifTd, kp_Td⟩, uTd := fun_mk (st := sTd) lTd cd_Td kp_Td, mWx := ⟨atWx, ifWx, kp_Wx⟩, uWx := fun_mk (st := sWx) lWx cd_Wx kp_Wx
    gFdi := PySem.W.mg_of X Gn atFdi, kFdi := kp_Fdi, uFdi := fun_mk (st := sFdi) lFdi cd_Fdi kp_Fdi
    gMx := PySem.W.mg_of X Gn atMx, kMx := kp_Mx, uMx := fun_mk (st := sMix) lMx cd_Mx kp_Mx
    gPs := PySem.W.mg_of X Gn atPs, kPs := kp_Ps, uPs := fun_mk (st := sDrawn) lPs cd_Ps kp_Ps
    gPat := PySem.W.mg_of X Gn atPat, kPat := kp_Pat, uPat := fun_mk (st := sPat) lPat cd_Pat kp_Pat
    gLc := PySem.W.mg_of X Gn atLc, kLc := kp_Lc, uLc := fun_mk (st := sLc) lLc cd_Lc kp_Lc
    gTu := PySem.W.mg_of X Gn atTu, kTu := kp_Tu, uTu := fun_mk (st := sTu) lTu cd_Tu kp_Tu
    m_range := PySem.W.mg_none_of X Gn z_range, m_tuple := PySem.W.mg_none_of X Gn z_tuple, m_len := PySem.W.mg_none_of X Gn z_len, m_int := PySem.W.mg_none_of X Gn z_int, m_min := PySem.W.mg_none_of X Gn z_min, m_max := PySem.W.mg_none_of X Gn z_max, m_sorted := PySem.W.mg_none_of X Gn z_sorted, m_list := PySem.W.mg_none_of X Gn z_list }
  refine ⟨_, [], spLaw K, fun p hp => (nomatch hp), fun p hp => (nomatch hp), fun p hp => (nomatch hp), fun s v => .of_eq rfl, fun H a ns hl _ hH hS => ⟨a, ns, rfl, hS, hl, fun _ => rfl⟩, fun base _ _ hB => ok_law (P := l.prog) (w := w) (base := base) G (fun_mk (st := sLaw) lLaw cd_Law kp_Law)⟩
end Sea

theorem PySem.Challenge.cw_seasonpass_k63_whole_exceptions_come_and_holds : PySem.Challenge.rw_seasonpass_k63_whole_exceptions_come_and.Holds := by
  exact Sea.top_first @Sea.all_mk
#print axioms PySem.Challenge.cw_seasonpass_k63_whole_exceptions_come_and_holds
