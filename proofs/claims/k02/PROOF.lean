import PyProof.Rows.All
import Wide.All
import OpenK.AllK
import Wide.FinOn
import HandS.ForMost
import HandS.ForExc
import HandS.Nested
import HandS.Star
import HandS.Property
import HandS.ClsMeth
import HandS.Defaults
import HandS.ExcInit
import HandS.MakeKwOnly
import HandS.IsInst
import HandS.Wide
import HandS.EndTab
import KE.GoesMore
import KE.GoesComp
import KE.GoesEnum
import HandS.ExcIs
import HandS.TryMany
import KE.KExcIs
import HandS.Evl
import HandS.ExcField
import HandS.TupAny
import HandS.SetFor
import HandS.Strs
import HandS.SortInts
import HandS.Style
import PyProof.ListNew
import PyProof.TupleOfSeq
import PyProof.Rows.FactsTup
import PyProof.Rows.SortShellAny
import HandS.GenList
import HandS.GenYield
import HandS.Conv
import HandS.EndOwn
import KE.KNestM
import PySem.Challenge.RW_seasonpass_k02_whole_travel_days
set_option Elab.async false
set_option linter.all false
set_option maxRecDepth 100000
set_option maxHeartbeats 4000000
/-! lambdas as tracked objects, called from anywhere -/
namespace Sea
open PySem PySem.Spec PyProof.Rows L2 LamX NdefX

/-- the words of a lambda, what it captured, its code object, its defaults -/
structure LF where
  qual : Str
  params : Arguments
  body : Expr
  scope : Scope
  cl : List (Str × Addr)
  c : Addr
  dV : Value
abbrev LF.fd (F : LF) (doc pm ctv : Value) : FuncData :=
  PySem.W.kdv_fn "<lambda>" F.qual F.params (.expr F.body) F.scope F.cl F.dV doc pm (.ref F.c) ctv
/-- what a lambda's object is: a function object with the words F, whatever its text, module and annotations are -/
inductive LamAs (F : LF) : Obj → Prop
  | mk (od : Option Addr) (sl : Array (Option Value)) (doc pm ctv : Value) : LamAs F ⟨.type "function", od, .func (F.fd doc pm ctv), sl⟩
/-- at f stands an object of which R holds -/
def Stands (R : Obj → Prop) (f : Addr) : HO := .ext fun h => ∃ o, R o ∧ h.get? f = some o
theorem Stands.ok {P : Program} {w : World} {H : Hp} {h : Heap} {f : Addr} {R : Obj → Prop} {o : Obj} (r : R o) (e : h.get? f = some o) : ObjOk P w H h f (Stands R f) :=
  ⟨⟨o, r, e⟩, ⟨o, e⟩, fun _ _ ⟨o, r, e⟩ stays => ⟨o, r, stays o e⟩⟩
theorem Stands.no_tbl {R : Obj → Prop} {f : Addr} (ps : Array Value) : Stands R f ≠ .tbl ps := nofun
theorem Stands.no_tup {R : Obj → Prop} {f : Addr} (xs : List V) : Stands R f ≠ .tup xs := nofun
/-- a new object is laid at the heap's end -/
theorem Stands.laid {X : Cx} {pins : List (Addr × Obj)} {σ : L2.St} {H : Hp} {s : Shared} {R : Obj → Prop} {o : Obj} {t : Nat} (I : Inv X pins σ H s) (r : R o) (nf : o.isFreed = false) :
    Inv X pins σ (upd H s.heap.objs.size (Stands R s.heap.objs.size)) { s with heap := s.heap.push o, toks := t } :=
  I.laid (fun _ _ e => Heap.get?_push_of_some _ e) (Nat.le_refl _) (Stands.ok r (Heap.get?_push_size _ nf))
abbrev LamO (f : Addr) (F : LF) : HO := Stands (LamAs F) f
theorem lamO_at {P : Program} {w : World} {H : Hp} {h : Heap} {f : Addr} {F : LF} (hok : HOk P w H h) (e : H f = some (LamO f F)) : ∃ o, LamAs F o ∧ h.get? f = some o :=
  (hok f _ e).1
theorem tabs_keep {T : List (Addr × Str)} {H : Hp} {a : Addr} {o : HO} (hT : Tabs T H) (n : H a = none) : Tabs T (upd H a o) :=
  hT.ext fun b u e => by rw [upd_ne (ne_of_none e n), e]
theorem extN_new {H : Hp} {a : Addr} {o : HO} (n : H a = none) : ExtN H (upd H a o) := .of fun b u e => by rw [upd_ne (ne_of_none e n), e]
theorem extN_tbl {H : Hp} {P : Addr} {ps qs : Array Value} (at_ : H P = some (.tbl ps)) : ExtN H (upd H P (.tbl qs)) := fun b o e n => (upd_ne fun z => n ps (by
  rw [z, at_] at e
  exact (Option.some.inj e).symm)).trans e
/-- all that a table's row tells bears the name q -/
def Told (H : Hp) (q : Str) (row : List Value) : Prop := ∀ (pos : Pos) (cv : Value), codeAmong pos row = some cv → ∃ d, cv = .ref d ∧ H d = some (CodeO d q)
theorem Told.one {H H' : Hp} {q : Str} {row : List Value} {pos : Pos} {c : Addr} (t : Told H q row) (ok : TriplesOk row) (keep : ∀ d, H d = some (CodeO d q) → H' d = some (CodeO d q)) (new : H' c = some (CodeO c q)) : Told H' q (row ++ [rawInt pos.line, rawInt pos.col, .ref c]) := fun pos cv h =>
  (among_app _ ok h).elim (fun old => (t pos cv old).imp fun d z => ⟨z.1, keep d z.2⟩) fun e => ⟨c, e, new⟩
/-- the maker's table has grown by one code object -/
theorem tabs_more {T : List (Addr × Str)} {H : Hp} {P c : Addr} {q : Str} {ps : Array Value} {pos : Pos} (hT : Tabs T H) (at_ : H P = some (.tbl ps)) (ok : TriplesOk ps.toList) (told : Told H q ps.toList) (hu : ∀ p ∈ T, p.1 = P → p.2 = q) (nC : H c = none) :
    Tabs T (upd (upd H P (.tbl (ps ++ #[rawInt pos.line, rawInt pos.col, .ref c]))) c (CodeO c q)) ∧ ExtN H (upd (upd H P (.tbl (ps ++ #[rawInt pos.line, rawInt pos.col, .ref c]))) c (CodeO c q)) := by
  have Pc : P ≠ c := ne_of_none at_ nC
  have ext := (extN_tbl (qs := ps ++ #[rawInt pos.line, rawInt pos.col, .ref c]) at_).trans (extN_new (o := CodeO c q) ((upd_ne Pc.symm).trans nC))
  have row : (ps ++ #[rawInt pos.line, rawInt pos.col, .ref c]).toList = ps.toList ++ [rawInt pos.line, rawInt pos.col, .ref c] := by simp
  have mine : TabS (upd (upd H P (.tbl (ps ++ #[rawInt pos.line, rawInt pos.col, .ref c]))) c (CodeO c q)) P q := by
    refine ⟨_, (upd_ne Pc).trans upd_same, ?_, ?_⟩ <;> rw [row]
    · exact PySem.TriplesOk_snoc _ _ _ _ ok
    · exact told.one ok (fun d e => ext d _ e codeO_ne) upd_same
  have other : ∀ p ∈ T, p.1 ≠ P → TabS (upd (upd H P (.tbl (ps ++ #[rawInt pos.line, rawInt pos.col, .ref c]))) c (CodeO c q)) p.1 p.2 := fun p hp n =>
    let ⟨qs, there, fine, names⟩ := hT p hp
    ⟨qs, (upd_ne (ne_of_none there nC)).trans ((upd_ne n).trans there), fine, fun x y h => (names x y h).imp fun d z => ⟨z.1, ext d _ z.2 codeO_ne⟩⟩
  exact ⟨fun p hp => if e : p.1 = P then by rw [e, hu p hp e]; exact mine else other p hp e, ext⟩

section
variable {X : Cx} {pins : List (Addr × Obj)} {σ : L2.St} {H : Hp} {s : Shared}
/-- the lambda's object is made -/
theorem lam_tr {T : List (Addr × Str)} {c P : Addr} {params : Arguments} {body : Expr} {scope : Scope} {pos : Pos} {dV : Value} {E : Value → Shared → Prop} {Q : Value → Shared → Prop} (I : Inv X pins σ H s) (TB : TabB X.base X.mg c P) (hcode : X.env.code = .ref c)
    (hm : (P, X.env.qual ++ "<lambda>") ∈ T) (hu : ∀ p ∈ T, p.1 = P → p.2 = X.env.qual ++ "<lambda>") (hT : Tabs T H) (hfree : ∀ y ∈ scope.names, y.2 = .free → ∃ c, X.env.cells.lookup y.1 = some c)
    (h : ∀ (f c' : Addr) (H1 : Hp) (s' : Shared), Inv X pins σ H1 s' → ExtN H H1 → Tabs T H1 → H f = none →
      H1 f = some (LamO f ⟨X.env.qual ++ "<lambda>", params, body, scope, cloFrom X.env.cells scope.names [], c', dV⟩) → H1 c' = some (CodeO c' (X.env.qual ++ "<lambda>")) → Q (.ref f) s') :
    wpAny (model X.prog X.w) X.A (makeTail "<lambda>" (X.env.qual ++ "<lambda>") params (.expr body) scope X.env dV .none none pos pos.line) Q E s := by
  obtain ⟨ps, table, triples, told⟩ := hT _ hm
  have main := TB.bm.keeps I.bk
  have glob := I.mod.glob.keeps I.bk
  have code := TB.code.keeps I.bk
  -- whichever way the code object was got: the function object is laid last
  have last : ∀ (c' : Addr) (H1 : Hp) (hp : Heap) (tk : Nat) (doc pm ctv : Value), Inv X pins σ H1 { s with heap := hp, toks := tk } → s.heap.objs.size ≤ hp.objs.size → ExtN H H1 → Tabs T H1 → H1 c' = some (CodeO c' (X.env.qual ++ "<lambda>")) →
      Q (.ref hp.objs.size) { s with heap := hp.push ⟨.type "function", none, .func ((LF.mk (X.env.qual ++ "<lambda>") params body scope (cloFrom X.env.cells scope.names []) c' dV).fd doc pm ctv), #[]⟩, toks := tk } := by
    intro c' H1 hp tk doc pm ctv J le ext tabs hc
    have fresh : H1 hp.objs.size = none := J.hok.fresh (Nat.le_refl _)
    exact h _ c' _ _ (Stands.laid J (LamAs.mk none #[] doc pm ctv) rfl) (ext.trans (extN_new fresh)) (tabs_keep tabs fresh) (I.hok.fresh le) upd_same ((upd_ne (ne_of_none hc fresh)).trans hc)
  match hk : codeAmong pos ps.toList with
  | some cv =>
    obtain ⟨c', rfl, known⟩ := told pos cv hk
    exact PySem.W.kdv_makeTailHit (closure_ok hfree) I.ok.glob glob hcode code (I.hok P _ table) triples hk main fun ctv doc hp tk old le => last c' H hp tk doc _ ctv (I.kept old) le (.refl H) hT known
  | none =>
    refine PySem.W.kdv_makeTail (closure_ok hfree) I.ok.glob glob hcode code (I.hok P _ table) triples hk TB.gP main ?_
    rintro c' ctv doc hp tk old ge lt ⟨_, oc, vs, t, z, rec⟩ row
    cases z
    have grown := tabs_more (pos := pos) hT table triples told hu (I.hok.fresh ge)
    exact last c' _ hp tk doc _ ctv (inv_table (t' := tk) I table (fun b o hb e => old b o hb e) row ge ⟨oc, vs, t, rec⟩) (Nat.le_trans ge (Nat.le_of_lt lt)) grown.2 grown.1 upd_same
end

/-- a lambda as a value: without defaults -/
def tLamV (T : List (Addr × Str)) (mk : Addr → LF) : TE := fun _ H Q => Tabs T H ∧ ∀ (f c' : Addr) (H1 : Hp), ExtN H H1 → Tabs T H1 → H f = none → H1 f = some (LamO f (mk c')) → H1 c' = some (CodeO c' (mk c').qual) → Q (.ref f) H1
/-- .. with one default, an int -/
def tLamD (T : List (Addr × Str)) (d : Int) (mk : Addr → Addr → LF) : TE := fun _ H Q => Tabs T H ∧ ∀ (f c' t : Addr) (H1 : Hp), ExtN H H1 → Tabs T H1 → H f = none → H t = none → H1 t = some (.tup [.int d]) → H1 f = some (LamO f (mk c' t)) → H1 c' = some (CodeO c' (mk c' t).qual) → Q (.ref f) H1
section
variable {X : Cx} {T : List (Addr × Str)} {c P : Addr} {params : Arguments} {body : Expr} {scope : Scope} {pos : Pos}
theorem free_has (hf : ∀ y ∈ scope.names, y.2 = .free → X.env.scope.names.lookup y.1 = some .cell ∨ X.env.scope.names.lookup y.1 = some .free) (ok : X.Ok) : ∀ y ∈ scope.names, y.2 = .free → ∃ c, X.env.cells.lookup y.1 = some c :=
  fun y hy e => (hf y hy e).elim (fun k => ok.has _ (.inl k)) (fun k => ok.has _ (.inr k))
theorem pe_lamV (TB : TabB X.base X.mg c P) (hcode : X.env.code = .ref c) (hm : (P, X.env.qual ++ "<lambda>") ∈ T) (hu : ∀ p ∈ T, p.1 = P → p.2 = X.env.qual ++ "<lambda>")
    (hf : ∀ y ∈ scope.names, y.2 = .free → X.env.scope.names.lookup y.1 = some .cell ∨ X.env.scope.names.lookup y.1 = some .free) (hdef : defaultsOf params X.env = ([], []) := by rfl) :
    PE X (.Lambda params body scope pos) (tLamV T fun c' => ⟨X.env.qual ++ "<lambda>", params, body, scope, cloFrom X.env.cells scope.names [], c', .none⟩) := by
  refine ⟨fun pins s σ H Q I h => ?_⟩
  obtain ⟨hT, h⟩ := h
  refine PySem.W.kla_eval hdef ?_
  rw [makeFunction_eq]
  simp only [List.zip_nil_right, List.filterMap_nil, List.isEmpty_nil, if_true, pure_bind]
  exact lam_tr I TB hcode hm hu hT (free_has hf I.ok) fun f c' H1 s' I1 eN T1 f0 f1 c1 => ⟨.ref f, H1, I1, rfl, h f c' H1 eN T1 f0 f1 c1⟩
theorem pe_lamD {d : Int} {j : Nat} {dp : Pos} (TB : TabB X.base X.mg c P) (hcode : X.env.code = .ref c) (hm : (P, X.env.qual ++ "<lambda>") ∈ T) (hu : ∀ p ∈ T, p.1 = P → p.2 = X.env.qual ++ "<lambda>")
    (hf : ∀ y ∈ scope.names, y.2 = .free → X.env.scope.names.lookup y.1 = some .cell ∨ X.env.scope.names.lookup y.1 = some .free) (hd : params.defaults = [.Constant (.int d) j dp]) (hk0 : params.kw_defaults = []) :
    PE X (.Lambda params body scope pos) (tLamD T d fun c' t => ⟨X.env.qual ++ "<lambda>", params, body, scope, cloFrom X.env.cells scope.names [], c', .ref t⟩) := by
  refine ⟨fun pins s σ H Q I h => ?_⟩
  obtain ⟨hT, h⟩ := h
  refine PySem.W.kdv_lam (by rw [hd]; rfl) hk0 ?_
  rw [hd]
  refine PySem.W.kdv_all1 (wpAny_Constant_int (PySem.W.kdv_all0 ?_))
  rw [makeFunction_eq]
  simp only [List.zip_nil_right, List.filterMap_nil, List.isEmpty_nil, if_true, pure_bind, List.isEmpty_cons, Bool.false_eq_true, if_false]
  refine wpAny_bind (wpAny_newTextTuple ?_)
  have nT : H s.heap.objs.size = none := I.hok.fresh (Nat.le_refl _)
  have I1 := I.laid (t' := s.toks + 1) (a := s.heap.objs.size) (o := .tup [.int d]) (h' := s.heap.push ({ cls := .type "tuple", data := .seq #[.int d s.toks] } : Obj)) (fun b u e => Heap.get?_push_of_some _ e) (Nat.le_refl _)
    ⟨(by show 1 ≤ sizeLine; decide), [.int d s.toks], .cons ⟨_, rfl⟩ .nil, ⟨_, Heap.get?_push_size _ rfl, rfl, _, rfl⟩⟩
  refine lam_tr I1 TB hcode hm hu (tabs_keep hT nT) (free_has hf I.ok) fun f c' H1 s' I2 eN T1 f0 f1 c1 => ⟨.ref f, H1, I2, rfl, ?_⟩
  have ft : f ≠ s.heap.objs.size := fun z => by
    rw [z, upd_same] at f0
    cases f0
  have f0' : H f = none := by
    rw [upd_ne ft] at f0
    exact f0
  exact h f c' s.heap.objs.size H1 ((extN_new nT).trans eN) T1 f0' nT (eN _ _ upd_same (fun ps z => by cases z)) f1 c1
end
end Sea

set_option Elab.async false
set_option linter.all false
set_option maxRecDepth 100000
set_option maxHeartbeats 4000000
namespace Sea
open PySem PySem.Spec PyProof.Rows L2 LamX NdefX
abbrev LF.nf (F : LF) : NF := ⟨"<lambda>", F.qual, F.params, [], F.scope, F.cl, F.c⟩
/-- the tuple of defaults, where there is one, holds one int -/
def DvOk (F : LF) (H : Hp) : Prop := ∀ t, F.dV = .ref t → ∃ d, H t = some (.tup [.int d])
/-- a thunk's reading: ws what its captured cells hold -/
abbrev TSp := List (Option V) → Hp → VK → XK → Prop
structure LOk (P : Program) (w : World) (K : PySem.W.Frag) (mg : Str → Option Value) (base : Heap) (CX : CXT) (k : Nat) (f : Addr) (F : LF) (fr : List Str) (sp : TSp) : Prop where
  run : ∀ (A : Around) (outer : List Env) (s : Shared) (H : Hp) (ws : List (Option V)) (Q : VK) (E : XK), Room k A → Env0 P w K mg base A outer s H → H f = some (LamO f F) → H F.c = some (CodeO F.c F.qual) → DvOk F H →
    CellsAt F.cl fr ws s.heap H → sp ws H Q E → codeAny (model P w) A (.call (.ref f) ⟨[], []⟩) (CR CX outer P w H s Q E) s
theorem LOk.mono {P : Program} {w : World} {K : PySem.W.Frag} {mg : Str → Option Value} {base : Heap} {CX : CXT} {k j : Nat} {f : Addr} {F : LF} {fr : List Str} {sp : TSp} (o : LOk P w K mg base CX j f F fr sp) (h : j ≤ k) : LOk P w K mg base CX k f F fr sp :=
  ⟨fun A outer s H ws Q E hr => o.run A outer s H ws Q E (hr.mono h)⟩
theorem LOk.imp {P : Program} {w : World} {K : PySem.W.Frag} {mg : Str → Option Value} {base : Heap} {CX : CXT} {k : Nat} {f : Addr} {F : LF} {fr : List Str} {sp sp' : TSp} (o : LOk P w K mg base CX k f F fr sp) (h : ∀ ws H Q E, sp' ws H Q E → sp ws H Q E) : LOk P w K mg base CX k f F fr sp' :=
  ⟨fun A outer s H ws Q E hr e0 a b c d q => o.run A outer s H ws Q E hr e0 a b c d (h _ _ _ _ q)⟩
section
variable {CX : CXT} {P : Program} {w : World} {K : PySem.W.Frag} {mg : Str → Option Value} {base : Heap} {N ps fr : List Str} {F : LF} {f : Addr} {k : Nat} {sp : TSp}
theorem lok_core {A : Around} {outer : List Env} {s : Shared} {H : Hp} {us : List Value} {vs : List V} {ws : List (Option V)} {Q : VK} {E : XK} (S : NScope N ps fr F.scope) (hr : Room (k + 1) A) (e0 : Env0 P w K mg base A outer s H)
    (hf : H f = some (LamO f F)) (hc : H F.c = some (CodeO F.c F.qual)) (C : CellsAt F.cl fr ws s.heap H) (r : Vals vs us) (hl : vs.length = ps.length)
    (hb : ∀ doc pm ctv : Value, BindsTo s (F.fd doc pm ctv) ⟨[], []⟩ (ps.zip us))
    (hbody : Room k (A.deeper (envF F.nf f s.heap.objs.size)) → ∃ t, PE (ncx CX P w K mg base N F.nf f A outer s H E) F.body t ∧ t (startF N vs ws) H Q) :
    codeAny (model P w) A (.call (.ref f) ⟨[], []⟩) (CR CX outer P w H s Q E) s := by
  have lim : s.heap.NoLimit := e0.mod.nolimit.keeps fun b o e => (e0.bs b o e).1
  obtain ⟨_, ⟨od, sl, doc, pm, ctv⟩, ho⟩ := lamO_at e0.hok hf
  refine PySem.W.kla_callFunE hr.depth ho rfl S.co S.gen rfl (codeO_at e0.hok hc) ?_
  refine hb doc pm ctv _ _ _ _ ?_
  refine wpAny_newFunctionEnv S.nocell (fun ⟨n, _⟩ hy => S.par n (List.of_mem_zip hy).1) (fun h1 hns hsb => ⟨lim.fresh _ hsb, ?_⟩) S.kind
  have kp : ∀ b o, s.heap.get? b = some o → h1.get? b = some o := fun b o e => hsb.extBut b o (Nat.ne_of_lt (Heap.lt_size e)) (Heap.get?_push_of_some _ e)
  obtain ⟨t, ht, hq⟩ := hbody (hr.deeper _)
  have I : Inv (ncx CX P w K mg base N F.nf f A outer s H E) [] (startF N vs ws) H { s with heap := h1, toks := s.toks + (ps.zip us).length } := inv_startN S hr.hd e0 hl r C hns kp
  show codeAny _ _ (.expr F.body (envF F.nf f s.heap.objs.size)) _ _
  refine PySem.W.kla_codeExpr (wpAny_mono (ht.run [] _ (startF N vs ws) H Q I hq) (fun v s' hs => ?_) fun e s' hs => hs)
  obtain ⟨x, H', J, rv, q⟩ := hs
  exact ⟨x, H', J.os, J.bare, J.base, J.hok, rv, q⟩
theorem lok_of0 (S : NScope N [] fr F.scope) (hb : ∀ doc pm ctv : Value, bindArgs (F.fd doc pm ctv) ⟨[], []⟩ = pure [])
    (hbody : ∀ (A : Around) (outer : List Env) (s : Shared) (H : Hp) (ws : List (Option V)) (Q : VK) (E : XK), Room k (A.deeper (envF F.nf f s.heap.objs.size)) → ws.length = fr.length → sp ws H Q E →
      ∃ t, PE (ncx CX P w K mg base N F.nf f A outer s H E) F.body t ∧ t (startF N [] ws) H Q) : LOk P w K mg base CX (k + 1) f F fr sp :=
  ⟨fun A outer s H ws Q E hr e0 hf hc hd C hq => lok_core (us := []) (vs := []) S hr e0 hf hc C .nil rfl (fun doc pm ctv => .of_eq (hb doc pm ctv)) fun hr' => hbody A outer s H ws Q E hr' C.len hq⟩
/-- with one default -/
theorem lok_ofD {a : Str} {t : Addr} (S : NScope N [a] fr F.scope) (hdv : F.dV = .ref t)
    (hb : ∀ doc pm ctv : Value, ∃ kk : Option (Array Value) → Sem (List (Str × Value)), bindArgs (F.fd doc pm ctv) ⟨[], []⟩ = seqItems? (F.fd doc pm ctv).defaults >>= kk ∧ ∀ u, kk (some #[u]) = pure [(a, u)])
    (hbody : ∀ (A : Around) (outer : List Env) (s : Shared) (H : Hp) (ws : List (Option V)) (Q : VK) (E : XK) (d : Int), Room k (A.deeper (envF F.nf f s.heap.objs.size)) → ws.length = fr.length → sp ws H Q E →
      ∃ t, PE (ncx CX P w K mg base N F.nf f A outer s H E) F.body t ∧ t (startF N [.int d] ws) H Q) : LOk P w K mg base CX (k + 1) f F fr sp := by
  refine ⟨fun A outer s H ws Q E hr e0 hf hc hd C hq => ?_⟩
  obtain ⟨d, ht⟩ := hd t hdv
  obtain ⟨_, its, rv, o, ho, hcl, n, hsq⟩ := (show ObjOk P w H s.heap t (.tup [.int d]) from e0.hok t _ ht)
  cases rv with
  | @cons _ u _ rest ru rr =>
    cases rr
    exact lok_core (us := [u]) (vs := [.int d]) S hr e0 hf hc C (.cons ru .nil) rfl (fun doc pm ctv => by
      obtain ⟨kk, e1, e2⟩ := hb doc pm ctv
      exact BindsTo.of_defaults hdv ho hsq e1 (e2 u)) fun hr' => hbody A outer s H ws Q E d hr' C.len hq
end

/-- what a caller hands on with a thunk: tl is its reading -/
structure Thunk (P : Program) (w : World) (K : PySem.W.Frag) (mg : Str → Option Value) (base : Heap) (CX : CXT) (k : Nat) (outer : List Env) (s : Shared) (H : Hp) (f : Addr) (tl : Hp → VK → XK → Prop) : Prop where
  ex : ∃ (F : LF) (fr : List Str) (ws : List (Option V)) (sp : TSp), LOk P w K mg base CX k f F fr sp ∧ H f = some (LamO f F) ∧ H F.c = some (CodeO F.c F.qual) ∧ DvOk F H ∧ CellsAt F.cl fr ws s.heap H ∧ (∀ y c, F.cl.lookup y = some c → c ∉ frs outer) ∧ tl = sp ws
/-- a def that takes a thunk, its promise told of the state -/
def FnS (P : Program) (w : World) (K : PySem.W.Frag) (mg : Str → Option Value) (base : Heap) (CX CXl : CXT) (k j : Nat) (g : Addr) (sp : (Hp → VK → XK → Prop) → Hp → VK → XK → Prop) : Prop :=
  ∀ (A : Around) (outer : List Env) (s : Shared) (H : Hp) (f : Addr) (tl : Hp → VK → XK → Prop) (Q : VK) (E : XK), Room k A → Env0 P w K mg base A outer s H → Thunk P w K mg base CXl j outer s H f tl → sp tl H Q E →
    codeAny (model P w) A (.call (.ref g) ⟨[.ref f], []⟩) (CR CX outer P w H s Q E) s
section
variable {X : Cx} {CX CXl : CXT} {i k j : Nat} {x : Str} {p pos : Pos} {E : L2.St → XK}
/-- a local name is read: the value that its slot holds, nothing moved -/
theorem name_at {pins : List (Addr × Obj)} {σ : L2.St} {H : Hp} {s : Shared} {v : V} {Qv : Value → Shared → Prop} (hN : X.N[i]? = some x) (hv : Vis X.env.scope x) (hd : (x == ("__debug__" : Str)) = false) (hcd : (x == ("__classdict__" : Str)) = false)
    (I : Inv X pins σ H s) (slot : σ[i]? = some (some v)) (next : ∀ u s', RelV v u → Inv X pins σ H s' → Qv u s') : wpAny (model X.prog X.w) X.A (eval (.Name x p) X.env) Qv X.xe s := by
  have read := (pe_var (pos := p) hN hv hd hcd).run pins s σ H (fun y H' => (y, H') = (v, H)) I ⟨v, slot, rfl⟩
  refine thn read ?_
  rintro u s' ⟨_, _, J, r, e⟩
  cases e
  exact next u s' r J
/-- x(), x the thunk that this def was handed -/
def tAct (X : Cx) (CXl : CXT) (j i : Nat) (E : L2.St → XK) : TE := fun σ H Q => ∃ (f : Addr) (tl : Hp → VK → XK → Prop), σ[i]? = some (some (.ref f)) ∧ H = X.H_0 ∧ Thunk X.prog X.w X.K X.mg X.base CXl j X.outer X.s_0 X.H_0 f tl ∧ tl H Q (E σ)
theorem pe_actT (hr : Room j X.A) (hex : X.ex = []) (hx : ∀ σ, PassesAt CXl X σ (E σ)) (hN : X.N[i]? = some x) (hv : Vis X.env.scope x)
    (hd : (x == ("__debug__" : Str)) = false := by decide) (hcd : (x == ("__classdict__" : Str)) = false := by decide) : PE X (.Call (.Name x p) [] [] pos) (tAct X CXl j i E) := by
  constructor
  rintro pins s σ _ Q I ⟨f, _, slot, rfl, ⟨F, fr, ws, sp, L, hf, hc, hdv, C, nf, rfl⟩, ht⟩
  refine wpAny_Call_Name_kw (name_at hN hv hd hcd I slot ?_)
  rintro u s1 (rfl : u = .ref f) I1
  obtain ⟨_, ⟨od, sl, doc, pm, ctv⟩, ho⟩ := lamO_at I1.hok hf
  have cells := C.later nf (fun y c e z => by rw [hex] at z; cases z) I1
  have ran := L.run X.A X.stack s1 X.H_0 ws Q (E σ) hr I1.env0 hf hc hdv cells ht
  refine PySem.W.callWith_F0 (first := []) ⟨_, od, _, sl, ho⟩ (wpAny_call (codeAny_mono ran ?_))
  intro r s' back
  match r, back with
  | .error e, back => exact hx σ pins X.H_0 s1 e s' I1 back
  | .ok (.ret _), back => exact I1.after back
  | .ok .next, back => exact back.elim
  | .ok .brk, back => exact back.elim
  | .ok .cont, back => exact back.elim
/-- from the running frame: the cells that a thunk captured here -/
theorem thunk_here {pins : List (Addr × Obj)} {σ : L2.St} {H : Hp} {s : Shared} {f : Addr} {F : LF} {fr : List Str} {js : List Nat} {sp : TSp} (I : Inv X pins σ H s) (hfn : X.fn = fun _ => true) (L : LOk X.prog X.w X.K X.mg X.base CXl j f F fr sp) (hf : H f = some (LamO f F)) (hc : H F.c = some (CodeO F.c F.qual)) (hd : DvOk F H)
    (cp : Caps X F.cl fr js) : Thunk X.prog X.w X.K X.mg X.base CXl j X.stack s H f (sp (js.map (slotAt σ))) := by
  refine ⟨F, fr, _, sp, L, hf, hc, hd, cells_of I cp, fun y c e z => ?_, rfl⟩
  have e' := cp.sub y c e
  rcases List.mem_cons.mp (I.stkSub c z) with z | z
  · exact I.cne y c e' z
  · have h1 := I.ok.cab y c (by rw [hfn]) e'
    obtain ⟨_, o, ho, _⟩ := I.ok.funs.mem z
    exact absurd (Nat.lt_of_lt_of_le (Heap.lt_size ho) h1) (Nat.lt_irrefl _)
/-- g(e), e a lambda made in this def -/
def tGive (X : Cx) (CXl : CXT) (j : Nat) (sp : (Hp → VK → XK → Prop) → Hp → VK → XK → Prop) (te : TE) : TE := fun σ H Q => te σ H fun v H1 => ∃ (f : Addr) (F : LF) (fr : List Str) (js : List Nat) (lsp : TSp), v = .ref f ∧ LOk X.prog X.w X.K X.mg X.base CXl j f F fr lsp ∧
  H1 f = some (LamO f F) ∧ H1 F.c = some (CodeO F.c F.qual) ∧ DvOk F H1 ∧ (X.Ok → Caps X F.cl fr js) ∧ sp (lsp (js.map (slotAt σ))) H1 Q fun _ _ _ => False
theorem pe_give {g : Addr} {sp : (Hp → VK → XK → Prop) → Hp → VK → XK → Prop} {e : Expr} {te : TE} (G : FnS X.prog X.w X.K X.mg X.base CX0 CXl k j g sp) (hfn : X.fn = fun _ => true) (hr : Room k X.A) (hg : Gl X x) (hm : X.mg x = some (.ref g)) (hk : PySem.W.keepIn X.K (.ref g) = true) (he : PE X e te)
    (hdb : (x == ("__debug__" : Str)) = false := by decide) (hs : starEach (e :: []) X.env = (false, eval e X.env) :: starEach [] X.env := by rfl) (hpl : (backTo pos (starEach [] X.env)).any (·.1) = false := by rfl) :
    PE X (.Call (.Name x p) [e] [] pos) (tGive X CXl j sp te) := by
  refine ⟨fun pins s σ H Q I h => ?_⟩
  refine wpAny_Call_Name_kw (ld_glob I hg hm ?_ hdb)
  refine PySem.W.callWith_K (h₀ := X.base) I.ok.mod.kin hk (thn ((pa_cons he pa_nil hs).run pos pins s σ H (fun vs H1 => ∃ v, vs = [v] ∧ ∃ (f : Addr) (F : LF) (fr : List Str) (js : List Nat) (lsp : TSp), v = .ref f ∧ LOk X.prog X.w X.K X.mg X.base CXl j f F fr lsp ∧
    H1 f = some (LamO f F) ∧ H1 F.c = some (CodeO F.c F.qual) ∧ DvOk F H1 ∧ (X.Ok → Caps X F.cl fr js) ∧ sp (lsp (js.map (slotAt σ))) H1 Q fun _ _ _ => False) I ?_) fun us s1 hh => ?_) hs hpl
  · show te σ H _
    refine Eq.mp ?_ h
    show te σ H _ = te σ H _
    congr 1
    funext v H1
    refine propext ⟨fun hh => ⟨v, rfl, hh⟩, fun ⟨v', e', hh⟩ => ?_⟩
    cases e'
    exact hh
  · obtain ⟨vs, H1, I1, r, v, ev, f, F, fr, js, lsp, ef, L, hf, hc, hd, cp, q⟩ := hh
    subst ev
    subst ef
    refine ⟨I1.kIn, ?_⟩
    cases r with
    | cons ru rr =>
      cases rr
      obtain rfl := (show _ = Value.ref f from ru)
      refine wpAny_call (codeAny_mono (G X.A X.stack s1 H1 f _ Q (fun _ _ _ => False) hr I1.env0 (thunk_here I1 hfn L hf hc hd (cp I1.ok)) q) fun r s' hq => ?_)
      cases r with
      | error e => exact False.elim hq
      | ok fl =>
        cases fl with
        | ret u => exact I1.after hq
        | next => exact False.elim hq
        | brk => exact False.elim hq
        | cont => exact False.elim hq
end
end Sea

set_option Elab.async false
set_option linter.all false
set_option maxRecDepth 100000
set_option maxHeartbeats 4000000
/-! [g(x) for x in xs], xs a list of lambdas that this def made, g a def that takes a thunk -/
namespace Sea
open PySem PySem.Spec PyProof.Rows L2 LamX NdefX
theorem vals_at {xs : List V} {us : List Value} {i : Nat} {u : Value} (r : Vals xs us) (h : us[i]? = some u) : ∃ x, xs[i]? = some x ∧ RelV x u := by
  cases e : xs[i]? with
  | none =>
    rw [r.none_of e] at h
    cases h
  | some x =>
    obtain ⟨u', h', ru⟩ := r.get e
    rw [h] at h'
    cases h'
    exact ⟨x, rfl, ru⟩
def listSt (it a : Addr) (xs : List V) (i : Nat) (h : Heap) : Prop := h.IsListIter it a i ∧ ∃ items : Array Value, h.IsList a items ∧ Vals xs items.toList
theorem goes_listV {prog : Program} {w : World} {A : Around} {target : Expr} (hh : A.handled = none) (it a : Addr) (hne : a ≠ it) (xs : List V) :
    Goes prog w A target it [it, a] [it] xs.length (fun i v _ => ∃ x, xs[i]? = some x ∧ RelV x v) (listSt it a xs) := by
  refine ⟨fun b hb => by simp at hb; simp [hb], ?_, ?_, ?_, ?_⟩
  · rintro i h h' ⟨⟨o, ho, ro⟩, items, ⟨o2, ho2, ro2⟩, rv⟩ hk
    exact ⟨⟨o, hk it (by simp) o ho, ro⟩, items, ⟨o2, hk a (by simp) o2 ho2, ro2⟩, rv⟩
  · rintro i s Q E hi ⟨hit, items, hl, rv⟩ hQ
    have sz : items.size = xs.length := by
      have := rv.length
      rw [Array.length_toList] at this
      exact this.symm
    refine (Goes.list (prog := prog) (w := w) (target := target) hh it a hne items).goes i s Q E (by rw [sz]; exact hi) ⟨hit, hl⟩ ?_
    intro v h' tk hY hSt hk htk
    exact hQ v h' tk (vals_at rv (by simpa using hY)) ⟨hSt.1, items, hSt.2, rv⟩ hk htk
  · rintro s Q E ⟨hit, items, hl, rv⟩ hQ
    have sz : items.size = xs.length := by
      have := rv.length
      rw [Array.length_toList] at this
      exact this.symm
    refine (Goes.list (prog := prog) (w := w) (target := target) hh it a hne items).stops s Q E ⟨by rw [sz]; exact hit, hl⟩ hQ
  · rintro i s Q E ⟨hit, items, hl, rv⟩ hQ
    exact (Goes.list (prog := prog) (w := w) (target := target) hh it a hne items).self i s Q E ⟨hit, hl⟩ hQ
theorem clo_none {cells : List (Str × Addr)} : ∀ {names : List (Str × NameKind)} {acc : List (Str × Addr)}, (∀ y ∈ names, y.2 ≠ .free) → cloFrom cells names acc = acc
  | [], acc, _ => rfl
  | (n, k) :: r, acc, h => by
    have hk : (k == NameKind.free) = false := by
      have := h (n, k) List.mem_cons_self
      cases k <;> first | rfl | exact absurd rfl this
    unfold cloFrom
    rw [hk]
    exact clo_none fun y hy => h y (List.mem_cons_of_mem _ hy)
/-- a block whose names are its own locals and globals -/
structure PlainBlk (scope : Scope) : Prop where
  kind : scope.kind = .function
  nm : ∀ y ∈ scope.names, y.2 = .local ∨ y.2 = .globalImplicit
  uq : ∀ y ∈ scope.names, y.2 = .local → scope.names.lookup y.1 = some .local
theorem PlainBlk.noFree {scope : Scope} (b : PlainBlk scope) : ∀ y ∈ scope.names, y.2 ≠ .free := fun y hy e => by
  rcases b.nm y hy with h | h <;> rw [h] at e <;> cases e
theorem PlainBlk.noCell {scope : Scope} (b : PlainBlk scope) : ∀ y ∈ scope.names, y.2 ≠ .cell := fun y hy e => by
  rcases b.nm y hy with h | h <;> rw [h] at e <;> cases e
def plainBlkB (scope : Scope) : Bool := decide (scope.kind = .function) && scope.names.all (fun y => decide (y.2 = .local) || decide (y.2 = .globalImplicit)) && scope.names.all fun y => !decide (y.2 = .local) || decide (scope.names.lookup y.1 = some .local)
theorem plainBlk_by {scope : Scope} (h : plainBlkB scope = true) : PlainBlk scope := by
  unfold plainBlkB at h
  simp only [Bool.and_eq_true, Bool.or_eq_true, Bool.not_eq_true', decide_eq_true_eq, decide_eq_false_iff_not, List.all_eq_true] at h
  exact ⟨h.1.1, h.1.2, fun y hy e => (h.2 y hy).elim (fun z => absurd e z) id⟩
section
variable {X : Cx} {pins : List (Addr × Obj)} {σ : L2.St} {H : Hp} {s : Shared}
theorem PlainBlk.kindOf {scope : Scope} {C : Addr} (b : PlainBlk scope) {y : Str} {k : NameKind} (h : (compEnvC scope [] C X.env).kindOf y = some k) : k = .local ∨ k = .globalImplicit := by
  have h' : (relS scope X.env.scope).names.lookup y = some k := h
  obtain ⟨k', e, r⟩ := lookup_relS h'
  have hk := b.nm _ (PySem.mem_of_lookup e)
  rcases r with rfl | ⟨rfl, _⟩
  · exact hk
  · rcases hk with z | z <;> cases z
theorem blk_inv {scope : Scope} {C : Addr} {h3 : Heap} {tk : Nat} (I : Inv X pins σ H s) (hc : X.calm = true) (b : PlainBlk scope) (nC : s.heap.objs.size ≤ C) (kp : ∀ b o, s.heap.get? b = some o → h3.get? b = some o) (hns : h3.Ns C fun _ => none) :
    Inv (X.blk s H scope (compEnvC scope [] C X.env) []) [] (List.replicate X.N.length none) H { s with heap := h3, toks := tk } := by
  have nocell : ∀ x c, ([] : List (Str × Addr)).lookup x = some c → False := fun x c e => by simp at e
  have okB : (X.blk s H scope (compEnvC scope [] C X.env) []).Ok := by
    refine ⟨I.ok.mod, b.kind, I.ok.glob, I.ok.blt, nC, fun x y c e _ => (nocell x c e).elim, fun y hy => ?_, fun y c _ e => (nocell y c e).elim, I.ok.hd, I.ok.frames, .inl rfl, fun q hq => absurd hq (by simp), I.bs, Nat.le_trans I.ok.bsz I.sz, fun _ _ _ => by simp, fun q hq => absurd hq (by simp), I.stack, I.stkFree⟩
    exfalso
    rcases hy with hy | hy
    · rcases b.kindOf (X := X) hy with z | z <;> cases z
    · rcases b.kindOf (X := X) hy with z | z <;> cases z
  refine ⟨okB, rfl, I.bare, Un.kept kp, ⟨_, hns, fun i x v _ e _ => ?_⟩, fun x c e => (nocell x c e).elim, I.hok.fresh nC, fun x c e => (nocell x c e).elim, fun p hp => absurd (show p ∈ ([] : List (Addr × Obj)) ++ [] from hp) (by simp), I.hok.kept kp, by simp⟩
  exfalso
  have : (List.replicate X.N.length (none : Option V))[i]? = some (some v) := e
  rw [List.getElem?_replicate] at this
  split at this <;> cases this
end
/-- the reading of the rest r of the list, acc made so far; the list of lambdas stands at a throughout -/
def gAll (X : Cx) (CXl : CXT) (j : Nat) (sp : (Hp → VK → XK → Prop) → Hp → VK → XK → Prop) (σ : L2.St) (a : Addr) (xs : List V) (Q : VK) : List V → List V → Hp → Prop
  | [], acc, H => SqL X.K H a xs ∧ ∀ D, H D = none → Q (.ref D) (upd H D (.lst acc))
  | v :: r, acc, H => SqL X.K H a xs ∧ ∃ (f : Addr) (F : LF) (fr : List Str) (js : List Nat) (lsp : TSp), v = .ref f ∧ LOk X.prog X.w X.K X.mg X.base CXl j f F fr lsp ∧
    H f = some (LamO f F) ∧ H F.c = some (CodeO F.c F.qual) ∧ DvOk F H ∧ (X.Ok → Caps X F.cl fr js) ∧ sp (lsp (js.map (slotAt σ))) H (fun y H2 => gAll X CXl j sp σ a xs Q r (acc ++ [y]) H2) fun _ _ _ => False
theorem gAll_list {X : Cx} {CXl : CXT} {j : Nat} {sp : (Hp → VK → XK → Prop) → Hp → VK → XK → Prop} {σ : L2.St} {a : Addr} {xs : List V} {Q : VK} {r acc : List V} {H : Hp} (h : gAll X CXl j sp σ a xs Q r acc H) : SqL X.K H a xs := by
  cases r with
  | nil => exact h.1
  | cons v r => exact h.1
def tLcT (X : Cx) (CXl : CXT) (j : Nat) (sp : (Hp → VK → XK → Prop) → Hp → VK → XK → Prop) (te : TE) : TE := fun σ H Q => te σ H fun v H1 => ∃ (a : Addr) (xs : List V), v = .ref a ∧ xs.length ≤ 1000 ∧ gAll X CXl j sp σ a xs Q xs [] H1
section
variable {X : Cx} {CXl : CXT} {i k j : Nat} {x g : Str} {gA : Addr} {sp : (Hp → VK → XK → Prop) → Hp → VK → XK → Prop} {scope : Scope} {iter : Expr} {te : TE} {px px2 pg pp pos : Pos}
theorem pe_lcT (G : FnS X.prog X.w X.K X.mg X.base CX0 CXl k j gA sp) (hc : X.calm = true) (hfn : X.fn = fun _ => true) (hN : X.N.Nodup) (hi : X.N[i]? = some x) (b : PlainBlk scope) (hx : scope.names.lookup x = some .local) (hg : scope.names.lookup g = some .globalImplicit)
    (hm : X.mg g = some (.ref gA)) (hk : PySem.W.keepIn X.K (.ref gA) = true) (hr : Room k X.A) (he : PE X iter te) (hdb : (g == ("__debug__" : Str)) = false := by decide) (hdx : (x == ("__debug__" : Str)) = false := by decide)
    (hs : ∀ y, foldedSetIterable iter X.env y = pure y := by intro _; rfl) :
    PE X (.ListComp (.Call (.Name g pg) [.Name x px] [] pp) [⟨.Name x px2, iter, [], 0⟩] scope pos) (tLcT X CXl j sp te) := by
  refine ⟨fun pins s σ H Q I h => ?_⟩
  have hclos : closureFor scope X.env = pure [] := by
    rw [closure_ok (fun y hy e => absurd e (b.noFree y hy)), clo_none b.noFree]
  refine ListComp_goes hclos b.noCell b.kind b.uq ?_ hs
  refine thn (he.run pins s σ H _ I h) fun u s1 hh => ?_
  obtain ⟨v, H1, I1, rv, a, xs, ev, hlen, hga⟩ := hh
  subst ev
  obtain rfl : u = Value.ref a := rv
  obtain ⟨its, ri, ⟨o, n, ho, hcl, _, hd⟩, _⟩ := I1.list (gAll_list hga)
  refine wpAny_pyIter_list (items := its.toArray) ⟨o, ho, hcl, n, hd⟩ ?_
  have hit : a ≠ s1.heap.objs.size := Nat.ne_of_lt (Heap.lt_size ho)
  generalize hsi : s1.heap.objs.size = it at hit ⊢
  refine ⟨it, [it, a], [it], xs.length, _, _, rfl, goes_listV (I1.ok.hd hc) it a hit xs, Nat.le_trans hlen (by decide), ?_, ?_, ?_⟩
  · refine ⟨⟨({ cls := .type "list_iterator", data := .fields #[.ref a, .int 0 0] } : Obj), ?_, rfl, rfl⟩, its.toArray, ⟨o, Heap.get?_push_of_some _ ho, hcl, n, hd⟩, by simpa using ri⟩
    rw [← hsi]
    exact Heap.get?_push_size _ rfl
  · intro q hq
    show q < (s1.heap.push _).objs.size
    rw [Heap.size_push, hsi]
    rcases List.mem_cons.mp hq with rfl | hq
    · exact Nat.lt_succ_self _
    · rw [List.mem_singleton.mp hq, ← hsi]
      exact Nat.lt_succ_of_lt (Heap.lt_size ho)
  · intro D C s3 hB
    obtain ⟨⟨h3, tk3, rfl⟩, old, nD, nC, hDC, hnm⟩ := hB
    have nD' : it + 1 ≤ D := by
      have z : (s1.heap.push ({ cls := .type "list_iterator", data := .fields #[.ref a, .int 0 0] } : Obj)).objs.size ≤ D := nD
      rw [Heap.size_push, hsi] at z
      exact z
    have nC' : it + 1 ≤ C := by
      have z : (s1.heap.push ({ cls := .type "list_iterator", data := .fields #[.ref a, .int 0 0] } : Obj)).objs.size ≤ C := nC
      rw [Heap.size_push, hsi] at z
      exact z
    have sD : s1.heap.objs.size ≤ D := by rw [hsi]; exact Nat.le_of_succ_le nD'
    have sC : s1.heap.objs.size ≤ C := by rw [hsi]; exact Nat.le_of_succ_le nC'
    have sI : s1.heap.objs.size ≤ it := Nat.le_of_eq hsi
    have hDI : D ≠ it := Nat.ne_of_gt nD'
    have hCI : C ≠ it := Nat.ne_of_gt nC'
    have kp : ∀ q u, s1.heap.get? q = some u → h3.get? q = some u := fun q u e => old q u (Heap.get?_push_of_some _ e)
    have fsN : ∀ {q : Addr}, s1.heap.objs.size ≤ q → q ∉ frs X.stack := fun {q} hq z => by
      rcases List.mem_cons.mp (I1.stkSub q z) with z | z
      · exact absurd (Nat.lt_of_lt_of_le I1.lt (z ▸ hq)) (Nat.lt_irrefl _)
      · exact I1.nofs hq z
    generalize hXb : X.blk s1 H1 scope (compEnvC scope [] C X.env) [] = Xb
    have I3 : Inv Xb [] (List.replicate X.N.length none) H1 { s1 with heap := h3, toks := tk3 } := by
      rw [← hXb]
      exact blk_inv I1 hc b sC kp hnm
    have nfree : H1 D = none ∧ H1 it = none := ⟨I1.hok.fresh sD, I1.hok.fresh sI⟩
    have eN : Xb.N = X.N := by rw [← hXb]
    have eL : Xb.env.locals = C := by rw [← hXb]; rfl
    have eS : Xb.s_0 = s1 := by rw [← hXb]
    have eCl : Xb.env.cells = [] := by rw [← hXb]; rfl
    have eFs : Xb.fs = frs X.stack := by rw [← hXb]
    have ePn : Xb.pn = [] := by rw [← hXb]
    refine ⟨fun m ys s4 => ∃ (H4 : Hp) (acc : List V), Inv Xb [] (List.replicate X.N.length none) H4 s4 ∧ Vals acc ys ∧ acc.length = m ∧ H4 D = none ∧ H4 it = none ∧ gAll X CXl j sp σ a xs Q (xs.drop m) acc H4,
      ⟨H1, [], I3, .nil, rfl, nfree.1, nfree.2, hga⟩, ?_, ?_, ?_⟩
    · -- D and the iterator may change
      rintro m ys s4 h' tk ⟨H4, acc, I4, ra, la, fD, fI, q4⟩ hk' _
      refine ⟨H4, acc, ?_, ra, la, fD, fI, q4⟩
      have ne : ∀ {c : Addr} {u : HO}, H4 c = some u → c ∉ [D, it] := fun {c u} e z => by
        rcases List.mem_cons.mp z with z | z
        · rw [z, fD] at e; cases e
        · rw [List.mem_singleton.mp z, fI] at e; cases e
      have nC4 : C ∉ [D, it] := fun z => by
        rcases List.mem_cons.mp z with z | z
        · exact hDC z.symm
        · exact hCI (List.mem_singleton.mp z)
      refine I4.step (g' := s4.gens) (d' := s4.drawn) (t' := tk) (ch := [D, it]) (fun q hq => ⟨.inr ?_, ?_, fun y c e => ?_, fun p hp => ?_⟩) (fun q o _ _ hq e _ => hk' q o hq e) (fun q o _ _ hq e _ => ⟨o.slots, hk' q o hq e⟩) (fun _ _ _ _ z => z) (fun q o hq e => ⟨o, hk' q o hq e⟩)
        (fun _ _ e => e) (fun _ _ _ e => e) (fun q ps e => ⟨#[], by rw [e]; simp⟩) (fun mm hm4 => ?_) (fun q u e => (I4.hok q u e).stay (fun c v hc2 z => hk' c v (by
          rcases hc2 with hc2 | hc2
          · rw [hc2]
            exact ne e
          · exact ne hc2) z) (fun _ z => z) fun _ _ z => z) I4.bare
      · rw [eS]
        rcases List.mem_cons.mp hq with z | z
        · rw [z]; exact sD
        · rw [List.mem_singleton.mp z]; exact sI
      · rw [eL]
        exact fun z => nC4 (z ▸ hq)
      · rw [eCl] at e
        simp at e
      · rw [ePn] at hp
        simp at hp
      · obtain ⟨o5, es, ep, e5, r5⟩ := hm4
        rw [eL] at e5 ⊢
        exact ⟨o5, es, ep, hk' C o5 nC4 e5, r5⟩
    · -- one turn
      rintro m u ys s4 hm4 ⟨xv, hxv, rxv⟩ hSt ⟨H4, acc, I4, ra, la, fD, fI, q4⟩ hPL
      have hdrop : xs.drop m = xv :: xs.drop (m + 1) := by
        obtain ⟨hlt, e⟩ := List.getElem?_eq_some_iff.mp hxv
        rw [List.drop_eq_getElem_cons hlt, e]
      rw [hdrop] at q4
      obtain ⟨_, f, F, fr, js, lsp, ef, L, hf, hco, hdv, cp, q5⟩ := q4
      subst ef
      obtain rfl : u = Value.ref f := rxv
      obtain ⟨⟨oi, hoi, hoc, hod⟩, _⟩ := hSt
      obtain ⟨nD4, hoD⟩ := hPL
      have Ip : Inv Xb [(it, oi), (D, ({ cls := .type "list", data := .seq ys.toArray nD4 } : Obj))] (List.replicate X.N.length none) H4 s4 := by
        refine I4.pins_of fun p hp => ?_
        rcases List.mem_cons.mp hp with rfl | hp
        · refine ⟨hoi, fI, by rw [eL]; exact Ne.symm hCI, by rw [eFs]; exact fsN sI, fun v z => ?_⟩
          rw [hod] at z
          cases z
        · rw [List.mem_singleton.mp hp]
          exact ⟨hoD, fD, by rw [eL]; exact hDC, by rw [eFs]; exact fsN sD, fun v z => by cases z⟩
      have hlocB : Xb.env.scope.names.lookup x = some .local := by rw [← hXb]; exact lookup_relabel_local hx
      have hEnv : compEnvC scope [] C X.env = Xb.env := by rw [← hXb]
      have hprog : Xb.prog = X.prog := by rw [← hXb]
      have hw : Xb.w = X.w := by rw [← hXb]
      have hAA : Xb.A = X.A := by rw [← hXb]
      have hst : Xb.stack = X.stack := by rw [← hXb]
      have hmgB : Xb.mg = X.mg := by rw [← hXb]
      have hKB : Xb.K = X.K := by rw [← hXb]
      have hbB : Xb.base = X.base := by rw [← hXb]
      have hglB : Gl Xb g := by
        have key := lookup_relS_keep (sc := X.env.scope) (by intro z; cases z) hg
        rw [← hXb]
        exact key
      have eX : Xb.ex = [] := by rw [← hXb]
      have eH : Xb.H_0 = H1 := by rw [← hXb]
      have cpX := cp I.ok
      have C0 : CellsAt F.cl fr (js.map (slotAt σ)) Xb.s_0.heap Xb.H_0 := by
        rw [eS, eH]
        exact cells_of I1 cpX
      have nf : ∀ y c, F.cl.lookup y = some c → c ∉ frs X.stack := fun y c e z => by
        have e' := cpX.sub y c e
        rcases List.mem_cons.mp (I1.stkSub c z) with z | z
        · exact I1.cne y c e' z
        · have h1 := I1.ok.cab y c (by rw [hfn]) e'
          obtain ⟨_, ob, hob, _⟩ := I1.ok.funs.mem z
          exact absurd (Nat.lt_of_lt_of_le (Heap.lt_size hob) h1) (Nat.lt_irrefl _)
      rw [hEnv, ← hAA, ← hprog, ← hw]
      refine wpAny_assign_Name (store_ok Ip (by rw [eN]; exact hN) (by rw [eN]; exact hi) (.inl hlocB) (v := V.ref f) rfl (fun s5 I5 => ?_) (.inr hlocB))
      refine wpAny_tests_nil ?_
      rw [if_pos rfl]
      have hsl : (List.replicate X.N.length (none : Option V)).set i (some (.ref f)) = (List.replicate X.N.length (none : Option V)).set i (some (.ref f)) := rfl
      have hiN : i < X.N.length := (List.getElem?_eq_some_iff.mp hi).1
      have hget : ((List.replicate X.N.length (none : Option V)).set i (some (.ref f)))[i]? = some (some (.ref f)) := List.getElem?_set_self (by simpa using hiN)
      refine wpAny_Call_Name_kw (ld_glob (X := Xb) I5 hglB (by rw [hmgB]; exact hm) ?_ hdb)
      have hkB : PySem.W.keepIn Xb.K (.ref gA) = true := by rw [hKB]; exact hk
      obtain ⟨mm, hnsB, hlk⟩ := I5.loc
      obtain ⟨uu, ru, lk⟩ := hlk i x (.ref f) (by rw [eN]; exact hi) hget (.inl hlocB)
      obtain rfl : uu = Value.ref f := ru
      have hmm : mm x = some (.ref f) := by
        rcases lk with ⟨_, z⟩ | ⟨z, _⟩
        · exact z
        · have z' : Xb.env.scope.names.lookup x = some .cell ∨ Xb.env.scope.names.lookup x = some .free := z
          rw [hlocB] at z'
          rcases z' with z' | z' <;> cases z'
      refine PySem.W.callWith_K (h₀ := Xb.base) I5.ok.mod.kin hkB (Calls.spliced_cons (wpAny_Name (wpAny_loadName_local I5.ok.kind hlocB hnsB hmm (Calls.spliced_nil ⟨I5.kIn, ?_⟩)) hdx)) rfl rfl
      show wpAny _ _ (call (.ref gA) [.ref f]) _ _ _
      have C5 : CellsAt F.cl fr (js.map (slotAt σ)) s5.heap H4 := C0.later (fun y c e => by rw [eFs]; exact nf y c e) (fun y c e z => by rw [eX] at z; cases z) I5
      have TH : Thunk X.prog X.w X.K X.mg X.base CXl j X.stack s5 H4 f (lsp (js.map (slotAt σ))) := ⟨F, fr, _, lsp, L, hf, hco, hdv, C5, nf, rfl⟩
      have e5 := I5.env0
      rw [hprog, hw, hKB, hmgB, hbB, hAA, hst] at e5
      refine wpAny_call (codeAny_mono (hprog ▸ hw ▸ hAA ▸ G X.A X.stack s5 H4 f _ _ (fun _ _ _ => False) hr e5 TH q5) fun r s6 hq => ?_)
      cases r with
      | error e => exact False.elim hq
      | ok fl =>
        cases fl with
        | next => exact False.elim hq
        | brk => exact False.elim hq
        | cont => exact False.elim hq
        | ret z =>
          have hq' : CE Xb.stack Xb.prog Xb.w H4 s5 (fun y H2 => gAll X CXl j sp σ a xs Q (xs.drop (m + 1)) (acc ++ [y]) H2) z s6 := by rw [hst]; exact hq
          obtain ⟨y, H6, I6, ry, q6⟩ := I5.after hq'
          have p1 := I6.pin (it, oi) (List.mem_append_right _ List.mem_cons_self)
          have p2 := I6.pin (D, ({ cls := .type "list", data := .seq ys.toArray nD4 } : Obj)) (List.mem_append_right _ (List.mem_cons_of_mem _ List.mem_cons_self))
          obtain ⟨its6, ri6, ⟨o6, n6, ho6, hc6, _, hd6⟩, _⟩ := I6.list (by rw [hKB]; exact gAll_list q6)
          refine ⟨⟨H6, acc ++ [y], ?_, ra.append (.cons ry .nil), by rw [List.length_append, la]; rfl, p2.2.1, p1.2.1, q6⟩, ⟨⟨oi, p1.1, hoc, hod⟩, its6.toArray, ⟨o6, ho6, hc6, n6, hd6⟩, by simpa using ri6⟩, ⟨nD4, p2.1⟩⟩
          refine (I6.pins_of (pins' := []) (fun p hp => absurd hp (by simp))).weak (by simp) fun ii v e => ?_
          rw [List.getElem?_replicate] at e
          split at e <;> cases e
    · -- the end
      rintro ys s4 ⟨H4, acc, I4, ra, la, fD, fI, q4⟩ ⟨nD4, hoD⟩
      obtain ⟨mC, hnC, _⟩ := I4.loc
      rw [eL] at hnC
      refine ⟨mC, hnC, fun h5 sb => ?_⟩
      rw [List.drop_length] at q4
      have hgt : ∀ q u, q ≠ C → s4.heap.get? q = some u → h5.get? q = some u := fun q u hq e => (sb.2 q hq).trans e
      have fC : H4 C = none := by have z := I4.free; rw [eL] at z; exact z
      have ub := I4.base
      have uo := I4.os
      have hk4 := I4.hok
      rw [eFs, eS] at ub
      have eH : Xb.H_0 = H1 := by rw [← hXb]
      have eX : Xb.ex = [] := by rw [← hXb]
      rw [eH, eX] at ub
      rw [eS] at uo
      have hprog : Xb.prog = X.prog := by rw [← hXb]
      have hw : Xb.w = X.w := by rw [← hXb]
      rw [hprog, hw] at hk4
      have neS : ∀ {q : Addr} {u : Obj}, s1.heap.get? q = some u → q ≠ C ∧ q ≠ D := fun {q u} e => ⟨Nat.ne_of_lt (Nat.lt_of_lt_of_le (Heap.lt_size e) sC), Nat.ne_of_lt (Nat.lt_of_lt_of_le (Heap.lt_size e) sD)⟩
      have lenA : acc.length ≤ 1000 := by rw [la]; exact hlen
      have U : Un (frs X.stack) [] H1 (upd H4 D (.lst acc)) s1.heap h5 := {
        keep := fun q u e nq hf hx2 => hgt q u (neS e).1 (ub.keep q u e nq hf hx2)
        slot := fun q u e nq hf hx2 => by
          obtain ⟨sl, z⟩ := ub.slot q u e nq hf hx2
          exact ⟨sl, hgt q _ (neS e).1 z⟩
        free := fun q u e nq hx2 => by rw [upd_ne (neS e).2]; exact ub.free q u e nq hx2
        there := fun q u e hx2 => by
          obtain ⟨u', z⟩ := ub.there q u e hx2
          exact ⟨u', hgt q _ (neS e).1 z⟩
        tups := fun q ys2 e => by
          have z := ub.tups q ys2 e
          rw [upd_ne (ne_of_none z fD)]
          exact z
        frzs := fun q o2 u e => by
          have z := ub.frzs q o2 u e
          rw [upd_ne (ne_of_none z fD)]
          exact z
        tbls := fun q ps e => by
          obtain ⟨more, z⟩ := ub.tbls q ps e
          exact ⟨more, by rw [upd_ne (ne_of_none z fD)]; exact z⟩ }
      have hok5 : HOk X.prog X.w (upd H4 D (.lst acc)) h5 := fun q u e => by
        by_cases hq : q = D
        · subst hq
          rw [upd_same] at e
          cases e
          exact ⟨Nat.le_trans lenA (by decide), ys, nD4, ra, hgt q _ hDC hoD⟩
        · rw [upd_ne hq] at e
          refine (hk4 q u e).stay (fun c v hc2 z => hgt c v (fun zc => ?_) z) (fun c z => by rw [upd_ne (ne_of_none z fD)]; exact z) fun c zs z => by rw [upd_ne (ne_of_none z fD)]; exact z
          rcases hc2 with hc2 | hc2
          · rw [← hc2, zc, fC] at e
            cases e
          · rw [zc, fC] at hc2
            cases hc2
      have J : Inv X pins σ (upd H4 D (.lst acc)) { s4 with heap := h5 } := I1.call' (ch := []) uo U hok5 I4.bare fun q hq => absurd hq (by simp)
      exact ⟨.ref D, _, J, rfl, q4.2 D fD⟩
end
end Sea

set_option Elab.async false
set_option linter.all false
set_option maxRecDepth 100000
set_option maxHeartbeats 4000000
/-! an own exception class called with keywords alone: C(k = v, ..) -/
namespace Sea
open PySem PySem.Spec PyProof.Rows PySem.HandSPX
/-- in h the class C is one of errors over ValueError: what it inherits, by the built-in names -/
structure ErrAt (h : Heap) (C : Addr) : Prop where
  ex : ∃ nm q N bs bm sn sub ab col dd k0 k1 k2 k3 k5, h.get? C = some (excClassObj nm q C N bs bm true sn sub ab col dd k0 k1 k2 k3 k5 "ValueError.__new__") ∧ refsVE bm = true
theorem ErrAt.over {bm : List Value} (C : Addr) (h : refsVE bm = true) (X : String) : (Value.ref C :: bm).contains (.type X) = veTail.contains (.type X) :=
  (List.contains_cons).trans ((Bool.false_or _).trans (refsVE_contains X bm h))
/-- the heap in which the error stands, its arguments empty -/
abbrev born (C : Addr) (h : Heap) : Heap := (h.push (W.kdv_tup [])).push (excO C h.objs.size)
theorem born_old {C : Addr} {h : Heap} : ∀ b o, h.get? b = some o → (born C h).get? b = some o := fun _ _ z => Heap.get?_push_of_some _ (Heap.get?_push_of_some _ z)
theorem born_new {C : Addr} {h : Heap} : (born C h).get? (h.objs.size + 1) = some (excO C h.objs.size) := by
  rw [← Heap.size_push h (o := W.kdv_tup [])]
  exact Heap.get?_push_size _ rfl
section
variable {prog : Program} {w : World} {A : Around} {R : Result → Shared → Prop} {s : Shared} {C : Addr} {kw : List (Str × Value)}
/-- ValueError.__new__(C, k = v, ..) -/
theorem err_born (T : ErrAt s.heap C) (q : R (.ok (.ret (.ref (s.heap.objs.size + 1)))) { s with heap := born C s.heap }) : codeAny (model prog w) A (.call (.builtin "ValueError.__new__") ⟨[.ref C], kw⟩) R s := by
  obtain ⟨nm, qn, N, bs, bm, sn, sub, ab, col, dd, k0, k1, k2, k3, k5, at_, ve⟩ := T.ex
  have V := F.excBase_ValueError
  have yes : (Value.ref C :: bm).contains (.type "ValueError") = true := ErrAt.over C ve _
  have no1 : (Value.ref C :: bm).contains (.type "AttributeError") = false := ErrAt.over C ve _
  have no2 : (Value.ref C :: bm).contains (.type "NameError") = false := ErrAt.over C ve _
  have tail := V.ends
  have star := V.noStar
  obtain ⟨hp, g, d, t, os⟩ := s
  apply codeAny_call_builtin_code (Code.quiet_builtin _ V.quiet)
  simp only [checkBuiltinCall, V.newKind, V.newSplit, V.newRow]
  repeat (first
    | (refine wpAny_isSubtype_exc at_ ?_; rw [yes])
    | refine wpAny_loadPart_at at_ ?_
    | refine wpAny_madeBy_exc at_ ?_
    | refine wpAny_staticBase_exc at_ ?_
    | simp only [bne_self_eq_false, Bool.false_eq_true, if_false]
    | wp_step)
  apply codeAny_builtinAt V.entry
  unfold Builtin.«BaseException.__new__»
  refine PySem.wpAt_bind ?_
  refine PySem.wpAt_bind (m := stack) (PySem.wpAt_stack ?_)
  intro p below
  refine PySem.wpAt_of_wpAny ?_
  wp_walk
  refine PySem.wpAt_of_wpAny ?_
  rw [V.owner]
  repeat (first
    | (with_reducible refine wpAny_isSubtype_exc at_ ?_; simp only [yes, no1, no2])
    | with_reducible refine wpAny_loadPart_at at_ ?_
    | with_reducible refine wpAny_madeHere_exc V.canon at_ ?_
    | wp_step)
  exact (Heap.size_push hp (o := W.kdv_tup [])).symm ▸ q
/-- C(k = v, ..): the error is born, then its class's def __init__ has it -/
theorem err_call {fI : Addr} (T : ErrAt s.heap C) (ini : W.Looks (model prog w) s.heap (typeLookup (.ref C) "__init__") (some (.ref fI))) (bnd : ∀ self, W.Looks (model prog w) s.heap (bindSpecial (.ref fI) self) (.ref fI, [self]))
    (q : codeAny (model prog w) (A.under (.builtin "type.__call__" ⟨[.ref C], kw⟩)) (.call (.ref fI) ⟨[.ref (s.heap.objs.size + 1)], kw⟩) (W.InitBack (s.heap.objs.size + 1) R) { s with heap := born C s.heap }) :
    codeAny (model prog w) A (.call (.ref C) ⟨[], kw⟩) R s := by
  have ⟨nm, qn, N, bs, bm, sn, sub, ab, col, dd, k0, k1, k2, k3, k5, at_, ve⟩ := T.ex
  have isC : (Value.ref C :: bm).contains (.ref C) = true := by simp
  have isTy : s.TypeIs (.ref C) "type" := ⟨_, at_, rfl⟩
  have dunder := tc_lookup
  have bound := tc_bind (.ref C)
  have tsub := tc_sub
  have ini' := ini.keeps (born_old (C := C))
  have bnd' := (bnd (.ref (s.heap.objs.size + 1))).keeps (born_old (C := C))
  have at2 := born_old (C := C) _ _ at_
  have new2 := born_new (C := C) (h := s.heap)
  obtain ⟨hp, g, d, t, os⟩ := s
  dsimp only at at_ at2 new2 ini' bnd' q
  have quiet := Code.quiet_builtin (id := "type.__call__") ⟨[.ref C], kw⟩ (by decide +kernel)
  apply codeAny_of_tree
  show wpAny _ _ (callAny (.ref C) _) _ _ _
  repeat (any_goals (first | assumption | with_reducible refine wpAny_loadPart_at at_ ?_ | wp_step))
  refine ⟨rfl, codeAny_call_builtin_at quiet entry_typeCall ?_⟩
  simp only [checkBuiltinCall, tc_kind, tc_split]
  unfold Builtin.«type.__call__»
  repeat (any_goals (first
    | assumption
    | with_reducible refine wpAny_loadPart_at at_ ?_
    | with_reducible refine wpAny_onRaise ?_
    | with_reducible refine wpAny_map ?_
    | with_reducible refine wpAny_madeBy_exc at_ ?_
    | wp_step))
  refine err_born (s := ⟨hp, g, d, t, os⟩) T ?_
  show wpAny _ _ _ _ _ _
  have i1 : (born C hp).get? (hp.objs.size + 1) = some (excO C hp.objs.size) := new2
  unfold isInstance
  repeat (first
    | with_reducible refine wpAny_loadPart_at new2 ?_
    | (with_reducible refine wpAny_isSubtype_exc at2 ?_; rw [isC])
    | wp_step)
  show wpAny _ _ (typeLookup (.ref C) "__init__") _ _ ⟨born C hp, g, d, t, os⟩
  refine ini'.at ?_
  refine wpAny_holding (wpAny_bind (bnd'.at (wpAny_bind (wpAny_call ?_))))
  refine codeAny_mono q fun r s2 z => ?_
  match r, z with
  | .error _, z => exact z
  | .ok (.ret _), ⟨e, z⟩ =>
    subst e
    exact wpAny_pure (wpAny_pure z)
  | .ok .next, z => exact z.elim
  | .ok .brk, z => exact z.elim
  | .ok .cont, z => exact z.elim
end
end Sea

set_option Elab.async false
set_option linter.all false
set_option maxRecDepth 100000
set_option maxHeartbeats 4000000
/-! raise C(k = v, ..), C an own exception class over another own one whose __init__ says P.__init__(self, text) and stores its keywords -/
namespace Sea
open PySem PySem.Spec PyProof.Rows L2 LamX NdefX ClX
/-- C(k = v, ..) -/
def tMkK (C : Addr) (n : Nat) (sp : Sp) (gV : List V → List V → List V) (tk : TA) : L2.St → Hp → XK → Prop := fun σ H Q => tk σ H fun zs H1 => zs.length = n ∧ ∀ a, H1 a = none → sp (gV [.ref a] zs) (upd H1 a (exo a C none))
  (fun v H2 => v = .non ∧ ∃ (d : Addr) (fs : List (Str × V)), H2 a = some (exo a C (some d)) ∧ H2 d = some (exd d fs) ∧ H1 d = none ∧ Q (.ref C) (some d) (upd (del H2 a) d (.xd fs))) (fun _ _ _ => False)
section
variable {X : Cx} {e : Expr} {es : List Expr} {ta : TA} {p p1 p2 pos : Pos} {kws : List Keyword} {tk : TA} {ks : List Str} {g : List Value → List Value → List Value} {gV : List V → List V → List V}
theorem pe_pinit {x : Str} {B : Addr} {mc : Value} {pl : Sem Bool} (hg : Gl X x) (hm : X.mg x = some (.ref B)) (rd : PySem.W.readsIn X.K B mc = true) (ga : PySem.W.specialIn X.K (.ref B) "__getattribute__" = some (some (.builtin "type.__getattribute__")))
    (hat : PySem.W.findCls X.K (.ref B) mc "__init__" = some (.val (.builtin "ValueError.__init__"))) (ha : PA X (e :: es) ta) (hdb : (x == ("__debug__" : Str)) = false := by decide)
    (hc : eval (.Call (.Attribute (.Name x p1) "__init__" p2) (e :: es) [] pos) X.env = (do
      let ov ← eval (.Name x p1) X.env
      standAt p2.atName
      let (f, first) ← holding [ov] (getMethod ov "__init__" pl)
      callWith pos f first (backTo pos (starEach (e :: es) X.env)) (backToKw pos (keywordEach [] X.env))) := by rfl)
    (he : starEach (e :: es) X.env = (false, eval e X.env) :: starEach es X.env := by rfl) (hpl : (backTo pos (starEach es X.env)).any (·.1) = false := by rfl) :
    PE X (.Call (.Attribute (.Name x p1) "__init__" p2) (e :: es) [] pos) (tVeI X.K ta) := by
  constructor
  intro pins s σ H Q I h
  apply PySem.W.methodCall_KW (ld_glob I hg hm (PySem.W.method_cls I.kIn ga (PySem.W.cls_value I.kIn rd hat (by decide +kernel) ?_)) hdb) hc
  have args := ha.run pos pins _ σ H _ (I.tok (s.toks + 1)) h
  show wpAny _ _ (callWith pos (Value.builtin "ValueError.__init__") [] (backTo pos (starEach (e :: es) X.env)) []) _ _ _
  refine PyProof.Rows.callWith_method1 (thn args ?_) he hpl
  rintro us s1 ⟨_, H1, J, rel, a, C, ws, rfl, few, T, ea, q⟩
  match us, rel with
  | u :: ur, .cons ra rr =>
    rw [show u = .ref a from ra]
    have short : ur.length ≤ sizeLine := by
      rw [sizeLine_eq, ← Paired.length rr]
      omega
    exact oinit_ok T J ea short fun s' L => ⟨.non, H1, L, rfl, q⟩
theorem pmk_kw {CX : CXT} {x : Str} {C fI : Addr} {k : Nat} {fd : FuncData} {ps : List Str} {sp : Sp} (T : OexC X.K C) (iC : PySem.W.findIn X.K (.ref C) "__init__" = some (some (.ref fI))) (tI : PySem.W.typeIn X.K (.ref fI) = some (.type "function"))
    (F1 : FnOk X.prog X.w X.K X.mg X.base CX k fI fd ps sp) (hr : Room (k + 1) X.A) (hb : KBn X.K fd ps 1 ks g gV) (hx : Passes CX X (fun _ _ _ => False)) (hg : Gl X x) (hm : X.mg x = some (.ref C)) (hkw : PK X kws tk)
    (hall : (backToKw pos (keywordEach kws X.env)).all (·.1.isSome) = true := by rfl) (hks : (backToKw pos (keywordEach kws X.env)).filterMap (·.1) = ks := by rfl) (hdb : (x == ("__debug__" : Str)) = false := by decide)
    (hpl : ((backTo pos (starEach [] X.env)).any (·.1) || (backToKw pos (keywordEach kws X.env)).any (·.1.isNone)) = false := by rfl) :
    PMk X (.Call (.Name x p) [] kws pos) (tMkK C ks.length sp gV tk) := by
  intro pins s σ H Q I h
  apply wpAny_Call_Name_kw
  apply ld_glob I hg hm ?_ hdb
  apply PySem.W.callWith_KW0 (h₀ := X.base) I.ok.mod.kin T.kC hall ?_ hpl
  refine thn (hkw.run pos pins s σ H _ I h) ?_
  rintro ws ⟨hp, g1, dr, tk', os⟩ ⟨zs, H1, J, rel, many, q⟩
  have err : ErrAt hp C := by
    obtain ⟨nm, qn, N, bs, bm, sn, sub, ab, col, dd, k0, k1, k2, k3, k5, at_, ve⟩ := T.cls
    exact ⟨nm, qn, N, bs, bm, sn, sub, ab, col, dd, k0, k1, k2, k3, k5, J.kIn _ _ at_, ve⟩
  have above : hp.objs.size ≤ hp.objs.size + 1 := Nat.le_succ _
  -- the invariant once the error stands in the heap
  have L : Inv X pins σ (upd H1 (hp.objs.size + 1) (exo (hp.objs.size + 1) C none)) ⟨born C hp, g1, dr, tk', os⟩ := J.laid (t' := tk') born_old above (exo_ok born_new)
  have ini := F1.run _ X.stack _ _ ⟨[.ref (hp.objs.size + 1)], ks.zip ws⟩ (g [.ref (hp.objs.size + 1)] ws) _ _ (fun _ _ _ => False) (hr.make C [] (ks.zip ws)) (L.env0.make C [] (ks.zip ws))
    (hb.to _ [.ref (hp.objs.size + 1)] ws L.kIn rfl (rel.length.symm.trans many)) (hb.rel (us := [.ref (hp.objs.size + 1)]) (vs := [.ref (hp.objs.size + 1)]) (.cons rfl .nil) rel) (q (hp.objs.size + 1) (J.hok.fresh above))
  rw [hks]
  refine ⟨J.kIn, wpAny_call (err_call err (PySem.W.looks_findIn J.kIn iC) (fun self => PySem.W.bind_fn J.kIn self tI) (codeAny_mono ini ?_))⟩
  intro r s' back
  match r, back with
  | .error er, back => exact hx pins σ _ _ er s' L back
  | .ok .next, back => exact back.elim
  | .ok .brk, back => exact back.elim
  | .ok .cont, back => exact back.elim
  | .ok (.ret _), ⟨_, H2, os2, bare, un, hok, rv, e, d, fs, ea, ed, hd1, q2⟩ =>
    subst e
    obtain ⟨h2, g2, d2, t2, os3⟩ := s'
    exact ⟨rv, mk_end (raises_own T.exC T.tyC) J above born_old un hok os2 bare ea ed hd1 q2⟩
end

/-! ### the __init__ of such a class: one keyword, two keywords -/
/-- the class facts that the body asks: its parent's __init__ is ValueError's -/
structure PIn (K : PySem.W.Frag) (mg : Str → Option Value) (x : Str) (B : Addr) (mc : Value) : Prop where
  gB : mg x = some (.ref B)
  rd : PySem.W.readsIn K B mc = true
  ga : PySem.W.specialIn K (.ref B) "__getattribute__" = some (some (.builtin "type.__getattribute__"))
  at_ : PySem.W.findCls K (.ref B) mc "__init__" = some (.val (.builtin "ValueError.__init__"))
def spX1 (K : PySem.W.Frag) (f : Str) : Sp := fun vs H Q _ => ∃ (a C : Addr) (y : V), vs = [.ref a, y] ∧ OexC K C ∧ PySem.W.findIn K (.ref C) f = some none ∧ H a = some (exo a C none) ∧
  ∀ dx, H dx = none → dx ≠ a → Q .non (upd (upd H dx (exd dx [(f, y)])) a (exo a C (some dx)))
def spX2 (K : PySem.W.Frag) (f g : Str) : Sp := fun vs H Q _ => ∃ (a C : Addr) (y z : V), vs = [.ref a, y, z] ∧ OexC K C ∧ PySem.W.findIn K (.ref C) f = some none ∧ PySem.W.findIn K (.ref C) g = some none ∧ H a = some (exo a C none) ∧
  ∀ dx, H dx = none → dx ≠ a → Q .non (upd (upd (upd H dx (exd dx [(f, y)])) a (exo a C (some dx))) dx (exd dx [(g, z), (f, y)]))
theorem gone_eq {H : Hp} {a d : Addr} {o : HO} {u w v : HO} (ha : H a = none) (hd : d ≠ a) : upd (del (upd (upd H d u) a o) a) d v = upd H d v := by
  funext b
  by_cases hb : b = d
  · subst hb
    rw [upd_same, upd_same]
  · rw [upd_ne hb, upd_ne hb]
    by_cases hba : b = a
    · subst hba
      rw [del_same, ha]
    · rw [del_ne hba, upd_ne hba, upd_ne hb]
theorem gone_eq2 {H : Hp} {a d : Addr} {o : HO} {u w v : HO} (ha : H a = none) (hd : d ≠ a) : upd (del (upd (upd (upd H d u) a o) d w) a) d v = upd H d v := by
  funext b
  by_cases hb : b = d
  · subst hb
    rw [upd_same, upd_same]
  · rw [upd_ne hb, upd_ne hb]
    by_cases hba : b = a
    · subst hba
      rw [del_same, ha]
    · rw [del_ne hba, upd_ne hb, upd_ne hba, upd_ne hb]
end Sea

set_option Elab.async false
set_option linter.all false
set_option maxRecDepth 100000
set_option maxHeartbeats 4000000
/-! enumerate over a tuple -/
namespace Sea
open PySem PySem.Spec PyProof.Rows L2
/-- enumerate(t), t the tuple at a: a new iterator over it, and a new cell that counts -/
structure EnumMade (a : Addr) (h h2 : Heap) : Prop where
  cell : IsEnum h2 (h.objs.size + 1) h.objs.size 0 .none
  iter : h2.IsTupleIter h.objs.size a 0
  old : ∀ b o, h.get? b = some o → h2.get? b = some o
theorem enumMade (a : Addr) (h : Heap) :
    EnumMade a h ((h.push { cls := .type "tuple_iterator", data := .fields #[.ref a, .int 0 0] }).push { cls := .type "enumerate", data := .fields #[.none, .bool false, .ref h.objs.size, rawInt 0, .none, .none] }) where
  cell := by
    show Heap.get? _ _ = _
    rw [← Heap.size_push h (o := { cls := .type "tuple_iterator", data := .fields #[.ref a, .int 0 0] })]
    exact Heap.get?_push_size _ rfl
  iter := ⟨_, Heap.get?_push_of_some _ (Heap.get?_push_size h rfl), rfl, rfl⟩
  old := fun _ _ z => Heap.get?_push_of_some _ (Heap.get?_push_of_some _ z)
theorem Sem_any {α : Type} {M : Model} {A : Around} {E : Value → Shared → Prop} {s : Shared} {v : α} {Q : α → Shared → Prop} (q : ∀ x, Q x s) : wpAny M A (pure v) Q E s := wpAny_pure (q v)
theorem new_enumT (a : Addr) (its : Array Value) :
    Meets (Builtin.«enumerate.__new__» ⟨[.type "enumerate", .ref a], []⟩) (fun _ R s => s.heap.IsTuple a its ∧ ∀ h2, EnumMade a s.heap h2 → R (.ok (.ret (.ref (s.heap.objs.size + 1)))) { s with heap := h2 }) := by
  apply Meets.of_wp
  intro prog w A R s z
  have ht := z.1
  have made := z.2
  have ready := sub_enumerate
  have got := made _ (enumMade a s.heap)
  rw [← Heap.size_push s.heap (o := { cls := .type "tuple_iterator", data := .fields #[.ref a, .int 0 0] })] at got
  have it : ∀ {B : Around} {Er T : Value → Shared → Prop}, T (.ref s.heap.objs.size) { s with heap := s.heap.push _ } → wpAny (model prog w) B (pyIter (.ref a)) T Er s := fun r => (begins_tuple a its).iter prog w _ _ s _ ht r
  wp_walk using it
  refine wpAny_stack_any fun stk => Sem_any fun short => ?_
  cases short <;> wp_walk using it <;> exact ⟨_, rfl, got⟩
theorem call_enumT {prog : Program} {w : World} {A : Around} {E Q : Value → Shared → Prop} {s : Shared} {a : Addr} {its : Array Value} (ht : s.heap.IsTuple a its) (h : ∀ h2, EnumMade a s.heap h2 → Q (.ref (s.heap.objs.size + 1)) { s with heap := h2 }) :
    wpAny (model prog w) A (call (.type "enumerate") [.ref a]) Q E s :=
  callType_new F.called_enumerate (by decide) (F.typeCall_enumerate_1 _) (F.newCall_enumerate_1 _) (fun obj => F.args_object_init_2 obj _) F.entry_enumerate_new (new_enumT a its)
    ⟨ht, fun h2 m => ⟨⟨_, m.cell, rfl⟩, h h2 m⟩⟩
/-- the turns over a tuple that is known to hold xs: while there are items, a new pair of the place and the item -/
def IteT (K : PySem.W.Frag) (a : Addr) (xs : List V) : It where
  go i H := i < xs.length ∧ SqT K H a xs
  yld i H v H' := ∃ x pair, xs[i]? = some x ∧ H pair = none ∧ v = .ref pair ∧ H' = upd H pair (.tup [.int (i : Nat), x])
  stop i H := i = xs.length ∧ SqT K H a xs
/-- the walk over enumerate, as the library's WalksT.enumFrom tells it, read as turns of IteT -/
theorem turn_enumT {P : Program} {w : World} {K : PySem.W.Frag} {elts : List Expr} {kk : Nat} {tpos : Pos} (a e it : Addr) (xs : List V) (hei : e ≠ it) (hai : a ≠ it) (hae : a ≠ e) :
    Turn P w K (.Tuple elts kk tpos) (IteT K a xs) [e, it] e (fun i h => (∃ old, IsEnum h e it (0 + (i : Int)) old) ∧ h.IsTupleIter it a i) := by
  have walk := fun (A : Around) (hh : A.handled = none) (its : Array Value) =>
    WalksT.enumFrom (prog := P) (w := w) (A := A) 0 (Draws.tuple (A := A.in1) hh it a hai its) e hei (by simp [hei, Ne.symm hae]) (by simp)
  refine { mem := List.mem_cons_self .., obj := ?_, keep := ?_, item := ?_, done := ?_, self := ?_ }
  · rintro i h ⟨⟨old, he⟩, o, ho, _, hd⟩ b hb
    simp only [List.mem_cons, List.not_mem_nil, or_false] at hb
    cases hb with
    | inl hb => subst hb; exact ⟨_, he, by intro v; simp⟩
    | inr hb => subst hb; exact ⟨o, ho, by intro v; rw [hd]; simp⟩
  · rintro i h h2 ⟨⟨old, he⟩, hi⟩ k
    exact ⟨⟨old, k e (by simp) _ he⟩, hi.at fun o q => k it (by simp) o q⟩
  · rintro X rfl rfl rfl hc i pins s σ H Ex I hf ⟨en, hi⟩ ⟨lt, hq⟩
    obtain ⟨its, rv, pt, _⟩ := I.tuple hq
    have hx : xs[i]? = some xs[i] := List.getElem?_eq_getElem lt
    generalize xs[i] = x at hx
    obtain ⟨y, hy, ry⟩ := rv.get hx
    have W := walk X.A (I.ok.hd hc) its.toArray
    refine W.item i s _ _ (by simpa using (List.getElem?_eq_some_iff.mp hy).1) ⟨en, hi, pt⟩ ?_
    rintro T vals h2 tk ⟨t, z, hz, rfl⟩ hle hT hmid hk
    obtain rfl : z = y := Option.some.inj (Eq.trans (by simpa using hz.symm) hy)
    refine ⟨_, rfl, W.go elts kk tpos i T _ _ _ hmid fun h3 st3 hk3 => ?_⟩
    have keeps : ∀ b o, b ∉ [e, it] → s.heap.get? b = some o → h3.get? b = some o := fun b o hb q => hk3 b o hb (hk b o hb q)
    have pair : ObjOk X.prog X.w (upd H T (.tup [.int (i : Nat), x])) h3 T (.tup [.int (i : Nat), x]) :=
      ⟨by show 2 ≤ sizeLine; decide, [.int (0 + (i : Int)) t, z], .cons ⟨t, by rw [Int.zero_add]⟩ (.cons ry .nil), hT.at fun o q => hk3 T o (W.apart i T h2 hmid) q⟩
    have nT : H T = none := I.hok.fresh hle
    refine ⟨.ref T, _, I.turnedNew (t' := tk) keeps hf hle pair, rfl, ⟨x, T, hx, nT, rfl, rfl⟩, ⟨st3.1, st3.2.1⟩, fun b hb => ?_⟩
    rw [upd_ne (show b ≠ T from fun z => W.apart i T h2 hmid (z ▸ hb))]
    exact (hf b hb).1
  · rintro X rfl rfl rfl hc i pins s σ H Ex I hf ⟨en, hi⟩ ⟨rfl, hq⟩
    obtain ⟨its, rv, pt, _⟩ := I.tuple hq
    have W := walk X.A (I.ok.hd hc) its.toArray
    have hn : its.toArray.size = xs.length := by simpa using rv.length.symm
    exact W.done s _ _ (by rw [hn]; exact ⟨en, hi, pt⟩) fun h2 tk hk => ⟨rfl, I.turnedL (t' := tk) hk hf⟩
  · exact fun A i s Q Ex st h => wpAny_pyIter_enum st.1.choose_spec h
def iEnumT (K : PySem.W.Frag) (ta : TA) : TI := fun σ H R => ta σ H fun vs H1 => ∃ a xs, vs = [.ref a] ∧ SqT K H1 a xs ∧ R (IteT K a xs) H1
theorem pi_enumT {X : Cx} {e : Expr} {ta : TA} {p pos tpos : Pos} {elts : List Expr} {kk : Nat} (hg : Gl X "enumerate") (hm : X.mg "enumerate" = none) (ha : PA X [e] ta) (hs : starEach [e] X.env = [(false, eval e X.env)] := by rfl) :
    PI X (.Tuple elts kk tpos) (.Call (.Name "enumerate" p) [e] [] pos) (iEnumT X.K ta) where
  run pins s σ H R I h := by
    refine Call_ (ld_blt I hg hm boot_enumerate (PyProof.Rows.callWith_type1 (thn (ha.run pos pins s σ H _ I h) ?_) hs rfl))
    rintro us s1 ⟨_, H1, I1, r1, a, xs, rfl, hq, q⟩
    obtain ⟨u, rfl, ru⟩ := r1.one
    obtain rfl : u = .ref a := ru
    obtain ⟨its, rv, pt, _⟩ := I1.tuple hq
    have below : a < s1.heap.objs.size := by
      obtain ⟨_, z, _⟩ := (show s1.heap.IsTuple a its.toArray from pt)
      exact Heap.lt_size z
    refine call_enumT pt fun h2 m => wpAny_pyIter_enum m.cell ⟨_, _, _, _, H1, rfl, I1.kept (t' := s1.toks) m.old, turn_enumT a (s1.heap.objs.size + 1) s1.heap.objs.size xs (Nat.succ_ne_self _) (Nat.ne_of_lt below) (Nat.ne_of_lt (Nat.lt_succ_of_lt below)), ⟨⟨_, m.cell⟩, m.iter⟩, ?_, q⟩
    have fresh : ∀ b, s1.heap.objs.size ≤ b → FpOk X pins H1 b := fun b hb => I1.fpOk hb (I1.hok.fresh hb)
    simpa using And.intro (fresh (s1.heap.objs.size + 1) (Nat.le_succ _)) (fresh s1.heap.objs.size (Nat.le_refl _))
end Sea

set_option Elab.async false
set_option linter.all false
set_option maxRecDepth 100000
set_option maxHeartbeats 4000000
/-! isinstance of a caught error that has a dict; list.count of flat items -/
namespace Sea
open PySem PySem.Spec PyProof.Rows L2
/-- the caught error, seen in the heap: an instance of its class, its dict (if it has one) beside it -/
theorem held_inst {X : Cx} {pins : List (Addr × Obj)} {σ : L2.St} {H : Hp} {s : Shared} {a D : Addr} {d : Option Addr} {oe : Obj} {pn : List (Addr × Obj)} (I : Inv (X.suite a ((a, oe) :: pn)) pins σ H s) (hz : Zc (.ref D) d oe) (hf : ∃ vs, oe.data = .fields vs)
    (hd : ∀ dx, d = some dx → ∃ fs, H dx = some (.xd fs)) : ∃ od, PySem.W.InstAt s.heap a oe D od := by
  have there := (I.pin (a, oe) (by simp)).1
  have plain : PySem.W.notCls oe := by
    obtain ⟨vs, hv⟩ := hf
    rw [PySem.W.notCls, hv]
  match d, hz, hd with
  | none, hz, _ => exact ⟨none, there, hz.1, plain, by rw [hz.2]; trivial⟩
  | some dx, hz, hd =>
    obtain ⟨fs, hx⟩ := hd dx rfl
    have ⟨mA, ns, _⟩ : ObjOk X.prog X.w H s.heap dx (.xd fs) := I.hok dx _ hx
    have ⟨od, ho, _⟩ := lookIn_ns ns
    exact ⟨some od, there, hz.1, plain, by rw [hz.2]; exact ho⟩
/-- isinstance(e, c), e the exception that the suite holds, with its dict (tracked) or without; D its class -/
def rIsX (K : PySem.W.Frag) (a : Addr) (cls : Value) (d : Option Addr) : List V → Hp → VK → Prop := fun xs H Q => ∃ (D : Addr) (c : V) (cv : Value) (b : Bool), cls = .ref D ∧ ExcC K D ∧ xs = [.ref a, c] ∧ (∀ u, RelV c u → u = cv) ∧ PySem.W.kitOne K (.ref D) cv = some b ∧ (∀ dx, d = some dx → ∃ fs, H dx = some (.xd fs)) ∧ Q (.bl b) H
theorem call_isX {X : Cx} {a : Addr} {cls : Value} {d : Option Addr} {oe : Obj} {pn : List (Addr × Obj)} (K : PySem.W.Frag) (hK : X.K = K) (hz : Zc cls d oe) (hf : ∃ vs, oe.data = .fields vs) : CallR (X.suite a ((a, oe) :: pn)) (.builtin "isinstance") (rIsX K a cls d) := by
  subst hK
  rintro pins s σ H _ us Q I r ⟨D, c, cv, b, rfl, C, rfl, told, one, hd, q⟩
  obtain ⟨x, t, rfl, rx, rt⟩ : ∃ x t, us = [x, t] ∧ RelV (.ref a) x ∧ RelV c t := match us, r with
    | _, .cons rx (.cons rt .nil) => ⟨_, _, rfl, rx, rt⟩
  obtain ⟨od, inst⟩ := held_inst I hz hf hd
  have dict : (PySem.W.clsIn X.K D).isSome := by
    obtain ⟨cd, z, _⟩ := PySem.W.any_some C.hd
    rw [z]
    rfl
  have kit := PySem.W.kitx_exc (x := a) (ox := oe) (od := od) dict C.hg C.hk C.hs C.ha C.hn C.ht C.hm
  rw [show x = .ref a from rx, told t rt]
  exact PySem.W.kia_one kit I.kIn inst one nofun fun tk => ⟨.bl b, H, I.kept (t' := tk) fun _ _ z => z, rfl, q⟩
/-- xs.count(y), flat items -/
def rCntF (K : PySem.W.Frag) : V → List V → Hp → VK → Prop := fun x xs H Q => ∃ (a : Addr) (ys : List V) (y : V), x = V.ref a ∧ xs = [y] ∧ SqL K H a ys ∧ flatV y = true ∧ ys.all flatV = true ∧ Q (.int (ys.countP (fun z => eqV z y) : Nat)) H
theorem cnt_flat {y : V} : ∀ {ys : List V} {its : List Value}, Vals ys its → ys.all flatV = true → its.countP (eqU y) = ys.countP (fun z => eqV z y)
  | _, _, .nil, _ => rfl
  | _, _, .cons r rr, f => by
    rename_i v u vs us
    rw [List.all_cons, Bool.and_eq_true] at f
    rw [List.countP_cons, List.countP_cons, cnt_flat rr f.2, eqU_of r f.1]
theorem mt_countF {X : Cx} : MtR X "list.count" (rCntF X.K) := by
  rintro pins s σ H _ _ v us Q I rx rxs ⟨a, ys, y, rfl, rfl, hs, fy, fys, q⟩
  obtain rfl : v = .ref a := rx
  obtain ⟨u, rfl, ru⟩ := rxs.one
  obtain ⟨its, rv, ⟨o, n, ho, hc, _, hd⟩, _⟩ := I.list hs
  obtain ⟨cls, dd, data, sl⟩ := o
  obtain rfl : cls = _ := hc
  obtain rfl : data = _ := hd
  have many := cnt_flat (y := y) rv fys
  have law := SeqAt.list_countAt a its.toArray n dd sl u (eqU y)
  refine call_meets PySem.F.slot_list_count ⟨_, ho, rfl⟩ PySem.F.entry_list_count (PySem.F.args_list_count_2 _ _) law ⟨ho, fun z hz => mem_eqAt ru fy rv fys z (by simpa using hz), ?_⟩
  rw [List.toList_toArray, many]
  exact ⟨.int (ys.countP (fun z => eqV z y) : Nat), H, I.tok _, ⟨s.toks, rfl⟩, q⟩
end Sea

set_option Elab.async false
set_option linter.all false
set_option maxRecDepth 100000
set_option maxHeartbeats 4000000
namespace Sea
open PySem PySem.Spec PyProof.Rows L2 LamX NdefX Evl
/-! ### what a suite may ask of the caught error, whatever its class -/
/-- e.f, e the caught error: its class is told by the reading; the library's rule for that class does the rest -/
def tXf (K : PySem.W.Frag) (f : Str) (a : Addr) (cls : Value) (d : Option Addr) (te : TE) : TE := fun σ H Q => ∃ D : Addr, cls = .ref D ∧ XfC K D ∧ PySem.W.findIn K (.ref D) f = some none ∧ L2.tXf a cls d D f te σ H Q
theorem pe_xf {X : Cx} {f : Str} {a : Addr} {oe : Obj} {cls : Value} {d : Option Addr} {pn : List (Addr × Obj)} {e : Expr} {te : TE} {pos : Pos} (K : PySem.W.Frag) (hK : X.K = K) (hz : Zc cls d oe) (hf : ∃ vs, oe.data = .fields vs) (he : PE (X.suite a ((a, oe) :: pn)) e te)
    (hb : attributeBase e f X.env (eval e X.env) = eval e X.env := by rfl) : PE (X.suite a ((a, oe) :: pn)) (.Attribute e f pos) (tXf K f a cls d te) :=
  ⟨fun pins s σ H Q I ⟨_, _, T, no, h⟩ => (L2.pe_xf (hK ▸ T) (hK ▸ no) hz hf he hb).run pins s σ H Q I h⟩
/-! ### the handed thunk called, its promise weakened -/
theorem cx_le {P : Program} {w : World} {outer : List Env} {H : Hp} {s s' : Shared} {E E' : XK} {e : Value} (h : L2.CX P w outer H s E e s') (m : ∀ c d H', E c d H' → E' c d H') : L2.CX P w outer H s E' e s' := by
  obtain ⟨a, B, H', cls, d, h1, h2, h3, h4, h5, h6, h7, h8⟩ := h
  exact ⟨a, B, H', cls, d, h1, h2, h3, h4, h5, h6, h7, m _ _ _ h8⟩
section
variable {X : Cx} {i j : Nat} {x : Str} {p pos : Pos} {E : L2.St → XK}
def tActM (X : Cx) (j i : Nat) (E : L2.St → XK) : TE := fun σ H Q => ∃ (f : Addr) (tl : Hp → VK → XK → Prop) (Q' : VK) (E' : XK), σ[i]? = some (some (.ref f)) ∧ H = X.H_0 ∧ Thunk X.prog X.w X.K X.mg X.base (L2.CX X.prog X.w) j X.outer X.s_0 X.H_0 f tl ∧ tl H Q' E' ∧ (∀ v H1, Q' v H1 → Q v H1) ∧ (∀ c d H1, E' c d H1 → E σ c d H1)
theorem pe_actM (hr : Room j X.A) (hex : X.ex = []) (hx : ∀ σ, PassesAt (L2.CX X.prog X.w) X σ (E σ)) (hN : X.N[i]? = some x) (hv : Vis X.env.scope x)
    (hd : (x == ("__debug__" : Str)) = false := by decide) (hcd : (x == ("__classdict__" : Str)) = false := by decide) : PE X (.Call (.Name x p) [] [] pos) (tActM X j i E) := by
  refine ⟨fun pins s σ H Q I h => ?_⟩
  obtain ⟨f, tl, Q', E', hs, eH, hT, ht, mQ, mE⟩ := h
  have hx' : ∀ τ, PassesAt (L2.CX X.prog X.w) X τ (if τ = σ then E' else E τ) := fun τ => by
    by_cases hq : τ = σ
    · rw [if_pos hq]
      subst hq
      exact fun pins H s e s' J c => hx _ pins H s e s' J (cx_le c mE)
    · rw [if_neg hq]
      exact hx τ
  refine thn ((pe_actT (CXl := L2.CX X.prog X.w) (i := i) (p := p) (pos := pos) (E := fun τ => if τ = σ then E' else E τ) hr hex hx' hN hv hd hcd).run pins s σ H Q' I ⟨f, tl, hs, eH, hT, ?_⟩) fun u s1 hh => ?_
  · show tl H Q' (if σ = σ then E' else E σ)
    rw [if_pos rfl]
    exact ht
  · obtain ⟨v, H1, I1, r1, q1⟩ := hh
    exact ⟨v, H1, I1, r1, mQ _ _ q1⟩
end
theorem ev_isX {K : PySem.W.Frag} {a : Addr} {cls : Value} {d : Option Addr} {D : Addr} {c : V} {cv : Value} {b : Bool} {i : Nat} {σ : L2.St} {H : Hp} (h1 : cls = .ref D) (h2 : ExcC K D) (h3 : ∀ u, RelV c u → u = cv) (h4 : PySem.W.kitOne K (.ref D) cv = some b) (h5 : ∀ dx, d = some dx → ∃ fs, H dx = some (.xd fs)) (hs : σ[i]? = some (some (.ref a))) :
    Ev (tCB (rIsX K a cls d) (tCons (tVar i) (tCons (tC c) tNil))) σ H (.bl b) := fun H1 e Q q => ⟨_, hs, D, c, cv, b, h1, h2, rfl, h3, h4, fun dx hd => let ⟨fs, hx⟩ := h5 dx hd; ⟨fs, e _ _ hx⟩, q H1 (Ex.refl _)⟩
end Sea

set_option Elab.async false
set_option linter.all false
set_option maxRecDepth 100000
set_option maxHeartbeats 4000000
/-! rules with the written part K named: within a suite or a block the reading must not speak of the context -/
namespace Sea
open PySem PySem.Spec PyProof.Rows L2
section
variable {X : Cx} {T : String} {r : V → List V → Hp → VK → Prop} {e a b : Expr} {to ta tb : TE} {t : TA} {pos : Pos}
theorem pe_bmK (K : PySem.W.Frag) (hK : X.K = K) (h : PE X e (tBM X.K T r to t)) : PE X e (tBM K T r to t) := hK ▸ h
theorem pe_ixlK (K : PySem.W.Frag) (hK : X.K = K) (ha : PE X a ta) (hb : PE X b tb) (hs : PlainIx b := by exact fun _ _ => rfl) : PE X (.Subscript a b pos) (tOp (rIxL K) ta tb) := hK ▸ pe_ix ix_list ha hb hs
theorem mt_countK (K : PySem.W.Frag) (hK : X.K = K) : MtR X "list.count" (rCntF K) := hK ▸ mt_countF
theorem mt_indexK (K : PySem.W.Frag) (hK : X.K = K) : MtR X "list.index" (rIndex K) := hK ▸ mt_index
theorem op_inK (K : PySem.W.Frag) (hK : X.K = K) : OpR X (compareOp .In) (rIn K false) := hK ▸ op_in_seq
end
end Sea

set_option Elab.async false
set_option linter.all false
set_option maxRecDepth 100000
set_option maxHeartbeats 4000000
/-! what every law of this package leans on, no program in sight -/
namespace Sea
open PySem PySem.Spec PyProof.Rows L2 LamX NdefX ClX Evl StX
section
variable {X : Cx} {a b : Expr} {ta tb : TE} {pos : Pos}
theorem pe_ixl (ha : PE X a ta) (hb : PE X b tb) (hs : PlainIx b := by exact fun _ _ => rfl) : PE X (.Subscript a b pos) (tOp (rIxL X.K) ta tb) := pe_ix ix_list ha hb hs
theorem pe_ixt (ha : PE X a ta) (hb : PE X b tb) (hs : PlainIx b := by exact fun _ _ => rfl) : PE X (.Subscript a b pos) (tOp (rIxT X.K) ta tb) := pe_ix ix_tup ha hb hs
end
/-! ### draws -/
structure Dr (H : Hp) (h c : Addr) : Prop where
  ne : h ≠ c
  ex : ∃ (m k : Int) (ns : List Int), H h = some (.lst [.int m, .ref c, .int k]) ∧ H c = some (.lst (ns.map V.int)) ∧ ns.length ≤ 63
/-- all kept but h and c -/
def Kp (h c : Addr) (H H' : Hp) : Prop := ∀ b o, H b = some o → b ≠ h → b ≠ c → H' b = some o
theorem Kp.refl {h c : Addr} {H : Hp} : Kp h c H H := fun _ _ e _ _ => e
theorem Kp.trans {h c : Addr} {H H1 H2 : Hp} (a : Kp h c H H1) (b : Kp h c H1 H2) : Kp h c H H2 := fun x o e n1 n2 => b x o (a x o e n1 n2) n1 n2
theorem Kp.new {h c a : Addr} {H : Hp} {o : HO} (n : H a = none) : Kp h c H (upd H a o) := fun b o e _ _ => by
  rw [upd_ne (ne_of_none e n)]
  exact e
theorem Kp.same {h c : Addr} {H H' : Hp} (s : Same H H') : Kp h c H H' := fun b o e _ _ => s b o e
theorem Dr.same {H H' : Hp} {h c : Addr} (d : Dr H h c) (s : Same H H') : Dr H' h c := by
  obtain ⟨n, m, k, ns, e1, e2, l⟩ := d
  exact ⟨n, m, k, ns, s _ _ e1, s _ _ e2, l⟩
theorem Dr.new {H : Hp} {h c a : Addr} {o : HO} (d : Dr H h c) (n : H a = none) : Dr (upd H a o) h c := d.same fun b o e => by
  rw [upd_ne (ne_of_none e n)]
  exact e
theorem pick0 (ns : List Int) (i : Int) (h0 : 0 ≤ i) (h1 : i < (ns.length : Int) + 1) : ∃ u : Int, atI (ns.map V.int ++ [V.int 0]) i = some (.int u) := by
  obtain ⟨j, rfl⟩ := Int.eq_ofNat_of_zero_le h0
  have hj : j < (ns.map V.int ++ [V.int 0]).length := by
    rw [List.length_append, List.length_map]
    show j < ns.length + 1
    omega
  refine ⟨(ns ++ [0]).getD j 0, ?_⟩
  have e : ns.map V.int ++ [V.int 0] = (ns ++ [0]).map V.int := by rw [List.map_append]; rfl
  rw [e] at hj ⊢
  unfold atI ixN
  rw [if_pos (by omega), if_pos (by omega)]
  show ((ns ++ [0]).map V.int)[(j : Int).toNat]? = _
  rw [Int.toNat_natCast, List.getElem?_map]
  rw [List.length_map] at hj
  rw [List.getElem?_eq_getElem hj]
  rw [List.getD_eq_getElem?_getD, List.getElem?_eq_getElem hj]
  rfl
theorem pick_nil {i u : Int} (h : atI (([] : List Int).map V.int ++ [V.int 0]) i = some (.int u)) : u = 0 := by
  revert h
  unfold atI ixN
  show ((if 0 ≤ i then (if i < ((1 : Nat) : Int) then some i.toNat else none) else if -((1 : Nat) : Int) ≤ i then some (i + ((1 : Nat) : Int)).toNat else none).bind fun j => [V.int 0][j]?) = _ → _
  intro h
  split at h
  · split at h
    · have e : i.toNat = 0 := by omega
      rw [show (some i.toNat : Option Nat) = some 0 by rw [e]] at h
      cases h
      rfl
    · cases h
  · split at h
    · have e : (i + ((1 : Nat) : Int)).toNat = 0 := by omega
      rw [show (some (i + ((1 : Nat) : Int)).toNat : Option Nat) = some 0 by rw [e]] at h
      cases h
      rfl
    · cases h
theorem ixn_fmod {n : Nat} (k : Int) (h : (0 : Int) < (n : Int)) : ∃ j, ixN n (k.fmod (n : Int)) = some j := by
  refine ⟨(k.fmod (n : Int)).toNat, ?_⟩
  unfold ixN
  rw [if_pos (Int.fmod_nonneg_of_pos _ h), if_pos (Int.fmod_lt_of_pos _ h)]
def TK (K : PySem.W.Frag) (H H' : Hp) : Prop := ∀ a xs, SqT K H a xs → SqT K H' a xs
theorem TK.refl {K : PySem.W.Frag} {H : Hp} : TK K H H := fun _ _ h => h
theorem TK.trans {K : PySem.W.Frag} {H H1 H2 : Hp} (a : TK K H H1) (b : TK K H1 H2) : TK K H H2 := fun x y h => b x y (a x y h)
theorem sqT_keep {K : PySem.W.Frag} {H H' : Hp} {a : Addr} {xs : List V} (e : ∀ o, H a = some o → H' a = some o) (h : SqT K H a xs) : SqT K H' a xs := by
  rcases h with (h | ⟨o, h⟩) | h
  · exact .inl (.inl (e _ h))
  · exact .inl (.inr ⟨o, e _ h⟩)
  · exact .inr h
theorem TK.same {K : PySem.W.Frag} {H H' : Hp} (s : Same H H') : TK K H H' := fun a xs h => sqT_keep (fun o => s a o) h
theorem same_new {H : Hp} {p : Addr} {o : HO} (h : H p = none) : Same H (upd H p o) := fun b x e => by
  rw [upd_ne (ne_of_none e h)]
  exact e
theorem TK.new {K : PySem.W.Frag} {H : Hp} {a : Addr} {o : HO} (n : H a = none) : TK K H (upd H a o) := .same (same_new n)
theorem TK.but {K : PySem.W.Frag} {H H' : Hp} (D : Addr → Prop) (s : ∀ b o, H b = some o → ¬ D b → H' b = some o) (nt : ∀ b xs, D b → ¬ Rd H b (.tup xs)) : TK K H H' := fun a xs h => by
  rcases h with h | h
  · have nd : ¬ D a := fun z => nt a xs z h
    rcases h with h | ⟨o, h⟩
    · exact .inl (.inl (s _ _ h nd))
    · exact .inl (.inr ⟨o, s _ _ h nd⟩)
  · exact .inr h
theorem Rd.lst_no {H : Hp} {a : Addr} {xs ys : List V} (e : H a = some (.lst ys)) : ¬ Rd H a (.tup xs) := fun h => by
  rcases h with h | ⟨o, h⟩
  · rw [e] at h
    cases h
  · rw [e] at h
    cases h
theorem Rd.ins_no {H : Hp} {a C dx : Addr} {xs : List V} {fs : List (Str × V)} (e : H a = some (.ins C dx fs)) : ¬ Rd H a (.tup xs) := fun h => by
  rcases h with h | ⟨o, h⟩
  · rw [e] at h
    cases h
  · rw [e] at h
    cases h
theorem Dr.tk {K : PySem.W.Frag} {H H' : Hp} {h c : Addr} (d : Dr H h c) (k : Kp h c H H') : TK K H H' := by
  obtain ⟨_, m, kk, ns, e1, e2, _⟩ := d
  refine .but (fun b => b = h ∨ b = c) (fun b o e n => k b o e (fun z => n (.inl z)) (fun z => n (.inr z))) fun b xs z => ?_
  rcases z with z | z
  · rw [z]
    exact Rd.lst_no e1
  · rw [z]
    exact Rd.lst_no e2
section
variable {X : Cx} {C : Addr} {mc : Value} {x f : Str} {v : V} {p pos : Pos}
theorem pe_clc (hg : Gl X x) (hm : X.mg x = some (.ref C)) (cr : CRead X.K C mc) (cv : ∃ u, CVal X.K C mc f v u) (hd : (x == ("__debug__" : Str)) = false := by decide)
    (hb : attributeBase (.Name x p) f X.env (eval (.Name x p) X.env) = eval (.Name x p) X.env := by rfl) : PE X (.Attribute (.Name x p) f pos) (tC v) := by
  obtain ⟨u, cv⟩ := cv
  exact ⟨fun pins s σ H Q I h => (pe_cval (pe_glob (v := .ref C) hg hm rfl hd) hb).run pins s σ H Q I ⟨C, mc, v, u, rfl, cr, cv, h⟩⟩
end
theorem ev_chainI {ta tb tc : TE} {σ : L2.St} {H : Hp} {i j k : Int} {p q : Int → Int → Bool} (ha : Ev ta σ H (.int i)) (hb : Ev tb σ H (.int j)) (hc : Ev tc σ H (.int k)) :
    Ev (tChain (rI0 fun i j => .bl (p i j)) (rI0 fun i j => .bl (q i j)) ta tb tc) σ H (.bl (p i j && q j k)) := fun H1 e Q hq => ha H1 e _ fun H2 e2 => hb H2 (e.trans e2) _ fun H3 e3 => ⟨i, j, rfl, rfl, p i j, rfl, by
  cases hp : p i j with
  | true => exact iteT (hc H3 ((e.trans e2).trans e3) _ fun H4 e4 => ⟨j, k, rfl, rfl, by
      have z := hq H4 ((e2.trans e3).trans e4)
      rw [hp] at z
      exact z⟩)
  | false => exact iteF (by
      have z := hq H3 (e2.trans e3)
      rw [hp] at z
      exact z)⟩
/-- a loop of n rounds: what each round finds and leaves, and what stands when the source is dry -/
theorem for_rounds {I : It} {g : TG} {tb : TS} {D : Ends} {σ : L2.St} {H : Hp} (n : Nat) (Pv : Nat → L2.St → Hp → Prop) (start : Pv 0 σ H)
    (round : ∀ i σ H, i < n → Pv i σ H → I.go i H ∧ ∀ x H', I.yld i H x H' → g x σ H' fun σ2 H2 => tb { D with nx := Pv (i + 1), ct := Pv (i + 1), bk := D.nx } σ2 H2)
    (dry : ∀ σ H, Pv n σ H → I.stop n H ∧ D.nx σ H) :
    ∃ W : Nat → Nat → L2.St → Hp → Prop, (∃ m, W 0 m σ H) ∧ ∀ i m σ H, W i m σ H →
      (I.stop i H ∧ D.nx σ H) ∨ (I.go i H ∧ ∃ N : L2.St → Hp → Prop, (∀ σ' H', N σ' H' → ∃ m', m' < m ∧ W (i + 1) m' σ' H') ∧ ∀ x H', I.yld i H x H' → g x σ H' fun σ2 H2 => tb { D with nx := N, ct := N, bk := D.nx } σ2 H2) := by
  let W : Nat → Nat → L2.St → Hp → Prop := fun i m σ H => m + i = n ∧ Pv i σ H
  have more : ∀ i m σ H, W i (m + 1) σ H → (I.go i H ∧ ∃ N : L2.St → Hp → Prop, (∀ σ' H', N σ' H' → ∃ m', m' < m + 1 ∧ W (i + 1) m' σ' H') ∧ ∀ x H', I.yld i H x H' → g x σ H' fun σ2 H2 => tb { D with nx := N, ct := N, bk := D.nx } σ2 H2) := by
    rintro i m σ H ⟨e, p⟩
    have ⟨go, each⟩ := round i σ H (by omega) p
    exact ⟨go, Pv (i + 1), fun _ _ z => ⟨m, Nat.lt_succ_self m, by omega, z⟩, each⟩
  have last : ∀ i σ H, W i 0 σ H → I.stop i H ∧ D.nx σ H := by
    rintro i σ H ⟨e, p⟩
    rw [Nat.zero_add] at e
    exact e ▸ dry σ H (e ▸ p)
  exact ⟨W, ⟨n, rfl, start⟩, fun i m σ H w => match m, w with
    | 0, w => .inl (last i σ H w)
    | m + 1, w => .inr (more i m σ H w)⟩
section
variable {K : PySem.W.Frag}
theorem mk1_in {H1 : Hp} {Q : XK} {f : Str} {y : V} {c : Addr} (T : OexC K c) (n : PySem.W.findIn K (.ref c) f = some none) (h : ∀ d, H1 d = none → Q (.ref c) (some d) (upd H1 d (.xd [(f, y)]))) :
    [y].length = 1 ∧ ∀ a, H1 a = none → spX1 K f ([.ref a] ++ [y]) (upd H1 a (exo a c none)) (fun v H2 => v = .non ∧ ∃ (d : Addr) (fs : List (Str × V)), H2 a = some (exo a c (some d)) ∧ H2 d = some (exd d fs) ∧ H1 d = none ∧ Q (.ref c) (some d) (upd (del H2 a) d (.xd fs))) (fun _ _ _ => False) := by
  refine ⟨rfl, fun a ha => ⟨a, c, y, rfl, T, n, upd_same, fun dx h1 h2 => ?_⟩⟩
  rw [upd_ne h2] at h1
  refine ⟨rfl, dx, _, upd_same, by rw [upd_ne h2, upd_same], h1, ?_⟩
  have e : upd (del (upd (upd (upd H1 a (exo a c none)) dx (exd dx [(f, y)])) a (exo a c (some dx))) a) dx (.xd [(f, y)]) = upd H1 dx (.xd [(f, y)]) := by
    funext b
    by_cases hb : b = dx
    · subst hb
      rw [upd_same, upd_same]
    · rw [upd_ne hb, upd_ne hb]
      by_cases hba : b = a
      · subst hba
        rw [del_same, ha]
      · rw [del_ne hba, upd_ne hba, upd_ne hb, upd_ne hba]
  rw [e]
  exact h dx h1
end
theorem take_snoc {α : Type} {L : List α} {i : Nat} {x : α} (h : L[i]? = some x) : L.take (i + 1) = L.take i ++ [x] := by
  rw [List.take_add_one, h]
  rfl
def EvD (te : TE) (σ : L2.St) (H : Hp) (P : V → Hp → Prop) : Prop := ∀ H1, Ex H H1 → ∀ Q : VK, (∀ v H2, Ex H1 H2 → P v H2 → Q v H2) → te σ H1 Q
theorem EvD.mono {te : TE} {σ : L2.St} {H H' : Hp} {P : V → Hp → Prop} (e : Ex H H') (h : EvD te σ H P) : EvD te σ H' P := fun H1 a Q q => h H1 (e.trans a) Q q
theorem ed_of {te : TE} {σ : L2.St} {H : Hp} {v : V} {P : V → Hp → Prop} (h : Ev te σ H v) (hp : ∀ H2, Ex H H2 → P v H2) : EvD te σ H P := fun H1 e Q q => h H1 e _ fun H2 e2 => q v H2 e2 (hp H2 (e.trans e2))
def cutP {α : Type} (xs : List α) (lo hi : Option Int) : List α := (xs.drop (HT.sIx xs.length 0 lo)).take (HT.sIx xs.length xs.length hi - HT.sIx xs.length 0 lo)
theorem cutP_all {α : Type} (xs : List α) (lo hi : Option Int) (h : HT.sIx xs.length 0 lo = 0 ∧ HT.sIx xs.length xs.length hi = xs.length) : cutP xs lo hi = xs := by
  unfold cutP
  rw [h.1, h.2, List.drop_zero, Nat.sub_zero, List.take_length]
theorem cutP_to {α : Type} (xs : List α) (k : Nat) : cutP xs none (some ((k : Nat) : Int)) = xs.take k := by
  unfold cutP
  rw [HT.sIx_none, HT.sIx_nat, List.drop_zero, Nat.sub_zero]
  by_cases h : k ≤ xs.length
  · rw [Nat.min_eq_left h]
  · rw [Nat.min_eq_right (by omega), List.take_of_length_le (Nat.le_refl _), List.take_of_length_le (by omega)]
theorem cutP_from {α : Type} (xs : List α) (k : Nat) : cutP xs (some ((k : Nat) : Int)) none = xs.drop k := by
  unfold cutP
  rw [HT.sIx_none, HT.sIx_nat]
  by_cases h : k ≤ xs.length
  · rw [Nat.min_eq_left h, List.take_of_length_le (by rw [List.length_drop]; exact Nat.le_refl _)]
  · rw [Nat.min_eq_right (by omega), Nat.sub_self, List.take_zero, List.drop_eq_nil_of_le (by omega)]
section
variable {te : TE} {σ : L2.St} {H : Hp}
theorem q_asgD {tz : TS} {D : Ends} {i : Nat} {P : V → Hp → Prop} (h : EvD te σ H P) (k : ∀ v H1, Ex H H1 → P v H1 → tz D (σ.set i (some v)) H1) : tSeq (tAsg te (gName i)) tz D σ H := h H (Ex.refl H) _ fun v H1 e p => k v H1 e p
theorem s_retD {D : Ends} {P : V → Hp → Prop} (h : EvD te σ H P) (k : ∀ v H1, Ex H H1 → P v H1 → D.rt v H1) : tRet te D σ H := h H (Ex.refl H) _ k
end
theorem pe_ixtK {X : Cx} {a b : Expr} {ta tb : TE} {pos : Pos} (K : PySem.W.Frag) (hK : X.K = K) (ha : PE X a ta) (hb : PE X b tb) (hs : PlainIx b := by exact fun _ _ => rfl) : PE X (.Subscript a b pos) (tOp (rIxT K) ta tb) := by
  subst hK
  exact pe_ix ix_tup ha hb hs
theorem rv_eqD {K : PySem.W.Frag} {x y : V} {H : Hp} {d e : PyData} (h1 : ∀ H1, Ex H H1 → Dp K H1 x d) (h2 : ∀ H1, Ex H H1 → Dp K H1 y e) (s1 : SeqAt.shaped d = true) (s2 : SeqAt.shaped e = true) : RV (rEqD K) x y H (.bl (PyData.eqv d e)) := fun H1 a Q q => ⟨d, e, h1 H1 a, h2 H1 a, s1, s2, q H1 (Ex.refl _)⟩
theorem rv_neD {K : PySem.W.Frag} {x y : V} {H : Hp} {d e : PyData} (h1 : ∀ H1, Ex H H1 → Dp K H1 x d) (h2 : ∀ H1, Ex H H1 → Dp K H1 y e) (s1 : SeqAt.shaped d = true) (s2 : SeqAt.shaped e = true) : RV (rNeD K) x y H (.bl (!PyData.eqv d e)) := fun H1 a Q q => ⟨d, e, h1 H1 a, h2 H1 a, s1, s2, q H1 (Ex.refl _)⟩
theorem intsDp {K : PySem.W.Frag} {H : Hp} : ∀ ns : List Int, DpAll K H (ns.map V.int) (ns.map PyData.int)
  | [] => .nil
  | n :: r => .cons (.int n) (intsDp r)
theorem ints_lay : ∀ ns : List Int, PyData.canLayAll0 (ns.map PyData.int) = true
  | [] => rfl
  | n :: r => by
    show (true && PyData.canLayAll0 (r.map PyData.int)) = true
    rw [ints_lay r]
    rfl
theorem ints_dep : ∀ ns : List Int, PyData.depthAll (ns.map PyData.int) = 0
  | [] => rfl
  | n :: r => by
    show max 0 (PyData.depthAll (r.map PyData.int)) = 0
    rw [ints_dep r]
    rfl
theorem ints_sh (ns : List Int) : SeqAt.shaped (.list (ns.map PyData.int)) = true := by
  show (PyData.canLayAll0 (ns.map PyData.int) && decide (PyData.depthAll (ns.map PyData.int) + 1 ≤ 64)) = true
  rw [ints_lay, ints_dep]
  rfl
theorem pick3 (a b c v : Int) (h0 : 0 ≤ v) (h1 : v < 3) : ∃ w, atI [V.int a, V.int b, V.int c] v = some (.int w) ∧ (w = a ∨ w = b ∨ w = c) := by
  rcases (show v = 0 ∨ v = 1 ∨ v = 2 by omega) with rfl | rfl | rfl
  · exact ⟨a, rfl, .inl rfl⟩
  · exact ⟨b, rfl, .inr (.inl rfl)⟩
  · exact ⟨c, rfl, .inr (.inr rfl)⟩
theorem s_retIf {t : TT} {ta tb : TE} {D : Ends} {σ : L2.St} {H : Hp} {b : Bool} (h : EvT t σ H b) (h1 : b = true → ∀ H1, Ex H H1 → tRet ta D σ H1) (h2 : b = false → ∀ H1, Ex H H1 → tRet tb D σ H1) : tRet (tIf t ta tb) D σ H := h H (Ex.refl _) _ fun H1 e => by
  cases b with
  | true => exact iteT (h1 rfl H1 e)
  | false => exact iteF (h2 rfl H1 e)
theorem ev_lenT {K : PySem.W.Frag} {σ : L2.St} {H : Hp} {i : Nat} {p : Addr} {xs : List V} (hs : σ[i]? = some (some (.ref p))) (h : SqT K H p xs) : Ev (tCB (fun xs H Q => ∃ p ys, xs = [V.ref p] ∧ (SqL K H p ys ∨ SqT K H p ys) ∧ Q (.int ys.length) H) (tCons (tVar i) tNil)) σ H (.int (xs.length : Int)) := fun H1 e Q q =>
  ⟨_, hs, p, xs, rfl, .inr ((TK.same e) _ _ h), q H1 (Ex.refl _)⟩
theorem ev_cnt {K : PySem.W.Frag} {σ : L2.St} {H : Hp} {i : Nat} {D : Addr} {ys : List V} (hs : σ[i]? = some (some (.ref D))) (h : H D = some (.lst ys)) (hf : ys.all flatV = true) :
    Ev (tBM K "list" (rCntF K) (tVar i) (tCons (tC (.bl true)) tNil)) σ H (.int (ys.countP (fun z => eqV z (.bl true)) : Nat)) := fun H' e Q q => ⟨_, hs, .inl ⟨rfl, _, SqL.of (e _ _ h)⟩, D, ys, .bl true, rfl, rfl, SqL.of (e _ _ h), rfl, hf, q H' (Ex.refl _)⟩
theorem ev_idx {K : PySem.W.Frag} {σ : L2.St} {H : Hp} {i j : Nat} {D : Addr} {ys : List V} {z : V} (hs : σ[i]? = some (some (.ref D))) (h : H D = some (.lst ys)) (hf : ys.all flatV = true) (hz : ys[j]? = some z) (hq : eqV z (.bl true) = true) (ha : ∀ (m : Nat) (z' : V), m < j → ys[m]? = some z' → eqV z' (.bl true) = false) :
    Ev (tBM K "list" (rIndex K) (tVar i) (tCons (tC (.bl true)) tNil)) σ H (.int (j : Nat)) := fun H' e Q q => ⟨_, hs, .inl ⟨rfl, _, SqL.of (e _ _ h)⟩, D, ys, .bl true, j, z, rfl, rfl, SqL.of (e _ _ h), rfl, hf, hz, hq, ha, q H' (Ex.refl _)⟩
theorem pe_ixsK {X : Cx} {a b : Expr} {ta tb : TE} {pos : Pos} (K : PySem.W.Frag) (hK : X.K = K) (ha : PE X a ta) (hb : PE X b tb) (hs : PlainIx b := by exact fun _ _ => rfl) : PE X (.Subscript a b pos) (tOp (rIx K) ta tb) := by
  subst hK
  exact pe_ix ix_seq ha hb hs
mutual
theorem dp_ex {K : PySem.W.Frag} {H H' : Hp} (e : Ex H H') : ∀ {v : V} {d : PyData}, Dp K H v d → Dp K H' v d
  | _, _, .non => .non
  | _, _, .bl b => .bl b
  | _, _, .int i => .int i
  | _, _, .str x => .str x
  | _, _, .lst h a => .lst (ex_l e h) (dps_ex e a)
  | _, _, .tup h a => .tup (ex_t e h) (dps_ex e a)
theorem dps_ex {K : PySem.W.Frag} {H H' : Hp} (e : Ex H H') : ∀ {vs : List V} {ds : List PyData}, DpAll K H vs ds → DpAll K H' vs ds
  | _, _, .nil => .nil
  | _, _, .cons a b => .cons (dp_ex e a) (dps_ex e b)
end
theorem dps_len {K : PySem.W.Frag} {H : Hp} : ∀ {vs : List V} {ds : List PyData}, DpAll K H vs ds → vs.length = ds.length
  | _, _, .nil => rfl
  | _, _, .cons _ b => by rw [List.length_cons, List.length_cons, dps_len b]
theorem dps_get {K : PySem.W.Frag} {H : Hp} : ∀ {vs : List V} {ds : List PyData}, DpAll K H vs ds → ∀ {i : Nat}, i < ds.length → ∃ v d, vs[i]? = some v ∧ ds[i]? = some d ∧ Dp K H v d
  | _, _, .nil, i, hi => absurd hi (Nat.not_lt_zero _)
  | _, _, .cons (v := v) (d := d) a b, 0, _ => ⟨v, d, rfl, rfl, a⟩
  | _, _, .cons a b, i + 1, hi => by simpa using dps_get b (i := i) (by simpa using hi)
/-- whole numbers in lists and tuples -/
inductive IntD : Nat → PyData → Prop
  | int (n : Nat) (i : Int) : IntD n (.int i)
  | bool (n : Nat) (b : Bool) : IntD n (.bool b)
  | lst {n : Nat} {ds : List PyData} (h : ∀ (i : Nat) (d : PyData), ds[i]? = some d → IntD n d) (hl : ds.length ≤ 1000) : IntD (n + 1) (.list ds)
  | tup {n : Nat} {ds : List PyData} (h : ∀ (i : Nat) (d : PyData), ds[i]? = some d → IntD n d) (hl : ds.length ≤ 1000) : IntD (n + 1) (.tuple ds)
/-- equal data are alike -/
def spAl (K : PySem.W.Frag) (n : Nat) : Sp := fun vs H Q _ => ∃ (m : Nat) (x y : V) (d : PyData), m < n ∧ vs = [x, y] ∧ Dp K H x d ∧ Dp K H y d ∧ IntD m d ∧ ∀ H', Same H H' → Q (.bl true) H'
theorem ev_isi {K : PySem.W.Frag} {σ : L2.St} {H : Hp} {i : Nat} {x : V} {t : Value} {n : String} {b : Bool} (hs : σ[i]? = some (some x)) (ty : ∀ H1, Ex H H1 → TyX K H1 x t) (h : PySem.W.kitOne K t (.type n) = some b) : Ev (tCB (rIsi K) (tCons (tVar i) (tCons (tC (.ty n)) tNil))) σ H (.bl b) :=
  fun H1 e Q q => ⟨_, hs, x, .ty n, t, .type n, b, rfl, .ty n, ty H1 e, h, q H1 (Ex.refl _)⟩
theorem ev_isiT {K : PySem.W.Frag} {σ : L2.St} {H : Hp} {i : Nat} {x : V} {t : Value} {b : Bool} (hs : σ[i]? = some (some x)) (ty : ∀ H1, Ex H H1 → TyX K H1 x t) (h : PySem.W.kitAny K t [.type "tuple", .type "list"] = some b) :
    Ev (tCB (rIsiT K) (tCons (tVar i) (tCons (tTup (tCons (tC (.ty "tuple")) (tCons (tC (.ty "list")) tNil))) tNil))) σ H (.bl b) :=
  fun H1 e Q q => ⟨_, hs, Nat.le_of_lt (small1000 (show 2 ≤ 1000 by decide)), fun p np => ⟨x, p, _, t, _, b, rfl, upd_same, .cons (.ty _) (.cons (.ty _) .nil), ty _ (e.trans (Ex.new np)), h, q _ (Ex.new np)⟩⟩
theorem tyx_lst {K : PySem.W.Frag} {H : Hp} {a : Addr} {xs : List V} (h : SqL K H a xs) : TyX K H (.ref a) (.type "list") := by
  rcases h with (h | ⟨o, h⟩) | ⟨o, its, n, hk, hc, _⟩
  · exact .base (.lst h)
  · exact .base (.frz h)
  · exact .kList hk hc
theorem tyx_tup {K : PySem.W.Frag} {H : Hp} {a : Addr} {xs : List V} (h : SqT K H a xs) : TyX K H (.ref a) (.type "tuple") := by
  rcases h with (h | ⟨o, h⟩) | ⟨o, its, n, hk, hc, _⟩
  · exact .base (.tup h)
  · exact .fTuple h
  · exact .kTuple hk hc
theorem ka_list {K : PySem.W.Frag} : PySem.W.kitAny K (.type "list") [.type "tuple", .type "list"] = some true := kitAny_cons (b := false) (kit_ty (by decide +kernel)) (fun _ => kitAny_cons (b := true) (kit_ty (by decide +kernel)) (fun z => by cases z) fun _ => rfl) (fun z => by cases z)
theorem ka_tuple {K : PySem.W.Frag} : PySem.W.kitAny K (.type "tuple") [.type "tuple", .type "list"] = some true := kitAny_cons (b := true) (kit_ty (by decide +kernel)) (fun z => by cases z) fun _ => rfl
theorem ka_int {K : PySem.W.Frag} : PySem.W.kitAny K (.type "int") [.type "tuple", .type "list"] = some false := kitAny_cons (b := false) (kit_ty (by decide +kernel)) (fun _ => kitAny_cons (b := false) (kit_ty (by decide +kernel)) (fun _ => rfl) (fun z => by cases z)) (fun z => by cases z)
theorem ka_bool {K : PySem.W.Frag} : PySem.W.kitAny K (.type "bool") [.type "tuple", .type "list"] = some false := kitAny_cons (b := false) (kit_ty (by decide +kernel)) (fun _ => kitAny_cons (b := false) (kit_ty (by decide +kernel)) (fun _ => rfl) (fun z => by cases z)) (fun z => by cases z)
theorem ev_lenS {K : PySem.W.Frag} {σ : L2.St} {H : Hp} {i : Nat} {p : Addr} {xs : List V} (hs : σ[i]? = some (some (.ref p))) (h : SqL K H p xs ∨ SqT K H p xs) : Ev (tCB (fun xs H Q => ∃ p ys, xs = [V.ref p] ∧ (SqL K H p ys ∨ SqT K H p ys) ∧ Q (.int ys.length) H) (tCons (tVar i) tNil)) σ H (.int (xs.length : Int)) := fun H1 e Q q =>
  ⟨_, hs, p, xs, rfl, h.elim (fun h => .inl (ex_l e h)) (fun h => .inr (ex_t e h)), q H1 (Ex.refl _)⟩
theorem given_none (n : Nat) (v : Nat → V) : given n (fun _ => false) v = [] := by
  unfold given
  simp
theorem at_nat {α : Type} {xs : List α} {i : Nat} {v : α} (hi : i < xs.length) (h : xs[i]? = some v) : atI xs ((i : Nat) : Int) = some v := by
  unfold atI
  rw [ixN_nat hi]
  exact h
def noE : Expr := .Constant .none 0 ⟨0, 0, 0, 0⟩
def noS : Stmt := .Pass ⟨0, 0, 0, 0⟩
def forB : Stmt → List Stmt
  | .For _ _ b _ _ => b
  | _ => []
def ifB : Stmt → List Stmt
  | .If _ b _ _ => b
  | _ => []
def ifC : Stmt → Expr
  | .If c _ _ _ => c
  | _ => noE
def asgE : Stmt → Expr
  | .Assign _ e _ => e
  | .Expr e _ => e
  | _ => noE
def callA : Expr → Expr
  | .Call _ (a :: _) _ _ => a
  | _ => noE
def lisI (i : Nat) : Expr → Expr
  | .List es _ => es.getD i noE
  | _ => noE
def cmpL : Expr → Expr
  | .Compare l _ _ _ => l
  | _ => noE
def lamP : Expr → Arguments
  | .Lambda p _ _ _ => p
  | _ => ⟨[], [], none, [], [], none, []⟩
def lamB : Expr → Expr
  | .Lambda _ b _ _ => b
  | _ => noE
def lamS : Expr → Scope
  | .Lambda _ _ s _ => s
  | _ => ⟨.function, [], false, false, []⟩
def NoLI (o : HO) : Prop := (∀ xs, o ≠ .lst xs) ∧ ∀ C dx fs, o ≠ .ins C dx fs
theorem tabs_but {T : List (Addr × Str)} {H H' : Hp} (hT : Tabs T H) (k : ∀ b o, H b = some o → NoLI o → H' b = some o) : Tabs T H' := fun p hp => by
  obtain ⟨ps, h1, h2, h3⟩ := hT p hp
  refine ⟨ps, k _ _ h1 ⟨fun xs z => (by cases z), fun C dx fs z => (by cases z)⟩, h2, fun pos cv hc => ?_⟩
  obtain ⟨c, e1, e2⟩ := h3 pos cv hc
  exact ⟨c, e1, k _ _ e2 ⟨fun xs z => (by unfold CodeO at z; cases z), fun C dx fs z => (by unfold CodeO at z; cases z)⟩⟩
theorem tabs_same {T : List (Addr × Str)} {H H' : Hp} (hT : Tabs T H) (s : Same H H') : Tabs T H' := tabs_but hT fun b o e _ => s b o e
theorem tabs_kp {T : List (Addr × Str)} {H H' : Hp} {h c : Addr} (hT : Tabs T H) (d : Dr H h c) (k : Kp h c H H') : Tabs T H' := by
  obtain ⟨_, m, kk, ns, e1, e2, _⟩ := d
  refine tabs_but hT fun b o e n => k b o e (fun z => ?_) (fun z => ?_)
  · rw [z, e1] at e
    cases e
    exact n.1 _ rfl
  · rw [z, e2] at e
    cases e
    exact n.1 _ rfl
theorem Dr.extN {H H' : Hp} {h c : Addr} (d : Dr H h c) (s : ExtN H H') : Dr H' h c := by
  obtain ⟨n, m, k, ns, e1, e2, l⟩ := d
  exact ⟨n, m, k, ns, s _ _ e1 (fun ps z => (by cases z)), s _ _ e2 (fun ps z => (by cases z)), l⟩
theorem TK.extN {K : PySem.W.Frag} {H H' : Hp} (s : ExtN H H') : TK K H H' := fun a xs h => by
  rcases h with (h | ⟨o, h⟩) | h
  · exact .inl (.inl (s _ _ h fun ps z => by cases z))
  · exact .inl (.inr ⟨o, s _ _ h fun ps z => by cases z⟩)
  · exact .inr h
theorem Dr.nh {H : Hp} {h c b : Addr} (d : Dr H h c) (n : H b = none) : b ≠ h ∧ b ≠ c := by
  obtain ⟨_, m, kk, ns, e1, e2, _⟩ := d
  refine ⟨fun z => ?_, fun z => ?_⟩
  · rw [z, e1] at n
    cases n
  · rw [z, e2] at n
    cases n
def tI (i : Int) : TE := tC (.int i)
def tP (a b : TE) : TE := tTup (tCons a (tCons b tNil))
def rPw : R2 := rI CPow fun i j => .int (i ^ j.toNat)
def rAd : R2 := rI0 fun i j => .int (i + j)
def tMn (a : TE) : TE := tUn (rU fun i => .int (-i)) a
theorem ev_tI {σ : L2.St} {H : Hp} {i : Int} : Ev (tI i) σ H (.int i) := ev_c
theorem ev_pw {σ : L2.St} {H : Hp} {a b : TE} {i j : Int} (ha : Ev a σ H (.int i)) (hb : Ev b σ H (.int j)) (h : CPow i j) : Ev (tOp rPw a b) σ H (.int (i ^ j.toNat)) := ev_op ha hb (rv_I h)
theorem ev_ad {σ : L2.St} {H : Hp} {a b : TE} {i j : Int} (ha : Ev a σ H (.int i)) (hb : Ev b σ H (.int j)) : Ev (tOp rAd a b) σ H (.int (i + j)) := ev_op ha hb rv_I0
theorem ev_mn {σ : L2.St} {H : Hp} {a : TE} {i : Int} (ha : Ev a σ H (.int i)) : Ev (tMn a) σ H (.int (-i)) := ev_un ha ru_neg
theorem eu_ifT {t : TT} {ta tb : TE} {σ : L2.St} {H : Hp} {xs : List V} (h : EvT t σ H true) (h1 : EvU ta σ H xs) : EvU (tIf t ta tb) σ H xs := fun H1 e Q q => h H1 e _ fun H2 e2 => iteT (h1 H2 (e.trans e2) _ fun p H3 np e3 hp => q p H3 (fresh_back e2 np) (e2.trans e3) hp)
theorem eu_ifF {t : TT} {ta tb : TE} {σ : L2.St} {H : Hp} {xs : List V} (h : EvT t σ H false) (h1 : EvU tb σ H xs) : EvU (tIf t ta tb) σ H xs := fun H1 e Q q => h H1 e _ fun H2 e2 => iteF (h1 H2 (e.trans e2) _ fun p H3 np e3 hp => q p H3 (fresh_back e2 np) (e2.trans e3) hp)
theorem et_isN {σ : L2.St} {H : Hp} {i : Nat} {v : V} (hs : σ[i]? = some (some v)) : EvT (tTest (tOp (fun x y H Q => y = .non ∧ Q (.bl (decide (x = .non))) H) (tVar i) (tC .non))) σ H (decide (v = .non)) :=
  et_test (ev_op (ev_var hs) ev_c (fun H3 _ Q3 q3 => ⟨rfl, q3 H3 (Ex.refl _)⟩))
theorem eqv_self (d : PyData) (h : SeqAt.shaped d = true) : PyData.eqv d d = true := SeqAt.eqv_refl d (SeqAt.canLay_of_shaped h)
/-! ### expressions that give data, all kept -/
def EvDp (K : PySem.W.Frag) (te : TE) (σ : L2.St) (H : Hp) (d : PyData) : Prop := EvD te σ H fun v H => Dp K H v d
def EvDpA (K : PySem.W.Frag) (ta : TA) (σ : L2.St) (H : Hp) (ds : List PyData) : Prop := ∀ H1, Ex H H1 → ∀ Q : List V → Hp → Prop, (∀ vs H2, Ex H1 H2 → DpAll K H2 vs ds → Q vs H2) → ta σ H1 Q
section
variable {K : PySem.W.Frag} {te tb tx : TE} {ta tr : TA} {σ : L2.St} {H : Hp} {d e : PyData} {ds : List PyData}
theorem edp_ev {v : V} (h : Ev te σ H v) (hd : ∀ H2, Ex H H2 → Dp K H2 v d) : EvDp K te σ H d := ed_of h hd
theorem edp_int {i : Int} (h : Ev te σ H (.int i)) : EvDp K te σ H (.int i) := edp_ev h fun _ _ => .int i
theorem edp_str {x : Str} : EvDp K (tC (.str x)) σ H (.str x) := edp_ev ev_c fun _ _ => .str x
theorem eda_nil : EvDpA K tNil σ H [] := fun H1 _ Q q => q [] H1 (Ex.refl _) .nil
theorem eda_cons (h : EvDp K tx σ H d) (hr : EvDpA K tr σ H ds) : EvDpA K (tCons tx tr) σ H (d :: ds) := fun H1 e Q q =>
  h H1 e _ fun v H2 e2 hv => hr H2 (e.trans e2) _ fun vs H3 e3 hvs => q _ _ (e2.trans e3) (.cons (dp_ex e3 hv) hvs)
theorem edp_lst (h : EvDpA K ta σ H ds) (hl : ds.length ≤ 1000) : EvDp K (tLst ta) σ H (.list ds) := fun H1 e Q q => h H1 e _ fun vs H2 e2 hvs => ⟨Nat.le_of_lt (small1000 (by rw [dps_len hvs]; exact hl)), fun p np => q _ _ (e2.trans (Ex.new np)) (.lst (.of upd_same) (dps_ex (Ex.new np) hvs))⟩
theorem edp_tup (h : EvDpA K ta σ H ds) (hl : ds.length ≤ 1000) : EvDp K (tTup ta) σ H (.tuple ds) := fun H1 e Q q => h H1 e _ fun vs H2 e2 hvs => ⟨Nat.le_of_lt (small1000 (by rw [dps_len hvs]; exact hl)), fun p np => q _ _ (e2.trans (Ex.new np)) (.tup (.of upd_same) (dps_ex (Ex.new np) hvs))⟩
theorem et_neD (h1 : EvDp K te σ H d) (h2 : EvDp K tb σ H e) (s1 : SeqAt.shaped d = true) (s2 : SeqAt.shaped e = true) : EvT (tTest (tOp (rNeD K) te tb)) σ H (!PyData.eqv d e) := fun H1 a Q q =>
  h1 H1 a _ fun v H2 e2 hv => h2 H2 (a.trans e2) _ fun u H3 e3 hu => ⟨d, e, dp_ex e3 hv, hu, s1, s2, _, rfl, q H3 (e2.trans e3)⟩
theorem et_same (h1 : EvDp K te σ H d) (h2 : EvDp K tb σ H d) (s1 : SeqAt.shaped d = true) : EvT (tTest (tOp (rNeD K) te tb)) σ H false := et_is (et_neD h1 h2 s1 s1) (by rw [eqv_self d s1]; rfl)
end
theorem et_al {K : PySem.W.Frag} {ta : TA} {σ : L2.St} {H : Hp} {d : PyData} (hA : EvDpA K ta σ H [d, d]) (hd : IntD 3 d) : EvT (tNot (tB (tCall (spAl K 4) [] E0 ta))) σ H false := fun H1 e Q q =>
  hA H1 e (fun vs H2 => spAl K 4 (vs ++ []) H2 (fun x H3 => ∃ c, x = .bl c ∧ Q (!c) H3) E0) fun vs H2 e2 hvs => by
    cases hvs with
    | cons h1 hr =>
      cases hr with
      | cons h2 hr2 =>
        cases hr2
        exact ⟨3, _, _, d, by decide, rfl, h1, h2, hd, fun H5 s5 => ⟨true, rfl, q H5 (e2.trans s5)⟩⟩
theorem pick2 (a b v : Int) (h0 : 0 ≤ v) (h1 : v < 2) : ∃ w, atI [V.int a, V.int b] v = some (.int w) ∧ (w = a ∨ w = b) := by
  rcases (show v = 0 ∨ v = 1 by omega) with rfl | rfl
  · exact ⟨a, rfl, .inl rfl⟩
  · exact ⟨b, rfl, .inr rfl⟩
theorem ev_eqD {K : PySem.W.Frag} {te tb : TE} {σ : L2.St} {H : Hp} {d : PyData} (h1 : EvDp K te σ H d) (h2 : EvDp K tb σ H d) (s1 : SeqAt.shaped d = true) : Ev (tOp (rEqD K) te tb) σ H (.bl true) := fun H1 a Q q =>
  h1 H1 a _ fun v H2 e2 hv => h2 H2 (a.trans e2) _ fun u H3 e3 hu => ⟨d, d, dp_ex e3 hv, hu, s1, s1, by
    rw [eqv_self d s1]
    exact q H3 (e2.trans e3)⟩
theorem lam_ne {f : Addr} {F : LF} : ∀ ps, LamO f F ≠ .tbl ps := Stands.no_tbl
theorem code_ne {c : Addr} {q : Str} : ∀ ps, CodeO c q ≠ .tbl ps := fun ps z => by
  unfold CodeO at z
  cases z
theorem at_int {α : Type} {xs : List α} {i : Nat} (hi : i < xs.length) : atI xs ((i : Nat) : Int) = some xs[i] := at_nat hi (List.getElem?_eq_getElem hi)
end Sea

set_option Elab.async false
set_option linter.all false
set_option maxRecDepth 100000
set_option maxHeartbeats 4000000
namespace Sea
open PySem PySem.Spec PyProof.Rows L2 LamX NdefX ClX Evl StX
def top (i : Nat) : Stmt := PySem.Challenge.pw_seasonpass_k02_whole_travel_days.main.body.getD i (.Pass ⟨0, 0, 0, 0⟩)
abbrev sMix : Stmt := top 20
abbrev sNext : Stmt := top 21
theorem scMix : FnScope ["_law_script", "_law_seed", "_law_mixed", "_law_cell"] ["_law_script", "_law_seed"] (defScope sMix) := ⟨rfl, rfl, rfl, by decide +kernel, rfl, by decide +kernel, by decide +kernel⟩
theorem scNext : FnScope ["_law_h", "_law_limit", "_law_cell"] ["_law_h", "_law_limit"] (defScope sNext) := ⟨rfl, rfl, rfl, by decide +kernel, rfl, by decide +kernel, by decide +kernel⟩
def spMix (K : PySem.W.Frag) : Sp := fun vs H Q _ => ∃ (a : Addr) (ns : List Int) (z : Int), vs = [.ref a, .int z] ∧ SqL K H a (ns.map V.int) ∧ ns.length ≤ 63 ∧ ∀ (h c : Addr) (H' : Hp), Same H H' → H h = none → H c = none → Dr H' h c → Q (.ref h) H'
def spNext : Sp := fun vs H Q _ => ∃ (h c : Addr) (lim : Int), vs = [.ref h, .int lim] ∧ 0 < lim ∧ lim.natAbs.log2 < 9000 ∧ Dr H h c ∧ ∀ (v : Int) (H' : Hp), 0 ≤ v → v < lim → Dr H' h c → Kp h c H H' → Q (.int v) H'
section
variable {P : Program} {w : World} {K : PySem.W.Frag} {mg : Str → Option Value} {base : Heap}
theorem ok_mix {f : Addr} {fd : FuncData} {k : Nat} (F : Fun K "_law_mix" "_law_mix" sMix f fd) (mL : mg "list" = none) : FnOk P w K mg base CX0 (k + 1) f fd ["_law_script", "_law_seed"] (spMix K) := by
  refine F.ok scMix (fun vs H Q E h => ?_) (fun cdv A outer s H vs Q E hr h => ?_)
  · obtain ⟨a, ns, z, rfl, _⟩ := h
    rfl
  · obtain ⟨a, ns, z, rfl, hS, hlen, q⟩ := h
    refine ⟨_, pss_cons (ps_set (i := 2) scMix.nd rfl (.inl rfl) (pv 1)) (pss_cons (ps_for PassesOwn.never rfl (pi_list (pv 0)) (pg_name (i := 3) scMix.nd rfl (.inl rfl))
        (pss_one (ps_set (i := 2) scMix.nd rfl (.inl rfl) (pe_op op_modN (pe_op op_add (pe_op op_add (pe_op op_mul (pv 2) pe_int) (pe_op op_modN (pv 3) pe_int)) pe_int) pe_int))))
      (pss_one (ps_ret (pe_lst (pa_cons (pv 2) (pa_cons (pe_callTy call_list_of (by rfl) mL (by rfl) (pa_cons (pv 0) pa_nil)) (pa_cons pe_int pa_nil))))))), ?_⟩
    refine ⟨_, rfl, ?_⟩
    refine ⟨_, rfl, a, rfl, ⟨_, hS⟩, for_list (K := K) (a := a) (xs := ns.map V.int) (fun i σ H' => ∃ (m : Int) (v : Option V), σ = [some (.ref a), some (.int z), some (.int m), v] ∧ H' = H)
      ⟨z, none, rfl, rfl⟩ (fun i σ H' _ ⟨_, _, _, e⟩ => by rw [e]; exact hS) ?_ ?_⟩
    · rintro i y σ H' hi ⟨m, v, rfl, rfl⟩
      obtain ⟨u, rfl⟩ : ∃ u, y = V.int u := by
        rw [List.getElem?_map] at hi
        cases e : ns[i]? with
        | none => rw [e] at hi; cases hi
        | some u => rw [e] at hi; exact ⟨u, (Option.some.inj hi).symm⟩
      refine ⟨_, rfl, _, _, rfl, rfl, .inr ⟨by decide, by decide⟩, _, rfl, _, _, rfl, rfl, (by show (2147483629 : Int) ≠ 0; decide), _, _, rfl, rfl, _, _, rfl, rfl, _, _, rfl, rfl, (by show (2147483647 : Int) ≠ 0; decide), ?_⟩
      exact ⟨_, _, rfl, rfl⟩
    · rintro σ H' ⟨m, v, rfl, rfl⟩
      refine ⟨_, rfl, _, rfl, a, _, rfl, .inl hS, fun c nc => ?_⟩
      refine ⟨Nat.le_of_lt (small1000 (show 3 ≤ 1000 by decide)), fun l nl => ?_⟩
      have ncl : l ≠ c := fun e => by rw [e, upd_same] at nl; cases nl
      refine q l c _ (fun b o e => ?_) ?_ nc ⟨ncl, m, 0, ns, upd_same, ?_, hlen⟩
      · rw [upd_ne (ne_of_none (o := o) (by rw [upd_ne (ne_of_none e nc)]; exact e) nl), upd_ne (ne_of_none e nc)]
        exact e
      · rw [upd_ne ncl] at nl; exact nl
      · rw [upd_ne ncl.symm, upd_same]

theorem ok_next {f : Addr} {fd : FuncData} {k : Nat} (F : Fun K "_law_next" "_law_next" sNext f fd) (mM : mg "max" = none) (mN : mg "len" = none) : FnOk P w K mg base CX0 (k + 1) f fd ["_law_h", "_law_limit"] spNext := by
  refine F.ok scNext (fun vs H Q E h => ?_) (fun cdv A outer s H vs Q E hr h => ?_)
  · obtain ⟨h, c, lim, rfl, _⟩ := h
    rfl
  · obtain ⟨h, c, lim, rfl, l0, l1, ⟨nhc, m, kk, ns, e1, e2, hlen⟩, q⟩ := h
    refine ⟨_, pss_cons (ps_set (i := 2) scNext.nd rfl (.inl rfl) (pe_ixl (pe_op op_cat (pe_ixl (pv 0) pe_int) (pe_lst (pa_cons pe_int pa_nil))) (pe_op op_modN (pe_ixl (pv 0) pe_int) (pe_callB (call_max2 rfl) (by rfl) mM (by rfl) (pa_cons pe_int (pa_cons (pe_callB call_len_seq (by rfl) mN PySem.boot_len (pa_cons (pe_ixl (pv 0) pe_int) pa_nil)) pa_nil))))))
      (pss_cons (ps_if (pt_cmpR op_ge (pv 2) (pe_op op_pow pe_int pe_int) (nomark _))
          (pss_cons (ps_asg (pe_op op_fdivW (pv 2) (pv 1)) (pg_sub (pe_ixl (pv 0) pe_int) (pe_op op_modN (pe_ixl (pv 0) pe_int) (pe_callB call_len_seq (by rfl) mN PySem.boot_len (pa_cons (pe_ixl (pv 0) pe_int) pa_nil))) set_list))
            (pss_one (ps_ret (pe_op op_modN (pv 2) (pv 1))))) pss_nil)
      (pss_cons (ps_asg (pe_op op_modN (pe_op op_add (pe_op op_add (pe_op op_mul (pe_ixl (pv 0) pe_int) pe_int) (pe_op op_mul (pv 2) pe_int)) pe_int) pe_int) (pg_sub (pv 0) pe_int set_list))
      (pss_cons (ps_asg (pe_op op_add (pe_ixl (pv 0) pe_int) pe_int) (pg_sub (pv 0) pe_int set_list))
      (pss_one (ps_ret (pe_op op_modN (pe_op op_fdivN (pe_ixl (pv 0) pe_int) pe_int) (pv 1))))))), ?_⟩
    have d0 : Same H H := fun _ _ e => e
    refine ⟨_, rfl, h, _, 1, _, rfl, rfl, SqL.of e1, rfl, ?_⟩
    refine ⟨Nat.le_of_lt (small1000 (show 1 ≤ 1000 by decide)), fun l nl => ?_⟩
    have s1 : Same H (upd H l (.lst [V.int 0])) := fun b o e => by
      rw [upd_ne (ne_of_none e nl)]
      exact e
    refine ⟨c, l, _, _, rfl, rfl, s1 _ _ e2, upd_same, Nat.le_of_lt (small1000 (show (ns.map V.int).length + 1 ≤ 1000 by rw [List.length_map]; omega)), fun p np => ?_⟩
    have s2 : Same H (upd (upd H l (.lst [V.int 0])) p (.lst (ns.map V.int ++ [V.int 0]))) := fun b o e => by
      rw [upd_ne (ne_of_none (s1 _ _ e) np)]
      exact s1 _ _ e
    have f1 := s2 _ _ e1
    have f2 := s2 _ _ e2
    refine ⟨_, rfl, h, _, 2, _, rfl, rfl, SqL.of f1, rfl, ?_⟩
    refine ⟨_, rfl, h, _, 1, _, rfl, rfl, SqL.of f1, rfl, c, _, rfl, .inl (SqL.of f2), _, _, rfl, ?_⟩
    have hmx : 0 < (if (((ns.map V.int).length : Nat) : Int) > 1 then (((ns.map V.int).length : Nat) : Int) else 1) := by split <;> omega
    refine ⟨_, _, rfl, rfl, Int.ne_of_gt hmx, ?_⟩
    obtain ⟨u, hu⟩ := pick0 ns (kk.fmod (if (((ns.map V.int).length : Nat) : Int) > 1 then (((ns.map V.int).length : Nat) : Int) else 1)) (Int.fmod_nonneg_of_pos _ hmx) (Int.lt_of_lt_of_le (Int.fmod_lt_of_pos kk hmx) (by rw [List.length_map]; split <;> omega))
    refine ⟨p, _, _, _, rfl, rfl, SqL.of upd_same, hu, ?_⟩
    refine ⟨_, rfl, _, _, rfl, rfl, ⟨by decide, by decide, by decide⟩, _, _, rfl, rfl, _, rfl, ?_⟩
    have n0 : lim ≠ 0 := Int.ne_of_gt l0
    have nb : ∀ b o, H b = some o → (upd (upd H l (.lst [V.int 0])) p (.lst (ns.map V.int ++ [V.int 0]))) b = some o := s2
    refine ite2 (fun hgt => ?_) (fun _ => ?_)
    · have hpos : 0 < ns.length := by
        cases ns with
        | nil =>
          exfalso
          have z : u = 0 := by
            have := hu
            rcases pick_nil this with e
            exact e
          rw [z] at hgt
          revert hgt
          decide
        | cons _ _ => exact Nat.succ_pos _
      refine ⟨_, rfl, _, rfl, _, _, rfl, rfl, ⟨l0, l1⟩, ?_⟩
      refine ⟨_, rfl, h, _, 1, _, rfl, rfl, SqL.of f1, rfl, _, rfl, h, _, 2, _, rfl, rfl, SqL.of f1, rfl, ?_⟩
      refine ⟨_, rfl, h, _, 1, _, rfl, rfl, SqL.of f1, rfl, c, _, rfl, .inl (SqL.of f2), ?_⟩
      have hlp : (0 : Int) < (((ns.map V.int).length : Nat) : Int) := by
        rw [List.length_map]
        omega
      obtain ⟨j, hj⟩ := ixn_fmod kk hlp
      refine ⟨_, _, rfl, rfl, Int.ne_of_gt hlp, c, _, _, j, rfl, rfl, f2, hj, ?_⟩
      refine ⟨_, rfl, _, rfl, _, _, rfl, rfl, n0, ?_⟩
      have hpc : c ≠ p := ne_of_none (s1 _ _ e2) np
      refine q _ _ (Int.fmod_nonneg_of_pos _ l0) (Int.fmod_lt_of_pos _ l0) ⟨nhc, m, kk, ns.set j (u / lim), ?_, ?_, ?_⟩ ?_
      · rw [upd_ne nhc]
        exact f1
      · rw [upd_same, List.map_set]
      · rw [List.length_set]
        exact hlen
      · intro b o e _ n2
        rw [upd_ne n2]
        exact s2 _ _ e
    · have _ := n0
      refine ⟨_, rfl, h, _, 0, _, rfl, rfl, SqL.of f1, rfl, _, _, rfl, rfl, .inr ⟨by decide, by decide⟩, ?_⟩
      refine ⟨_, rfl, _, _, rfl, rfl, .inr ⟨by decide, by decide⟩, _, _, rfl, rfl, _, _, rfl, rfl, _, _, rfl, rfl, (by show (2147483647 : Int) ≠ 0; decide), ?_⟩
      refine ⟨_, rfl, h, _, 0, 0, rfl, rfl, f1, rfl, ?_⟩
      refine ⟨_, rfl, h, _, 2, _, rfl, rfl, SqL.of upd_same, rfl, _, _, rfl, rfl, ?_⟩
      refine ⟨_, rfl, h, _, 2, 2, rfl, rfl, upd_same, rfl, ?_⟩
      refine ⟨_, rfl, h, _, 0, _, rfl, rfl, SqL.of upd_same, rfl, _, _, rfl, rfl, ⟨by decide, by decide⟩, _, rfl, _, _, rfl, rfl, n0, ?_⟩
      refine q _ _ (Int.fmod_nonneg_of_pos _ l0) (Int.fmod_lt_of_pos _ l0) ⟨nhc, _, _, ns, upd_same, ?_, hlen⟩ ?_
      · rw [upd_ne nhc.symm, upd_ne nhc.symm]
        exact f2
      · intro b o e n1 _
        rw [upd_ne n1, upd_ne n1]
        exact s2 _ _ e
end
structure TNx (K : PySem.W.Frag) (mg : Str → Option Value) (fN : Addr) (fdN : FuncData) : Prop where
  g : mg "_law_next" = some (.ref fN)
  kp : PySem.W.keepIn K (.ref fN) = true
  fu : Fun K "_law_next" "_law_next" sNext fN fdN
  mM : mg "max" = none
  mN : mg "len" = none
theorem TNx.b {K : PySem.W.Frag} {mg : Str → Option Value} {fN : Addr} {fdN : FuncData} (T : TNx K mg fN fdN) : Binds K fdN ["_law_h", "_law_limit"] [] := T.fu.binds (ps := ["_law_h", "_law_limit"]) fun _ _ _ _ _ _ us hl => match us, hl with | [_, _], _ => rfl
section
variable {X : Cx} {a b : Expr} {ta tb : TE} {p pos : Pos} {fN : Addr} {fdN : FuncData}
/-- _law_next(a, b) -/
theorem pe_next (T : TNx X.K X.mg fN fdN) (hr : Room 1 X.A) (hg : Gl X "_law_next") (ha : PE X a ta) (hb : PE X b tb) (he : starEach (a :: [b]) X.env = (false, eval a X.env) :: starEach [b] X.env := by rfl) (he2 : starEach (b :: []) X.env = (false, eval b X.env) :: starEach [] X.env := by rfl) (hpl : (backTo pos (starEach [b] X.env)).any (·.1) = false := by rfl) :
    PE X (.Call (.Name "_law_next" p) [a, b] [] pos) (tCall spNext [] E0 (tCons ta (tCons tb tNil))) :=
  pe_call (ok_next (k := 0) T.fu T.mM T.mN) hr hg T.g T.kp T.b .nil pass0 (pa_cons ha (pa_cons hb pa_nil he2) he) (by decide) he hpl
end
abbrev sAl : Stmt := top 22
theorem scAl : FnScope ["_law_found", "_law_due", "_law_k"] ["_law_found", "_law_due"] (defScope sAl) := ⟨rfl, rfl, rfl, by decide +kernel, rfl, by decide +kernel, by decide +kernel⟩
structure TAl (K : PySem.W.Frag) (mg : Str → Option Value) (fA : Addr) (fdA : FuncData) : Prop where
  g : mg "_law_alike" = some (.ref fA)
  kp : PySem.W.keepIn K (.ref fA) = true
  fu : Fun K "_law_alike" "_law_alike" sAl fA fdA
  mI : mg "isinstance" = none
  mN : mg "len" = none
  mR : mg "range" = none
  m_dict : mg "dict" = none
  m_list : mg "list" = none
  m_tuple : mg "tuple" = none
  m_str : mg "str" = none
  m_int : mg "int" = none
  m_bool : mg "bool" = none
section
variable {P : Program} {w : World} {K : PySem.W.Frag} {mg : Str → Option Value} {base : Heap} {fA : Addr} {fdA : FuncData}
theorem ok_al (T : TAl K mg fA fdA) : ∀ n, FnOk P w K mg base CX0 n fA fdA ["_law_found", "_law_due"] (spAl K n)
  | 0 => ⟨fun vs H Q E h => by obtain ⟨m, _, _, _, hm, _⟩ := h; exact absurd hm (Nat.not_lt_zero _), by
      intros
      rename_i h
      obtain ⟨m, _, _, _, hm, _⟩ := h
      exact absurd hm (Nat.not_lt_zero _)⟩
  | n + 1 => by
    have ih := ok_al T n
    have bA : Binds K fdA ["_law_found", "_law_due"] [] := T.fu.binds (ps := ["_law_found", "_law_due"]) fun _ _ _ _ _ _ us hl => match us, hl with | [_, _], _ => rfl
    refine T.fu.ok scAl (fun vs H Q E h => ?_) (fun cdv A outer s H vs Q E hr h => ?_)
    · obtain ⟨m, x, y, d, hm, rfl, _⟩ := h
      rfl
    · obtain ⟨m, x, y, d, hm, rfl, h1, h2, hd, q⟩ := h
      have hu := hr.units
      refine ⟨_, pss_cons (ps_if (pt_val (pe_callB call_isi (by rfl) T.mI PyProof.Rows.boot_isinstance (pa_cons (pv 1) (pa_cons (pe_bltn (v := .ty "dict") (by rfl) T.m_dict (by decide +kernel) rfl) pa_nil)))) pss_never pss_nil)
      (pss_cons (ps_if (pt_val (pe_callB call_isiT (by rfl) T.mI PyProof.Rows.boot_isinstance (pa_cons (pv 1) (pa_cons (pe_tup (pa_cons (pe_bltn (v := .ty "tuple") (by rfl) T.m_tuple (by decide +kernel) rfl) (pa_cons (pe_bltn (v := .ty "list") (by rfl) T.m_list (by decide +kernel) rfl) pa_nil))) pa_nil)))) (pss_cons (ps_if (PW.pt (pw_or (pt_not (pt_val (pe_callB call_isiT (by rfl) T.mI PyProof.Rows.boot_isinstance (pa_cons (pv 0) (pa_cons (pe_tup (pa_cons (pe_bltn (v := .ty "tuple") (by rfl) T.m_tuple (by decide +kernel) rfl) (pa_cons (pe_bltn (v := .ty "list") (by rfl) T.m_list (by decide +kernel) rfl) pa_nil))) pa_nil))))) (pw_or1 (pt_cmpR op_ne (pe_callB call_isi (by rfl) T.mI PyProof.Rows.boot_isinstance (pa_cons (pv 0) (pa_cons (pe_bltn (v := .ty "list") (by rfl) T.m_list (by decide +kernel) rfl) pa_nil))) (pe_callB call_isi (by rfl) T.mI PyProof.Rows.boot_isinstance (pa_cons (pv 1) (pa_cons (pe_bltn (v := .ty "list") (by rfl) T.m_list (by decide +kernel) rfl) pa_nil))) (nomark _))))) pss_never pss_nil)
        (pss_cons (ps_if (pt_cmpR op_ne (pe_callB call_len_seq (by rfl) T.mN PySem.boot_len (pa_cons (pv 0) pa_nil)) (pe_callB call_len_seq (by rfl) T.mN PySem.boot_len (pa_cons (pv 1) pa_nil)) (nomark _)) pss_never pss_nil)
        (pss_one (ps_ret (pe_cmpR (op_eqD hu) (pe_lc (X := (cxOf CX0 P w K mg base ["_law_found", "_law_due", "_law_k"] "_law_alike" (defScope sAl) fA cdv A outer s H E).nox) (own := [("_law_k", 2)]) (g := gName 2) (by rfl) scAl.nd (pi_range1 (by rfl) T.mR (pa_cons (pe_callB call_len_seq (by rfl) T.mN PySem.boot_len (pa_cons (pv 1) pa_nil)) pa_nil))
          (blkOk_by (own := [("_law_k", 2)]) (N := ["_law_found", "_law_due", "_law_k"]) (sc := defScope sAl) (by decide +kernel)) (fun _ _ _ _ _ => pg_name (i := 2) scAl.nd rfl (Or.inl rfl))
          (fun _ _ _ _ _ => pts_one (pt_not (pt_val (pe_call (E := E0) ih hr (by rfl) T.g T.kp bA .nil pass0 (pa_cons (pe_ixsK K rfl (pv 0) (pv 2)) (pa_cons (pe_ixsK K rfl (pv 1) (pv 2)) pa_nil)))))) (fun _ _ _ _ _ => pv 2)) (pe_lst pa_nil) (nomark _)))))) pss_nil)
      (pss_cons (ps_if (PW.pt (pw_or (pt_cmpR op_isN (pv 1) pe_non (nomark _)) (pw_or1 (pt_val (pe_callB call_isi (by rfl) T.mI PyProof.Rows.boot_isinstance (pa_cons (pv 1) (pa_cons (pe_bltn (v := .ty "str") (by rfl) T.m_str (by decide +kernel) rfl) pa_nil))))))) pss_never pss_nil)
      (pss_one (ps_ret (pe_and (pe_callB call_isi (by rfl) T.mI PyProof.Rows.boot_isinstance (pa_cons (pv 0) (pa_cons (pe_bltn (v := .ty "int") (by rfl) T.m_int (by decide +kernel) rfl) pa_nil))) (pe_and (pe_cmpR op_eq (pe_callB call_isi (by rfl) T.mI PyProof.Rows.boot_isinstance (pa_cons (pv 0) (pa_cons (pe_bltn (v := .ty "bool") (by rfl) T.m_bool (by decide +kernel) rfl) pa_nil))) (pe_callB call_isi (by rfl) T.mI PyProof.Rows.boot_isinstance (pa_cons (pv 1) (pa_cons (pe_bltn (v := .ty "bool") (by rfl) T.m_bool (by decide +kernel) rfl) pa_nil))) (nomark _)) (pe_one (pe_cmpR op_eq (pv 0) (pv 1) (nomark _))))))))), ?_⟩
      dsimp only
      cases hd with
      | int m i =>
        cases h1
        cases h2
        refine q_when (b := false) (et_B (ev_isi rfl (fun H1 _ => .base (.int i)) (kit_ty (by decide +kernel)))) (fun z => by cases z) fun _ H1 e1 => ?_
        refine q_when (b := false) (et_B (ev_isiT rfl (fun H2 _ => .base (.int i)) ka_int)) (fun z => by cases z) fun _ H2 e2 => ?_
        refine q_when (b := false) (et_is (et_or (a := false) (b := false) (et_is (et_test (ev_op (ev_var rfl) ev_c (fun H3 _ Q3 q3 => ⟨rfl, q3 H3 (Ex.refl _)⟩))) rfl) fun _ => et_B (ev_isi rfl (fun H3 _ => .base (.int i)) (kit_ty (by decide +kernel)))) rfl) (fun z => by cases z) fun _ H3 e3 => ?_
        refine s_ret (v := .bl true) (ev_is (ev_andV (ev_isi (b := true) rfl (fun H3 _ => .base (.int i)) (kit_ty (by decide +kernel))) fun _ => ev_andV (ev_op (ev_isi (b := false) rfl (fun H3 _ => .base (.int i)) (kit_ty (by decide +kernel))) (ev_isi (b := false) rfl (fun H3 _ => .base (.int i)) (kit_ty (by decide +kernel))) (rv_eq rfl)) fun _ => ev_op (ev_var rfl) (ev_var rfl) (rv_eq rfl)) ?_) fun H4 e4 => q H4 (Same.trans ((e1.trans e2).trans e3) e4)
        simp
      | bool m i =>
        cases h1
        cases h2
        refine q_when (b := false) (et_B (ev_isi rfl (fun H1 _ => .base (.bl i)) (kit_ty (by decide +kernel)))) (fun z => by cases z) fun _ H1 e1 => ?_
        refine q_when (b := false) (et_B (ev_isiT rfl (fun H2 _ => .base (.bl i)) ka_bool)) (fun z => by cases z) fun _ H2 e2 => ?_
        refine q_when (b := false) (et_is (et_or (a := false) (b := false) (et_is (et_test (ev_op (ev_var rfl) ev_c (fun H3 _ Q3 q3 => ⟨rfl, q3 H3 (Ex.refl _)⟩))) rfl) fun _ => et_B (ev_isi rfl (fun H3 _ => .base (.bl i)) (kit_ty (by decide +kernel)))) rfl) (fun z => by cases z) fun _ H3 e3 => ?_
        refine s_ret (v := .bl true) (ev_is (ev_andV (ev_isi (b := true) rfl (fun H3 _ => .base (.bl i)) (kit_ty (by decide +kernel))) fun _ => ev_andV (ev_op (ev_isi (b := true) rfl (fun H3 _ => .base (.bl i)) (kit_ty (by decide +kernel))) (ev_isi (b := true) rfl (fun H3 _ => .base (.bl i)) (kit_ty (by decide +kernel))) (rv_eq rfl)) fun _ => ev_op (ev_var rfl) (ev_var rfl) (rv_eq rfl)) ?_) fun H4 e4 => q H4 (Same.trans ((e1.trans e2).trans e3) e4)
        simp
      | @lst m ds hds hl =>
        cases h1 with
        | @lst a xs _ ha hxs =>
        cases h2 with
        | @lst b ys _ hb hys =>
        have lx := dps_len hxs
        have ly := dps_len hys
        have tx : ∀ H1, Ex H H1 → TyX K H1 (.ref a) (.type "list") := fun H1 e => tyx_lst (ex_l e ha)
        have tyy : ∀ H1, Ex H H1 → TyX K H1 (.ref b) (.type "list") := fun H1 e => tyx_lst (ex_l e hb)
        refine q_when (b := false) (et_B (ev_isi rfl tyy (kit_ty (by decide +kernel)))) (fun z => by cases z) fun _ H1 e1 => ?_
        refine q_when (b := true) (et_B (ev_isiT rfl (fun H2 e2 => tyy H2 (e1.trans e2)) ka_list)) (fun _ H2 e2 => ?_) (fun z => by cases z)
        have e12 := e1.trans e2
        refine q_when (b := false) (et_is (et_or (a := false) (b := false) (et_is (et_not (et_B (ev_isiT rfl (fun H3 e3 => tx H3 (e12.trans e3)) ka_list))) rfl) fun _ => et_is (et_test (ev_op (ev_isi (b := true) rfl (fun H3 e3 => tx H3 (e12.trans e3)) (kit_ty (by decide +kernel))) (ev_isi (b := true) rfl (fun H3 e3 => tyy H3 (e12.trans e3)) (kit_ty (by decide +kernel))) (rv_ne rfl))) (by decide +kernel)) rfl) (fun z => by cases z) fun _ H3 e3 => ?_
        have e13 := e12.trans e3
        refine q_when (b := false) (et_is (et_test (ev_op (ev_lenS rfl (.inl (ex_l e13 ha))) (ev_lenS rfl (.inl (ex_l e13 hb))) (rv_ne rfl))) (by rw [lx, ly]; simp)) (fun z => by cases z) fun _ H4 e4 => ?_
        have e14 := e13.trans e4
        refine s_ret (v := .bl true) (ev_is (ev_opLL (xs := []) (ys := []) ?_ (el_lst ea_nil (by decide)) (fun p r H5 hp hr5 e5 => rv_eqD (d := .list []) (e := .list []) (fun H6 e6 => .lst (.of (e6 _ _ hp)) .nil) (fun H6 e6 => .lst (.of (e6 _ _ hr5)) .nil) rfl rfl)) rfl) fun H5 e5 => q H5 (Same.trans e14 e5)
        have eL := el_lcR1 (n := ((ys.length : Nat) : Int)) (fun _ => false) (fun k => V.int (k : Nat)) (σ := L2.start ["_law_found", "_law_due", "_law_k"] [.ref a, .ref b]) (H := H4) (j := 2) (vs := [2]) (t := tNot (tB (tCall (spAl K n) [] E0 (tCons (tOp (rIx K) (tVar 0) (tVar 2)) (tCons (tOp (rIx K) (tVar 1) (tVar 2)) tNil))))) (te := tVar 2)
          (ta := tCons (tCB (fun xs H Q => ∃ p ys, xs = [V.ref p] ∧ (SqL K H p ys ∨ SqT K H p ys) ∧ Q (.int ys.length) H) (tCons (tVar 1) tNil)) tNil) (ea_cons (ev_lenS rfl (.inl (ex_l e14 hb))) ea_nil) ⟨by omega, by omega⟩ (fun x => rfl) (fun i H5 e5 hi => ?_) (fun i H5 e5 hi _ => ev_var rfl)
        · rw [given_none] at eL
          exact eL
        · have hi2 : i < ds.length := by omega
          obtain ⟨v, d1, gv, gd, dv⟩ := dps_get hxs hi2
          obtain ⟨u, d2, gu, gd2, du⟩ := dps_get hys hi2
          obtain rfl : d1 = d2 := Option.some.inj (gd.symm.trans gd2)
          have e15 := e14.trans e5
          have av : atI xs ((i : Nat) : Int) = some v := at_nat (by rw [lx]; exact hi2) gv
          have au : atI ys ((i : Nat) : Int) = some u := at_nat (by rw [ly]; exact hi2) gu
          refine et_is (et_not (et_B (ev_call (vs := [v, u]) (z := .bl true) (ea_cons (ev_op (ev_var rfl) (ev_var rfl) (fun H6 e6 Q6 q6 => .inl (rv_ixL (ex_l e15 ha) av H6 e6 Q6 q6))) (ea_cons (ev_op (ev_var rfl) (ev_var rfl) (fun H6 e6 Q6 q6 => .inl (rv_ixL (ex_l e15 hb) au H6 e6 Q6 q6))) ea_nil)) ?_))) rfl
          exact fun H6 e6 Q6 q6 E6 => ⟨m, v, u, d1, by omega, rfl, dp_ex (e15.trans e6) dv, dp_ex (e15.trans e6) du, hds i d1 gd, fun H7 s7 => q6 H7 s7⟩
      | @tup m ds hds hl =>
        cases h1 with
        | @tup a xs _ ha hxs =>
        cases h2 with
        | @tup b ys _ hb hys =>
        have lx := dps_len hxs
        have ly := dps_len hys
        have tx : ∀ H1, Ex H H1 → TyX K H1 (.ref a) (.type "tuple") := fun H1 e => tyx_tup (ex_t e ha)
        have tyy : ∀ H1, Ex H H1 → TyX K H1 (.ref b) (.type "tuple") := fun H1 e => tyx_tup (ex_t e hb)
        refine q_when (b := false) (et_B (ev_isi rfl tyy (kit_ty (by decide +kernel)))) (fun z => by cases z) fun _ H1 e1 => ?_
        refine q_when (b := true) (et_B (ev_isiT rfl (fun H2 e2 => tyy H2 (e1.trans e2)) ka_tuple)) (fun _ H2 e2 => ?_) (fun z => by cases z)
        have e12 := e1.trans e2
        refine q_when (b := false) (et_is (et_or (a := false) (b := false) (et_is (et_not (et_B (ev_isiT rfl (fun H3 e3 => tx H3 (e12.trans e3)) ka_tuple))) rfl) fun _ => et_is (et_test (ev_op (ev_isi (b := false) rfl (fun H3 e3 => tx H3 (e12.trans e3)) (kit_ty (by decide +kernel))) (ev_isi (b := false) rfl (fun H3 e3 => tyy H3 (e12.trans e3)) (kit_ty (by decide +kernel))) (rv_ne rfl))) (by decide +kernel)) rfl) (fun z => by cases z) fun _ H3 e3 => ?_
        have e13 := e12.trans e3
        refine q_when (b := false) (et_is (et_test (ev_op (ev_lenS rfl (.inr (ex_t e13 ha))) (ev_lenS rfl (.inr (ex_t e13 hb))) (rv_ne rfl))) (by rw [lx, ly]; simp)) (fun z => by cases z) fun _ H4 e4 => ?_
        have e14 := e13.trans e4
        refine s_ret (v := .bl true) (ev_is (ev_opLL (xs := []) (ys := []) ?_ (el_lst ea_nil (by decide)) (fun p r H5 hp hr5 e5 => rv_eqD (d := .list []) (e := .list []) (fun H6 e6 => .lst (.of (e6 _ _ hp)) .nil) (fun H6 e6 => .lst (.of (e6 _ _ hr5)) .nil) rfl rfl)) rfl) fun H5 e5 => q H5 (Same.trans e14 e5)
        have eL := el_lcR1 (n := ((ys.length : Nat) : Int)) (fun _ => false) (fun k => V.int (k : Nat)) (σ := L2.start ["_law_found", "_law_due", "_law_k"] [.ref a, .ref b]) (H := H4) (j := 2) (vs := [2]) (t := tNot (tB (tCall (spAl K n) [] E0 (tCons (tOp (rIx K) (tVar 0) (tVar 2)) (tCons (tOp (rIx K) (tVar 1) (tVar 2)) tNil))))) (te := tVar 2)
          (ta := tCons (tCB (fun xs H Q => ∃ p ys, xs = [V.ref p] ∧ (SqL K H p ys ∨ SqT K H p ys) ∧ Q (.int ys.length) H) (tCons (tVar 1) tNil)) tNil) (ea_cons (ev_lenS rfl (.inr (ex_t e14 hb))) ea_nil) ⟨by omega, by omega⟩ (fun x => rfl) (fun i H5 e5 hi => ?_) (fun i H5 e5 hi _ => ev_var rfl)
        · rw [given_none] at eL
          exact eL
        · have hi2 : i < ds.length := by omega
          obtain ⟨v, d1, gv, gd, dv⟩ := dps_get hxs hi2
          obtain ⟨u, d2, gu, gd2, du⟩ := dps_get hys hi2
          obtain rfl : d1 = d2 := Option.some.inj (gd.symm.trans gd2)
          have e15 := e14.trans e5
          have av : atI xs ((i : Nat) : Int) = some v := at_nat (by rw [lx]; exact hi2) gv
          have au : atI ys ((i : Nat) : Int) = some u := at_nat (by rw [ly]; exact hi2) gu
          refine et_is (et_not (et_B (ev_call (vs := [v, u]) (z := .bl true) (ea_cons (ev_op (ev_var rfl) (ev_var rfl) (fun H6 e6 Q6 q6 => .inr (.inl (rv_ixT (ex_t e15 ha) av H6 e6 Q6 q6)))) (ea_cons (ev_op (ev_var rfl) (ev_var rfl) (fun H6 e6 Q6 q6 => .inr (.inl (rv_ixT (ex_t e15 hb) au H6 e6 Q6 q6)))) ea_nil)) ?_))) rfl
          exact fun H6 e6 Q6 q6 E6 => ⟨m, v, u, d1, by omega, rfl, dp_ex (e15.trans e6) dv, dp_ex (e15.trans e6) du, hds i d1 gd, fun H7 s7 => q6 H7 s7⟩
end

theorem bAl {K : PySem.W.Frag} {mg : Str → Option Value} {fA : Addr} {fdA : FuncData} (T : TAl K mg fA fdA) : Binds K fdA ["_law_found", "_law_due"] [] := T.fu.binds (ps := ["_law_found", "_law_due"]) fun _ _ _ _ _ _ us hl => match us, hl with | [_, _], _ => rfl
end Sea

set_option Elab.async false
set_option linter.all false
set_option maxRecDepth 100000
set_option maxHeartbeats 4000000
namespace Sea
open PySem PySem.Spec PyProof.Rows L2 LamX NdefX ClX Evl StX
abbrev sErr : Stmt := top 23
theorem scErr : FnScope ["_law_call", "e", "_law_kinds", "_law_name"] ["_law_call"] (defScope sErr) := ⟨rfl, rfl, rfl, by decide +kernel, rfl, by decide +kernel, by decide +kernel⟩
/-- the classes of errors cs 0 .. cs 6, their parent cP -/
structure TEr (K : PySem.W.Frag) (mg : Str → Option Value) (cP : Addr) (cs : Nat → Addr) : Prop where
  g0 : mg "InvalidTariff" = some (.ref (cs 0))
  g1 : mg "InvalidTravel" = some (.ref (cs 1))
  g2 : mg "InvalidCount" = some (.ref (cs 2))
  g3 : mg "UnknownPass" = some (.ref (cs 3))
  g4 : mg "InvalidPrices" = some (.ref (cs 4))
  g5 : mg "InvalidPlan" = some (.ref (cs 5))
  g6 : mg "Contradiction" = some (.ref (cs 6))
  gP : mg "PassError" = some (.ref cP)
  mI : mg "isinstance" = none
  mV : mg "ValueError" = none
  e1 : ExcC K (cs 1)
  k1 : ∀ i, i < 7 → PySem.W.kitOne K (.ref (cs 1)) (.ref (cs i)) = some (decide (i = 1))
  v1 : PySem.W.kitOne K (.ref (cs 1)) (.type "ValueError") = some true
  x1 : PySem.W.exmOne K (.ref (cs 1)) (.ref cP) = some true
  e2 : ExcC K (cs 2)
  k2 : ∀ i, i < 7 → PySem.W.kitOne K (.ref (cs 2)) (.ref (cs i)) = some (decide (i = 2))
  v2 : PySem.W.kitOne K (.ref (cs 2)) (.type "ValueError") = some true
  x2 : PySem.W.exmOne K (.ref (cs 2)) (.ref cP) = some true
  f1 : XfC K (cs 1)
  n1 : PySem.W.findIn K (.ref (cs 1)) "index" = some none
  p1 : PySem.W.findIn K (.ref (cs 1)) "part" = some none
/-- what _law_error answers: of a thunk that gives a value; of one that raises -/
def spErr (cs : Nat → Addr) : (Hp → VK → XK → Prop) → Hp → VK → XK → Prop := fun tl H Q _ => tl H (fun _ H1 => ∀ r H', Same H1 H' → H' r = some (.tup [.str "none"]) → Q (.ref r) H')
  (fun cls d H1 => (cls = .ref (cs 1) ∧ ∃ (dx : Addr) (p : Str) (i : Int), d = some dx ∧ H1 dx = some (.xd [("index", .int i), ("part", .str p)]) ∧ ∀ r H', Same H1 H' → H' r = some (.tup [.str "travel", .str p, .int i]) → Q (.ref r) H') ∨
    (cls = .ref (cs 2) ∧ d = none ∧ ∀ r H', Same H1 H' → H' r = some (.tup [.str "count"]) → Q (.ref r) H'))
section
variable {P : Program} {w : World} {K : PySem.W.Frag} {mg : Str → Option Value} {base : Heap} {cP : Addr} {cs : Nat → Addr}
theorem ok_err {f : Addr} {fd : FuncData} {j k : Nat} (F : Fun K "_law_error" "_law_error" sErr f fd) (T : TEr K mg cP cs) (hjk : j ≤ k) : FnS P w K mg base CX0 (L2.CX P w) (k + 1) j f (spErr cs) := by
  intro A outer s H fl tl Q E hr e0 hT h
  obtain ⟨oc, od, kV, doc, pm, an, cdv, ct, osl, rfl, lk, hcd⟩ := F.ex
  refine run_ofS (N := ["_law_call", "e", "_law_kinds", "_law_name"]) (ps := ["_law_call"]) (us := [.ref fl]) (vs := [.ref fl]) (k := k) lk hcd scErr hr e0 (.of_eq rfl) (.cons rfl .nil) rfl fun hr' => ?_
  refine ⟨_, pss_cons (ps_try_as (X := (cxOf CX0 P w K mg base ["_law_call", "e", "_law_kinds", "_law_name"] "_law_error" (defScope sErr) f cdv A outer s H E)) (i := 1) (c := .ref cP) (Wout := fun _ _ _ _ => False) rfl rfl scErr.nd rfl rfl ⟨by rfl, by decide, .inl T.gP⟩ L2.takes0
      (fun W pn xe tk hp => pss_one (ps_expr (show PE ((cxOf CX0 P w K mg base ["_law_call", "e", "_law_kinds", "_law_name"] "_law_error" (defScope sErr) f cdv A outer s H E).tr pn xe) _ (tActM (cxOf CX0 P w K mg base ["_law_call", "e", "_law_kinds", "_law_name"] "_law_error" (defScope sErr) f cdv A outer s H E) j 0 fun σ => WE W σ) from pe_actM (X := (cxOf CX0 P w K mg base ["_law_call", "e", "_law_kinds", "_law_name"] "_law_error" (defScope sErr) f cdv A outer s H E).tr pn xe) (j := j) (i := 0) (E := fun σ => WE W σ) (hr'.mono hjk) rfl (fun σ => passAt tk σ) rfl (.inl rfl))))
      (fun a oe cls d pn hz hf => (pss_cons (ps_set (i := 2) scErr.nd rfl (.inl rfl) (pe_lst (pa_cons (pe_callB (call_isX (X := (cxOf CX0 P w K mg base ["_law_call", "e", "_law_kinds", "_law_name"] "_law_error" (defScope sErr) f cdv A outer s H E)) (pn := pn) K rfl hz hf) (by rfl) T.mI PyProof.Rows.boot_isinstance (pa_cons (pv 1) (pa_cons (pe_glob (v := .ref (cs 0)) (by rfl) T.g0 rfl) pa_nil))) (pa_cons (pe_callB (call_isX (X := (cxOf CX0 P w K mg base ["_law_call", "e", "_law_kinds", "_law_name"] "_law_error" (defScope sErr) f cdv A outer s H E)) (pn := pn) K rfl hz hf) (by rfl) T.mI PyProof.Rows.boot_isinstance (pa_cons (pv 1) (pa_cons (pe_glob (v := .ref (cs 1)) (by rfl) T.g1 rfl) pa_nil))) (pa_cons (pe_callB (call_isX (X := (cxOf CX0 P w K mg base ["_law_call", "e", "_law_kinds", "_law_name"] "_law_error" (defScope sErr) f cdv A outer s H E)) (pn := pn) K rfl hz hf) (by rfl) T.mI PyProof.Rows.boot_isinstance (pa_cons (pv 1) (pa_cons (pe_glob (v := .ref (cs 2)) (by rfl) T.g2 rfl) pa_nil))) pa_nil)))))
        (pss_cons (ps_expr (pe_bmK K rfl (pe_bm PySem.F.plainAttrs_list PySem.F.slot_list_extend PySem.F.type_list_extend mt_extend (pv 2) (pa_cons (pe_lst (pa_cons (pe_callB (call_isX (X := (cxOf CX0 P w K mg base ["_law_call", "e", "_law_kinds", "_law_name"] "_law_error" (defScope sErr) f cdv A outer s H E)) (pn := pn) K rfl hz hf) (by rfl) T.mI PyProof.Rows.boot_isinstance (pa_cons (pv 1) (pa_cons (pe_glob (v := .ref (cs 3)) (by rfl) T.g3 rfl) pa_nil))) (pa_cons (pe_callB (call_isX (X := (cxOf CX0 P w K mg base ["_law_call", "e", "_law_kinds", "_law_name"] "_law_error" (defScope sErr) f cdv A outer s H E)) (pn := pn) K rfl hz hf) (by rfl) T.mI PyProof.Rows.boot_isinstance (pa_cons (pv 1) (pa_cons (pe_glob (v := .ref (cs 4)) (by rfl) T.g4 rfl) pa_nil))) (pa_cons (pe_callB (call_isX (X := (cxOf CX0 P w K mg base ["_law_call", "e", "_law_kinds", "_law_name"] "_law_error" (defScope sErr) f cdv A outer s H E)) (pn := pn) K rfl hz hf) (by rfl) T.mI PyProof.Rows.boot_isinstance (pa_cons (pv 1) (pa_cons (pe_glob (v := .ref (cs 5)) (by rfl) T.g5 rfl) pa_nil))) pa_nil)))) pa_nil))))
        (pss_cons (ps_expr (pe_bmK K rfl (pe_bm PySem.F.plainAttrs_list PySem.F.slot_list_append PySem.F.type_list_append mt_append (pv 2) (pa_cons (pe_callB (call_isX (X := (cxOf CX0 P w K mg base ["_law_call", "e", "_law_kinds", "_law_name"] "_law_error" (defScope sErr) f cdv A outer s H E)) (pn := pn) K rfl hz hf) (by rfl) T.mI PyProof.Rows.boot_isinstance (pa_cons (pv 1) (pa_cons (pe_glob (v := .ref (cs 6)) (by rfl) T.g6 rfl) pa_nil))) pa_nil))))
        (pss_cons (ps_if (PW.pt (pw_or (pt_cmpR op_ne (pe_bmK K rfl (pe_bm PySem.F.plainAttrs_list PySem.F.slot_list_count PySem.F.type_list_count (mt_countK K rfl) (pv 2) (pa_cons pe_bl pa_nil))) pe_int (nomark _)) (pw_or1 (pt_not (pt_val (pe_callB (call_isX (X := (cxOf CX0 P w K mg base ["_law_call", "e", "_law_kinds", "_law_name"] "_law_error" (defScope sErr) f cdv A outer s H E)) (pn := pn) K rfl hz hf) (by rfl) T.mI PyProof.Rows.boot_isinstance (pa_cons (pv 1) (pa_cons (pe_bltn (v := .ty "ValueError") (by rfl) T.mV (by decide +kernel) rfl) pa_nil)))))))) (pss_one (ps_ret (pe_tup (pa_cons pe_str pa_nil)))) pss_nil)
        (pss_cons (ps_set (i := 3) scErr.nd rfl (.inl rfl) (pe_ixlK K rfl (pe_lst (pa_cons pe_str (pa_cons pe_str (pa_cons pe_str (pa_cons pe_str (pa_cons pe_str (pa_cons pe_str (pa_cons pe_str pa_nil)))))))) (pe_bmK K rfl (pe_bm PySem.F.plainAttrs_list PySem.F.slot_list_index PySem.F.type_list_index (mt_indexK K rfl) (pv 2) (pa_cons pe_bl pa_nil)))))
        (pss_cons (ps_if (pt_cmpR op_eq (pv 3) pe_str (nomark _)) (pss_one (ps_ret (pe_tup (pa_cons (pv 3) (pa_cons (pe_xf (X := (cxOf CX0 P w K mg base ["_law_call", "e", "_law_kinds", "_law_name"] "_law_error" (defScope sErr) f cdv A outer s H E)) (pn := pn) K rfl hz hf (pv 1)) (pa_cons (pe_xf (X := (cxOf CX0 P w K mg base ["_law_call", "e", "_law_kinds", "_law_name"] "_law_error" (defScope sErr) f cdv A outer s H E)) (pn := pn) K rfl hz hf (pv 1)) pa_nil)))))) pss_nil)
        (pss_one (ps_ret (pe_ifExp (pt_cmpR (op_inK K rfl) (pv 3) (pe_tup (pa_cons pe_str (pa_cons pe_str (pa_cons pe_str pa_nil)))) (by rfl)) (pe_tup (pa_cons (pv 3) (pa_cons (pe_xf (X := (cxOf CX0 P w K mg base ["_law_call", "e", "_law_kinds", "_law_name"] "_law_error" (defScope sErr) f cdv A outer s H E)) (pn := pn) K rfl hz hf (pv 1)) pa_nil))) (pe_tup (pa_cons (pv 3) pa_nil)))))))))))))
    (pss_one (ps_ret (pe_tup (pa_cons pe_str pa_nil)))), ?_⟩
  refine ⟨fl, tl, _, _, rfl, rfl, hT, h, fun v H1 q => ⟨Nat.le_of_lt (small1000 (show 1 ≤ 1000 by decide)), fun r nr => q r _ (same_new nr) upd_same⟩, fun cls d H1 hc => ?_⟩
  rcases hc with ⟨rfl, dx, pp, i, rfl, hx, q⟩ | ⟨rfl, rfl, q⟩
  · have hdx : ∀ H', Ex H1 H' → ∀ dx', some dx = some dx' → ∃ fs, H' dx' = some (.xd fs) := fun H' e dx' he => by
      cases he
      exact ⟨_, e _ _ hx⟩
    refine ⟨true, T.x1, fun _ a na => ?_, fun z => by cases z⟩
    refine q_asgL (el_lst (ea_cons (ev_isX (c := .ref (cs 0)) (cv := .ref (cs 0)) rfl T.e1 (fun _ r => r) (T.k1 0 (by decide)) (hdx _ (Ex.refl _)) rfl) (ea_cons (ev_isX (c := .ref (cs 1)) (cv := .ref (cs 1)) rfl T.e1 (fun _ r => r) (T.k1 1 (by decide)) (hdx _ (Ex.refl _)) rfl) (ea_cons (ev_isX (c := .ref (cs 2)) (cv := .ref (cs 2)) rfl T.e1 (fun _ r => r) (T.k1 2 (by decide)) (hdx _ (Ex.refl _)) rfl) ea_nil))) (by decide)) fun D H2 nD e2 hD => ?_
    refine ⟨.ref D, rfl, .inl ⟨rfl, _, SqL.of hD⟩, ?_⟩
    refine (el_lst (ea_cons (ev_isX (c := .ref (cs 3)) (cv := .ref (cs 3)) rfl T.e1 (fun _ r => r) (T.k1 3 (by decide)) (hdx _ (e2)) rfl) (ea_cons (ev_isX (c := .ref (cs 4)) (cv := .ref (cs 4)) rfl T.e1 (fun _ r => r) (T.k1 4 (by decide)) (hdx _ (e2)) rfl) (ea_cons (ev_isX (c := .ref (cs 5)) (cv := .ref (cs 5)) rfl T.e1 (fun _ r => r) (T.k1 5 (by decide)) (hdx _ (e2)) rfl) ea_nil))) (by decide)) H2 (Ex.refl _) _ fun p H3 np e3 hp => ?_
    refine ⟨D, p, _, _, rfl, rfl, e3 _ _ hD, hp, Nat.le_of_lt (small1000 (show 6 ≤ 1000 by decide)), ?_⟩
    have e4 : Ex H1 (upd H3 D (.lst ([V.bl (decide (0 = 1)), V.bl (decide (1 = 1)), V.bl (decide (2 = 1))] ++ [V.bl (decide (3 = 1)), V.bl (decide (4 = 1)), V.bl (decide (5 = 1))]))) := Ex.mut (e2.trans e3) nD
    refine ⟨.ref D, rfl, .inl ⟨rfl, _, SqL.of upd_same⟩, ?_⟩
    refine (ev_isX (c := .ref (cs 6)) (cv := .ref (cs 6)) rfl T.e1 (fun _ r => r) (T.k1 6 (by decide)) (hdx _ (e4)) rfl) _ (Ex.refl _) _ fun H5 e5 => ?_
    refine ⟨D, _, _, rfl, rfl, e5 _ _ upd_same, small1000 (show 6 ≤ 1000 by decide), ?_⟩
    have e6 : Ex H1 (upd H5 D (.lst (([V.bl (decide (0 = 1)), V.bl (decide (1 = 1)), V.bl (decide (2 = 1))] ++ [V.bl (decide (3 = 1)), V.bl (decide (4 = 1)), V.bl (decide (5 = 1))]) ++ [V.bl (decide (6 = 1))]))) := Ex.mut (e4.trans e5) nD
    have h6 : (upd H5 D (.lst (([V.bl (decide (0 = 1)), V.bl (decide (1 = 1)), V.bl (decide (2 = 1))] ++ [V.bl (decide (3 = 1)), V.bl (decide (4 = 1)), V.bl (decide (5 = 1))]) ++ [V.bl (decide (6 = 1))]))) D = some (.lst [V.bl (decide (0 = 1)), V.bl (decide (1 = 1)), V.bl (decide (2 = 1)), V.bl (decide (3 = 1)), V.bl (decide (4 = 1)), V.bl (decide (5 = 1)), V.bl (decide (6 = 1))]) := upd_same
    revert e6 h6
    generalize (upd H5 D (.lst (([V.bl (decide (0 = 1)), V.bl (decide (1 = 1)), V.bl (decide (2 = 1))] ++ [V.bl (decide (3 = 1)), V.bl (decide (4 = 1)), V.bl (decide (5 = 1))]) ++ [V.bl (decide (6 = 1))]))) = H6
    intro e6 h6
    dsimp only
    refine q_when (b := false) (et_is (et_or (a := false) (et_is (et_test (ev_op (ev_cnt rfl h6 rfl) ev_c (rv_ne rfl))) (by decide +kernel)) fun _ => et_not (et_B (ev_isX (c := .ty "ValueError") (cv := .type "ValueError") rfl T.e1 (fun _ r => r) T.v1 (hdx _ e6) rfl))) rfl) (fun z => by cases z) fun _ H7 e7 => ?_
    refine q_asg (v := .str "travel") (ev_opL1 (y := .int ((1 : Nat) : Int)) (el_lst (ea_cons ev_c (ea_cons ev_c (ea_cons ev_c (ea_cons ev_c (ea_cons ev_c (ea_cons ev_c (ea_cons ev_c ea_nil))))))) (by decide)) (fun H8 e8 => ev_idx (z := .bl true) rfl ((e7.trans e8) _ _ h6) rfl rfl rfl (fun m z hm hz => by
        rcases m with _ | m
        · cases hz
          rfl
        · omega)) fun p8 H8 h8 _ => rv_ixL (SqL.of h8) rfl) fun H9 e9 => ?_
    refine q_when (b := true) (et_is (et_test (ev_op (ev_var rfl) ev_c (rv_eq rfl))) (by decide +kernel)) (fun _ H10 e10 => ?_) (fun z => by cases z)
    exact ⟨_, rfl, cs 1, rfl, T.f1, T.p1, .ref a, rfl, rfl, rfl, dx, _, _, rfl, (((e6.trans e7).trans e9).trans e10) _ _ hx, rfl, cs 1, rfl, T.f1, T.n1, .ref a, rfl, rfl, rfl, dx, _, _, rfl, (((e6.trans e7).trans e9).trans e10) _ _ hx, rfl, Nat.le_of_lt (small1000 (show 3 ≤ 1000 by decide)), fun r nr => q r _ (Same.trans (((e6.trans e7).trans e9).trans e10) (same_new nr)) upd_same⟩
  · have hdx : ∀ H', Ex H1 H' → ∀ dx', (none : Option Addr) = some dx' → ∃ fs, H' dx' = some (.xd fs) := fun H' e dx' he => by cases he
    refine ⟨true, T.x2, fun _ a na => ?_, fun z => by cases z⟩
    refine q_asgL (el_lst (ea_cons (ev_isX (c := .ref (cs 0)) (cv := .ref (cs 0)) rfl T.e2 (fun _ r => r) (T.k2 0 (by decide)) (hdx _ (Ex.refl _)) rfl) (ea_cons (ev_isX (c := .ref (cs 1)) (cv := .ref (cs 1)) rfl T.e2 (fun _ r => r) (T.k2 1 (by decide)) (hdx _ (Ex.refl _)) rfl) (ea_cons (ev_isX (c := .ref (cs 2)) (cv := .ref (cs 2)) rfl T.e2 (fun _ r => r) (T.k2 2 (by decide)) (hdx _ (Ex.refl _)) rfl) ea_nil))) (by decide)) fun D H2 nD e2 hD => ?_
    refine ⟨.ref D, rfl, .inl ⟨rfl, _, SqL.of hD⟩, ?_⟩
    refine (el_lst (ea_cons (ev_isX (c := .ref (cs 3)) (cv := .ref (cs 3)) rfl T.e2 (fun _ r => r) (T.k2 3 (by decide)) (hdx _ (e2)) rfl) (ea_cons (ev_isX (c := .ref (cs 4)) (cv := .ref (cs 4)) rfl T.e2 (fun _ r => r) (T.k2 4 (by decide)) (hdx _ (e2)) rfl) (ea_cons (ev_isX (c := .ref (cs 5)) (cv := .ref (cs 5)) rfl T.e2 (fun _ r => r) (T.k2 5 (by decide)) (hdx _ (e2)) rfl) ea_nil))) (by decide)) H2 (Ex.refl _) _ fun p H3 np e3 hp => ?_
    refine ⟨D, p, _, _, rfl, rfl, e3 _ _ hD, hp, Nat.le_of_lt (small1000 (show 6 ≤ 1000 by decide)), ?_⟩
    have e4 : Ex H1 (upd H3 D (.lst ([V.bl (decide (0 = 2)), V.bl (decide (1 = 2)), V.bl (decide (2 = 2))] ++ [V.bl (decide (3 = 2)), V.bl (decide (4 = 2)), V.bl (decide (5 = 2))]))) := Ex.mut (e2.trans e3) nD
    refine ⟨.ref D, rfl, .inl ⟨rfl, _, SqL.of upd_same⟩, ?_⟩
    refine (ev_isX (c := .ref (cs 6)) (cv := .ref (cs 6)) rfl T.e2 (fun _ r => r) (T.k2 6 (by decide)) (hdx _ (e4)) rfl) _ (Ex.refl _) _ fun H5 e5 => ?_
    refine ⟨D, _, _, rfl, rfl, e5 _ _ upd_same, small1000 (show 6 ≤ 1000 by decide), ?_⟩
    have e6 : Ex H1 (upd H5 D (.lst (([V.bl (decide (0 = 2)), V.bl (decide (1 = 2)), V.bl (decide (2 = 2))] ++ [V.bl (decide (3 = 2)), V.bl (decide (4 = 2)), V.bl (decide (5 = 2))]) ++ [V.bl (decide (6 = 2))]))) := Ex.mut (e4.trans e5) nD
    have h6 : (upd H5 D (.lst (([V.bl (decide (0 = 2)), V.bl (decide (1 = 2)), V.bl (decide (2 = 2))] ++ [V.bl (decide (3 = 2)), V.bl (decide (4 = 2)), V.bl (decide (5 = 2))]) ++ [V.bl (decide (6 = 2))]))) D = some (.lst [V.bl (decide (0 = 2)), V.bl (decide (1 = 2)), V.bl (decide (2 = 2)), V.bl (decide (3 = 2)), V.bl (decide (4 = 2)), V.bl (decide (5 = 2)), V.bl (decide (6 = 2))]) := upd_same
    revert e6 h6
    generalize (upd H5 D (.lst (([V.bl (decide (0 = 2)), V.bl (decide (1 = 2)), V.bl (decide (2 = 2))] ++ [V.bl (decide (3 = 2)), V.bl (decide (4 = 2)), V.bl (decide (5 = 2))]) ++ [V.bl (decide (6 = 2))]))) = H6
    intro e6 h6
    dsimp only
    refine q_when (b := false) (et_is (et_or (a := false) (et_is (et_test (ev_op (ev_cnt rfl h6 rfl) ev_c (rv_ne rfl))) (by decide +kernel)) fun _ => et_not (et_B (ev_isX (c := .ty "ValueError") (cv := .type "ValueError") rfl T.e2 (fun _ r => r) T.v2 (hdx _ e6) rfl))) rfl) (fun z => by cases z) fun _ H7 e7 => ?_
    refine q_asg (v := .str "count") (ev_opL1 (y := .int ((2 : Nat) : Int)) (el_lst (ea_cons ev_c (ea_cons ev_c (ea_cons ev_c (ea_cons ev_c (ea_cons ev_c (ea_cons ev_c (ea_cons ev_c ea_nil))))))) (by decide)) (fun H8 e8 => ev_idx (z := .bl true) rfl ((e7.trans e8) _ _ h6) rfl rfl rfl (fun m z hm hz => by
        rcases m with _ | _ | m
        · cases hz
          rfl
        · cases hz
          rfl
        · omega)) fun p8 H8 h8 _ => rv_ixL (SqL.of h8) rfl) fun H9 e9 => ?_
    refine q_when (b := false) (et_is (et_test (ev_op (ev_var rfl) ev_c (rv_eq rfl))) (by decide +kernel)) (fun z => by cases z) fun _ H10 e10 => ?_
    refine s_retIf (b := false) (et_is (et_test (ev_inU (ev_var rfl) (eu_tup (ea_cons ev_c (ea_cons ev_c (ea_cons ev_c ea_nil))) (by decide)) rfl rfl)) (by decide +kernel)) (fun z => by cases z) (fun _ H11 e11 => ?_)
    exact ⟨_, rfl, Nat.le_of_lt (small1000 (show 1 ≤ 1000 by decide)), fun r nr => q r _ (Same.trans ((((e6.trans e7).trans e9).trans e10).trans e11) (same_new nr)) upd_same⟩
end
end Sea

set_option Elab.async false
set_option linter.all false
set_option maxRecDepth 100000
set_option maxHeartbeats 4000000
namespace Sea
open PySem PySem.Spec PyProof.Rows L2 LamX NdefX ClX Evl StX
abbrev sIV : Stmt := inClass (top 4) 0
abbrev sVC : Stmt := top 11
abbrev sVN : Stmt := top 17
theorem scIV : FnScope ["self", "part", "index"] ["self", "part", "index"] (defScope sIV) := ⟨rfl, rfl, rfl, by decide +kernel, rfl, by decide +kernel, by decide +kernel⟩
theorem scVC : FnScope ["count", "smallest", "largest"] ["count", "smallest", "largest"] (defScope sVC) := ⟨rfl, rfl, rfl, by decide +kernel, rfl, by decide +kernel, by decide +kernel⟩
theorem scVN : FnScope ["part", "numbers", "largest", "most", "index", "number"] ["part", "numbers", "largest", "most"] (defScope sVN) := ⟨rfl, rfl, rfl, by decide +kernel, rfl, by decide +kernel, by decide +kernel⟩
/-- errors of the package, as the travel's code raises them -/
structure TEv (K : PySem.W.Frag) (mg : Str → Option Value) (cV cN cP fV : Addr) (fdV : FuncData) (mp : Value) : Prop where
  xV : OexC K cV
  nP : PySem.W.findIn K (.ref cV) "part" = some none
  nI : PySem.W.findIn K (.ref cV) "index" = some none
  gV : mg "InvalidTravel" = some (.ref cV)
  iV : PySem.W.findIn K (.ref cV) "__init__" = some (some (.ref fV))
  tV : PySem.W.typeIn K (.ref fV) = some (.type "function")
  fu : Fun K "__init__" "InvalidTravel.__init__" sIV fV fdV
  pI : PIn K mg "PassError" cP mp
  qN : PySem.W.excIn K cN [.type "ValueError", .type "Exception", .type "BaseException", .type "object"] "ValueError.__new__" = true
  gN : mg "InvalidCount" = some (.ref cN)
  kN : PySem.W.keepIn K (.ref cN) = true
  sN : PySem.W.subIn K (.ref cN) (.type "BaseException") = some true
  yN : PySem.W.typeIn K (.ref cN) = some (.type "type")
/-- a tuple of whole numbers -/
def TiA (K : PySem.W.Frag) (H : Hp) (v : V) (ns : List Int) : Prop := ∃ a, v = .ref a ∧ SqT K H a (ns.map V.int)
theorem TiA.tk {K : PySem.W.Frag} {H H' : Hp} {v : V} {ns : List Int} (t : TK K H H') (h : TiA K H v ns) : TiA K H' v ns := by
  obtain ⟨a, e, h⟩ := h
  exact ⟨a, e, t _ _ h⟩
theorem mk2_in {K : PySem.W.Frag} {H1 : Hp} {Q : XK} {f g : Str} {y z : V} {c : Addr} (T : OexC K c) (n : PySem.W.findIn K (.ref c) f = some none) (n2 : PySem.W.findIn K (.ref c) g = some none) (h : ∀ d, H1 d = none → Q (.ref c) (some d) (upd H1 d (.xd [(g, z), (f, y)]))) :
    [y, z].length = 2 ∧ ∀ a, H1 a = none → spX2 K f g ([.ref a] ++ [y, z]) (upd H1 a (exo a c none)) (fun v H2 => v = .non ∧ ∃ (d : Addr) (fs : List (Str × V)), H2 a = some (exo a c (some d)) ∧ H2 d = some (exd d fs) ∧ H1 d = none ∧ Q (.ref c) (some d) (upd (del H2 a) d (.xd fs))) (fun _ _ _ => False) := by
  refine ⟨rfl, fun a ha => ⟨a, c, y, z, rfl, T, n, n2, upd_same, fun dx h1 h2 => ?_⟩⟩
  rw [upd_ne h2] at h1
  refine ⟨rfl, dx, _, by rw [upd_ne h2.symm, upd_same], upd_same, h1, ?_⟩
  have e : upd (del (upd (upd (upd (upd H1 a (exo a c none)) dx (exd dx [(f, y)])) a (exo a c (some dx))) dx (exd dx [(g, z), (f, y)])) a) dx (.xd [(g, z), (f, y)]) = upd H1 dx (.xd [(g, z), (f, y)]) := by
    funext b
    by_cases hb : b = dx
    · subst hb
      rw [upd_same, upd_same]
    · rw [upd_ne hb, upd_ne hb]
      by_cases hba : b = a
      · subst hba
        rw [del_same, ha]
      · rw [del_ne hba, upd_ne hb, upd_ne hba, upd_ne hb, upd_ne hba]
  rw [e]
  exact h dx h1
/-- the first of 0 .. n - 1 of which p holds -/
def first (p : Nat → Bool) (n : Nat) : Option Nat := (List.range n).find? p
theorem first_succ (p : Nat → Bool) (n : Nat) : first p (n + 1) = (first p n).or (if p n = true then some n else none) := by
  unfold first
  rw [List.range_succ, List.find?_append, List.find?_cons]
  cases p n <;> rfl
theorem first_none {p : Nat → Bool} : ∀ {n : Nat}, (∀ j, j < n → p j = false) → first p n = none
  | 0, _ => rfl
  | n + 1, h => by
    rw [first_succ, first_none fun j hj => h j (by omega), h n (by omega)]
    rfl
theorem first_at {p : Nat → Bool} {i : Nat} (hp : p i = true) (hb : ∀ j, j < i → p j = false) : ∀ {n : Nat}, i < n → first p n = some i
  | 0, h => absurd h (Nat.not_lt_zero _)
  | n + 1, h => by
    rw [first_succ]
    by_cases e : i < n
    · rw [first_at hp hb e]
      rfl
    · obtain rfl : i = n := by omega
      rw [first_none hb, hp]
      rfl
/-- what is wrong with the i-th number -/
def nbad (ns : List Int) (lg mo : Int) (i : Nat) : Bool := decide (V.int ((i : Nat) : Int) = V.int mo) || (!(decide (0 ≤ ns.getD i 0) && decide (ns.getD i 0 ≤ lg)) || (decide ((0 : Int) < (i : Nat)) && decide (ns.getD i 0 ≤ ns.getD (i - 1) 0)))
def vbad (ns : List Int) (lg mo : Int) : Option Nat := first (nbad ns lg mo) ns.length
def spVC (cN : Addr) : Sp := fun vs H Q E => ∃ c s l : Int, vs = [.int c, .int s, .int l] ∧ (s ≤ c ∧ c ≤ l → ∀ H', Same H H' → Q .non H') ∧ (¬ (s ≤ c ∧ c ≤ l) → ∀ H', Same H H' → E (.ref cN) none H')
def spVN (K : PySem.W.Frag) (cV : Addr) : Sp := fun vs H Q E => ∃ (pt : Str) (v : V) (ns : List Int) (lg mo : Int), vs = [.str pt, v, .int lg, .int mo] ∧ TiA K H v ns ∧ ns.length ≤ 1000 ∧ (vbad ns lg mo = none → ∀ H', Same H H' → Q .non H') ∧
  (∀ i d H', vbad ns lg mo = some i → Same H H' → H' d = some (.xd [("index", .int (i : Nat)), ("part", .str pt)]) → E (.ref cV) (some d) H')
section
variable {P : Program} {w : World} {K : PySem.W.Frag} {mg : Str → Option Value} {base : Heap} {cV cN cP fV : Addr} {fdV : FuncData} {mp : Value}
theorem ok_IV {k : Nat} (T : TEv K mg cV cN cP fV fdV mp) : FnOk P w K mg base CX0 (k + 1) fV fdV ["self", "part", "index"] (spX2 K "part" "index") := by
  refine T.fu.ok scIV (fun vs H Q E h => ?_) (fun cdv A outer s H vs Q E hr h => ?_)
  · obtain ⟨a, C', y, z, rfl, _⟩ := h
    rfl
  · obtain ⟨a, C', y, z, rfl, hx, hf, hg, ha, q⟩ := h
    refine ⟨_, pss_cons (ps_expr (pe_pinit (by rfl) T.pI.gB T.pI.rd T.pI.ga T.pI.at_ (pa_cons (pv 0) (pa_cons pe_str pa_nil)))) (pss_cons (ps_ost (pv 0) (pv 1)) (pss_one (ps_ost (pv 0) (pv 2)))), ?_⟩
    refine ⟨_, rfl, a, C', _, rfl, show 1 ≤ 1000 by decide, hx, ha, _, rfl, _, rfl, a, C', rfl, hx, hf, .inl ⟨ha, fun dx h1 h2 => ⟨_, rfl, _, rfl, a, C', rfl, hx, hg, .inr ⟨dx, [("part", y)], upd_same, by rw [upd_ne h2, upd_same], show 1 ≤ 900 by decide, ?_⟩⟩⟩⟩
    exact q dx h1 h2
theorem kb_IV (T : TEv K mg cV cN cP fV fdV mp) : KBn K fdV ["self", "part", "index"] 1 ["part", "index"] (fun us ws => us ++ ws) (fun vs zs => vs ++ zs) := by
  obtain ⟨oc, od, kV, doc, pm, an, cdv, ct, osl, rfl, lk, hcd⟩ := T.fu.ex
  refine ⟨fun s us ws _ h1 h2 => ?_, fun a b => a.append b⟩
  match us, ws, h1, h2 with
  | [u], [x, y], _, _ => exact .of_eq rfl
theorem ok_vc {f : Addr} {fd : FuncData} {k : Nat} (F : Fun K "validate_count" "validate_count" sVC f fd) (T : TEv K mg cV cN cP fV fdV mp) : FnOk P w K mg base (L2.CX P w) (k + 1) f fd ["count", "smallest", "largest"] (spVC cN) := by
  refine F.okX scVC (fun vs H Q E h => ?_) (fun cdv A outer s H vs Q E hr h => ?_)
  · obtain ⟨c, x, l, rfl, _⟩ := h
    rfl
  · obtain ⟨c, x, l, rfl, q1, q2⟩ := h
    refine ⟨_, pss_one (ps_if (pt_not (pt_chain op_le op_le (pv 1) (pv 0) (pv 2))) (pss_one (ps_raise rfl (takes_of rfl rfl rfl rfl) (pmk_own PySem.F.excBase_ValueError T.qN T.gN T.kN (raises_own T.sN T.yN) (by rfl)))) pss_nil), ?_⟩
    refine s_when (b := !(decide (x ≤ c) && decide (c ≤ l))) (et_not (et_test (ev_chainI (p := fun i j => decide (i ≤ j)) (q := fun i j => decide (i ≤ j)) (ev_var rfl) (ev_var rfl) (ev_var rfl)))) (fun hb H1 e1 => q2 (fun hc => ?_) H1 e1) (fun hb H1 e1 => q1 ?_ H1 e1)
    · rw [decide_eq_true hc.1, decide_eq_true hc.2] at hb
      cases hb
    · have : (decide (x ≤ c) && decide (c ≤ l)) = true := by
        cases h : (decide (x ≤ c) && decide (c ≤ l)) with
        | true => rfl
        | false =>
          rw [h] at hb
          cases hb
      rw [Bool.and_eq_true] at this
      exact ⟨of_decide_eq_true this.1, of_decide_eq_true this.2⟩
theorem ok_vn {f : Addr} {fd : FuncData} {k : Nat} (F : Fun K "validate_numbers" "validate_numbers" sVN f fd) (T : TEv K mg cV cN cP fV fdV mp) (mE : mg "enumerate" = none) : FnOk P w K mg base (L2.CX P w) (k + 4) f fd ["part", "numbers", "largest", "most"] (spVN K cV) := by
  have GI : FnOk P w K mg base CX0 1 fV fdV ["self", "part", "index"] (spX2 K "part" "index") := ok_IV T
  have kb := kb_IV T
  refine F.okX scVN (fun vs H Q E h => ?_) (fun cdv A outer s H vs Q E hr h => ?_)
  · obtain ⟨pt, v, ns, lg, mo, rfl, _⟩ := h
    rfl
  · obtain ⟨pt, v, ns, lg, mo, rfl, ⟨p, rfl, hp⟩, hlen, q1, q2⟩ := h
    refine ⟨_, pss_one (ps_for (passes_of rfl) rfl (pi_enumT (by rfl) mE (pa_cons (pv 1) pa_nil)) (pg_tup rfl (pgs_cons (pg_name (i := 4) scVN.nd rfl (.inl rfl)) (pgs_cons (pg_name (i := 5) scVN.nd rfl (.inl rfl)) pgs_nil)))
      (pss_one (ps_if (PW.pt (pw_or (pt_cmpR op_eq (pv 4) (pv 3) (nomark _)) (pw_or (pt_not (pt_chain op_le op_le pe_int (pv 5) (pv 2))) (pw_or1 (PW.pt (pw_and (pt_cmpR op_gt (pv 4) pe_int (nomark _)) (pw_and1 (pt_cmpR op_le (pv 5) (pe_ixt (pv 1) (pe_op op_sub (pv 4) pe_int)) (nomark _)))))))))
        (pss_one (ps_raise rfl (takes_of rfl rfl rfl rfl) (pmk_kw T.xV T.iV T.tV GI (hr.mono (by omega)) kb pass0 (by rfl) T.gV (pk_cons (pv 0) (pk_cons (pv 4) pk_nil))))) pss_nil))), ?_⟩
    have hll : (ns.map V.int).length = ns.length := List.length_map ..
    refine ⟨_, rfl, p, _, rfl, hp, for_rounds (I := IteT K p (ns.map V.int)) (ns.map V.int).length (fun i σ H' => ∃ v4 v5, σ = [some (.str pt), some (.ref p), some (.int lg), some (.int mo), v4, v5] ∧ Same H H' ∧ ∀ j, j < i → nbad ns lg mo j = false)
      ⟨none, none, rfl, Same.refl H, fun j hj => absurd hj (Nat.not_lt_zero _)⟩ ?_ ?_⟩
    · rintro i σ H' hi ⟨v4, v5, rfl, sm, hall⟩
      refine ⟨⟨hi, (TK.same sm) _ _ hp⟩, ?_⟩
      rintro y HT ⟨x, TT, hx, nT, rfl, rfl⟩
      rw [hll] at hi
      obtain rfl : x = .int ns[i] := by
        rw [List.getElem?_map, List.getElem?_eq_getElem hi] at hx
        exact (Option.some.inj hx).symm
      have sT : Same H' (upd H' TT (.tup [.int (i : Nat), .int ns[i]])) := same_new nT
      have hp2 := (TK.same (sm.trans sT)) _ _ hp
      have gi : ns.getD i 0 = ns[i] := by rw [List.getD_eq_getElem?_getD, List.getElem?_eq_getElem hi]; rfl
      refine ⟨TT, _, rfl, .of upd_same, rfl, _, _, rfl, _, _, rfl, rfl, ?_⟩
      refine s_when (b := nbad ns lg mo i) ?_ (fun hb H2 e2 => ?_) (fun hb H2 e2 => ⟨_, _, rfl, (sm.trans sT).trans e2, fun j hj => ?_⟩)
      · unfold nbad
        rw [gi]
        refine et_or (et_test (ev_op (ev_var rfl) (ev_var rfl) (rv_eq rfl))) fun _ => et_or (et_not (et_test (ev_chainI (p := fun i j => decide (i ≤ j)) (q := fun i j => decide (i ≤ j)) ev_c (ev_var rfl) (ev_var rfl)))) fun _ => et_and (et_test (ev_op (ev_var rfl) ev_c rv_I0)) fun h0 => ?_
        have h0' : 0 < i := by
          have := of_decide_eq_true h0
          omega
        have hi1 : i - 1 < ns.length := by omega
        have g1 : ns.getD (i - 1) 0 = ns[i - 1] := by rw [List.getD_eq_getElem?_getD, List.getElem?_eq_getElem hi1]; rfl
        rw [g1]
        have ha : atI (ns.map V.int) (((i : Nat) : Int) - 1) = some (.int ns[i - 1]) := by
          rw [show ((i : Nat) : Int) - 1 = ((i - 1 : Nat) : Int) by omega]
          refine at_nat (by rw [hll]; exact hi1) ?_
          rw [List.getElem?_map, List.getElem?_eq_getElem hi1]
          rfl
        exact et_test (ev_op (ev_var rfl) (ev_op (ev_var rfl) (ev_op (ev_var rfl) ev_c rv_I0) (rv_ixT hp2 ha)) rv_I0)
      · refine ⟨_, rfl, _, rfl, mk2_in T.xV T.nP T.nI fun d hd => q2 i d _ ?_ (((sm.trans sT).trans e2).trans (same_new hd)) upd_same⟩
        exact first_at hb hall hi
      · by_cases hji : j < i
        · exact hall j hji
        · obtain rfl : j = i := by omega
          exact hb
    · rintro σ H' ⟨v4, v5, rfl, sm, hall⟩
      refine ⟨⟨rfl, (TK.same sm) _ _ hp⟩, ?_⟩
      rw [hll] at hall
      exact q1 (first_none hall) H' sm
end
end Sea

set_option Elab.async false
set_option linter.all false
set_option maxRecDepth 100000
set_option maxHeartbeats 4000000
namespace Sea
open PySem PySem.Spec PyProof.Rows L2 LamX NdefX ClX Evl StX
abbrev sTrv : Stmt := top 27
abbrev sBad : Stmt := top 28
theorem scTrv : FnScope ["_law_pattern_here", "_law_odd_here", "_law_day"] ["_law_pattern_here", "_law_odd_here", "_law_day"] (defScope sTrv) := ⟨rfl, rfl, rfl, by decide +kernel, rfl, by decide +kernel, by decide +kernel⟩
theorem scBad : FnScope ["_law_numbers", "_law_largest", "_law_most", "_law_k"] ["_law_numbers", "_law_largest", "_law_most"] (defScope sBad) := ⟨rfl, rfl, rfl, by decide +kernel, rfl, by decide +kernel, by decide +kernel⟩
def opV : Option Nat → V
  | none => .non
  | some i => .int (i : Nat)
def spBad (K : PySem.W.Frag) : Sp := fun vs H Q _ => ∃ (v : V) (ns : List Int) (lg mo : Int), vs = [v, .int lg, .int mo] ∧ TiA K H v ns ∧ ns.length ≤ 1000 ∧ ∀ H', Same H H' → Q (opV (vbad ns lg mo)) H'
/-- a day of travel, as the code says it -/
def trv (ln : Int) (ds os : List Int) (day : Int) : Bool := !decide (V.bl (inV (.int (day.fmod ln)) (ds.map V.int)) = V.bl (inV (.int day) (os.map V.int)))
/-- (length, days) -/
def PtA (K : PySem.W.Frag) (H : Hp) (v : V) (ln : Int) (ds : List Int) : Prop := ∃ a d, v = .ref a ∧ SqT K H a [.int ln, d] ∧ TiA K H d ds
def spTrv (K : PySem.W.Frag) : Sp := fun vs H Q _ => ∃ (v u : V) (ln day : Int) (ds os : List Int), vs = [v, u, .int day] ∧ PtA K H v ln ds ∧ TiA K H u os ∧ ln ≠ 0 ∧ ∀ H', Same H H' → Q (.bl (trv ln ds os day)) H'
theorem flat_ints : ∀ ns : List Int, (ns.map V.int).all flatV = true
  | [] => rfl
  | _ :: r => flat_ints r
section
variable {P : Program} {w : World} {K : PySem.W.Frag} {mg : Str → Option Value} {base : Heap}
theorem ok_trv {f : Addr} {fd : FuncData} {k : Nat} (F : Fun K "_law_travels" "_law_travels" sTrv f fd) : FnOk P w K mg base CX0 (k + 1) f fd ["_law_pattern_here", "_law_odd_here", "_law_day"] (spTrv K) := by
  refine F.ok scTrv (fun vs H Q E h => ?_) (fun cdv A outer s H vs Q E hr h => ?_)
  · obtain ⟨v, u, ln, day, ds, os, rfl, _⟩ := h
    rfl
  · obtain ⟨v, u, ln, day, ds, os, rfl, ⟨a, d, rfl, ha, b, rfl, hb⟩, ⟨c, rfl, hc⟩, hn, q⟩ := h
    refine ⟨_, pss_one (ps_ret (pe_cmpR op_ne (pe_cmpR op_in_seq (pe_op op_modN (pv 2) (pe_ixt (pv 0) pe_int)) (pe_ixt (pv 0) pe_int) (by rfl)) (pe_cmpR op_in_seq (pv 2) (pv 1) (by rfl)) (nomark _))), ?_⟩
    exact s_ret (ev_op (ev_op (ev_op (ev_var rfl) (ev_op (ev_var rfl) ev_c (rv_ixT ha rfl)) (rv_I hn)) (ev_op (ev_var rfl) ev_c (rv_ixT ha rfl)) (rv_isT hb rfl (flat_ints _))) (ev_op (ev_var rfl) (ev_var rfl) (rv_isT hc rfl (flat_ints _))) (rv_ne rfl)) fun H1 e1 => q H1 e1
theorem ok_bad {f : Addr} {fd : FuncData} {k : Nat} (F : Fun K "_law_bad" "_law_bad" sBad f fd) (mN : mg "len" = none) (mR : mg "range" = none) : FnOk P w K mg base CX0 (k + 1) f fd ["_law_numbers", "_law_largest", "_law_most"] (spBad K) := by
  refine F.ok scBad (fun vs H Q E h => ?_) (fun cdv A outer s H vs Q E hr h => ?_)
  · obtain ⟨v, ns, lg, mo, rfl, _⟩ := h
    rfl
  · obtain ⟨v, ns, lg, mo, rfl, ⟨p, rfl, hp⟩, hlen, q⟩ := h
    have hll : (ns.map V.int).length = ns.length := List.length_map ..
    refine ⟨_, pss_cons (ps_for PassesOwn.never rfl (pi_range1 (by rfl) mR (pa_cons (pe_callB call_len_seq (by rfl) mN PySem.boot_len (pa_cons (pv 0) pa_nil)) pa_nil)) (pg_name (i := 3) scBad.nd rfl (.inl rfl))
        (pss_one (ps_if (PW.pt (pw_or (pt_cmpR op_eq (pv 3) (pv 2) (nomark _)) (pw_or (pt_not (pt_chain op_le op_le pe_int (pe_ixt (pv 0) (pv 3)) (pv 1))) (pw_or1 (PW.pt (pw_and (pt_cmpR op_gt (pv 3) pe_int (nomark _)) (pw_and1 (pt_cmpR op_le (pe_ixt (pv 0) (pv 3)) (pe_ixt (pv 0) (pe_op op_sub (pv 3) pe_int)) (nomark _)))))))))
          (pss_one (ps_ret (pv 3))) pss_nil))) (pss_one (ps_ret pe_non)), ?_⟩
    have eN : EvA (tCons (tCB (fun xs H Q => ∃ p ys, xs = [V.ref p] ∧ (SqL K H p ys ∨ SqT K H p ys) ∧ Q (.int ys.length) H) (tCons (tVar 0) tNil)) tNil) (L2.start ["_law_numbers", "_law_largest", "_law_most", "_law_k"] [.ref p, .int lg, .int mo]) H [.int ((ns.length : Nat) : Int)] := ea_cons (ev_is (ev_lenT rfl hp) (by rw [hll])) ea_nil
    refine s_forR1 (D := { nx := _, rt := Q }) (n := ((ns.length : Nat) : Int)) eN ⟨by omega, by omega⟩ (fun i σ H' => ∃ v3, σ = [some (.ref p), some (.int lg), some (.int mo), v3] ∧ Same H H' ∧ ∀ j, j < i → nbad ns lg mo j = false) (fun H1 e1 => ⟨none, rfl, e1, fun j hj => absurd hj (Nat.not_lt_zero _)⟩) ?_ ?_
    · rintro i σ H' hi ⟨v3, rfl, sm, hall⟩
      have hi' : i < ns.length := by omega
      have hp2 := (TK.same sm) _ _ hp
      have gi : ns.getD i 0 = ns[i] := by rw [List.getD_eq_getElem?_getD, List.getElem?_eq_getElem hi']; rfl
      have ai : atI (ns.map V.int) ((i : Nat) : Int) = some (.int ns[i]) := at_nat (by rw [hll]; exact hi') (by rw [List.getElem?_map, List.getElem?_eq_getElem hi']; rfl)
      refine s_when (b := nbad ns lg mo i) ?_ (fun hb H2 e2 => s_ret (ev_var rfl) fun H3 e3 => ?_) (fun hb H2 e2 => ⟨_, rfl, Same.trans sm e2, fun j hj => ?_⟩)
      · unfold nbad
        rw [gi]
        refine et_or (et_test (ev_op (ev_var rfl) (ev_var rfl) (rv_eq rfl))) fun _ => et_or (et_not (et_test (ev_chainI (p := fun i j => decide (i ≤ j)) (q := fun i j => decide (i ≤ j)) ev_c (ev_op (ev_var rfl) (ev_var rfl) (rv_ixT hp2 ai)) (ev_var rfl)))) fun _ => et_and (et_test (ev_op (ev_var rfl) ev_c rv_I0)) fun h0 => ?_
        have h0' : 0 < i := by
          have := of_decide_eq_true h0
          omega
        have hi1 : i - 1 < ns.length := by omega
        have g1 : ns.getD (i - 1) 0 = ns[i - 1] := by rw [List.getD_eq_getElem?_getD, List.getElem?_eq_getElem hi1]; rfl
        rw [g1]
        have ha : atI (ns.map V.int) (((i : Nat) : Int) - 1) = some (.int ns[i - 1]) := by
          rw [show ((i : Nat) : Int) - 1 = ((i - 1 : Nat) : Int) by omega]
          exact at_nat (by rw [hll]; exact hi1) (by rw [List.getElem?_map, List.getElem?_eq_getElem hi1]; rfl)
        exact et_test (ev_op (ev_op (ev_var rfl) (ev_var rfl) (rv_ixT hp2 ai)) (ev_op (ev_var rfl) (ev_op (ev_var rfl) ev_c rv_I0) (rv_ixT hp2 ha)) rv_I0)
      · have e : vbad ns lg mo = some i := first_at hb hall hi'
        have z := q H3 (Same.trans (Same.trans sm e2) e3)
        rw [e] at z
        exact z
      · by_cases hji : j < i
        · exact hall j hji
        · obtain rfl : j = i := by omega
          exact hb
    · rintro σ H' ⟨v3, rfl, sm, hall⟩
      have e : vbad ns lg mo = none := first_none (by simpa using hall)
      have z := q H' sm
      rw [e] at z
      exact z
end
end Sea

set_option Elab.async false
set_option linter.all false
set_option maxRecDepth 100000
set_option maxHeartbeats 4000000
namespace Sea
open PySem PySem.Spec PyProof.Rows L2 LamX NdefX ClX Evl StX
abbrev sPat : Stmt := top 25
theorem scPat : FnScope ["_law_h", "_law_most", "_law_length", "_law_day"] ["_law_h", "_law_most"] (defScope sPat) := ⟨rfl, rfl, rfl, by decide +kernel, rfl, by decide +kernel, by decide +kernel⟩
/-- rising numbers from 0 to lg -/
def Good (ns : List Int) (lg : Int) : Prop := ∀ j, j < ns.length → 0 ≤ ns.getD j 0 ∧ ns.getD j 0 ≤ lg ∧ (0 < j → ns.getD (j - 1) 0 < ns.getD j 0)
theorem Good.mono {ns : List Int} {l m : Int} (h : Good ns l) (e : l ≤ m) : Good ns m := fun j hj => ⟨(h j hj).1, Int.le_trans (h j hj).2.1 e, (h j hj).2.2⟩
theorem getD_app1 {ns : List Int} {x : Int} {j : Nat} (h : j < ns.length) : (ns ++ [x]).getD j 0 = ns.getD j 0 := by
  rw [List.getD_eq_getElem?_getD, List.getD_eq_getElem?_getD, List.getElem?_append_left h]
theorem getD_app2 {ns : List Int} {x : Int} : (ns ++ [x]).getD ns.length 0 = x := by
  rw [List.getD_eq_getElem?_getD, List.getElem?_append_right (Nat.le_refl _), Nat.sub_self]
  rfl
theorem Good.snoc {ns : List Int} {x : Int} (h : Good ns (x - 1)) (h0 : 0 ≤ x) : Good (ns ++ [x]) x := fun j hj => by
  rw [List.length_append, List.length_singleton] at hj
  by_cases e : j < ns.length
  · rw [getD_app1 e]
    obtain ⟨a, b, c⟩ := h j e
    refine ⟨a, by omega, fun hp => ?_⟩
    rw [getD_app1 (by omega)]
    exact c hp
  · obtain rfl : j = ns.length := by omega
    rw [getD_app2]
    refine ⟨h0, Int.le_refl _, fun hp => ?_⟩
    rw [getD_app1 (by omega)]
    have := (h (ns.length - 1) (by omega)).2.1
    omega
theorem vbad_good {ns : List Int} {lg mo : Int} (h : Good ns lg) (hl : (ns.length : Int) ≤ mo) : vbad ns lg mo = none := first_none fun j hj => by
  obtain ⟨a, b, c⟩ := h j hj
  unfold nbad
  rw [decide_eq_true a, decide_eq_true b, show decide (V.int ((j : Nat) : Int) = V.int mo) = false from by rw [dec_int]; simp; omega]
  by_cases hp : 0 < j
  · have := c hp
    rw [show decide (ns.getD j 0 ≤ ns.getD (j - 1) 0) = false from decide_eq_false (by omega)]
    simp
  · rw [show decide ((0 : Int) < (j : Nat)) = false from decide_eq_false (by omega)]
    rfl
def spPat (K : PySem.W.Frag) : Sp := fun vs H Q _ => ∃ (h c : Addr) (m : Int), vs = [.ref h, .int m] ∧ 0 < m ∧ m ≤ 100 ∧ Dr H h c ∧ ∀ (v : V) (ln : Int) (ds : List Int) (H' : Hp), PtA K H' v ln ds → 1 ≤ ln → ln ≤ m → Good ds (ln - 1) → (ds.length : Int) ≤ ln → Dr H' h c → Kp h c H H' → Q v H'
section
variable {P : Program} {w : World} {K : PySem.W.Frag} {mg : Str → Option Value} {base : Heap} {fN : Addr} {fdN : FuncData}
theorem ok_pat {f : Addr} {fd : FuncData} {k : Nat} (F : Fun K "_law_pattern" "_law_pattern" sPat f fd) (T : TNx K mg fN fdN) (mR : mg "range" = none) (mT : mg "tuple" = none) : FnOk P w K mg base CX0 (k + 2) f fd ["_law_h", "_law_most"] (spPat K) := by
  refine F.ok scPat (fun vs H Q E h => ?_) (fun cdv A outer s H vs Q E hr h => ?_)
  · obtain ⟨h, c, m, rfl, _⟩ := h
    rfl
  · obtain ⟨h, c, m, rfl, m0, m1, d, q⟩ := h
    have h1 := hr.mono (show 1 ≤ k + 1 by omega)
    have ltb : ∀ {n : Nat}, n ≤ 1000 → n ≤ sizeLine := fun h => Nat.le_of_lt (small1000 h)
    refine ⟨_, pss_cons (ps_set (i := 2) scPat.nd rfl (.inl rfl) (pe_op op_add pe_int (pe_next T h1 (by rfl) (pv 0) (pv 1))))
      (pss_one (ps_ret (pe_tup (pa_cons (pv 2) (pa_cons (pe_callTy call_tuple_of (by rfl) mT (by rfl) (pa_cons (pe_lc (own := [("_law_day", 3)]) (g := gName 3) (by rfl) scPat.nd (pi_range1 (by rfl) mR (pa_cons (pv 2) pa_nil))
        (blkOk_by (own := [("_law_day", 3)]) (N := ["_law_h", "_law_most", "_law_length", "_law_day"]) (sc := defScope sPat) (by decide +kernel)) (fun _ _ _ _ _ => pg_name (i := 3) scPat.nd rfl (Or.inl rfl))
        (fun _ _ _ _ _ => pts_one (pt_cmpR op_gt (pe_next T h1 (by rfl) (pv 0) pe_int) pe_int (nomark _))) (fun _ _ _ _ _ => pv 3)) pa_nil)) pa_nil))))), ?_⟩
    have lm : m.natAbs.log2 < 9000 := Nat.lt_of_le_of_lt (Nat.log2_le_self _) (by omega)
    refine ⟨_, rfl, _, rfl, h, c, m, rfl, m0, lm, d, fun x H1 x0 x1 d1 k1 => ⟨_, _, rfl, rfl, ?_⟩⟩
    refine ⟨_, rfl, _, rfl, 1 + x, rfl, by omega, by omega, fun D nD => ?_⟩
    have nn := d1.nh nD
    refine lc_range (lo := 0) (n := (1 + x).toNat) (fun i H' => ∃ ds : List Int, Dr H' h c ∧ Kp h c H1 H' ∧ H' D = some (.lst (ds.map V.int)) ∧ Good ds ((i : Nat) - 1) ∧ ds.length ≤ i) ⟨[], d1.new nD, Kp.new nD, upd_same, fun j hj => absurd hj (Nat.not_lt_zero _), Nat.le_refl _⟩ ?_ ?_
    · rintro i H' hi ⟨ds, d2, k2, hD, hg, hl⟩
      refine ⟨rfl, _, rfl, h, c, 3, rfl, by decide, by decide, d2, fun y H3 y0 y1 d3 k3 => ⟨_, _, rfl, rfl, _, rfl, ?_⟩⟩
      have hD3 := k3 _ _ hD nn.1 nn.2
      refine ite2 (fun _ => ?_) (fun _ => ⟨ds, d3, k2.trans k3, hD3, hg.mono (by omega), by omega⟩)
      refine ⟨_, rfl, _, hD3, by rw [List.length_map]; exact small1000 (by omega), ds ++ [((i : Nat) : Int)], ?_, ?_, ?_, ?_, ?_⟩
      · obtain ⟨n0, mm, kk, ns, f1, f2, f3⟩ := d3
        exact ⟨n0, mm, kk, ns, by rw [upd_ne nn.1.symm]; exact f1, by rw [upd_ne nn.2.symm]; exact f2, f3⟩
      · intro b o e n1 n2
        rw [upd_ne (ne_of_none e nD)]
        exact (k2.trans k3) b o e n1 n2
      · rw [upd_same, List.map_append, Int.zero_add]
        rfl
      · rw [show (((i + 1 : Nat) : Int)) - 1 = (i : Int) by omega]
        exact hg.snoc (by omega)
      · rw [List.length_append, List.length_singleton]
        omega
    · rintro H' ⟨ds, d2, k2, hD, hg, hl⟩
      refine ⟨D, _, rfl, .inl ⟨.of hD, fun l nl => ⟨ltb (show 2 ≤ 1000 by decide), fun r nr => ?_⟩⟩⟩
      have nlr : l ≠ r := fun z => by
        rw [← z, upd_same] at nr
        cases nr
      refine q _ (1 + x) ds _ ⟨r, .ref l, rfl, .of upd_same, l, rfl, .of ?_⟩ (by omega) (by omega) (hg.mono (by omega)) (by omega) ((d2.new nl).new nr) (((k1.trans k2).trans (Kp.new nl)).trans (Kp.new nr))
      rw [upd_ne nlr, upd_same]
end
end Sea

set_option Elab.async false
set_option linter.all false
set_option maxRecDepth 100000
set_option maxHeartbeats 4000000
namespace Sea
open PySem PySem.Spec PyProof.Rows L2 LamX NdefX ClX Evl StX
abbrev sTvI : Stmt := inClass (top 18) 0
theorem scTvI : FnScope ["self", "length", "days", "exceptions"] ["self", "length", "days", "exceptions"] (defScope sTvI) := ⟨rfl, rfl, rfl, by decide +kernel, rfl, by decide +kernel, by decide +kernel⟩
/-- what is wrong with a travel -/
def tbad (ln : Int) (ds os : List Int) : Option (Str × Nat) :=
  if 1 ≤ ln ∧ ln ≤ 14 then (match vbad ds (ln - 1) 14 with
    | some i => some ("days", i)
    | none => match vbad os 1000000000000000000 6 with
      | some i => some ("exceptions", i)
      | none => none) else some ("length", 0)
/-- the travel's class and its constants -/
structure TTv (K : PySem.W.Frag) (mg : Str → Option Value) (C fVN fVC : Addr) (dVN dVC : FuncData) : Prop where
  cl : Cls K C
  nS : NoAttr K C "size"
  nP : NoAttr K C "pattern"
  nO : NoAttr K C "odd_days"
  gC : mg "Travel" = some (.ref C)
  mR : ∃ u, mg "MAX_ROUND" = some u ∧ RelV (.int 14) u
  mX : ∃ u, mg "MAX_EXCEPTIONS" = some u ∧ RelV (.int 6) u
  mD : ∃ u, mg "MAX_DAYS" = some u ∧ RelV (.int 1000000000000000000) u
  mY : ∃ u, mg "MAX_YIELDED" = some u ∧ RelV (.int 10000) u
  mE : mg "enumerate" = none
  gVN : mg "validate_numbers" = some (.ref fVN)
  kVN : PySem.W.keepIn K (.ref fVN) = true
  uVN : Fun K "validate_numbers" "validate_numbers" sVN fVN dVN
  gVC : mg "validate_count" = some (.ref fVC)
  kVC : PySem.W.keepIn K (.ref fVC) = true
  uVC : Fun K "validate_count" "validate_count" sVC fVC dVC
theorem TTv.bVN {K : PySem.W.Frag} {mg : Str → Option Value} {C fVN fVC : Addr} {dVN dVC : FuncData} (T : TTv K mg C fVN fVC dVN dVC) : Binds K dVN ["part", "numbers", "largest", "most"] [] := T.uVN.binds (ps := ["part", "numbers", "largest", "most"]) fun _ _ _ _ _ _ us hl => match us, hl with | [_, _, _, _], _ => rfl
theorem TTv.bVC {K : PySem.W.Frag} {mg : Str → Option Value} {C fVN fVC : Addr} {dVN dVC : FuncData} (T : TTv K mg C fVN fVC dVN dVC) : Binds K dVC ["count", "smallest", "largest"] [] := T.uVC.binds (ps := ["count", "smallest", "largest"]) fun _ _ _ _ _ _ us hl => match us, hl with | [_, _, _], _ => rfl
theorem putF_len (f : Str) (v : V) : ∀ fs : List (Str × V), (putF f v fs).length ≤ fs.length + 1
  | [] => Nat.le_refl _
  | (g, u) :: r => by
    show (if g = f then (g, v) :: r else (g, u) :: putF f v r).length ≤ r.length + 1 + 1
    by_cases e : g = f
    · rw [if_pos e]
      exact Nat.le_succ _
    · rw [if_neg e]
      exact Nat.succ_le_succ (putF_len f v r)
/-- the fields of a travel -/
abbrev tvF (ln : Int) (d o : V) : List (Str × V) := putF "odd_days" o (putF "pattern" d (putF "size" (.int ln) []))
def spTvI (K : PySem.W.Frag) (C cV : Addr) : Sp := fun vs H Q E => ∃ (a dx : Addr) (ln : Int) (d o : V) (ds os : List Int), vs = [.ref a, .int ln, d, o] ∧ H a = some (.ins C dx []) ∧ TiA K H d ds ∧ TiA K H o os ∧ ds.length ≤ 1000 ∧ os.length ≤ 1000 ∧
  (tbad ln ds os = none → ∀ H', (∀ b o, H b = some o → b ≠ a → H' b = some o) → H' a = some (.ins C dx (tvF ln d o)) → Q .non H') ∧
  (∀ pt i dd H', tbad ln ds os = some (pt, i) → Same H H' → H' dd = some (.xd [("index", .int (i : Nat)), ("part", .str pt)]) → E (.ref cV) (some dd) H')
section
variable {P : Program} {w : World} {K : PySem.W.Frag} {mg : Str → Option Value} {base : Heap} {cV cN cP fV C fVN fVC : Addr} {fdV dVN dVC : FuncData} {mp : Value}
theorem ok_tvI {f : Addr} {fd : FuncData} (F : Fun K "__init__" "Travel.__init__" sTvI f fd) (T : TEv K mg cV cN cP fV fdV mp) (W : TTv K mg C fVN fVC dVN dVC) : FnOk P w K mg base (L2.CX P w) 5 f fd ["self", "length", "days", "exceptions"] (spTvI K C cV) := by
  have GI : FnOk P w K mg base CX0 1 fV fdV ["self", "part", "index"] (spX2 K "part" "index") := ok_IV T
  have kb := kb_IV T
  refine F.okX scTvI (fun vs H Q E h => ?_) (fun cdv A outer s H vs Q E hr h => ?_)
  · obtain ⟨a, dx, ln, d, o, ds, os, rfl, _⟩ := h
    rfl
  · obtain ⟨a, dx, ln, d, o, ds, os, rfl, ha, hd, ho, ld, lo, q1, q2⟩ := h
    have PX : Passes (L2.CX P w) (cxOf (L2.CX P w) P w K mg base ["self", "length", "days", "exceptions"] "Travel.__init__" (defScope sTvI) f cdv A outer s H E) E := passes_call (takes_of rfl rfl rfl rfl) (fun _ _ _ _ h => h)
    have G : FnOk P w K mg base (L2.CX P w) 4 fVN dVN ["part", "numbers", "largest", "most"] (spVN K cV) := ok_vn (k := 0) W.uVN T W.mE
    refine ⟨_, pss_cons (ps_if (pt_not (pt_chain op_le op_le pe_int (pv 1) (C8.pe_gc (by rfl) W.mR))) (pss_one (ps_raise rfl (takes_of rfl rfl rfl rfl) (pmk_kw T.xV T.iV T.tV GI (hr.mono (by omega)) kb pass0 (by rfl) T.gV (pk_cons pe_str (pk_cons pe_int pk_nil))))) pss_nil)
      (pss_cons (ps_expr (pe_call (E := E) G hr (by rfl) W.gVN W.kVN W.bVN .nil PX (pa_cons pe_str (pa_cons (pv 2) (pa_cons (pe_op op_sub (pv 1) pe_int) (pa_cons (C8.pe_gc (by rfl) W.mR) pa_nil))))))
      (pss_cons (ps_expr (pe_call (E := E) G hr (by rfl) W.gVN W.kVN W.bVN .nil PX (pa_cons pe_str (pa_cons (pv 3) (pa_cons (C8.pe_gc (by rfl) W.mD) (pa_cons (C8.pe_gc (by rfl) W.mX) pa_nil))))))
      (pss_cons (ps_fld (pv 0) (pv 1) rfl) (pss_cons (ps_fld (pv 0) (pv 2) rfl) (pss_one (ps_fld (pv 0) (pv 3) rfl)))))), ?_⟩
    refine q_when (b := !(decide (1 ≤ ln) && decide (ln ≤ 14))) (et_not (et_test (ev_chainI (p := fun i j => decide (i ≤ j)) (q := fun i j => decide (i ≤ j)) ev_c (ev_var rfl) ev_c))) (fun hb H1 e1 => ?_) (fun hb H1 e1 => ?_)
    · refine mk2_in T.xV T.nP T.nI fun dd hdd => q2 "length" 0 dd _ ?_ (Same.trans e1 (same_new hdd)) upd_same
      unfold tbad
      rw [if_neg fun hc => by
        rw [decide_eq_true hc.1, decide_eq_true hc.2] at hb
        cases hb]
    · have hc : 1 ≤ ln ∧ ln ≤ 14 := by
        have : (decide (1 ≤ ln) && decide (ln ≤ 14)) = true := by
          cases h : (decide (1 ≤ ln) && decide (ln ≤ 14)) with
          | true => rfl
          | false =>
            rw [h] at hb
            cases hb
        rw [Bool.and_eq_true] at this
        exact ⟨of_decide_eq_true this.1, of_decide_eq_true this.2⟩
      have hd1 := hd.tk (.same e1)
      refine ⟨_, rfl, _, rfl, _, _, rfl, rfl, "days", d, ds, ln - 1, 14, rfl, hd1, ld, fun hv H2 s2 => ?_, fun i dd H2 hv s2 hx => q2 "days" i dd H2 ?_ (Same.trans e1 s2) hx⟩
      · have ho2 := (ho.tk (.same e1)).tk (.same s2)
        refine ⟨_, rfl, "exceptions", o, os, 1000000000000000000, 6, rfl, ho2, lo, fun hv2 H3 s3 => ?_, fun i dd H3 hv2 s3 hx => q2 "exceptions" i dd H3 ?_ (Same.trans (Same.trans e1 s2) s3) hx⟩
        · have ha3 := s3 _ _ (s2 _ _ (e1 _ _ ha))
          refine ⟨_, rfl, _, rfl, a, C, dx, [], rfl, ha3, W.cl, W.nS, by decide, ?_⟩
          refine ⟨_, rfl, _, rfl, a, C, dx, _, rfl, upd_same, W.cl, W.nP, (show 1 < 1000 by decide), ?_⟩
          refine ⟨_, rfl, _, rfl, a, C, dx, _, rfl, upd_same, W.cl, W.nO, Nat.lt_of_le_of_lt (putF_len _ _ _) (show 2 < 1000 by decide), ?_⟩
          refine q1 ?_ _ (fun b x e n => ?_) upd_same
          · unfold tbad
            rw [if_pos hc, hv, hv2]
          · rw [upd_ne n, upd_ne n, upd_ne n]
            exact s3 _ _ (s2 _ _ (e1 _ _ e))
        · unfold tbad
          rw [if_pos hc, hv, hv2]
      · unfold tbad
        rw [if_pos hc, hv]
end
end Sea

set_option Elab.async false
set_option linter.all false
set_option maxRecDepth 100000
set_option maxHeartbeats 4000000
namespace Sea
open PySem PySem.Spec PyProof.Rows L2 LamX NdefX ClX Evl StX
abbrev sTo : Stmt := inClass (top 18) 4
abbrev sIs : Stmt := inClass (top 18) 5
abbrev sCt : Stmt := inClass (top 18) 6
theorem scTo : FnScope ["self", "day"] ["self", "day"] (defScope sTo) := ⟨rfl, rfl, rfl, by decide +kernel, rfl, by decide +kernel, by decide +kernel⟩
theorem scIs : FnScope ["self", "day"] ["self", "day"] (defScope sIs) := ⟨rfl, rfl, rfl, by decide +kernel, rfl, by decide +kernel, by decide +kernel⟩
theorem scCt : FnScope ["self", "count", "rest", "total", "day"] ["self", "count"] (defScope sCt) := ⟨rfl, rfl, rfl, by decide +kernel, rfl, by decide +kernel, by decide +kernel⟩
theorem tvF_size (ln : Int) (d o : V) : (tvF ln d o).lookup ("size" : Str) = some (.int ln) := by
  unfold tvF
  rw [lookup_putF, if_neg (by decide +kernel), lookup_putF, if_neg (by decide +kernel), lookup_putF, if_pos rfl]
theorem tvF_pat (ln : Int) (d o : V) : (tvF ln d o).lookup ("pattern" : Str) = some d := by
  unfold tvF
  rw [lookup_putF, if_neg (by decide +kernel), lookup_putF, if_pos rfl]
theorem tvF_odd (ln : Int) (d o : V) : (tvF ln d o).lookup ("odd_days" : Str) = some o := by
  unfold tvF
  rw [lookup_putF, if_pos rfl]
theorem tvF_no (ln : Int) (d o : V) {m : Str} (h1 : ¬ m = "odd_days") (h2 : ¬ m = "pattern") (h3 : ¬ m = "size") : (tvF ln d o).lookup m = none := by
  unfold tvF
  rw [lookup_putF, if_neg h1, lookup_putF, if_neg h2, lookup_putF, if_neg h3]
  rfl
/-- a travel at a -/
def Tv (K : PySem.W.Frag) (C : Addr) (H : Hp) (a : Addr) (ln : Int) (d o : V) (ds os : List Int) : Prop := (∃ dx, H a = some (.ins C dx (tvF ln d o))) ∧ TiA K H d ds ∧ TiA K H o os
theorem Tv.same {K : PySem.W.Frag} {C : Addr} {H H' : Hp} {a : Addr} {ln : Int} {d o : V} {ds os : List Int} (t : Tv K C H a ln d o ds os) (s : Same H H') : Tv K C H' a ln d o ds os := by
  obtain ⟨⟨dx, h⟩, h1, h2⟩ := t
  exact ⟨⟨dx, s _ _ h⟩, h1.tk (.same s), h2.tk (.same s)⟩
section
variable {K : PySem.W.Frag} {C : Addr} {H : Hp} {σ : L2.St} {i : Nat} {a dx : Addr} {ln : Int} {d o : V}
theorem ev_size (c : Cls K C) (n : NoAttr K C "size") (ha : H a = some (.ins C dx (tvF ln d o))) (hs : σ[i]? = some (some (.ref a))) : Ev (tFld K (tVar i) "size") σ H (.int ln) := fun H1 e Q q => ⟨.ref a, hs, a, C, dx, _, _, rfl, e _ _ ha, c, n, tvF_size _ _ _, q H1 (Ex.refl _)⟩
theorem ev_pat (c : Cls K C) (n : NoAttr K C "pattern") (ha : H a = some (.ins C dx (tvF ln d o))) (hs : σ[i]? = some (some (.ref a))) : Ev (tFld K (tVar i) "pattern") σ H d := fun H1 e Q q => ⟨.ref a, hs, a, C, dx, _, _, rfl, e _ _ ha, c, n, tvF_pat _ _ _, q H1 (Ex.refl _)⟩
theorem ev_odd (c : Cls K C) (n : NoAttr K C "odd_days") (ha : H a = some (.ins C dx (tvF ln d o))) (hs : σ[i]? = some (some (.ref a))) : Ev (tFld K (tVar i) "odd_days") σ H o := fun H1 e Q q => ⟨.ref a, hs, a, C, dx, _, _, rfl, e _ _ ha, c, n, tvF_odd _ _ _, q H1 (Ex.refl _)⟩
theorem ev_int1 {te : TE} {n : Int} (h : Ev te σ H (.int n)) : Ev (tCB (fun xs H Q => (∃ n, xs = [V.int n] ∧ Q (.int n) H) ∨ ∃ b : Bool, xs = [V.bl b] ∧ Q (.int (if b then 1 else 0)) H) (tCons te tNil)) σ H (.int n) := fun H1 e Q q => h H1 e _ fun H2 e2 => .inl ⟨n, rfl, q H2 e2⟩
end
def spTo (K : PySem.W.Frag) (C : Addr) : Sp := fun vs H Q _ => ∃ (a : Addr) (ln day : Int) (d o : V) (ds os : List Int), vs = [.ref a, .int day] ∧ Tv K C H a ln d o ds os ∧ ln ≠ 0 ∧ ∀ H', Same H H' → Q (.bl (trv ln ds os day)) H'
def spIs (K : PySem.W.Frag) (C cN : Addr) : Sp := fun vs H Q E => ∃ (a : Addr) (ln day : Int) (d o : V) (ds os : List Int), vs = [.ref a, .int day] ∧ Tv K C H a ln d o ds os ∧ ln ≠ 0 ∧ (0 ≤ day ∧ day ≤ 1000000000000000000 → ∀ H', Same H H' → Q (.bl (trv ln ds os day)) H') ∧ (¬ (0 ≤ day ∧ day ≤ 1000000000000000000) → ∀ H', Same H H' → E (.ref cN) none H')
section
variable {P : Program} {w : World} {K : PySem.W.Frag} {mg : Str → Option Value} {base : Heap} {cV cN cP fV C fVN fVC fTo : Addr} {fdV dVN dVC dTo : FuncData} {mp : Value}
theorem ok_to {f : Addr} {fd : FuncData} {k : Nat} (F : Fun K "travels_on" "Travel.travels_on" sTo f fd) (W : TTv K mg C fVN fVC dVN dVC) (mI : mg "int" = none) : FnOk P w K mg base CX0 (k + 1) f fd ["self", "day"] (spTo K C) := by
  refine F.ok scTo (fun vs H Q E h => ?_) (fun cdv A outer s H vs Q E hr h => ?_)
  · obtain ⟨a, ln, day, d, o, ds, os, rfl, _⟩ := h
    rfl
  · obtain ⟨a, ln, day, d, o, ds, os, rfl, ⟨⟨dx, ha⟩, ⟨b, rfl, hb⟩, c, rfl, hc⟩, hn, q⟩ := h
    refine ⟨_, pss_one (ps_ret (pe_cmpR op_ne (pe_cmpR op_in_seq (pe_op op_modN (pe_callTy call_int1 (by rfl) mI (by rfl) (pa_cons (pv 1) pa_nil)) (pe_fld (pv 0) rfl)) (pe_fld (pv 0) rfl) (by rfl)) (pe_cmpR op_in_seq (pv 1) (pe_fld (pv 0) rfl) (by rfl)) (nomark _))), ?_⟩
    refine s_ret (ev_op (ev_op (ev_op ?_ (ev_size W.cl W.nS ha rfl) (rv_I hn)) (ev_pat W.cl W.nP ha rfl) (rv_isT hb rfl (flat_ints _))) (ev_op (ev_var rfl) (ev_odd W.cl W.nO ha rfl) (rv_isT hc rfl (flat_ints _))) (rv_ne rfl)) fun H1 e1 => q H1 e1
    exact fun H1 e Q q => ⟨_, rfl, .inl ⟨day, rfl, q H1 (Ex.refl _)⟩⟩
theorem ok_is {f : Addr} {fd : FuncData} {k : Nat} (F : Fun K "is_travel_day" "Travel.is_travel_day" sIs f fd) (T : TEv K mg cV cN cP fV fdV mp) (W : TTv K mg C fVN fVC dVN dVC) (mI : mg "int" = none) (M : Meth K C "travels_on" fTo) (U : Fun K "travels_on" "Travel.travels_on" sTo fTo dTo) : FnOk P w K mg base (L2.CX P w) (k + 2) f fd ["self", "day"] (spIs K C cN) := by
  refine F.okX scIs (fun vs H Q E h => ?_) (fun cdv A outer s H vs Q E hr h => ?_)
  · obtain ⟨a, ln, day, d, o, ds, os, rfl, _⟩ := h
    rfl
  · obtain ⟨a, ln, day, d, o, ds, os, rfl, ht, hn, q1, q2⟩ := h
    have bTo : Binds K dTo ["self", "day"] [] := U.binds (ps := ["self", "day"]) fun _ _ _ _ _ _ us hl => match us, hl with | [_, _], _ => rfl
    refine ⟨_, pss_cons (ps_expr (pe_call (E := E) (ok_vc (k := k) W.uVC T) hr (by rfl) W.gVC W.kVC W.bVC .nil (passes_call (takes_of rfl rfl rfl rfl) (fun _ _ _ _ h => h)) (pa_cons (pv 1) (pa_cons pe_int (pa_cons (C8.pe_gc (by rfl) W.mD) pa_nil)))))
      (pss_one (ps_ret (pe_meth (E := E0) (pv 0) W.cl M (ok_to (k := k) U W mI) hr bTo .nil pass0 (pa_cons (pv 1) pa_nil)))), ?_⟩
    refine ⟨_, rfl, day, 0, 1000000000000000000, rfl, fun hb H1 s1 => ?_, fun nb H1 s1 => q2 nb H1 s1⟩
    have t1 := ht.same s1
    obtain ⟨dx, ha⟩ := t1.1
    exact ⟨_, rfl, a, dx, _, rfl, ha, tvF_no _ _ _ (by decide +kernel) (by decide +kernel) (by decide +kernel), _, rfl, a, ln, day, d, o, ds, os, rfl, t1, hn, fun H2 s2 => q1 hb H2 (Same.trans s1 s2)⟩
end
end Sea

set_option Elab.async false
set_option linter.all false
set_option maxRecDepth 100000
set_option maxHeartbeats 4000000
namespace Sea
open PySem PySem.Spec PyProof.Rows L2 LamX NdefX ClX Evl StX
/-- a comprehension over a tuple -/
theorem el_lcTup {K : PySem.W.Frag} {σ : L2.St} {H : Hp} {a : Addr} {xs : List V} {tl te : TE} {t : TT} {j : Nat} {vs : List Nat} (f : Nat → Bool) (v : Nat → V) (h : Ev tl σ H (.ref a)) (hx : SqT K H a xs) (hz : xs.length ≤ 40000) (hw : ∀ x, wipe ((wipe σ vs).set j (some x)) vs = wipe σ vs)
    (ht : ∀ (i : Nat) (x : V) H1, Ex H H1 → xs[i]? = some x → EvT t ((wipe σ vs).set j (some x)) H1 (f i)) (he : ∀ (i : Nat) (x : V) H1, Ex H H1 → xs[i]? = some x → f i = true → Ev te ((wipe σ vs).set j (some x)) H1 (v i)) : EvL (tLc (iTup K tl) (gName j) t te vs) σ H (given xs.length f v) := by
  rintro H0 e Q q
  refine h H0 e _ fun H1 e1 => ?_
  have stays : ∀ {H2}, Ex H1 H2 → SqT K H2 a xs := fun e2 => ex_t (e.trans (e1.trans e2)) hx
  refine ⟨a, rfl, ⟨xs, stays (Ex.refl _)⟩, fun D new => ?_⟩
  refine lc_tup (xs := xs) (Cw H1 f v D) ⟨new, Ex.new new, upd_same⟩ (fun _ _ _ w => stays w.2.1) ?_ fun H2 w => q D H2 (fresh_back e1 w.1) (e1.trans w.2.1) w.2.2
  intro i x H2 at_ w
  have few := (List.getElem?_eq_some_iff.mp at_).1
  exact ⟨hw x, cw_turn w (by omega) (ht i x H1 (e.trans e1) at_) (he i x H1 (e.trans e1) at_)⟩
theorem pe_fldK {X : Cx} {e : Expr} {ta : TE} {f : Str} {pos : Pos} (K : PySem.W.Frag) (hK : X.K = K) (he : PE X e ta) (hb : attributeBase e f X.env (eval e X.env) = eval e X.env) : PE X (.Attribute e f pos) (tFld K ta f) := by
  subst hK
  exact pe_fld he hb
theorem ev_lenE {K : PySem.W.Frag} {te : TE} {σ : L2.St} {H : Hp} {p : Addr} {xs : List V} (h : Ev te σ H (.ref p)) (hx : SqT K H p xs) : Ev (tCB (fun xs H Q => ∃ p ys, xs = [V.ref p] ∧ (SqL K H p ys ∨ SqT K H p ys) ∧ Q (.int ys.length) H) (tCons te tNil)) σ H (.int (xs.length : Int)) := fun H1 e Q q =>
  h H1 e _ fun H2 e2 => ⟨p, xs, rfl, .inr (ex_t (e.trans e2) hx), q H2 e2⟩
/-- how the code counts: whole rounds, the rest, then the exceptions one by one -/
def ctRest (ln : Int) (ds : List Int) (c : Int) : List V := given ds.length (fun i => decide (ds.getD i 0 < c.fmod ln)) (fun i => .int (ds.getD i 0))
def ctTot (ln : Int) (ds : List Int) (c : Int) : Int := c.fdiv ln * (ds.length : Nat) + ((ctRest ln ds c).length : Nat)
def ctStep (ln : Int) (ds : List Int) (c t day : Int) : Int := if day < c then t + (if inV (.int (day.fmod ln)) (ds.map V.int) = true then -1 else 1) else t
def ctAll (ln : Int) (ds os : List Int) (c : Int) : Int := os.foldl (ctStep ln ds c) (ctTot ln ds c)
def spCt (K : PySem.W.Frag) (C cN : Addr) : Sp := fun vs H Q E => ∃ (a : Addr) (ln c : Int) (d o : V) (ds os : List Int), vs = [.ref a, .int c] ∧ Tv K C H a ln d o ds os ∧ 1 ≤ ln ∧ ln ≤ 14 ∧ ds.length ≤ 1000 ∧ (0 ≤ c ∧ c ≤ 1000000000000000000 → ∀ H', Same H H' → Q (.int (ctAll ln ds os c)) H') ∧
  (¬ (0 ≤ c ∧ c ≤ 1000000000000000000) → ∀ H', Same H H' → E (.ref cN) none H')
section
variable {P : Program} {w : World} {K : PySem.W.Frag} {mg : Str → Option Value} {base : Heap} {cV cN cP fV C fVN fVC fTo : Addr} {fdV dVN dVC dTo : FuncData} {mp : Value}
theorem ok_ct {f : Addr} {fd : FuncData} {k : Nat} (F : Fun K "count_travel_days" "Travel.count_travel_days" sCt f fd) (T : TEv K mg cV cN cP fV fdV mp) (W : TTv K mg C fVN fVC dVN dVC) (mI : mg "int" = none) (mN : mg "len" = none) : FnOk P w K mg base (L2.CX P w) (k + 2) f fd ["self", "count"] (spCt K C cN) := by
  refine F.okX scCt (fun vs H Q E h => ?_) (fun cdv A outer s H vs Q E hr h => ?_)
  · obtain ⟨a, ln, c, d, o, ds, os, rfl, _⟩ := h
    rfl
  · obtain ⟨a, ln, c, d, o, ds, os, rfl, ht, l1, l14, hdl, q1, q2⟩ := h
    refine ⟨_, pss_cons (ps_expr (pe_call (E := E) (ok_vc (k := k) W.uVC T) hr (by rfl) W.gVC W.kVC W.bVC .nil (passes_call (takes_of rfl rfl rfl rfl) (fun _ _ _ _ h => h)) (pa_cons (pv 1) (pa_cons pe_int (pa_cons (C8.pe_gc (by rfl) W.mD) pa_nil)))))
      (pss_cons (ps_set (i := 2) scCt.nd rfl (.inl rfl) (pe_callB call_len_seq (by rfl) mN PySem.boot_len (pa_cons (pe_lc (own := [("day", 4)]) (g := gName 4) (by rfl) scCt.nd (pi_tup (pe_fld (pv 0) rfl)) (blkOk_by (own := [("day", 4)]) (N := ["self", "count", "rest", "total", "day"]) (sc := defScope sCt) (by decide +kernel))
          (fun _ _ _ _ _ => pg_name (i := 4) scCt.nd rfl (Or.inl rfl)) (fun _ _ _ _ _ => pts_one (pt_cmpR op_lt (pv 4) (pe_op op_modN (pe_callTy call_int1 (by rfl) mI (by rfl) (pa_cons (pv 1) pa_nil)) (pe_fldK K rfl (pv 0) rfl)) (nomark _))) (fun _ _ _ _ _ => pv 4)) pa_nil)))
      (pss_cons (ps_set (i := 3) scCt.nd rfl (.inl rfl) (pe_op op_add (pe_op op_mul (pe_op op_fdivN (pv 1) (pe_fld (pv 0) rfl)) (pe_callB call_len_seq (by rfl) mN PySem.boot_len (pa_cons (pe_fld (pv 0) rfl) pa_nil))) (pv 2)))
      (pss_cons (ps_for (passes_of rfl) rfl (pi_tup (pe_fld (pv 0) rfl)) (pg_name (i := 4) scCt.nd rfl (.inl rfl))
        (pss_one (ps_if (pt_cmpR op_lt (pv 4) (pv 1) (nomark _)) (pss_one (ps_aug (i := 3) scCt.nd rfl (.inl rfl) (pe_ifExp (pt_cmpR op_in_seq (pe_op op_modN (pe_callTy call_int1 (by rfl) mI (by rfl) (pa_cons (pv 4) pa_nil)) (pe_fld (pv 0) rfl)) (pe_fld (pv 0) rfl) (by rfl)) (pe_un un_neg pe_int) pe_int) ip_add)) pss_nil)))
      (pss_one (ps_ret (pv 3)))))), ?_⟩
    refine ⟨_, rfl, c, 0, 1000000000000000000, rfl, fun hb H1 s1 => ?_, fun nb H1 s1 => q2 nb H1 s1⟩
    have t1 := ht.same s1
    obtain ⟨⟨dx, ha⟩, ⟨b, rfl, hbd⟩, e, rfl, hod⟩ := id t1
    have hll : (ds.map V.int).length = ds.length := List.length_map ..
    have hn : ln ≠ 0 := by omega
    have hg : given (ds.map V.int).length (fun i => decide (ds.getD i 0 < c.fmod ln)) (fun i => .int (ds.getD i 0)) = ctRest ln ds c := by
      unfold ctRest
      rw [hll]
    have evc : ∀ (σ : L2.St) (H2 : Hp) (i : Nat) (n : Int), σ[i]? = some (some (.int n)) → Ev (tCB (fun xs H Q => (∃ n, xs = [V.int n] ∧ Q (.int n) H) ∨ ∃ b : Bool, xs = [V.bl b] ∧ Q (.int (if b then 1 else 0)) H) (tCons (tVar i) tNil)) σ H2 (.int n) := fun σ H2 i n hs => ev_int1 (ev_var hs)
    dsimp only
    have eR := el_lcTup (K := K) (tl := tFld K (tVar 0) "pattern") (σ := L2.start ["self", "count", "rest", "total", "day"] [.ref a, .int c]) (H := H1) (te := tVar 4) (t := tTest (tOp (rI0 fun i j => .bl (decide (i < j))) (tVar 4) (tOp (rI (fun _ j => j ≠ 0) fun i j => .int (i.fmod j)) (tCB (fun xs H Q => (∃ n, xs = [V.int n] ∧ Q (.int n) H) ∨ ∃ b : Bool, xs = [V.bl b] ∧ Q (.int (if b then 1 else 0)) H) (tCons (tVar 1) tNil)) (tFld K (tVar 0) "size")))) (j := 4) (vs := [4])
      (fun i => decide (ds.getD i 0 < c.fmod ln)) (fun i => .int (ds.getD i 0)) (ev_pat W.cl W.nP ha rfl) hbd (by rw [hll]; omega) (fun _ => rfl) (fun i x H2 e2 hx => ?_) (fun i x H2 e2 hx _ => ?_)
    · rw [hg] at eR
      refine q_asg (v := .int (((ctRest ln ds c).length : Nat) : Int)) (ev_lenN eR) fun H2 e2 => ?_
      have ha2 := e2 _ _ ha
      have hbd2 := ex_t e2 hbd
      have hod2 := ex_t e2 hod
      refine q_asg (v := .int (ctTot ln ds c)) (ev_is (ev_op (ev_op (ev_op (ev_var rfl) (ev_size W.cl W.nS ha2 rfl) (rv_I ⟨hn, by omega⟩)) (ev_lenE (ev_pat W.cl W.nP ha2 rfl) hbd2) (rv_I (.inr ⟨by omega, by omega⟩))) (ev_var rfl) rv_I0) (by rw [hll]; rfl)) fun H3 e3 => ?_
      have ha3 := e3 _ _ ha2
      have hbd3 := ex_t e3 hbd2
      have hod3 := ex_t e3 hod2
      have e03 : Same H H3 := Same.trans s1 (Same.trans e2 e3)
      refine q_forT (ev_odd W.cl W.nO ha3 rfl) hod3 (fun i σ H' => ∃ v4, σ = [some (.ref a), some (.int c), some (.int (((ctRest ln ds c).length : Nat) : Int)), some (.int ((os.take i).foldl (ctStep ln ds c) (ctTot ln ds c))), v4] ∧ Ex H3 H') (fun H4 e4 => ⟨none, rfl, e4⟩) (fun i σ' H' _ ⟨_, _, e4⟩ => ex_t e4 hod3) ?_ ?_
      · rintro i x σ H' hx ⟨v4, rfl, e4⟩
        rw [List.getElem?_map] at hx
        cases hi : os[i]? with
        | none =>
          rw [hi] at hx
          cases hx
        | some y =>
          rw [hi] at hx
          cases hx
          have ha4 := e4 _ _ ha3
          have hbd4 := ex_t e4 hbd3
          have hst : (os.take (i + 1)).foldl (ctStep ln ds c) (ctTot ln ds c) = ctStep ln ds c ((os.take i).foldl (ctStep ln ds c) (ctTot ln ds c)) y := by
            rw [take_snoc hi, List.foldl_append]
            rfl
          refine s_when (b := decide (y < c)) (et_test (ev_op (ev_var rfl) (ev_var rfl) rv_I0)) (fun hy H5 e5 => ?_) (fun hy H5 e5 => ⟨some (.int y), ?_, e4.trans e5⟩)
          · have ha5 := e5 _ _ ha4
            have hbd5 := ex_t e5 hbd4
            refine s_aug (f := fun i j => i + j) (a := (os.take i).foldl (ctStep ln ds c) (ctTot ln ds c)) (b := if inV (.int (y.fmod ln)) (ds.map V.int) = true then -1 else 1) rfl ?_ fun H6 e6 => ⟨some (.int y), ?_, (e4.trans e5).trans e6⟩
            · refine ev_if (b := inV (.int (y.fmod ln)) (ds.map V.int)) (et_test (ev_op (ev_op (evc _ _ _ _ rfl) (ev_size W.cl W.nS ha5 rfl) (rv_I hn)) (ev_pat W.cl W.nP ha5 rfl) (rv_isT hbd5 rfl (flat_ints _)))) (fun hq => ?_) (fun hq => ?_)
              · rw [if_pos hq]
                exact ev_un ev_c ru_neg
              · rw [if_neg (by rw [hq]; decide)]
                exact ev_c
            · rw [hst]
              unfold ctStep
              rw [if_pos (of_decide_eq_true hy)]
              rfl
          · rw [hst]
            unfold ctStep
            rw [if_neg (of_decide_eq_false hy)]
            rfl
      · rintro σ H' ⟨v4, rfl, e4⟩
        rw [List.length_map, List.take_length]
        exact s_ret (ev_var rfl) fun H5 e5 => q1 hb H5 (Same.trans e03 (Same.trans e4 e5))
    · rw [List.getElem?_map] at hx
      cases hi : ds[i]? with
      | none =>
        rw [hi] at hx
        cases hx
      | some y =>
        rw [hi] at hx
        cases hx
        rw [show ds.getD i 0 = y by rw [List.getD_eq_getElem?_getD, hi]; rfl]
        exact et_test (ev_op (ev_var rfl) (ev_op (evc _ _ _ _ rfl) (ev_size W.cl W.nS (e2 _ _ ha) rfl) (rv_I hn)) rv_I0)
    · rw [List.getElem?_map] at hx
      cases hi : ds[i]? with
      | none =>
        rw [hi] at hx
        cases hx
      | some y =>
        rw [hi] at hx
        cases hx
        rw [show ds.getD i 0 = y by rw [List.getD_eq_getElem?_getD, hi]; rfl]
        exact ev_var rfl
end
end Sea

set_option Elab.async false
set_option linter.all false
set_option maxRecDepth 100000
set_option maxHeartbeats 4000000
/-! set(list of ints), sorted(tuple of ints), t[::-1] -/
namespace Sea
open PySem PySem.Spec PyProof.Rows L2
section
variable {P : Program} {w : World} {A : Around} {E : Value → Shared → Prop} {s : Shared}
/-- a set just made -/
abbrev bareSet (w : World) : Obj := { cls := .type "set", dict := none, data := .set #[] 0 (.fresh 0 0 (!w.params.followText "set-order")) }
/-- the set made is filled from a walk over ints: set.__init__ at the list l -/
theorem fill_list {l : Addr} {items : Array Value} (ns : List Int) {R : Result → Shared → Prop} (hh : A.handled = none) (hl : s.heap.IsList l items) (hi : IntsAre items.toList ns) (few : ns.length + 1 < scanBound)
    (h : ∀ (h' : Heap) (tk c : Nat), SetR w h' s.heap.objs.size (fun j => decide (j ∈ ns)) c → c ≤ ns.length → (∀ b o, s.heap.get? b = some o → h'.get? b = some o) → R (.ok (.ret .none)) { s with heap := h', toks := tk }) :
    codeAny (model P w) A (.call (.builtin "set.__init__") ⟨[.ref s.heap.objs.size, .ref l], []⟩) R { s with heap := s.heap.push (bareSet w) } := by
  have many : items.size = ns.length := by rw [← Array.length_toList]; exact IntsAre.length hi
  have made : (s.heap.push (bareSet w)).get? s.heap.objs.size = some (bareSet w) := Heap.get?_push_size _ rfl
  have still : (s.heap.push (bareSet w)).IsList l items := hl.push _
  have below : l < s.heap.objs.size := hl.choose_spec.1 |> Heap.lt_size
  have grown : (s.heap.push (bareSet w)).objs.size = s.heap.objs.size + 1 := Heap.size_push ..
  obtain ⟨⟨ocls, odict, odata, oslots⟩, at_, oc, nl, od⟩ := id still
  obtain rfl : ocls = _ := oc
  obtain rfl : odata = _ := od
  have notSet := F.sub_list_set
  have notFrozen := F.sub_list_frozenset
  have notDict : (Value.type "list" == Value.type "dict") = false := by decide
  refine codeAny_call_builtin F.called_set.init.plain F.entry_set_init (check_set_init_1 ⟨_, made, rfl⟩ ?_)
  unfold Builtin.«set.__init__» noKeywords Builtin.Frozenset.updateFrom
  generalize hPI : pyIter = PI
  wp_walk
  subst hPI
  refine wpAny_pyIter_list still (wpAny_bind (wpAny_runValue ?_))
  have item : ∀ (i : Nat) (v : Value), items[i]? = some v → ∃ k t, ns[i]? = some k ∧ v = .int k t := by
    intro i v hv
    obtain ⟨t, e⟩ := IntsAre.int_at hi i v (by rwa [Array.getElem?_toList])
    have lt : i < ns.length := many ▸ (Array.getElem?_eq_some_iff.mp hv).1
    exact ⟨ns[i], t, List.getElem?_eq_getElem lt, by rw [e, List.getD_eq_getElem?_getD, List.getElem?_eq_getElem lt]; rfl⟩
  have walk := Walks.list (prog := P) (w := w) (A := A.in1.in1) (by exact hh) (s.heap.push (bareSet w)).objs.size l (by rw [grown]; exact Nat.ne_of_lt (Nat.lt_succ_of_lt below)) items
  refine set_update_ints walk.toS s.heap.objs.size ?_ ns many few item (items.size - 0) 0 _ rfl (Nat.zero_le _) ⟨⟨_, Heap.get?_push_size _ rfl, rfl, rfl⟩, still.push _⟩ ⟨0, Nat.le_refl 0, setR_new_at (Heap.get?_push_of_some _ made)⟩ ?_
  · simp only [grown, List.mem_cons, List.not_mem_nil, or_false, not_or]
    exact ⟨Nat.ne_of_lt (Nat.lt_succ_self _), Nat.ne_of_gt below⟩
  · rintro ⟨h', g2, d', tk', os'⟩ c moved le full
    obtain rfl : g2 = s.gens := moved.gens
    obtain rfl : d' = s.drawn := moved.drawn
    obtain rfl : os' = s.os := moved.os
    refine wpAny_pure (wpAny_pure (h h' tk' c full (many ▸ le) fun b o e => moved.heap b o ?_ (Heap.get?_push_of_some _ (Heap.get?_push_of_some _ e))))
    have old := Heap.lt_size e
    simp only [grown, List.mem_cons, List.not_mem_nil, or_false, not_or]
    exact ⟨Nat.ne_of_lt old, Nat.ne_of_lt (Nat.lt_succ_of_lt old)⟩
/-- set(l), l a list of ints -/
theorem set_list {l : Addr} {items : Array Value} (ns : List Int) {Q : Value → Shared → Prop} (hh : A.handled = none) (hl : s.heap.IsList l items) (hi : IntsAre items.toList ns) (few : ns.length + 1 < scanBound)
    (h : ∀ (h' : Heap) (tk c : Nat), SetR w h' s.heap.objs.size (fun j => decide (j ∈ ns)) c → c ≤ ns.length → (∀ b o, s.heap.get? b = some o → h'.get? b = some o) → Q (.ref s.heap.objs.size) { s with heap := h', toks := tk }) :
    wpAny (model P w) A (call (.type "set") [.ref l]) Q E s := by
  have ⟨c, tl, hmro⟩ := F.called_set.mro
  have hmade := F.called_set.made
  have hsub := F.called_set.sub
  have h1 := F.called_set.notType
  have h2 := F.called_set.canCreate
  have hct := F.typeCall_set_1 (.ref l)
  have isSet : Shared.TypeIs { s with heap := s.heap.push (bareSet w) } (.ref s.heap.objs.size) "set" := ⟨_, Heap.get?_push_size _ rfl, rfl⟩
  have find := F.called_set.init.lookup
  have bind := F.called_set.init.bind (.ref s.heap.objs.size)
  apply wpAny_call
  apply codeAny_of_tree
  show wpAny _ _ (callAny (.type "set") _) _ _ _
  apply wpAny_pure
  refine ⟨Code.quiet_builtin _ (by decide +kernel), codeAny_builtin F.entry_type_call ?_⟩
  rw [Around.under_plain (weight_type_call_type "set" [.ref l] []) rfl]
  repeat (any_goals (first | assumption | wp_step))
  refine codeAny_mono (code_set_led1 (.ref l) (E := E) (Q₁ := fun obj s1 => obj = .ref s.heap.objs.size ∧ s1 = { s with heap := s.heap.push (bareSet w) }) ⟨rfl, rfl⟩) ?_
  intro r s1 z
  match r, z with
  | .error _, z => exact z
  | .ok .next, z => exact z.elim
  | .ok .brk, z => exact z.elim
  | .ok .cont, z => exact z.elim
  | .ok (.ret obj), ⟨e1, e2⟩ =>
    subst e1 e2
    repeat (any_goals (first | assumption | wp_step))
    refine codeAny_mono (fill_list (R := wants (fun r s2 => r = .none ∧ Q (.ref s.heap.objs.size) s2) E) ns hh hl hi few fun h' tk c full le old => ⟨rfl, h h' tk c full le old⟩) ?_
    intro r s2 z
    match r, z with
    | .error _, z => exact z
    | .ok .next, z => exact z.elim
    | .ok .brk, z => exact z.elim
    | .ok .cont, z => exact z.elim
    | .ok (.ret _), ⟨e, z⟩ =>
      subst e
      repeat (any_goals (first | assumption | wp_step))
end
end Sea

set_option Elab.async false
set_option linter.all false
set_option maxRecDepth 100000
set_option maxHeartbeats 4000000
/-! set(list of ints), sorted(tuple of ints), t[::-1] -/
namespace Sea
open PySem PySem.Spec PyProof.Rows L2
/-- sorted(t), t a tuple of ints -/
theorem sorted_tuple {P : Program} {w : World} {A : Around} {E : Value → Shared → Prop} {s : Shared} {t : Addr} {vs : List Value} (ns : List Int) {Q : Value → Shared → Prop} (ht : IsTup s.heap t vs.toArray) (hi : IntsAre vs ns) (few : vs.length ≤ 1000)
    (h : ∀ (h1 h' : Heap) (out : Array Value) (c : Nat) (ns' : List Int), (∀ b o, s.heap.get? b = some o → h1.get? b = some o) → (∀ b o, h1.get? b = some o → h'.get? b = some o) → h'.get? h1.objs.size = some (seqObj "list" out c) → IntsAre out.toList ns' → ns'.Perm ns → ns'.Pairwise (· ≤ ·) → Q (.ref h1.objs.size) { s with heap := h' }) :
    wpAny (model P w) A (call (.builtin "sorted") [.ref t]) Q E s := by
  have line : vs.length ≤ sizeLine := by rw [sizeLine_eq]; omega
  obtain ⟨o, at_, oc, n, od⟩ := id ht
  apply Calls.call_function_entry kind_sorted plain_sorted entry_sorted (args_sorted1 _)
  unfold Builtin.«sorted»
  refine wpAny_bind (m := checkCount "sorted" 1 1 _) (wpAny_pure (wpAny_bind (wpAny_collect_seq t (.inr rfl) at_ oc od (fun h1 old => ?_) (by rwa [List.size_toArray]))))
  rw [List.toList_toArray]
  refine wpAny_bind (wpAny_newList ?_ line)
  have made : (h1.push (seqObj "list" vs.toArray 0)).get? h1.objs.size = some (seqObj "list" vs.toArray 0) := Heap.get?_push_size _ rfl
  refine wpAny_bind (wpAny_holding (wpAny_call_entry slot_list_sort ⟨_, made, rfl⟩ entry_list_sort (list_sort_treeAny made hi line fun out ns' a b c => ⟨_, rfl, ?_⟩) (args_list_sort _)))
  obtain ⟨c', there⟩ := sortedHeap_at (vs := vs) (out := out) made
  refine wpAny_pure ⟨_, rfl, h h1 _ out c' ns' old (fun b o e => ?_) there a b c⟩
  have lt := Heap.lt_size e
  exact (sortedHeap_old (Nat.ne_of_lt lt) (by rw [size_push']; exact Nat.lt_succ_of_lt lt)).trans (Heap.get?_push_of_some _ e)
section
variable {X : Cx}
def rSortedT (K : PySem.W.Frag) : List V → Hp → VK → Prop := fun vs H Q => ∃ (a : Addr) (ns : List Int), vs = [.ref a] ∧ SqT K H a (ns.map V.int) ∧ ns.length ≤ 1000 ∧ ∀ (ns' : List Int) (p : Addr), ns'.Perm ns → ns'.Pairwise (· ≤ ·) → H p = none → Q (.ref p) (upd H p (.lst (ns'.map V.int)))
theorem cr_sortedT : CallR X (.builtin "sorted") (rSortedT X.K) := by
  rintro pins s σ H _ us Q I r ⟨a, ns, rfl, ht, few, q⟩
  obtain ⟨its, rv, pt, _⟩ := I.tuple ht
  rw [Vals.ref1 r]
  have many : its.length = ns.length := by rw [← rv.length, List.length_map]
  refine sorted_tuple ns pt rv.ints (by omega) ?_
  intro h1 h' out c ns' old new there whole perm rising
  have J : Inv X pins σ H { s with heap := h1, toks := s.toks } := I.kept (t' := s.toks) old
  have fits : (ns'.map V.int).length ≤ sizeLine := by rw [List.length_map, perm.length_eq, sizeLine_eq]; omega
  exact ⟨.ref h1.objs.size, _, J.laid (t' := s.toks) (o := .lst (ns'.map V.int)) new (Nat.le_refl _) ⟨fits, out.toList, c, vals_of_ints whole, there⟩, rfl, q ns' _ perm rising (J.hok.fresh (Nat.le_refl _))⟩
def rSetL (K : PySem.W.Frag) (w : World) : List V → Hp → VK → Prop := fun xs H Q => ∃ (p : Addr) (ns : List Int), xs = [.ref p] ∧ SqL K H p (ns.map V.int) ∧ ns.length ≤ 1000 ∧ ∀ (a : Addr) (c : Nat), H a = none → c ≤ ns.length → Q (.ref a) (upd H a (SetO w a (fun j => decide (j ∈ ns)) c))
theorem cr_setL (calm : X.calm = true) : CallR X (.type "set") (rSetL X.K X.w) := by
  rintro pins s σ H _ us Q I r ⟨p, ns, rfl, hl, few, q⟩
  obtain ⟨its, rv, there, _⟩ := I.list hl
  rw [Vals.ref1 r]
  refine set_list (items := its.toArray) ns (I.ok.hd calm) there.isList (by simpa using rv.ints) (by unfold scanBound; omega) ?_
  intro h' tk c full le old
  exact ⟨.ref s.heap.objs.size, _, I.laid (t' := tk) (a := s.heap.objs.size) old (Nat.le_refl _) (setO_new full), rfl, q _ c (I.hok.fresh (Nat.le_refl _)) le⟩
/-! ### t[::-1] -/
theorem back_pick (xs : Array Value) : ((List.range xs.size).filterMap fun (k : Nat) => xs[(((xs.size : Int) - 1) + (k : Int) * (-1)).toNat]?) = xs.toList.reverse := by
  have each : ∀ k ∈ List.range xs.size, xs[(((xs.size : Int) - 1) + (k : Int) * (-1)).toNat]? = some (xs.toList.reverse.getD k .none) := by
    intro k hk
    have lt : k < xs.size := List.mem_range.mp hk
    have e : (((xs.size : Int) - 1) + (k : Int) * (-1)).toNat = xs.size - 1 - k := by omega
    rw [e, List.getD_eq_getElem?_getD, List.getElem?_reverse (by simpa using lt)]
    simp only [Array.length_toList, Array.getElem?_toList]
    rw [Array.getElem?_eq_getElem (by omega)]
    rfl
  have go : ∀ (l : List Nat) (f : Nat → Option Value) (g : Nat → Value), (∀ k ∈ l, f k = some (g k)) → l.filterMap f = l.map g := by
    intro l f g
    induction l with
    | nil => exact fun _ => rfl
    | cons k l ih =>
      intro hk
      rw [List.filterMap_cons, hk k List.mem_cons_self, List.map_cons, ih fun j hj => hk j (List.mem_cons_of_mem _ hj)]
  rw [go _ _ _ each]
  refine List.ext_getElem (by simp) fun i h1 h2 => ?_
  rw [List.getElem_map, List.getElem_range, List.getD_eq_getElem?_getD, List.getElem?_eq_getElem h2]
  rfl
theorem getItem_back {P : Program} {w : World} {A : Around} {E : Value → Shared → Prop} {s : Shared} {t sl : Addr} {items : Array Value} {u : Tok} {Q : Value → Shared → Prop} (ht : IsTup s.heap t items) (hs : s.heap.IsSliceOf sl .none .none (.int (-1) u)) (fits : items.size ≤ sizeLine)
    (h : Q (.ref s.heap.objs.size) { s with heap := s.heap.push { cls := .type "tuple", data := .seq items.toList.reverse.toArray } }) : wpAny (model P w) A (getItem (.ref t) (.ref sl)) Q E s := by
  have ⟨os, at_, oc, od⟩ := hs
  have isSl : s.TypeIs (.ref sl) "slice" := ⟨os, at_, oc⟩
  unfold getItem
  refine wpAny_holding (wpAny_bind (wpAny_sequenceKey ht.typeIs (by decide) ?_))
  refine wpAny_bind (wpAny_callSpecial?_slot (name := Str.ofString "__getitem__") ht.typeIs slot_tuple_getitem (wpAny_call_entry slot_tuple_getitem ht.typeIs PyProof.Rows.entry_tuple_getitem ?_ (PyProof.Rows.args_tuple_getitem _ _)))
  show wpAny _ _ (Builtin.Tuple.tupleItemsOf (.ref t) >>= _) _ _ s
  refine wpAny_bind (tupleItemsOf_ ht (wpAny_bind (wpAny_typeOf isSl ?_)))
  rw [if_pos (by decide)]
  have part : ∀ {A : Around} {E : Value → Shared → Prop} {Q : Option Int → Shared → Prop}, Q (some (-1)) s → wpAny (model P w) A (Builtin.Slice.slicePartIndex (.int (-1) u)) Q E s := fun q => slicePart_int q
  unfold Builtin.Slice.sliceApplied Builtin.Slice.sliceFields
  refine wpAny_bind (wpAny_bind (wpAny_bind (wpAny_field at_ od (x := .none) rfl (wpAny_bind (wpAny_field at_ od (x := .none) rfl (wpAny_bind (wpAny_field at_ od (x := .int (-1) u) rfl (wpAny_pure ?_))))))))
  refine wpAny_bind (part (show wpAny _ _ (if ((-1 : Int) == 0) = true then _ else _) _ _ s from ?_))
  rw [if_neg (by decide)]
  have nope : ∀ {A : Around} {E : Value → Shared → Prop} {Q : Option Int → Shared → Prop}, Q none s → wpAny (model P w) A (Builtin.Slice.slicePartIndex .none) Q E s := fun q => slicePart_none q
  have places : Builtin.Slice.slicePlaces ((items.size : Int) - 1) (-1) (-1) = items.size := by
    unfold Builtin.Slice.slicePlaces
    rw [if_neg (by decide)]
    rw [show (-(-1) : Int) = 1 by decide, Int.ediv_one]
    split <;> omega
  refine wpAny_bind (nope (wpAny_bind (nope (wpAny_bind (wpAny_pure ?_)))))
  show wpAny _ _ (pure (((items.size : Int) - 1), (-1 : Int), Builtin.Slice.slicePlaces ((items.size : Int) - 1) (-1) (-1))) _ _ s
  rw [places]
  refine wpAny_pure ?_
  have notAll : ¬ (((((items.size : Int) - 1) == 0) && ((-1 : Int) == 1) && (items.size == items.size)) = true) := by simp
  dsimp only
  rw [if_neg notAll, back_pick]
  have size : items.toList.reverse.toArray.size ≤ sizeLine := by simpa using fits
  exact wpAny_bind (m := Builtin.Tuple.tupleExact _) (wpAny_newObj_type (wpAny_pure ⟨_, rfl, wpAny_pure h⟩) size)
/-- t[::-1] -/
def tRevT (K : PySem.W.Frag) (te : TE) : TE := fun σ H Q => te σ H fun x H1 => ∃ a xs, x = .ref a ∧ SqT K H1 a xs ∧ ∀ p, H1 p = none → Q (.ref p) (upd H1 p (.tup xs.reverse))
theorem pe_revT {e : Expr} {te : TE} {k : Nat} {p1 p2 p3 pos : Pos} (he : PE X e te) : PE X (.Subscript e (.Slice none none (some (.UnaryOp .USub (.Constant (.int 1) k p1) p2)) p3) pos) (tRevT X.K te) := by
  constructor
  intro pins s σ H Q I h
  have step : PO X (some (.UnaryOp .USub (.Constant (.int 1) k p1) p2)) (tPart (tUn (rU fun i => .int (-i)) (tC (.int 1)))) := po_some (pe_un un_neg pe_int)
  refine Subscript_ (thn (he.run pins s σ H _ I h) ?_)
  rintro v s1 ⟨x, H1, I1, r1, a, xs, rfl, hx, q⟩
  obtain rfl : v = .ref a := r1
  apply wpAny_Slice
  refine thn (po_none.run pins s1 σ H1 (fun o H2 => (o, H2) = (none, H1)) I1 rfl) ?_
  rintro vl s2 ⟨_, _, I2, pl, e⟩
  cases e
  refine thn (po_none.run pins s2 σ H1 (fun o H2 => (o, H2) = (none, H1)) I2 rfl) ?_
  rintro vu s3 ⟨_, _, I3, pu, e⟩
  cases e
  refine thn (step.run pins s3 σ H1 (fun o H2 => (o, H2) = (some (-1), H1)) I3 ⟨1, rfl, -1, rfl, rfl⟩) ?_
  rintro vs s4 ⟨_, _, I4, ps, e⟩
  cases e
  cases pl
  cases pu
  cases ps
  rename_i u
  have I5 : Inv X pins σ H1 { s4 with heap := s4.heap.push { cls := .type "slice", data := .fields #[.none, .none, .int (-1) u] } } := I4.kept (t' := s4.toks) fun _ _ z => Heap.get?_push_of_some _ z
  obtain ⟨its, r, ht, hz⟩ := I5.tuple hx
  have many : its.toArray.size ≤ sizeLine := by rw [List.size_toArray, ← r.length]; exact hz
  refine tail_any (ops := [.ref a, .ref s4.heap.objs.size]) ht.typeIs slot_tuple_getitem.lookup ?_ (by with_unfolding_all rfl)
  refine getItem_back ht (Heap.IsSliceOf.new _ _ _ _) many ?_
  exact ⟨.ref _, _, I5.laid (t' := s4.toks) (o := .tup xs.reverse) (fun _ _ z => Heap.get?_push_of_some _ z) (Nat.le_refl _) ⟨by rw [List.length_reverse]; exact hz, _, r.reverse, (show IsTup _ _ _ from ⟨_, Heap.get?_push_size _ rfl, rfl, 0, rfl⟩)⟩, rfl, q _ (I5.hok.fresh (Nat.le_refl _))⟩
end
end Sea

set_option Elab.async false
set_option linter.all false
set_option maxRecDepth 100000
set_option maxHeartbeats 4000000
/-! generators: if and for within the body -/
namespace Sea
open PySem PySem.Spec PyProof.Rows L2
section
variable {X : Cx} {pos : Pos}
/-- if c: a else: b, either may hand out -/
def tGIf (c : TT) (t u : TGn) : TGn := fun D ys σ H => c σ H fun b H1 => match b with
  | true => t D ys σ H1
  | false => u D ys σ H1
theorem gs_if {c : Expr} {a b : List Stmt} {tc : TT} {t u : TGn} (hc : PT X c tc) (ha : GSs X a t) (hb : GSs X b u) : GS X (.If c a b pos) (tGIf tc t u) := by
  constructor
  intro A S ip R n ys s0 code fs K J gd lv s σ H D g hn k ⟨acc, cc, r, I⟩ ht
  rw [exec_If]
  apply seg_bind_wrap
  apply wpAny_standAt
  apply seg_bind_wrap
  rw [g.over]
  refine wpAny_mono (hc.run _ s σ H _ I ht) ?_ fun x s1 hx => k.exc n s0 x s1 hx
  rintro b s1 ⟨H1, I1, q⟩
  match b, q with
  | true, q => exact ha.run A S ip R n ys s0 code fs K J gd lv s1 σ H1 D g hn k ⟨acc, cc, r, I1⟩ q
  | false, q => exact hb.run A S ip R n ys s0 code fs K J gd lv s1 σ H1 D g hn k ⟨acc, cc, r, I1⟩ q
/-- for x in e: body, the body may hand out -/
def tGFor (wi : TI) (g : TG) (tb : TGn) : TGn := fun D ys σ H => wi σ H fun J H1 => ∃ W : Nat → Nat → List V → L2.St → Hp → Prop, (∃ m, W 0 m ys σ H1) ∧ ∀ i m ys σ H, W i m ys σ H →
  (J.stop i H ∧ D.nx ys σ H) ∨ (J.go i H ∧ ∃ N : List V → L2.St → Hp → Prop, (∀ ys σ H, N ys σ H → ∃ m', m' < m ∧ W (i + 1) m' ys σ H) ∧ ∀ x H1, J.yld i H x H1 → g x σ H1 fun σ2 H2 => tb { D with nx := N, ct := N, bk := D.nx } ys σ2 H2)
/-- the iterator of such a loop: its objects stand apart from the consumer's list and are the heap's alone -/
structure Own (X : Cx) (S : Addr) (ip : List (Addr × Obj)) (fp : List Addr) : Prop where
  no : ∀ b ∈ fp, b ≠ S
  fp : ∀ b ∈ fp, b ≠ X.env.locals ∧ b ∉ X.fs ∧ (b ∈ X.ex ∨ X.s_0.heap.objs.size ≤ b) ∧ (∀ x c, X.env.cells.lookup x = some c → c ≠ b) ∧ ∀ p ∈ X.pn ++ ip, p.1 ≠ b
theorem Own.at {S : Addr} {ip : List (Addr × Obj)} {fp : List Addr} (o : Own X S ip fp) {H : Hp} (hn : ∀ b ∈ fp, H b = none) (oS : Obj) : ∀ b ∈ fp, FpOk X ((S, oS) :: ip) H b := by
  intro b hb
  obtain ⟨a1, a2, a3, a4, a5⟩ := o.fp b hb
  refine ⟨hn b hb, a1, a2, a3, a4, fun p hp => ?_⟩
  rcases List.mem_append.mp hp with z | z
  · exact a5 p (List.mem_append_left _ z)
  · rcases List.mem_cons.mp z with z | z
    · rw [z]
      exact (o.no b hb).symm
    · exact a5 p (List.mem_append_right _ z)
theorem Own.of {S : Addr} {oS : Obj} {ip : List (Addr × Obj)} {fp : List Addr} {H : Hp} (h : ∀ b ∈ fp, FpOk X ((S, oS) :: ip) H b) : Own X S ip fp where
  no b hb := ((h b hb).2.2.2.2.2 (S, oS) (List.mem_append_right _ List.mem_cons_self)).symm
  fp b hb := by
    obtain ⟨_, a1, a2, a3, a4, a5⟩ := h b hb
    refine ⟨a1, a2, a3, a4, fun p hp => a5 p ?_⟩
    rcases List.mem_append.mp hp with z | z
    · exact List.mem_append_left _ z
    · exact List.mem_append_right _ (List.mem_cons_of_mem _ z)
theorem gs_for {tg iter : Expr} {body : List Stmt} {wi : TI} {gt : TG} {tb : TGn} (hp : PassesOwn (model X.prog X.w) X.A X.env X.xe) (calm : X.calm = true) (hi : PI X tg iter wi) (hg : PG X tg gt) (hb : GSs X body tb)
    (hs : ∀ x, foldedSetIterable iter X.env x = pure x := by intro _; rfl) : GS X (.For tg iter body [] pos) (tGFor wi gt tb) := by
  constructor
  intro A S ip R n ys s0 code fs K J gd lv s σ H D g hn k ⟨acc, cc, r, I⟩ ht
  rw [exec_For]
  apply seg_bind_wrap
  apply wpAny_standAt
  apply seg_bind_wrap
  rw [g.over]
  refine wpAny_mono (hi.run _ s σ H _ I ht) ?_ fun x s1 hx => k.exc n s0 x s1 hx
  intro v s1 made
  apply seg_bind_wrap
  rw [hs v]
  apply wpAny_pure
  apply seg_bind_wrap
  apply wpAny_standAt
  apply seg_bind_wrap
  rw [g.over]
  apply wpAny_holding
  refine wpAny_mono made ?_ fun x s2 hx => k.exc n s0 x s2 hx
  rintro _ s2 ⟨it, fp, tn, Jt, H2, rfl, I2, T, st2, f2, W, ⟨m0, w0⟩, turn⟩
  have own := Own.of f2
  apply seg_call
  intro p
  have leave : ∀ (n : Nat) (s0 : Shared) (x : Value) (s : Shared), X.xe x s → Seg (model X.prog X.w) A R (GY X S) n s0 (.forLoop tg (.ref it) body [] X.env) ((do noteFrame x X.env; theTreesLotGoes x : Sem Unit).wrap (fun _ => .raise x) .raise id id)
      (.ret (fun r => ((match r with | .ok f => (.pure f : Sem Flow) | .error e => .raise e).onRaise (cameBack X.env)).wrap K J gd lv) none (gd false) (lv []) code p [] :: fs) s := by
    intro n s0 x s hx
    have gl := gc_loop (k := fun r => ((match r with | .ok f => (.pure f : Sem Flow) | .error e => .raise e).onRaise (cameBack X.env)).wrap K J gd lv) (c' := .forLoop tg (.ref it) body [] X.env) (l := lv []) (kp := []) (p := p) g rfl rfl
    apply seg_wrap
    rw [gl.over]
    apply wpAny_bind
    refine wpAny_mono (hp x s hx) (fun _ s1 back => wpAny_theTreesLotGoes ?_) fun y s1 back => ?_
    · exact seg_leaf (.error x) (seg_cameBack g k back)
    · exact seg_leaf (.error y) (seg_cameBack g k back)
  have gl := gc_loop (k := fun r => ((match r with | .ok f => (.pure f : Sem Flow) | .error e => .raise e).onRaise (cameBack X.env)).wrap K J gd lv) (c' := .forLoop tg (.ref it) body [] X.env) (l := lv []) (kp := []) (p := p) g rfl rfl
  have loop : ∀ (m n i : Nat) (ys : List V) (s0 s : Shared) (σ : L2.St) (H : Hp), n + ys.length = sizeLine → tn i s.heap → (∀ b ∈ fp, H b = none) → W i m ys σ H → GI X S ip ys σ H s →
      Seg (model X.prog X.w) A R (GY X S) n s0 (.forLoop tg (.ref it) body [] X.env) ((model X.prog X.w).den (.forLoop tg (.ref it) body [] X.env))
        (.ret (fun r => ((match r with | .ok f => (.pure f : Sem Flow) | .error e => .raise e).onRaise (cameBack X.env)).wrap K J gd lv) none (gd false) (lv []) code p [] :: fs) s := by
    intro m
    induction m using Nat.strongRecOn with
    | ind m ih =>
    rintro n i ys s0 s σ H hn st free w ⟨acc, cc, r, I⟩
    show Seg _ _ _ _ _ _ _ ((forTurn tg (.ref it) body [] X.env).onRaise (fun x => do noteFrame x X.env; theTreesLotGoes x)) _ s
    rw [Sem.onRaise_eq_wrap]
    unfold forTurn
    apply seg_bind_wrap
    apply wpAny_standAt
    apply seg_bind_wrap
    rw [gl.over]
    apply wpAny_onRaise
    have gone : ∀ (n : Nat) (s0 : Shared) (x : Value) (s : Shared), X.xe x s → Seg (model X.prog X.w) A R (GY X S) n s0 (.forLoop tg (.ref it) body [] X.env) ((do noteFrame x X.env; theTreesLotGoes x : Sem Unit).bind (fun _ => .raise x))
      (.ret (fun r => ((match r with | .ok f => (.pure f : Sem Flow) | .error e => .raise e).onRaise (cameBack X.env)).wrap K J gd lv) none (gd false) (lv []) code p [] :: fs) s := fun n s0 x s hx => by
      rw [Sem.bind_eq_wrap]
      exact leave n s0 x s hx
    rcases turn i m ys σ H w with ⟨stop, q⟩ | ⟨go, N, less, each⟩
    · refine wpAny_mono (T.done X rfl rfl rfl calm i _ s σ H X.xe I (own.at free _) st stop) ?_ fun x s hx => wpAny_standAt (gone n s0 x s hx)
      rintro _ s1 ⟨rfl, I1⟩
      show Seg _ _ _ _ _ _ _ (.pure (.again (.block [] X.env))) _ s1
      apply seg_again rfl
      show Seg _ _ _ _ _ _ _ (leafOf (.ok .next)) _ s1
      exact seg_leaf (.ok .next) (k.ok n ys s0 s1 .next hn ⟨σ, H, ⟨acc, cc, r, I1⟩, q⟩)
    · refine wpAny_mono (T.item X rfl rfl rfl calm i _ s σ H X.xe I (own.at free _) st go) ?_ fun x s hx => wpAny_standAt (gone n s0 x s hx)
      rintro _ s1 ⟨u, rfl, h4⟩
      apply seg_bind_wrap
      rw [gl.over]
      refine wpAny_mono h4 ?_ fun x s hx => gone n s0 x s hx
      rintro _ s2 ⟨x, H5, I5, r5, y5, st5, free5⟩
      have pinned := I5.pinned (own.at free5 _) (T.obj _ _ st5)
      apply seg_bind_wrap
      rw [gl.over]
      refine wpAny_mono (hg.run _ s2 σ H5 x u _ pinned r5 (each x H5 y5)) ?_ fun x s hx => gone n s0 x s hx
      rintro _ s3 ⟨σ6, H6, I6, q6⟩
      have again : ∀ (ys' : List V) (s' : Shared) (σ7 : L2.St) (H7 : Hp) (n' : Nat) (s0' : Shared), n' + ys'.length = sizeLine → GI X S (ip ++ pinsAt fp s2.heap) ys' σ7 H7 s' → N ys' σ7 H7 → Seg (model X.prog X.w) A R (GY X S) n' s0' (.forLoop tg (.ref it) body [] X.env) (.pure (.again (.forLoop tg (.ref it) body [] X.env)))
          (.ret (fun r => ((match r with | .ok f => (.pure f : Sem Flow) | .error e => .raise e).onRaise (cameBack X.env)).wrap K J gd lv) none (gd false) (lv []) code p [] :: fs) s' := by
        rintro ys' s' σ7 H7 n' s0' hn' ⟨acc', cc', r', I7⟩ n7
        obtain ⟨m', lt, w7⟩ := less ys' σ7 H7 n7
        have stay : ∀ b ∈ fp, ∀ o, s2.heap.get? b = some o → s'.heap.get? b = some o ∧ H7 b = none := fun b hb o e => by
          have := I7.pin (b, o) (List.mem_append_right _ (List.mem_cons_of_mem _ (List.mem_append_right _ (mem_pinsAt hb e))))
          exact ⟨this.1, this.2.1⟩
        refine seg_again rfl (ih m' lt n' (i + 1) ys' s0' s' σ7 H7 hn' (T.keep _ _ _ st5 fun b hb o e => (stay b hb o e).1) (fun b hb => ?_) w7 ⟨acc', cc', r', I7.unpinned (pins := (S, lstObj acc' cc') :: ip) (pl := pinsAt fp s2.heap)⟩)
        obtain ⟨o, e, _⟩ := T.obj _ _ st5 b hb
        exact (stay b hb o e).2
      have inner : GC X S (ip ++ pinsAt fp s2.heap) A (.forLoop tg (.ref it) body [] X.env) (.ret (fun r => ((match r with | .ok f => (.pure f : Sem Flow) | .error e => .raise e).onRaise (cameBack X.env)).wrap K J gd lv) none (gd false) (lv []) code p [] :: fs) id :=
        { gl with ip := fun p hp => (List.mem_append.mp hp).elim (g.ip p) fun z => own.no _ (of_pinsAt z).1 }
      have weaker : ∀ {ys' σ7 H7 s'}, GI X S (ip ++ pinsAt fp s2.heap) ys' σ7 H7 s' → GI X S ip ys' σ7 H7 s' := fun ⟨acc', cc', r', I7⟩ => ⟨acc', cc', r', I7.unpinned (pins := (S, lstObj acc' cc') :: ip) (pl := pinsAt fp s2.heap)⟩
      rw [Sem.bind_eq_wrap', Sem.wrap_wrap]
      refine hb.run A S (ip ++ pinsAt fp s2.heap) R n ys s0 _ _ _ _ _ _ s3 σ6 H6 { D with nx := N, ct := N, bk := D.nx } inner hn ⟨?_, ?_⟩ ⟨acc, cc, r, I6⟩ q6
      · intro n' ys' s0' s' f hn' end_
        match f, end_ with
        | .next, ⟨σ7, H7, J7, n7⟩ => exact again ys' s' σ7 H7 n' s0' hn' J7 n7
        | .cont, ⟨σ7, H7, J7, n7⟩ => exact again ys' s' σ7 H7 n' s0' hn' J7 n7
        | .brk, ⟨σ7, H7, J7, q7⟩ => exact seg_leaf (.ok .next) (k.ok n' ys' s0' s' .next hn' ⟨σ7, H7, weaker J7, q7⟩)
        | .ret v, ⟨x7, σ7, H7, J7, r7, q7⟩ => exact seg_leaf (.ok (.ret v)) (k.ok n' ys' s0' s' (.ret v) hn' ⟨x7, σ7, H7, weaker J7, r7, q7⟩)
      · exact fun n' s0' x s' hx => gone n' s0' x s' hx
  exact loop m0 n 0 ys s0 s2 σ H2 hn st2 (fun b hb => (f2 b hb).1) w0 ⟨acc, cc, r, I2⟩
end
end Sea

set_option Elab.async false
set_option linter.all false
set_option maxRecDepth 100000
set_option maxHeartbeats 4000000
namespace Sea
open PySem PySem.Spec PyProof.Rows L2 LamX NdefX ClX Evl StX
abbrev sRl : Stmt := inClass (top 18) 1
abbrev sRd : Stmt := inClass (top 18) 2
abbrev sEx : Stmt := inClass (top 18) 3
abbrev sTd : Stmt := inClass (top 18) 7
abbrev sWx : Stmt := inClass (top 18) 8
theorem scRl : FnScope ["self"] ["self"] (defScope sRl) := ⟨rfl, rfl, rfl, by decide +kernel, rfl, by decide +kernel, by decide +kernel⟩
theorem scRd : FnScope ["self"] ["self"] (defScope sRd) := ⟨rfl, rfl, rfl, by decide +kernel, rfl, by decide +kernel, by decide +kernel⟩
theorem scEx : FnScope ["self"] ["self"] (defScope sEx) := ⟨rfl, rfl, rfl, by decide +kernel, rfl, by decide +kernel, by decide +kernel⟩
theorem scTd : GScope ["self", "first", "last", "day"] ["self", "first", "last"] (defScope sTd) := ⟨rfl, rfl, rfl, by decide +kernel, rfl, by decide +kernel, by decide +kernel⟩
/-! ### the getters -/
structure TPr (K : PySem.W.Frag) (C fRl pRl fRd pRd fEx pEx : Addr) (dRl dRd dEx : FuncData) : Prop where
  pL : PropOf K C "round_length" pRl fRl
  uL : Fun K "round_length" "Travel.round_length" sRl fRl dRl
  pD : PropOf K C "round_days" pRd fRd
  uD : Fun K "round_days" "Travel.round_days" sRd fRd dRd
  pE : PropOf K C "exceptions" pEx fEx
  uE : Fun K "exceptions" "Travel.exceptions" sEx fEx dEx
section
variable {X : Cx} {C fRl pRl fRd pRd fEx pEx fVN fVC : Addr} {dRl dRd dEx dVN dVC : FuncData} {e : Expr} {te : TE} {pos : Pos}
theorem pe_rl (T : TPr X.K C fRl pRl fRd pRd fEx pEx dRl dRd dEx) (W : TTv X.K X.mg C fVN fVC dVN dVC) (hr : Room 2 X.A) (he : PE X e te) (hab : attributeBase e "round_length" X.env (eval e X.env) = eval e X.env := by rfl) : PE X (.Attribute e "round_length" pos) (tProp C (getSp C "size") [] E0 te) := by
  obtain ⟨oc, od, kV, doc, pm, an, cdv, ct, osl, rfl, lk, hcd⟩ := T.uL.ex
  exact pe_prop he W.cl T.pL (fn_getter (k := 0) lk hcd scRl rfl rfl W.cl W.nS) hr (T.uL.binds (ps := ["self"]) fun _ _ _ _ _ _ us hl => match us, hl with | [_], _ => rfl) .nil pass0 hab
theorem pe_rd (T : TPr X.K C fRl pRl fRd pRd fEx pEx dRl dRd dEx) (W : TTv X.K X.mg C fVN fVC dVN dVC) (hr : Room 2 X.A) (he : PE X e te) (hab : attributeBase e "round_days" X.env (eval e X.env) = eval e X.env := by rfl) : PE X (.Attribute e "round_days" pos) (tProp C (getSp C "pattern") [] E0 te) := by
  obtain ⟨oc, od, kV, doc, pm, an, cdv, ct, osl, rfl, lk, hcd⟩ := T.uD.ex
  exact pe_prop he W.cl T.pD (fn_getter (k := 0) lk hcd scRd rfl rfl W.cl W.nP) hr (T.uD.binds (ps := ["self"]) fun _ _ _ _ _ _ us hl => match us, hl with | [_], _ => rfl) .nil pass0 hab
theorem pe_ex (T : TPr X.K C fRl pRl fRd pRd fEx pEx dRl dRd dEx) (W : TTv X.K X.mg C fVN fVC dVN dVC) (hr : Room 2 X.A) (he : PE X e te) (hab : attributeBase e "exceptions" X.env (eval e X.env) = eval e X.env := by rfl) : PE X (.Attribute e "exceptions" pos) (tProp C (getSp C "odd_days") [] E0 te) := by
  obtain ⟨oc, od, kV, doc, pm, an, cdv, ct, osl, rfl, lk, hcd⟩ := T.uE.ex
  exact pe_prop he W.cl T.pE (fn_getter (k := 0) lk hcd scEx rfl rfl W.cl W.nO) hr (T.uE.binds (ps := ["self"]) fun _ _ _ _ _ _ us hl => match us, hl with | [_], _ => rfl) .nil pass0 hab
end
/-! ### the generator -/
theorem gfor_rounds {I : It} {g : TG} {tb : TGn} {D : GEnds} {ys : List V} {σ : L2.St} {H : Hp} (n : Nat) (Pv : Nat → List V → L2.St → Hp → Prop) (start : Pv 0 ys σ H)
    (round : ∀ i ys σ H, i < n → Pv i ys σ H → I.go i H ∧ ∀ x H', I.yld i H x H' → g x σ H' fun σ2 H2 => tb { D with nx := Pv (i + 1), ct := Pv (i + 1), bk := D.nx } ys σ2 H2)
    (dry : ∀ ys σ H, Pv n ys σ H → I.stop n H ∧ D.nx ys σ H) :
    ∃ W : Nat → Nat → List V → L2.St → Hp → Prop, (∃ m, W 0 m ys σ H) ∧ ∀ i m ys σ H, W i m ys σ H →
      (I.stop i H ∧ D.nx ys σ H) ∨ (I.go i H ∧ ∃ N : List V → L2.St → Hp → Prop, (∀ ys σ H, N ys σ H → ∃ m', m' < m ∧ W (i + 1) m' ys σ H) ∧ ∀ x H', I.yld i H x H' → g x σ H' fun σ2 H2 => tb { D with nx := N, ct := N, bk := D.nx } ys σ2 H2) := by
  refine ⟨fun i m ys σ H => m + i = n ∧ Pv i ys σ H, ⟨n, rfl, start⟩, ?_⟩
  rintro i (_ | m) ys σ H ⟨e, p⟩
  · rw [Nat.zero_add] at e
    exact .inl (e ▸ dry ys σ H (e ▸ p))
  · have ⟨go, each⟩ := round i ys σ H (by omega) p
    exact .inr ⟨go, Pv (i + 1), fun _ _ _ z => ⟨m, Nat.lt_succ_self m, by omega, z⟩, each⟩
/-- the travel days from fi on, among n days -/
def tdL (ln : Int) (ds os : List Int) (fi : Int) (n : Nat) : List Int := ((List.range n).filter fun (i : Nat) => trv ln ds os (fi + (i : Int))).map fun (i : Nat) => fi + (i : Int)
theorem tdL_succ (ln : Int) (ds os : List Int) (fi : Int) (n : Nat) : tdL ln ds os fi (n + 1) = tdL ln ds os fi n ++ (if trv ln ds os (fi + (n : Int)) = true then [fi + (n : Int)] else []) := by
  unfold tdL
  rw [List.range_succ, List.filter_append, List.map_append]
  congr 1
  by_cases h : trv ln ds os (fi + (n : Int)) = true
  · rw [if_pos h, List.filter_cons_of_pos (by exact h)]
    rfl
  · rw [if_neg h, List.filter_cons_of_neg (by exact h)]
    rfl
theorem tdL_len (ln : Int) (ds os : List Int) (fi : Int) (n : Nat) : (tdL ln ds os fi n).length ≤ n := by
  unfold tdL
  rw [List.length_map]
  exact Nat.le_trans (List.length_filter_le ..) (Nat.le_of_eq List.length_range)
theorem small1000' {n : Nat} (h : n ≤ 10000) : n < sizeLine := by rw [sizeLine_eq]; omega
/-- first and last that travel_days takes -/
def tdOk (fi la : Int) : Prop := (0 ≤ fi ∧ fi ≤ 1000000000000000000) ∧ fi ≤ la ∧ la ≤ (if fi + 10000 - 1 < 1000000000000000000 then fi + 10000 - 1 else 1000000000000000000)
def spTd (K : PySem.W.Frag) (C cN : Addr) : SpG := fun vs H Q E => ∃ (a : Addr) (ln fi la : Int) (d o : V) (ds os : List Int), vs = [.ref a, .int fi, .int la] ∧ Tv K C H a ln d o ds os ∧ ln ≠ 0 ∧
  (tdOk fi la → ∀ H', Same H H' → Q ((tdL ln ds os fi (la + 1 - fi).toNat).map V.int) H') ∧ (¬ tdOk fi la → ∀ H', Same H H' → E (.ref cN) none H')
section
variable {P : Program} {w : World} {K : PySem.W.Frag} {mg : Str → Option Value} {base : Heap} {cV cN cP fV C fVN fVC fTo : Addr} {fdV dVN dVC dTo : FuncData} {mp : Value}
theorem ok_td {f : Addr} {fd : FuncData} {k : Nat} (F : Fun K "travel_days" "Travel.travel_days" sTd f fd) (T : TEv K mg cV cN cP fV fdV mp) (W : TTv K mg C fVN fVC dVN dVC) (mI : mg "int" = none) (mM : mg "min" = none) (mR : mg "range" = none) (M : Meth K C "travels_on" fTo) (U : Fun K "travels_on" "Travel.travels_on" sTo fTo dTo) :
    GFn P w K mg base (k + 2) f fd ["self", "first", "last"] (spTd K C cN) := by
  obtain ⟨oc, od, kV, doc, pm, an, cdv, ct, osl, rfl, lk, hcd⟩ := F.ex
  refine gfn_of (N := ["self", "first", "last", "day"]) lk hcd scTd ?_ fun A outer s H vs Q E pn hr h => ?_
  · rintro vs H Q E ⟨a, ln, fi, la, d, o, ds, os, rfl, _⟩
    rfl
  · obtain ⟨a, ln, fi, la, d, o, ds, os, rfl, ht, hn, q1, q2⟩ := h
    have bTo : Binds K dTo ["self", "day"] [] := U.binds (ps := ["self", "day"]) fun _ _ _ _ _ _ us hl => match us, hl with | [_, _], _ => rfl
    refine ⟨_, gss_cons (gs_ps (ps_expr (pe_call (E := E) (ok_vc (k := k) W.uVC T) hr (by rfl) W.gVC W.kVC W.bVC .nil (passes_call takes_gcx (fun _ _ _ _ h => h)) (pa_cons (pv 1) (pa_cons pe_int (pa_cons (C8.pe_gc (by rfl) W.mD) pa_nil))))))
      (gss_cons (gs_ps (ps_expr (pe_call (E := E) (ok_vc (k := k) W.uVC T) hr (by rfl) W.gVC W.kVC W.bVC .nil (passes_call takes_gcx (fun _ _ _ _ h => h)) (pa_cons (pv 2) (pa_cons (pv 1) (pa_cons (pe_callB (call_min2 rfl) (by rfl) mM (by decide +kernel) (pa_cons (C8.pe_gc (by rfl) W.mD) (pa_cons (pe_op op_sub (pe_op op_add (pv 1) (C8.pe_gc (by rfl) W.mY)) pe_int) pa_nil))) pa_nil))))))
      (gss_cons (gs_for owns_gcx rfl (pi_range2 (by rfl) mR (pa_cons (pv 1) (pa_cons (pe_op op_add (pv 2) pe_int) pa_nil))) (pg_name (i := 3) scTd.nd rfl (.inl rfl))
        (gss_cons (gs_if (pt_val (pe_meth (E := E0) (pv 0) W.cl M (ok_to (k := k) U W mI) hr bTo .nil pass0 (pa_cons (pv 3) pa_nil))) (gss_cons (gs_yield (pv 3)) gss_nil) gss_nil) gss_nil)) gss_nil)), ?_⟩
    refine ⟨_, rfl, fi, 0, 1000000000000000000, rfl, fun hb H1 s1 => ?_, fun nb H1 s1 => q2 (fun ok => nb ok.1) H1 s1⟩
    refine ⟨_, rfl, _, rfl, _, rfl, _, _, rfl, rfl, _, _, rfl, rfl, _, _, rfl, la, fi, _, rfl, fun hb2 H2 s2 => ?_, fun nb H2 s2 => q2 (fun ok => nb ok.2) H2 (Same.trans s1 s2)⟩
    have ok : tdOk fi la := ⟨hb, hb2⟩
    have la1 : la ≤ 1000000000000000000 := by
      have := ok.2.2
      split at this <;> omega
    have many : (la + 1 - fi).toNat ≤ 10000 := by
      have := ok.2.2
      split at this <;> omega
    refine ⟨_, rfl, _, rfl, _, _, rfl, rfl, fi, la + 1, rfl, ⟨by omega, by omega, by omega, by omega⟩, ?_⟩
    refine gfor_rounds (I := Itr fi (la + 1 - fi).toNat) (la + 1 - fi).toNat (fun i ys σ H' => ys = (tdL ln ds os fi i).map V.int ∧ (∃ v3, σ = [some (.ref a), some (.int fi), some (.int la), v3]) ∧ Same H H') ⟨rfl, ⟨none, rfl⟩, Same.trans s1 s2⟩ ?_ ?_
    · rintro i ys σ H3 hi ⟨rfl, ⟨v3, rfl⟩, sm⟩
      refine ⟨hi, ?_⟩
      rintro x H4 ⟨rfl, rfl⟩
      have t3 := ht.same sm
      obtain ⟨dx, ha⟩ := t3.1
      refine ⟨_, rfl, a, dx, _, rfl, ha, tvF_no _ _ _ (by decide +kernel) (by decide +kernel) (by decide +kernel), _, rfl, a, ln, fi + (i : Int), d, o, ds, os, rfl, t3, hn, fun H4 s4 => ⟨_, rfl, ?_⟩⟩
      cases e : trv ln ds os (fi + (i : Int)) with
      | true =>
        refine ⟨?_, _, rfl, ?_, ⟨_, rfl⟩, Same.trans sm s4⟩
        · rw [List.length_map]
          exact small1000' (Nat.le_trans (tdL_len ..) (by omega))
        · rw [tdL_succ, if_pos e, List.map_append]
          rfl
      | false =>
        refine ⟨?_, ⟨_, rfl⟩, Same.trans sm s4⟩
        rw [tdL_succ, if_neg (by rw [e]; decide), List.append_nil]
    · rintro ys σ H3 ⟨rfl, _, sm⟩
      exact ⟨Nat.le_refl _, q1 ok H3 sm⟩
end
end Sea

set_option Elab.async false
set_option linter.all false
set_option maxRecDepth 100000
set_option maxHeartbeats 4000000
/-! plain: rising lists of ints, an exception more or less -/
namespace Sea
open PySem PySem.Spec PyProof.Rows L2
theorem inV_int (d : Int) : ∀ ns : List Int, inV (.int d) (ns.map V.int) = decide (d ∈ ns)
  | [] => rfl
  | x :: ns => by
    show (eqV (V.int x) (V.int d) || inV (.int d) (ns.map V.int)) = _
    rw [inV_int d ns]
    have e : eqV (V.int x) (V.int d) = decide (d = x) := by
      show (x == d) = decide (d = x)
      by_cases h : x = d
      · subst h
        simp
      · rw [show (x == d) = false by simpa using h, decide_eq_false (fun z => h z.symm)]
    rw [e, ← Bool.decide_or]
    simp only [List.mem_cons]
theorem sorted_uniq : ∀ {x y : List Int}, x.Perm y → x.Pairwise (· ≤ ·) → y.Pairwise (· ≤ ·) → x = y
  | [], y, p, _, _ => (List.nil_perm.mp p).symm
  | a :: x, y, p, hx, hy => by
    cases y with
    | nil => exact absurd p.length_eq (by simp)
    | cons b y =>
      have ⟨ax, px⟩ := List.pairwise_cons.mp hx
      have ⟨yb, py⟩ := List.pairwise_cons.mp hy
      have ab : a = b := by
        have ha : a ∈ b :: y := p.mem_iff.mp List.mem_cons_self
        have hb : b ∈ a :: x := p.mem_iff.mpr List.mem_cons_self
        rcases List.mem_cons.mp ha with e | ha
        · exact e
        · rcases List.mem_cons.mp hb with e | hb
          · exact e.symm
          · exact Int.le_antisymm (ax b hb) (yb a ha)
      subst ab
      have e := sorted_uniq ((List.perm_cons a).mp p) px py
      rw [e]
theorem good_cons {a : Int} {ns : List Int} {lg : Int} : Good (a :: ns) lg ↔ (0 ≤ a ∧ a ≤ lg) ∧ Good ns lg ∧ (∀ h : 0 < ns.length, a < ns[0]) := by
  constructor
  · intro h
    refine ⟨⟨(h 0 (Nat.succ_pos _)).1, (h 0 (Nat.succ_pos _)).2.1⟩, fun j hj => ?_, fun hp => ?_⟩
    · have := h (j + 1) (Nat.succ_lt_succ hj)
      refine ⟨this.1, this.2.1, fun hp => ?_⟩
      have q := this.2.2 (Nat.succ_pos _)
      obtain ⟨j, rfl⟩ : ∃ k, j = k + 1 := ⟨j - 1, by omega⟩
      exact q
    · have := (h 1 (Nat.succ_lt_succ hp)).2.2 Nat.one_pos
      cases ns with
      | nil => exact absurd hp (Nat.lt_irrefl _)
      | cons b ns => exact this
  · rintro ⟨⟨a0, a1⟩, g, first⟩ j hj
    cases j with
    | zero => exact ⟨a0, a1, fun z => absurd z (Nat.lt_irrefl _)⟩
    | succ j =>
      have hj' : j < ns.length := Nat.lt_of_succ_lt_succ hj
      refine ⟨(g j hj').1, (g j hj').2.1, fun _ => ?_⟩
      cases j with
      | zero =>
        have := first hj'
        cases ns with
        | nil => exact absurd hj' (Nat.lt_irrefl _)
        | cons b ns => exact this
      | succ j => exact (g (j + 1) hj').2.2 (Nat.succ_pos _)
theorem good_iff {lg : Int} : ∀ {ns : List Int}, Good ns lg ↔ ns.Pairwise (· < ·) ∧ ∀ x ∈ ns, 0 ≤ x ∧ x ≤ lg
  | [] => ⟨fun _ => ⟨List.Pairwise.nil, fun x h => by simp at h⟩, fun _ j hj => absurd hj (Nat.not_lt_zero _)⟩
  | a :: ns => by
    rw [good_cons, good_iff, List.pairwise_cons]
    constructor
    · rintro ⟨ha, ⟨pw, all⟩, first⟩
      refine ⟨⟨fun x hx => ?_, pw⟩, fun x hx => ?_⟩
      · cases ns with
        | nil => simp at hx
        | cons b ns =>
          have ab : a < b := first (Nat.succ_pos _)
          rcases List.mem_cons.mp hx with rfl | hx
          · exact ab
          · exact Int.lt_trans ab ((List.pairwise_cons.mp pw).1 x hx)
      · rcases List.mem_cons.mp hx with rfl | hx
        · exact ha
        · exact all x hx
    · rintro ⟨⟨ax, pw⟩, all⟩
      exact ⟨all a List.mem_cons_self, ⟨pw, fun x hx => all x (List.mem_cons_of_mem _ hx)⟩, fun hp => ax _ (List.getElem_mem hp)⟩
/-- the exceptions, day put in or taken out, in order -/
def Wex (os : List Int) (day : Int) (xs : List Int) : Prop := xs.Perm (if day ∈ os then os.filter (fun o => decide (o ≠ day)) else os ++ [day]) ∧ xs.Pairwise (· ≤ ·)
theorem Wex.uniq {os : List Int} {day : Int} {x y : List Int} (a : Wex os day x) (b : Wex os day y) : x = y := sorted_uniq (a.1.trans b.1.symm) a.2 b.2
theorem Wex.out {os : List Int} {day lg : Int} (g : Good os lg) (h : day ∈ os) : Wex os day (os.filter fun o => decide (o ≠ day)) := by
  refine ⟨by rw [if_pos h], (good_iff.mp g).1.sublist List.filter_sublist |>.imp fun h => Int.le_of_lt h⟩
theorem Wex.nodup {os : List Int} {day lg : Int} {xs : List Int} (g : Good os lg) (h : Wex os day xs) : xs.Nodup := by
  have nd : os.Nodup := (good_iff.mp g).1.imp fun h => Int.ne_of_lt h
  refine h.1.nodup_iff.mpr ?_
  split
  · exact nd.sublist List.filter_sublist
  · rename_i no
    rw [List.nodup_append]
    exact ⟨nd, by simp, fun a ha b hb => by
      rw [List.mem_singleton] at hb
      subst hb
      exact fun e => no (e ▸ ha)⟩
theorem Wex.good {os : List Int} {day lg : Int} {xs : List Int} (g : Good os lg) (d0 : 0 ≤ day) (d1 : day ≤ lg) (h : Wex os day xs) : Good xs lg := by
  refine good_iff.mpr ⟨?_, fun x hx => ?_⟩
  · have nd := h.nodup g
    exact (h.2.and nd).imp fun ⟨a, b⟩ => Int.lt_iff_le_and_ne.mpr ⟨a, b⟩
  · have hx := h.1.mem_iff.mp hx
    split at hx
    · exact (good_iff.mp g).2 x (List.mem_filter.mp hx).1
    · rcases List.mem_append.mp hx with hx | hx
      · exact (good_iff.mp g).2 x hx
      · rw [List.mem_singleton.mp hx]
        exact ⟨d0, d1⟩
theorem Wex.len {os : List Int} {day : Int} {xs : List Int} (h : Wex os day xs) : xs.length ≤ os.length + 1 := by
  rw [h.1.length_eq]
  split
  · exact Nat.le_succ_of_le (List.length_filter_le ..)
  · rw [List.length_append]
    exact Nat.le_refl _
/-- a travel as the law makes them -/
structure TvOk (ln : Int) (ds os : List Int) : Prop where
  l1 : 1 ≤ ln
  l2 : ln ≤ 14
  gd : Good ds (ln - 1)
  nd : (ds.length : Int) ≤ ln
  go : Good os 1000000000000000000
theorem TvOk.tbad {ln : Int} {ds os : List Int} (h : TvOk ln ds os) (few : os.length ≤ 6) : tbad ln ds os = none := by
  unfold Sea.tbad
  have := h.l2
  have := h.nd
  rw [if_pos ⟨h.l1, h.l2⟩, vbad_good h.gd (by omega), vbad_good h.go (by omega)]
end Sea

set_option Elab.async false
set_option linter.all false
set_option maxRecDepth 100000
set_option maxHeartbeats 4000000
/-! expressions that give tuples and lists of ints -/
namespace Sea
open PySem PySem.Spec PyProof.Rows L2 LamX NdefX ClX Evl StX
def LiA (K : PySem.W.Frag) (H : Hp) (v : V) (ns : List Int) : Prop := ∃ a, v = .ref a ∧ SqL K H a (ns.map V.int)
def rTupO (K : PySem.W.Frag) : List V → Hp → VK → Prop := fun xs H Q => ∃ p ys, xs = [V.ref p] ∧ ((SqL K H p ys ∧ ∀ l, H l = none → Q (.ref l) (upd H l (.tup ys))) ∨ (SqT K H p ys ∧ Q (.ref p) H))
section
variable {K : PySem.W.Frag} {w : World} {σ : L2.St} {H : Hp} {ta tb te tx : TE} {ns ms : List Int}
theorem ei_var {i : Nat} {v : V} (hs : σ[i]? = some (some v)) (h : TiA K H v ns) : EvD (tVar i) σ H fun v H => TiA K H v ns := fun H1 e Q q => ⟨v, hs, q v H1 (Ex.refl _) (h.tk (.same e))⟩
theorem ei_ev {v : V} (h : Ev te σ H v) (hv : TiA K H v ns) : EvD te σ H fun v H => TiA K H v ns := ed_of h fun _ e => hv.tk (.same e)
theorem ei_cat (h1 : EvD ta σ H fun v H => TiA K H v ns) (h2 : EvD tb σ H fun v H => TiA K H v ms) (few : ns.length + ms.length ≤ 1000) : EvD (tOp (rCatA K) ta tb) σ H fun v H => TiA K H v (ns ++ ms) := by
  intro H1 e Q q
  refine h1 H1 e _ fun v H2 e2 hv => h2 H2 (e.trans e2) _ fun u H3 e3 hu => ?_
  obtain ⟨a, rfl, ha⟩ := hv.tk (.same e3)
  obtain ⟨b, rfl, hb⟩ := hu
  have e13 := e2.trans e3
  refine ⟨a, b, _, _, rfl, rfl, ha, hb, Nat.le_of_lt (small1000 (by rw [List.length_map, List.length_map]; exact few)), fun z => q _ _ e13 ⟨b, rfl, ?_⟩, fun _ z => q _ _ e13 ⟨a, rfl, ?_⟩, fun _ _ p np => q _ _ (e13.trans (Ex.new np)) ⟨p, rfl, .of (by rw [upd_same, List.map_append])⟩⟩
  · rw [List.map_append, z]
    exact hb
  · rw [List.map_append, z, List.append_nil]
    exact ha
theorem ei_one {x : Int} (h : Ev tx σ H (.int x)) : EvD (tTup (tCons tx tNil)) σ H fun v H => TiA K H v [x] := fun H1 e Q q =>
  h H1 e _ fun H2 e2 => ⟨Nat.le_of_lt (small1000 (show 1 ≤ 1000 by decide)), fun p np => q _ _ (e2.trans (Ex.new np)) ⟨p, rfl, .of upd_same⟩⟩
theorem ei_tupL (h : EvD te σ H fun v H => LiA K H v ns) : EvD (tCB (rTupO K) (tCons te tNil)) σ H fun v H => TiA K H v ns := by
  intro H1 e Q q
  refine h H1 e _ fun v H2 e2 hv => ?_
  obtain ⟨a, rfl, ha⟩ := hv
  exact ⟨a, _, rfl, .inl ⟨ha, fun l nl => q _ _ (e2.trans (Ex.new nl)) ⟨l, rfl, .of upd_same⟩⟩⟩
theorem ei_lst (h : EvL te σ H (ns.map V.int)) : EvD te σ H fun v H => LiA K H v ns := fun H1 e Q q => h H1 e _ fun p H2 np e2 hp => q _ _ e2 ⟨p, rfl, .of hp⟩
theorem ei_sortT (h : EvD te σ H fun v H => TiA K H v ns) (few : ns.length ≤ 1000) : EvD (tCB (rSortedT K) (tCons te tNil)) σ H fun v H => ∃ ms : List Int, ms.Perm ns ∧ ms.Pairwise (· ≤ ·) ∧ LiA K H v ms := by
  intro H1 e Q q
  refine h H1 e _ fun v H2 e2 hv => ?_
  obtain ⟨a, rfl, ha⟩ := hv
  exact ⟨a, ns, rfl, ha, few, fun ms p perm rising np => q _ _ (e2.trans (Ex.new np)) ⟨ms, perm, rising, p, rfl, .of upd_same⟩⟩
theorem ei_sortL (h : EvD te σ H fun v H => LiA K H v ns) : EvD (tCB (rSortedI K) (tCons te tNil)) σ H fun v H => ∃ ms : List Int, ms.Perm ns ∧ ms.Pairwise (· ≤ ·) ∧ LiA K H v ms := by
  intro H1 e Q q
  refine h H1 e _ fun v H2 e2 hv => ?_
  obtain ⟨a, rfl, ha⟩ := hv
  exact ⟨a, ns, rfl, ha, fun ms p perm rising np => q _ _ (e2.trans (Ex.new np)) ⟨ms, perm, rising, p, rfl, .of upd_same⟩⟩
/-- sorted(set(l)) -/
theorem ei_uniq (h : EvD te σ H fun v H => LiA K H v ns) (few : ns.length < 64) : EvD (tCB (rSortedSet w) (tCons (tCB (rSetL K w) (tCons te tNil)) tNil)) σ H fun v H => ∃ ms : List Int, ms.Pairwise (· < ·) ∧ (∀ k, k ∈ ms ↔ k ∈ ns) ∧ ms.length ≤ ns.length ∧ LiA K H v ms := by
  intro H1 e Q q
  refine h H1 e _ fun v H2 e2 hv => ?_
  obtain ⟨a, rfl, ha⟩ := hv
  refine ⟨a, ns, rfl, ha, by omega, fun s c ns' le => ⟨s, _, c, rfl, upd_same, by omega, fun ms p rising mem len np => ?_⟩⟩
  exact q _ _ ((e2.trans (Ex.new ns')).trans (Ex.new np)) ⟨ms, rising, fun k => by rw [mem k, decide_eq_true_eq], by omega, p, rfl, .of upd_same⟩
theorem ei_imp {P P' : V → Hp → Prop} (h : EvD te σ H P) (i : ∀ v H, P v H → P' v H) : EvD te σ H P' := fun H1 e Q q => h H1 e Q fun v H2 e2 p => q v H2 e2 (i v H2 p)
/-- tuple(e), e a list of ints of which something holds -/
theorem ei_tupP {R : List Int → Prop} (h : EvD te σ H fun v H => ∃ ms, R ms ∧ LiA K H v ms) : EvD (tCB (rTupO K) (tCons te tNil)) σ H fun v H => ∃ ms, R ms ∧ TiA K H v ms := by
  intro H1 e Q q
  refine h H1 e _ fun v H2 e2 hv => ?_
  obtain ⟨ms, r, a, rfl, ha⟩ := hv
  exact ⟨a, _, rfl, .inl ⟨ha, fun l nl => q _ _ (e2.trans (Ex.new nl)) ⟨ms, r, l, rfl, .of upd_same⟩⟩⟩
theorem ei_lenT (h : EvD te σ H fun v H => TiA K H v ns) : Ev (tCB (fun xs H Q => ∃ p ys, xs = [V.ref p] ∧ (SqL K H p ys ∨ SqT K H p ys) ∧ Q (.int ys.length) H) (tCons te tNil)) σ H (.int (ns.length : Nat)) := by
  intro H1 e Q q
  refine h H1 e _ fun v H2 e2 hv => ?_
  obtain ⟨a, rfl, ha⟩ := hv
  have z := q H2 e2
  rw [← List.length_map (f := V.int)] at z
  exact ⟨a, _, rfl, .inr ha, z⟩
end
end Sea

set_option Elab.async false
set_option linter.all false
set_option maxRecDepth 100000
set_option maxHeartbeats 4000000
namespace Sea
open PySem PySem.Spec PyProof.Rows L2 LamX NdefX ClX Evl StX
theorem scWx : FnScope ["self", "day", "changed", "other"] ["self", "day"] (defScope sWx) := ⟨rfl, rfl, rfl, by decide +kernel, rfl, by decide +kernel, by decide +kernel⟩
theorem given_take (os : List Int) (f : Int → Bool) : ∀ n, n ≤ os.length → given n (fun i => f (os.getD i 0)) (fun i => .int (os.getD i 0)) = ((os.take n).filter f).map V.int
  | 0, _ => rfl
  | n + 1, h => by
    have at_ : os[n]? = some os[n] := List.getElem?_eq_getElem (by omega)
    have gd : os.getD n 0 = os[n] := by rw [List.getD_eq_getElem?_getD, at_]; rfl
    rw [take_snoc at_, List.filter_append, List.map_append, ← given_take os f n (by omega)]
    cases e : f os[n] with
    | true => rw [given_yes (by rw [gd, e]), gd, List.filter_cons_of_pos e]; rfl
    | false => rw [given_no (by rw [gd, e]), List.filter_cons_of_neg (by rw [e]; decide), List.filter_nil, List.map_nil, List.append_nil]
theorem given_filter (os : List Int) (f : Int → Bool) : given (os.map V.int).length (fun i => f (os.getD i 0)) (fun i => .int (os.getD i 0)) = (os.filter f).map V.int := by
  rw [List.length_map, given_take os f os.length (Nat.le_refl _), List.take_length]
section
variable {P : Program} {w : World} {K : PySem.W.Frag} {mg : Str → Option Value} {base : Heap} {cV cN cP fV C fVN fVC fT : Addr} {fdV dVN dVC dT : FuncData} {mp : Value}
theorem kb_tvI {f : Addr} {fd : FuncData} (F : Fun K "__init__" "Travel.__init__" sTvI f fd) : KBn K fd ["self", "length", "days", "exceptions"] 3 ["exceptions"] (fun us ws => us ++ ws) (fun vs zs => vs ++ zs) := by
  obtain ⟨oc, od, kV, doc, pm, an, cdv, ct, osl, rfl, lk, hcd⟩ := F.ex
  refine ⟨fun s us ws _ h1 h2 => ?_, fun a b => a.append b⟩
  match us, ws, h1, h2 with
  | [u, v, x], [y], _, _ => exact .of_eq rfl
/-- Travel(ln, d, exceptions=o): what a caller shows -/
theorem tv_mk {H : Hp} {Q : VK} {E : XK} {ln : Int} {d o : V} {ds os : List Int} (hd : TiA K H d ds) (ho : TiA K H o os) (ld : ds.length ≤ 1000) (lo : os.length ≤ 1000)
    (q1 : tbad ln ds os = none → ∀ a H', Same H H' → H a = none → Tv K C H' a ln d o ds os → Q (.ref a) H')
    (q2 : ∀ pt i dd H', tbad ln ds os = some (pt, i) → Same H H' → H' dd = some (.xd [("index", .int (i : Nat)), ("part", .str pt)]) → E (.ref cV) (some dd) H') :
    [V.int ln, d].length = 2 ∧ [o].length = ["exceptions"].length ∧ ∀ x dx, H x = none → H dx = none → dx ≠ x → spTvI K C cV ((.ref x :: [V.int ln, d]) ++ [o]) (upd (upd H dx (.own x)) x (.ins C dx [])) (fun v H3 => v = .non ∧ Q (.ref x) H3) E := by
  refine ⟨rfl, rfl, fun x dx nx ndx ne => ?_⟩
  have s0 : Same H (upd (upd H dx (.own x)) x (.ins C dx [])) := fun b u e => by
    rw [upd_ne (ne_of_none e nx), upd_ne (ne_of_none e ndx)]
    exact e
  refine ⟨x, dx, ln, d, o, ds, os, rfl, upd_same, hd.tk (.same s0), ho.tk (.same s0), ld, lo, fun hb H' keep at_ => ⟨rfl, ?_⟩, fun pt i dd H' hb sm hx => q2 pt i dd H' hb (Same.trans s0 sm) hx⟩
  have sm : Same H H' := fun b u e => keep b u (s0 b u e) (ne_of_none e nx)
  exact q1 hb x H' sm nx ⟨⟨dx, at_⟩, hd.tk (.same sm), ho.tk (.same sm)⟩
/-- with_exception, day in range: the new travel, or too many exceptions -/
def spWx (K : PySem.W.Frag) (C cV cN : Addr) : Sp := fun vs H Q E => ∃ (a : Addr) (ln day : Int) (d o : V) (ds os : List Int), vs = [.ref a, .int day] ∧ Tv K C H a ln d o ds os ∧ TvOk ln ds os ∧ os.length ≤ 6 ∧
  (0 ≤ day ∧ day ≤ 1000000000000000000 → ∀ xs, Wex os day xs → (xs.length ≤ 6 → ∀ a' o' H', Same H H' → Tv K C H' a' ln d o' ds xs → Q (.ref a') H') ∧ (6 < xs.length → ∀ dd H', Same H H' → H' dd = some (.xd [("index", .int 6), ("part", .str "exceptions")]) → E (.ref cV) (some dd) H')) ∧
  (¬ (0 ≤ day ∧ day ≤ 1000000000000000000) → ∀ H', Same H H' → E (.ref cN) none H')
theorem ok_wx {f : Addr} {fd : FuncData} (F : Fun K "with_exception" "Travel.with_exception" sWx f fd) (T : TEv K mg cV cN cP fV fdV mp) (W : TTv K mg C fVN fVC dVN dVC) (mT : mg "tuple" = none) (mS : mg "sorted" = none) (mN : mg "len" = none) (MK : Mk K C fT) (I : Fun K "__init__" "Travel.__init__" sTvI fT dT) :
    FnOk P w K mg base (L2.CX P w) 7 f fd ["self", "day"] (spWx K C cV cN) := by
  have GI : FnOk P w K mg base CX0 1 fV fdV ["self", "part", "index"] (spX2 K "part" "index") := ok_IV T
  have kb := kb_IV T
  refine F.okX scWx (fun vs H Q E h => ?_) (fun cdv A outer s H vs Q E hr h => ?_)
  · obtain ⟨a, ln, day, d, o, ds, os, rfl, _⟩ := h
    rfl
  · obtain ⟨a, ln, day, d, o, ds, os, rfl, ht, ok, few, q1, q2⟩ := h
    have PX : Passes (L2.CX P w) (cxOf (L2.CX P w) P w K mg base ["self", "day", "changed", "other"] "Travel.with_exception" (defScope sWx) f cdv A outer s H E) E := passes_call (takes_of rfl rfl rfl rfl) (fun _ _ _ _ h => h)
    refine ⟨_, pss_cons (ps_expr (pe_call (E := E) (ok_vc (k := 0) W.uVC T) (hr.mono (by omega)) (by rfl) W.gVC W.kVC W.bVC .nil PX (pa_cons (pv 1) (pa_cons pe_int (pa_cons (C8.pe_gc (by rfl) W.mD) pa_nil)))))
      (pss_cut (ps_if (pt_cmpR op_in_seq (pv 1) (pe_fld (pv 0) rfl) (by rfl))
          (pss_one (ps_set (i := 2) scWx.nd rfl (.inl rfl) (pe_callTy call_tuple_of (by rfl) mT (by rfl) (pa_cons (pe_lc (own := [("other", 3)]) (g := gName 3) (by rfl) scWx.nd (pi_tup (pe_fld (pv 0) rfl)) (blkOk_by (own := [("other", 3)]) (N := ["self", "day", "changed", "other"]) (sc := defScope sWx) (by decide +kernel))
            (fun _ _ _ _ _ => pg_name (i := 3) scWx.nd rfl (Or.inl rfl)) (fun _ _ _ _ _ => pts_one (pt_cmpR op_ne (pv 3) (pv 1) (nomark _))) (fun _ _ _ _ _ => pv 3)) pa_nil))))
          (pss_one (ps_set (i := 2) scWx.nd rfl (.inl rfl) (pe_callTy call_tuple_of (by rfl) mT (by rfl) (pa_cons (pe_callB cr_sortedT (by rfl) mS (by decide +kernel) (pa_cons (pe_op op_catA (pe_fld (pv 0) rfl) (pe_tup (pa_cons (pv 1) pa_nil))) pa_nil)) pa_nil)))))
      (pss_cons (ps_if (pt_cmpR op_gt (pe_callB call_len_seq (by rfl) mN PySem.boot_len (pa_cons (pv 2) pa_nil)) (C8.pe_gc (by rfl) W.mX) (nomark _)) (pss_one (ps_raise rfl (takes_of rfl rfl rfl rfl) (pmk_kw T.xV T.iV T.tV GI (hr.mono (by omega)) kb pass0 (by rfl) T.gV (pk_cons pe_str (pk_cons (C8.pe_gc (by rfl) W.mX) pk_nil))))) pss_nil)
      (pss_one (ps_ret (pe_makeK (E := E) MK (ok_tvI I T W) hr (by rfl) W.gC (kb_tvI I) PX (pa_cons (pe_fld (pv 0) rfl) (pa_cons (pe_fld (pv 0) rfl) pa_nil)) (pk_cons (pv 2) pk_nil)))))), ?_⟩
    refine ⟨_, rfl, day, 0, 1000000000000000000, rfl, fun hb H1 s1 => ?_, fun nb H1 s1 => q2 nb H1 s1⟩
    have t1 := ht.same s1
    obtain ⟨⟨dx, ha⟩, hdd, po, rfl, ho⟩ := id t1
    have len7 : os.length ≤ 1000 := by omega
    refine ⟨fun σ H' => ∃ (v : V) (xs : List Int), σ = ([some (.ref a), some (.int day), some v, none] : L2.St) ∧ TiA K H' v xs ∧ Wex os day xs ∧ Same H1 H', ?_, ?_⟩
    · refine s_if (b := inV (.int day) (os.map V.int)) (et_test (ev_op (ev_var rfl) (ev_odd W.cl W.nO ha rfl) (rv_isT ho rfl (flat_ints _)))) (fun hin H2 e2 => ?_) (fun hno H2 e2 => ?_)
      · rw [inV_int] at hin
        have ha2 := e2 _ _ ha
        have ho2 := ex_t e2 ho
        have item : ∀ (i : Nat) (x : V), (os.map V.int)[i]? = some x → x = .int (os.getD i 0) := fun i x hx => by
          rw [List.getElem?_map] at hx
          cases hi : os[i]? with
          | none =>
            rw [hi] at hx
            cases hx
          | some y =>
            rw [hi] at hx
            cases hx
            rw [List.getD_eq_getElem?_getD, hi]
            rfl
        have eL := el_lcTup (K := K) (tl := tFld K (tVar 0) "odd_days") (σ := ([some (.ref a), some (.int day), none, none] : L2.St)) (H := H2) (te := tVar 3) (t := tTest (tOp rNe (tVar 3) (tVar 1))) (j := 3) (vs := [3])
          (fun i => decide (os.getD i 0 ≠ day)) (fun i => .int (os.getD i 0)) (ev_odd W.cl W.nO ha2 rfl) ho2 (by rw [List.length_map]; omega) (fun _ => rfl)
          (fun i x H3 e3 hx => by
            rw [item i x hx]
            refine et_is (et_test (ev_op (ev_var rfl) (ev_var rfl) (rv_ne rfl))) ?_
            rw [dec_int]
            by_cases z : os.getD i 0 = day
            · rw [show (os.getD i 0 == day) = true from beq_iff_eq.mpr z, decide_eq_false (fun n => n z)]
              rfl
            · rw [show (os.getD i 0 == day) = false from beq_false_of_ne z, decide_eq_true z]
              rfl)
          (fun i x H3 e3 hx _ => by
            rw [item i x hx]
            exact ev_var rfl)
        rw [given_filter os (fun o => decide (o ≠ day))] at eL
        exact (ei_tupL (K := K) (ei_lst eL)) H2 (Ex.refl _) _ fun v H3 e3 hv => ⟨v, _, rfl, hv, Wex.out ok.go (of_decide_eq_true hin), Same.trans e2 e3⟩
      · rw [inV_int] at hno
        have ha2 := e2 _ _ ha
        have ho2 : TiA K H2 (.ref po) os := ⟨po, rfl, ex_t e2 ho⟩
        have eS := ei_tupP (R := fun ms => ms.Perm (os ++ [day]) ∧ ms.Pairwise (· ≤ ·)) (ei_imp (ei_sortT (K := K) (ei_cat (σ := ([some (.ref a), some (.int day), none, none] : L2.St)) (ta := tFld K (tVar 0) "odd_days") (tb := tTup (tCons (tVar 1) tNil)) (ei_ev (ev_odd W.cl W.nO ha2 rfl) ho2) (ei_one (x := day) (ev_var rfl)) (by simp; omega)) (by simp; omega)) fun v H ⟨ms, p, r, h⟩ => ⟨ms, ⟨p, r⟩, h⟩)
        refine eS H2 (Ex.refl _) _ fun v H3 e3 ⟨ms, ⟨perm, rising⟩, hv⟩ => ⟨v, ms, rfl, hv, ⟨?_, rising⟩, Same.trans e2 e3⟩
        rw [if_neg (of_decide_eq_false hno)]
        exact perm
    rintro σ H2 ⟨v, xs, rfl, hv, wx, s2⟩
    have := wx.len
    obtain ⟨qa, qb⟩ := q1 hb xs wx
    refine q_when (b := decide ((xs.length : Int) > 6)) (et_test (ev_op (ei_lenT (ei_var rfl hv)) ev_c rv_I0)) (fun hm H3 e3 => ?_) (fun hm H3 e3 => ?_)
    · have := of_decide_eq_true hm
      exact mk2_in T.xV T.nP T.nI fun dd hdd => qb (by omega) dd _ (Same.trans (Same.trans (Same.trans s1 s2) e3) (same_new hdd)) upd_same
    · have := of_decide_eq_false hm
      have t3 := (t1.same s2).same e3
      obtain ⟨dx3, ha3⟩ := t3.1
      refine ⟨_, rfl, a, C, dx3, _, _, rfl, ha3, W.cl, W.nS, tvF_size _ _ _, _, rfl, a, C, dx3, _, _, rfl, ha3, W.cl, W.nP, tvF_pat _ _ _, _, rfl, ?_⟩
      have few6 : xs.length ≤ 6 := by omega
      have good : TvOk ln ds xs := ⟨ok.l1, ok.l2, ok.gd, ok.nd, wx.good ok.go hb.1 hb.2⟩
      refine tv_mk t3.2.1 (hv.tk (.same e3)) (by have := ok.nd; have := ok.l2; omega) (by omega) (fun _ a' H' sm na tv => qa few6 a' v H' (Same.trans (Same.trans (Same.trans s1 s2) e3) sm) tv) fun pt i dd H' bad => ?_
      rw [good.tbad few6] at bad
      cases bad
end
end Sea

set_option Elab.async false
set_option linter.all false
set_option maxRecDepth 100000
set_option maxHeartbeats 4000000
namespace Sea
open PySem PySem.Spec PyProof.Rows L2 LamX NdefX ClX Evl StX
abbrev sOdd : Stmt := top 26
abbrev sSpo : Stmt := top 29
theorem scOdd : FnScope ["_law_h", "_law_most", "_law_wide", "_law_k"] ["_law_h", "_law_most", "_law_wide"] (defScope sOdd) := ⟨rfl, rfl, rfl, by decide +kernel, rfl, by decide +kernel, by decide +kernel⟩
theorem scSpo : FnScope ["_law_h", "_law_numbers", "_law_k", "_law_odd_here"] ["_law_h", "_law_numbers"] (defScope sSpo) := ⟨rfl, rfl, rfl, by decide +kernel, rfl, by decide +kernel, by decide +kernel⟩
def spOdd (K : PySem.W.Frag) : Sp := fun vs H Q _ => ∃ (h c : Addr) (m wd : Int), vs = [.ref h, .int m, .int wd] ∧ 0 ≤ m ∧ m ≤ 6 ∧ 0 < wd ∧ wd.natAbs.log2 < 9000 ∧ Dr H h c ∧
  ∀ (v : V) (os : List Int) (H' : Hp), TiA K H' v os → Good os (wd - 1) → os.length ≤ m → Dr H' h c → Kp h c H H' → Q v H'
def spSpo (K : PySem.W.Frag) : Sp := fun vs H Q _ => ∃ (h c : Addr) (v : V) (ns : List Int), vs = [.ref h, v] ∧ TiA K H v ns ∧ ns.length ≤ 20 ∧ Dr H h c ∧
  ∀ (u : V) (ms : List Int) (H' : Hp), TiA K H' u ms → ms.length ≤ 50 → Dr H' h c → Kp h c H H' → Q u H'
section
variable {P : Program} {w : World} {K : PySem.W.Frag} {mg : Str → Option Value} {base : Heap} {fN : Addr} {fdN : FuncData}
theorem ok_odd {f : Addr} {fd : FuncData} {k : Nat} (F : Fun K "_law_odd" "_law_odd" sOdd f fd) (T : TNx K mg fN fdN) (mR : mg "range" = none) (mT : mg "tuple" = none) (mS : mg "sorted" = none) (mE : mg "set" = none) : FnOk P w K mg base CX0 (k + 2) f fd ["_law_h", "_law_most", "_law_wide"] (spOdd K) := by
  refine F.ok scOdd (fun vs H Q E h => ?_) (fun cdv A outer s H vs Q E hr h => ?_)
  · obtain ⟨h, c, m, wd, rfl, _⟩ := h
    rfl
  · obtain ⟨h, c, m, wd, rfl, m0, m6, w0, wl, d, q⟩ := h
    have h1 := hr.mono (show 1 ≤ k + 1 by omega)
    refine ⟨_, pss_one (ps_ret (pe_callTy call_tuple_of (by rfl) mT (by rfl) (pa_cons (pe_callB (cr_sortedSet rfl) (by rfl) mS (by decide +kernel) (pa_cons (pe_callTy (cr_setL rfl) (by rfl) mE (by decide +kernel) (pa_cons
      (pe_lc (own := [("_law_k", 3)]) (g := gName 3) (by rfl) scOdd.nd (pi_range1 (by rfl) mR (pa_cons (pe_next T h1 (by rfl) (pv 0) (pe_op op_add (pv 1) pe_int)) pa_nil))
        (blkOk_by (own := [("_law_k", 3)]) (N := ["_law_h", "_law_most", "_law_wide", "_law_k"]) (sc := defScope sOdd) (by decide +kernel)) (fun _ _ _ _ _ => pg_name (i := 3) scOdd.nd rfl (Or.inl rfl)) (fun _ _ _ _ _ => pts_nil)
        (fun _ _ _ _ _ => pe_next T h1 (by rfl) (pv 0) (pv 2))) pa_nil)) pa_nil)) pa_nil))), ?_⟩
    have lm : (m + 1).natAbs.log2 < 9000 := Nat.lt_of_le_of_lt (Nat.log2_le_self _) (by omega)
    refine ⟨_, rfl, _, rfl, _, _, rfl, rfl, h, c, m + 1, rfl, by omega, lm, d, fun x H1 x0 x1 d1 k1 => ?_⟩
    refine ⟨x, rfl, by omega, by omega, fun D nD => ?_⟩
    have nn := d1.nh nD
    refine lc_range (lo := 0) (n := x.toNat) (fun i H' => ∃ xs : List Int, Dr H' h c ∧ Kp h c H1 H' ∧ H' D = some (.lst (xs.map V.int)) ∧ (∀ y ∈ xs, 0 ≤ y ∧ y < wd) ∧ xs.length = i) ⟨[], d1.new nD, Kp.new nD, upd_same, fun y hy => by simp at hy, rfl⟩ ?_ ?_
    · rintro i H' hi ⟨xs, d2, k2, hD, hb, hl⟩
      refine ⟨rfl, ?_⟩
      refine ⟨_, rfl, _, rfl, h, c, wd, rfl, w0, wl, d2, fun y H3 y0 y1 d3 k3 => ?_⟩
      have hD3 := k3 _ _ hD nn.1 nn.2
      refine ⟨_, hD3, by rw [List.length_map]; exact small1000 (by omega), xs ++ [y], ?_, ?_, ?_, ?_, ?_⟩
      · obtain ⟨n0, mm, kk, ns, f1, f2, f3⟩ := d3
        exact ⟨n0, mm, kk, ns, by rw [upd_ne nn.1.symm]; exact f1, by rw [upd_ne nn.2.symm]; exact f2, f3⟩
      · intro b o e n1 n2
        rw [upd_ne (ne_of_none e nD)]
        exact (k2.trans k3) b o e n1 n2
      · rw [upd_same, List.map_append]
        rfl
      · intro z hz
        rcases List.mem_append.mp hz with hz | hz
        · exact hb z hz
        · rw [List.mem_singleton.mp hz]
          exact ⟨y0, y1⟩
      · rw [List.length_append, List.length_singleton, hl]
    · rintro H' ⟨xs, d2, k2, hD, hb, hl⟩
      have few : xs.length ≤ 6 := by omega
      refine ⟨D, xs, rfl, .of hD, by omega, fun a n na le => ?_⟩
      refine ⟨a, _, n, rfl, upd_same, by omega, fun ms p rising mem len np => ?_⟩
      refine ⟨p, _, rfl, .inl ⟨.of upd_same, fun l nl => ?_⟩⟩
      refine q _ ms _ ⟨l, rfl, .of upd_same⟩ (good_iff.mpr ⟨rising, fun z hz => ?_⟩) (by omega) (((d2.new na).new np).new nl) ((((k1.trans k2).trans (Kp.new na)).trans (Kp.new np)).trans (Kp.new nl))
      have := hb z (of_decide_eq_true ((mem z).mp hz))
      omega
end
end Sea

set_option Elab.async false
set_option linter.all false
set_option maxRecDepth 100000
set_option maxHeartbeats 4000000
/-! a written list, an item of it drawn -/
namespace Sea
open PySem PySem.Spec PyProof.Rows L2 LamX NdefX ClX Evl StX
def EvAll (ta : TA) (σ : L2.St) (H : Hp) (n : Nat) (R : V → Hp → Prop) : Prop := ∀ H1, Ex H H1 → ∀ Q : List V → Hp → Prop, (∀ vs H2, Ex H1 H2 → vs.length = n → (∀ v ∈ vs, R v H2) → Q vs H2) → ta σ H1 Q
section
variable {K : PySem.W.Frag} {σ : L2.St} {H : Hp} {ta : TA} {te tb tx ty : TE} {R : V → Hp → Prop} {h c : Addr} {n : Nat} {Q : VK}
theorem evall_nil : EvAll tNil σ H 0 R := fun H1 _ Q q => q [] H1 (Ex.refl _) rfl fun v hv => by simp at hv
theorem evall_cons (stay : ∀ v H H', Ex H H' → R v H → R v H') (hx : EvD te σ H R) (hr : EvAll ta σ H n R) : EvAll (tCons te ta) σ H (n + 1) R := fun H1 e Q q =>
  hx H1 e _ fun v H2 e2 r => hr H2 (e.trans e2) _ fun vs H3 e3 len all => q (v :: vs) H3 (e2.trans e3) (by rw [List.length_cons, len]) fun u hu => (List.mem_cons.mp hu).elim (fun z => z ▸ stay _ _ _ e3 r) (all u)
theorem evall_of {vs : List V} (he : EvA ta σ H vs) (hn : vs.length = n) (all : ∀ v ∈ vs, ∀ H', R v H') : EvAll ta σ H n R := fun H1 e Q q => he H1 e _ fun H2 e2 => q vs H2 e2 hn fun v hv => all v hv H2
/-- the draw of an index -/
theorem nx_in {i : Nat} {m : Int} (hs : σ[i]? = some (some (.ref h))) (m0 : 0 < m) (ml : m.natAbs.log2 < 9000) (d : Dr H h c) (k : ∀ j : Nat, (j : Int) < m → ∀ H2, Dr H2 h c → Kp h c H H2 → Q (.int j) H2) : tCall spNext [] E0 (tCons (tVar i) (tCons (tC (.int m)) tNil)) σ H Q := by
  refine ⟨_, hs, h, c, m, rfl, m0, ml, d, fun j H2 j0 j1 d2 k2 => ?_⟩
  obtain ⟨z, rfl⟩ := Int.eq_ofNat_of_zero_le j0
  exact k z j1 H2 d2 k2
/-- [..][index]: the item has what all items have -/
theorem pick_in (stay : ∀ v H H', Ex H H' → R v H → R v H') (keep : ∀ v H H', Dr H h c → Kp h c H H' → R v H → R v H') (ea : EvAll ta σ H n R) (few : n ≤ 1000) (d : Dr H h c)
    (ib : ∀ (H1 : Hp) (Q1 : VK), Dr H1 h c → Kp h c H H1 → (∀ j : Nat, j < n → ∀ H2, Dr H2 h c → Kp h c H1 H2 → Q1 (.int j) H2) → tb σ H1 Q1) (k : ∀ v H', R v H' → Dr H' h c → Kp h c H H' → Q v H') : tOp (rIxL K) (tLst ta) tb σ H Q := by
  refine ea H (Ex.refl _) _ fun vs H2 e2 len all => ⟨Nat.le_of_lt (small1000 (by rw [len]; exact few)), fun l nl => ?_⟩
  have d2 := (d.same e2).new (o := .lst vs) nl
  have nn := (d.same e2).nh nl
  refine ib _ _ d2 ((Kp.same e2).trans (Kp.new nl)) fun j lt H3 d3 k3 => ?_
  have at_ : vs[j]? = some vs[j] := List.getElem?_eq_getElem (by omega)
  refine ⟨l, vs, j, vs[j], rfl, rfl, .of (k3 _ _ upd_same nn.1 nn.2), at_nat (by omega) at_, ?_⟩
  exact k _ H3 (keep _ _ _ d2 k3 (stay _ _ _ (Ex.new nl) (all _ (List.getElem_mem _)))) d3 (((Kp.same e2).trans (Kp.new nl)).trans k3)
/-- .. of ints -/
theorem pick_ints {ns : List Int} (ea : EvA ta σ H (ns.map V.int)) (few : ns.length ≤ 1000) (d : Dr H h c)
    (ib : ∀ (H1 : Hp) (Q1 : VK), Dr H1 h c → Kp h c H H1 → (∀ j : Nat, j < ns.length → ∀ H2, Dr H2 h c → Kp h c H1 H2 → Q1 (.int j) H2) → tb σ H1 Q1) (k : ∀ x, x ∈ ns → ∀ H', Dr H' h c → Kp h c H H' → Q (.int x) H') : tOp (rIxL K) (tLst ta) tb σ H Q :=
  pick_in (R := fun v _ => ∃ x ∈ ns, v = .int x) (fun _ _ _ _ r => r) (fun _ _ _ _ _ r => r) (evall_of ea (List.length_map ..) fun v hv _ => by
    obtain ⟨x, hx, rfl⟩ := List.mem_map.mp hv
    exact ⟨x, hx, rfl⟩) few d ib fun v H' ⟨x, hx, e⟩ d' k' => e ▸ k x hx H' d' k'
theorem TiA.kp {ns : List Int} {v : V} {H H' : Hp} (t : TiA K H v ns) (d : Dr H h c) (k : Kp h c H H') : TiA K H' v ns := t.tk (d.tk k)
/-- a tuple of at most so many ints -/
def Few (K : PySem.W.Frag) (m : Nat) (v : V) (H : Hp) : Prop := ∃ ns, TiA K H v ns ∧ ns.length ≤ m
theorem ei_sl {ns : List Int} {tl th : L2.TO} {lo hi : Option Int} (hx : EvD te σ H fun v H => TiA K H v ns) (h1 : ∀ H1, Ex H H1 → EvO tl σ H1 lo) (h2 : ∀ H1, Ex H H1 → EvO th σ H1 hi) : EvD (tSl (rSlA K) te tl th) σ H fun v H => TiA K H v (cutP ns lo hi) := by
  intro H1 e Q q
  refine hx H1 e _ fun v H2 e2 hv => h1 H2 (e.trans e2) H2 (Ex.refl _) _ fun H3 e3 => h2 H3 ((e.trans e2).trans e3) H3 (Ex.refl _) _ fun H4 e4 => ?_
  obtain ⟨a, rfl, ha⟩ := hv.tk (.same (e3.trans e4))
  have e14 := e2.trans (e3.trans e4)
  refine ⟨a, _, rfl, ha, fun hw => q _ _ e14 ⟨a, rfl, ?_⟩, fun _ p np => q _ _ (e14.trans (Ex.new np)) ⟨p, rfl, .of ?_⟩⟩
  · rw [List.length_map] at hw
    rw [cutP_all ns lo hi hw]
    exact ha
  · rw [upd_same]
    unfold cutV cutP
    rw [List.length_map, List.map_take, List.map_drop]
theorem ei_rev {ns : List Int} (hx : EvD te σ H fun v H => TiA K H v ns) : EvD (tRevT K te) σ H fun v H => TiA K H v ns.reverse := by
  intro H1 e Q q
  refine hx H1 e _ fun v H2 e2 hv => ?_
  obtain ⟨a, rfl, ha⟩ := hv
  exact ⟨a, _, rfl, ha, fun p np => q _ _ (e2.trans (Ex.new np)) ⟨p, rfl, .of (by rw [upd_same, List.map_reverse])⟩⟩
theorem rg_ints (n : Nat) : rgV 0 (n : Int) = ((List.range n).map fun (i : Nat) => (i : Int)).map V.int := by
  unfold rgV
  rw [List.map_map, Int.sub_zero, Int.toNat_natCast]
  refine List.map_congr_left fun i _ => ?_
  show V.int (0 + (i : Int)) = V.int (i : Int)
  rw [Int.zero_add]
theorem ei_rg {m : Nat} (few : m ≤ 1000) : EvD (tTupRg (tRg1 (tC (.int (m : Nat))))) σ H fun v H => TiA K H v ((List.range m).map fun (i : Nat) => (i : Int)) := fun H1 e Q q =>
  ⟨_, rfl, RgOk.of_le (Int.le_refl _) (by omega) (by decide) (by omega), fun p np => q _ _ (Ex.new np) ⟨p, rfl, .of (by rw [upd_same, rg_ints])⟩⟩
end
end Sea

set_option Elab.async false
set_option linter.all false
set_option maxRecDepth 100000
set_option maxHeartbeats 4000000
namespace Sea
open PySem PySem.Spec PyProof.Rows L2 LamX NdefX ClX Evl StX
/-- the odd numbers of _law_spoilt -/
def spoT : TA := tCons (tMn (tI 1)) (tCons (tI 0) (tCons (tI 13) (tCons (tI 14) (tCons (tOp rPw (tI 10) (tI 18)) (tCons (tOp rAd (tOp rPw (tI 10) (tI 18)) (tI 1)) tNil)))))
theorem spo_ev (σ : L2.St) (H : Hp) : ∃ ns : List Int, ns.length = 6 ∧ EvA spoT σ H (ns.map V.int) :=
  ⟨[_, _, _, _, _, _], rfl, ea_cons (ev_mn ev_tI) (ea_cons ev_tI (ea_cons ev_tI (ea_cons ev_tI (ea_cons (ev_pw ev_tI ev_tI ⟨by decide, by decide, by decide⟩) (ea_cons (ev_ad (ev_pw ev_tI ev_tI ⟨by decide, by decide, by decide⟩) ev_tI) ea_nil)))))⟩
section
variable {P : Program} {w : World} {K : PySem.W.Frag} {mg : Str → Option Value} {base : Heap} {fN : Addr} {fdN : FuncData}
theorem ok_spo {f : Addr} {fd : FuncData} {k : Nat} (F : Fun K "_law_spoilt" "_law_spoilt" sSpo f fd) (T : TNx K mg fN fdN) (mR : mg "range" = none) (mT : mg "tuple" = none) : FnOk P w K mg base CX0 (k + 2) f fd ["_law_h", "_law_numbers"] (spSpo K) := by
  refine F.ok scSpo (fun vs H Q E h => ?_) (fun cdv A outer s H vs Q E hr h => ?_)
  · obtain ⟨h, c, v, ns, rfl, _⟩ := h
    rfl
  · obtain ⟨h, c, v, ns, rfl, hv, few, d, q⟩ := h
    have h1 := hr.mono (show 1 ≤ k + 1 by omega)
    refine ⟨_, pss_cons (ps_set (i := 2) scSpo.nd rfl (.inl rfl) (pe_next T h1 (by rfl) (pv 0) (pe_op op_add (pe_callB call_len_seq (by rfl) T.mN PySem.boot_len (pa_cons (pv 1) pa_nil)) pe_int)))
      (pss_cut (ps_set (i := 3) scSpo.nd rfl (.inl rfl) (pe_ixl (pe_lst (pa_cons (pe_un un_neg pe_int) (pa_cons pe_int (pa_cons pe_int (pa_cons pe_int (pa_cons (pe_op op_pow pe_int pe_int) (pa_cons (pe_op op_add (pe_op op_pow pe_int pe_int) pe_int) pa_nil))))))) (pe_next T h1 (by rfl) (pv 0) pe_int)))
      (pss_one (ps_ret (pe_ixl (pe_lst (pa_cons (pe_op op_catA (pe_op op_catA (pe_slice sl_tupA (pv 1) po_none (po_some (pv 2))) (pe_tup (pa_cons (pv 3) pa_nil))) (pe_slice sl_tupA (pv 1) (po_some (pv 2)) po_none)) (pa_cons (pe_revT (pv 1))
        (pa_cons (pe_op op_catA (pv 1) (pe_slice sl_tupA (pv 1) po_none (po_some pe_int))) (pa_cons (pe_tupRg rfl (by rfl) mT (prg_1 (by rfl) mR pe_int)) pa_nil))))) (pe_next T h1 (by rfl) (pv 0) pe_int))))), ?_⟩
    obtain ⟨p, rfl, hp⟩ := id hv
    have hl : (ns.map V.int).length = ns.length := List.length_map ..
    refine ⟨_, rfl, _, rfl, p, _, rfl, .inr hp, _, _, rfl, rfl, h, c, _, rfl, by rw [hl]; omega, Nat.lt_of_le_of_lt (Nat.log2_le_self _) (by rw [hl]; omega), d, fun x H1 x0 x1 d1 k1 => ?_⟩
    obtain ⟨j, rfl⟩ := Int.eq_ofNat_of_zero_le x0
    have hv1 := hv.kp d k1
    refine ⟨fun σ H' => ∃ y : Int, σ = ([some (.ref h), some (.ref p), some (.int (j : Nat)), some (.int y)] : L2.St) ∧ TiA K H' (.ref p) ns ∧ Dr H' h c ∧ Kp h c H H', ?_, ?_⟩
    · obtain ⟨os, len, ev⟩ := spo_ev ([some (.ref h), some (.ref p), some (.int (j : Nat)), none] : L2.St) H1
      show tOp (rIxL K) (tLst spoT) (tCall spNext [] E0 (tCons (tVar 0) (tCons (tC (.int 6)) tNil))) _ H1 _
      refine pick_ints ev (by omega) d1 (fun H2 Q2 d2 _ k2 => nx_in rfl (by decide) (by decide) d2 fun z lt => k2 z (by omega)) fun y _ H3 d3 k3 => ⟨y, rfl, hv1.kp d1 k3, d3, k1.trans k3⟩
    rintro σ H2 ⟨y, rfl, hv2, d2, k2⟩
    refine pick_in (n := 4) (R := Few K 50) (fun v H H' e ⟨ms, a, b⟩ => ⟨ms, a.tk (.same e), b⟩) (fun v H H' d k ⟨ms, a, b⟩ => ⟨ms, a.kp d k, b⟩) ?_ (by decide) d2 (fun H3 Q3 d3 _ k3 => nx_in rfl (by decide) (by decide) d3 fun z lt => k3 z (by omega)) fun v H3 ⟨ms, a, b⟩ d3 k3 => q v ms H3 a b d3 (k2.trans k3)
    have stay : ∀ (v : V) (H H' : Hp), Ex H H' → Few K 50 v H → Few K 50 v H' := fun v H H' e ⟨ms, a, b⟩ => ⟨ms, a.tk (.same e), b⟩
    have me : EvD (tVar 1) ([some (.ref h), some (.ref p), some (.int (j : Nat)), some (.int y)] : L2.St) H2 fun v H => TiA K H v ns := ei_var rfl hv2
    refine evall_cons stay (ei_imp (ei_cat (ei_cat (ei_sl (lo := none) (hi := some (j : Int)) me (fun _ _ => eo_none) fun _ _ => eo_some (ev_var rfl)) (ei_one (x := y) (ev_var rfl)) ?_) (ei_sl (lo := some (j : Int)) (hi := none) me (fun _ _ => eo_some (ev_var rfl)) fun _ _ => eo_none) ?_) fun v H t => ⟨_, t, ?_⟩)
      (evall_cons stay (ei_imp (ei_rev me) fun v H t => ⟨_, t, ?_⟩) (evall_cons stay (ei_imp (ei_cat me (ei_sl (lo := none) (hi := some ((1 : Nat) : Int)) me (fun _ _ => eo_none) fun _ _ => eo_some ev_c) ?_) fun v H t => ⟨_, t, ?_⟩) (evall_cons stay (ei_imp (ei_rg (m := 7) (by decide)) fun v H t => ⟨_, t, by decide⟩) evall_nil)))
    all_goals simp only [cutP_to, cutP_from, List.length_append, List.length_take, List.length_drop, List.length_singleton, List.length_reverse]
    all_goals omega
end
end Sea

set_option Elab.async false
set_option linter.all false
set_option maxRecDepth 100000
set_option maxHeartbeats 4000000
namespace Sea
open PySem PySem.Spec PyProof.Rows L2 LamX NdefX ClX Evl StX
abbrev sEr : Stmt := top 30
abbrev sDa : Stmt := top 31
abbrev sLaw : Stmt := top 32
/-- all that the law leans on -/
structure Gd (K : PySem.W.Frag) (mg : Str → Option Value) where
  C : Addr
  cP : Addr
  fV : Addr
  fVN : Addr
  fVC : Addr
  fT : Addr
  fTo : Addr
  fIs : Addr
  fCt : Addr
  fTd : Addr
  fWx : Addr
  fRl : Addr
  pRl : Addr
  fRd : Addr
  pRd : Addr
  fEx : Addr
  pEx : Addr
  fN : Addr
  fA : Addr
  fMx : Addr
  fErr : Addr
  fPat : Addr
  fOdd : Addr
  fBad : Addr
  fTrv : Addr
  fSpo : Addr
  Pe : Addr
  Pt : Addr
  cs : Nat → Addr
  mp : Value
  fdV : FuncData
  dVN : FuncData
  dVC : FuncData
  dT : FuncData
  dTo : FuncData
  dIs : FuncData
  dCt : FuncData
  dTd : FuncData
  dWx : FuncData
  dRl : FuncData
  dRd : FuncData
  dEx : FuncData
  dN : FuncData
  dA : FuncData
  dMx : FuncData
  dErr : FuncData
  dPat : FuncData
  dOdd : FuncData
  dBad : FuncData
  dTrv : FuncData
  dSpo : FuncData
  T : TEv K mg (cs 1) (cs 2) cP fV fdV mp
  W : TTv K mg C fVN fVC dVN dVC
  R : TPr K C fRl pRl fRd pRd fEx pEx dRl dRd dEx
  mkT : Mk K C fT
  uT : Fun K "__init__" "Travel.__init__" sTvI fT dT
  mTo : Meth K C "travels_on" fTo
  uTo : Fun K "travels_on" "Travel.travels_on" sTo fTo dTo
  mIs : Meth K C "is_travel_day" fIs
  uIs : Fun K "is_travel_day" "Travel.is_travel_day" sIs fIs dIs
  mCt : Meth K C "count_travel_days" fCt
  uCt : Fun K "count_travel_days" "Travel.count_travel_days" sCt fCt dCt
  mTd : Meth K C "travel_days" fTd
  uTd : Fun K "travel_days" "Travel.travel_days" sTd fTd dTd
  mWx : Meth K C "with_exception" fWx
  uWx : Fun K "with_exception" "Travel.with_exception" sWx fWx dWx
  N : TNx K mg fN dN
  A : TAl K mg fA dA
  E : TEr K mg cP cs
  gMx : mg "_law_mix" = some (.ref fMx)
  kMx : PySem.W.keepIn K (.ref fMx) = true
  uMx : Fun K "_law_mix" "_law_mix" sMix fMx dMx
  gErr : mg "_law_error" = some (.ref fErr)
  kErr : PySem.W.keepIn K (.ref fErr) = true
  uErr : Fun K "_law_error" "_law_error" sErr fErr dErr
  gPat : mg "_law_pattern" = some (.ref fPat)
  kPat : PySem.W.keepIn K (.ref fPat) = true
  uPat : Fun K "_law_pattern" "_law_pattern" sPat fPat dPat
  gOdd : mg "_law_odd" = some (.ref fOdd)
  kOdd : PySem.W.keepIn K (.ref fOdd) = true
  uOdd : Fun K "_law_odd" "_law_odd" sOdd fOdd dOdd
  gBad : mg "_law_bad" = some (.ref fBad)
  kBad : PySem.W.keepIn K (.ref fBad) = true
  uBad : Fun K "_law_bad" "_law_bad" sBad fBad dBad
  gTrv : mg "_law_travels" = some (.ref fTrv)
  kTrv : PySem.W.keepIn K (.ref fTrv) = true
  uTrv : Fun K "_law_travels" "_law_travels" sTrv fTrv dTrv
  gSpo : mg "_law_spoilt" = some (.ref fSpo)
  kSpo : PySem.W.keepIn K (.ref fSpo) = true
  uSpo : Fun K "_law_spoilt" "_law_spoilt" sSpo fSpo dSpo
  mI : mg "int" = none
  mR : mg "range" = none
  mT : mg "tuple" = none
  mS : mg "sorted" = none
  mE : mg "set" = none
  mMin : mg "min" = none
  mL : mg "list" = none
section
variable {K : PySem.W.Frag} {mg : Str → Option Value}
theorem Gd.bMx (G : Gd K mg) : Binds K G.dMx ["_law_script", "_law_seed"] [] := G.uMx.binds (ps := ["_law_script", "_law_seed"]) fun _ _ _ _ _ _ us hl => match us, hl with | [_, _], _ => rfl
theorem Gd.bPat (G : Gd K mg) : Binds K G.dPat ["_law_h", "_law_most"] [] := G.uPat.binds (ps := ["_law_h", "_law_most"]) fun _ _ _ _ _ _ us hl => match us, hl with | [_, _], _ => rfl
theorem Gd.bOdd (G : Gd K mg) : Binds K G.dOdd ["_law_h", "_law_most", "_law_wide"] [] := G.uOdd.binds (ps := ["_law_h", "_law_most", "_law_wide"]) fun _ _ _ _ _ _ us hl => match us, hl with | [_, _, _], _ => rfl
theorem Gd.bBad (G : Gd K mg) : Binds K G.dBad ["_law_numbers", "_law_largest", "_law_most"] [] := G.uBad.binds (ps := ["_law_numbers", "_law_largest", "_law_most"]) fun _ _ _ _ _ _ us hl => match us, hl with | [_, _, _], _ => rfl
theorem Gd.bTrv (G : Gd K mg) : Binds K G.dTrv ["_law_pattern_here", "_law_odd_here", "_law_day"] [] := G.uTrv.binds (ps := ["_law_pattern_here", "_law_odd_here", "_law_day"]) fun _ _ _ _ _ _ us hl => match us, hl with | [_, _, _], _ => rfl
theorem Gd.bSpo (G : Gd K mg) : Binds K G.dSpo ["_law_h", "_law_numbers"] [] := G.uSpo.binds (ps := ["_law_h", "_law_numbers"]) fun _ _ _ _ _ _ us hl => match us, hl with | [_, _], _ => rfl
theorem Gd.bIs (G : Gd K mg) : Binds K G.dIs ["self", "day"] [] := G.uIs.binds (ps := ["self", "day"]) fun _ _ _ _ _ _ us hl => match us, hl with | [_, _], _ => rfl
theorem Gd.bCt (G : Gd K mg) : Binds K G.dCt ["self", "count"] [] := G.uCt.binds (ps := ["self", "count"]) fun _ _ _ _ _ _ us hl => match us, hl with | [_, _], _ => rfl
theorem Gd.bTd (G : Gd K mg) : Binds K G.dTd ["self", "first", "last"] [] := G.uTd.binds (ps := ["self", "first", "last"]) fun _ _ _ _ _ _ us hl => match us, hl with | [_, _, _], _ => rfl
theorem Gd.bWx (G : Gd K mg) : Binds K G.dWx ["self", "day"] [] := G.uWx.binds (ps := ["self", "day"]) fun _ _ _ _ _ _ us hl => match us, hl with | [_, _], _ => rfl
end
/-! ### lambdas by their places -/
def retE : Stmt → Expr
  | .Return (some e) _ => e
  | _ => noE
def mkF (q : Str) (e : Expr) (cl : List (Str × Addr)) (c : Addr) (dV : Value) : LF := ⟨q, lamP e, lamB e, lamS e, cl, c, dV⟩
theorem dv_none {q : Str} {e : Expr} {cl : List (Str × Addr)} {c : Addr} {H : Hp} : DvOk (mkF q e cl c .none) H := fun t z => by
  have z' : Value.none = Value.ref t := z
  cases z'
def qEr : Str := (envOfC "_law_errors_right" (defScope sEr) 0 0 .none).qual ++ "<lambda>"
def qLam : Str := (envOfC "law" (defScope sLaw) 0 0 .none).qual ++ "<lambda>"
abbrev lamE : Expr := callA (cmpL (retE ((defBody sEr).getD 7 noS)))
theorem scLE : NScope ["_law_length", "_law_days", "_law_odd_here"] [] ["_law_length", "_law_days", "_law_odd_here"] (lamS lamE) := nscope_by (by decide +kernel)
theorem hfE : ∀ y ∈ (lamS lamE).names, y.2 = .free → (defScope sEr).names.lookup y.1 = some .cell ∨ (defScope sEr).names.lookup y.1 = some .free := by decide +kernel
theorem hrE : ∀ y ∈ (["_law_length", "_law_days", "_law_odd_here"] : List Str), (y, NameKind.free) ∈ (lamS lamE).names := by decide +kernel
theorem scEr : FnScope ["_law_h", "_law_length", "_law_days", "_law_odd_here", "_law_due"] ["_law_h"] (defScope sEr) := ⟨rfl, rfl, rfl, by decide +kernel, rfl, by decide +kernel, by decide +kernel⟩
/-- the two tables of code objects -/
abbrev Gd.tb {K : PySem.W.Frag} {mg : Str → Option Value} (G : Gd K mg) : List (Addr × Str) := [(G.Pe, qEr), (G.Pt, qLam)]
/-- Travel(length, days, exceptions=odd) as the thunk has it -/
def tsE (K : PySem.W.Frag) (cV : Addr) : TSp := fun ws H Q E => ∃ (ln : Int) (d o : V) (ds os : List Int), ws = [some (.int ln), some d, some o] ∧ TiA K H d ds ∧ TiA K H o os ∧ ds.length ≤ 1000 ∧ os.length ≤ 1000 ∧ (tbad ln ds os = none → ∀ a H', Same H H' → Q (.ref a) H') ∧
  (∀ pt i dd H', tbad ln ds os = some (pt, i) → Same H H' → H' dd = some (.xd [("index", .int (i : Nat)), ("part", .str pt)]) → E (.ref cV) (some dd) H')
def errTV : Option (Str × Nat) → List V
  | none => [.str "none"]
  | some (p, i) => [.str "travel", .str p, .int (i : Nat)]
def errTD : Option (Str × Nat) → PyData
  | none => .tuple [.str "none"]
  | some (p, i) => .tuple [.str "travel", .str p, .int (i : Nat)]
theorem errTDp {K : PySem.W.Frag} {H : Hp} {p : Addr} : ∀ o : Option (Str × Nat), H p = some (.tup (errTV o)) → Dp K H (.ref p) (errTD o)
  | none, h => .tup (.of h) (.cons (.str _) .nil)
  | some (q, i), h => .tup (.of h) (.cons (.str _) (.cons (.str _) (.cons (.int _) .nil)))
section
variable {P : Program} {w : World} {K : PySem.W.Frag} {mg : Str → Option Value} {base : Heap}
theorem lokE {f c : Addr} {cl : List (Str × Addr)} (G : Gd K mg) : LOk P w K mg base (L2.CX P w) 7 f (mkF qEr lamE cl c .none) ["_law_length", "_law_days", "_law_odd_here"] (tsE K (G.cs 1)) := by
  refine lok_of0 (k := 6) scLE (fun _ _ _ => rfl) fun A outer s H ws Q E hr hl h => ?_
  obtain ⟨ln, d, o, ds, os, rfl, hd, ho, ld, lo, q1, q2⟩ := h
  refine ⟨_, pe_makeK (E := E) G.mkT (ok_tvI G.uT G.T G.W) hr (by rfl) G.W.gC (kb_tvI G.uT) (passes_call (takes_of rfl rfl rfl rfl) (fun _ _ _ _ h => h)) (pa_cons (pv 0) (pa_cons (pv 1) pa_nil)) (pk_cons (pv 2) pk_nil), ?_⟩
  exact ⟨_, rfl, _, rfl, _, rfl, tv_mk hd ho ld lo (fun hb a H' sm _ _ => q1 hb a H' sm) q2⟩
end
end Sea

set_option Elab.async false
set_option linter.all false
set_option maxRecDepth 100000
set_option maxHeartbeats 4000000
namespace Sea
open PySem PySem.Spec PyProof.Rows L2 LamX NdefX ClX Evl StX
theorem pw18 : (10 : Int) ^ (18 : Int).toNat = 1000000000000000000 := by decide +kernel
theorem errTSh : ∀ o : Option (Str × Nat), (∀ p i, o = some (p, i) → p = "length" ∨ p = "days" ∨ p = "exceptions") → SeqAt.shaped (errTD o) = true
  | none, _ => by decide +kernel
  | some (p, i), h => by
    rcases h p i rfl with rfl | rfl | rfl <;>
    · show (((PyData.canLay0 (.str "travel")) && ((PyData.canLay0 (.str _)) && (true && true))) && decide (max (PyData.depth (.str "travel")) (max (PyData.depth (.str _)) (max 0 0)) + 1 ≤ 64)) = true
      decide +kernel
theorem tbad_part {ln : Int} {ds os : List Int} {p : Str} {i : Nat} (h : tbad ln ds os = some (p, i)) : p = "length" ∨ p = "days" ∨ p = "exceptions" := by
  unfold tbad at h
  split at h
  · split at h
    · cases h
      exact .inr (.inl rfl)
    · split at h
      · cases h
        exact .inr (.inr rfl)
      · cases h
  · cases h
    exact .inl rfl
def spEr (T : List (Addr × Str)) : Sp := fun vs H Q _ => ∃ (h c : Addr), vs = [.ref h] ∧ Dr H h c ∧ Tabs T H ∧ ∀ H', Dr H' h c → Tabs T H' → Q (.bl true) H'
section
variable {K : PySem.W.Frag} {σ : L2.St} {H : Hp} {tx ta tb : TE}
theorem ev_bad {v : V} {ns : List Int} {lg mo : Int} (hx : Ev tx σ H v) (ha : Ev ta σ H (.int lg)) (hb : Ev tb σ H (.int mo)) (t : TiA K H v ns) (few : ns.length ≤ 1000) : Ev (tCall (spBad K) [] E0 (tCons tx (tCons ta (tCons tb tNil)))) σ H (opV (vbad ns lg mo)) :=
  ev_call (vs := [v, .int lg, .int mo]) (ea_cons hx (ea_cons ha (ea_cons hb ea_nil))) fun H1 e1 Q q E => ⟨v, ns, lg, mo, rfl, t.tk (.same e1), few, fun H2 s2 => q H2 s2⟩
theorem et_notN {v : V} (hx : Ev tx σ H v) : EvT (tTest (tOp (fun x y H Q => y = .non ∧ Q (.bl (!decide (x = .non))) H) tx (tC .non))) σ H (!decide (v = .non)) :=
  et_test (ev_op hx ev_c (fun H3 _ Q3 q3 => ⟨rfl, q3 H3 (Ex.refl _)⟩))
theorem opV_non : ∀ o : Option Nat, (!decide (opV o = .non)) = o.isSome
  | none => rfl
  | some _ => rfl
end
section
variable {P : Program} {w : World} {K : PySem.W.Frag} {mg : Str → Option Value} {base : Heap}
theorem ok_er {f cc : Addr} {oc kV doc pm ct : Value} {od an : Option Addr} {osl : Array (Option Value)} (G : Gd K mg) (lk : K.lookup f = some ⟨oc, od, .func (PySem.W.fnOf "_law_errors_right" "_law_errors_right" (defArgs sEr) (defBody sEr) (defScope sEr) .none kV doc pm an (.ref cc) ct), osl⟩)
    (hcd : PySem.W.codeIn K (.ref cc) "_law_errors_right" = true) (TB : TabB base mg cc G.Pe) (ne : G.Pe ≠ G.Pt) : FnOk P w K mg base CX0 9 f (PySem.W.fnOf "_law_errors_right" "_law_errors_right" (defArgs sEr) (defBody sEr) (defScope sEr) .none kV doc pm an (.ref cc) ct) ["_law_h"] (spEr G.tb) := by
  have hTm : (G.Pe, qEr) ∈ G.tb := List.mem_cons_self
  have hTu : ∀ p ∈ G.tb, p.1 = G.Pe → p.2 = qEr := fun p hp e => by
    rcases List.mem_cons.mp hp with rfl | hp
    · rfl
    · rw [List.mem_singleton.mp hp] at e
      exact absurd e.symm ne
  refine fn_of (N := ["_law_h", "_law_length", "_law_days", "_law_odd_here", "_law_due"]) lk hcd scEr (fun vs H Q E h => ?_) (fun A outer s H vs Q E hr h => ?_)
  · obtain ⟨h, c, rfl, _⟩ := h
    rfl
  · have hu := hr.units
    have h1 := hr.mono (show 1 ≤ 8 by decide)
    have h2 := hr.mono (show 2 ≤ 8 by decide)
    have h8 := hr.mono (show 8 ≤ 8 by decide)
    suffices hh : ∃ t, PSs (cxOf CX0 P w K mg base ["_law_h", "_law_length", "_law_days", "_law_odd_here", "_law_due"] "_law_errors_right" (defScope sEr) f (.ref cc) A outer s H E).nox (defBody sEr) t ∧ t { nx := fun _ H' => Q .non H', rt := Q } (start ["_law_h", "_law_length", "_law_days", "_law_odd_here", "_law_due"] vs) H by
      obtain ⟨t, ht, hq⟩ := hh
      exact ⟨t, ht.nox, hq⟩
    refine ⟨_, pss_cut (ps_asg (pe_call (E := E0) (ok_pat (k := 0) G.uPat G.N G.mR G.mT) h2 (by rfl) G.gPat G.kPat G.bPat .nil pass0 (pa_cons (pv 0) (pa_cons pe_int pa_nil))) (pg_tup rfl (pgs_cons (pg_name (i := 1) scEr.nd rfl (.inr rfl)) (pgs_cons (pg_name (i := 2) scEr.nd rfl (.inr rfl)) pgs_nil))))
      (pss_cut (ps_set (i := 3) scEr.nd rfl (.inr rfl) (pe_call (E := E0) (ok_odd (k := 0) G.uOdd G.N G.mR G.mT G.mS G.mE) h2 (by rfl) G.gOdd G.kOdd G.bOdd .nil pass0 (pa_cons (pv 0) (pa_cons pe_int (pa_cons (pe_op op_add (pe_op op_pow pe_int pe_int) pe_int) pa_nil)))))
      (pss_cut (ps_if (pt_cmpR op_eq (pe_next G.N h1 (by rfl) (pv 0) pe_int) pe_int (nomark _)) (pss_one (ps_set (i := 2) scEr.nd rfl (.inr rfl) (pe_call (E := E0) (ok_spo (k := 0) G.uSpo G.N G.mR G.mT) h2 (by rfl) G.gSpo G.kSpo G.bSpo .nil pass0 (pa_cons (pv 0) (pa_cons (pv 2) pa_nil))))) pss_nil)
      (pss_cut (ps_if (pt_cmpR op_eq (pe_next G.N h1 (by rfl) (pv 0) pe_int) pe_int (nomark _)) (pss_one (ps_set (i := 3) scEr.nd rfl (.inr rfl) (pe_call (E := E0) (ok_spo (k := 0) G.uSpo G.N G.mR G.mT) h2 (by rfl) G.gSpo G.kSpo G.bSpo .nil pass0 (pa_cons (pv 0) (pa_cons (pv 3) pa_nil))))) pss_nil)
      (pss_cut (ps_set (i := 1) scEr.nd rfl (.inr rfl) (pe_ixl (pe_lst (pa_cons (pv 1) (pa_cons pe_int (pa_cons pe_int pa_nil)))) (pe_callB (call_max2 rfl) (by rfl) G.N.mM (by decide +kernel) (pa_cons pe_int (pa_cons (pe_op op_sub (pe_next G.N h1 (by rfl) (pv 0) pe_int) pe_int) pa_nil)))))
      (pss_cut (ps_set (i := 4) scEr.nd rfl (.inl rfl) (pe_tup (pa_cons pe_str pa_nil)))
      (pss_cut (ps_if (pt_not (pt_chain op_le op_le pe_int (pv 1) pe_int)) (pss_one (ps_set (i := 4) scEr.nd rfl (.inl rfl) (pe_tup (pa_cons pe_str (pa_cons pe_str (pa_cons pe_int pa_nil))))))
        (pss_one (ps_if (pt_cmpR op_notN (pe_call (E := E0) (ok_bad (k := 0) G.uBad G.N.mN G.mR) h1 (by rfl) G.gBad G.kBad G.bBad .nil pass0 (pa_cons (pv 2) (pa_cons (pe_op op_sub (pv 1) pe_int) (pa_cons pe_int pa_nil)))) pe_non (nomark _))
          (pss_one (ps_set (i := 4) scEr.nd rfl (.inl rfl) (pe_tup (pa_cons pe_str (pa_cons pe_str (pa_cons (pe_call (E := E0) (ok_bad (k := 0) G.uBad G.N.mN G.mR) h1 (by rfl) G.gBad G.kBad G.bBad .nil pass0 (pa_cons (pv 2) (pa_cons (pe_op op_sub (pv 1) pe_int) (pa_cons pe_int pa_nil)))) pa_nil))))))
          (pss_one (ps_if (pt_cmpR op_notN (pe_call (E := E0) (ok_bad (k := 0) G.uBad G.N.mN G.mR) h1 (by rfl) G.gBad G.kBad G.bBad .nil pass0 (pa_cons (pv 3) (pa_cons (pe_op op_pow pe_int pe_int) (pa_cons pe_int pa_nil)))) pe_non (nomark _))
            (pss_one (ps_set (i := 4) scEr.nd rfl (.inl rfl) (pe_tup (pa_cons pe_str (pa_cons pe_str (pa_cons (pe_call (E := E0) (ok_bad (k := 0) G.uBad G.N.mN G.mR) h1 (by rfl) G.gBad G.kBad G.bBad .nil pass0 (pa_cons (pv 3) (pa_cons (pe_op op_pow pe_int pe_int) (pa_cons pe_int pa_nil)))) pa_nil)))))) pss_nil)))))
      (pss_one (ps_ret (pe_cmpR (op_eqD hu) (pe_give (ok_err G.uErr G.E (Nat.le_refl 7)) rfl h8 (by rfl) G.gErr G.kErr (pe_lamV (T := G.tb) TB rfl hTm hTu hfE)) (pv 4) (nomark _)))))))))), ?_⟩
    obtain ⟨h, c, rfl, d, hT, q⟩ := h
    refine ⟨fun σ H' => ∃ (ln : Int) (dv : V) (ds : List Int), σ = ([some (.ref h), some (.int ln), some dv, none, none] : L2.St) ∧ TiA K H' dv ds ∧ ds.length ≤ 20 ∧ Dr H' h c ∧ Tabs G.tb H', ?_, ?_⟩
    · refine ⟨_, rfl, h, c, 14, rfl, by decide, by decide, d, fun v ln ds H1 hp l1 l2 g n d1 k1 => ?_⟩
      obtain ⟨a, dv, rfl, ha, hd⟩ := hp
      exact ⟨a, _, rfl, ha, rfl, _, _, rfl, _, _, rfl, rfl, ln, dv, ds, rfl, hd, by omega, d1, tabs_kp hT d k1⟩
    rintro σ H1 ⟨ln, dv, ds, rfl, hd, ld, d1, T1⟩
    refine ⟨fun σ H' => ∃ (o : V) (os : List Int), σ = ([some (.ref h), some (.int ln), some dv, some o, none] : L2.St) ∧ TiA K H' dv ds ∧ TiA K H' o os ∧ os.length ≤ 20 ∧ Dr H' h c ∧ Tabs G.tb H', ?_, ?_⟩
    · have ea : EvA (tCons (tVar 0) (tCons (tC (.int 6)) (tCons (tOp rAd (tOp rPw (tI 10) (tI 18)) (tI 1)) tNil))) ([some (.ref h), some (.int ln), some dv, none, none] : L2.St) H1 [.ref h, .int 6, .int 1000000000000000001] :=
        ea_cons (ev_var rfl) (ea_cons ev_c (ea_cons (ev_is (ev_ad (ev_pw ev_tI ev_tI ⟨by decide, by decide, by decide⟩) ev_tI) (by rw [pw18]; rfl)) ea_nil))
      show tCall (spOdd K) [] E0 (tCons (tVar 0) (tCons (tC (.int 6)) (tCons (tOp rAd (tOp rPw (tI 10) (tI 18)) (tI 1)) tNil))) _ H1 _
      refine ea H1 (Ex.refl _) _ fun H2 e2 => ⟨h, c, 6, 1000000000000000001, rfl, by decide, by decide, by decide, by decide +kernel, d1.same e2, fun v os H3 hv g l d3 k3 => ?_⟩
      exact ⟨v, os, rfl, (hd.tk (.same e2)).kp (d1.same e2) k3, hv, by omega, d3, tabs_kp (tabs_same T1 e2) (d1.same e2) k3⟩
    rintro σ H2 ⟨o, os, rfl, hd, ho, lo, d2, T2⟩
    refine ⟨fun σ H' => ∃ (dv : V) (ds : List Int), σ = ([some (.ref h), some (.int ln), some dv, some o, none] : L2.St) ∧ TiA K H' dv ds ∧ ds.length ≤ 50 ∧ TiA K H' o os ∧ Dr H' h c ∧ Tabs G.tb H', ?_, ?_⟩
    · refine ⟨_, rfl, h, c, 2, rfl, by decide, by decide, d2, fun x H3 x0 x1 d3 k3 => ⟨rfl, _, rfl, ?_⟩⟩
      have hd3 := hd.kp d2 k3
      have ho3 := ho.kp d2 k3
      have T3 := tabs_kp T2 d2 k3
      refine ite2 (fun _ => ?_) (fun _ => ⟨dv, ds, rfl, hd3, by omega, ho3, d3, T3⟩)
      exact ⟨_, rfl, _, rfl, h, c, dv, ds, rfl, hd3, ld, d3, fun u ms H4 hu hm d4 k4 => ⟨u, ms, rfl, hu, hm, ho3.kp d3 k4, d4, tabs_kp T3 d3 k4⟩⟩
    rintro σ H3 ⟨dv, ds, rfl, hd, ld, ho, d3, T3⟩
    refine ⟨fun σ H' => ∃ (o : V) (os : List Int), σ = ([some (.ref h), some (.int ln), some dv, some o, none] : L2.St) ∧ TiA K H' dv ds ∧ TiA K H' o os ∧ os.length ≤ 50 ∧ Dr H' h c ∧ Tabs G.tb H', ?_, ?_⟩
    · refine ⟨_, rfl, h, c, 2, rfl, by decide, by decide, d3, fun x H4 x0 x1 d4 k4 => ⟨rfl, _, rfl, ?_⟩⟩
      have hd4 := hd.kp d3 k4
      have ho4 := ho.kp d3 k4
      have T4 := tabs_kp T3 d3 k4
      refine ite2 (fun _ => ?_) (fun _ => ⟨o, os, rfl, hd4, ho4, by omega, d4, T4⟩)
      exact ⟨_, rfl, _, rfl, h, c, o, os, rfl, ho4, lo, d4, fun u ms H5 hu hm d5 k5 => ⟨u, ms, rfl, hd4.kp d4 k5, hu, hm, d5, tabs_kp T4 d4 k5⟩⟩
    rintro σ H4 ⟨o, os, rfl, hd, ho, lo, d4, T4⟩
    refine ⟨fun σ H' => ∃ ln : Int, σ = ([some (.ref h), some (.int ln), some dv, some o, none] : L2.St) ∧ TiA K H' dv ds ∧ TiA K H' o os ∧ Dr H' h c ∧ Tabs G.tb H', ?_, ?_⟩
    · refine pick_ints (ns := [ln, 0, 15]) (ea_cons (ev_var rfl) (ea_cons ev_c (ea_cons ev_c ea_nil))) (show 3 ≤ 1000 by decide) d4 (fun H5 Q5 d5 _ k5 => ?_) fun x _ H5 d5 k5 => ⟨x, rfl, hd.kp d4 k5, ho.kp d4 k5, d5, tabs_kp T4 d4 k5⟩
      refine ⟨_, rfl, h, c, 12, rfl, by decide, by decide, d5, fun j H6 j0 j1 d6 k6 => ⟨j, 9, rfl, rfl, 0, j - 9, rfl, ?_⟩⟩
      have e : (if j - 9 > 0 then j - 9 else 0) = (((j - 9).toNat : Nat) : Int) := by
        split <;> omega
      rw [e]
      exact k5 (j - 9).toNat (by show (j - 9).toNat < 3; omega) H6 d6 k6
    rintro σ H5 ⟨ln, rfl, hd, ho, d5, T5⟩
    refine ⟨fun σ H' => ∃ t : Addr, σ = ([some (.ref h), some (.int ln), some dv, some o, some (.ref t)] : L2.St) ∧ TiA K H' dv ds ∧ TiA K H' o os ∧ Dr H' h c ∧ Tabs G.tb H' ∧ H' t = some (.tup (errTV none)), ?_, ?_⟩
    · exact ⟨Nat.le_of_lt (small1000 (show 1 ≤ 1000 by decide)), fun t nt => ⟨t, rfl, hd.tk (.new nt), ho.tk (.new nt), d5.new nt, tabs_same T5 (same_new nt), upd_same⟩⟩
    rintro σ H6 ⟨t, rfl, hd, ho, d6, T6, ht⟩
    have ld1 : ds.length ≤ 1000 := by omega
    have lo1 : os.length ≤ 1000 := by omega
    refine ⟨fun σ H' => ∃ t : Addr, σ = ([some (.ref h), some (.int ln), some dv, some o, some (.ref t)] : L2.St) ∧ TiA K H' dv ds ∧ TiA K H' o os ∧ Dr H' h c ∧ Tabs G.tb H' ∧ H' t = some (.tup (errTV (tbad ln ds os))), ?_, ?_⟩
    · have keep : ∀ (p : Addr) (H7 : Hp), Ex H6 H7 → H7 p = some (.tup (errTV (tbad ln ds os))) → ∃ t : Addr, ([some (.ref h), some (.int ln), some dv, some o, some (.ref p)] : L2.St) = ([some (.ref h), some (.int ln), some dv, some o, some (.ref t)] : L2.St) ∧ TiA K H7 dv ds ∧ TiA K H7 o os ∧ Dr H7 h c ∧ Tabs G.tb H7 ∧ H7 t = some (.tup (errTV (tbad ln ds os))) :=
        fun p H7 e hp => ⟨p, rfl, hd.tk (.same e), ho.tk (.same e), d6.same e, tabs_same T6 e, hp⟩
      refine s_if (b := !(decide (1 ≤ ln) && decide (ln ≤ 14))) (et_not (et_test (ev_chainI (p := fun i j => decide (i ≤ j)) (q := fun i j => decide (i ≤ j)) ev_c (ev_var rfl) ev_c))) (fun hb H7 e7 => ?_) (fun hb H7 e7 => ?_)
      · refine (eu_tup (ea_cons ev_c (ea_cons ev_c (ea_cons ev_c ea_nil))) (show 3 ≤ 100000 by decide)) H7 (Ex.refl _) _ fun p H8 np e8 hp => keep p H8 (e7.trans e8) ?_
        rw [hp]
        unfold tbad
        rw [if_neg fun hc => by
          rw [decide_eq_true hc.1, decide_eq_true hc.2] at hb
          cases hb]
        rfl
      · have hc : 1 ≤ ln ∧ ln ≤ 14 := by
          have : (decide (1 ≤ ln) && decide (ln ≤ 14)) = true := by
            cases h : (decide (1 ≤ ln) && decide (ln ≤ 14)) with
            | true => rfl
            | false =>
              rw [h] at hb
              cases hb
          rw [Bool.and_eq_true] at this
          exact ⟨of_decide_eq_true this.1, of_decide_eq_true this.2⟩
        have hd7 := hd.tk (.same e7)
        have b1 : ∀ H', Ex H7 H' → Ev (tCall (spBad K) [] E0 (tCons (tVar 2) (tCons (tOp (rI0 fun i j => .int (i - j)) (tVar 1) (tC (.int 1))) (tCons (tC (.int 14)) tNil)))) ([some (.ref h), some (.int ln), some dv, some o, some (.ref t)] : L2.St) H' (opV (vbad ds (ln - 1) 14)) :=
          fun H' e' => ev_bad (ev_var rfl) (ev_op (ev_var rfl) ev_c rv_I0) ev_c (hd7.tk (.same e')) ld1
        refine s_if (b := (vbad ds (ln - 1) 14).isSome) (et_is (et_notN (b1 H7 (Ex.refl _))) (opV_non _)) (fun hv H8 e8 => ?_) (fun hv H8 e8 => ?_)
        · obtain ⟨i, hi⟩ := Option.isSome_iff_exists.mp hv
          refine (eu_tup (ea_cons ev_c (ea_cons ev_c (ea_cons (b1 H8 e8) ea_nil))) (show 3 ≤ 100000 by decide)) H8 (Ex.refl _) _ fun p H9 np e9 hp => keep p H9 ((e7.trans e8).trans e9) ?_
          rw [hp, hi]
          unfold tbad
          rw [if_pos hc, hi]
          rfl
        · have hn : vbad ds (ln - 1) 14 = none := by
            cases z : vbad ds (ln - 1) 14 with
            | none => rfl
            | some i =>
              rw [z] at hv
              cases hv
          have ho8 := ho.tk (.same (e7.trans e8))
          have b2 : ∀ H', Ex H8 H' → Ev (tCall (spBad K) [] E0 (tCons (tVar 3) (tCons (tOp rPw (tI 10) (tI 18)) (tCons (tC (.int 6)) tNil)))) ([some (.ref h), some (.int ln), some dv, some o, some (.ref t)] : L2.St) H' (opV (vbad os 1000000000000000000 6)) :=
            fun H' e' => ev_bad (ev_var rfl) (ev_is (ev_pw ev_tI ev_tI ⟨by decide, by decide, by decide⟩) (by rw [pw18])) ev_c (ho8.tk (.same e')) lo1
          refine s_if (b := (vbad os 1000000000000000000 6).isSome) (et_is (et_notN (b2 H8 (Ex.refl _))) (opV_non _)) (fun hw H9 e9 => ?_) (fun hw H9 e9 => ?_)
          · obtain ⟨i, hi⟩ := Option.isSome_iff_exists.mp hw
            refine (eu_tup (ea_cons ev_c (ea_cons ev_c (ea_cons (b2 H9 e9) ea_nil))) (show 3 ≤ 100000 by decide)) H9 (Ex.refl _) _ fun p H10 np e10 hp => keep p H10 (((e7.trans e8).trans e9).trans e10) ?_
            rw [hp, hi]
            unfold tbad
            rw [if_pos hc, hn, hi]
            rfl
          · have hm : vbad os 1000000000000000000 6 = none := by
              cases z : vbad os 1000000000000000000 6 with
              | none => rfl
              | some i =>
                rw [z] at hw
                cases hw
            refine keep t H9 ((e7.trans e8).trans e9) ?_
            rw [((e7.trans e8).trans e9) _ _ ht]
            unfold tbad
            rw [if_pos hc, hn, hm]
    rintro σ H7 ⟨t, rfl, hd, ho, d7, T7, ht⟩
    refine ⟨T7, fun f1 c1 H8 eN T8 nf hf hc => ⟨f1, mkF qEr lamE _ c1 .none, ["_law_length", "_law_days", "_law_odd_here"], [1, 2, 3], tsE K (G.cs 1), rfl, lokE G, hf, hc, dv_none, fun ok => Caps.made ok hfE hrE rfl, ?_⟩⟩
    have ht8 : H8 t = some (.tup (errTV (tbad ln ds os))) := eN _ _ ht fun ps z => by cases z
    have sh : SeqAt.shaped (errTD (tbad ln ds os)) = true := errTSh _ fun p i => tbad_part
    have last : ∀ (r : Addr) (H9 : Hp), Same H8 H9 → H9 r = some (.tup (errTV (tbad ln ds os))) → tVar 4 ([some (.ref h), some (.int ln), some dv, some o, some (.ref t)] : L2.St) H9 fun y H10 => rEqD K (.ref r) y H10 Q := fun r H9 s9 hr9 => by
      refine ⟨_, rfl, errTD (tbad ln ds os), errTD (tbad ln ds os), errTDp _ hr9, errTDp _ (s9 _ _ ht8), sh, sh, ?_⟩
      rw [eqv_self _ sh]
      exact q H9 ((d7.extN eN).same s9) (tabs_same T8 s9)
    refine ⟨ln, dv, o, ds, os, rfl, hd.tk (.extN eN), ho.tk (.extN eN), ld1, lo1, fun hb a H9 s9 r H10 s10 hr => last r H10 (Same.trans s9 s10) (by rw [hb]; exact hr), fun pt i dd H9 hb s9 hdd => .inl ⟨rfl, dd, pt, i, rfl, hdd, fun r H10 s10 hr => last r H10 (Same.trans s9 s10) (by rw [hb]; exact hr)⟩⟩
end
end Sea

set_option Elab.async false
set_option linter.all false
set_option maxRecDepth 100000
set_option maxHeartbeats 4000000
/-! plain: the code's count of travel days, day by day -/
namespace Sea
open PySem PySem.Spec PyProof.Rows L2
theorem trv_eq (ln : Int) (ds os : List Int) (day : Int) : trv ln ds os day = (decide (day.fmod ln ∈ ds) != decide (day ∈ os)) := by
  unfold trv
  rw [inV_int, inV_int]
  cases decide (day.fmod ln ∈ ds) <;> cases decide (day ∈ os) <;> rfl
/-- what an exception adds to the count of the days below c -/
def oddAt (ln : Int) (ds : List Int) (c day : Int) : Int := if day < c then (if day.fmod ln ∈ ds then -1 else 1) else 0
theorem ct_fold (ln : Int) (ds : List Int) (c : Int) : ∀ (os : List Int) (t : Int), os.foldl (ctStep ln ds c) t = t + (os.map (oddAt ln ds c)).sum
  | [], t => by simp
  | o :: os, t => by
    rw [List.foldl_cons, ct_fold ln ds c os, List.map_cons, List.sum_cons]
    have e : ctStep ln ds c t o = t + oddAt ln ds c o := by
      unfold ctStep oddAt
      rw [inV_int]
      by_cases h : o < c
      · rw [if_pos h, if_pos h]
        by_cases m : o.fmod ln ∈ ds
        · rw [if_pos m, if_pos (decide_eq_true m)]
        · rw [if_neg m, if_neg (by rw [decide_eq_false m]; decide)]
      · rw [if_neg h, if_neg h, Int.add_zero]
    rw [e, Int.add_assoc]
theorem odd_step (ln : Int) (ds : List Int) (c : Int) : ∀ {os : List Int}, os.Pairwise (· < ·) → (os.map (oddAt ln ds (c + 1))).sum = (os.map (oddAt ln ds c)).sum + (if c ∈ os then (if c.fmod ln ∈ ds then -1 else 1) else 0)
  | [], _ => by simp
  | o :: os, h => by
    have ⟨ho, hr⟩ := List.pairwise_cons.mp h
    rw [List.map_cons, List.map_cons, List.sum_cons, List.sum_cons, odd_step ln ds c hr]
    by_cases e : o = c
    · subst e
      have no : o ∉ os := fun z => Int.lt_irrefl _ (ho o z)
      rw [if_neg no, if_pos List.mem_cons_self]
      unfold oddAt
      rw [if_pos (by omega), if_neg (Int.lt_irrefl _)]
      omega
    · have mem : (c ∈ o :: os) ↔ c ∈ os := by
        rw [List.mem_cons]
        exact ⟨fun z => z.elim (fun z => absurd z.symm e) id, .inr⟩
      have same : oddAt ln ds (c + 1) o = oddAt ln ds c o := by
        unfold oddAt
        by_cases l : o < c
        · rw [if_pos l, if_pos (by omega)]
        · rw [if_neg l, if_neg (by omega)]
      rw [same]
      by_cases m : c ∈ os
      · rw [if_pos m, if_pos (mem.mpr m)]
        omega
      · rw [if_neg m, if_neg (fun z => m (mem.mp z))]
        omega
theorem rest_eq (ln : Int) (ds : List Int) (c : Int) : (ctRest ln ds c).length = (ds.filter fun d => decide (d < c.fmod ln)).length := by
  unfold ctRest
  have := given_take ds (fun d => decide (d < c.fmod ln)) ds.length (Nat.le_refl _)
  rw [this, List.take_length, List.length_map]
theorem below_step (r : Int) : ∀ {ds : List Int}, ds.Pairwise (· < ·) → ((ds.filter fun d => decide (d < r + 1)).length : Int) = ((ds.filter fun d => decide (d < r)).length : Int) + (if r ∈ ds then 1 else 0)
  | [], _ => by simp
  | d :: ds, h => by
    have ⟨hd, hr⟩ := List.pairwise_cons.mp h
    have ih := below_step r hr
    by_cases e : d = r
    · subst e
      have no : d ∉ ds := fun z => Int.lt_irrefl _ (hd d z)
      rw [if_neg no] at ih
      rw [if_pos List.mem_cons_self, List.filter_cons_of_pos (by simp; omega), List.filter_cons_of_neg (by simp), List.length_cons]
      omega
    · have mem : (r ∈ d :: ds) ↔ r ∈ ds := by
        rw [List.mem_cons]
        exact ⟨fun z => z.elim (fun z => absurd z.symm e) id, .inr⟩
      have same : (if r ∈ d :: ds then (1 : Int) else 0) = if r ∈ ds then 1 else 0 := by
        by_cases m : r ∈ ds
        · rw [if_pos m, if_pos (mem.mpr m)]
        · rw [if_neg m, if_neg (fun z => m (mem.mp z))]
      rw [same]
      by_cases l : d < r
      · rw [List.filter_cons_of_pos (by simp; omega), List.filter_cons_of_pos (by simpa using l), List.length_cons, List.length_cons]
        omega
      · rw [List.filter_cons_of_neg (by simp; omega), List.filter_cons_of_neg (by simpa using l)]
        exact ih
theorem tot_step {ln : Int} {ds : List Int} (l1 : 1 ≤ ln) (g : Good ds (ln - 1)) (c : Int) : ctTot ln ds (c + 1) = ctTot ln ds c + (if c.fmod ln ∈ ds then 1 else 0) := by
  have pos : 0 < ln := by omega
  have ⟨pw, all⟩ := good_iff.mp g
  unfold ctTot
  rw [rest_eq, rest_eq, Int.fmod_eq_emod_of_nonneg _ (by omega), Int.fmod_eq_emod_of_nonneg _ (by omega), Int.fdiv_eq_ediv_of_nonneg _ (by omega), Int.fdiv_eq_ediv_of_nonneg _ (by omega)]
  have r0 := Int.emod_nonneg c (show ln ≠ 0 by omega)
  have r1 := Int.emod_lt_of_pos c pos
  have eq := Int.emod_add_mul_ediv c ln
  by_cases last : c % ln + 1 < ln
  · have ⟨eq1, er⟩ := (Int.ediv_emod_unique pos (a := c + 1) (r := c % ln + 1) (q := c / ln)).mpr ⟨by omega, by omega, last⟩
    rw [eq1, er, below_step _ pw]
    omega
  · have ⟨eq1, er⟩ := (Int.ediv_emod_unique pos (a := c + 1) (r := 0) (q := c / ln + 1)).mpr ⟨by rw [Int.mul_add]; omega, Int.le_refl _, pos⟩
    rw [eq1, er]
    have none_ : ds.filter (fun d => decide (d < 0)) = [] := List.filter_eq_nil_iff.mpr fun x hx => by
      have := (all x hx).1
      simp
      omega
    have every : ds.filter (fun d => decide (d < c % ln + 1)) = ds := List.filter_eq_self.mpr fun x hx => by
      have := (all x hx).2
      simp
      omega
    have := below_step (c % ln) pw
    rw [every] at this
    rw [none_, List.length_nil, Int.add_mul]
    omega
theorem ct_step {ln : Int} {ds os : List Int} (t : TvOk ln ds os) (c : Int) : ctAll ln ds os (c + 1) = ctAll ln ds os c + (if trv ln ds os c = true then 1 else 0) := by
  unfold ctAll
  rw [ct_fold, ct_fold, tot_step t.l1 t.gd, odd_step ln ds c (good_iff.mp t.go).1, trv_eq]
  by_cases a : c.fmod ln ∈ ds <;> by_cases b : c ∈ os
  · rw [if_pos a, if_pos b, if_pos a, decide_eq_true a, decide_eq_true b]
    simp
    omega
  · rw [if_pos a, if_neg b, decide_eq_true a, decide_eq_false b]
    simp
    omega
  · rw [if_neg a, if_pos b, if_neg a, decide_eq_false a, decide_eq_true b]
    simp
    omega
  · rw [if_neg a, if_neg b, decide_eq_false a, decide_eq_false b]
    simp
theorem ct_zero {ln : Int} {ds os : List Int} (t : TvOk ln ds os) : ctAll ln ds os 0 = 0 := by
  have ⟨_, all⟩ := good_iff.mp t.gd
  have ⟨_, allo⟩ := good_iff.mp t.go
  unfold ctAll
  rw [ct_fold]
  have z : (os.map (oddAt ln ds 0)).sum = 0 := by
    have : ∀ xs : List Int, (∀ x ∈ xs, 0 ≤ x) → (xs.map (oddAt ln ds 0)).sum = 0 := by
      intro xs
      induction xs with
      | nil => exact fun _ => rfl
      | cons x xs ih =>
        intro h
        rw [List.map_cons, List.sum_cons, ih fun y hy => h y (List.mem_cons_of_mem _ hy)]
        unfold oddAt
        rw [if_neg (by have := h x List.mem_cons_self; omega)]
        rfl
    exact this os fun x hx => (allo x hx).1
  rw [z]
  unfold ctTot
  rw [rest_eq, Int.zero_fmod, Int.zero_fdiv, List.filter_eq_nil_iff.mpr fun x hx => by
    have := (all x hx).1
    simp
    omega]
  simp
theorem ct_count {ln : Int} {ds os : List Int} (t : TvOk ln ds os) : ∀ n : Nat, ctAll ln ds os (n : Int) = ((tdL ln ds os 0 n).length : Nat)
  | 0 => by
    rw [show ((0 : Nat) : Int) = 0 from rfl, ct_zero t]
    rfl
  | n + 1 => by
    rw [show ((n + 1 : Nat) : Int) = (n : Int) + 1 by omega, ct_step t, ct_count t n, tdL_succ, Int.zero_add, List.length_append]
    by_cases h : trv ln ds os (n : Int) = true
    · rw [if_pos h, if_pos h]
      simp
    · rw [if_neg h, if_neg h]
      simp
end Sea

set_option Elab.async false
set_option linter.all false
set_option maxRecDepth 100000
set_option maxHeartbeats 4000000
namespace Sea
open PySem PySem.Spec PyProof.Rows L2 LamX NdefX ClX Evl StX
abbrev ND : List Str := ["_law_h", "_law_pattern_here", "_law_odd_here", "_law_travel", "_law_count", "_law_due", "_law_far", "_law_more", "_law_day"]
theorem scDa : FnScope ND ["_law_h", "_law_pattern_here", "_law_odd_here", "_law_travel"] (defScope sDa) := ⟨rfl, rfl, rfl, by decide +kernel, rfl, by decide +kernel, by decide +kernel⟩
def spDa (K : PySem.W.Frag) (C : Addr) : Sp := fun vs H Q _ => ∃ (h c a : Addr) (ln : Int) (d o pv ov : V) (ds os : List Int), vs = [.ref h, pv, ov, .ref a] ∧ PtA K H pv ln ds ∧ TiA K H ov os ∧ Tv K C H a ln d o ds os ∧ TvOk ln ds os ∧ os.length ≤ 6 ∧ Dr H h c ∧
  ∀ H', Dr H' h c → Kp h c H H' → Q (.bl true) H'
section
variable {K : PySem.W.Frag} {C h c a : Addr} {σ : L2.St} {H H' : Hp} {ln : Int} {d o pv ov : V} {ds os : List Int} {te : TE}
theorem PtA.tk {v : V} (t : PtA K H v ln ds) (k : TK K H H') : PtA K H' v ln ds := by
  obtain ⟨p, dv, rfl, hp, hd⟩ := t
  exact ⟨p, dv, rfl, k _ _ hp, hd.tk k⟩
theorem Tv.kp (t : Tv K C H a ln d o ds os) (dr : Dr H h c) (k : Kp h c H H') : Tv K C H' a ln d o ds os := by
  obtain ⟨⟨dx, ha⟩, hd, ho⟩ := t
  obtain ⟨n0, mm, kk, ns, f1, f2, f3⟩ := id dr
  refine ⟨⟨dx, k _ _ ha ?_ ?_⟩, hd.kp dr k, ho.kp dr k⟩
  · rintro rfl
    rw [ha] at f1
    cases f1
  · rintro rfl
    rw [ha] at f2
    cases f2
theorem ev_ct {i : Nat} {n : Int} {cN : Addr} (hs : σ[i]? = some (some (.ref a))) (t : Tv K C H a ln d o ds os) (ok : TvOk ln ds os) (hn : 0 ≤ n ∧ n ≤ 1000000000000000000) (hx : Ev te σ H (.int n)) : Ev (tMeth C "count_travel_days" (spCt K C cN) [] E0 (tVar i) (tCons te tNil)) σ H (.int (ctAll ln ds os n)) := by
  intro H1 e Q q
  have t1 := t.same e
  obtain ⟨dx, ha⟩ := t1.1
  refine ⟨_, hs, a, dx, _, rfl, ha, tvF_no _ _ _ (by decide +kernel) (by decide +kernel) (by decide +kernel), hx H1 e _ fun H2 e2 => ?_⟩
  exact ⟨a, ln, n, d, o, ds, os, rfl, t1.same e2, ok.l1, ok.l2, by have := ok.nd; have := ok.l2; omega, fun _ H3 s3 => q H3 (Same.trans e2 s3), fun nb => absurd hn nb⟩
theorem ev_is_td {i : Nat} {n : Int} {cN : Addr} (hs : σ[i]? = some (some (.ref a))) (t : Tv K C H a ln d o ds os) (ok : TvOk ln ds os) (hn : 0 ≤ n ∧ n ≤ 1000000000000000000) (hx : Ev te σ H (.int n)) : Ev (tMeth C "is_travel_day" (spIs K C cN) [] E0 (tVar i) (tCons te tNil)) σ H (.bl (trv ln ds os n)) := by
  intro H1 e Q q
  have t1 := t.same e
  obtain ⟨dx, ha⟩ := t1.1
  have := ok.l1
  refine ⟨_, hs, a, dx, _, rfl, ha, tvF_no _ _ _ (by decide +kernel) (by decide +kernel) (by decide +kernel), hx H1 e _ fun H2 e2 => ?_⟩
  exact ⟨a, ln, n, d, o, ds, os, rfl, t1.same e2, by omega, fun _ H3 s3 => q H3 (Same.trans e2 s3), fun nb => absurd hn nb⟩
theorem ev_trv {i j : Nat} {n : Int} (hi : σ[i]? = some (some pv)) (hj : σ[j]? = some (some ov)) (hp : PtA K H pv ln ds) (ho : TiA K H ov os) (l1 : 1 ≤ ln) (hx : Ev te σ H (.int n)) : Ev (tCall (spTrv K) [] E0 (tCons (tVar i) (tCons (tVar j) (tCons te tNil)))) σ H (.bl (trv ln ds os n)) :=
  ev_call (vs := [pv, ov, .int n]) (ea_cons (ev_var hi) (ea_cons (ev_var hj) (ea_cons hx ea_nil))) fun H1 e1 Q q E => ⟨pv, ov, ln, n, ds, os, rfl, hp.tk (.same e1), ho.tk (.same e1), by omega, fun H2 s2 => q H2 s2⟩
/-- list(travel.travel_days(0, la)) -/
theorem el_td {i : Nat} {la : Int} {cN : Addr} (hs : σ[i]? = some (some (.ref a))) (t : Tv K C H a ln d o ds os) (l1 : 1 ≤ ln) (hl : 0 ≤ la ∧ la ≤ 100) (hx : Ev te σ H (.int la)) :
    EvL (tListG (tMethG C "travel_days" (spTd K C cN) [] E0 (tVar i) (tCons (tC (.int 0)) (tCons te tNil)))) σ H ((tdL ln ds os 0 (la + 1).toNat).map V.int) := by
  intro H1 e Q q
  have t1 := t.same e
  obtain ⟨dx, ha⟩ := t1.1
  refine ⟨_, hs, a, dx, _, rfl, ha, tvF_no _ _ _ (by decide +kernel) (by decide +kernel) (by decide +kernel), hx H1 e _ fun H2 e2 => ?_⟩
  have ok : tdOk 0 la := ⟨⟨by decide, by decide⟩, hl.1, by rw [if_pos (by decide)]; omega⟩
  refine ⟨a, ln, 0, la, d, o, ds, os, rfl, t1.same e2, by omega, fun _ H3 s3 p np => ?_, fun nb => absurd ok nb⟩
  rw [Int.sub_zero]
  exact q p _ (fresh_back (Same.trans e2 s3) np) ((Same.trans e2 s3).trans (Ex.new np)) upd_same
theorem given_td (n : Nat) : given n (fun i => trv ln ds os (i : Int)) (fun i => .int (i : Int)) = (tdL ln ds os 0 n).map V.int := by
  unfold given tdL
  rw [List.map_map]
  simp only [Int.zero_add]
  rfl
end
/-- what stays through the checks -/
structure DaI (K : PySem.W.Frag) (C h c a : Addr) (pv ov : V) (ln : Int) (d o : V) (ds os : List Int) (H0 H : Hp) : Prop where
  hp : PtA K H pv ln ds
  ho : TiA K H ov os
  ht : Tv K C H a ln d o ds os
  hd : Dr H h c
  hk : Kp h c H0 H
section
variable {K : PySem.W.Frag} {C h c a : Addr} {σ : L2.St} {H0 H H' : Hp} {ln : Int} {d o pv ov : V} {ds os : List Int} {te ta tb : TE}
theorem DaI.same (x : DaI K C h c a pv ov ln d o ds os H0 H) (e : Ex H H') : DaI K C h c a pv ov ln d o ds os H0 H' := ⟨x.hp.tk (.same e), x.ho.tk (.same e), x.ht.same e, x.hd.same e, x.hk.trans (.same e)⟩
theorem DaI.kp (x : DaI K C h c a pv ov ln d o ds os H0 H) (d' : Dr H' h c) (k' : Kp h c H H') : DaI K C h c a pv ov ln d o ds os H0 H' := ⟨x.hp.tk (x.hd.tk k'), x.ho.kp x.hd k', x.ht.kp x.hd k', d', x.hk.trans k'⟩
theorem el_catL {xs ys : List V} (h1 : EvL ta σ H xs) (h2 : EvL tb σ H ys) (few : xs.length + ys.length ≤ 1000) : EvL (tOp rCat ta tb) σ H (xs ++ ys) := by
  intro H1 e Q q
  refine h1 H1 e _ fun p H2 np e2 hp => h2 H2 (e.trans e2) _ fun r H3 nr e3 hr => ?_
  exact ⟨p, r, xs, ys, rfl, rfl, e3 _ _ hp, hr, Nat.le_of_lt (small1000 few), fun l nl => q l _ (fresh_back (e2.trans e3) nl) ((e2.trans e3).trans (Ex.new nl)) upd_same⟩
theorem intD_ints (m : Nat) {ns : List Int} (few : ns.length ≤ 1000) : IntD (m + 1) (.list (ns.map PyData.int)) := by
  refine .lst (fun i d hd => ?_) (by rw [List.length_map]; exact few)
  rw [List.getElem?_map] at hd
  cases hi : ns[i]? with
  | none =>
    rw [hi] at hd
    cases hd
  | some x =>
    rw [hi] at hd
    cases hd
    exact .int m x
theorem edp_list {ns : List Int} (h : EvL te σ H (ns.map V.int)) : EvDp K te σ H (.list (ns.map PyData.int)) := fun H1 e Q q => h H1 e _ fun p H2 np e2 hp => q (.ref p) H2 e2 (.lst (.of hp) (intsDp ns))
theorem edp_bool {b : Bool} (h : Ev te σ H (.bl b)) : EvDp K te σ H (.bool b) := edp_ev h fun _ _ => .bl b
theorem ev_intB {b : Bool} (h : Ev te σ H (.bl b)) : Ev (tCB (fun xs H Q => (∃ n, xs = [V.int n] ∧ Q (.int n) H) ∨ ∃ b : Bool, xs = [V.bl b] ∧ Q (.int (if b then 1 else 0)) H) (tCons te tNil)) σ H (.int (if b then 1 else 0)) := fun H1 e Q q => h H1 e _ fun H2 e2 => .inr ⟨b, rfl, q H2 e2⟩
end
section
variable {P : Program} {w : World} {K : PySem.W.Frag} {mg : Str → Option Value} {base : Heap}
theorem ok_da {f : Addr} {fd : FuncData} (F : Fun K "_law_days_right" "_law_days_right" sDa f fd) (G : Gd K mg) : FnOk P w K mg base CX0 6 f fd ["_law_h", "_law_pattern_here", "_law_odd_here", "_law_travel"] (spDa K G.C) := by
  refine F.ok scDa (fun vs H Q E h => ?_) (fun cdv A outer s H vs Q E hr h => ?_)
  · obtain ⟨h, c, a, ln, d, o, pv, ov, ds, os, rfl, _⟩ := h
    rfl
  · have h1 := hr.mono (show 1 ≤ 5 by decide)
    have h2 := hr.mono (show 2 ≤ 5 by decide)
    have h4 := hr.mono (show 4 ≤ 5 by decide)
    have nst : NoStop K E0 := fun _ _ _ z => z.elim
    refine ⟨_, pss_cut (ps_set (i := 4) scDa.nd rfl (.inl rfl) (pe_next G.N h1 (by rfl) (pv 0) pe_int))
      (pss_cut (ps_setLc (i := 5) (own := [("_law_day", 8)]) (g := gName 8) rfl scDa.nd rfl rfl (sw_true rfl rfl rfl (by decide +kernel)) (pi_range1 (by rfl) G.mR (pa_cons (pv 4) pa_nil)) (blkOk_by (own := [("_law_day", 8)]) (N := ND) (sc := defScope sDa) (by decide +kernel))
        (fun _ _ _ _ _ => pg_name (i := 8) scDa.nd rfl (Or.inl rfl)) (fun _ _ _ _ _ => pts_one (pt_val (pe_call (E := E0) (ok_trv (k := 0) G.uTrv) h1 (by rfl) G.gTrv G.kTrv G.bTrv .nil pass0 (pa_cons (pv 1) (pa_cons (pv 2) (pa_cons (pv 8) pa_nil)))))) (fun _ _ _ _ _ => pv 8))
      (pss_cut (ps_if (pt_not (pt_val (pe_call (E := E0) (ok_al G.A 4) h4 (by rfl) G.A.g G.A.kp (bAl G.A) .nil pass0 (pa_cons (pe_meth (E := E0) (pv 3) G.W.cl G.mCt (ok_ct (k := 0) G.uCt G.T G.W G.mI G.N.mN) h2 G.bCt .nil passL (pa_cons (pv 4) pa_nil)) (pa_cons (pe_callB call_len_seq (by rfl) G.N.mN PySem.boot_len (pa_cons (pv 5) pa_nil)) pa_nil))))) (pss_one (ps_ret pe_bl)) pss_nil)
      (pss_cut (ps_if (PW.pt (pw_and (pt_cmpR op_gt (pv 4) pe_int (nomark _)) (pw_and1 (pt_not (pt_val (pe_call (E := E0) (ok_al G.A 4) h4 (by rfl) G.A.g G.A.kp (bAl G.A) .nil pass0 (pa_cons (pe_listG (E := E0) (pgen_meth (E := E0) (pv 3) G.W.cl G.mTd (ok_td (k := 0) G.uTd G.T G.W G.mI G.mMin G.mR G.mTo G.uTo) h2 G.bTd .nil (pa_cons pe_int (pa_cons (pe_op op_sub (pv 4) pe_int) pa_nil))) passL nst hr (by rfl) G.mL (by rfl)) (pa_cons (pv 5) pa_nil)))))))) (pss_one (ps_ret pe_bl)) pss_nil)
      (pss_cut (ps_set (i := 6) scDa.nd rfl (.inl rfl) (pe_next G.N h1 (by rfl) (pv 0) (pe_op op_pow pe_int pe_int)))
      (pss_cut (ps_set (i := 7) scDa.nd rfl (.inl rfl) (pe_op op_sub (pe_meth (E := E0) (pv 3) G.W.cl G.mCt (ok_ct (k := 0) G.uCt G.T G.W G.mI G.N.mN) h2 G.bCt .nil passL (pa_cons (pe_op op_add (pv 6) pe_int) pa_nil)) (pe_meth (E := E0) (pv 3) G.W.cl G.mCt (ok_ct (k := 0) G.uCt G.T G.W G.mI G.N.mN) h2 G.bCt .nil passL (pa_cons (pv 6) pa_nil))))
      (pss_cut (ps_if (pt_cmpR op_ne (pv 7) (pe_callTy call_int1 (by rfl) G.mI (by rfl) (pa_cons (pe_call (E := E0) (ok_trv (k := 0) G.uTrv) h1 (by rfl) G.gTrv G.kTrv G.bTrv .nil pass0 (pa_cons (pv 1) (pa_cons (pv 2) (pa_cons (pv 6) pa_nil)))) pa_nil)) (nomark _)) (pss_one (ps_ret pe_bl)) pss_nil)
      (pss_cut (ps_for PassesOwn.never rfl (pi_list (pe_op op_cat (pe_lst (pa_cons (pv 6) (pa_cons (pv 4) (pa_cons (pe_op op_pow pe_int pe_int) pa_nil)))) (pe_lc (own := [("_law_day", 8)]) (g := gName 8) (by rfl) scDa.nd (pi_tup (pv 2)) (blkOk_by (own := [("_law_day", 8)]) (N := ND) (sc := defScope sDa) (by decide +kernel)) (fun _ _ _ _ _ => pg_name (i := 8) scDa.nd rfl (Or.inl rfl)) (fun _ _ _ _ _ => pts_nil) (fun _ _ _ _ _ => pv 8))))
        (pg_name (i := 8) scDa.nd rfl (.inl rfl)) (pss_one (ps_if (pt_not (pt_val (pe_call (E := E0) (ok_al G.A 4) h4 (by rfl) G.A.g G.A.kp (bAl G.A) .nil pass0 (pa_cons (pe_meth (E := E0) (pv 3) G.W.cl G.mIs (ok_is (k := 0) G.uIs G.T G.W G.mI G.mTo G.uTo) h2 G.bIs .nil passL (pa_cons (pv 8) pa_nil)) (pa_cons (pe_call (E := E0) (ok_trv (k := 0) G.uTrv) h1 (by rfl) G.gTrv G.kTrv G.bTrv .nil pass0 (pa_cons (pv 1) (pa_cons (pv 2) (pa_cons (pv 8) pa_nil)))) pa_nil))))) (pss_one (ps_ret pe_bl)) pss_nil)))
      (pss_one (ps_ret pe_bl))))))))), ?_⟩
    obtain ⟨h, c, a, ln, d, o, pv, ov, ds, os, rfl, hp, ho, ht, ok, few, dr, q⟩ := h
    have x0 : DaI K G.C h c a pv ov ln d o ds os H H := ⟨hp, ho, ht, dr, .refl⟩
    have l1 := ok.l1
    refine ⟨fun σ H' => ∃ n : Nat, n < 90 ∧ σ = ([some (.ref h), some pv, some ov, some (.ref a), some (.int (n : Nat)), none, none, none, none] : L2.St) ∧ DaI K G.C h c a pv ov ln d o ds os H H', ?_, ?_⟩
    · exact nx_in rfl (by decide) (by decide) dr fun j lt H2 d2 k2 => ⟨j, by omega, rfl, x0.kp d2 k2⟩
    rintro σ H1 ⟨n, n90, rfl, x1⟩
    refine ⟨fun σ H' => ∃ p : Addr, σ = ([some (.ref h), some pv, some ov, some (.ref a), some (.int (n : Nat)), some (.ref p), none, none, none] : L2.St) ∧ DaI K G.C h c a pv ov ln d o ds os H H' ∧ H' p = some (.lst ((tdL ln ds os 0 n).map V.int)), ?_, ?_⟩
    · have eL := el_lcR1 (ta := tCons (tVar 4) tNil) (n := ((n : Nat) : Int)) (t := tB (tCall (spTrv K) [] E0 (tCons (tVar 1) (tCons (tVar 2) (tCons (tVar 8) tNil))))) (te := tVar 8) (j := 8) (vs := [8]) (σ := ([some (.ref h), some pv, some ov, some (.ref a), some (.int (n : Nat)), none, none, none, none] : L2.St)) (H := H1)
        (fun i => trv ln ds os (i : Int)) (fun i => .int (i : Int)) (ea_cons (ev_var rfl) ea_nil) ⟨by omega, by omega⟩ (fun _ => rfl) (fun i H2 e2 hi => et_B (ev_trv (pv := pv) (ov := ov) rfl rfl (x1.same e2).hp (x1.same e2).ho l1 (ev_var rfl))) (fun i H2 e2 hi _ => ev_var rfl)
      rw [Int.toNat_natCast, given_td] at eL
      exact eL H1 (Ex.refl _) _ fun p H2 np e2 hp2 => ⟨p, rfl, x1.same e2, hp2⟩
    rintro σ H2 ⟨p, rfl, x2, hp2⟩
    have lenD := tdL_len ln ds os 0 n
    refine ⟨fun σ H' => σ = ([some (.ref h), some pv, some ov, some (.ref a), some (.int (n : Nat)), some (.ref p), none, none, none] : L2.St) ∧ DaI K G.C h c a pv ov ln d o ds os H H' ∧ H' p = some (.lst ((tdL ln ds os 0 n).map V.int)), ?_, ?_⟩
    · have eC : Ev (tCB (fun xs H Q => ∃ p ys, xs = [V.ref p] ∧ (SqL K H p ys ∨ SqT K H p ys) ∧ Q (.int ys.length) H) (tCons (tVar 5) tNil)) ([some (.ref h), some pv, some ov, some (.ref a), some (.int (n : Nat)), some (.ref p), none, none, none] : L2.St) H2 (.int ((tdL ln ds os 0 n).length : Nat)) :=
        ev_is (ev_lenS rfl (.inl (.of hp2))) (by rw [List.length_map])
      refine s_when (b := false) (et_al (eda_cons (edp_int (ev_is (ev_ct (n := ((n : Nat) : Int)) rfl x2.ht ok ⟨by omega, by omega⟩ (ev_var rfl)) (by rw [ct_count ok]))) (eda_cons (edp_int eC) eda_nil)) (.int 3 _)) (fun z => by cases z) fun _ H3 e3 => ⟨rfl, x2.same e3, e3 _ _ hp2⟩
    rintro σ H3 ⟨rfl, x3, hp3⟩
    refine ⟨fun σ H' => σ = ([some (.ref h), some pv, some ov, some (.ref a), some (.int (n : Nat)), some (.ref p), none, none, none] : L2.St) ∧ DaI K G.C h c a pv ov ln d o ds os H H', ?_, ?_⟩
    · refine s_when (b := false) (et_is (et_and (a := decide (((n : Nat) : Int) > 0)) (b := false) (et_test (ev_op (ev_var rfl) ev_c rv_I0)) fun hn => ?_) (Bool.and_false _)) (fun z => by cases z) fun _ H4 e4 => ⟨rfl, x3.same e4⟩
      have pos := of_decide_eq_true hn
      have eT := el_td (K := K) (C := G.C) (cN := G.cs 2) (i := 3) (la := ((n : Nat) : Int) - 1) (te := tOp (rI0 fun i j => .int (i - j)) (tVar 4) (tC (.int 1))) (σ := ([some (.ref h), some pv, some ov, some (.ref a), some (.int (n : Nat)), some (.ref p), none, none, none] : L2.St)) rfl x3.ht l1 ⟨by omega, by omega⟩ (ev_op (ev_var rfl) ev_c rv_I0)
      rw [show ((((n : Nat) : Int) - 1) + 1).toNat = n by omega] at eT
      exact et_al (eda_cons (edp_list eT) (eda_cons (edp_ev (ev_var rfl) fun H4 e4 => .lst (.of (e4 _ _ hp3)) (intsDp _)) eda_nil)) (intD_ints 2 (by omega))
    rintro σ H4 ⟨rfl, x4⟩
    refine ⟨fun σ H' => ∃ far : Int, 0 ≤ far ∧ far < 1000000000000000000 ∧ σ = ([some (.ref h), some pv, some ov, some (.ref a), some (.int (n : Nat)), some (.ref p), some (.int far), none, none] : L2.St) ∧ DaI K G.C h c a pv ov ln d o ds os H H', ?_, ?_⟩
    · have ea : EvA (tCons (tVar 0) (tCons (tOp rPw (tI 10) (tI 18)) tNil)) ([some (.ref h), some pv, some ov, some (.ref a), some (.int (n : Nat)), some (.ref p), none, none, none] : L2.St) H4 [.ref h, .int 1000000000000000000] :=
        ea_cons (ev_var rfl) (ea_cons (ev_is (ev_pw ev_tI ev_tI ⟨by decide, by decide, by decide⟩) (by rw [pw18])) ea_nil)
      show tCall spNext [] E0 (tCons (tVar 0) (tCons (tOp rPw (tI 10) (tI 18)) tNil)) _ H4 _
      exact ea H4 (Ex.refl _) _ fun H5 e5 => ⟨h, c, 1000000000000000000, rfl, by decide, by decide +kernel, x4.hd.same e5, fun y H6 y0 y1 d6 k6 => ⟨y, y0, y1, rfl, (x4.same e5).kp d6 k6⟩⟩
    rintro σ H5 ⟨far, f0, f1, rfl, x5⟩
    refine ⟨fun σ H' => σ = ([some (.ref h), some pv, some ov, some (.ref a), some (.int (n : Nat)), some (.ref p), some (.int far), some (.int (if trv ln ds os far = true then 1 else 0)), none] : L2.St) ∧ DaI K G.C h c a pv ov ln d o ds os H H', ?_, ?_⟩
    · have eM := ev_op (r := rI0 fun i j => .int (i - j)) (ev_ct (cN := G.cs 2) (i := 3) (n := far + 1) (te := tOp (rI0 fun i j => .int (i + j)) (tVar 6) (tC (.int 1))) (σ := ([some (.ref h), some pv, some ov, some (.ref a), some (.int (n : Nat)), some (.ref p), some (.int far), none, none] : L2.St)) rfl x5.ht ok ⟨by omega, by omega⟩ (ev_op (ev_var rfl) ev_c rv_I0)) (ev_ct (cN := G.cs 2) (i := 3) (n := far) (te := tVar 6) rfl x5.ht ok ⟨by omega, by omega⟩ (ev_var rfl)) rv_I0
      rw [ct_step ok] at eM
      refine eM H5 (Ex.refl _) _ fun H6 e6 => ⟨?_, x5.same e6⟩
      rw [show ctAll ln ds os far + (if trv ln ds os far = true then 1 else 0) - ctAll ln ds os far = if trv ln ds os far = true then 1 else 0 by omega]
      rfl
    rintro σ H6 ⟨rfl, x6⟩
    refine ⟨fun σ H' => σ = ([some (.ref h), some pv, some ov, some (.ref a), some (.int (n : Nat)), some (.ref p), some (.int far), some (.int (if trv ln ds os far = true then 1 else 0)), none] : L2.St) ∧ DaI K G.C h c a pv ov ln d o ds os H H', ?_, ?_⟩
    · refine s_when (b := false) (et_is (et_test (ev_op (ev_var rfl) (ev_intB (ev_trv (n := far) (pv := pv) (ov := ov) rfl rfl x6.hp x6.ho l1 (ev_var rfl))) (rv_ne rfl))) ?_) (fun z => by cases z) fun _ H7 e7 => ⟨rfl, x6.same e7⟩
      rw [decide_eq_true rfl]
      rfl
    rintro σ H7 ⟨rfl, x7⟩
    refine ⟨fun σ H' => DaI K G.C h c a pv ov ln d o ds os H H', ?_, fun σ H8 x8 => q H8 x8.hd x8.hk⟩
    obtain ⟨po, rfl, hpo⟩ := id x7.ho
    have item : ∀ (i : Nat) (x : V), (os.map V.int)[i]? = some x → x = .int (os.getD i 0) := fun i x hx => by
      rw [List.getElem?_map] at hx
      cases hi : os[i]? with
      | none =>
        rw [hi] at hx
        cases hx
      | some y =>
        rw [hi] at hx
        cases hx
        rw [List.getD_eq_getElem?_getD, hi]
        rfl
    have eO := el_lcTup (K := K) (tl := tVar 2) (σ := ([some (.ref h), some pv, some (.ref po), some (.ref a), some (.int (n : Nat)), some (.ref p), some (.int far), some (.int (if trv ln ds os far = true then 1 else 0)), none] : L2.St)) (H := H7) (te := tVar 8) (t := tYes) (j := 8) (vs := [8])
      (fun _ => true) (fun i => .int (os.getD i 0)) (ev_var rfl) hpo (by rw [List.length_map]; omega) (fun _ => rfl) (fun i x H8 e8 hx => fun H9 e9 Q9 q9 => q9 H9 (Ex.refl _)) (fun i x H8 e8 hx _ => by
        rw [item i x hx]
        exact ev_var rfl)
    rw [given_filter os (fun _ => true), List.filter_eq_self.mpr (fun _ _ => rfl)] at eO
    have eF : EvL (tLst (tCons (tVar 6) (tCons (tVar 4) (tCons (tOp rPw (tI 10) (tI 18)) tNil)))) ([some (.ref h), some pv, some (.ref po), some (.ref a), some (.int (n : Nat)), some (.ref p), some (.int far), some (.int (if trv ln ds os far = true then 1 else 0)), none] : L2.St) H7 ([far, (n : Int), 1000000000000000000].map V.int) :=
      el_lst (ea_cons (ev_var rfl) (ea_cons (ev_var rfl) (ea_cons (ev_is (ev_pw ev_tI ev_tI ⟨by decide, by decide, by decide⟩) (by rw [pw18])) ea_nil))) (show 3 ≤ 100000 by decide)
    have eX := el_catL eF eO (by rw [List.length_map, List.length_map]; show 3 + os.length ≤ 1000; omega)
    rw [← List.map_append] at eX
    have range : ∀ x ∈ [far, (n : Int), 1000000000000000000] ++ os, 0 ≤ x ∧ x ≤ 1000000000000000000 := fun x hx => by
      rcases List.mem_append.mp hx with hx | hx
      · simp only [List.mem_cons, List.not_mem_nil, or_false] at hx
        omega
      · exact (good_iff.mp ok.go).2 x hx
    refine s_forNL eX (fun l i σ' H' => (∃ v8, σ' = ([some (.ref h), some pv, some (.ref po), some (.ref a), some (.int (n : Nat)), some (.ref p), some (.int far), some (.int (if trv ln ds os far = true then 1 else 0)), v8] : L2.St)) ∧ DaI K G.C h c a pv (.ref po) ln d o ds os H H' ∧ H' l = some (.lst (([far, (n : Int), 1000000000000000000] ++ os).map V.int)))
      (fun l H8 nl e8 hl => ⟨⟨none, rfl⟩, x7.same e8, hl⟩) (fun l i σ' H' _ ⟨_, _, hl⟩ => .of hl) ?_ fun l σ' H' ⟨_, x8, _⟩ => x8
    rintro l i y σ' H8 hy ⟨⟨v8, rfl⟩, x8, hl⟩
    rw [List.getElem?_map] at hy
    cases hz : ([far, (n : Int), 1000000000000000000] ++ os)[i]? with
    | none =>
      rw [hz] at hy
      cases hy
    | some z =>
      rw [hz] at hy
      cases hy
      have rz := range z (List.mem_of_getElem? hz)
      refine s_when (b := false) (et_al (eda_cons (edp_bool (ev_is_td (n := z) rfl x8.ht ok rz (ev_var rfl))) (eda_cons (edp_bool (ev_trv (n := z) (pv := pv) (ov := .ref po) rfl rfl x8.hp x8.ho l1 (ev_var rfl))) eda_nil)) (.bool 3 _)) (fun z => by cases z) fun _ H9 e9 => ⟨⟨_, rfl⟩, x8.same e9, e9 _ _ hl⟩
end
end Sea

set_option Elab.async false
set_option linter.all false
set_option maxRecDepth 100000
set_option maxHeartbeats 4000000
namespace Sea
open PySem PySem.Spec PyProof.Rows L2 LamX NdefX ClX Evl StX
def boolI (i : Nat) : Expr → Expr
  | .BoolOp _ es _ => es.getD i noE
  | _ => noE
def lawB : List Stmt := forB ((defBody sLaw).getD 1 noS)
abbrev lam1 : Expr := callA (cmpL (boolI 1 (ifC (lawB.getD 9 noS))))
abbrev lam2 : Expr := lisI 0 (asgE (lawB.getD 11 noS))
abbrev lam3 : Expr := lisI 1 (asgE (lawB.getD 11 noS))
abbrev lam4 : Expr := lisI 0 (callA (asgE (lawB.getD 12 noS)))
abbrev lam5 : Expr := lisI 1 (callA (asgE (lawB.getD 12 noS)))
abbrev lam6 : Expr := lisI 0 (callA (asgE (lawB.getD 13 noS)))
abbrev lam7 : Expr := lisI 1 (callA (asgE (lawB.getD 13 noS)))
theorem scL1 : NScope ["_law_travel", "_law_day"] [] ["_law_travel", "_law_day"] (lamS lam1) := nscope_by (by decide +kernel)
theorem scL2 : NScope ["_law_travel", "_law_far"] [] ["_law_travel", "_law_far"] (lamS lam2) := nscope_by (by decide +kernel)
theorem scL3 : NScope ["_law_a", "_law_travel", "_law_far"] ["_law_a"] ["_law_travel", "_law_far"] (lamS lam3) := nscope_by (by decide +kernel)
theorem scL4 : NScope ["_law_travel", "_law_far"] [] ["_law_travel", "_law_far"] (lamS lam4) := nscope_by (by decide +kernel)
theorem scL5 : NScope ["_law_a", "_law_travel", "_law_far"] ["_law_a"] ["_law_travel", "_law_far"] (lamS lam5) := nscope_by (by decide +kernel)
theorem scL6 : NScope ["_law_travel"] [] ["_law_travel"] (lamS lam6) := nscope_by (by decide +kernel)
theorem scL7 : NScope ["_law_a", "_law_travel"] ["_law_a"] ["_law_travel"] (lamS lam7) := nscope_by (by decide +kernel)
/-- a thunk about the travel and a number -/
def tsM (sp : Sp) : TSp := fun ws H Q E => ∃ (a : Addr) (z : Int), ws = [some (.ref a), some (.int z)] ∧ sp [.ref a, .int z] H Q E
/-- .. that raises InvalidCount -/
def tsN (K : PySem.W.Frag) (C cN : Addr) : TSp := fun ws H Q E => ∃ (a : Addr) (z ln : Int) (d o : V) (ds os : List Int), ws = [some (.ref a), some (.int z)] ∧ Tv K C H a ln d o ds os ∧ TvOk ln ds os ∧ os.length ≤ 6 ∧ ¬ (0 ≤ z ∧ z ≤ 1000000000000000000) ∧ ∀ H', Same H H' → E (.ref cN) none H'
def tsN0 (K : PySem.W.Frag) (C cN : Addr) : TSp := fun ws H Q E => ∃ (a : Addr) (ln : Int) (d o : V) (ds os : List Int), ws = [some (.ref a)] ∧ Tv K C H a ln d o ds os ∧ TvOk ln ds os ∧ ∀ H', Same H H' → E (.ref cN) none H'
theorem tdOk_far {z : Int} (h : ¬ (0 ≤ z ∧ z ≤ 1000000000000000000)) : ¬ tdOk z z := fun ⟨a, _⟩ => h a
theorem tdOk_54 : ¬ tdOk 5 4 := fun ⟨_, a, _⟩ => absurd a (by decide)
theorem tdOk_5m : ¬ tdOk 5 10005 := fun ⟨_, _, a⟩ => by
  rw [if_pos (by decide)] at a
  exact absurd a (by decide)
section
variable {P : Program} {w : World} {K : PySem.W.Frag} {mg : Str → Option Value} {base : Heap} {f c t : Addr} {cl : List (Str × Addr)}
theorem lok1 (G : Gd K mg) : LOk P w K mg base (L2.CX P w) 8 f (mkF qLam lam1 cl c .none) ["_law_travel", "_law_day"] (tsM (spWx K G.C (G.cs 1) (G.cs 2))) := by
  refine lok_of0 (k := 7) scL1 (fun _ _ _ => rfl) fun A outer s H ws Q E hr hl h => ?_
  obtain ⟨a, z, rfl, hw⟩ := h
  refine ⟨_, pe_meth (E := E) (pv 0) G.W.cl G.mWx (ok_wx G.uWx G.T G.W G.mT G.mS G.N.mN G.mkT G.uT) hr G.bWx .nil (passes_call (takes_of rfl rfl rfl rfl) (fun _ _ _ _ h => h)) (pa_cons (pv 1) pa_nil), ?_⟩
  obtain ⟨a', ln, z', d, o, ds, os, e, ht, _⟩ := id hw
  cases e
  obtain ⟨dx, ha⟩ := ht.1
  exact ⟨_, rfl, a, dx, _, rfl, ha, tvF_no _ _ _ (by decide +kernel) (by decide +kernel) (by decide +kernel), _, rfl, hw⟩
theorem lok2 (G : Gd K mg) : LOk P w K mg base (L2.CX P w) 8 f (mkF qLam lam2 cl c .none) ["_law_travel", "_law_far"] (tsN K G.C (G.cs 2)) := by
  refine lok_of0 (k := 7) scL2 (fun _ _ _ => rfl) fun A outer s H ws Q E hr hl h => ?_
  obtain ⟨a, z, ln, d, o, ds, os, rfl, ht, ok, few, nz, q⟩ := h
  refine ⟨_, pe_meth (E := E) (pv 0) G.W.cl G.mIs (ok_is (k := 0) G.uIs G.T G.W G.mI G.mTo G.uTo) (hr.mono (by decide)) G.bIs .nil (passes_call (takes_of rfl rfl rfl rfl) (fun _ _ _ _ h => h)) (pa_cons (pv 1) pa_nil), ?_⟩
  obtain ⟨dx, ha⟩ := ht.1
  have := ok.l1
  exact ⟨_, rfl, a, dx, _, rfl, ha, tvF_no _ _ _ (by decide +kernel) (by decide +kernel) (by decide +kernel), _, rfl, a, ln, z, d, o, ds, os, rfl, ht, by omega, fun y => absurd y nz, fun _ H' s => q H' s⟩
theorem lok3 (G : Gd K mg) : LOk P w K mg base (L2.CX P w) 8 f (mkF qLam lam3 cl c (.ref t)) ["_law_travel", "_law_far"] (tsN K G.C (G.cs 2)) := by
  refine lok_ofD (k := 7) (a := "_law_a") (t := t) scL3 rfl (fun _ _ _ => ⟨_, rfl, fun _ => rfl⟩) fun A outer s H ws Q E dd hr hl h => ?_
  obtain ⟨a, z, ln, d, o, ds, os, rfl, ht, ok, few, nz, q⟩ := h
  refine ⟨_, pe_meth (E := E) (pv 1) G.W.cl G.mCt (ok_ct (k := 0) G.uCt G.T G.W G.mI G.N.mN) (hr.mono (by decide)) G.bCt .nil (passes_call (takes_of rfl rfl rfl rfl) (fun _ _ _ _ h => h)) (pa_cons (pv 2) pa_nil), ?_⟩
  obtain ⟨dx, ha⟩ := ht.1
  have := ok.nd
  have := ok.l2
  exact ⟨_, rfl, a, dx, _, rfl, ha, tvF_no _ _ _ (by decide +kernel) (by decide +kernel) (by decide +kernel), _, rfl, a, ln, z, d, o, ds, os, rfl, ht, ok.l1, ok.l2, by omega, fun y => absurd y nz, fun _ H' s => q H' s⟩
theorem lok4 (G : Gd K mg) : LOk P w K mg base (L2.CX P w) 8 f (mkF qLam lam4 cl c .none) ["_law_travel", "_law_far"] (tsN K G.C (G.cs 2)) := by
  refine lok_of0 (k := 7) scL4 (fun _ _ _ => rfl) fun A outer s H ws Q E hr hl h => ?_
  obtain ⟨a, z, ln, d, o, ds, os, rfl, ht, ok, few, nz, q⟩ := h
  refine ⟨_, pe_meth (E := E) (pv 0) G.W.cl G.mWx (ok_wx G.uWx G.T G.W G.mT G.mS G.N.mN G.mkT G.uT) hr G.bWx .nil (passes_call (takes_of rfl rfl rfl rfl) (fun _ _ _ _ h => h)) (pa_cons (pv 1) pa_nil), ?_⟩
  obtain ⟨dx, ha⟩ := ht.1
  exact ⟨_, rfl, a, dx, _, rfl, ha, tvF_no _ _ _ (by decide +kernel) (by decide +kernel) (by decide +kernel), _, rfl, a, ln, z, d, o, ds, os, rfl, ht, ok, few, fun y => absurd y nz, fun _ H' s => q H' s⟩
/-- only InvalidCount leaves -/
abbrev onlyN (cN : Addr) (E : XK) : XK := fun cls d H => E cls d H ∧ cls = .ref cN
theorem noStopN {cN : Addr} {E : XK} (h : PySem.W.subIn K (.ref cN) (.type "StopIteration") = some false) : NoStop K (onlyN cN E) := fun cls d H ⟨_, e⟩ => by rw [e]; exact h
theorem lok5 (G : Gd K mg) (nSt : PySem.W.subIn K (.ref (G.cs 2)) (.type "StopIteration") = some false) : LOk P w K mg base (L2.CX P w) 8 f (mkF qLam lam5 cl c (.ref t)) ["_law_travel", "_law_far"] (tsN K G.C (G.cs 2)) := by
  refine lok_ofD (k := 7) (a := "_law_a") (t := t) scL5 rfl (fun _ _ _ => ⟨_, rfl, fun _ => rfl⟩) fun A outer s H ws Q E dd hr hl h => ?_
  obtain ⟨a, z, ln, d, o, ds, os, rfl, ht, ok, few, nz, q⟩ := h
  refine ⟨_, pe_listG (E := onlyN (G.cs 2) E) (pgen_meth (E := onlyN (G.cs 2) E) (pv 1) G.W.cl G.mTd (ok_td (k := 0) G.uTd G.T G.W G.mI G.mMin G.mR G.mTo G.uTo) (hr.mono (by decide)) G.bTd .nil (pa_cons (pv 2) (pa_cons (pv 2) pa_nil))) (passes_call (takes_of rfl rfl rfl rfl) (fun _ _ _ _ h => h.1)) (noStopN nSt) (hr.mono (by decide)) (by rfl) G.mL (by rfl), ?_⟩
  obtain ⟨dx, ha⟩ := ht.1
  have := ok.l1
  exact ⟨_, rfl, a, dx, _, rfl, ha, tvF_no _ _ _ (by decide +kernel) (by decide +kernel) (by decide +kernel), _, rfl, _, rfl, a, ln, z, z, d, o, ds, os, rfl, ht, by omega, fun y => absurd y (tdOk_far nz), fun _ H' s => ⟨q H' s, rfl⟩⟩
theorem lok6 (G : Gd K mg) (nSt : PySem.W.subIn K (.ref (G.cs 2)) (.type "StopIteration") = some false) : LOk P w K mg base (L2.CX P w) 8 f (mkF qLam lam6 cl c .none) ["_law_travel"] (tsN0 K G.C (G.cs 2)) := by
  refine lok_of0 (k := 7) scL6 (fun _ _ _ => rfl) fun A outer s H ws Q E hr hl h => ?_
  obtain ⟨a, ln, d, o, ds, os, rfl, ht, ok, q⟩ := h
  refine ⟨_, pe_listG (E := onlyN (G.cs 2) E) (pgen_meth (E := onlyN (G.cs 2) E) (pv 0) G.W.cl G.mTd (ok_td (k := 0) G.uTd G.T G.W G.mI G.mMin G.mR G.mTo G.uTo) (hr.mono (by decide)) G.bTd .nil (pa_cons pe_int (pa_cons pe_int pa_nil))) (passes_call (takes_of rfl rfl rfl rfl) (fun _ _ _ _ h => h.1)) (noStopN nSt) (hr.mono (by decide)) (by rfl) G.mL (by rfl), ?_⟩
  obtain ⟨dx, ha⟩ := ht.1
  have := ok.l1
  exact ⟨_, rfl, a, dx, _, rfl, ha, tvF_no _ _ _ (by decide +kernel) (by decide +kernel) (by decide +kernel), a, ln, 5, 4, d, o, ds, os, rfl, ht, by omega, fun y => absurd y tdOk_54, fun _ H' s => ⟨q H' s, rfl⟩⟩
theorem lok7 (G : Gd K mg) (nSt : PySem.W.subIn K (.ref (G.cs 2)) (.type "StopIteration") = some false) : LOk P w K mg base (L2.CX P w) 8 f (mkF qLam lam7 cl c (.ref t)) ["_law_travel"] (tsN0 K G.C (G.cs 2)) := by
  refine lok_ofD (k := 7) (a := "_law_a") (t := t) scL7 rfl (fun _ _ _ => ⟨_, rfl, fun _ => rfl⟩) fun A outer s H ws Q E dd hr hl h => ?_
  obtain ⟨a, ln, d, o, ds, os, rfl, ht, ok, q⟩ := h
  refine ⟨_, pe_listG (E := onlyN (G.cs 2) E) (pgen_meth (E := onlyN (G.cs 2) E) (pv 1) G.W.cl G.mTd (ok_td (k := 0) G.uTd G.T G.W G.mI G.mMin G.mR G.mTo G.uTo) (hr.mono (by decide)) G.bTd .nil (pa_cons pe_int (pa_cons pe_int pa_nil))) (passes_call (takes_of rfl rfl rfl rfl) (fun _ _ _ _ h => h.1)) (noStopN nSt) (hr.mono (by decide)) (by rfl) G.mL (by rfl), ?_⟩
  obtain ⟨dx, ha⟩ := ht.1
  have := ok.l1
  exact ⟨_, rfl, a, dx, _, rfl, ha, tvF_no _ _ _ (by decide +kernel) (by decide +kernel) (by decide +kernel), a, ln, 5, 10005, d, o, ds, os, rfl, ht, by omega, fun y => absurd y tdOk_5m, fun _ H' s => ⟨q H' s, rfl⟩⟩
end
end Sea

set_option Elab.async false
set_option linter.all false
set_option maxRecDepth 100000
set_option maxHeartbeats 4000000
/-! lambdas in lists: what stands of them through the steps, and all of them called -/
namespace Sea
open PySem PySem.Spec PyProof.Rows L2 LamX NdefX ClX Evl StX
/-- the lambda F stands at f, with its code object and its defaults -/
structure LamHere (H : Hp) (f : Addr) (F : LF) : Prop where
  f : H f = some (LamO f F)
  c : H F.c = some (CodeO F.c F.qual)
  d : DvOk F H
theorem LamHere.extN {H H' : Hp} {f : Addr} {F : LF} (l : LamHere H f F) (e : ExtN H H') : LamHere H' f F :=
  ⟨e _ _ l.f lam_ne, e _ _ l.c code_ne, fun t ht => let ⟨d, h⟩ := l.d t ht; ⟨d, e _ _ h fun ps z => by cases z⟩⟩
theorem LamHere.but {H : Hp} {f D : Addr} {F : LF} {xs ys : List V} (l : LamHere H f F) (h : H D = some (.lst xs)) : LamHere (upd H D (.lst ys)) f F := by
  have no : ∀ {b : Addr} {o : HO}, H b = some o → (∀ zs, o ≠ .lst zs) → upd H D (.lst ys) b = some o := fun {b o} e n => by
    by_cases z : b = D
    · rw [z, h] at e
      exact absurd (Option.some.inj e).symm (n _)
    · rw [upd_ne z]
      exact e
  refine ⟨no l.f fun zs => nofun, no l.c fun zs z => ?_, fun t ht => let ⟨d, e⟩ := l.d t ht; ⟨d, no e fun zs => nofun⟩⟩
  unfold CodeO at z
  cases z
/-- what a caller may do with the lambda F -/
structure Ready (X : Cx) (j : Nat) (fr : List Str) (js : List Nat) (lsp : TSp) (F : LF) : Prop where
  ok : ∀ f, LOk X.prog X.w X.K X.mg X.base (L2.CX X.prog X.w) j f F fr lsp
  cp : X.Ok → Caps X F.cl fr js
/-- a lambda is made, the tables grow -/
def EvLam (te : TE) (σ : L2.St) (T : List (Addr × Str)) (R : LF → Prop) : Prop := ∀ (H : Hp) (Q : VK), Tabs T H → (∀ f F H1, ExtN H H1 → Tabs T H1 → H f = none → R F → LamHere H1 f F → Q (.ref f) H1) → te σ H Q
section
variable {X : Cx} {T : List (Addr × Str)} {σ : L2.St} {j : Nat} {fr : List Str} {js : List Nat} {lsp : TSp}
theorem evlam_V {mk : Addr → LF} (dv : ∀ c, (mk c).dV = .none) (cc : ∀ c, (mk c).c = c) (R : ∀ c, Ready X j fr js lsp (mk c)) : EvLam (tLamV T mk) σ T (Ready X j fr js lsp) := fun H Q hT q => by
  refine ⟨hT, fun f c H1 e T1 nf hf hc => q f (mk c) H1 e T1 nf (R c) ⟨hf, by rw [cc c]; exact hc, fun t z => ?_⟩⟩
  rw [dv c] at z
  cases z
theorem evlam_D {i : Int} {mk : Addr → Addr → LF} (dv : ∀ c t, (mk c t).dV = .ref t) (cc : ∀ c t, (mk c t).c = c) (R : ∀ c t, Ready X j fr js lsp (mk c t)) : EvLam (tLamD T i mk) σ T (Ready X j fr js lsp) := fun H Q hT q => by
  refine ⟨hT, fun f c t H1 e T1 nf nt ht hf hc => q f (mk c t) H1 e T1 nf (R c t) ⟨hf, by rw [cc c t]; exact hc, fun t' z => ?_⟩⟩
  rw [dv c t] at z
  cases z
  exact ⟨i, ht⟩
/-- [lambda, lambda] -/
theorem lams2 {t1 t2 : TE} {R1 R2 : LF → Prop} {H : Hp} {Q : VK} (h1 : EvLam t1 σ T R1) (h2 : EvLam t2 σ T R2) (hT : Tabs T H)
    (q : ∀ f F g G D H1, ExtN H H1 → Tabs T H1 → R1 F → LamHere H1 f F → R2 G → LamHere H1 g G → (∀ b o, H b = some o → (∀ ps, o ≠ .tbl ps) → b ≠ D) → H1 D = some (.lst [.ref f, .ref g]) → Q (.ref D) H1) : tLst (tCons t1 (tCons t2 tNil)) σ H Q := by
  refine h1 H _ hT fun f F H1 e1 T1 _ r1 l1 => h2 H1 _ T1 fun g G H2 e2 T2 _ r2 l2 => ⟨Nat.le_of_lt (small1000 (show 2 ≤ 1000 by decide)), fun D nD => ?_⟩
  have e3 : ExtN H2 (upd H2 D (.lst [.ref f, .ref g])) := extN_new nD
  exact q f F g G D _ ((e1.trans e2).trans e3) (tabs_keep T2 nD) r1 ((l1.extN e2).extN e3) r2 (l2.extN e3) (fun b o hb no => ne_of_none ((e1.trans e2) b o hb no) nD) upd_same
/-- a thunk that raises InvalidCount whenever it is called, as long as the heap holds what it holds now -/
def Cnt (X : Cx) (j : Nat) (cN : Addr) (σ : L2.St) (H : Hp) (v : V) : Prop := ∃ (f : Addr) (F : LF) (fr : List Str) (js : List Nat) (lsp : TSp), v = .ref f ∧ Ready X j fr js lsp F ∧ LamHere H f F ∧
  ∀ (H' : Hp) (Q : VK) (E : XK), Ex H H' → (∀ H2, Same H' H2 → E (.ref cN) none H2) → lsp (js.map (slotAt σ)) H' Q E
theorem Cnt.ex {cN : Addr} {H H' : Hp} {v : V} (h : Cnt X j cN σ H v) (e : Ex H H') : Cnt X j cN σ H' v := by
  obtain ⟨f, F, fr, js, lsp, rfl, r, l, q⟩ := h
  exact ⟨f, F, fr, js, lsp, rfl, r, l.extN (.of e), fun H2 Q E e2 => q H2 Q E (e.trans e2)⟩
/-- [_law_error(call) for call in works], each call raises InvalidCount -/
theorem gAll_cnt {cs : Nat → Addr} {a : Addr} {xs : List V} {Q : VK} : ∀ (r acc : List V) (H : Hp), SqL X.K H a xs → (∀ v ∈ r, Cnt X j (cs 2) σ H v) → (∀ v ∈ acc, ∃ p, v = .ref p ∧ H p = some (.tup [.str "count"])) →
    (∀ (us : List V) (H' : Hp), Ex H H' → us.length = acc.length + r.length → (∀ v ∈ us, ∃ p, v = .ref p ∧ H' p = some (.tup [.str "count"])) → ∀ D, H' D = none → Q (.ref D) (upd H' D (.lst us))) →
    gAll X (L2.CX X.prog X.w) j (spErr cs) σ a xs Q r acc H
  | [], acc, H, h, _, c, q => ⟨h, q acc H (Ex.refl _) rfl c⟩
  | v :: r, acc, H, h, t, c, q => by
    obtain ⟨f, F, fr, js, lsp, rfl, R, l, raise⟩ := t v List.mem_cons_self
    refine ⟨h, f, F, fr, js, lsp, rfl, R.ok f, l.f, l.c, l.d, R.cp, raise H _ _ (Ex.refl _) fun H1 s1 => .inr ⟨rfl, rfl, fun p H2 s2 hp => ?_⟩⟩
    have e : Ex H H2 := Ex.trans s1 s2
    refine gAll_cnt r (acc ++ [.ref p]) H2 (ex_l e h) (fun u hu => (t u (List.mem_cons_of_mem _ hu)).ex e) (fun u hu => ?_) fun us H3 e3 len all => q us H3 (e.trans e3) (by rw [len, List.length_append, List.length_singleton, List.length_cons]; omega) all
    rcases List.mem_append.mp hu with z | z
    · obtain ⟨p', e', h'⟩ := c u z
      exact ⟨p', e', e _ _ h'⟩
    · exact ⟨p, List.mem_singleton.mp z, hp⟩
theorem cntDp {K : PySem.W.Frag} {H : Hp} : ∀ {us : List V}, (∀ v ∈ us, ∃ p, v = .ref p ∧ H p = some (.tup [.str "count"])) → DpAll K H us (List.replicate us.length (.tuple [.str "count"]))
  | [], _ => .nil
  | v :: us, h => by
    obtain ⟨p, rfl, hp⟩ := h v List.mem_cons_self
    exact .cons (.tup (.of hp) (.cons (.str _) .nil)) (cntDp fun u hu => h u (List.mem_cons_of_mem _ hu))
end
/-- what the law holds on to within a turn -/
structure LwI (K : PySem.W.Frag) (C h c a : Addr) (T : List (Addr × Str)) (pv ov : V) (ln : Int) (d o : V) (ds os : List Int) (H : Hp) : Prop where
  hp : PtA K H pv ln ds
  ho : TiA K H ov os
  ht : Tv K C H a ln d o ds os
  hd : Dr H h c
  hT : Tabs T H
section
variable {K : PySem.W.Frag} {C h c a : Addr} {T : List (Addr × Str)} {H H' : Hp} {ln : Int} {d o pv ov : V} {ds os : List Int}
theorem LwI.same (x : LwI K C h c a T pv ov ln d o ds os H) (e : Ex H H') : LwI K C h c a T pv ov ln d o ds os H' := ⟨x.hp.tk (.same e), x.ho.tk (.same e), x.ht.same e, x.hd.same e, tabs_same x.hT e⟩
theorem LwI.kp (x : LwI K C h c a T pv ov ln d o ds os H) (d' : Dr H' h c) (k' : Kp h c H H') : LwI K C h c a T pv ov ln d o ds os H' := ⟨x.hp.tk (x.hd.tk k'), x.ho.kp x.hd k', x.ht.kp x.hd k', d', tabs_kp x.hT x.hd k'⟩
theorem Tv.extN (t : Tv K C H a ln d o ds os) (e : ExtN H H') : Tv K C H' a ln d o ds os := by
  obtain ⟨⟨dx, ha⟩, hd, ho⟩ := t
  exact ⟨⟨dx, e _ _ ha fun ps z => by cases z⟩, hd.tk (.extN e), ho.tk (.extN e)⟩
theorem LwI.extN (x : LwI K C h c a T pv ov ln d o ds os H) (e : ExtN H H') (hT : Tabs T H') : LwI K C h c a T pv ov ln d o ds os H' := ⟨x.hp.tk (.extN e), x.ho.tk (.extN e), x.ht.extN e, x.hd.extN e, hT⟩
theorem LwI.but {D : Addr} {xs ys : List V} (x : LwI K C h c a T pv ov ln d o ds os H) (hl : H D = some (.lst xs)) (n1 : h ≠ D) (n2 : c ≠ D) : LwI K C h c a T pv ov ln d o ds os (upd H D (.lst ys)) := by
  have tk : TK K H (upd H D (.lst ys)) := .but (fun b => b = D) (fun b o e n => by rw [upd_ne n]; exact e) fun b zs z => by
    rw [z]
    exact Rd.lst_no hl
  obtain ⟨⟨dx, ha⟩, hd, ho⟩ := x.ht
  obtain ⟨n0, m, k, ns, f1, f2, f3⟩ := x.hd
  refine ⟨x.hp.tk tk, x.ho.tk tk, ⟨⟨dx, ?_⟩, hd.tk tk, ho.tk tk⟩, ⟨n0, m, k, ns, by rw [upd_ne n1]; exact f1, by rw [upd_ne n2]; exact f2, f3⟩, tabs_but x.hT fun b u e n => ?_⟩
  · rw [upd_ne fun z => by
      rw [z, hl] at ha
      cases ha]
    exact ha
  · rw [upd_ne fun z => by
      rw [z, hl] at e
      exact n.1 _ (Option.some.inj e).symm]
    exact e
end
end Sea

set_option Elab.async false
set_option linter.all false
set_option maxRecDepth 100000
set_option maxHeartbeats 4000000
namespace Sea
open PySem PySem.Spec PyProof.Rows L2 LamX NdefX ClX Evl StX
abbrev NL : List Str := ["_law_script", "_law_h", "_law_turn", "_law_pattern_here", "_law_odd_here", "_law_travel", "_law_day", "_law_other", "_law_far", "_law_works", "_law_one", "_law_call"]
theorem scLaw : FnScope NL ["_law_script"] (defScope sLaw) := ⟨rfl, rfl, rfl, by decide +kernel, rfl, by decide +kernel, by decide +kernel⟩
theorem hf1 : ∀ y ∈ (lamS lam1).names, y.2 = .free → (defScope sLaw).names.lookup y.1 = some .cell ∨ (defScope sLaw).names.lookup y.1 = some .free := by decide +kernel
theorem hf2 : ∀ y ∈ (lamS lam2).names, y.2 = .free → (defScope sLaw).names.lookup y.1 = some .cell ∨ (defScope sLaw).names.lookup y.1 = some .free := by decide +kernel
theorem hf3 : ∀ y ∈ (lamS lam3).names, y.2 = .free → (defScope sLaw).names.lookup y.1 = some .cell ∨ (defScope sLaw).names.lookup y.1 = some .free := by decide +kernel
theorem hf4 : ∀ y ∈ (lamS lam4).names, y.2 = .free → (defScope sLaw).names.lookup y.1 = some .cell ∨ (defScope sLaw).names.lookup y.1 = some .free := by decide +kernel
theorem hf5 : ∀ y ∈ (lamS lam5).names, y.2 = .free → (defScope sLaw).names.lookup y.1 = some .cell ∨ (defScope sLaw).names.lookup y.1 = some .free := by decide +kernel
theorem hf6 : ∀ y ∈ (lamS lam6).names, y.2 = .free → (defScope sLaw).names.lookup y.1 = some .cell ∨ (defScope sLaw).names.lookup y.1 = some .free := by decide +kernel
theorem hf7 : ∀ y ∈ (lamS lam7).names, y.2 = .free → (defScope sLaw).names.lookup y.1 = some .cell ∨ (defScope sLaw).names.lookup y.1 = some .free := by decide +kernel
theorem hr1 : ∀ y ∈ (["_law_travel", "_law_day"] : List Str), (y, NameKind.free) ∈ (lamS lam1).names := by decide +kernel
theorem hr2 : ∀ y ∈ (["_law_travel", "_law_far"] : List Str), (y, NameKind.free) ∈ (lamS lam2).names := by decide +kernel
theorem hr3 : ∀ y ∈ (["_law_travel", "_law_far"] : List Str), (y, NameKind.free) ∈ (lamS lam3).names := by decide +kernel
theorem hr4 : ∀ y ∈ (["_law_travel", "_law_far"] : List Str), (y, NameKind.free) ∈ (lamS lam4).names := by decide +kernel
theorem hr5 : ∀ y ∈ (["_law_travel", "_law_far"] : List Str), (y, NameKind.free) ∈ (lamS lam5).names := by decide +kernel
theorem hr6 : ∀ y ∈ (["_law_travel"] : List Str), (y, NameKind.free) ∈ (lamS lam6).names := by decide +kernel
theorem hr7 : ∀ y ∈ (["_law_travel"] : List Str), (y, NameKind.free) ∈ (lamS lam7).names := by decide +kernel
structure Gl (K : PySem.W.Frag) (mg : Str → Option Value) extends Gd K mg where
  fDa : Addr
  dDa : FuncData
  gDa : mg "_law_days_right" = some (.ref fDa)
  kDa : PySem.W.keepIn K (.ref fDa) = true
  uDa : Fun K "_law_days_right" "_law_days_right" sDa fDa dDa
  nSt : PySem.W.subIn K (.ref (cs 2)) (.type "StopIteration") = some false
  ne : Pe ≠ Pt
theorem Gl.bDa {K : PySem.W.Frag} {mg : Str → Option Value} (G : Gl K mg) : Binds K G.dDa ["_law_h", "_law_pattern_here", "_law_odd_here", "_law_travel"] [] := G.uDa.binds (ps := ["_law_h", "_law_pattern_here", "_law_odd_here", "_law_travel"]) fun _ _ _ _ _ _ us hl => match us, hl with | [_, _, _, _], _ => rfl
theorem tiDp {K : PySem.W.Frag} {H : Hp} {v : V} {ns : List Int} (t : TiA K H v ns) : Dp K H v (.tuple (ns.map PyData.int)) := by
  obtain ⟨a, rfl, h⟩ := t
  exact .tup h (intsDp ns)
theorem intD_tup (m : Nat) {ns : List Int} (few : ns.length ≤ 1000) : IntD (m + 1) (.tuple (ns.map PyData.int)) := by
  refine .tup (fun i d hd => ?_) (by rw [List.length_map]; exact few)
  rw [List.getElem?_map] at hd
  cases hi : ns[i]? with
  | none =>
    rw [hi] at hd
    cases hd
  | some x =>
    rw [hi] at hd
    cases hd
    exact .int m x
theorem edp_get {K : PySem.W.Frag} {C a : Addr} {σ : L2.St} {H : Hp} {ln : Int} {d o v : V} {ds os : List Int} {i : Nat} {fn : Str} {dat : PyData} (hs : σ[i]? = some (some (.ref a))) (t : Tv K C H a ln d o ds os) (hl : (tvF ln d o).lookup fn = some v) (hD : ∀ H1, Ex H H1 → Dp K H1 v dat) :
    EvDp K (tProp C (getSp C fn) [] E0 (tVar i)) σ H dat := fun H1 e Q q => by
  obtain ⟨dx, ha⟩ := (t.same e).1
  exact ⟨.ref a, hs, a, dx, _, rfl, ha, a, dx, _, v, rfl, ha, hl, q v H1 (Ex.refl _) (hD H1 e)⟩
theorem edp_ix {K : PySem.W.Frag} {σ : L2.St} {H : Hp} {p : Addr} {xs : List V} {v : V} {i : Nat} {k : Int} {dat : PyData} (hs : σ[i]? = some (some (.ref p))) (hp : SqT K H p xs) (hk : atI xs k = some v) (hD : ∀ H1, Ex H H1 → Dp K H1 v dat) : EvDp K (tOp (rIxT K) (tVar i) (tC (.int k))) σ H dat :=
  edp_ev (ev_op (ev_var hs) ev_c (rv_ixT hp hk)) hD
theorem el_rep {ta tb : TE} {σ : L2.St} {H : Hp} {xs : List V} {k : Int} (h1 : EvL ta σ H xs) (h2 : ∀ H1, Ex H H1 → Ev tb σ H1 (.int k)) (hk : -100 ≤ k ∧ k ≤ 100) (few : xs.length * k.toNat ≤ 1000) : EvL (tOp rRep ta tb) σ H (List.replicate k.toNat xs).flatten := by
  intro H1 e Q q
  refine h1 H1 e _ fun p H2 np e2 hp => h2 H2 (e.trans e2) H2 (Ex.refl _) _ fun H3 e3 => ?_
  exact ⟨p, k, xs, rfl, rfl, e3 _ _ hp, by omega, by omega, Nat.le_of_lt (small1000 few), fun l nl => q l _ (fresh_back (e2.trans e3) nl) ((e2.trans e3).trans (Ex.new nl)) upd_same⟩
/-- a thunk of the list of works: about the travel and the far day, or about the travel alone -/
def PreL (X : Cx) (C cN : Addr) (H : Hp) (v : V) : Prop := ∃ (f : Addr) (F : LF) (fr : List Str) (js : List Nat) (lsp : TSp), v = .ref f ∧ Ready X 8 fr js lsp F ∧ LamHere H f F ∧ ((js = [5, 8] ∧ lsp = tsN X.K C cN) ∨ (js = [5] ∧ lsp = tsN0 X.K C cN))
theorem PreL.extN {X : Cx} {C cN : Addr} {H H' : Hp} {v : V} (p : PreL X C cN H v) (e : ExtN H H') : PreL X C cN H' v := by
  obtain ⟨f, F, fr, js, lsp, rfl, r, l, k⟩ := p
  exact ⟨f, F, fr, js, lsp, rfl, r, l.extN e, k⟩
theorem PreL.but {X : Cx} {C cN D : Addr} {H : Hp} {v : V} {xs ys : List V} (p : PreL X C cN H v) (h : H D = some (.lst xs)) : PreL X C cN (upd H D (.lst ys)) v := by
  obtain ⟨f, F, fr, js, lsp, rfl, r, l, k⟩ := p
  exact ⟨f, F, fr, js, lsp, rfl, r, l.but h, k⟩
def exD : PyData := .tuple [.str "travel", .str "exceptions", .int 6]
theorem exSh : SeqAt.shaped exD = true := by decide +kernel
def cnD : PyData := .list (List.replicate 6 (.tuple [.str "count"]))
theorem cnSh : SeqAt.shaped cnD = true := by decide +kernel
theorem iteT' {b : Bool} {p q : Prop} (h : b = true) (hp : p) : if b = true then p else q := by rw [if_pos h]; exact hp
theorem iteF' {b : Bool} {p q : Prop} (h : b = false) (hq : q) : if b = true then p else q := by rw [if_neg (by rw [h]; decide)]; exact hq
def spLaw (K : PySem.W.Frag) (Pe Pt : Addr) : Sp := fun vs H Q _ => ∃ (a : Addr) (ns : List Int), vs = [.ref a] ∧ SqL K H a (ns.map V.int) ∧ ns.length ≤ 63 ∧ H Pe = some (.tbl #[]) ∧ H Pt = some (.tbl #[]) ∧ ∀ H', Q (.bl true) H'
section
variable {P : Program} {w : World} {K : PySem.W.Frag} {mg : Str → Option Value} {base : Heap}
theorem ok_law {f cc fE cE : Addr} {oc kV doc pm ct oc2 kV2 doc2 pm2 ct2 : Value} {od an od2 an2 : Option Addr} {osl osl2 : Array (Option Value)} (G : Gl K mg)
    (lkE : K.lookup fE = some ⟨oc2, od2, .func (PySem.W.fnOf "_law_errors_right" "_law_errors_right" (defArgs sEr) (defBody sEr) (defScope sEr) .none kV2 doc2 pm2 an2 (.ref cE) ct2), osl2⟩) (hcdE : PySem.W.codeIn K (.ref cE) "_law_errors_right" = true) (TBE : TabB base mg cE G.Pe)
    (gE : mg "_law_errors_right" = some (.ref fE)) (kE : PySem.W.keepIn K (.ref fE) = true) (uE : Fun K "_law_errors_right" "_law_errors_right" sEr fE (PySem.W.fnOf "_law_errors_right" "_law_errors_right" (defArgs sEr) (defBody sEr) (defScope sEr) .none kV2 doc2 pm2 an2 (.ref cE) ct2))
    (lk : K.lookup f = some ⟨oc, od, .func (PySem.W.fnOf "law" "law" (defArgs sLaw) (defBody sLaw) (defScope sLaw) .none kV doc pm an (.ref cc) ct), osl⟩)
    (hcd : PySem.W.codeIn K (.ref cc) "law" = true) (TB : TabB base mg cc G.Pt) : FnOk P w K mg base CX0 10 f (PySem.W.fnOf "law" "law" (defArgs sLaw) (defBody sLaw) (defScope sLaw) .none kV doc pm an (.ref cc) ct) ["_law_script"] (spLaw K G.Pe G.Pt) := by
  have hTm : (G.Pt, qLam) ∈ G.tb := List.mem_cons_of_mem _ (List.mem_singleton.mpr rfl)
  have hTu : ∀ p ∈ G.tb, p.1 = G.Pt → p.2 = qLam := fun p hp e => by
    rcases List.mem_cons.mp hp with rfl | hp
    · exact absurd e G.ne
    · rw [List.mem_singleton.mp hp]
  have bE : Binds K (PySem.W.fnOf "_law_errors_right" "_law_errors_right" (defArgs sEr) (defBody sEr) (defScope sEr) .none kV2 doc2 pm2 an2 (.ref cE) ct2) ["_law_h"] [] := uE.binds (ps := ["_law_h"]) fun _ _ _ _ _ _ us hl => match us, hl with | [_], _ => rfl
  refine fn_of (N := NL) lk hcd scLaw (fun vs H Q E h => ?_) (fun A outer s H vs Q E hr h => ?_)
  · obtain ⟨a, ns, rfl, _⟩ := h
    rfl
  · have hu := hr.units
    have h1 := hr.mono (show 1 ≤ 9 by decide)
    have h2 := hr.mono (show 2 ≤ 9 by decide)
    have h4 := hr.mono (show 4 ≤ 9 by decide)
    have h6 := hr.mono (show 6 ≤ 9 by decide)
    have h7 := hr.mono (show 7 ≤ 9 by decide)
    have h9 := hr.mono (show 9 ≤ 9 by decide)
    suffices hh : ∃ t, PSs (cxOf CX0 P w K mg base NL "law" (defScope sLaw) f (.ref cc) A outer s H E).nox (defBody sLaw) t ∧ t { nx := fun _ H' => Q .non H', rt := Q } (start NL vs) H by
      obtain ⟨t, ht, hq⟩ := hh
      exact ⟨t, ht.nox, hq⟩
    refine ⟨_, pss_cut (ps_set (i := 1) scLaw.nd rfl (.inl rfl) (pe_call (E := E0) (ok_mix (k := 0) G.uMx G.mL) h1 (by rfl) G.gMx G.kMx G.bMx .nil pass0 (pa_cons (pv 0) (pa_cons pe_int pa_nil))))
      (pss_cut (ps_for PassesOwn.never rfl (pi_range1 (by rfl) G.mR (pa_cons pe_int pa_nil)) (pg_name (i := 2) scLaw.nd rfl (.inl rfl))
        (pss_cut (ps_if (pt_not (pt_val (pe_call (E := E0) (ok_er G.toGd lkE hcdE TBE G.ne) h9 (by rfl) gE kE bE .nil pass0 (pa_cons (pv 1) pa_nil)))) (pss_one (ps_ret pe_bl)) pss_nil)
        (pss_cut (ps_set (i := 3) scLaw.nd rfl (.inl rfl) (pe_call (E := E0) (ok_pat (k := 0) G.uPat G.N G.mR G.mT) h2 (by rfl) G.gPat G.kPat G.bPat .nil pass0 (pa_cons (pv 1) (pa_cons pe_int pa_nil))))
        (pss_cut (ps_set (i := 4) scLaw.nd rfl (.inl rfl) (pe_call (E := E0) (ok_odd (k := 0) G.uOdd G.N G.mR G.mT G.mS G.mE) h2 (by rfl) G.gOdd G.kOdd G.bOdd .nil pass0 (pa_cons (pv 1) (pa_cons pe_int (pa_cons (pe_ixl (pe_lst (pa_cons pe_int (pa_cons (pe_op op_add (pe_op op_pow pe_int pe_int) pe_int) pa_nil))) (pe_next G.N h1 (by rfl) (pv 1) pe_int)) pa_nil)))))
        (pss_cut (ps_set (i := 5) scLaw.nd rfl (.inr rfl) (pe_makeK (E := E0) G.mkT (ok_tvI G.uT G.T G.W) h6 (by rfl) G.W.gC (kb_tvI G.uT) passL (pa_cons (pe_ixt (pv 3) pe_int) (pa_cons (pe_ixt (pv 3) pe_int) pa_nil)) (pk_cons (pv 4) pk_nil)))
        (pss_cut (ps_if (pt_not (pt_val (pe_call (E := E0) (ok_al G.A 4) h4 (by rfl) G.A.g G.A.kp (bAl G.A) .nil pass0 (pa_cons (pe_lst (pa_cons (pe_rl G.R G.W h2 (pv 5)) (pa_cons (pe_rd G.R G.W h2 (pv 5)) (pa_cons (pe_ex G.R G.W h2 (pv 5)) pa_nil)))) (pa_cons (pe_lst (pa_cons (pe_ixt (pv 3) pe_int) (pa_cons (pe_ixt (pv 3) pe_int) (pa_cons (pv 4) pa_nil)))) pa_nil))))) (pss_one (ps_ret pe_bl)) pss_nil)
        (pss_cut (ps_if (pt_not (pt_val (pe_call (E := E0) (ok_da G.uDa G.toGd) h6 (by rfl) G.gDa G.kDa G.bDa .nil pass0 (pa_cons (pv 1) (pa_cons (pv 3) (pa_cons (pv 4) (pa_cons (pv 5) pa_nil))))))) (pss_one (ps_ret pe_bl)) pss_nil)
        (pss_cut (ps_set (i := 6) scLaw.nd rfl (.inr rfl) (pe_ixt (pe_op op_catA (pv 4) (pe_tup (pa_cons pe_int pa_nil))) (pe_next G.N h1 (by rfl) (pv 1) (pe_op op_add (pe_callB call_len_seq (by rfl) G.N.mN PySem.boot_len (pa_cons (pv 4) pa_nil)) pe_int))))
        (pss_cut (ps_set (i := 7) scLaw.nd rfl (.inl rfl) (pe_callTy call_tuple_of (by rfl) G.mT (by rfl) (pa_cons (pe_callB cr_sortedI (by rfl) G.mS (by decide +kernel) (pa_cons (pe_op op_cat (pe_lc (own := [("_law_one", 10)]) (g := gName 10) (by rfl) scLaw.nd (pi_tup (pv 4)) (blkOk_by (own := [("_law_one", 10)]) (N := NL) (sc := defScope sLaw) (by decide +kernel)) (fun _ _ _ _ _ => pg_name (i := 10) scLaw.nd rfl (Or.inl rfl)) (fun _ _ _ _ _ => pts_one (pt_cmpR op_ne (pv 10) (pv 6) (nomark _))) (fun _ _ _ _ _ => pv 10))
          (pe_op op_rep (pe_lst (pa_cons (pv 6) pa_nil)) (pe_callTy call_int1 (by rfl) G.mI (by rfl) (pa_cons (pe_cmpR op_notIn_seq (pv 6) (pv 4) (by rfl)) pa_nil)))) pa_nil)) pa_nil)))
        (pss_cut (ps_if (PW.pt (pw_and (pt_cmpR op_le (pe_callB call_len_seq (by rfl) G.N.mN PySem.boot_len (pa_cons (pv 7) pa_nil)) pe_int (nomark _)) (pw_and1 (pt_not (pt_val (pe_call (E := E0) (ok_al G.A 4) h4 (by rfl) G.A.g G.A.kp (bAl G.A) .nil pass0 (pa_cons (pe_ex G.R G.W h2 (pe_meth (E := E0) (pv 5) G.W.cl G.mWx (ok_wx G.uWx G.T G.W G.mT G.mS G.N.mN G.mkT G.uT) h7 G.bWx .nil passL (pa_cons (pv 6) pa_nil))) (pa_cons (pv 7) pa_nil)))))))) (pss_one (ps_ret pe_bl)) pss_nil)
        (pss_cut (ps_if (PW.pt (pw_and (pt_cmpR op_gt (pe_callB call_len_seq (by rfl) G.N.mN PySem.boot_len (pa_cons (pv 7) pa_nil)) pe_int (nomark _)) (pw_and1 (pt_cmpR (op_neD hu) (pe_give (ok_err G.uErr G.E (Nat.le_refl 8)) rfl h9 (by rfl) G.gErr G.kErr (pe_lamV (T := G.tb) TB rfl hTm hTu hf1)) (pe_tup (pa_cons pe_str (pa_cons pe_str (pa_cons pe_int pa_nil)))) (nomark _))))) (pss_one (ps_ret pe_bl)) pss_nil)
        (pss_cut (ps_set (i := 8) scLaw.nd rfl (.inr rfl) (pe_ixl (pe_lst (pa_cons (pe_un un_neg pe_int) (pa_cons (pe_op op_add (pe_op op_pow pe_int pe_int) pe_int) pa_nil))) (pe_next G.N h1 (by rfl) (pv 1) pe_int)))
        (pss_cut (ps_set (i := 9) scLaw.nd rfl (.inl rfl) (pe_lst (pa_cons (pe_lamV (T := G.tb) TB rfl hTm hTu hf2) (pa_cons (pe_lamD (T := G.tb) TB rfl hTm hTu hf3 rfl rfl) pa_nil))))
        (pss_cut (ps_expr (pe_bm PySem.F.plainAttrs_list PySem.F.slot_list_extend PySem.F.type_list_extend mt_extend (pv 9) (pa_cons (pe_lst (pa_cons (pe_lamV (T := G.tb) TB rfl hTm hTu hf4) (pa_cons (pe_lamD (T := G.tb) TB rfl hTm hTu hf5 rfl rfl) pa_nil))) pa_nil)))
        (pss_cut (ps_expr (pe_bm PySem.F.plainAttrs_list PySem.F.slot_list_extend PySem.F.type_list_extend mt_extend (pv 9) (pa_cons (pe_lst (pa_cons (pe_lamV (T := G.tb) TB rfl hTm hTu hf6) (pa_cons (pe_lamD (T := G.tb) TB rfl hTm hTu hf7 rfl rfl) pa_nil))) pa_nil)))
        (pss_one (ps_if (pt_cmpR (op_neD hu) (pe_lcT (i := 11) (ok_err G.uErr G.E (Nat.le_refl 8)) rfl rfl scLaw.nd rfl (plainBlk_by (by decide +kernel)) rfl rfl G.gErr G.kErr h9 (pv 9)) (pe_op op_rep (pe_lst (pa_cons (pe_tup (pa_cons pe_str pa_nil)) pa_nil)) pe_int) (nomark _)) (pss_one (ps_ret pe_bl)) pss_nil)))))))))))))))))
      (pss_one (ps_ret pe_bl))), ?_⟩
    obtain ⟨a0, ns, rfl, hS, hlen, hPe, hPt, q⟩ := h
    refine ⟨fun σ H' => ∃ (h c : Addr), σ = ([some (.ref a0), some (.ref h), none, none, none, none, none, none, none, none, none, none] : L2.St) ∧ Dr H' h c ∧ Tabs G.tb H', ?_, ?_⟩
    · refine ⟨_, rfl, a0, ns, 2, rfl, hS, hlen, fun h c H' sm nh nc d => ⟨h, c, rfl, d, tabs_same (fun p hp => ?_) sm⟩⟩
      rcases List.mem_cons.mp hp with rfl | hp
      · exact TabS.nil hPe
      · rw [List.mem_singleton.mp hp]
        exact TabS.nil hPt
    rintro σ H1 ⟨h, c, rfl, d, hT⟩
    refine ⟨fun σ H' => (∃ v2 v3 v4 v5 v6 v7 v8 v9 v10 v11, σ = ([some (.ref a0), some (.ref h), v2, v3, v4, v5, v6, v7, v8, v9, v10, v11] : L2.St)) ∧ Dr H' h c ∧ Tabs G.tb H', ?_, fun σ H' _ => q H'⟩
    refine ⟨3, rfl, by decide, by decide, for_range (lo := 0) (n := (3 : Int).toNat) (fun i σ H' => (∃ v2 v3 v4 v5 v6 v7 v8 v9 v10 v11, σ = ([some (.ref a0), some (.ref h), v2, v3, v4, v5, v6, v7, v8, v9, v10, v11] : L2.St)) ∧ Dr H' h c ∧ Tabs G.tb H') ⟨⟨_, _, _, _, _, _, _, _, _, _, rfl⟩, d, hT⟩ ?_ fun σ H' z => z⟩
    rintro i σ H2 hi ⟨⟨v2, v3, v4, v5, v6, v7, v8, v9, v10, v11, rfl⟩, d2, T2⟩
    -- errors
    refine ⟨fun σ H' => σ = ([some (.ref a0), some (.ref h), some (.int (0 + (i : Int))), v3, v4, v5, v6, v7, v8, v9, v10, v11] : L2.St) ∧ Dr H' h c ∧ Tabs G.tb H', ⟨_, rfl, h, c, rfl, d2, T2, fun H3 d3 T3 => ⟨true, rfl, iteF ⟨rfl, d3, T3⟩⟩⟩, ?_⟩
    rintro σ H3 ⟨rfl, d3, T3⟩
    -- the pattern
    refine ⟨fun σ H' => ∃ (pv : V) (ln : Int) (ds : List Int), σ = ([some (.ref a0), some (.ref h), some (.int (0 + (i : Int))), some pv, v4, v5, v6, v7, v8, v9, v10, v11] : L2.St) ∧ PtA K H' pv ln ds ∧ (1 ≤ ln ∧ ln ≤ 14 ∧ Good ds (ln - 1) ∧ (ds.length : Int) ≤ ln) ∧ Dr H' h c ∧ Tabs G.tb H', ?_, ?_⟩
    · exact ⟨_, rfl, h, c, 14, rfl, by decide, by decide, d3, fun v ln ds H4 hp l1 l2 g n d4 k4 => ⟨v, ln, ds, rfl, hp, ⟨l1, l2, g, n⟩, d4, tabs_kp T3 d3 k4⟩⟩
    rintro σ H4 ⟨pv, ln, ds, rfl, hp4, ⟨l1, l14, gd, nd⟩, d4, T4⟩
    -- the exceptions
    refine ⟨fun σ H' => ∃ (ov : V) (os : List Int), σ = ([some (.ref a0), some (.ref h), some (.int (0 + (i : Int))), some pv, some ov, v5, v6, v7, v8, v9, v10, v11] : L2.St) ∧ PtA K H' pv ln ds ∧ TiA K H' ov os ∧ Good os 1000000000000000000 ∧ os.length ≤ 6 ∧ Dr H' h c ∧ Tabs G.tb H', ?_, ?_⟩
    · refine ⟨_, rfl, ?_⟩
      show tOp (rIxL K) (tLst (tCons (tI 60) (tCons (tOp rAd (tOp rPw (tI 10) (tI 18)) (tI 1)) tNil))) (tCall spNext [] E0 (tCons (tVar 1) (tCons (tC (.int 2)) tNil))) _ H4 _
      refine pick_ints (ns := [60, 1000000000000000001]) (ea_cons ev_tI (ea_cons (ev_is (ev_ad (ev_pw ev_tI ev_tI ⟨by decide, by decide, by decide⟩) ev_tI) (by rw [pw18]; rfl)) ea_nil)) (show 2 ≤ 1000 by decide) d4 (fun H5 Q5 d5 _ k5 => nx_in rfl (by decide) (by decide) d5 fun z lt => k5 z (by show z < 2; omega)) fun x hx H5 d5 k5 => ?_
      have hx2 : x = 60 ∨ x = 1000000000000000001 := by simpa using hx
      refine ⟨h, c, 6, x, rfl, by decide, by decide, by omega, by rcases hx2 with rfl | rfl <;> decide +kernel, d5, fun v os H6 hv g l d6 k6 => ?_⟩
      exact ⟨v, os, rfl, (hp4.tk (d4.tk k5)).tk (d5.tk k6), hv, g.mono (by omega), by omega, d6, tabs_kp (tabs_kp T4 d4 k5) d5 k6⟩
    rintro σ H5 ⟨ov, os, rfl, hp5, ho5, go, few, d5, T5⟩
    have ok : TvOk ln ds os := ⟨l1, l14, gd, nd, go⟩
    obtain ⟨pp, dv, rfl, hpp, hdd⟩ := id hp5
    -- the travel
    refine ⟨fun σ H' => ∃ a : Addr, σ = ([some (.ref a0), some (.ref h), some (.int (0 + (i : Int))), some (.ref pp), some ov, some (.ref a), v6, v7, v8, v9, v10, v11] : L2.St) ∧ LwI K G.C h c a G.tb (.ref pp) ov ln dv ov ds os H' ∧ SqT K H' pp [.int ln, dv], ?_, ?_⟩
    · refine ⟨_, rfl, pp, _, 0, .int ln, rfl, rfl, hpp, rfl, _, rfl, pp, _, 1, dv, rfl, rfl, hpp, rfl, _, rfl, ?_⟩
      refine tv_mk (K := K) (C := G.C) (cV := G.cs 1) (E := E0) (Q := fun v H' => ∃ a : Addr, List.set ([some (.ref a0), some (.ref h), some (.int (0 + (i : Int))), some (.ref pp), some ov, v5, v6, v7, v8, v9, v10, v11] : L2.St) 5 (some v) = ([some (.ref a0), some (.ref h), some (.int (0 + (i : Int))), some (.ref pp), some ov, some (.ref a), v6, v7, v8, v9, v10, v11] : L2.St) ∧ LwI K G.C h c a G.tb (.ref pp) ov ln dv ov ds os H' ∧ SqT K H' pp [.int ln, dv]) hdd ho5 (by omega) (by omega) (fun _ a H6 sm _ tv => ⟨a, rfl, ⟨hp5.tk (.same sm), ho5.tk (.same sm), tv, d5.same sm, tabs_same T5 sm⟩, (TK.same sm) _ _ hpp⟩) fun pt i dd H6 hb => ?_
      rw [ok.tbad few] at hb
      cases hb
    rintro σ H6 ⟨a, rfl, x6, hp6⟩
    -- its properties
    refine ⟨fun σ H' => σ = ([some (.ref a0), some (.ref h), some (.int (0 + (i : Int))), some (.ref pp), some ov, some (.ref a), v6, v7, v8, v9, v10, v11] : L2.St) ∧ LwI K G.C h c a G.tb (.ref pp) ov ln dv ov ds os H', ?_, ?_⟩
    · refine s_when (b := false) (et_al (d := .list [.int ln, .tuple (ds.map PyData.int), .tuple (os.map PyData.int)]) (eda_cons (edp_lst (eda_cons (edp_get rfl x6.ht (tvF_size _ _ _) fun _ _ => .int ln) (eda_cons (edp_get rfl x6.ht (tvF_pat _ _ _) fun _ e => tiDp (x6.ht.2.1.tk (.same e))) (eda_cons (edp_get rfl x6.ht (tvF_odd _ _ _) fun _ e => tiDp (x6.ht.2.2.tk (.same e))) eda_nil))) (show 3 ≤ 1000 by decide))
        (eda_cons (edp_lst (eda_cons (edp_ix rfl hp6 rfl fun _ _ => .int ln) (eda_cons (edp_ix rfl hp6 rfl fun _ e => tiDp (x6.ht.2.1.tk (.same e))) (eda_cons (edp_ev (ev_var rfl) fun _ e => tiDp (x6.ho.tk (.same e))) eda_nil))) (show 3 ≤ 1000 by decide)) eda_nil)) (.lst (fun j dd hj => ?_) (show 3 ≤ 1000 by decide))) (fun z => by cases z) fun _ H7 e7 => ⟨rfl, x6.same e7⟩
      rcases j with _ | _ | _ | j
      · cases hj
        exact .int _ _
      · cases hj
        exact intD_tup _ (by omega)
      · cases hj
        exact intD_tup _ (by omega)
      · simp at hj
    rintro σ H7 ⟨rfl, x7⟩
    -- days and counts
    refine ⟨fun σ H' => σ = ([some (.ref a0), some (.ref h), some (.int (0 + (i : Int))), some (.ref pp), some ov, some (.ref a), v6, v7, v8, v9, v10, v11] : L2.St) ∧ LwI K G.C h c a G.tb (.ref pp) ov ln dv ov ds os H', ⟨_, rfl, _, rfl, _, rfl, _, rfl, h, c, a, ln, dv, ov, .ref pp, ov, ds, os, rfl, x7.hp, x7.ho, x7.ht, ok, few, x7.hd, fun H8 d8 k8 => ⟨true, rfl, iteF ⟨rfl, x7.kp d8 k8⟩⟩⟩, ?_⟩
    rintro σ H8 ⟨rfl, x8⟩
    -- a day
    refine ⟨fun σ H' => ∃ day : Int, (0 ≤ day ∧ day ≤ 1000000000000000000) ∧ σ = ([some (.ref a0), some (.ref h), some (.int (0 + (i : Int))), some (.ref pp), some ov, some (.ref a), some (.int day), v7, v8, v9, v10, v11] : L2.St) ∧ LwI K G.C h c a G.tb (.ref pp) ov ln dv ov ds os H', ?_, ?_⟩
    · refine (ei_cat (K := K) (ms := [5]) (ei_ev (ev_var rfl) x8.ho) (ei_one ev_c) (by simp; omega)) H8 (Ex.refl _) _ fun v H9 e9 hv => ?_
      have x9 := x8.same e9
      obtain ⟨po, rfl, hpo⟩ := id x9.ho
      have hl : (os.map V.int).length = os.length := List.length_map ..
      refine ⟨_, rfl, _, rfl, po, _, rfl, .inr hpo, _, _, rfl, rfl, h, c, _, rfl, by rw [hl]; omega, Nat.lt_of_le_of_lt (Nat.log2_le_self _) (by rw [hl]; omega), x9.hd, fun y H10 y0 y1 d10 k10 => ?_⟩
      obtain ⟨j, rfl⟩ := Int.eq_ofNat_of_zero_le y0
      obtain ⟨vp, rfl, hvp⟩ := hv.kp x9.hd k10
      have hj : j < (os ++ [5]).length := by
        rw [List.length_append, List.length_singleton]
        rw [hl] at y1
        omega
      have at_ : ((os ++ [5]).map V.int)[j]? = some (.int (os ++ [5])[j]) := by rw [List.getElem?_map, List.getElem?_eq_getElem hj]; rfl
      refine ⟨vp, _, j, .int (os ++ [5])[j], rfl, rfl, hvp, at_nat (by rw [List.length_map]; exact hj) at_, (os ++ [5])[j], ?_, rfl, x9.kp d10 k10⟩
      rcases List.mem_append.mp (List.getElem_mem hj) with z | z
      · exact (good_iff.mp go).2 _ z
      · rw [List.mem_singleton.mp z]
        decide
    rintro σ H9 ⟨day, hday, rfl, x9⟩
    -- the exceptions with the day put in or taken out
    refine ⟨fun σ H' => ∃ (wv : V) (ms : List Int), σ = ([some (.ref a0), some (.ref h), some (.int (0 + (i : Int))), some (.ref pp), some ov, some (.ref a), some (.int day), some wv, v8, v9, v10, v11] : L2.St) ∧ TiA K H' wv ms ∧ Wex os day ms ∧ LwI K G.C h c a G.tb (.ref pp) ov ln dv ov ds os H', ?_, ?_⟩
    · obtain ⟨po, rfl, hpo⟩ := id x9.ho
      have item : ∀ (i : Nat) (x : V), (os.map V.int)[i]? = some x → x = .int (os.getD i 0) := fun i x hx => by
        rw [List.getElem?_map] at hx
        cases hi : os[i]? with
        | none =>
          rw [hi] at hx
          cases hx
        | some y =>
          rw [hi] at hx
          cases hx
          rw [List.getD_eq_getElem?_getD, hi]
          rfl
      have eA := el_lcTup (K := K) (tl := tVar 4) (σ := ([some (.ref a0), some (.ref h), some (.int (0 + (i : Int))), some (.ref pp), some (.ref po), some (.ref a), some (.int day), v7, v8, v9, v10, v11] : L2.St)) (H := H9) (te := tVar 10) (t := tTest (tOp rNe (tVar 10) (tVar 6))) (j := 10) (vs := [10])
        (fun i => decide (os.getD i 0 ≠ day)) (fun i => .int (os.getD i 0)) (ev_var rfl) hpo (by rw [List.length_map]; omega) (fun _ => rfl)
        (fun i x H' e' hx => by
          rw [item i x hx]
          refine et_is (et_test (ev_op (ev_var rfl) (ev_var rfl) (rv_ne rfl))) ?_
          rw [dec_int]
          by_cases z : os.getD i 0 = day
          · rw [show (os.getD i 0 == day) = true from beq_iff_eq.mpr z, decide_eq_false (fun n => n z)]
            rfl
          · rw [show (os.getD i 0 == day) = false from beq_false_of_ne z, decide_eq_true z]
            rfl)
        (fun i x H' e' hx _ => by
          rw [item i x hx]
          exact ev_var rfl)
      rw [given_filter os (fun o => decide (o ≠ day))] at eA
      have eB : EvL (tOp rRep (tLst (tCons (tVar 6) tNil)) (tCB (fun xs H Q => (∃ n, xs = [V.int n] ∧ Q (.int n) H) ∨ ∃ b : Bool, xs = [V.bl b] ∧ Q (.int (if b then 1 else 0)) H) (tCons (tOp (rIn K true) (tVar 6) (tVar 4)) tNil))) ([some (.ref a0), some (.ref h), some (.int (0 + (i : Int))), some (.ref pp), some (.ref po), some (.ref a), some (.int day), v7, v8, v9, v10, v11] : L2.St) H9 ((if day ∈ os then [] else [day]).map V.int) := by
        have z := el_rep (k := if (!inV (.int day) (os.map V.int)) = true then 1 else 0) (el_lst (ea_cons (ev_var (v := .int day) (σ := ([some (.ref a0), some (.ref h), some (.int (0 + (i : Int))), some (.ref pp), some (.ref po), some (.ref a), some (.int day), v7, v8, v9, v10, v11] : L2.St)) (H := H9) (i := 6) rfl) ea_nil) (show 1 ≤ 100000 by decide)) (fun H1 e1 => ev_intB (ev_op (ev_var (i := 6) rfl) (ev_var (i := 4) rfl) (rv_inT (neg := true) (ex_t e1 hpo) rfl (flat_ints _)))) (by split <;> decide) (by split <;> simp)
        rw [inV_int] at z
        by_cases m : day ∈ os
        · rw [if_pos m]
          rw [decide_eq_true m] at z
          exact z
        · rw [if_neg m]
          rw [decide_eq_false m] at z
          exact z
      have eS := ei_tupP (R := fun ms => ms.Perm (os.filter (fun o => decide (o ≠ day)) ++ (if day ∈ os then [] else [day])) ∧ ms.Pairwise (· ≤ ·)) (ei_imp (ei_sortL (K := K) (ei_lst (ns := os.filter (fun o => decide (o ≠ day)) ++ (if day ∈ os then [] else [day])) (by
        rw [List.map_append]
        refine el_catL eA eB ?_
        rw [List.length_map, List.length_map]
        have f1 := List.length_filter_le (fun o => decide (o ≠ day)) os
        split <;> simp only [List.length_nil, List.length_singleton] <;> omega))) fun v H ⟨ms, p, r, h⟩ => ⟨ms, ⟨p, r⟩, h⟩)
      refine eS H9 (Ex.refl _) _ fun v H10 e10 ⟨ms, ⟨perm, rising⟩, hv⟩ => ⟨v, ms, rfl, hv, ⟨perm.trans ?_, rising⟩, x9.same e10⟩
      by_cases m : day ∈ os
      · rw [if_pos m, if_pos m, List.append_nil]
      · have allo : os.filter (fun o => decide (o ≠ day)) = os := List.filter_eq_self.mpr fun o ho => decide_eq_true fun (z : o = day) => m (z ▸ ho)
        rw [if_neg m, if_neg m, allo]
    rintro σ H10 ⟨wv, ms, rfl, hw, wex, x10⟩
    have lms := wex.len
    -- with_exception gives them
    refine ⟨fun σ H' => σ = ([some (.ref a0), some (.ref h), some (.int (0 + (i : Int))), some (.ref pp), some ov, some (.ref a), some (.int day), some wv, v8, v9, v10, v11] : L2.St) ∧ TiA K H' wv ms ∧ LwI K G.C h c a G.tb (.ref pp) ov ln dv ov ds os H', ?_, ?_⟩
    · have eW : EvDp K (tProp G.C (getSp G.C "odd_days") [] E0 (tMeth G.C "with_exception" (spWx K G.C (G.cs 1) (G.cs 2)) [] E0 (tVar 5) (tCons (tVar 6) tNil))) ([some (.ref a0), some (.ref h), some (.int (0 + (i : Int))), some (.ref pp), some ov, some (.ref a), some (.int day), some wv, v8, v9, v10, v11] : L2.St) H10 (.tuple (ms.map PyData.int)) ∨ 6 < ms.length := by
        by_cases six : 6 < ms.length
        · exact .inr six
        refine .inl fun H1 e Q' q' => ?_
        have t1 := x10.ht.same e
        obtain ⟨dx, ha⟩ := t1.1
        refine ⟨_, rfl, a, dx, _, rfl, ha, tvF_no _ _ _ (by decide +kernel) (by decide +kernel) (by decide +kernel), _, rfl, a, ln, day, dv, ov, ds, os, rfl, t1, ok, few, fun _ xs wx => ⟨fun _ a' o' H2 s2 tv => ?_, fun g6 => ?_⟩, fun nb => absurd hday nb⟩
        · obtain ⟨dx', ha'⟩ := tv.1
          have same := wx.uniq wex
          rw [same] at tv
          exact ⟨a', dx', _, rfl, ha', a', dx', _, o', rfl, ha', tvF_odd _ _ _, q' o' H2 s2 (tiDp tv.2.2)⟩
        · rw [wx.uniq wex] at g6
          exact absurd g6 six
      refine s_when (b := false) (et_is (et_and (a := decide ((ms.length : Int) ≤ 6)) (b := false) (et_test (ev_op (ei_lenT (ei_var rfl hw)) ev_c rv_I0)) fun hm => ?_) (Bool.and_false _)) (fun z => by cases z) fun _ H11 e11 => ⟨rfl, hw.tk (.same e11), x10.same e11⟩
      have six := of_decide_eq_true hm
      rcases eW with eW | more6
      · exact et_al (eda_cons eW (eda_cons (edp_ev (ev_var rfl) fun _ e => tiDp (hw.tk (.same e))) eda_nil)) (intD_tup _ (by omega))
      · omega
    rintro σ H11 ⟨rfl, hw11, x11⟩
    -- too many exceptions
    refine ⟨fun σ H' => σ = ([some (.ref a0), some (.ref h), some (.int (0 + (i : Int))), some (.ref pp), some ov, some (.ref a), some (.int day), some wv, v8, v9, v10, v11] : L2.St) ∧ LwI K G.C h c a G.tb (.ref pp) ov ln dv ov ds os H', ?_, ?_⟩
    · refine (et_test (ev_op (ei_lenT (ei_var rfl hw11)) (ev_c (v := .int 6)) (rv_I0 (g := fun i j => .bl (decide (i > j)))))) H11 (Ex.refl _) _ fun H12 e12 => ?_
      have x12 := x11.same e12
      by_cases six : (ms.length : Int) > 6
      · refine iteT' (decide_eq_true six) ?_
        refine ⟨x12.hT, fun f1 c1 H13 eN T13 nf hf hc => ⟨f1, mkF qLam lam1 _ c1 .none, ["_law_travel", "_law_day"], [5, 6], tsM (spWx K G.C (G.cs 1) (G.cs 2)), rfl, lok1 G.toGd, hf, hc, dv_none, fun ok => Caps.made ok hf1 hr1 rfl, ?_⟩⟩
        have x13 := x12.extN eN T13
        refine ⟨a, day, rfl, a, ln, day, dv, ov, ds, os, rfl, x13.ht, ok, few, fun _ xs wx => ⟨fun l6 => ?_, fun g6 dd H14 s14 hx => .inl ⟨rfl, dd, "exceptions", 6, rfl, hx, fun r H15 s15 hr15 => ?_⟩⟩, fun nb => absurd hday nb⟩
        · rw [wx.uniq wex] at l6
          omega
        · refine (eu_tup (ea_cons ev_c (ea_cons ev_c (ea_cons ev_c ea_nil))) (show 3 ≤ 100000 by decide)) H15 (Ex.refl _) _ fun p16 H16 np16 e16 hp16 => ?_
          refine ⟨exD, exD, .tup (.of (e16 _ _ hr15)) (.cons (.str _) (.cons (.str _) (.cons (.int _) .nil))), .tup (.of hp16) (.cons (.str _) (.cons (.str _) (.cons (.int _) .nil))), exSh, exSh, ?_⟩
          rw [eqv_self _ exSh]
          exact ⟨false, rfl, iteF ⟨rfl, x13.same (Ex.trans (Ex.trans s14 s15) e16)⟩⟩
      · exact iteF' (decide_eq_false six) (iteF ⟨rfl, x12⟩)
    rintro σ H12 ⟨rfl, x12⟩
    -- a day out of range
    refine ⟨fun σ H' => ∃ far : Int, ¬ (0 ≤ far ∧ far ≤ 1000000000000000000) ∧ σ = ([some (.ref a0), some (.ref h), some (.int (0 + (i : Int))), some (.ref pp), some ov, some (.ref a), some (.int day), some wv, some (.int far), v9, v10, v11] : L2.St) ∧ LwI K G.C h c a G.tb (.ref pp) ov ln dv ov ds os H', ?_, ?_⟩
    · show tOp (rIxL K) (tLst (tCons (tMn (tI 1)) (tCons (tOp rAd (tOp rPw (tI 10) (tI 18)) (tI 1)) tNil))) (tCall spNext [] E0 (tCons (tVar 1) (tCons (tC (.int 2)) tNil))) _ H12 _
      refine pick_ints (ns := [-1, 1000000000000000001]) (ea_cons (ev_mn ev_tI) (ea_cons (ev_is (ev_ad (ev_pw ev_tI ev_tI ⟨by decide, by decide, by decide⟩) ev_tI) (by rw [pw18]; rfl)) ea_nil)) (show 2 ≤ 1000 by decide) x12.hd (fun H' Q' d' _ k' => nx_in rfl (by decide) (by decide) d' fun z lt => k' z (by show z < 2; omega)) fun x hx H' d' k' => ⟨x, ?_, rfl, x12.kp d' k'⟩
      have hx2 : x = -1 ∨ x = 1000000000000000001 := by simpa using hx
      omega
    rintro σ H13 ⟨far, nfar, rfl, x13⟩
    -- the works
    refine ⟨fun σ H' => ∃ (D : Addr) (vs : List V), σ = ([some (.ref a0), some (.ref h), some (.int (0 + (i : Int))), some (.ref pp), some ov, some (.ref a), some (.int day), some wv, some (.int far), some (.ref D), v10, v11] : L2.St) ∧ H' D = some (.lst vs) ∧ vs.length = 2 ∧ (∀ v ∈ vs, PreL (cxOf CX0 P w K mg base NL "law" (defScope sLaw) f (.ref cc) A outer s H E).nox G.C (G.cs 2) H' v) ∧ h ≠ D ∧ c ≠ D ∧ LwI K G.C h c a G.tb (.ref pp) ov ln dv ov ds os H', ?_, ?_⟩
    · refine lams2 (evlam_V (X := (cxOf CX0 P w K mg base NL "law" (defScope sLaw) f (.ref cc) A outer s H E).nox) (j := 8) (fr := ["_law_travel", "_law_far"]) (js := [5, 8]) (lsp := tsN K G.C (G.cs 2)) (fun _ => rfl) (fun _ => rfl) fun c' => ⟨fun f' => lok2 G.toGd, fun ok => Caps.made ok hf2 hr2 rfl⟩) (evlam_D (X := (cxOf CX0 P w K mg base NL "law" (defScope sLaw) f (.ref cc) A outer s H E).nox) (j := 8) (fr := ["_law_travel", "_law_far"]) (js := [5, 8]) (lsp := tsN K G.C (G.cs 2)) (fun _ _ => rfl) (fun _ _ => rfl) fun c' t' => ⟨fun f' => lok3 G.toGd, fun ok => Caps.made ok hf3 hr3 rfl⟩) x13.hT fun f2 F2 f3 F3 D H' e T' r2 l2 r3 l3 fresh hD => ?_
      obtain ⟨n0, mm, kk, ns', fh, fc, _⟩ := id x13.hd
      refine ⟨D, [.ref f2, .ref f3], rfl, hD, rfl, fun v hv => ?_, fresh h _ fh (fun ps z => by cases z), fresh c _ fc (fun ps z => by cases z), x13.extN e T'⟩
      rcases List.mem_cons.mp hv with rfl | hv
      · exact ⟨f2, F2, _, _, _, rfl, r2, l2, .inl ⟨rfl, rfl⟩⟩
      · rw [List.mem_singleton.mp hv]
        exact ⟨f3, F3, _, _, _, rfl, r3, l3, .inl ⟨rfl, rfl⟩⟩
    rintro σ H14 ⟨D, vs, rfl, hD, len, all, nhD, ncD, x14⟩
    refine ⟨fun σ H' => ∃ (D : Addr) (vs : List V), σ = ([some (.ref a0), some (.ref h), some (.int (0 + (i : Int))), some (.ref pp), some ov, some (.ref a), some (.int day), some wv, some (.int far), some (.ref D), v10, v11] : L2.St) ∧ H' D = some (.lst vs) ∧ vs.length = 4 ∧ (∀ v ∈ vs, PreL (cxOf CX0 P w K mg base NL "law" (defScope sLaw) f (.ref cc) A outer s H E).nox G.C (G.cs 2) H' v) ∧ h ≠ D ∧ c ≠ D ∧ LwI K G.C h c a G.tb (.ref pp) ov ln dv ov ds os H', ?_, ?_⟩
    · refine ⟨.ref D, rfl, .inl ⟨rfl, _, SqL.of hD⟩, ?_⟩
      refine lams2 (evlam_V (X := (cxOf CX0 P w K mg base NL "law" (defScope sLaw) f (.ref cc) A outer s H E).nox) (j := 8) (fr := ["_law_travel", "_law_far"]) (js := [5, 8]) (lsp := tsN K G.C (G.cs 2)) (fun _ => rfl) (fun _ => rfl) fun c' => ⟨fun f' => lok4 G.toGd, fun ok => Caps.made ok hf4 hr4 rfl⟩) (evlam_D (X := (cxOf CX0 P w K mg base NL "law" (defScope sLaw) f (.ref cc) A outer s H E).nox) (j := 8) (fr := ["_law_travel", "_law_far"]) (js := [5, 8]) (lsp := tsN K G.C (G.cs 2)) (fun _ _ => rfl) (fun _ _ => rfl) fun c' t' => ⟨fun f' => lok5 G.toGd G.nSt, fun ok => Caps.made ok hf5 hr5 rfl⟩) x14.hT fun f2 F2 f3 F3 D2 H' e T' r2 l2 r3 l3 fresh hD2 => ?_
      have hD' : H' D = some (.lst vs) := e _ _ hD fun ps z => by cases z
      refine ⟨D, D2, _, _, rfl, rfl, hD', hD2, Nat.le_of_lt (small1000 (by rw [len]; show 2 + 2 ≤ 1000; decide)), D, vs ++ [.ref f2, .ref f3], rfl, upd_same, by rw [List.length_append, len]; rfl, fun v hv => ?_, nhD, ncD, (x14.extN e T').but hD' nhD ncD⟩
      rcases List.mem_append.mp hv with z | z
      · exact ((all v z).extN e).but hD'
      · rcases List.mem_cons.mp z with rfl | z
        · exact ⟨f2, F2, _, _, _, rfl, r2, l2.but hD', .inl ⟨rfl, rfl⟩⟩
        · rw [List.mem_singleton.mp z]
          exact ⟨f3, F3, _, _, _, rfl, r3, l3.but hD', .inl ⟨rfl, rfl⟩⟩
    rintro σ H15 ⟨D, vs, rfl, hD, len, all, nhD, ncD, x15⟩
    refine ⟨fun σ H' => ∃ (D : Addr) (vs : List V), σ = ([some (.ref a0), some (.ref h), some (.int (0 + (i : Int))), some (.ref pp), some ov, some (.ref a), some (.int day), some wv, some (.int far), some (.ref D), v10, v11] : L2.St) ∧ H' D = some (.lst vs) ∧ vs.length = 6 ∧ (∀ v ∈ vs, PreL (cxOf CX0 P w K mg base NL "law" (defScope sLaw) f (.ref cc) A outer s H E).nox G.C (G.cs 2) H' v) ∧ h ≠ D ∧ c ≠ D ∧ LwI K G.C h c a G.tb (.ref pp) ov ln dv ov ds os H', ?_, ?_⟩
    · refine ⟨.ref D, rfl, .inl ⟨rfl, _, SqL.of hD⟩, ?_⟩
      refine lams2 (evlam_V (X := (cxOf CX0 P w K mg base NL "law" (defScope sLaw) f (.ref cc) A outer s H E).nox) (j := 8) (fr := ["_law_travel"]) (js := [5]) (lsp := tsN0 K G.C (G.cs 2)) (fun _ => rfl) (fun _ => rfl) fun c' => ⟨fun f' => lok6 G.toGd G.nSt, fun ok => Caps.made ok hf6 hr6 rfl⟩) (evlam_D (X := (cxOf CX0 P w K mg base NL "law" (defScope sLaw) f (.ref cc) A outer s H E).nox) (j := 8) (fr := ["_law_travel"]) (js := [5]) (lsp := tsN0 K G.C (G.cs 2)) (fun _ _ => rfl) (fun _ _ => rfl) fun c' t' => ⟨fun f' => lok7 G.toGd G.nSt, fun ok => Caps.made ok hf7 hr7 rfl⟩) x15.hT fun f2 F2 f3 F3 D2 H' e T' r2 l2 r3 l3 fresh hD2 => ?_
      have hD' : H' D = some (.lst vs) := e _ _ hD fun ps z => by cases z
      refine ⟨D, D2, _, _, rfl, rfl, hD', hD2, Nat.le_of_lt (small1000 (by rw [len]; show 4 + 2 ≤ 1000; decide)), D, vs ++ [.ref f2, .ref f3], rfl, upd_same, by rw [List.length_append, len]; rfl, fun v hv => ?_, nhD, ncD, (x15.extN e T').but hD' nhD ncD⟩
      rcases List.mem_append.mp hv with z | z
      · exact ((all v z).extN e).but hD'
      · rcases List.mem_cons.mp z with rfl | z
        · exact ⟨f2, F2, _, _, _, rfl, r2, l2.but hD', .inr ⟨rfl, rfl⟩⟩
        · rw [List.mem_singleton.mp z]
          exact ⟨f3, F3, _, _, _, rfl, r3, l3.but hD', .inr ⟨rfl, rfl⟩⟩
    rintro σ H16 ⟨D, vs, rfl, hD, len, all, nhD, ncD, x16⟩
    -- all of them raise InvalidCount
    refine ⟨_, rfl, D, vs, rfl, by rw [len]; decide, gAll_cnt vs [] H16 (.of hD) (fun v hv => ?_) (fun v hv => nomatch hv) fun us H17 e17 lus cnt D' nD' => ?_⟩
    · obtain ⟨f', F', fr, js, lsp, rfl, r, l, kind⟩ := all v hv
      refine ⟨f', F', fr, js, lsp, rfl, r, l, fun H' Q' E' e' raise => ?_⟩
      rcases kind with ⟨rfl, rfl⟩ | ⟨rfl, rfl⟩
      · exact ⟨a, far, ln, dv, ov, ds, os, rfl, x16.ht.same e', ok, few, nfar, raise⟩
      · exact ⟨a, ln, dv, ov, ds, os, rfl, x16.ht.same e', ok, raise⟩
    · have six : us.length = 6 := by rw [lus, len]; rfl
      refine ⟨Nat.le_of_lt (small1000 (show 1 ≤ 1000 by decide)), fun t nt => ⟨Nat.le_of_lt (small1000 (show 1 ≤ 1000 by decide)), fun l nl => ⟨l, 6, [.ref t], rfl, rfl, upd_same, by decide, by decide, Nat.le_of_lt (small1000 (show 6 ≤ 1000 by decide)), fun p np => ?_⟩⟩⟩
      have e18 := ((Ex.new (o := .tup [.str "count"]) nt).trans (Ex.new (o := .lst [.ref t]) nl)).trans (Ex.new (o := .lst (List.replicate (6 : Int).toNat [V.ref t]).flatten) np)
      have cT := ((Ex.new (o := .lst [.ref t]) nl).trans (Ex.new (o := .lst (List.replicate (6 : Int).toNat [V.ref t]).flatten) np)) _ _ (upd_same (H := _) (a := t) (o := .tup [.str "count"]))
      have one : Dp K _ (.ref t) (.tuple [.str "count"]) := .tup (.of cT) (.cons (.str _) .nil)
      have left := cntDp (K := K) cnt
      rw [six] at left
      refine ⟨cnD, cnD, .lst (.of (e18 _ _ upd_same)) (dps_ex ((Ex.new (o := .lst us) nD').trans e18) left), .lst (.of upd_same) (.cons one (.cons one (.cons one (.cons one (.cons one (.cons one .nil)))))), cnSh, cnSh, ?_⟩
      rw [eqv_self _ cnSh]
      have x18 := x16.same ((e17.trans (Ex.new (o := .lst us) nD')).trans e18)
      exact ⟨false, rfl, iteF ⟨⟨_, _, _, _, _, _, _, _, _, _, rfl⟩, x18.hd, x18.hT⟩⟩
end
end Sea

set_option Elab.async false
set_option linter.all false
set_option maxRecDepth 100000
set_option maxHeartbeats 8000000
namespace Sea
open PySem PySem.Spec PyProof.Rows L2 LamX NdefX ClX StX
theorem all_mk {l : PySem.W.OpenLaw} {w : World} {K : PySem.W.Frag} {h : Heap} {mg : Str → Option Value} {fa : Addr} (X : K.In h) (Gn : h.Ns mainGlobals mg) (hfa : mg "law" = some (.ref fa))
    {C cP c0 c1 c2 c3 c4 c5 c6 pRl pRd pEx cE cc Pe Pt fI fVN fVC fT fTo fIs fCt fTd fWx fRl fRd fEx fN fA fMx fErr fPat fOdd fBad fTrv fSpo fDa fE fLaw : Addr}
    {t0 : Tok} {t1 : Tok} {t2 : Tok} {t3 : Tok} {nm q : Str} {xN : Addr} {xbs xbm xsub : List Value} {xsn : List Str} {xab : Bool} {xcol : Option Bool} {xdd : Option Addr} {xm0 xm1 xm2 xm3 xm5 : Option Value} {ocT : Value} {kVT : Value} {dcT : Value} {pmT : Value} {ctT : Value} {cdT : Value} {odT anT : Option Addr} {slT : Array (Option Value)} {ocI : Value} {kVI : Value} {dcI : Value} {pmI : Value} {ctI : Value} {cdI : Value} {odI anI : Option Addr} {slI : Array (Option Value)} {reRl : List Value} {ocRl : Value} {kVRl : Value} {dcRl : Value} {pmRl : Value} {ctRl : Value} {cdRl : Value} {odRl anRl : Option Addr} {slRl : Array (Option Value)} {reRd : List Value} {ocRd : Value} {kVRd : Value} {dcRd : Value} {pmRd : Value} {ctRd : Value} {cdRd : Value} {odRd anRd : Option Addr} {slRd : Array (Option Value)} {reEx : List Value} {ocEx : Value} {kVEx : Value} {dcEx : Value} {pmEx : Value} {ctEx : Value} {cdEx : Value} {odEx anEx : Option Addr} {slEx : Array (Option Value)} {ocTo : Value} {kVTo : Value} {dcTo : Value} {pmTo : Value} {ctTo : Value} {cdTo : Value} {odTo anTo : Option Addr} {slTo : Array (Option Value)} {ocIs : Value} {kVIs : Value} {dcIs : Value} {pmIs : Value} {ctIs : Value} {cdIs : Value} {odIs anIs : Option Addr} {slIs : Array (Option Value)} {ocCt : Value} {kVCt : Value} {dcCt : Value} {pmCt : Value} {ctCt : Value} {cdCt : Value} {odCt anCt : Option Addr} {slCt : Array (Option Value)} {ocTd : Value} {kVTd : Value} {dcTd : Value} {pmTd : Value} {ctTd : Value} {cdTd : Value} {odTd anTd : Option Addr} {slTd : Array (Option Value)} {ocWx : Value} {kVWx : Value} {dcWx : Value} {pmWx : Value} {ctWx : Value} {cdWx : Value} {odWx anWx : Option Addr} {slWx : Array (Option Value)} {ocVN : Value} {kVVN : Value} {dcVN : Value} {pmVN : Value} {ctVN : Value} {cdVN : Value} {odVN anVN : Option Addr} {slVN : Array (Option Value)} {ocVC : Value} {kVVC : Value} {dcVC : Value} {pmVC : Value} {ctVC : Value} {cdVC : Value} {odVC anVC : Option Addr} {slVC : Array (Option Value)} {ocN : Value} {kVN : Value} {dcN : Value} {pmN : Value} {ctN : Value} {cdN : Value} {odN anN : Option Addr} {slN : Array (Option Value)} {ocA : Value} {kVA : Value} {dcA : Value} {pmA : Value} {ctA : Value} {cdA : Value} {odA anA : Option Addr} {slA : Array (Option Value)} {ocMx : Value} {kVMx : Value} {dcMx : Value} {pmMx : Value} {ctMx : Value} {cdMx : Value} {odMx anMx : Option Addr} {slMx : Array (Option Value)} {ocErr : Value} {kVErr : Value} {dcErr : Value} {pmErr : Value} {ctErr : Value} {cdErr : Value} {odErr anErr : Option Addr} {slErr : Array (Option Value)} {ocPat : Value} {kVPat : Value} {dcPat : Value} {pmPat : Value} {ctPat : Value} {cdPat : Value} {odPat anPat : Option Addr} {slPat : Array (Option Value)} {ocOdd : Value} {kVOdd : Value} {dcOdd : Value} {pmOdd : Value} {ctOdd : Value} {cdOdd : Value} {odOdd anOdd : Option Addr} {slOdd : Array (Option Value)} {ocBad : Value} {kVBad : Value} {dcBad : Value} {pmBad : Value} {ctBad : Value} {cdBad : Value} {odBad anBad : Option Addr} {slBad : Array (Option Value)} {ocTrv : Value} {kVTrv : Value} {dcTrv : Value} {pmTrv : Value} {ctTrv : Value} {cdTrv : Value} {odTrv anTrv : Option Addr} {slTrv : Array (Option Value)} {ocSpo : Value} {kVSpo : Value} {dcSpo : Value} {pmSpo : Value} {ctSpo : Value} {cdSpo : Value} {odSpo anSpo : Option Addr} {slSpo : Array (Option Value)} {ocDa : Value} {kVDa : Value} {dcDa : Value} {pmDa : Value} {ctDa : Value} {cdDa : Value} {odDa anDa : Option Addr} {slDa : Array (Option Value)} {ocE : Value} {kVE : Value} {dcE : Value} {pmE : Value} {ctE : Value} {odE anE : Option Addr} {slE : Array (Option Value)} {ocLaw : Value} {kVLaw : Value} {dcLaw : Value} {pmLaw : Value} {ctLaw : Value} {odLaw anLaw : Option Addr} {slLaw : Array (Option Value)}
    (hT : h.get? Pt = some { cls := .none, data := .fields #[] })
    (hU : h.get? Pe = some { cls := .none, data := .fields #[] })
    (aC : PySem.W.nsIn K mainGlobals "Travel" = some (some (.ref C)))
    (aP : PySem.W.nsIn K mainGlobals "PassError" = some (some (.ref cP)))
    (a0 : PySem.W.nsIn K mainGlobals "InvalidTariff" = some (some (.ref c0)))
    (a1 : PySem.W.nsIn K mainGlobals "InvalidTravel" = some (some (.ref c1)))
    (a2 : PySem.W.nsIn K mainGlobals "InvalidCount" = some (some (.ref c2)))
    (a3 : PySem.W.nsIn K mainGlobals "UnknownPass" = some (some (.ref c3)))
    (a4 : PySem.W.nsIn K mainGlobals "InvalidPrices" = some (some (.ref c4)))
    (a5 : PySem.W.nsIn K mainGlobals "InvalidPlan" = some (some (.ref c5)))
    (a6 : PySem.W.nsIn K mainGlobals "Contradiction" = some (some (.ref c6)))
    (z_int : PySem.W.nsIn K mainGlobals "int" = some none)
    (z_range : PySem.W.nsIn K mainGlobals "range" = some none)
    (z_tuple : PySem.W.nsIn K mainGlobals "tuple" = some none)
    (z_sorted : PySem.W.nsIn K mainGlobals "sorted" = some none)
    (z_set : PySem.W.nsIn K mainGlobals "set" = some none)
    (z_min : PySem.W.nsIn K mainGlobals "min" = some none)
    (z_list : PySem.W.nsIn K mainGlobals "list" = some none)
    (z_len : PySem.W.nsIn K mainGlobals "len" = some none)
    (z_max : PySem.W.nsIn K mainGlobals "max" = some none)
    (z_enumerate : PySem.W.nsIn K mainGlobals "enumerate" = some none)
    (z_isinstance : PySem.W.nsIn K mainGlobals "isinstance" = some none)
    (z_ValueError : PySem.W.nsIn K mainGlobals "ValueError" = some none)
    (z_dict : PySem.W.nsIn K mainGlobals "dict" = some none)
    (z_str : PySem.W.nsIn K mainGlobals "str" = some none)
    (z_bool : PySem.W.nsIn K mainGlobals "bool" = some none)
    (pg : PySem.W.plainGet K C Str.empty = true)
    (hd : PySem.W.hasDictIn K C = true)
    (po : PySem.W.plainOver K C = true)
    (sa : PySem.W.findIn K (.ref C) "__setattr__" = some (some (.builtin "object.__setattr__")))
    (nA0 : PySem.W.findIn K (.ref C) "size" = some none)
    (nA1 : PySem.W.findIn K (.ref C) "pattern" = some none)
    (nA2 : PySem.W.findIn K (.ref C) "odd_days" = some none)
    (v0 : PySem.W.nsIn K mainGlobals "MAX_ROUND" = some (some (.int 14 t0)))
    (v1 : PySem.W.nsIn K mainGlobals "MAX_EXCEPTIONS" = some (some (.int 6 t1)))
    (v2 : PySem.W.nsIn K mainGlobals "MAX_DAYS" = some (some (.int 1000000000000000000 t2)))
    (v3 : PySem.W.nsIn K mainGlobals "MAX_YIELDED" = some (some (.int 10000 t3)))
    (xL : K.lookup c1 = some (excClassObj nm q c1 xN xbs xbm true xsn xsub xab xcol xdd xm0 xm1 xm2 xm3 xm5 "ValueError.__new__"))
    (xrv : PySem.HandSPX.refsVE xbm = true)
    (xsa : PySem.W.findIn K (.ref c1) "__setattr__" = some (some (.builtin "object.__setattr__")))
    (s1 : PySem.W.subIn K (.ref c1) (.type "BaseException") = some true)
    (y1 : PySem.W.typeIn K (.ref c1) = some (.type "type"))
    (kp1 : PySem.W.keepIn K (.ref c1) = true)
    (nP : PySem.W.findIn K (.ref c1) "part" = some none)
    (nI : PySem.W.findIn K (.ref c1) "index" = some none)
    (iI : PySem.W.findIn K (.ref c1) "__init__" = some (some (.ref fI)))
    (tI : PySem.W.typeIn K (.ref fI) = some (.type "function"))
    (prd : PySem.W.readsIn K cP (.type "type") = true)
    (pga : PySem.W.specialIn K (.ref cP) "__getattribute__" = some (some (.builtin "type.__getattribute__")))
    (pat : PySem.W.findCls K (.ref cP) (.type "type") "__init__" = some (.val (.builtin "ValueError.__init__")))
    (qU : PySem.W.excIn K c2 [.type "ValueError", .type "Exception", .type "BaseException", .type "object"] "ValueError.__new__" = true)
    (kU : PySem.W.keepIn K (.ref c2) = true)
    (sU : PySem.W.subIn K (.ref c2) (.type "BaseException") = some true)
    (yU : PySem.W.typeIn K (.ref c2) = some (.type "type"))
    (nSt : PySem.W.subIn K (.ref c2) (.type "StopIteration") = some false)
    (ne : Pe ≠ Pt)
    (mk : PySem.W.makesIn K C = true)
    (kpC : PySem.W.keepIn K (.ref C) = true)
    (atT : PySem.W.findIn K (.ref C) "__init__" = some (some (.ref fT)))
    (ifT : PySem.W.isFn K (.ref fT) = true)
    (lT : K.lookup fT = some ⟨ocT, odT, .func (PySem.W.fnOf "__init__" "Travel.__init__" (defArgs sTvI) (defBody sTvI) (defScope sTvI) .none kVT dcT pmT anT cdT ctT), slT⟩)
    (cd_T : PySem.W.codeIn K cdT "Travel.__init__" = true)
    (kp_T : PySem.W.keepIn K (.ref fT) = true)
    (lI : K.lookup fI = some ⟨ocI, odI, .func (PySem.W.fnOf "__init__" "InvalidTravel.__init__" (defArgs sIV) (defBody sIV) (defScope sIV) .none kVI dcI pmI anI cdI ctI), slI⟩)
    (cd_I : PySem.W.codeIn K cdI "InvalidTravel.__init__" = true)
    (kp_I : PySem.W.keepIn K (.ref fI) = true)
    (atRl : PySem.W.findIn K (.ref C) "round_length" = some (some (.ref pRl)))
    (geRl : PySem.W.specialIn K (.ref pRl) "__get__" = some (some (.builtin "property.__get__")))
    (taRl : PySem.W.takesIn K (.ref pRl) = some true)
    (rcRl : PySem.W.recIn K pRl "property" = some (.ref fRl :: reRl))
    (lRl : K.lookup fRl = some ⟨ocRl, odRl, .func (PySem.W.fnOf "round_length" "Travel.round_length" (defArgs sRl) (defBody sRl) (defScope sRl) .none kVRl dcRl pmRl anRl cdRl ctRl), slRl⟩)
    (cd_Rl : PySem.W.codeIn K cdRl "Travel.round_length" = true)
    (kp_Rl : PySem.W.keepIn K (.ref fRl) = true)
    (atRd : PySem.W.findIn K (.ref C) "round_days" = some (some (.ref pRd)))
    (geRd : PySem.W.specialIn K (.ref pRd) "__get__" = some (some (.builtin "property.__get__")))
    (taRd : PySem.W.takesIn K (.ref pRd) = some true)
    (rcRd : PySem.W.recIn K pRd "property" = some (.ref fRd :: reRd))
    (lRd : K.lookup fRd = some ⟨ocRd, odRd, .func (PySem.W.fnOf "round_days" "Travel.round_days" (defArgs sRd) (defBody sRd) (defScope sRd) .none kVRd dcRd pmRd anRd cdRd ctRd), slRd⟩)
    (cd_Rd : PySem.W.codeIn K cdRd "Travel.round_days" = true)
    (kp_Rd : PySem.W.keepIn K (.ref fRd) = true)
    (atEx : PySem.W.findIn K (.ref C) "exceptions" = some (some (.ref pEx)))
    (geEx : PySem.W.specialIn K (.ref pEx) "__get__" = some (some (.builtin "property.__get__")))
    (taEx : PySem.W.takesIn K (.ref pEx) = some true)
    (rcEx : PySem.W.recIn K pEx "property" = some (.ref fEx :: reEx))
    (lEx : K.lookup fEx = some ⟨ocEx, odEx, .func (PySem.W.fnOf "exceptions" "Travel.exceptions" (defArgs sEx) (defBody sEx) (defScope sEx) .none kVEx dcEx pmEx anEx cdEx ctEx), slEx⟩)
    (cd_Ex : PySem.W.codeIn K cdEx "Travel.exceptions" = true)
    (kp_Ex : PySem.W.keepIn K (.ref fEx) = true)
    (atTo : PySem.W.findIn K (.ref C) "travels_on" = some (some (.ref fTo)))
    (ifTo : PySem.W.isFn K (.ref fTo) = true)
    (lTo : K.lookup fTo = some ⟨ocTo, odTo, .func (PySem.W.fnOf "travels_on" "Travel.travels_on" (defArgs sTo) (defBody sTo) (defScope sTo) .none kVTo dcTo pmTo anTo cdTo ctTo), slTo⟩)
    (cd_To : PySem.W.codeIn K cdTo "Travel.travels_on" = true)
    (kp_To : PySem.W.keepIn K (.ref fTo) = true)
    (atIs : PySem.W.findIn K (.ref C) "is_travel_day" = some (some (.ref fIs)))
    (ifIs : PySem.W.isFn K (.ref fIs) = true)
    (lIs : K.lookup fIs = some ⟨ocIs, odIs, .func (PySem.W.fnOf "is_travel_day" "Travel.is_travel_day" (defArgs sIs) (defBody sIs) (defScope sIs) .none kVIs dcIs pmIs anIs cdIs ctIs), slIs⟩)
    (cd_Is : PySem.W.codeIn K cdIs "Travel.is_travel_day" = true)
    (kp_Is : PySem.W.keepIn K (.ref fIs) = true)
    (atCt : PySem.W.findIn K (.ref C) "count_travel_days" = some (some (.ref fCt)))
    (ifCt : PySem.W.isFn K (.ref fCt) = true)
    (lCt : K.lookup fCt = some ⟨ocCt, odCt, .func (PySem.W.fnOf "count_travel_days" "Travel.count_travel_days" (defArgs sCt) (defBody sCt) (defScope sCt) .none kVCt dcCt pmCt anCt cdCt ctCt), slCt⟩)
    (cd_Ct : PySem.W.codeIn K cdCt "Travel.count_travel_days" = true)
    (kp_Ct : PySem.W.keepIn K (.ref fCt) = true)
    (atTd : PySem.W.findIn K (.ref C) "travel_days" = some (some (.ref fTd)))
    (ifTd : PySem.W.isFn K (.ref fTd) = true)
    (lTd : K.lookup fTd = some ⟨ocTd, odTd, .func (PySem.W.fnOf "travel_days" "Travel.travel_days" (defArgs sTd) (defBody sTd) (defScope sTd) .none kVTd dcTd pmTd anTd cdTd ctTd), slTd⟩)
    (cd_Td : PySem.W.codeIn K cdTd "Travel.travel_days" = true)
    (kp_Td : PySem.W.keepIn K (.ref fTd) = true)
    (atWx : PySem.W.findIn K (.ref C) "with_exception" = some (some (.ref fWx)))
    (ifWx : PySem.W.isFn K (.ref fWx) = true)
    (lWx : K.lookup fWx = some ⟨ocWx, odWx, .func (PySem.W.fnOf "with_exception" "Travel.with_exception" (defArgs sWx) (defBody sWx) (defScope sWx) .none kVWx dcWx pmWx anWx cdWx ctWx), slWx⟩)
    (cd_Wx : PySem.W.codeIn K cdWx "Travel.with_exception" = true)
    (kp_Wx : PySem.W.keepIn K (.ref fWx) = true)
    (atVN : PySem.W.nsIn K mainGlobals "validate_numbers" = some (some (.ref fVN)))
    (lVN : K.lookup fVN = some ⟨ocVN, odVN, .func (PySem.W.fnOf "validate_numbers" "validate_numbers" (defArgs sVN) (defBody sVN) (defScope sVN) .none kVVN dcVN pmVN anVN cdVN ctVN), slVN⟩)
    (cd_VN : PySem.W.codeIn K cdVN "validate_numbers" = true)
    (kp_VN : PySem.W.keepIn K (.ref fVN) = true)
    (atVC : PySem.W.nsIn K mainGlobals "validate_count" = some (some (.ref fVC)))
    (lVC : K.lookup fVC = some ⟨ocVC, odVC, .func (PySem.W.fnOf "validate_count" "validate_count" (defArgs sVC) (defBody sVC) (defScope sVC) .none kVVC dcVC pmVC anVC cdVC ctVC), slVC⟩)
    (cd_VC : PySem.W.codeIn K cdVC "validate_count" = true)
    (kp_VC : PySem.W.keepIn K (.ref fVC) = true)
    (atN : PySem.W.nsIn K mainGlobals "_law_next" = some (some (.ref fN)))
    (lN : K.lookup fN = some ⟨ocN, odN, .func (PySem.W.fnOf "_law_next" "_law_next" (defArgs sNext) (defBody sNext) (defScope sNext) .none kVN dcN pmN anN cdN ctN), slN⟩)
    (cd_N : PySem.W.codeIn K cdN "_law_next" = true)
    (kp_N : PySem.W.keepIn K (.ref fN) = true)
    (atA : PySem.W.nsIn K mainGlobals "_law_alike" = some (some (.ref fA)))
    (lA : K.lookup fA = some ⟨ocA, odA, .func (PySem.W.fnOf "_law_alike" "_law_alike" (defArgs sAl) (defBody sAl) (defScope sAl) .none kVA dcA pmA anA cdA ctA), slA⟩)
    (cd_A : PySem.W.codeIn K cdA "_law_alike" = true)
    (kp_A : PySem.W.keepIn K (.ref fA) = true)
    (atMx : PySem.W.nsIn K mainGlobals "_law_mix" = some (some (.ref fMx)))
    (lMx : K.lookup fMx = some ⟨ocMx, odMx, .func (PySem.W.fnOf "_law_mix" "_law_mix" (defArgs sMix) (defBody sMix) (defScope sMix) .none kVMx dcMx pmMx anMx cdMx ctMx), slMx⟩)
    (cd_Mx : PySem.W.codeIn K cdMx "_law_mix" = true)
    (kp_Mx : PySem.W.keepIn K (.ref fMx) = true)
    (atErr : PySem.W.nsIn K mainGlobals "_law_error" = some (some (.ref fErr)))
    (lErr : K.lookup fErr = some ⟨ocErr, odErr, .func (PySem.W.fnOf "_law_error" "_law_error" (defArgs sErr) (defBody sErr) (defScope sErr) .none kVErr dcErr pmErr anErr cdErr ctErr), slErr⟩)
    (cd_Err : PySem.W.codeIn K cdErr "_law_error" = true)
    (kp_Err : PySem.W.keepIn K (.ref fErr) = true)
    (atPat : PySem.W.nsIn K mainGlobals "_law_pattern" = some (some (.ref fPat)))
    (lPat : K.lookup fPat = some ⟨ocPat, odPat, .func (PySem.W.fnOf "_law_pattern" "_law_pattern" (defArgs sPat) (defBody sPat) (defScope sPat) .none kVPat dcPat pmPat anPat cdPat ctPat), slPat⟩)
    (cd_Pat : PySem.W.codeIn K cdPat "_law_pattern" = true)
    (kp_Pat : PySem.W.keepIn K (.ref fPat) = true)
    (atOdd : PySem.W.nsIn K mainGlobals "_law_odd" = some (some (.ref fOdd)))
    (lOdd : K.lookup fOdd = some ⟨ocOdd, odOdd, .func (PySem.W.fnOf "_law_odd" "_law_odd" (defArgs sOdd) (defBody sOdd) (defScope sOdd) .none kVOdd dcOdd pmOdd anOdd cdOdd ctOdd), slOdd⟩)
    (cd_Odd : PySem.W.codeIn K cdOdd "_law_odd" = true)
    (kp_Odd : PySem.W.keepIn K (.ref fOdd) = true)
    (atBad : PySem.W.nsIn K mainGlobals "_law_bad" = some (some (.ref fBad)))
    (lBad : K.lookup fBad = some ⟨ocBad, odBad, .func (PySem.W.fnOf "_law_bad" "_law_bad" (defArgs sBad) (defBody sBad) (defScope sBad) .none kVBad dcBad pmBad anBad cdBad ctBad), slBad⟩)
    (cd_Bad : PySem.W.codeIn K cdBad "_law_bad" = true)
    (kp_Bad : PySem.W.keepIn K (.ref fBad) = true)
    (atTrv : PySem.W.nsIn K mainGlobals "_law_travels" = some (some (.ref fTrv)))
    (lTrv : K.lookup fTrv = some ⟨ocTrv, odTrv, .func (PySem.W.fnOf "_law_travels" "_law_travels" (defArgs sTrv) (defBody sTrv) (defScope sTrv) .none kVTrv dcTrv pmTrv anTrv cdTrv ctTrv), slTrv⟩)
    (cd_Trv : PySem.W.codeIn K cdTrv "_law_travels" = true)
    (kp_Trv : PySem.W.keepIn K (.ref fTrv) = true)
    (atSpo : PySem.W.nsIn K mainGlobals "_law_spoilt" = some (some (.ref fSpo)))
    (lSpo : K.lookup fSpo = some ⟨ocSpo, odSpo, .func (PySem.W.fnOf "_law_spoilt" "_law_spoilt" (defArgs sSpo) (defBody sSpo) (defScope sSpo) .none kVSpo dcSpo pmSpo anSpo cdSpo ctSpo), slSpo⟩)
    (cd_Spo : PySem.W.codeIn K cdSpo "_law_spoilt" = true)
    (kp_Spo : PySem.W.keepIn K (.ref fSpo) = true)
    (atDa : PySem.W.nsIn K mainGlobals "_law_days_right" = some (some (.ref fDa)))
    (lDa : K.lookup fDa = some ⟨ocDa, odDa, .func (PySem.W.fnOf "_law_days_right" "_law_days_right" (defArgs sDa) (defBody sDa) (defScope sDa) .none kVDa dcDa pmDa anDa cdDa ctDa), slDa⟩)
    (cd_Da : PySem.W.codeIn K cdDa "_law_days_right" = true)
    (kp_Da : PySem.W.keepIn K (.ref fDa) = true)
    (atE : PySem.W.nsIn K mainGlobals "_law_errors_right" = some (some (.ref fE)))
    (lE : K.lookup fE = some ⟨ocE, odE, .func (PySem.W.fnOf "_law_errors_right" "_law_errors_right" (defArgs sEr) (defBody sEr) (defScope sEr) .none kVE dcE pmE anE (.ref cE) ctE), slE⟩)
    (cd_E : PySem.W.codeIn K (.ref cE) "_law_errors_right" = true)
    (kp_E : PySem.W.keepIn K (.ref fE) = true)
    (atLaw : PySem.W.nsIn K mainGlobals "law" = some (some (.ref fLaw)))
    (lLaw : K.lookup fLaw = some ⟨ocLaw, odLaw, .func (PySem.W.fnOf "law" "law" (defArgs sLaw) (defBody sLaw) (defScope sLaw) .none kVLaw dcLaw pmLaw anLaw (.ref cc) ctLaw), slLaw⟩)
    (cd_Law : PySem.W.codeIn K (.ref cc) "law" = true)
    (kp_Law : PySem.W.keepIn K (.ref fLaw) = true)
    (eg1 : PySem.W.findIn K (.ref c1) "__getattribute__" = some (some (.builtin "BaseException.__getattribute__")))
    (ek1 : PySem.W.findIn K (.ref c1) "__getattr__" = some none)
    (eh1 : PySem.W.hasDictIn K c1 = true)
    (ec1 : PySem.W.findIn K (.ref c1) "__class__" = some (some (.builtin "object.__class__")))
    (em1 : PySem.W.mroIn K c1 (.type "object") = some true)
    (k10 : PySem.W.kitOne K (.ref c1) (.ref c0) = some false)
    (k11 : PySem.W.kitOne K (.ref c1) (.ref c1) = some true)
    (k12 : PySem.W.kitOne K (.ref c1) (.ref c2) = some false)
    (k13 : PySem.W.kitOne K (.ref c1) (.ref c3) = some false)
    (k14 : PySem.W.kitOne K (.ref c1) (.ref c4) = some false)
    (k15 : PySem.W.kitOne K (.ref c1) (.ref c5) = some false)
    (k16 : PySem.W.kitOne K (.ref c1) (.ref c6) = some false)
    (kv1 : PySem.W.kitOne K (.ref c1) (.type "ValueError") = some true)
    (sp1 : PySem.W.subIn K (.ref c1) (.ref cP) = some true)
    (eg2 : PySem.W.findIn K (.ref c2) "__getattribute__" = some (some (.builtin "BaseException.__getattribute__")))
    (ek2 : PySem.W.findIn K (.ref c2) "__getattr__" = some none)
    (eh2 : PySem.W.hasDictIn K c2 = true)
    (ec2 : PySem.W.findIn K (.ref c2) "__class__" = some (some (.builtin "object.__class__")))
    (em2 : PySem.W.mroIn K c2 (.type "object") = some true)
    (k20 : PySem.W.kitOne K (.ref c2) (.ref c0) = some false)
    (k21 : PySem.W.kitOne K (.ref c2) (.ref c1) = some false)
    (k22 : PySem.W.kitOne K (.ref c2) (.ref c2) = some true)
    (k23 : PySem.W.kitOne K (.ref c2) (.ref c3) = some false)
    (k24 : PySem.W.kitOne K (.ref c2) (.ref c4) = some false)
    (k25 : PySem.W.kitOne K (.ref c2) (.ref c5) = some false)
    (k26 : PySem.W.kitOne K (.ref c2) (.ref c6) = some false)
    (kv2 : PySem.W.kitOne K (.ref c2) (.type "ValueError") = some true)
    (sp2 : PySem.W.subIn K (.ref c2) (.ref cP) = some true)
    (ecn : PySem.W.specialIn K (.builtin "object.__class__") "__get__" = some (some (.builtin "getset_descriptor.__get__")))
    (ect : PySem.W.takesIn K (.builtin "object.__class__") = some true)
    (sP : PySem.W.subIn K (.ref cP) (.type "BaseException") = some true)
    (hP : PySem.W.hasDictIn K cP = true)
    (yP : PySem.W.typeIn K (.ref cP) = some (.type "type"))
    (nT : K.lookup Pt = none)
    (hH : PySem.W.codeHdIn K cc Pt = true)
    (nU : K.lookup Pe = none)
    (hV : PySem.W.codeHdIn K cE Pe = true)
    : LawAtS l w K CX0 10 63 "_law_script" mg fa h := by
  have e := hfa.symm.trans (PySem.W.mg_of X Gn atLaw)
  cases e
  have oex : OexC K c1 := ⟨⟨_, _, _, _, _, _, _, _, _, _, _, _, _, _, _, xL, xrv⟩, xsa, s1, y1, kp1⟩
  have exm : ∀ c, PySem.W.subIn K (.ref c) (.ref cP) = some true → PySem.W.exmOne K (.ref c) (.ref cP) = some true := fun c hc => PySem.W.exm_ref sP hP yP hc
  let cs : Nat → Addr := fun i => [c0, c1, c2, c3, c4, c5, c6].getD i c0
  let G : Gl K mg := {
    C := C, cP := cP, fV := fI, fVN := fVN, fVC := fVC, fT := fT, fTo := fTo, fIs := fIs, fCt := fCt, fTd := fTd, fWx := fWx, fRl := fRl, pRl := pRl, fRd := fRd, pRd := pRd, fEx := fEx, pEx := pEx, fN := fN, fA := fA, fMx := fMx, fErr := fErr, fPat := fPat, fOdd := fOdd, fBad := fBad, fTrv := fTrv, fSpo := fSpo, Pe := Pe, Pt := Pt, cs := cs, mp := (.type "type"), fDa := fDa
    fdV := _, dVN := _, dVC := _, dT := _, dTo := _, dIs := _, dCt := _, dTd := _, dWx := _, dRl := _, dRd := _, dEx := _, dN := _, dA := _, dMx := _, dErr := _, dPat := _, dOdd := _, dBad := _, dTrv := _, dSpo := _, dDa := _
    T := { xV := oex, nP := nP, nI := nI, gV := PySem.W.mg_of X Gn a1, iV := iI, tV := tI, fu := fun_mk (st := sIV) lI cd_I kp_I, pI := ⟨PySem.W.mg_of X Gn aP, prd, pga, pat⟩, qN := qU, gN := PySem.W.mg_of X Gn a2, kN := kU, sN := sU, yN := yU }
    W := { cl := ⟨pg, hd, po, sa⟩, nS := nA0, nP := nA1, nO := nA2, gC := PySem.W.mg_of X Gn aC, mR := ⟨_, PySem.W.mg_of X Gn v0, ⟨_, rfl⟩⟩, mX := ⟨_, PySem.W.mg_of X Gn v1, ⟨_, rfl⟩⟩, mD := ⟨_, PySem.W.mg_of X Gn v2, ⟨_, rfl⟩⟩, mY := ⟨_, PySem.W.mg_of X Gn v3, ⟨_, rfl⟩⟩, mE := PySem.W.mg_none_of X Gn z_enumerate, gVN := PySem.W.mg_of X Gn atVN, kVN := kp_VN, uVN := fun_mk (st := sVN) lVN cd_VN kp_VN, gVC := PySem.W.mg_of X Gn atVC, kVC := kp_VC, uVC := fun_mk (st := sVC) lVC cd_VC kp_VC }
    R := { pL := ⟨atRl, geRl, taRl, ⟨_, rcRl⟩⟩, uL := fun_mk (st := sRl) lRl cd_Rl kp_Rl, pD := ⟨atRd, geRd, taRd, ⟨_, rcRd⟩⟩, uD := fun_mk (st := sRd) lRd cd_Rd kp_Rd, pE := ⟨atEx, geEx, taEx, ⟨_, rcEx⟩⟩, uE := fun_mk (st := sEx) lEx cd_Ex kp_Ex }
    mkT := ⟨mk, atT, ifT, kpC⟩, uT := fun_mk (st := sTvI) lT cd_T kp_T
    mTo := ⟨atTo, ifTo, kp_To⟩, uTo := fun_mk (st := sTo) lTo cd_To kp_To, mIs := ⟨atIs, ifIs, kp_Is⟩, uIs := fun_mk (st := sIs) lIs cd_Is kp_Is, mCt := ⟨atCt, ifCt, kp_Ct⟩, uCt := fun_mk (st := sCt) lCt cd_Ct kp_Ct, mTd := ⟨atTd, ifTd, kp_Td⟩, uTd := fun_mk (st := sTd) lTd cd_Td kp_Td, mWx := ⟨atWx, ifWx, kp_Wx⟩, uWx := fun_mk (st := sWx) lWx cd_Wx kp_Wx
    N := { g := PySem.W.mg_of X Gn atN, kp := kp_N, fu := fun_mk (st := sNext) lN cd_N kp_N, mM := PySem.W.mg_none_of X Gn z_max, mN := PySem.W.mg_none_of X Gn z_len }
    A := { g := PySem.W.mg_of X Gn atA, kp := kp_A, fu := fun_mk (st := sAl) lA cd_A kp_A, mI := PySem.W.mg_none_of X Gn z_isinstance, mN := PySem.W.mg_none_of X Gn z_len, mR := PySem.W.mg_none_of X Gn z_range, m_dict := PySem.W.mg_none_of X Gn z_dict, m_list := PySem.W.mg_none_of X Gn z_list, m_tuple := PySem.W.mg_none_of X Gn z_tuple, m_str := PySem.W.mg_none_of X Gn z_str, m_int := PySem.W.mg_none_of X Gn z_int, m_bool := PySem.W.mg_none_of X Gn z_bool }
    E := { g0 := PySem.W.mg_of X Gn a0, g1 := PySem.W.mg_of X Gn a1, g2 := PySem.W.mg_of X Gn a2, g3 := PySem.W.mg_of X Gn a3, g4 := PySem.W.mg_of X Gn a4, g5 := PySem.W.mg_of X Gn a5, g6 := PySem.W.mg_of X Gn a6, gP := PySem.W.mg_of X Gn aP, mI := PySem.W.mg_none_of X Gn z_isinstance, mV := PySem.W.mg_none_of X Gn z_ValueError, e1 := ⟨eg1, ek1, s1, eh1, ec1, ecn, ect, em1⟩, e2 := ⟨eg2, ek2, sU, eh2, ec2, ecn, ect, em2⟩, f1 := ⟨eg1, ek1, s1, eh1⟩, n1 := nI, p1 := nP
           k1 := fun i hi => by
             rcases (show i = 0 ∨ i = 1 ∨ i = 2 ∨ i = 3 ∨ i = 4 ∨ i = 5 ∨ i = 6 by omega) with rfl | rfl | rfl | rfl | rfl | rfl | rfl
             · exact k10
             · exact k11
             · exact k12
             · exact k13
             · exact k14
             · exact k15
             · exact k16
           k2 := fun i hi => by
             rcases (show i = 0 ∨ i = 1 ∨ i = 2 ∨ i = 3 ∨ i = 4 ∨ i = 5 ∨ i = 6 by omega) with rfl | rfl | rfl | rfl | rfl | rfl | rfl
             · exact k20
             · exact k21
             · exact k22
             · exact k23
             · exact k24
             · exact k25
             · exact k26
           v1 := kv1, v2 := kv2, x1 := exm c1 sp1, x2 := exm c2 sp2 }
    gMx := PySem.W.mg_of X Gn atMx, kMx := kp_Mx, uMx := fun_mk (st := sMix) lMx cd_Mx kp_Mx, gErr := PySem.W.mg_of X Gn atErr, kErr := kp_Err, uErr := fun_mk (st := sErr) lErr cd_Err kp_Err, gPat := PySem.W.mg_of X Gn atPat, kPat := kp_Pat, uPat := fun_mk (st := sPat) lPat cd_Pat kp_Pat, gOdd := PySem.W.mg_of X Gn atOdd, kOdd := kp_Odd, uOdd := fun_mk (st := sOdd) lOdd cd_Odd kp_Odd, gBad := PySem.W.mg_of X Gn atBad, kBad := kp_Bad, uBad := fun_mk (st := sBad) lBad cd_Bad kp_Bad, gTrv := PySem.W.mg_of X Gn atTrv, kTrv := kp_Trv, uTrv := fun_mk (st := sTrv) lTrv cd_Trv kp_Trv, gSpo := PySem.W.mg_of X Gn atSpo, kSpo := kp_Spo, uSpo := fun_mk (st := sSpo) lSpo cd_Spo kp_Spo, gDa := PySem.W.mg_of X Gn atDa, kDa := kp_Da, uDa := fun_mk (st := sDa) lDa cd_Da kp_Da
    mI := PySem.W.mg_none_of X Gn z_int, mR := PySem.W.mg_none_of X Gn z_range, mT := PySem.W.mg_none_of X Gn z_tuple, mS := PySem.W.mg_none_of X Gn z_sorted, mE := PySem.W.mg_none_of X Gn z_set, mMin := PySem.W.mg_none_of X Gn z_min, mL := PySem.W.mg_none_of X Gn z_list, nSt := nSt, ne := ne }
  have b0 : ∀ {p : Addr × Addr}, p ∈ [(cE, Pe), (cc, Pt)] → p = (cE, Pe) ∨ p = (cc, Pt) := fun hp => (List.mem_cons.mp hp).imp id List.mem_singleton.mp
  refine ⟨_, [(cE, Pe), (cc, Pt)], spLaw K Pe Pt, fun p hp => ?_, fun p hp => ?_, fun p hp => ?_, fun s v => .of_eq rfl, fun H a ns hl _ hH hS => ⟨a, ns, rfl, hS, hl, hH (cE, Pe) (List.Mem.head _), hH (cc, Pt) (.tail _ (.head _)), fun _ => rfl⟩, fun base _ _ hB => ok_law (P := l.prog) (w := w) (base := base) G lE cd_E (hB (cE, Pe) (List.Mem.head _)) (PySem.W.mg_of X Gn atE) kp_E (fun_mk (st := sEr) lE cd_E kp_E) lLaw cd_Law (hB (cc, Pt) (.tail _ (.head _)))⟩
  · rcases b0 hp with rfl | rfl
    · exact hU
    · exact hT
  · rcases b0 hp with rfl | rfl
    · exact nU
    · exact nT
  · rcases b0 hp with rfl | rfl
    · exact PySem.W.codeHd_of_K X hV
    · exact PySem.W.codeHd_of_K X hH
end Sea

open PySem PySem.W PyProof.Rows in
set_option maxRecDepth 100000 in
set_option maxHeartbeats 0 in
theorem PySem.Challenge.cw_seasonpass_k02_whole_travel_days_holds : PySem.Challenge.rw_seasonpass_k02_whole_travel_days.Holds := by
  w_on; o_law; k_head; (case hw => w_witness2)
  k_fill
  refine LamX.walk_ofTs (l := PySem.Challenge.rw_seasonpass_k02_whole_travel_days) (n := 63) (k := 10) (x := "_law_script") (CX := fun _ => L2.CX0) rfl (by decide) rfl ⟨rfl, by decide, by decide⟩ (fun w h Y => PySem.W.km_in_of Y) ?F (fun _ _ _ _ _ z => z)
  case F =>
    intro w mg fa h Y KX G hmg
    refine' Sea.all_mk KX G hmg ?hT ?hU ?aC ?aP ?a0 ?a1 ?a2 ?a3 ?a4 ?a5 ?a6 ?z_int ?z_range ?z_tuple ?z_sorted ?z_set ?z_min ?z_list ?z_len ?z_max ?z_enumerate ?z_isinstance ?z_ValueError ?z_dict ?z_str ?z_bool ?pg ?hd ?po ?sa ?nA0 ?nA1 ?nA2 ?v0 ?v1 ?v2 ?v3 ?xL ?xrv ?xsa ?s1 ?y1 ?kp1 ?nP ?nI ?iI ?tI ?prd ?pga ?pat ?qU ?kU ?sU ?yU ?nSt ?ne ?mk ?kpC ?atT ?ifT ?lT ?cd_T ?kp_T ?lI ?cd_I ?kp_I ?atRl ?geRl ?taRl ?rcRl ?lRl ?cd_Rl ?kp_Rl ?atRd ?geRd ?taRd ?rcRd ?lRd ?cd_Rd ?kp_Rd ?atEx ?geEx ?taEx ?rcEx ?lEx ?cd_Ex ?kp_Ex ?atTo ?ifTo ?lTo ?cd_To ?kp_To ?atIs ?ifIs ?lIs ?cd_Is ?kp_Is ?atCt ?ifCt ?lCt ?cd_Ct ?kp_Ct ?atTd ?ifTd ?lTd ?cd_Td ?kp_Td ?atWx ?ifWx ?lWx ?cd_Wx ?kp_Wx ?atVN ?lVN ?cd_VN ?kp_VN ?atVC ?lVC ?cd_VC ?kp_VC ?atN ?lN ?cd_N ?kp_N ?atA ?lA ?cd_A ?kp_A ?atMx ?lMx ?cd_Mx ?kp_Mx ?atErr ?lErr ?cd_Err ?kp_Err ?atPat ?lPat ?cd_Pat ?kp_Pat ?atOdd ?lOdd ?cd_Odd ?kp_Odd ?atBad ?lBad ?cd_Bad ?kp_Bad ?atTrv ?lTrv ?cd_Trv ?kp_Trv ?atSpo ?lSpo ?cd_Spo ?kp_Spo ?atDa ?lDa ?cd_Da ?kp_Da ?atE ?lE ?cd_E ?kp_E ?atLaw ?lLaw ?cd_Law ?kp_Law ?eg1 ?ek1 ?eh1 ?ec1 ?em1 ?k10 ?k11 ?k12 ?k13 ?k14 ?k15 ?k16 ?kv1 ?sp1 ?eg2 ?ek2 ?eh2 ?ec2 ?em2 ?k20 ?k21 ?k22 ?k23 ?k24 ?k25 ?k26 ?kv2 ?sp2 ?ecn ?ect ?sP ?hP ?yP ?nT ?hH ?nU ?hV
    (case hT => exact PySem.W.km_tabs_of Y _ (.tail _ (.head _)))
    (case hU => exact PySem.W.km_tabs_of Y _ (List.Mem.head _))
    (case aC => k_is)
    (case aP => k_is)
    (case a0 => k_is)
    (case a1 => k_is)
    (case a2 => k_is)
    (case a3 => k_is)
    (case a4 => k_is)
    (case a5 => k_is)
    (case a6 => k_is)
    (case z_int => k_is)
    (case z_range => k_is)
    (case z_tuple => k_is)
    (case z_sorted => k_is)
    (case z_set => k_is)
    (case z_min => k_is)
    (case z_list => k_is)
    (case z_len => k_is)
    (case z_max => k_is)
    (case z_enumerate => k_is)
    (case z_isinstance => k_is)
    (case z_ValueError => k_is)
    (case z_dict => k_is)
    (case z_str => k_is)
    (case z_bool => k_is)
    (case pg => k_is)
    (case hd => k_is)
    (case po => k_is)
    (case sa => k_is)
    (case nA0 => k_is)
    (case nA1 => k_is)
    (case nA2 => k_is)
    (case v0 => k_is)
    (case v1 => k_is)
    (case v2 => k_is)
    (case v3 => k_is)
    (case xL => k_is)
    (case xrv => first | rfl | decide +kernel)
    (case xsa => k_is)
    (case s1 => k_is)
    (case y1 => k_is)
    (case kp1 => k_is)
    (case nP => k_is)
    (case nI => k_is)
    (case iI => k_is)
    (case tI => k_is)
    (case prd => k_is)
    (case pga => k_is)
    (case pat => k_is)
    (case qU => first | k_is | kernel_rfl | rfl)
    (case kU => k_is)
    (case sU => k_is)
    (case yU => k_is)
    (case nSt => k_is)
    (case ne => decide +kernel)
    (case mk => k_is)
    (case kpC => k_is)
    (case atT => k_is)
    (case ifT => k_is)
    (case lT => k_is)
    (case cd_T => k_is)
    (case kp_T => k_is)
    (case lI => k_is)
    (case cd_I => k_is)
    (case kp_I => k_is)
    (case atRl => k_is)
    (case geRl => k_is)
    (case taRl => k_is)
    (case rcRl => k_is)
    (case lRl => k_is)
    (case cd_Rl => k_is)
    (case kp_Rl => k_is)
    (case atRd => k_is)
    (case geRd => k_is)
    (case taRd => k_is)
    (case rcRd => k_is)
    (case lRd => k_is)
    (case cd_Rd => k_is)
    (case kp_Rd => k_is)
    (case atEx => k_is)
    (case geEx => k_is)
    (case taEx => k_is)
    (case rcEx => k_is)
    (case lEx => k_is)
    (case cd_Ex => k_is)
    (case kp_Ex => k_is)
    (case atTo => k_is)
    (case ifTo => k_is)
    (case lTo => k_is)
    (case cd_To => k_is)
    (case kp_To => k_is)
    (case atIs => k_is)
    (case ifIs => k_is)
    (case lIs => k_is)
    (case cd_Is => k_is)
    (case kp_Is => k_is)
    (case atCt => k_is)
    (case ifCt => k_is)
    (case lCt => k_is)
    (case cd_Ct => k_is)
    (case kp_Ct => k_is)
    (case atTd => k_is)
    (case ifTd => k_is)
    (case lTd => k_is)
    (case cd_Td => k_is)
    (case kp_Td => k_is)
    (case atWx => k_is)
    (case ifWx => k_is)
    (case lWx => k_is)
    (case cd_Wx => k_is)
    (case kp_Wx => k_is)
    (case atVN => k_is)
    (case lVN => k_is)
    (case cd_VN => k_is)
    (case kp_VN => k_is)
    (case atVC => k_is)
    (case lVC => k_is)
    (case cd_VC => k_is)
    (case kp_VC => k_is)
    (case atN => k_is)
    (case lN => k_is)
    (case cd_N => k_is)
    (case kp_N => k_is)
    (case atA => k_is)
    (case lA => k_is)
    (case cd_A => k_is)
    (case kp_A => k_is)
    (case atMx => k_is)
    (case lMx => k_is)
    (case cd_Mx => k_is)
    (case kp_Mx => k_is)
    (case atErr => k_is)
    (case lErr => k_is)
    (case cd_Err => k_is)
    (case kp_Err => k_is)
    (case atPat => k_is)
    (case lPat => k_is)
    (case cd_Pat => k_is)
    (case kp_Pat => k_is)
    (case atOdd => k_is)
    (case lOdd => k_is)
    (case cd_Odd => k_is)
    (case kp_Odd => k_is)
    (case atBad => k_is)
    (case lBad => k_is)
    (case cd_Bad => k_is)
    (case kp_Bad => k_is)
    (case atTrv => k_is)
    (case lTrv => k_is)
    (case cd_Trv => k_is)
    (case kp_Trv => k_is)
    (case atSpo => k_is)
    (case lSpo => k_is)
    (case cd_Spo => k_is)
    (case kp_Spo => k_is)
    (case atDa => k_is)
    (case lDa => k_is)
    (case cd_Da => k_is)
    (case kp_Da => k_is)
    (case atE => k_is)
    (case lE => k_is)
    (case cd_E => k_is)
    (case kp_E => k_is)
    (case atLaw => k_is)
    (case lLaw => k_is)
    (case cd_Law => k_is)
    (case kp_Law => k_is)
    (case eg1 => k_is)
    (case ek1 => k_is)
    (case eh1 => k_is)
    (case ec1 => k_is)
    (case em1 => k_is)
    (case k10 => first | kernel_rfl | rfl | decide +kernel)
    (case k11 => first | kernel_rfl | rfl | decide +kernel)
    (case k12 => first | kernel_rfl | rfl | decide +kernel)
    (case k13 => first | kernel_rfl | rfl | decide +kernel)
    (case k14 => first | kernel_rfl | rfl | decide +kernel)
    (case k15 => first | kernel_rfl | rfl | decide +kernel)
    (case k16 => first | kernel_rfl | rfl | decide +kernel)
    (case kv1 => first | kernel_rfl | rfl | decide +kernel)
    (case sp1 => k_is)
    (case eg2 => k_is)
    (case ek2 => k_is)
    (case eh2 => k_is)
    (case ec2 => k_is)
    (case em2 => k_is)
    (case k20 => first | kernel_rfl | rfl | decide +kernel)
    (case k21 => first | kernel_rfl | rfl | decide +kernel)
    (case k22 => first | kernel_rfl | rfl | decide +kernel)
    (case k23 => first | kernel_rfl | rfl | decide +kernel)
    (case k24 => first | kernel_rfl | rfl | decide +kernel)
    (case k25 => first | kernel_rfl | rfl | decide +kernel)
    (case k26 => first | kernel_rfl | rfl | decide +kernel)
    (case kv2 => first | kernel_rfl | rfl | decide +kernel)
    (case sp2 => k_is)
    (case ecn => k_is)
    (case ect => k_is)
    (case sP => k_is)
    (case hP => k_is)
    (case yP => k_is)
    (case nT => first | rfl | kernel_rfl)
    (case hH => first | kernel_rfl | rfl)
    (case nU => first | rfl | kernel_rfl)
    (case hV => first | kernel_rfl | rfl)
#print axioms PySem.Challenge.cw_seasonpass_k02_whole_travel_days_holds

