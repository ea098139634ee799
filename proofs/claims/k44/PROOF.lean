import PyProof.Rows.All
import Wide.All
import OpenK.AllK
import Wide.FinOn
import HandS.ForMost
import HandS.ForExc
import HandS.Nested
import HandS.Star
import HandS.Property
import HandS.ClsMeth
import HandS.Defaults
import HandS.ExcInit
import HandS.MakeKwOnly
import HandS.IsInst
import HandS.Wide
import HandS.EndTab
import KE.GoesMore
import KE.GoesComp
import KE.GoesEnum
import HandS.ExcIs
import HandS.TryMany
import KE.KExcIs
import HandS.Evl
import HandS.ExcField
import HandS.TupAny
import HandS.Small
import KE.KeyNested
import KE.KSuper
import HandS.NestedK
import HandS.Text
import HandS.Walk
import KE.IntTextLaws
import HandS.Style
import HandS.SetFor
import HandS.Strs
import HandS.SortInts
import PyProof.ListNew
import PyProof.TupleOfSeq
import PyProof.Rows.FactsTup
import PyProof.Rows.SortShellAny
import HandS.EndOwn
import KE.KNestM
import PySem.Challenge.RW_seasonpass_k44_whole_best_limits
set_option Elab.async false
set_option linter.all false
set_option maxRecDepth 100000
set_option maxHeartbeats 4000000
/-! lambdas as tracked objects, called from anywhere -/
namespace Sea
open PySem PySem.Spec PyProof.Rows L2 LamX NdefX

/-- the words of a lambda, what it captured, its code object, its defaults -/
structure LF where
  qual : Str
  params : Arguments
  body : Expr
  scope : Scope
  cl : List (Str × Addr)
  c : Addr
  dV : Value
abbrev LF.fd (F : LF) (doc pm ctv : Value) : FuncData :=
  PySem.W.kdv_fn "<lambda>" F.qual F.params (.expr F.body) F.scope F.cl F.dV doc pm (.ref F.c) ctv
/-- what a lambda's object is: a function object with the words F, whatever its text, module and annotations are -/
inductive LamAs (F : LF) : Obj → Prop
  | mk (od : Option Addr) (sl : Array (Option Value)) (doc pm ctv : Value) : LamAs F ⟨.type "function", od, .func (F.fd doc pm ctv), sl⟩
/-- at f stands an object of which R holds -/
def Stands (R : Obj → Prop) (f : Addr) : HO := .ext fun h => ∃ o, R o ∧ h.get? f = some o
theorem Stands.ok {P : Program} {w : World} {H : Hp} {h : Heap} {f : Addr} {R : Obj → Prop} {o : Obj} (r : R o) (e : h.get? f = some o) : ObjOk P w H h f (Stands R f) :=
  ⟨⟨o, r, e⟩, ⟨o, e⟩, fun _ _ ⟨o, r, e⟩ stays => ⟨o, r, stays o e⟩⟩
theorem Stands.no_tbl {R : Obj → Prop} {f : Addr} (ps : Array Value) : Stands R f ≠ .tbl ps := nofun
theorem Stands.no_tup {R : Obj → Prop} {f : Addr} (xs : List V) : Stands R f ≠ .tup xs := nofun
/-- a new object is laid at the heap's end -/
theorem Stands.laid {X : Cx} {pins : List (Addr × Obj)} {σ : L2.St} {H : Hp} {s : Shared} {R : Obj → Prop} {o : Obj} {t : Nat} (I : Inv X pins σ H s) (r : R o) (nf : o.isFreed = false) :
    Inv X pins σ (upd H s.heap.objs.size (Stands R s.heap.objs.size)) { s with heap := s.heap.push o, toks := t } :=
  I.laid (fun _ _ e => Heap.get?_push_of_some _ e) (Nat.le_refl _) (Stands.ok r (Heap.get?_push_size _ nf))
abbrev LamO (f : Addr) (F : LF) : HO := Stands (LamAs F) f
theorem lamO_at {P : Program} {w : World} {H : Hp} {h : Heap} {f : Addr} {F : LF} (hok : HOk P w H h) (e : H f = some (LamO f F)) : ∃ o, LamAs F o ∧ h.get? f = some o :=
  (hok f _ e).1
theorem tabs_keep {T : List (Addr × Str)} {H : Hp} {a : Addr} {o : HO} (hT : Tabs T H) (n : H a = none) : Tabs T (upd H a o) :=
  hT.ext fun b u e => by rw [upd_ne (ne_of_none e n), e]
theorem extN_new {H : Hp} {a : Addr} {o : HO} (n : H a = none) : ExtN H (upd H a o) := .of fun b u e => by rw [upd_ne (ne_of_none e n), e]
theorem extN_tbl {H : Hp} {P : Addr} {ps qs : Array Value} (at_ : H P = some (.tbl ps)) : ExtN H (upd H P (.tbl qs)) := fun b o e n => (upd_ne fun z => n ps (by
  rw [z, at_] at e
  exact (Option.some.inj e).symm)).trans e
/-- all that a table's row tells bears the name q -/
def Told (H : Hp) (q : Str) (row : List Value) : Prop := ∀ (pos : Pos) (cv : Value), codeAmong pos row = some cv → ∃ d, cv = .ref d ∧ H d = some (CodeO d q)
theorem Told.one {H H' : Hp} {q : Str} {row : List Value} {pos : Pos} {c : Addr} (t : Told H q row) (ok : TriplesOk row) (keep : ∀ d, H d = some (CodeO d q) → H' d = some (CodeO d q)) (new : H' c = some (CodeO c q)) : Told H' q (row ++ [rawInt pos.line, rawInt pos.col, .ref c]) := fun pos cv h =>
  (among_app _ ok h).elim (fun old => (t pos cv old).imp fun d z => ⟨z.1, keep d z.2⟩) fun e => ⟨c, e, new⟩
/-- the maker's table has grown by one code object -/
theorem tabs_more {T : List (Addr × Str)} {H : Hp} {P c : Addr} {q : Str} {ps : Array Value} {pos : Pos} (hT : Tabs T H) (at_ : H P = some (.tbl ps)) (ok : TriplesOk ps.toList) (told : Told H q ps.toList) (hu : ∀ p ∈ T, p.1 = P → p.2 = q) (nC : H c = none) :
    Tabs T (upd (upd H P (.tbl (ps ++ #[rawInt pos.line, rawInt pos.col, .ref c]))) c (CodeO c q)) ∧ ExtN H (upd (upd H P (.tbl (ps ++ #[rawInt pos.line, rawInt pos.col, .ref c]))) c (CodeO c q)) := by
  have Pc : P ≠ c := ne_of_none at_ nC
  have ext := (extN_tbl (qs := ps ++ #[rawInt pos.line, rawInt pos.col, .ref c]) at_).trans (extN_new (o := CodeO c q) ((upd_ne Pc.symm).trans nC))
  have row : (ps ++ #[rawInt pos.line, rawInt pos.col, .ref c]).toList = ps.toList ++ [rawInt pos.line, rawInt pos.col, .ref c] := by simp
  have mine : TabS (upd (upd H P (.tbl (ps ++ #[rawInt pos.line, rawInt pos.col, .ref c]))) c (CodeO c q)) P q := by
    refine ⟨_, (upd_ne Pc).trans upd_same, ?_, ?_⟩ <;> rw [row]
    · exact PySem.TriplesOk_snoc _ _ _ _ ok
    · exact told.one ok (fun d e => ext d _ e codeO_ne) upd_same
  have other : ∀ p ∈ T, p.1 ≠ P → TabS (upd (upd H P (.tbl (ps ++ #[rawInt pos.line, rawInt pos.col, .ref c]))) c (CodeO c q)) p.1 p.2 := fun p hp n =>
    let ⟨qs, there, fine, names⟩ := hT p hp
    ⟨qs, (upd_ne (ne_of_none there nC)).trans ((upd_ne n).trans there), fine, fun x y h => (names x y h).imp fun d z => ⟨z.1, ext d _ z.2 codeO_ne⟩⟩
  exact ⟨fun p hp => if e : p.1 = P then by rw [e, hu p hp e]; exact mine else other p hp e, ext⟩

section
variable {X : Cx} {pins : List (Addr × Obj)} {σ : L2.St} {H : Hp} {s : Shared}
/-- the lambda's object is made -/
theorem lam_tr {T : List (Addr × Str)} {c P : Addr} {params : Arguments} {body : Expr} {scope : Scope} {pos : Pos} {dV : Value} {E : Value → Shared → Prop} {Q : Value → Shared → Prop} (I : Inv X pins σ H s) (TB : TabB X.base X.mg c P) (hcode : X.env.code = .ref c)
    (hm : (P, X.env.qual ++ "<lambda>") ∈ T) (hu : ∀ p ∈ T, p.1 = P → p.2 = X.env.qual ++ "<lambda>") (hT : Tabs T H) (hfree : ∀ y ∈ scope.names, y.2 = .free → ∃ c, X.env.cells.lookup y.1 = some c)
    (h : ∀ (f c' : Addr) (H1 : Hp) (s' : Shared), Inv X pins σ H1 s' → ExtN H H1 → Tabs T H1 → H f = none →
      H1 f = some (LamO f ⟨X.env.qual ++ "<lambda>", params, body, scope, cloFrom X.env.cells scope.names [], c', dV⟩) → H1 c' = some (CodeO c' (X.env.qual ++ "<lambda>")) → Q (.ref f) s') :
    wpAny (model X.prog X.w) X.A (makeTail "<lambda>" (X.env.qual ++ "<lambda>") params (.expr body) scope X.env dV .none none pos pos.line) Q E s := by
  obtain ⟨ps, table, triples, told⟩ := hT _ hm
  have main := TB.bm.keeps I.bk
  have glob := I.mod.glob.keeps I.bk
  have code := TB.code.keeps I.bk
  -- whichever way the code object was got: the function object is laid last
  have last : ∀ (c' : Addr) (H1 : Hp) (hp : Heap) (tk : Nat) (doc pm ctv : Value), Inv X pins σ H1 { s with heap := hp, toks := tk } → s.heap.objs.size ≤ hp.objs.size → ExtN H H1 → Tabs T H1 → H1 c' = some (CodeO c' (X.env.qual ++ "<lambda>")) →
      Q (.ref hp.objs.size) { s with heap := hp.push ⟨.type "function", none, .func ((LF.mk (X.env.qual ++ "<lambda>") params body scope (cloFrom X.env.cells scope.names []) c' dV).fd doc pm ctv), #[]⟩, toks := tk } := by
    intro c' H1 hp tk doc pm ctv J le ext tabs hc
    have fresh : H1 hp.objs.size = none := J.hok.fresh (Nat.le_refl _)
    exact h _ c' _ _ (Stands.laid J (LamAs.mk none #[] doc pm ctv) rfl) (ext.trans (extN_new fresh)) (tabs_keep tabs fresh) (I.hok.fresh le) upd_same ((upd_ne (ne_of_none hc fresh)).trans hc)
  match hk : codeAmong pos ps.toList with
  | some cv =>
    obtain ⟨c', rfl, known⟩ := told pos cv hk
    exact PySem.W.kdv_makeTailHit (closure_ok hfree) I.ok.glob glob hcode code (I.hok P _ table) triples hk main fun ctv doc hp tk old le => last c' H hp tk doc _ ctv (I.kept old) le (.refl H) hT known
  | none =>
    refine PySem.W.kdv_makeTail (closure_ok hfree) I.ok.glob glob hcode code (I.hok P _ table) triples hk TB.gP main ?_
    rintro c' ctv doc hp tk old ge lt ⟨_, oc, vs, t, z, rec⟩ row
    cases z
    have grown := tabs_more (pos := pos) hT table triples told hu (I.hok.fresh ge)
    exact last c' _ hp tk doc _ ctv (inv_table (t' := tk) I table (fun b o hb e => old b o hb e) row ge ⟨oc, vs, t, rec⟩) (Nat.le_trans ge (Nat.le_of_lt lt)) grown.2 grown.1 upd_same
end

/-- a lambda as a value: without defaults -/
def tLamV (T : List (Addr × Str)) (mk : Addr → LF) : TE := fun _ H Q => Tabs T H ∧ ∀ (f c' : Addr) (H1 : Hp), ExtN H H1 → Tabs T H1 → H f = none → H1 f = some (LamO f (mk c')) → H1 c' = some (CodeO c' (mk c').qual) → Q (.ref f) H1
/-- .. with one default, an int -/
def tLamD (T : List (Addr × Str)) (d : Int) (mk : Addr → Addr → LF) : TE := fun _ H Q => Tabs T H ∧ ∀ (f c' t : Addr) (H1 : Hp), ExtN H H1 → Tabs T H1 → H f = none → H t = none → H1 t = some (.tup [.int d]) → H1 f = some (LamO f (mk c' t)) → H1 c' = some (CodeO c' (mk c' t).qual) → Q (.ref f) H1
section
variable {X : Cx} {T : List (Addr × Str)} {c P : Addr} {params : Arguments} {body : Expr} {scope : Scope} {pos : Pos}
theorem free_has (hf : ∀ y ∈ scope.names, y.2 = .free → X.env.scope.names.lookup y.1 = some .cell ∨ X.env.scope.names.lookup y.1 = some .free) (ok : X.Ok) : ∀ y ∈ scope.names, y.2 = .free → ∃ c, X.env.cells.lookup y.1 = some c :=
  fun y hy e => (hf y hy e).elim (fun k => ok.has _ (.inl k)) (fun k => ok.has _ (.inr k))
theorem pe_lamV (TB : TabB X.base X.mg c P) (hcode : X.env.code = .ref c) (hm : (P, X.env.qual ++ "<lambda>") ∈ T) (hu : ∀ p ∈ T, p.1 = P → p.2 = X.env.qual ++ "<lambda>")
    (hf : ∀ y ∈ scope.names, y.2 = .free → X.env.scope.names.lookup y.1 = some .cell ∨ X.env.scope.names.lookup y.1 = some .free) (hdef : defaultsOf params X.env = ([], []) := by rfl) :
    PE X (.Lambda params body scope pos) (tLamV T fun c' => ⟨X.env.qual ++ "<lambda>", params, body, scope, cloFrom X.env.cells scope.names [], c', .none⟩) := by
  refine ⟨fun pins s σ H Q I h => ?_⟩
  obtain ⟨hT, h⟩ := h
  refine PySem.W.kla_eval hdef ?_
  rw [makeFunction_eq]
  simp only [List.zip_nil_right, List.filterMap_nil, List.isEmpty_nil, if_true, pure_bind]
  exact lam_tr I TB hcode hm hu hT (free_has hf I.ok) fun f c' H1 s' I1 eN T1 f0 f1 c1 => ⟨.ref f, H1, I1, rfl, h f c' H1 eN T1 f0 f1 c1⟩
theorem pe_lamD {d : Int} {j : Nat} {dp : Pos} (TB : TabB X.base X.mg c P) (hcode : X.env.code = .ref c) (hm : (P, X.env.qual ++ "<lambda>") ∈ T) (hu : ∀ p ∈ T, p.1 = P → p.2 = X.env.qual ++ "<lambda>")
    (hf : ∀ y ∈ scope.names, y.2 = .free → X.env.scope.names.lookup y.1 = some .cell ∨ X.env.scope.names.lookup y.1 = some .free) (hd : params.defaults = [.Constant (.int d) j dp]) (hk0 : params.kw_defaults = []) :
    PE X (.Lambda params body scope pos) (tLamD T d fun c' t => ⟨X.env.qual ++ "<lambda>", params, body, scope, cloFrom X.env.cells scope.names [], c', .ref t⟩) := by
  refine ⟨fun pins s σ H Q I h => ?_⟩
  obtain ⟨hT, h⟩ := h
  refine PySem.W.kdv_lam (by rw [hd]; rfl) hk0 ?_
  rw [hd]
  refine PySem.W.kdv_all1 (wpAny_Constant_int (PySem.W.kdv_all0 ?_))
  rw [makeFunction_eq]
  simp only [List.zip_nil_right, List.filterMap_nil, List.isEmpty_nil, if_true, pure_bind, List.isEmpty_cons, Bool.false_eq_true, if_false]
  refine wpAny_bind (wpAny_newTextTuple ?_)
  have nT : H s.heap.objs.size = none := I.hok.fresh (Nat.le_refl _)
  have I1 := I.laid (t' := s.toks + 1) (a := s.heap.objs.size) (o := .tup [.int d]) (h' := s.heap.push ({ cls := .type "tuple", data := .seq #[.int d s.toks] } : Obj)) (fun b u e => Heap.get?_push_of_some _ e) (Nat.le_refl _)
    ⟨(by show 1 ≤ sizeLine; decide), [.int d s.toks], .cons ⟨_, rfl⟩ .nil, ⟨_, Heap.get?_push_size _ rfl, rfl, _, rfl⟩⟩
  refine lam_tr I1 TB hcode hm hu (tabs_keep hT nT) (free_has hf I.ok) fun f c' H1 s' I2 eN T1 f0 f1 c1 => ⟨.ref f, H1, I2, rfl, ?_⟩
  have ft : f ≠ s.heap.objs.size := fun z => by
    rw [z, upd_same] at f0
    cases f0
  have f0' : H f = none := by
    rw [upd_ne ft] at f0
    exact f0
  exact h f c' s.heap.objs.size H1 ((extN_new nT).trans eN) T1 f0' nT (eN _ _ upd_same (fun ps z => by cases z)) f1 c1
end
end Sea

set_option Elab.async false
set_option linter.all false
set_option maxRecDepth 100000
set_option maxHeartbeats 4000000
namespace Sea
open PySem PySem.Spec PyProof.Rows L2 LamX NdefX
abbrev LF.nf (F : LF) : NF := ⟨"<lambda>", F.qual, F.params, [], F.scope, F.cl, F.c⟩
/-- the tuple of defaults, where there is one, holds one int -/
def DvOk (F : LF) (H : Hp) : Prop := ∀ t, F.dV = .ref t → ∃ d, H t = some (.tup [.int d])
/-- a thunk's reading: ws what its captured cells hold -/
abbrev TSp := List (Option V) → Hp → VK → XK → Prop
structure LOk (P : Program) (w : World) (K : PySem.W.Frag) (mg : Str → Option Value) (base : Heap) (CX : CXT) (k : Nat) (f : Addr) (F : LF) (fr : List Str) (sp : TSp) : Prop where
  run : ∀ (A : Around) (outer : List Env) (s : Shared) (H : Hp) (ws : List (Option V)) (Q : VK) (E : XK), Room k A → Env0 P w K mg base A outer s H → H f = some (LamO f F) → H F.c = some (CodeO F.c F.qual) → DvOk F H →
    CellsAt F.cl fr ws s.heap H → sp ws H Q E → codeAny (model P w) A (.call (.ref f) ⟨[], []⟩) (CR CX outer P w H s Q E) s
theorem LOk.mono {P : Program} {w : World} {K : PySem.W.Frag} {mg : Str → Option Value} {base : Heap} {CX : CXT} {k j : Nat} {f : Addr} {F : LF} {fr : List Str} {sp : TSp} (o : LOk P w K mg base CX j f F fr sp) (h : j ≤ k) : LOk P w K mg base CX k f F fr sp :=
  ⟨fun A outer s H ws Q E hr => o.run A outer s H ws Q E (hr.mono h)⟩
theorem LOk.imp {P : Program} {w : World} {K : PySem.W.Frag} {mg : Str → Option Value} {base : Heap} {CX : CXT} {k : Nat} {f : Addr} {F : LF} {fr : List Str} {sp sp' : TSp} (o : LOk P w K mg base CX k f F fr sp) (h : ∀ ws H Q E, sp' ws H Q E → sp ws H Q E) : LOk P w K mg base CX k f F fr sp' :=
  ⟨fun A outer s H ws Q E hr e0 a b c d q => o.run A outer s H ws Q E hr e0 a b c d (h _ _ _ _ q)⟩
section
variable {CX : CXT} {P : Program} {w : World} {K : PySem.W.Frag} {mg : Str → Option Value} {base : Heap} {N ps fr : List Str} {F : LF} {f : Addr} {k : Nat} {sp : TSp}
theorem lok_core {A : Around} {outer : List Env} {s : Shared} {H : Hp} {us : List Value} {vs : List V} {ws : List (Option V)} {Q : VK} {E : XK} (S : NScope N ps fr F.scope) (hr : Room (k + 1) A) (e0 : Env0 P w K mg base A outer s H)
    (hf : H f = some (LamO f F)) (hc : H F.c = some (CodeO F.c F.qual)) (C : CellsAt F.cl fr ws s.heap H) (r : Vals vs us) (hl : vs.length = ps.length)
    (hb : ∀ doc pm ctv : Value, BindsTo s (F.fd doc pm ctv) ⟨[], []⟩ (ps.zip us))
    (hbody : Room k (A.deeper (envF F.nf f s.heap.objs.size)) → ∃ t, PE (ncx CX P w K mg base N F.nf f A outer s H E) F.body t ∧ t (startF N vs ws) H Q) :
    codeAny (model P w) A (.call (.ref f) ⟨[], []⟩) (CR CX outer P w H s Q E) s := by
  have lim : s.heap.NoLimit := e0.mod.nolimit.keeps fun b o e => (e0.bs b o e).1
  obtain ⟨_, ⟨od, sl, doc, pm, ctv⟩, ho⟩ := lamO_at e0.hok hf
  refine PySem.W.kla_callFunE hr.depth ho rfl S.co S.gen rfl (codeO_at e0.hok hc) ?_
  refine hb doc pm ctv _ _ _ _ ?_
  refine wpAny_newFunctionEnv S.nocell (fun ⟨n, _⟩ hy => S.par n (List.of_mem_zip hy).1) (fun h1 hns hsb => ⟨lim.fresh _ hsb, ?_⟩) S.kind
  have kp : ∀ b o, s.heap.get? b = some o → h1.get? b = some o := fun b o e => hsb.extBut b o (Nat.ne_of_lt (Heap.lt_size e)) (Heap.get?_push_of_some _ e)
  obtain ⟨t, ht, hq⟩ := hbody (hr.deeper _)
  have I : Inv (ncx CX P w K mg base N F.nf f A outer s H E) [] (startF N vs ws) H { s with heap := h1, toks := s.toks + (ps.zip us).length } := inv_startN S hr.hd e0 hl r C hns kp
  show codeAny _ _ (.expr F.body (envF F.nf f s.heap.objs.size)) _ _
  refine PySem.W.kla_codeExpr (wpAny_mono (ht.run [] _ (startF N vs ws) H Q I hq) (fun v s' hs => ?_) fun e s' hs => hs)
  obtain ⟨x, H', J, rv, q⟩ := hs
  exact ⟨x, H', J.os, J.bare, J.base, J.hok, rv, q⟩
theorem lok_of0 (S : NScope N [] fr F.scope) (hb : ∀ doc pm ctv : Value, bindArgs (F.fd doc pm ctv) ⟨[], []⟩ = pure [])
    (hbody : ∀ (A : Around) (outer : List Env) (s : Shared) (H : Hp) (ws : List (Option V)) (Q : VK) (E : XK), Room k (A.deeper (envF F.nf f s.heap.objs.size)) → ws.length = fr.length → sp ws H Q E →
      ∃ t, PE (ncx CX P w K mg base N F.nf f A outer s H E) F.body t ∧ t (startF N [] ws) H Q) : LOk P w K mg base CX (k + 1) f F fr sp :=
  ⟨fun A outer s H ws Q E hr e0 hf hc hd C hq => lok_core (us := []) (vs := []) S hr e0 hf hc C .nil rfl (fun doc pm ctv => .of_eq (hb doc pm ctv)) fun hr' => hbody A outer s H ws Q E hr' C.len hq⟩
/-- with one default -/
theorem lok_ofD {a : Str} {t : Addr} (S : NScope N [a] fr F.scope) (hdv : F.dV = .ref t)
    (hb : ∀ doc pm ctv : Value, ∃ kk : Option (Array Value) → Sem (List (Str × Value)), bindArgs (F.fd doc pm ctv) ⟨[], []⟩ = seqItems? (F.fd doc pm ctv).defaults >>= kk ∧ ∀ u, kk (some #[u]) = pure [(a, u)])
    (hbody : ∀ (A : Around) (outer : List Env) (s : Shared) (H : Hp) (ws : List (Option V)) (Q : VK) (E : XK) (d : Int), Room k (A.deeper (envF F.nf f s.heap.objs.size)) → ws.length = fr.length → sp ws H Q E →
      ∃ t, PE (ncx CX P w K mg base N F.nf f A outer s H E) F.body t ∧ t (startF N [.int d] ws) H Q) : LOk P w K mg base CX (k + 1) f F fr sp := by
  refine ⟨fun A outer s H ws Q E hr e0 hf hc hd C hq => ?_⟩
  obtain ⟨d, ht⟩ := hd t hdv
  obtain ⟨_, its, rv, o, ho, hcl, n, hsq⟩ := (show ObjOk P w H s.heap t (.tup [.int d]) from e0.hok t _ ht)
  cases rv with
  | @cons _ u _ rest ru rr =>
    cases rr
    exact lok_core (us := [u]) (vs := [.int d]) S hr e0 hf hc C (.cons ru .nil) rfl (fun doc pm ctv => by
      obtain ⟨kk, e1, e2⟩ := hb doc pm ctv
      exact BindsTo.of_defaults hdv ho hsq e1 (e2 u)) fun hr' => hbody A outer s H ws Q E d hr' C.len hq
end

/-- what a caller hands on with a thunk: tl is its reading -/
structure Thunk (P : Program) (w : World) (K : PySem.W.Frag) (mg : Str → Option Value) (base : Heap) (CX : CXT) (k : Nat) (outer : List Env) (s : Shared) (H : Hp) (f : Addr) (tl : Hp → VK → XK → Prop) : Prop where
  ex : ∃ (F : LF) (fr : List Str) (ws : List (Option V)) (sp : TSp), LOk P w K mg base CX k f F fr sp ∧ H f = some (LamO f F) ∧ H F.c = some (CodeO F.c F.qual) ∧ DvOk F H ∧ CellsAt F.cl fr ws s.heap H ∧ (∀ y c, F.cl.lookup y = some c → c ∉ frs outer) ∧ tl = sp ws
/-- a def that takes a thunk, its promise told of the state -/
def FnS (P : Program) (w : World) (K : PySem.W.Frag) (mg : Str → Option Value) (base : Heap) (CX CXl : CXT) (k j : Nat) (g : Addr) (sp : (Hp → VK → XK → Prop) → Hp → VK → XK → Prop) : Prop :=
  ∀ (A : Around) (outer : List Env) (s : Shared) (H : Hp) (f : Addr) (tl : Hp → VK → XK → Prop) (Q : VK) (E : XK), Room k A → Env0 P w K mg base A outer s H → Thunk P w K mg base CXl j outer s H f tl → sp tl H Q E →
    codeAny (model P w) A (.call (.ref g) ⟨[.ref f], []⟩) (CR CX outer P w H s Q E) s
section
variable {X : Cx} {CX CXl : CXT} {i k j : Nat} {x : Str} {p pos : Pos} {E : L2.St → XK}
/-- a local name is read: the value that its slot holds, nothing moved -/
theorem name_at {pins : List (Addr × Obj)} {σ : L2.St} {H : Hp} {s : Shared} {v : V} {Qv : Value → Shared → Prop} (hN : X.N[i]? = some x) (hv : Vis X.env.scope x) (hd : (x == ("__debug__" : Str)) = false) (hcd : (x == ("__classdict__" : Str)) = false)
    (I : Inv X pins σ H s) (slot : σ[i]? = some (some v)) (next : ∀ u s', RelV v u → Inv X pins σ H s' → Qv u s') : wpAny (model X.prog X.w) X.A (eval (.Name x p) X.env) Qv X.xe s := by
  have read := (pe_var (pos := p) hN hv hd hcd).run pins s σ H (fun y H' => (y, H') = (v, H)) I ⟨v, slot, rfl⟩
  refine thn read ?_
  rintro u s' ⟨_, _, J, r, e⟩
  cases e
  exact next u s' r J
/-- x(), x the thunk that this def was handed -/
def tAct (X : Cx) (CXl : CXT) (j i : Nat) (E : L2.St → XK) : TE := fun σ H Q => ∃ (f : Addr) (tl : Hp → VK → XK → Prop), σ[i]? = some (some (.ref f)) ∧ H = X.H_0 ∧ Thunk X.prog X.w X.K X.mg X.base CXl j X.outer X.s_0 X.H_0 f tl ∧ tl H Q (E σ)
theorem pe_actT (hr : Room j X.A) (hex : X.ex = []) (hx : ∀ σ, PassesAt CXl X σ (E σ)) (hN : X.N[i]? = some x) (hv : Vis X.env.scope x)
    (hd : (x == ("__debug__" : Str)) = false := by decide) (hcd : (x == ("__classdict__" : Str)) = false := by decide) : PE X (.Call (.Name x p) [] [] pos) (tAct X CXl j i E) := by
  constructor
  rintro pins s σ _ Q I ⟨f, _, slot, rfl, ⟨F, fr, ws, sp, L, hf, hc, hdv, C, nf, rfl⟩, ht⟩
  refine wpAny_Call_Name_kw (name_at hN hv hd hcd I slot ?_)
  rintro u s1 (rfl : u = .ref f) I1
  obtain ⟨_, ⟨od, sl, doc, pm, ctv⟩, ho⟩ := lamO_at I1.hok hf
  have cells := C.later nf (fun y c e z => by rw [hex] at z; cases z) I1
  have ran := L.run X.A X.stack s1 X.H_0 ws Q (E σ) hr I1.env0 hf hc hdv cells ht
  refine PySem.W.callWith_F0 (first := []) ⟨_, od, _, sl, ho⟩ (wpAny_call (codeAny_mono ran ?_))
  intro r s' back
  match r, back with
  | .error e, back => exact hx σ pins X.H_0 s1 e s' I1 back
  | .ok (.ret _), back => exact I1.after back
  | .ok .next, back => exact back.elim
  | .ok .brk, back => exact back.elim
  | .ok .cont, back => exact back.elim
/-- from the running frame: the cells that a thunk captured here -/
theorem thunk_here {pins : List (Addr × Obj)} {σ : L2.St} {H : Hp} {s : Shared} {f : Addr} {F : LF} {fr : List Str} {js : List Nat} {sp : TSp} (I : Inv X pins σ H s) (hfn : X.fn = fun _ => true) (L : LOk X.prog X.w X.K X.mg X.base CXl j f F fr sp) (hf : H f = some (LamO f F)) (hc : H F.c = some (CodeO F.c F.qual)) (hd : DvOk F H)
    (cp : Caps X F.cl fr js) : Thunk X.prog X.w X.K X.mg X.base CXl j X.stack s H f (sp (js.map (slotAt σ))) := by
  refine ⟨F, fr, _, sp, L, hf, hc, hd, cells_of I cp, fun y c e z => ?_, rfl⟩
  have e' := cp.sub y c e
  rcases List.mem_cons.mp (I.stkSub c z) with z | z
  · exact I.cne y c e' z
  · have h1 := I.ok.cab y c (by rw [hfn]) e'
    obtain ⟨_, o, ho, _⟩ := I.ok.funs.mem z
    exact absurd (Nat.lt_of_lt_of_le (Heap.lt_size ho) h1) (Nat.lt_irrefl _)
/-- g(e), e a lambda made in this def -/
def tGive (X : Cx) (CXl : CXT) (j : Nat) (sp : (Hp → VK → XK → Prop) → Hp → VK → XK → Prop) (te : TE) : TE := fun σ H Q => te σ H fun v H1 => ∃ (f : Addr) (F : LF) (fr : List Str) (js : List Nat) (lsp : TSp), v = .ref f ∧ LOk X.prog X.w X.K X.mg X.base CXl j f F fr lsp ∧
  H1 f = some (LamO f F) ∧ H1 F.c = some (CodeO F.c F.qual) ∧ DvOk F H1 ∧ (X.Ok → Caps X F.cl fr js) ∧ sp (lsp (js.map (slotAt σ))) H1 Q fun _ _ _ => False
theorem pe_give {g : Addr} {sp : (Hp → VK → XK → Prop) → Hp → VK → XK → Prop} {e : Expr} {te : TE} (G : FnS X.prog X.w X.K X.mg X.base CX0 CXl k j g sp) (hfn : X.fn = fun _ => true) (hr : Room k X.A) (hg : Gl X x) (hm : X.mg x = some (.ref g)) (hk : PySem.W.keepIn X.K (.ref g) = true) (he : PE X e te)
    (hdb : (x == ("__debug__" : Str)) = false := by decide) (hs : starEach (e :: []) X.env = (false, eval e X.env) :: starEach [] X.env := by rfl) (hpl : (backTo pos (starEach [] X.env)).any (·.1) = false := by rfl) :
    PE X (.Call (.Name x p) [e] [] pos) (tGive X CXl j sp te) := by
  refine ⟨fun pins s σ H Q I h => ?_⟩
  refine wpAny_Call_Name_kw (ld_glob I hg hm ?_ hdb)
  refine PySem.W.callWith_K (h₀ := X.base) I.ok.mod.kin hk (thn ((pa_cons he pa_nil hs).run pos pins s σ H (fun vs H1 => ∃ v, vs = [v] ∧ ∃ (f : Addr) (F : LF) (fr : List Str) (js : List Nat) (lsp : TSp), v = .ref f ∧ LOk X.prog X.w X.K X.mg X.base CXl j f F fr lsp ∧
    H1 f = some (LamO f F) ∧ H1 F.c = some (CodeO F.c F.qual) ∧ DvOk F H1 ∧ (X.Ok → Caps X F.cl fr js) ∧ sp (lsp (js.map (slotAt σ))) H1 Q fun _ _ _ => False) I ?_) fun us s1 hh => ?_) hs hpl
  · show te σ H _
    refine Eq.mp ?_ h
    show te σ H _ = te σ H _
    congr 1
    funext v H1
    refine propext ⟨fun hh => ⟨v, rfl, hh⟩, fun ⟨v', e', hh⟩ => ?_⟩
    cases e'
    exact hh
  · obtain ⟨vs, H1, I1, r, v, ev, f, F, fr, js, lsp, ef, L, hf, hc, hd, cp, q⟩ := hh
    subst ev
    subst ef
    refine ⟨I1.kIn, ?_⟩
    cases r with
    | cons ru rr =>
      cases rr
      obtain rfl := (show _ = Value.ref f from ru)
      refine wpAny_call (codeAny_mono (G X.A X.stack s1 H1 f _ Q (fun _ _ _ => False) hr I1.env0 (thunk_here I1 hfn L hf hc hd (cp I1.ok)) q) fun r s' hq => ?_)
      cases r with
      | error e => exact False.elim hq
      | ok fl =>
        cases fl with
        | ret u => exact I1.after hq
        | next => exact False.elim hq
        | brk => exact False.elim hq
        | cont => exact False.elim hq
end
end Sea

set_option Elab.async false
set_option linter.all false
set_option maxRecDepth 100000
set_option maxHeartbeats 4000000
/-! [g(x) for x in xs], xs a list of lambdas that this def made, g a def that takes a thunk -/
namespace Sea
open PySem PySem.Spec PyProof.Rows L2 LamX NdefX
theorem vals_at {xs : List V} {us : List Value} {i : Nat} {u : Value} (r : Vals xs us) (h : us[i]? = some u) : ∃ x, xs[i]? = some x ∧ RelV x u := by
  cases e : xs[i]? with
  | none =>
    rw [r.none_of e] at h
    cases h
  | some x =>
    obtain ⟨u', h', ru⟩ := r.get e
    rw [h] at h'
    cases h'
    exact ⟨x, rfl, ru⟩
def listSt (it a : Addr) (xs : List V) (i : Nat) (h : Heap) : Prop := h.IsListIter it a i ∧ ∃ items : Array Value, h.IsList a items ∧ Vals xs items.toList
theorem goes_listV {prog : Program} {w : World} {A : Around} {target : Expr} (hh : A.handled = none) (it a : Addr) (hne : a ≠ it) (xs : List V) :
    Goes prog w A target it [it, a] [it] xs.length (fun i v _ => ∃ x, xs[i]? = some x ∧ RelV x v) (listSt it a xs) := by
  refine ⟨fun b hb => by simp at hb; simp [hb], ?_, ?_, ?_, ?_⟩
  · rintro i h h' ⟨⟨o, ho, ro⟩, items, ⟨o2, ho2, ro2⟩, rv⟩ hk
    exact ⟨⟨o, hk it (by simp) o ho, ro⟩, items, ⟨o2, hk a (by simp) o2 ho2, ro2⟩, rv⟩
  · rintro i s Q E hi ⟨hit, items, hl, rv⟩ hQ
    have sz : items.size = xs.length := by
      have := rv.length
      rw [Array.length_toList] at this
      exact this.symm
    refine (Goes.list (prog := prog) (w := w) (target := target) hh it a hne items).goes i s Q E (by rw [sz]; exact hi) ⟨hit, hl⟩ ?_
    intro v h' tk hY hSt hk htk
    exact hQ v h' tk (vals_at rv (by simpa using hY)) ⟨hSt.1, items, hSt.2, rv⟩ hk htk
  · rintro s Q E ⟨hit, items, hl, rv⟩ hQ
    have sz : items.size = xs.length := by
      have := rv.length
      rw [Array.length_toList] at this
      exact this.symm
    refine (Goes.list (prog := prog) (w := w) (target := target) hh it a hne items).stops s Q E ⟨by rw [sz]; exact hit, hl⟩ hQ
  · rintro i s Q E ⟨hit, items, hl, rv⟩ hQ
    exact (Goes.list (prog := prog) (w := w) (target := target) hh it a hne items).self i s Q E ⟨hit, hl⟩ hQ
theorem clo_none {cells : List (Str × Addr)} : ∀ {names : List (Str × NameKind)} {acc : List (Str × Addr)}, (∀ y ∈ names, y.2 ≠ .free) → cloFrom cells names acc = acc
  | [], acc, _ => rfl
  | (n, k) :: r, acc, h => by
    have hk : (k == NameKind.free) = false := by
      have := h (n, k) List.mem_cons_self
      cases k <;> first | rfl | exact absurd rfl this
    unfold cloFrom
    rw [hk]
    exact clo_none fun y hy => h y (List.mem_cons_of_mem _ hy)
/-- a block whose names are its own locals and globals -/
structure PlainBlk (scope : Scope) : Prop where
  kind : scope.kind = .function
  nm : ∀ y ∈ scope.names, y.2 = .local ∨ y.2 = .globalImplicit
  uq : ∀ y ∈ scope.names, y.2 = .local → scope.names.lookup y.1 = some .local
theorem PlainBlk.noFree {scope : Scope} (b : PlainBlk scope) : ∀ y ∈ scope.names, y.2 ≠ .free := fun y hy e => by
  rcases b.nm y hy with h | h <;> rw [h] at e <;> cases e
theorem PlainBlk.noCell {scope : Scope} (b : PlainBlk scope) : ∀ y ∈ scope.names, y.2 ≠ .cell := fun y hy e => by
  rcases b.nm y hy with h | h <;> rw [h] at e <;> cases e
def plainBlkB (scope : Scope) : Bool := decide (scope.kind = .function) && scope.names.all (fun y => decide (y.2 = .local) || decide (y.2 = .globalImplicit)) && scope.names.all fun y => !decide (y.2 = .local) || decide (scope.names.lookup y.1 = some .local)
theorem plainBlk_by {scope : Scope} (h : plainBlkB scope = true) : PlainBlk scope := by
  unfold plainBlkB at h
  simp only [Bool.and_eq_true, Bool.or_eq_true, Bool.not_eq_true', decide_eq_true_eq, decide_eq_false_iff_not, List.all_eq_true] at h
  exact ⟨h.1.1, h.1.2, fun y hy e => (h.2 y hy).elim (fun z => absurd e z) id⟩
section
variable {X : Cx} {pins : List (Addr × Obj)} {σ : L2.St} {H : Hp} {s : Shared}
theorem PlainBlk.kindOf {scope : Scope} {C : Addr} (b : PlainBlk scope) {y : Str} {k : NameKind} (h : (compEnvC scope [] C X.env).kindOf y = some k) : k = .local ∨ k = .globalImplicit := by
  have h' : (relS scope X.env.scope).names.lookup y = some k := h
  obtain ⟨k', e, r⟩ := lookup_relS h'
  have hk := b.nm _ (PySem.mem_of_lookup e)
  rcases r with rfl | ⟨rfl, _⟩
  · exact hk
  · rcases hk with z | z <;> cases z
theorem blk_inv {scope : Scope} {C : Addr} {h3 : Heap} {tk : Nat} (I : Inv X pins σ H s) (hc : X.calm = true) (b : PlainBlk scope) (nC : s.heap.objs.size ≤ C) (kp : ∀ b o, s.heap.get? b = some o → h3.get? b = some o) (hns : h3.Ns C fun _ => none) :
    Inv (X.blk s H scope (compEnvC scope [] C X.env) []) [] (List.replicate X.N.length none) H { s with heap := h3, toks := tk } := by
  have nocell : ∀ x c, ([] : List (Str × Addr)).lookup x = some c → False := fun x c e => by simp at e
  have okB : (X.blk s H scope (compEnvC scope [] C X.env) []).Ok := by
    refine ⟨I.ok.mod, b.kind, I.ok.glob, I.ok.blt, nC, fun x y c e _ => (nocell x c e).elim, fun y hy => ?_, fun y c _ e => (nocell y c e).elim, I.ok.hd, I.ok.frames, .inl rfl, fun q hq => absurd hq (by simp), I.bs, Nat.le_trans I.ok.bsz I.sz, fun _ _ _ => by simp, fun q hq => absurd hq (by simp), I.stack, I.stkFree⟩
    exfalso
    rcases hy with hy | hy
    · rcases b.kindOf (X := X) hy with z | z <;> cases z
    · rcases b.kindOf (X := X) hy with z | z <;> cases z
  refine ⟨okB, rfl, I.bare, Un.kept kp, ⟨_, hns, fun i x v _ e _ => ?_⟩, fun x c e => (nocell x c e).elim, I.hok.fresh nC, fun x c e => (nocell x c e).elim, fun p hp => absurd (show p ∈ ([] : List (Addr × Obj)) ++ [] from hp) (by simp), I.hok.kept kp, by simp⟩
  exfalso
  have : (List.replicate X.N.length (none : Option V))[i]? = some (some v) := e
  rw [List.getElem?_replicate] at this
  split at this <;> cases this
end
/-- the reading of the rest r of the list, acc made so far; the list of lambdas stands at a throughout -/
def gAll (X : Cx) (CXl : CXT) (j : Nat) (sp : (Hp → VK → XK → Prop) → Hp → VK → XK → Prop) (σ : L2.St) (a : Addr) (xs : List V) (Q : VK) : List V → List V → Hp → Prop
  | [], acc, H => SqL X.K H a xs ∧ ∀ D, H D = none → Q (.ref D) (upd H D (.lst acc))
  | v :: r, acc, H => SqL X.K H a xs ∧ ∃ (f : Addr) (F : LF) (fr : List Str) (js : List Nat) (lsp : TSp), v = .ref f ∧ LOk X.prog X.w X.K X.mg X.base CXl j f F fr lsp ∧
    H f = some (LamO f F) ∧ H F.c = some (CodeO F.c F.qual) ∧ DvOk F H ∧ (X.Ok → Caps X F.cl fr js) ∧ sp (lsp (js.map (slotAt σ))) H (fun y H2 => gAll X CXl j sp σ a xs Q r (acc ++ [y]) H2) fun _ _ _ => False
theorem gAll_list {X : Cx} {CXl : CXT} {j : Nat} {sp : (Hp → VK → XK → Prop) → Hp → VK → XK → Prop} {σ : L2.St} {a : Addr} {xs : List V} {Q : VK} {r acc : List V} {H : Hp} (h : gAll X CXl j sp σ a xs Q r acc H) : SqL X.K H a xs := by
  cases r with
  | nil => exact h.1
  | cons v r => exact h.1
def tLcT (X : Cx) (CXl : CXT) (j : Nat) (sp : (Hp → VK → XK → Prop) → Hp → VK → XK → Prop) (te : TE) : TE := fun σ H Q => te σ H fun v H1 => ∃ (a : Addr) (xs : List V), v = .ref a ∧ xs.length ≤ 1000 ∧ gAll X CXl j sp σ a xs Q xs [] H1
section
variable {X : Cx} {CXl : CXT} {i k j : Nat} {x g : Str} {gA : Addr} {sp : (Hp → VK → XK → Prop) → Hp → VK → XK → Prop} {scope : Scope} {iter : Expr} {te : TE} {px px2 pg pp pos : Pos}
theorem pe_lcT (G : FnS X.prog X.w X.K X.mg X.base CX0 CXl k j gA sp) (hc : X.calm = true) (hfn : X.fn = fun _ => true) (hN : X.N.Nodup) (hi : X.N[i]? = some x) (b : PlainBlk scope) (hx : scope.names.lookup x = some .local) (hg : scope.names.lookup g = some .globalImplicit)
    (hm : X.mg g = some (.ref gA)) (hk : PySem.W.keepIn X.K (.ref gA) = true) (hr : Room k X.A) (he : PE X iter te) (hdb : (g == ("__debug__" : Str)) = false := by decide) (hdx : (x == ("__debug__" : Str)) = false := by decide)
    (hs : ∀ y, foldedSetIterable iter X.env y = pure y := by intro _; rfl) :
    PE X (.ListComp (.Call (.Name g pg) [.Name x px] [] pp) [⟨.Name x px2, iter, [], 0⟩] scope pos) (tLcT X CXl j sp te) := by
  refine ⟨fun pins s σ H Q I h => ?_⟩
  have hclos : closureFor scope X.env = pure [] := by
    rw [closure_ok (fun y hy e => absurd e (b.noFree y hy)), clo_none b.noFree]
  refine ListComp_goes hclos b.noCell b.kind b.uq ?_ hs
  refine thn (he.run pins s σ H _ I h) fun u s1 hh => ?_
  obtain ⟨v, H1, I1, rv, a, xs, ev, hlen, hga⟩ := hh
  subst ev
  obtain rfl : u = Value.ref a := rv
  obtain ⟨its, ri, ⟨o, n, ho, hcl, _, hd⟩, _⟩ := I1.list (gAll_list hga)
  refine wpAny_pyIter_list (items := its.toArray) ⟨o, ho, hcl, n, hd⟩ ?_
  have hit : a ≠ s1.heap.objs.size := Nat.ne_of_lt (Heap.lt_size ho)
  generalize hsi : s1.heap.objs.size = it at hit ⊢
  refine ⟨it, [it, a], [it], xs.length, _, _, rfl, goes_listV (I1.ok.hd hc) it a hit xs, Nat.le_trans hlen (by decide), ?_, ?_, ?_⟩
  · refine ⟨⟨({ cls := .type "list_iterator", data := .fields #[.ref a, .int 0 0] } : Obj), ?_, rfl, rfl⟩, its.toArray, ⟨o, Heap.get?_push_of_some _ ho, hcl, n, hd⟩, by simpa using ri⟩
    rw [← hsi]
    exact Heap.get?_push_size _ rfl
  · intro q hq
    show q < (s1.heap.push _).objs.size
    rw [Heap.size_push, hsi]
    rcases List.mem_cons.mp hq with rfl | hq
    · exact Nat.lt_succ_self _
    · rw [List.mem_singleton.mp hq, ← hsi]
      exact Nat.lt_succ_of_lt (Heap.lt_size ho)
  · intro D C s3 hB
    obtain ⟨⟨h3, tk3, rfl⟩, old, nD, nC, hDC, hnm⟩ := hB
    have nD' : it + 1 ≤ D := by
      have z : (s1.heap.push ({ cls := .type "list_iterator", data := .fields #[.ref a, .int 0 0] } : Obj)).objs.size ≤ D := nD
      rw [Heap.size_push, hsi] at z
      exact z
    have nC' : it + 1 ≤ C := by
      have z : (s1.heap.push ({ cls := .type "list_iterator", data := .fields #[.ref a, .int 0 0] } : Obj)).objs.size ≤ C := nC
      rw [Heap.size_push, hsi] at z
      exact z
    have sD : s1.heap.objs.size ≤ D := by rw [hsi]; exact Nat.le_of_succ_le nD'
    have sC : s1.heap.objs.size ≤ C := by rw [hsi]; exact Nat.le_of_succ_le nC'
    have sI : s1.heap.objs.size ≤ it := Nat.le_of_eq hsi
    have hDI : D ≠ it := Nat.ne_of_gt nD'
    have hCI : C ≠ it := Nat.ne_of_gt nC'
    have kp : ∀ q u, s1.heap.get? q = some u → h3.get? q = some u := fun q u e => old q u (Heap.get?_push_of_some _ e)
    have fsN : ∀ {q : Addr}, s1.heap.objs.size ≤ q → q ∉ frs X.stack := fun {q} hq z => by
      rcases List.mem_cons.mp (I1.stkSub q z) with z | z
      · exact absurd (Nat.lt_of_lt_of_le I1.lt (z ▸ hq)) (Nat.lt_irrefl _)
      · exact I1.nofs hq z
    generalize hXb : X.blk s1 H1 scope (compEnvC scope [] C X.env) [] = Xb
    have I3 : Inv Xb [] (List.replicate X.N.length none) H1 { s1 with heap := h3, toks := tk3 } := by
      rw [← hXb]
      exact blk_inv I1 hc b sC kp hnm
    have nfree : H1 D = none ∧ H1 it = none := ⟨I1.hok.fresh sD, I1.hok.fresh sI⟩
    have eN : Xb.N = X.N := by rw [← hXb]
    have eL : Xb.env.locals = C := by rw [← hXb]; rfl
    have eS : Xb.s_0 = s1 := by rw [← hXb]
    have eCl : Xb.env.cells = [] := by rw [← hXb]; rfl
    have eFs : Xb.fs = frs X.stack := by rw [← hXb]
    have ePn : Xb.pn = [] := by rw [← hXb]
    refine ⟨fun m ys s4 => ∃ (H4 : Hp) (acc : List V), Inv Xb [] (List.replicate X.N.length none) H4 s4 ∧ Vals acc ys ∧ acc.length = m ∧ H4 D = none ∧ H4 it = none ∧ gAll X CXl j sp σ a xs Q (xs.drop m) acc H4,
      ⟨H1, [], I3, .nil, rfl, nfree.1, nfree.2, hga⟩, ?_, ?_, ?_⟩
    · -- D and the iterator may change
      rintro m ys s4 h' tk ⟨H4, acc, I4, ra, la, fD, fI, q4⟩ hk' _
      refine ⟨H4, acc, ?_, ra, la, fD, fI, q4⟩
      have ne : ∀ {c : Addr} {u : HO}, H4 c = some u → c ∉ [D, it] := fun {c u} e z => by
        rcases List.mem_cons.mp z with z | z
        · rw [z, fD] at e; cases e
        · rw [List.mem_singleton.mp z, fI] at e; cases e
      have nC4 : C ∉ [D, it] := fun z => by
        rcases List.mem_cons.mp z with z | z
        · exact hDC z.symm
        · exact hCI (List.mem_singleton.mp z)
      refine I4.step (g' := s4.gens) (d' := s4.drawn) (t' := tk) (ch := [D, it]) (fun q hq => ⟨.inr ?_, ?_, fun y c e => ?_, fun p hp => ?_⟩) (fun q o _ _ hq e _ => hk' q o hq e) (fun q o _ _ hq e _ => ⟨o.slots, hk' q o hq e⟩) (fun _ _ _ _ z => z) (fun q o hq e => ⟨o, hk' q o hq e⟩)
        (fun _ _ e => e) (fun _ _ _ e => e) (fun q ps e => ⟨#[], by rw [e]; simp⟩) (fun mm hm4 => ?_) (fun q u e => (I4.hok q u e).stay (fun c v hc2 z => hk' c v (by
          rcases hc2 with hc2 | hc2
          · rw [hc2]
            exact ne e
          · exact ne hc2) z) (fun _ z => z) fun _ _ z => z) I4.bare
      · rw [eS]
        rcases List.mem_cons.mp hq with z | z
        · rw [z]; exact sD
        · rw [List.mem_singleton.mp z]; exact sI
      · rw [eL]
        exact fun z => nC4 (z ▸ hq)
      · rw [eCl] at e
        simp at e
      · rw [ePn] at hp
        simp at hp
      · obtain ⟨o5, es, ep, e5, r5⟩ := hm4
        rw [eL] at e5 ⊢
        exact ⟨o5, es, ep, hk' C o5 nC4 e5, r5⟩
    · -- one turn
      rintro m u ys s4 hm4 ⟨xv, hxv, rxv⟩ hSt ⟨H4, acc, I4, ra, la, fD, fI, q4⟩ hPL
      have hdrop : xs.drop m = xv :: xs.drop (m + 1) := by
        obtain ⟨hlt, e⟩ := List.getElem?_eq_some_iff.mp hxv
        rw [List.drop_eq_getElem_cons hlt, e]
      rw [hdrop] at q4
      obtain ⟨_, f, F, fr, js, lsp, ef, L, hf, hco, hdv, cp, q5⟩ := q4
      subst ef
      obtain rfl : u = Value.ref f := rxv
      obtain ⟨⟨oi, hoi, hoc, hod⟩, _⟩ := hSt
      obtain ⟨nD4, hoD⟩ := hPL
      have Ip : Inv Xb [(it, oi), (D, ({ cls := .type "list", data := .seq ys.toArray nD4 } : Obj))] (List.replicate X.N.length none) H4 s4 := by
        refine I4.pins_of fun p hp => ?_
        rcases List.mem_cons.mp hp with rfl | hp
        · refine ⟨hoi, fI, by rw [eL]; exact Ne.symm hCI, by rw [eFs]; exact fsN sI, fun v z => ?_⟩
          rw [hod] at z
          cases z
        · rw [List.mem_singleton.mp hp]
          exact ⟨hoD, fD, by rw [eL]; exact hDC, by rw [eFs]; exact fsN sD, fun v z => by cases z⟩
      have hlocB : Xb.env.scope.names.lookup x = some .local := by rw [← hXb]; exact lookup_relabel_local hx
      have hEnv : compEnvC scope [] C X.env = Xb.env := by rw [← hXb]
      have hprog : Xb.prog = X.prog := by rw [← hXb]
      have hw : Xb.w = X.w := by rw [← hXb]
      have hAA : Xb.A = X.A := by rw [← hXb]
      have hst : Xb.stack = X.stack := by rw [← hXb]
      have hmgB : Xb.mg = X.mg := by rw [← hXb]
      have hKB : Xb.K = X.K := by rw [← hXb]
      have hbB : Xb.base = X.base := by rw [← hXb]
      have hglB : Gl Xb g := by
        have key := lookup_relS_keep (sc := X.env.scope) (by intro z; cases z) hg
        rw [← hXb]
        exact key
      have eX : Xb.ex = [] := by rw [← hXb]
      have eH : Xb.H_0 = H1 := by rw [← hXb]
      have cpX := cp I.ok
      have C0 : CellsAt F.cl fr (js.map (slotAt σ)) Xb.s_0.heap Xb.H_0 := by
        rw [eS, eH]
        exact cells_of I1 cpX
      have nf : ∀ y c, F.cl.lookup y = some c → c ∉ frs X.stack := fun y c e z => by
        have e' := cpX.sub y c e
        rcases List.mem_cons.mp (I1.stkSub c z) with z | z
        · exact I1.cne y c e' z
        · have h1 := I1.ok.cab y c (by rw [hfn]) e'
          obtain ⟨_, ob, hob, _⟩ := I1.ok.funs.mem z
          exact absurd (Nat.lt_of_lt_of_le (Heap.lt_size hob) h1) (Nat.lt_irrefl _)
      rw [hEnv, ← hAA, ← hprog, ← hw]
      refine wpAny_assign_Name (store_ok Ip (by rw [eN]; exact hN) (by rw [eN]; exact hi) (.inl hlocB) (v := V.ref f) rfl (fun s5 I5 => ?_) (.inr hlocB))
      refine wpAny_tests_nil ?_
      rw [if_pos rfl]
      have hsl : (List.replicate X.N.length (none : Option V)).set i (some (.ref f)) = (List.replicate X.N.length (none : Option V)).set i (some (.ref f)) := rfl
      have hiN : i < X.N.length := (List.getElem?_eq_some_iff.mp hi).1
      have hget : ((List.replicate X.N.length (none : Option V)).set i (some (.ref f)))[i]? = some (some (.ref f)) := List.getElem?_set_self (by simpa using hiN)
      refine wpAny_Call_Name_kw (ld_glob (X := Xb) I5 hglB (by rw [hmgB]; exact hm) ?_ hdb)
      have hkB : PySem.W.keepIn Xb.K (.ref gA) = true := by rw [hKB]; exact hk
      obtain ⟨mm, hnsB, hlk⟩ := I5.loc
      obtain ⟨uu, ru, lk⟩ := hlk i x (.ref f) (by rw [eN]; exact hi) hget (.inl hlocB)
      obtain rfl : uu = Value.ref f := ru
      have hmm : mm x = some (.ref f) := by
        rcases lk with ⟨_, z⟩ | ⟨z, _⟩
        · exact z
        · have z' : Xb.env.scope.names.lookup x = some .cell ∨ Xb.env.scope.names.lookup x = some .free := z
          rw [hlocB] at z'
          rcases z' with z' | z' <;> cases z'
      refine PySem.W.callWith_K (h₀ := Xb.base) I5.ok.mod.kin hkB (Calls.spliced_cons (wpAny_Name (wpAny_loadName_local I5.ok.kind hlocB hnsB hmm (Calls.spliced_nil ⟨I5.kIn, ?_⟩)) hdx)) rfl rfl
      show wpAny _ _ (call (.ref gA) [.ref f]) _ _ _
      have C5 : CellsAt F.cl fr (js.map (slotAt σ)) s5.heap H4 := C0.later (fun y c e => by rw [eFs]; exact nf y c e) (fun y c e z => by rw [eX] at z; cases z) I5
      have TH : Thunk X.prog X.w X.K X.mg X.base CXl j X.stack s5 H4 f (lsp (js.map (slotAt σ))) := ⟨F, fr, _, lsp, L, hf, hco, hdv, C5, nf, rfl⟩
      have e5 := I5.env0
      rw [hprog, hw, hKB, hmgB, hbB, hAA, hst] at e5
      refine wpAny_call (codeAny_mono (hprog ▸ hw ▸ hAA ▸ G X.A X.stack s5 H4 f _ _ (fun _ _ _ => False) hr e5 TH q5) fun r s6 hq => ?_)
      cases r with
      | error e => exact False.elim hq
      | ok fl =>
        cases fl with
        | next => exact False.elim hq
        | brk => exact False.elim hq
        | cont => exact False.elim hq
        | ret z =>
          have hq' : CE Xb.stack Xb.prog Xb.w H4 s5 (fun y H2 => gAll X CXl j sp σ a xs Q (xs.drop (m + 1)) (acc ++ [y]) H2) z s6 := by rw [hst]; exact hq
          obtain ⟨y, H6, I6, ry, q6⟩ := I5.after hq'
          have p1 := I6.pin (it, oi) (List.mem_append_right _ List.mem_cons_self)
          have p2 := I6.pin (D, ({ cls := .type "list", data := .seq ys.toArray nD4 } : Obj)) (List.mem_append_right _ (List.mem_cons_of_mem _ List.mem_cons_self))
          obtain ⟨its6, ri6, ⟨o6, n6, ho6, hc6, _, hd6⟩, _⟩ := I6.list (by rw [hKB]; exact gAll_list q6)
          refine ⟨⟨H6, acc ++ [y], ?_, ra.append (.cons ry .nil), by rw [List.length_append, la]; rfl, p2.2.1, p1.2.1, q6⟩, ⟨⟨oi, p1.1, hoc, hod⟩, its6.toArray, ⟨o6, ho6, hc6, n6, hd6⟩, by simpa using ri6⟩, ⟨nD4, p2.1⟩⟩
          refine (I6.pins_of (pins' := []) (fun p hp => absurd hp (by simp))).weak (by simp) fun ii v e => ?_
          rw [List.getElem?_replicate] at e
          split at e <;> cases e
    · -- the end
      rintro ys s4 ⟨H4, acc, I4, ra, la, fD, fI, q4⟩ ⟨nD4, hoD⟩
      obtain ⟨mC, hnC, _⟩ := I4.loc
      rw [eL] at hnC
      refine ⟨mC, hnC, fun h5 sb => ?_⟩
      rw [List.drop_length] at q4
      have hgt : ∀ q u, q ≠ C → s4.heap.get? q = some u → h5.get? q = some u := fun q u hq e => (sb.2 q hq).trans e
      have fC : H4 C = none := by have z := I4.free; rw [eL] at z; exact z
      have ub := I4.base
      have uo := I4.os
      have hk4 := I4.hok
      rw [eFs, eS] at ub
      have eH : Xb.H_0 = H1 := by rw [← hXb]
      have eX : Xb.ex = [] := by rw [← hXb]
      rw [eH, eX] at ub
      rw [eS] at uo
      have hprog : Xb.prog = X.prog := by rw [← hXb]
      have hw : Xb.w = X.w := by rw [← hXb]
      rw [hprog, hw] at hk4
      have neS : ∀ {q : Addr} {u : Obj}, s1.heap.get? q = some u → q ≠ C ∧ q ≠ D := fun {q u} e => ⟨Nat.ne_of_lt (Nat.lt_of_lt_of_le (Heap.lt_size e) sC), Nat.ne_of_lt (Nat.lt_of_lt_of_le (Heap.lt_size e) sD)⟩
      have lenA : acc.length ≤ 1000 := by rw [la]; exact hlen
      have U : Un (frs X.stack) [] H1 (upd H4 D (.lst acc)) s1.heap h5 := {
        keep := fun q u e nq hf hx2 => hgt q u (neS e).1 (ub.keep q u e nq hf hx2)
        slot := fun q u e nq hf hx2 => by
          obtain ⟨sl, z⟩ := ub.slot q u e nq hf hx2
          exact ⟨sl, hgt q _ (neS e).1 z⟩
        free := fun q u e nq hx2 => by rw [upd_ne (neS e).2]; exact ub.free q u e nq hx2
        there := fun q u e hx2 => by
          obtain ⟨u', z⟩ := ub.there q u e hx2
          exact ⟨u', hgt q _ (neS e).1 z⟩
        tups := fun q ys2 e => by
          have z := ub.tups q ys2 e
          rw [upd_ne (ne_of_none z fD)]
          exact z
        frzs := fun q o2 u e => by
          have z := ub.frzs q o2 u e
          rw [upd_ne (ne_of_none z fD)]
          exact z
        tbls := fun q ps e => by
          obtain ⟨more, z⟩ := ub.tbls q ps e
          exact ⟨more, by rw [upd_ne (ne_of_none z fD)]; exact z⟩ }
      have hok5 : HOk X.prog X.w (upd H4 D (.lst acc)) h5 := fun q u e => by
        by_cases hq : q = D
        · subst hq
          rw [upd_same] at e
          cases e
          exact ⟨Nat.le_trans lenA (by decide), ys, nD4, ra, hgt q _ hDC hoD⟩
        · rw [upd_ne hq] at e
          refine (hk4 q u e).stay (fun c v hc2 z => hgt c v (fun zc => ?_) z) (fun c z => by rw [upd_ne (ne_of_none z fD)]; exact z) fun c zs z => by rw [upd_ne (ne_of_none z fD)]; exact z
          rcases hc2 with hc2 | hc2
          · rw [← hc2, zc, fC] at e
            cases e
          · rw [zc, fC] at hc2
            cases hc2
      have J : Inv X pins σ (upd H4 D (.lst acc)) { s4 with heap := h5 } := I1.call' (ch := []) uo U hok5 I4.bare fun q hq => absurd hq (by simp)
      exact ⟨.ref D, _, J, rfl, q4.2 D fD⟩
end
end Sea

set_option Elab.async false
set_option linter.all false
set_option maxRecDepth 100000
set_option maxHeartbeats 4000000
/-! an own exception class called with keywords alone: C(k = v, ..) -/
namespace Sea
open PySem PySem.Spec PyProof.Rows PySem.HandSPX
/-- in h the class C is one of errors over ValueError: what it inherits, by the built-in names -/
structure ErrAt (h : Heap) (C : Addr) : Prop where
  ex : ∃ nm q N bs bm sn sub ab col dd k0 k1 k2 k3 k5, h.get? C = some (excClassObj nm q C N bs bm true sn sub ab col dd k0 k1 k2 k3 k5 "ValueError.__new__") ∧ refsVE bm = true
theorem ErrAt.over {bm : List Value} (C : Addr) (h : refsVE bm = true) (X : String) : (Value.ref C :: bm).contains (.type X) = veTail.contains (.type X) :=
  (List.contains_cons).trans ((Bool.false_or _).trans (refsVE_contains X bm h))
/-- the heap in which the error stands, its arguments empty -/
abbrev born (C : Addr) (h : Heap) : Heap := (h.push (W.kdv_tup [])).push (excO C h.objs.size)
theorem born_old {C : Addr} {h : Heap} : ∀ b o, h.get? b = some o → (born C h).get? b = some o := fun _ _ z => Heap.get?_push_of_some _ (Heap.get?_push_of_some _ z)
theorem born_new {C : Addr} {h : Heap} : (born C h).get? (h.objs.size + 1) = some (excO C h.objs.size) := by
  rw [← Heap.size_push h (o := W.kdv_tup [])]
  exact Heap.get?_push_size _ rfl
section
variable {prog : Program} {w : World} {A : Around} {R : Result → Shared → Prop} {s : Shared} {C : Addr} {kw : List (Str × Value)}
/-- ValueError.__new__(C, k = v, ..) -/
theorem err_born (T : ErrAt s.heap C) (q : R (.ok (.ret (.ref (s.heap.objs.size + 1)))) { s with heap := born C s.heap }) : codeAny (model prog w) A (.call (.builtin "ValueError.__new__") ⟨[.ref C], kw⟩) R s := by
  obtain ⟨nm, qn, N, bs, bm, sn, sub, ab, col, dd, k0, k1, k2, k3, k5, at_, ve⟩ := T.ex
  have V := F.excBase_ValueError
  have yes : (Value.ref C :: bm).contains (.type "ValueError") = true := ErrAt.over C ve _
  have no1 : (Value.ref C :: bm).contains (.type "AttributeError") = false := ErrAt.over C ve _
  have no2 : (Value.ref C :: bm).contains (.type "NameError") = false := ErrAt.over C ve _
  have tail := V.ends
  have star := V.noStar
  obtain ⟨hp, g, d, t, os⟩ := s
  apply codeAny_call_builtin_code (Code.quiet_builtin _ V.quiet)
  simp only [checkBuiltinCall, V.newKind, V.newSplit, V.newRow]
  repeat (first
    | (refine wpAny_isSubtype_exc at_ ?_; rw [yes])
    | refine wpAny_loadPart_at at_ ?_
    | refine wpAny_madeBy_exc at_ ?_
    | refine wpAny_staticBase_exc at_ ?_
    | simp only [bne_self_eq_false, Bool.false_eq_true, if_false]
    | wp_step)
  apply codeAny_builtinAt V.entry
  unfold Builtin.«BaseException.__new__»
  refine PySem.wpAt_bind ?_
  refine PySem.wpAt_bind (m := stack) (PySem.wpAt_stack ?_)
  intro p below
  refine PySem.wpAt_of_wpAny ?_
  wp_walk
  refine PySem.wpAt_of_wpAny ?_
  rw [V.owner]
  repeat (first
    | (with_reducible refine wpAny_isSubtype_exc at_ ?_; simp only [yes, no1, no2])
    | with_reducible refine wpAny_loadPart_at at_ ?_
    | with_reducible refine wpAny_madeHere_exc V.canon at_ ?_
    | wp_step)
  exact (Heap.size_push hp (o := W.kdv_tup [])).symm ▸ q
/-- C(k = v, ..): the error is born, then its class's def __init__ has it -/
theorem err_call {fI : Addr} (T : ErrAt s.heap C) (ini : W.Looks (model prog w) s.heap (typeLookup (.ref C) "__init__") (some (.ref fI))) (bnd : ∀ self, W.Looks (model prog w) s.heap (bindSpecial (.ref fI) self) (.ref fI, [self]))
    (q : codeAny (model prog w) (A.under (.builtin "type.__call__" ⟨[.ref C], kw⟩)) (.call (.ref fI) ⟨[.ref (s.heap.objs.size + 1)], kw⟩) (W.InitBack (s.heap.objs.size + 1) R) { s with heap := born C s.heap }) :
    codeAny (model prog w) A (.call (.ref C) ⟨[], kw⟩) R s := by
  have ⟨nm, qn, N, bs, bm, sn, sub, ab, col, dd, k0, k1, k2, k3, k5, at_, ve⟩ := T.ex
  have isC : (Value.ref C :: bm).contains (.ref C) = true := by simp
  have isTy : s.TypeIs (.ref C) "type" := ⟨_, at_, rfl⟩
  have dunder := tc_lookup
  have bound := tc_bind (.ref C)
  have tsub := tc_sub
  have ini' := ini.keeps (born_old (C := C))
  have bnd' := (bnd (.ref (s.heap.objs.size + 1))).keeps (born_old (C := C))
  have at2 := born_old (C := C) _ _ at_
  have new2 := born_new (C := C) (h := s.heap)
  obtain ⟨hp, g, d, t, os⟩ := s
  dsimp only at at_ at2 new2 ini' bnd' q
  have quiet := Code.quiet_builtin (id := "type.__call__") ⟨[.ref C], kw⟩ (by decide +kernel)
  apply codeAny_of_tree
  show wpAny _ _ (callAny (.ref C) _) _ _ _
  repeat (any_goals (first | assumption | with_reducible refine wpAny_loadPart_at at_ ?_ | wp_step))
  refine ⟨rfl, codeAny_call_builtin_at quiet entry_typeCall ?_⟩
  simp only [checkBuiltinCall, tc_kind, tc_split]
  unfold Builtin.«type.__call__»
  repeat (any_goals (first
    | assumption
    | with_reducible refine wpAny_loadPart_at at_ ?_
    | with_reducible refine wpAny_onRaise ?_
    | with_reducible refine wpAny_map ?_
    | with_reducible refine wpAny_madeBy_exc at_ ?_
    | wp_step))
  refine err_born (s := ⟨hp, g, d, t, os⟩) T ?_
  show wpAny _ _ _ _ _ _
  have i1 : (born C hp).get? (hp.objs.size + 1) = some (excO C hp.objs.size) := new2
  unfold isInstance
  repeat (first
    | with_reducible refine wpAny_loadPart_at new2 ?_
    | (with_reducible refine wpAny_isSubtype_exc at2 ?_; rw [isC])
    | wp_step)
  show wpAny _ _ (typeLookup (.ref C) "__init__") _ _ ⟨born C hp, g, d, t, os⟩
  refine ini'.at ?_
  refine wpAny_holding (wpAny_bind (bnd'.at (wpAny_bind (wpAny_call ?_))))
  refine codeAny_mono q fun r s2 z => ?_
  match r, z with
  | .error _, z => exact z
  | .ok (.ret _), ⟨e, z⟩ =>
    subst e
    exact wpAny_pure (wpAny_pure z)
  | .ok .next, z => exact z.elim
  | .ok .brk, z => exact z.elim
  | .ok .cont, z => exact z.elim
end
end Sea

set_option Elab.async false
set_option linter.all false
set_option maxRecDepth 100000
set_option maxHeartbeats 4000000
/-! raise C(k = v, ..), C an own exception class over another own one whose __init__ says P.__init__(self, text) and stores its keywords -/
namespace Sea
open PySem PySem.Spec PyProof.Rows L2 LamX NdefX ClX
/-- C(k = v, ..) -/
def tMkK (C : Addr) (n : Nat) (sp : Sp) (gV : List V → List V → List V) (tk : TA) : L2.St → Hp → XK → Prop := fun σ H Q => tk σ H fun zs H1 => zs.length = n ∧ ∀ a, H1 a = none → sp (gV [.ref a] zs) (upd H1 a (exo a C none))
  (fun v H2 => v = .non ∧ ∃ (d : Addr) (fs : List (Str × V)), H2 a = some (exo a C (some d)) ∧ H2 d = some (exd d fs) ∧ H1 d = none ∧ Q (.ref C) (some d) (upd (del H2 a) d (.xd fs))) (fun _ _ _ => False)
section
variable {X : Cx} {e : Expr} {es : List Expr} {ta : TA} {p p1 p2 pos : Pos} {kws : List Keyword} {tk : TA} {ks : List Str} {g : List Value → List Value → List Value} {gV : List V → List V → List V}
theorem pe_pinit {x : Str} {B : Addr} {mc : Value} {pl : Sem Bool} (hg : Gl X x) (hm : X.mg x = some (.ref B)) (rd : PySem.W.readsIn X.K B mc = true) (ga : PySem.W.specialIn X.K (.ref B) "__getattribute__" = some (some (.builtin "type.__getattribute__")))
    (hat : PySem.W.findCls X.K (.ref B) mc "__init__" = some (.val (.builtin "ValueError.__init__"))) (ha : PA X (e :: es) ta) (hdb : (x == ("__debug__" : Str)) = false := by decide)
    (hc : eval (.Call (.Attribute (.Name x p1) "__init__" p2) (e :: es) [] pos) X.env = (do
      let ov ← eval (.Name x p1) X.env
      standAt p2.atName
      let (f, first) ← holding [ov] (getMethod ov "__init__" pl)
      callWith pos f first (backTo pos (starEach (e :: es) X.env)) (backToKw pos (keywordEach [] X.env))) := by rfl)
    (he : starEach (e :: es) X.env = (false, eval e X.env) :: starEach es X.env := by rfl) (hpl : (backTo pos (starEach es X.env)).any (·.1) = false := by rfl) :
    PE X (.Call (.Attribute (.Name x p1) "__init__" p2) (e :: es) [] pos) (tVeI X.K ta) := by
  constructor
  intro pins s σ H Q I h
  apply PySem.W.methodCall_KW (ld_glob I hg hm (PySem.W.method_cls I.kIn ga (PySem.W.cls_value I.kIn rd hat (by decide +kernel) ?_)) hdb) hc
  have args := ha.run pos pins _ σ H _ (I.tok (s.toks + 1)) h
  show wpAny _ _ (callWith pos (Value.builtin "ValueError.__init__") [] (backTo pos (starEach (e :: es) X.env)) []) _ _ _
  refine PyProof.Rows.callWith_method1 (thn args ?_) he hpl
  rintro us s1 ⟨_, H1, J, rel, a, C, ws, rfl, few, T, ea, q⟩
  match us, rel with
  | u :: ur, .cons ra rr =>
    rw [show u = .ref a from ra]
    have short : ur.length ≤ sizeLine := by
      rw [sizeLine_eq, ← Paired.length rr]
      omega
    exact oinit_ok T J ea short fun s' L => ⟨.non, H1, L, rfl, q⟩
theorem pmk_kw {CX : CXT} {x : Str} {C fI : Addr} {k : Nat} {fd : FuncData} {ps : List Str} {sp : Sp} (T : OexC X.K C) (iC : PySem.W.findIn X.K (.ref C) "__init__" = some (some (.ref fI))) (tI : PySem.W.typeIn X.K (.ref fI) = some (.type "function"))
    (F1 : FnOk X.prog X.w X.K X.mg X.base CX k fI fd ps sp) (hr : Room (k + 1) X.A) (hb : KBn X.K fd ps 1 ks g gV) (hx : Passes CX X (fun _ _ _ => False)) (hg : Gl X x) (hm : X.mg x = some (.ref C)) (hkw : PK X kws tk)
    (hall : (backToKw pos (keywordEach kws X.env)).all (·.1.isSome) = true := by rfl) (hks : (backToKw pos (keywordEach kws X.env)).filterMap (·.1) = ks := by rfl) (hdb : (x == ("__debug__" : Str)) = false := by decide)
    (hpl : ((backTo pos (starEach [] X.env)).any (·.1) || (backToKw pos (keywordEach kws X.env)).any (·.1.isNone)) = false := by rfl) :
    PMk X (.Call (.Name x p) [] kws pos) (tMkK C ks.length sp gV tk) := by
  intro pins s σ H Q I h
  apply wpAny_Call_Name_kw
  apply ld_glob I hg hm ?_ hdb
  apply PySem.W.callWith_KW0 (h₀ := X.base) I.ok.mod.kin T.kC hall ?_ hpl
  refine thn (hkw.run pos pins s σ H _ I h) ?_
  rintro ws ⟨hp, g1, dr, tk', os⟩ ⟨zs, H1, J, rel, many, q⟩
  have err : ErrAt hp C := by
    obtain ⟨nm, qn, N, bs, bm, sn, sub, ab, col, dd, k0, k1, k2, k3, k5, at_, ve⟩ := T.cls
    exact ⟨nm, qn, N, bs, bm, sn, sub, ab, col, dd, k0, k1, k2, k3, k5, J.kIn _ _ at_, ve⟩
  have above : hp.objs.size ≤ hp.objs.size + 1 := Nat.le_succ _
  -- the invariant once the error stands in the heap
  have L : Inv X pins σ (upd H1 (hp.objs.size + 1) (exo (hp.objs.size + 1) C none)) ⟨born C hp, g1, dr, tk', os⟩ := J.laid (t' := tk') born_old above (exo_ok born_new)
  have ini := F1.run _ X.stack _ _ ⟨[.ref (hp.objs.size + 1)], ks.zip ws⟩ (g [.ref (hp.objs.size + 1)] ws) _ _ (fun _ _ _ => False) (hr.make C [] (ks.zip ws)) (L.env0.make C [] (ks.zip ws))
    (hb.to _ [.ref (hp.objs.size + 1)] ws L.kIn rfl (rel.length.symm.trans many)) (hb.rel (us := [.ref (hp.objs.size + 1)]) (vs := [.ref (hp.objs.size + 1)]) (.cons rfl .nil) rel) (q (hp.objs.size + 1) (J.hok.fresh above))
  rw [hks]
  refine ⟨J.kIn, wpAny_call (err_call err (PySem.W.looks_findIn J.kIn iC) (fun self => PySem.W.bind_fn J.kIn self tI) (codeAny_mono ini ?_))⟩
  intro r s' back
  match r, back with
  | .error er, back => exact hx pins σ _ _ er s' L back
  | .ok .next, back => exact back.elim
  | .ok .brk, back => exact back.elim
  | .ok .cont, back => exact back.elim
  | .ok (.ret _), ⟨_, H2, os2, bare, un, hok, rv, e, d, fs, ea, ed, hd1, q2⟩ =>
    subst e
    obtain ⟨h2, g2, d2, t2, os3⟩ := s'
    exact ⟨rv, mk_end (raises_own T.exC T.tyC) J above born_old un hok os2 bare ea ed hd1 q2⟩
end

/-! ### the __init__ of such a class: one keyword, two keywords -/
/-- the class facts that the body asks: its parent's __init__ is ValueError's -/
structure PIn (K : PySem.W.Frag) (mg : Str → Option Value) (x : Str) (B : Addr) (mc : Value) : Prop where
  gB : mg x = some (.ref B)
  rd : PySem.W.readsIn K B mc = true
  ga : PySem.W.specialIn K (.ref B) "__getattribute__" = some (some (.builtin "type.__getattribute__"))
  at_ : PySem.W.findCls K (.ref B) mc "__init__" = some (.val (.builtin "ValueError.__init__"))
def spX1 (K : PySem.W.Frag) (f : Str) : Sp := fun vs H Q _ => ∃ (a C : Addr) (y : V), vs = [.ref a, y] ∧ OexC K C ∧ PySem.W.findIn K (.ref C) f = some none ∧ H a = some (exo a C none) ∧
  ∀ dx, H dx = none → dx ≠ a → Q .non (upd (upd H dx (exd dx [(f, y)])) a (exo a C (some dx)))
def spX2 (K : PySem.W.Frag) (f g : Str) : Sp := fun vs H Q _ => ∃ (a C : Addr) (y z : V), vs = [.ref a, y, z] ∧ OexC K C ∧ PySem.W.findIn K (.ref C) f = some none ∧ PySem.W.findIn K (.ref C) g = some none ∧ H a = some (exo a C none) ∧
  ∀ dx, H dx = none → dx ≠ a → Q .non (upd (upd (upd H dx (exd dx [(f, y)])) a (exo a C (some dx))) dx (exd dx [(g, z), (f, y)]))
theorem gone_eq {H : Hp} {a d : Addr} {o : HO} {u w v : HO} (ha : H a = none) (hd : d ≠ a) : upd (del (upd (upd H d u) a o) a) d v = upd H d v := by
  funext b
  by_cases hb : b = d
  · subst hb
    rw [upd_same, upd_same]
  · rw [upd_ne hb, upd_ne hb]
    by_cases hba : b = a
    · subst hba
      rw [del_same, ha]
    · rw [del_ne hba, upd_ne hba, upd_ne hb]
theorem gone_eq2 {H : Hp} {a d : Addr} {o : HO} {u w v : HO} (ha : H a = none) (hd : d ≠ a) : upd (del (upd (upd (upd H d u) a o) d w) a) d v = upd H d v := by
  funext b
  by_cases hb : b = d
  · subst hb
    rw [upd_same, upd_same]
  · rw [upd_ne hb, upd_ne hb]
    by_cases hba : b = a
    · subst hba
      rw [del_same, ha]
    · rw [del_ne hba, upd_ne hb, upd_ne hba, upd_ne hb]
end Sea

set_option Elab.async false
set_option linter.all false
set_option maxRecDepth 100000
set_option maxHeartbeats 4000000
/-! enumerate over a tuple -/
namespace Sea
open PySem PySem.Spec PyProof.Rows L2
/-- enumerate(t), t the tuple at a: a new iterator over it, and a new cell that counts -/
structure EnumMade (a : Addr) (h h2 : Heap) : Prop where
  cell : IsEnum h2 (h.objs.size + 1) h.objs.size 0 .none
  iter : h2.IsTupleIter h.objs.size a 0
  old : ∀ b o, h.get? b = some o → h2.get? b = some o
theorem enumMade (a : Addr) (h : Heap) :
    EnumMade a h ((h.push { cls := .type "tuple_iterator", data := .fields #[.ref a, .int 0 0] }).push { cls := .type "enumerate", data := .fields #[.none, .bool false, .ref h.objs.size, rawInt 0, .none, .none] }) where
  cell := by
    show Heap.get? _ _ = _
    rw [← Heap.size_push h (o := { cls := .type "tuple_iterator", data := .fields #[.ref a, .int 0 0] })]
    exact Heap.get?_push_size _ rfl
  iter := ⟨_, Heap.get?_push_of_some _ (Heap.get?_push_size h rfl), rfl, rfl⟩
  old := fun _ _ z => Heap.get?_push_of_some _ (Heap.get?_push_of_some _ z)
theorem Sem_any {α : Type} {M : Model} {A : Around} {E : Value → Shared → Prop} {s : Shared} {v : α} {Q : α → Shared → Prop} (q : ∀ x, Q x s) : wpAny M A (pure v) Q E s := wpAny_pure (q v)
theorem new_enumT (a : Addr) (its : Array Value) :
    Meets (Builtin.«enumerate.__new__» ⟨[.type "enumerate", .ref a], []⟩) (fun _ R s => s.heap.IsTuple a its ∧ ∀ h2, EnumMade a s.heap h2 → R (.ok (.ret (.ref (s.heap.objs.size + 1)))) { s with heap := h2 }) := by
  apply Meets.of_wp
  intro prog w A R s z
  have ht := z.1
  have made := z.2
  have ready := sub_enumerate
  have got := made _ (enumMade a s.heap)
  rw [← Heap.size_push s.heap (o := { cls := .type "tuple_iterator", data := .fields #[.ref a, .int 0 0] })] at got
  have it : ∀ {B : Around} {Er T : Value → Shared → Prop}, T (.ref s.heap.objs.size) { s with heap := s.heap.push _ } → wpAny (model prog w) B (pyIter (.ref a)) T Er s := fun r => (begins_tuple a its).iter prog w _ _ s _ ht r
  wp_walk using it
  refine wpAny_stack_any fun stk => Sem_any fun short => ?_
  cases short <;> wp_walk using it <;> exact ⟨_, rfl, got⟩
theorem call_enumT {prog : Program} {w : World} {A : Around} {E Q : Value → Shared → Prop} {s : Shared} {a : Addr} {its : Array Value} (ht : s.heap.IsTuple a its) (h : ∀ h2, EnumMade a s.heap h2 → Q (.ref (s.heap.objs.size + 1)) { s with heap := h2 }) :
    wpAny (model prog w) A (call (.type "enumerate") [.ref a]) Q E s :=
  callType_new F.called_enumerate (by decide) (F.typeCall_enumerate_1 _) (F.newCall_enumerate_1 _) (fun obj => F.args_object_init_2 obj _) F.entry_enumerate_new (new_enumT a its)
    ⟨ht, fun h2 m => ⟨⟨_, m.cell, rfl⟩, h h2 m⟩⟩
/-- the turns over a tuple that is known to hold xs: while there are items, a new pair of the place and the item -/
def IteT (K : PySem.W.Frag) (a : Addr) (xs : List V) : It where
  go i H := i < xs.length ∧ SqT K H a xs
  yld i H v H' := ∃ x pair, xs[i]? = some x ∧ H pair = none ∧ v = .ref pair ∧ H' = upd H pair (.tup [.int (i : Nat), x])
  stop i H := i = xs.length ∧ SqT K H a xs
/-- the walk over enumerate, as the library's WalksT.enumFrom tells it, read as turns of IteT -/
theorem turn_enumT {P : Program} {w : World} {K : PySem.W.Frag} {elts : List Expr} {kk : Nat} {tpos : Pos} (a e it : Addr) (xs : List V) (hei : e ≠ it) (hai : a ≠ it) (hae : a ≠ e) :
    Turn P w K (.Tuple elts kk tpos) (IteT K a xs) [e, it] e (fun i h => (∃ old, IsEnum h e it (0 + (i : Int)) old) ∧ h.IsTupleIter it a i) := by
  have walk := fun (A : Around) (hh : A.handled = none) (its : Array Value) =>
    WalksT.enumFrom (prog := P) (w := w) (A := A) 0 (Draws.tuple (A := A.in1) hh it a hai its) e hei (by simp [hei, Ne.symm hae]) (by simp)
  refine { mem := List.mem_cons_self .., obj := ?_, keep := ?_, item := ?_, done := ?_, self := ?_ }
  · rintro i h ⟨⟨old, he⟩, o, ho, _, hd⟩ b hb
    simp only [List.mem_cons, List.not_mem_nil, or_false] at hb
    cases hb with
    | inl hb => subst hb; exact ⟨_, he, by intro v; simp⟩
    | inr hb => subst hb; exact ⟨o, ho, by intro v; rw [hd]; simp⟩
  · rintro i h h2 ⟨⟨old, he⟩, hi⟩ k
    exact ⟨⟨old, k e (by simp) _ he⟩, hi.at fun o q => k it (by simp) o q⟩
  · rintro X rfl rfl rfl hc i pins s σ H Ex I hf ⟨en, hi⟩ ⟨lt, hq⟩
    obtain ⟨its, rv, pt, _⟩ := I.tuple hq
    have hx : xs[i]? = some xs[i] := List.getElem?_eq_getElem lt
    generalize xs[i] = x at hx
    obtain ⟨y, hy, ry⟩ := rv.get hx
    have W := walk X.A (I.ok.hd hc) its.toArray
    refine W.item i s _ _ (by simpa using (List.getElem?_eq_some_iff.mp hy).1) ⟨en, hi, pt⟩ ?_
    rintro T vals h2 tk ⟨t, z, hz, rfl⟩ hle hT hmid hk
    obtain rfl : z = y := Option.some.inj (Eq.trans (by simpa using hz.symm) hy)
    refine ⟨_, rfl, W.go elts kk tpos i T _ _ _ hmid fun h3 st3 hk3 => ?_⟩
    have keeps : ∀ b o, b ∉ [e, it] → s.heap.get? b = some o → h3.get? b = some o := fun b o hb q => hk3 b o hb (hk b o hb q)
    have pair : ObjOk X.prog X.w (upd H T (.tup [.int (i : Nat), x])) h3 T (.tup [.int (i : Nat), x]) :=
      ⟨by show 2 ≤ sizeLine; decide, [.int (0 + (i : Int)) t, z], .cons ⟨t, by rw [Int.zero_add]⟩ (.cons ry .nil), hT.at fun o q => hk3 T o (W.apart i T h2 hmid) q⟩
    have nT : H T = none := I.hok.fresh hle
    refine ⟨.ref T, _, I.turnedNew (t' := tk) keeps hf hle pair, rfl, ⟨x, T, hx, nT, rfl, rfl⟩, ⟨st3.1, st3.2.1⟩, fun b hb => ?_⟩
    rw [upd_ne (show b ≠ T from fun z => W.apart i T h2 hmid (z ▸ hb))]
    exact (hf b hb).1
  · rintro X rfl rfl rfl hc i pins s σ H Ex I hf ⟨en, hi⟩ ⟨rfl, hq⟩
    obtain ⟨its, rv, pt, _⟩ := I.tuple hq
    have W := walk X.A (I.ok.hd hc) its.toArray
    have hn : its.toArray.size = xs.length := by simpa using rv.length.symm
    exact W.done s _ _ (by rw [hn]; exact ⟨en, hi, pt⟩) fun h2 tk hk => ⟨rfl, I.turnedL (t' := tk) hk hf⟩
  · exact fun A i s Q Ex st h => wpAny_pyIter_enum st.1.choose_spec h
def iEnumT (K : PySem.W.Frag) (ta : TA) : TI := fun σ H R => ta σ H fun vs H1 => ∃ a xs, vs = [.ref a] ∧ SqT K H1 a xs ∧ R (IteT K a xs) H1
theorem pi_enumT {X : Cx} {e : Expr} {ta : TA} {p pos tpos : Pos} {elts : List Expr} {kk : Nat} (hg : Gl X "enumerate") (hm : X.mg "enumerate" = none) (ha : PA X [e] ta) (hs : starEach [e] X.env = [(false, eval e X.env)] := by rfl) :
    PI X (.Tuple elts kk tpos) (.Call (.Name "enumerate" p) [e] [] pos) (iEnumT X.K ta) where
  run pins s σ H R I h := by
    refine Call_ (ld_blt I hg hm boot_enumerate (PyProof.Rows.callWith_type1 (thn (ha.run pos pins s σ H _ I h) ?_) hs rfl))
    rintro us s1 ⟨_, H1, I1, r1, a, xs, rfl, hq, q⟩
    obtain ⟨u, rfl, ru⟩ := r1.one
    obtain rfl : u = .ref a := ru
    obtain ⟨its, rv, pt, _⟩ := I1.tuple hq
    have below : a < s1.heap.objs.size := by
      obtain ⟨_, z, _⟩ := (show s1.heap.IsTuple a its.toArray from pt)
      exact Heap.lt_size z
    refine call_enumT pt fun h2 m => wpAny_pyIter_enum m.cell ⟨_, _, _, _, H1, rfl, I1.kept (t' := s1.toks) m.old, turn_enumT a (s1.heap.objs.size + 1) s1.heap.objs.size xs (Nat.succ_ne_self _) (Nat.ne_of_lt below) (Nat.ne_of_lt (Nat.lt_succ_of_lt below)), ⟨⟨_, m.cell⟩, m.iter⟩, ?_, q⟩
    have fresh : ∀ b, s1.heap.objs.size ≤ b → FpOk X pins H1 b := fun b hb => I1.fpOk hb (I1.hok.fresh hb)
    simpa using And.intro (fresh (s1.heap.objs.size + 1) (Nat.le_succ _)) (fresh s1.heap.objs.size (Nat.le_refl _))
end Sea

set_option Elab.async false
set_option linter.all false
set_option maxRecDepth 100000
set_option maxHeartbeats 4000000
/-! isinstance of a caught error that has a dict; list.count of flat items -/
namespace Sea
open PySem PySem.Spec PyProof.Rows L2
/-- the caught error, seen in the heap: an instance of its class, its dict (if it has one) beside it -/
theorem held_inst {X : Cx} {pins : List (Addr × Obj)} {σ : L2.St} {H : Hp} {s : Shared} {a D : Addr} {d : Option Addr} {oe : Obj} {pn : List (Addr × Obj)} (I : Inv (X.suite a ((a, oe) :: pn)) pins σ H s) (hz : Zc (.ref D) d oe) (hf : ∃ vs, oe.data = .fields vs)
    (hd : ∀ dx, d = some dx → ∃ fs, H dx = some (.xd fs)) : ∃ od, PySem.W.InstAt s.heap a oe D od := by
  have there := (I.pin (a, oe) (by simp)).1
  have plain : PySem.W.notCls oe := by
    obtain ⟨vs, hv⟩ := hf
    rw [PySem.W.notCls, hv]
  match d, hz, hd with
  | none, hz, _ => exact ⟨none, there, hz.1, plain, by rw [hz.2]; trivial⟩
  | some dx, hz, hd =>
    obtain ⟨fs, hx⟩ := hd dx rfl
    have ⟨mA, ns, _⟩ : ObjOk X.prog X.w H s.heap dx (.xd fs) := I.hok dx _ hx
    have ⟨od, ho, _⟩ := lookIn_ns ns
    exact ⟨some od, there, hz.1, plain, by rw [hz.2]; exact ho⟩
/-- isinstance(e, c), e the exception that the suite holds, with its dict (tracked) or without; D its class -/
def rIsX (K : PySem.W.Frag) (a : Addr) (cls : Value) (d : Option Addr) : List V → Hp → VK → Prop := fun xs H Q => ∃ (D : Addr) (c : V) (cv : Value) (b : Bool), cls = .ref D ∧ ExcC K D ∧ xs = [.ref a, c] ∧ (∀ u, RelV c u → u = cv) ∧ PySem.W.kitOne K (.ref D) cv = some b ∧ (∀ dx, d = some dx → ∃ fs, H dx = some (.xd fs)) ∧ Q (.bl b) H
theorem call_isX {X : Cx} {a : Addr} {cls : Value} {d : Option Addr} {oe : Obj} {pn : List (Addr × Obj)} (K : PySem.W.Frag) (hK : X.K = K) (hz : Zc cls d oe) (hf : ∃ vs, oe.data = .fields vs) : CallR (X.suite a ((a, oe) :: pn)) (.builtin "isinstance") (rIsX K a cls d) := by
  subst hK
  rintro pins s σ H _ us Q I r ⟨D, c, cv, b, rfl, C, rfl, told, one, hd, q⟩
  obtain ⟨x, t, rfl, rx, rt⟩ : ∃ x t, us = [x, t] ∧ RelV (.ref a) x ∧ RelV c t := match us, r with
    | _, .cons rx (.cons rt .nil) => ⟨_, _, rfl, rx, rt⟩
  obtain ⟨od, inst⟩ := held_inst I hz hf hd
  have dict : (PySem.W.clsIn X.K D).isSome := by
    obtain ⟨cd, z, _⟩ := PySem.W.any_some C.hd
    rw [z]
    rfl
  have kit := PySem.W.kitx_exc (x := a) (ox := oe) (od := od) dict C.hg C.hk C.hs C.ha C.hn C.ht C.hm
  rw [show x = .ref a from rx, told t rt]
  exact PySem.W.kia_one kit I.kIn inst one nofun fun tk => ⟨.bl b, H, I.kept (t' := tk) fun _ _ z => z, rfl, q⟩
/-- xs.count(y), flat items -/
def rCntF (K : PySem.W.Frag) : V → List V → Hp → VK → Prop := fun x xs H Q => ∃ (a : Addr) (ys : List V) (y : V), x = V.ref a ∧ xs = [y] ∧ SqL K H a ys ∧ flatV y = true ∧ ys.all flatV = true ∧ Q (.int (ys.countP (fun z => eqV z y) : Nat)) H
theorem cnt_flat {y : V} : ∀ {ys : List V} {its : List Value}, Vals ys its → ys.all flatV = true → its.countP (eqU y) = ys.countP (fun z => eqV z y)
  | _, _, .nil, _ => rfl
  | _, _, .cons r rr, f => by
    rename_i v u vs us
    rw [List.all_cons, Bool.and_eq_true] at f
    rw [List.countP_cons, List.countP_cons, cnt_flat rr f.2, eqU_of r f.1]
theorem mt_countF {X : Cx} : MtR X "list.count" (rCntF X.K) := by
  rintro pins s σ H _ _ v us Q I rx rxs ⟨a, ys, y, rfl, rfl, hs, fy, fys, q⟩
  obtain rfl : v = .ref a := rx
  obtain ⟨u, rfl, ru⟩ := rxs.one
  obtain ⟨its, rv, ⟨o, n, ho, hc, _, hd⟩, _⟩ := I.list hs
  obtain ⟨cls, dd, data, sl⟩ := o
  obtain rfl : cls = _ := hc
  obtain rfl : data = _ := hd
  have many := cnt_flat (y := y) rv fys
  have law := SeqAt.list_countAt a its.toArray n dd sl u (eqU y)
  refine call_meets PySem.F.slot_list_count ⟨_, ho, rfl⟩ PySem.F.entry_list_count (PySem.F.args_list_count_2 _ _) law ⟨ho, fun z hz => mem_eqAt ru fy rv fys z (by simpa using hz), ?_⟩
  rw [List.toList_toArray, many]
  exact ⟨.int (ys.countP (fun z => eqV z y) : Nat), H, I.tok _, ⟨s.toks, rfl⟩, q⟩
end Sea

set_option Elab.async false
set_option linter.all false
set_option maxRecDepth 100000
set_option maxHeartbeats 4000000
namespace Sea
open PySem PySem.Spec PyProof.Rows L2 LamX NdefX Evl
/-! ### what a suite may ask of the caught error, whatever its class -/
/-- e.f, e the caught error: its class is told by the reading; the library's rule for that class does the rest -/
def tXf (K : PySem.W.Frag) (f : Str) (a : Addr) (cls : Value) (d : Option Addr) (te : TE) : TE := fun σ H Q => ∃ D : Addr, cls = .ref D ∧ XfC K D ∧ PySem.W.findIn K (.ref D) f = some none ∧ L2.tXf a cls d D f te σ H Q
theorem pe_xf {X : Cx} {f : Str} {a : Addr} {oe : Obj} {cls : Value} {d : Option Addr} {pn : List (Addr × Obj)} {e : Expr} {te : TE} {pos : Pos} (K : PySem.W.Frag) (hK : X.K = K) (hz : Zc cls d oe) (hf : ∃ vs, oe.data = .fields vs) (he : PE (X.suite a ((a, oe) :: pn)) e te)
    (hb : attributeBase e f X.env (eval e X.env) = eval e X.env := by rfl) : PE (X.suite a ((a, oe) :: pn)) (.Attribute e f pos) (tXf K f a cls d te) :=
  ⟨fun pins s σ H Q I ⟨_, _, T, no, h⟩ => (L2.pe_xf (hK ▸ T) (hK ▸ no) hz hf he hb).run pins s σ H Q I h⟩
/-! ### the handed thunk called, its promise weakened -/
theorem cx_le {P : Program} {w : World} {outer : List Env} {H : Hp} {s s' : Shared} {E E' : XK} {e : Value} (h : L2.CX P w outer H s E e s') (m : ∀ c d H', E c d H' → E' c d H') : L2.CX P w outer H s E' e s' := by
  obtain ⟨a, B, H', cls, d, h1, h2, h3, h4, h5, h6, h7, h8⟩ := h
  exact ⟨a, B, H', cls, d, h1, h2, h3, h4, h5, h6, h7, m _ _ _ h8⟩
section
variable {X : Cx} {i j : Nat} {x : Str} {p pos : Pos} {E : L2.St → XK}
def tActM (X : Cx) (j i : Nat) (E : L2.St → XK) : TE := fun σ H Q => ∃ (f : Addr) (tl : Hp → VK → XK → Prop) (Q' : VK) (E' : XK), σ[i]? = some (some (.ref f)) ∧ H = X.H_0 ∧ Thunk X.prog X.w X.K X.mg X.base (L2.CX X.prog X.w) j X.outer X.s_0 X.H_0 f tl ∧ tl H Q' E' ∧ (∀ v H1, Q' v H1 → Q v H1) ∧ (∀ c d H1, E' c d H1 → E σ c d H1)
theorem pe_actM (hr : Room j X.A) (hex : X.ex = []) (hx : ∀ σ, PassesAt (L2.CX X.prog X.w) X σ (E σ)) (hN : X.N[i]? = some x) (hv : Vis X.env.scope x)
    (hd : (x == ("__debug__" : Str)) = false := by decide) (hcd : (x == ("__classdict__" : Str)) = false := by decide) : PE X (.Call (.Name x p) [] [] pos) (tActM X j i E) := by
  refine ⟨fun pins s σ H Q I h => ?_⟩
  obtain ⟨f, tl, Q', E', hs, eH, hT, ht, mQ, mE⟩ := h
  have hx' : ∀ τ, PassesAt (L2.CX X.prog X.w) X τ (if τ = σ then E' else E τ) := fun τ => by
    by_cases hq : τ = σ
    · rw [if_pos hq]
      subst hq
      exact fun pins H s e s' J c => hx _ pins H s e s' J (cx_le c mE)
    · rw [if_neg hq]
      exact hx τ
  refine thn ((pe_actT (CXl := L2.CX X.prog X.w) (i := i) (p := p) (pos := pos) (E := fun τ => if τ = σ then E' else E τ) hr hex hx' hN hv hd hcd).run pins s σ H Q' I ⟨f, tl, hs, eH, hT, ?_⟩) fun u s1 hh => ?_
  · show tl H Q' (if σ = σ then E' else E σ)
    rw [if_pos rfl]
    exact ht
  · obtain ⟨v, H1, I1, r1, q1⟩ := hh
    exact ⟨v, H1, I1, r1, mQ _ _ q1⟩
end
theorem ev_isX {K : PySem.W.Frag} {a : Addr} {cls : Value} {d : Option Addr} {D : Addr} {c : V} {cv : Value} {b : Bool} {i : Nat} {σ : L2.St} {H : Hp} (h1 : cls = .ref D) (h2 : ExcC K D) (h3 : ∀ u, RelV c u → u = cv) (h4 : PySem.W.kitOne K (.ref D) cv = some b) (h5 : ∀ dx, d = some dx → ∃ fs, H dx = some (.xd fs)) (hs : σ[i]? = some (some (.ref a))) :
    Ev (tCB (rIsX K a cls d) (tCons (tVar i) (tCons (tC c) tNil))) σ H (.bl b) := fun H1 e Q q => ⟨_, hs, D, c, cv, b, h1, h2, rfl, h3, h4, fun dx hd => let ⟨fs, hx⟩ := h5 dx hd; ⟨fs, e _ _ hx⟩, q H1 (Ex.refl _)⟩
end Sea

set_option Elab.async false
set_option linter.all false
set_option maxRecDepth 100000
set_option maxHeartbeats 4000000
/-! rules with the written part K named: within a suite or a block the reading must not speak of the context -/
namespace Sea
open PySem PySem.Spec PyProof.Rows L2
section
variable {X : Cx} {T : String} {r : V → List V → Hp → VK → Prop} {e a b : Expr} {to ta tb : TE} {t : TA} {pos : Pos}
theorem pe_bmK (K : PySem.W.Frag) (hK : X.K = K) (h : PE X e (tBM X.K T r to t)) : PE X e (tBM K T r to t) := hK ▸ h
theorem pe_ixlK (K : PySem.W.Frag) (hK : X.K = K) (ha : PE X a ta) (hb : PE X b tb) (hs : PlainIx b := by exact fun _ _ => rfl) : PE X (.Subscript a b pos) (tOp (rIxL K) ta tb) := hK ▸ pe_ix ix_list ha hb hs
theorem mt_countK (K : PySem.W.Frag) (hK : X.K = K) : MtR X "list.count" (rCntF K) := hK ▸ mt_countF
theorem mt_indexK (K : PySem.W.Frag) (hK : X.K = K) : MtR X "list.index" (rIndex K) := hK ▸ mt_index
theorem op_inK (K : PySem.W.Frag) (hK : X.K = K) : OpR X (compareOp .In) (rIn K false) := hK ▸ op_in_seq
end
end Sea

set_option Elab.async false
set_option linter.all false
set_option maxRecDepth 100000
set_option maxHeartbeats 4000000
/-! what every law of this package leans on, no program in sight -/
namespace Sea
open PySem PySem.Spec PyProof.Rows L2 LamX NdefX ClX Evl StX
section
variable {X : Cx} {a b : Expr} {ta tb : TE} {pos : Pos}
theorem pe_ixl (ha : PE X a ta) (hb : PE X b tb) (hs : PlainIx b := by exact fun _ _ => rfl) : PE X (.Subscript a b pos) (tOp (rIxL X.K) ta tb) := pe_ix ix_list ha hb hs
theorem pe_ixt (ha : PE X a ta) (hb : PE X b tb) (hs : PlainIx b := by exact fun _ _ => rfl) : PE X (.Subscript a b pos) (tOp (rIxT X.K) ta tb) := pe_ix ix_tup ha hb hs
end
/-! ### draws -/
structure Dr (H : Hp) (h c : Addr) : Prop where
  ne : h ≠ c
  ex : ∃ (m k : Int) (ns : List Int), H h = some (.lst [.int m, .ref c, .int k]) ∧ H c = some (.lst (ns.map V.int)) ∧ ns.length ≤ 63
/-- all kept but h and c -/
def Kp (h c : Addr) (H H' : Hp) : Prop := ∀ b o, H b = some o → b ≠ h → b ≠ c → H' b = some o
theorem Kp.refl {h c : Addr} {H : Hp} : Kp h c H H := fun _ _ e _ _ => e
theorem Kp.trans {h c : Addr} {H H1 H2 : Hp} (a : Kp h c H H1) (b : Kp h c H1 H2) : Kp h c H H2 := fun x o e n1 n2 => b x o (a x o e n1 n2) n1 n2
theorem Kp.new {h c a : Addr} {H : Hp} {o : HO} (n : H a = none) : Kp h c H (upd H a o) := fun b o e _ _ => by
  rw [upd_ne (ne_of_none e n)]
  exact e
theorem Kp.same {h c : Addr} {H H' : Hp} (s : Same H H') : Kp h c H H' := fun b o e _ _ => s b o e
theorem Dr.same {H H' : Hp} {h c : Addr} (d : Dr H h c) (s : Same H H') : Dr H' h c := by
  obtain ⟨n, m, k, ns, e1, e2, l⟩ := d
  exact ⟨n, m, k, ns, s _ _ e1, s _ _ e2, l⟩
theorem Dr.new {H : Hp} {h c a : Addr} {o : HO} (d : Dr H h c) (n : H a = none) : Dr (upd H a o) h c := d.same fun b o e => by
  rw [upd_ne (ne_of_none e n)]
  exact e
theorem pick0 (ns : List Int) (i : Int) (h0 : 0 ≤ i) (h1 : i < (ns.length : Int) + 1) : ∃ u : Int, atI (ns.map V.int ++ [V.int 0]) i = some (.int u) := by
  obtain ⟨j, rfl⟩ := Int.eq_ofNat_of_zero_le h0
  have hj : j < (ns.map V.int ++ [V.int 0]).length := by
    rw [List.length_append, List.length_map]
    show j < ns.length + 1
    omega
  refine ⟨(ns ++ [0]).getD j 0, ?_⟩
  have e : ns.map V.int ++ [V.int 0] = (ns ++ [0]).map V.int := by rw [List.map_append]; rfl
  rw [e] at hj ⊢
  unfold atI ixN
  rw [if_pos (by omega), if_pos (by omega)]
  show ((ns ++ [0]).map V.int)[(j : Int).toNat]? = _
  rw [Int.toNat_natCast, List.getElem?_map]
  rw [List.length_map] at hj
  rw [List.getElem?_eq_getElem hj]
  rw [List.getD_eq_getElem?_getD, List.getElem?_eq_getElem hj]
  rfl
theorem pick_nil {i u : Int} (h : atI (([] : List Int).map V.int ++ [V.int 0]) i = some (.int u)) : u = 0 := by
  revert h
  unfold atI ixN
  show ((if 0 ≤ i then (if i < ((1 : Nat) : Int) then some i.toNat else none) else if -((1 : Nat) : Int) ≤ i then some (i + ((1 : Nat) : Int)).toNat else none).bind fun j => [V.int 0][j]?) = _ → _
  intro h
  split at h
  · split at h
    · have e : i.toNat = 0 := by omega
      rw [show (some i.toNat : Option Nat) = some 0 by rw [e]] at h
      cases h
      rfl
    · cases h
  · split at h
    · have e : (i + ((1 : Nat) : Int)).toNat = 0 := by omega
      rw [show (some (i + ((1 : Nat) : Int)).toNat : Option Nat) = some 0 by rw [e]] at h
      cases h
      rfl
    · cases h
theorem ixn_fmod {n : Nat} (k : Int) (h : (0 : Int) < (n : Int)) : ∃ j, ixN n (k.fmod (n : Int)) = some j := by
  refine ⟨(k.fmod (n : Int)).toNat, ?_⟩
  unfold ixN
  rw [if_pos (Int.fmod_nonneg_of_pos _ h), if_pos (Int.fmod_lt_of_pos _ h)]
def TK (K : PySem.W.Frag) (H H' : Hp) : Prop := ∀ a xs, SqT K H a xs → SqT K H' a xs
theorem TK.refl {K : PySem.W.Frag} {H : Hp} : TK K H H := fun _ _ h => h
theorem TK.trans {K : PySem.W.Frag} {H H1 H2 : Hp} (a : TK K H H1) (b : TK K H1 H2) : TK K H H2 := fun x y h => b x y (a x y h)
theorem sqT_keep {K : PySem.W.Frag} {H H' : Hp} {a : Addr} {xs : List V} (e : ∀ o, H a = some o → H' a = some o) (h : SqT K H a xs) : SqT K H' a xs := by
  rcases h with (h | ⟨o, h⟩) | h
  · exact .inl (.inl (e _ h))
  · exact .inl (.inr ⟨o, e _ h⟩)
  · exact .inr h
theorem TK.same {K : PySem.W.Frag} {H H' : Hp} (s : Same H H') : TK K H H' := fun a xs h => sqT_keep (fun o => s a o) h
theorem same_new {H : Hp} {p : Addr} {o : HO} (h : H p = none) : Same H (upd H p o) := fun b x e => by
  rw [upd_ne (ne_of_none e h)]
  exact e
theorem TK.new {K : PySem.W.Frag} {H : Hp} {a : Addr} {o : HO} (n : H a = none) : TK K H (upd H a o) := .same (same_new n)
theorem TK.but {K : PySem.W.Frag} {H H' : Hp} (D : Addr → Prop) (s : ∀ b o, H b = some o → ¬ D b → H' b = some o) (nt : ∀ b xs, D b → ¬ Rd H b (.tup xs)) : TK K H H' := fun a xs h => by
  rcases h with h | h
  · have nd : ¬ D a := fun z => nt a xs z h
    rcases h with h | ⟨o, h⟩
    · exact .inl (.inl (s _ _ h nd))
    · exact .inl (.inr ⟨o, s _ _ h nd⟩)
  · exact .inr h
theorem Rd.lst_no {H : Hp} {a : Addr} {xs ys : List V} (e : H a = some (.lst ys)) : ¬ Rd H a (.tup xs) := fun h => by
  rcases h with h | ⟨o, h⟩
  · rw [e] at h
    cases h
  · rw [e] at h
    cases h
theorem Rd.ins_no {H : Hp} {a C dx : Addr} {xs : List V} {fs : List (Str × V)} (e : H a = some (.ins C dx fs)) : ¬ Rd H a (.tup xs) := fun h => by
  rcases h with h | ⟨o, h⟩
  · rw [e] at h
    cases h
  · rw [e] at h
    cases h
theorem Dr.tk {K : PySem.W.Frag} {H H' : Hp} {h c : Addr} (d : Dr H h c) (k : Kp h c H H') : TK K H H' := by
  obtain ⟨_, m, kk, ns, e1, e2, _⟩ := d
  refine .but (fun b => b = h ∨ b = c) (fun b o e n => k b o e (fun z => n (.inl z)) (fun z => n (.inr z))) fun b xs z => ?_
  rcases z with z | z
  · rw [z]
    exact Rd.lst_no e1
  · rw [z]
    exact Rd.lst_no e2
section
variable {X : Cx} {C : Addr} {mc : Value} {x f : Str} {v : V} {p pos : Pos}
theorem pe_clc (hg : Gl X x) (hm : X.mg x = some (.ref C)) (cr : CRead X.K C mc) (cv : ∃ u, CVal X.K C mc f v u) (hd : (x == ("__debug__" : Str)) = false := by decide)
    (hb : attributeBase (.Name x p) f X.env (eval (.Name x p) X.env) = eval (.Name x p) X.env := by rfl) : PE X (.Attribute (.Name x p) f pos) (tC v) := by
  obtain ⟨u, cv⟩ := cv
  exact ⟨fun pins s σ H Q I h => (pe_cval (pe_glob (v := .ref C) hg hm rfl hd) hb).run pins s σ H Q I ⟨C, mc, v, u, rfl, cr, cv, h⟩⟩
end
theorem ev_chainI {ta tb tc : TE} {σ : L2.St} {H : Hp} {i j k : Int} {p q : Int → Int → Bool} (ha : Ev ta σ H (.int i)) (hb : Ev tb σ H (.int j)) (hc : Ev tc σ H (.int k)) :
    Ev (tChain (rI0 fun i j => .bl (p i j)) (rI0 fun i j => .bl (q i j)) ta tb tc) σ H (.bl (p i j && q j k)) := fun H1 e Q hq => ha H1 e _ fun H2 e2 => hb H2 (e.trans e2) _ fun H3 e3 => ⟨i, j, rfl, rfl, p i j, rfl, by
  cases hp : p i j with
  | true => exact iteT (hc H3 ((e.trans e2).trans e3) _ fun H4 e4 => ⟨j, k, rfl, rfl, by
      have z := hq H4 ((e2.trans e3).trans e4)
      rw [hp] at z
      exact z⟩)
  | false => exact iteF (by
      have z := hq H3 (e2.trans e3)
      rw [hp] at z
      exact z)⟩
/-- a loop of n rounds: what each round finds and leaves, and what stands when the source is dry -/
theorem for_rounds {I : It} {g : TG} {tb : TS} {D : Ends} {σ : L2.St} {H : Hp} (n : Nat) (Pv : Nat → L2.St → Hp → Prop) (start : Pv 0 σ H)
    (round : ∀ i σ H, i < n → Pv i σ H → I.go i H ∧ ∀ x H', I.yld i H x H' → g x σ H' fun σ2 H2 => tb { D with nx := Pv (i + 1), ct := Pv (i + 1), bk := D.nx } σ2 H2)
    (dry : ∀ σ H, Pv n σ H → I.stop n H ∧ D.nx σ H) :
    ∃ W : Nat → Nat → L2.St → Hp → Prop, (∃ m, W 0 m σ H) ∧ ∀ i m σ H, W i m σ H →
      (I.stop i H ∧ D.nx σ H) ∨ (I.go i H ∧ ∃ N : L2.St → Hp → Prop, (∀ σ' H', N σ' H' → ∃ m', m' < m ∧ W (i + 1) m' σ' H') ∧ ∀ x H', I.yld i H x H' → g x σ H' fun σ2 H2 => tb { D with nx := N, ct := N, bk := D.nx } σ2 H2) := by
  let W : Nat → Nat → L2.St → Hp → Prop := fun i m σ H => m + i = n ∧ Pv i σ H
  have more : ∀ i m σ H, W i (m + 1) σ H → (I.go i H ∧ ∃ N : L2.St → Hp → Prop, (∀ σ' H', N σ' H' → ∃ m', m' < m + 1 ∧ W (i + 1) m' σ' H') ∧ ∀ x H', I.yld i H x H' → g x σ H' fun σ2 H2 => tb { D with nx := N, ct := N, bk := D.nx } σ2 H2) := by
    rintro i m σ H ⟨e, p⟩
    have ⟨go, each⟩ := round i σ H (by omega) p
    exact ⟨go, Pv (i + 1), fun _ _ z => ⟨m, Nat.lt_succ_self m, by omega, z⟩, each⟩
  have last : ∀ i σ H, W i 0 σ H → I.stop i H ∧ D.nx σ H := by
    rintro i σ H ⟨e, p⟩
    rw [Nat.zero_add] at e
    exact e ▸ dry σ H (e ▸ p)
  exact ⟨W, ⟨n, rfl, start⟩, fun i m σ H w => match m, w with
    | 0, w => .inl (last i σ H w)
    | m + 1, w => .inr (more i m σ H w)⟩
section
variable {K : PySem.W.Frag}
theorem mk1_in {H1 : Hp} {Q : XK} {f : Str} {y : V} {c : Addr} (T : OexC K c) (n : PySem.W.findIn K (.ref c) f = some none) (h : ∀ d, H1 d = none → Q (.ref c) (some d) (upd H1 d (.xd [(f, y)]))) :
    [y].length = 1 ∧ ∀ a, H1 a = none → spX1 K f ([.ref a] ++ [y]) (upd H1 a (exo a c none)) (fun v H2 => v = .non ∧ ∃ (d : Addr) (fs : List (Str × V)), H2 a = some (exo a c (some d)) ∧ H2 d = some (exd d fs) ∧ H1 d = none ∧ Q (.ref c) (some d) (upd (del H2 a) d (.xd fs))) (fun _ _ _ => False) := by
  refine ⟨rfl, fun a ha => ⟨a, c, y, rfl, T, n, upd_same, fun dx h1 h2 => ?_⟩⟩
  rw [upd_ne h2] at h1
  refine ⟨rfl, dx, _, upd_same, by rw [upd_ne h2, upd_same], h1, ?_⟩
  have e : upd (del (upd (upd (upd H1 a (exo a c none)) dx (exd dx [(f, y)])) a (exo a c (some dx))) a) dx (.xd [(f, y)]) = upd H1 dx (.xd [(f, y)]) := by
    funext b
    by_cases hb : b = dx
    · subst hb
      rw [upd_same, upd_same]
    · rw [upd_ne hb, upd_ne hb]
      by_cases hba : b = a
      · subst hba
        rw [del_same, ha]
      · rw [del_ne hba, upd_ne hba, upd_ne hb, upd_ne hba]
  rw [e]
  exact h dx h1
end
theorem take_snoc {α : Type} {L : List α} {i : Nat} {x : α} (h : L[i]? = some x) : L.take (i + 1) = L.take i ++ [x] := by
  rw [List.take_add_one, h]
  rfl
def EvD (te : TE) (σ : L2.St) (H : Hp) (P : V → Hp → Prop) : Prop := ∀ H1, Ex H H1 → ∀ Q : VK, (∀ v H2, Ex H1 H2 → P v H2 → Q v H2) → te σ H1 Q
theorem EvD.mono {te : TE} {σ : L2.St} {H H' : Hp} {P : V → Hp → Prop} (e : Ex H H') (h : EvD te σ H P) : EvD te σ H' P := fun H1 a Q q => h H1 (e.trans a) Q q
theorem ed_of {te : TE} {σ : L2.St} {H : Hp} {v : V} {P : V → Hp → Prop} (h : Ev te σ H v) (hp : ∀ H2, Ex H H2 → P v H2) : EvD te σ H P := fun H1 e Q q => h H1 e _ fun H2 e2 => q v H2 e2 (hp H2 (e.trans e2))
def cutP {α : Type} (xs : List α) (lo hi : Option Int) : List α := (xs.drop (HT.sIx xs.length 0 lo)).take (HT.sIx xs.length xs.length hi - HT.sIx xs.length 0 lo)
theorem cutP_all {α : Type} (xs : List α) (lo hi : Option Int) (h : HT.sIx xs.length 0 lo = 0 ∧ HT.sIx xs.length xs.length hi = xs.length) : cutP xs lo hi = xs := by
  unfold cutP
  rw [h.1, h.2, List.drop_zero, Nat.sub_zero, List.take_length]
theorem cutP_to {α : Type} (xs : List α) (k : Nat) : cutP xs none (some ((k : Nat) : Int)) = xs.take k := by
  unfold cutP
  rw [HT.sIx_none, HT.sIx_nat, List.drop_zero, Nat.sub_zero]
  by_cases h : k ≤ xs.length
  · rw [Nat.min_eq_left h]
  · rw [Nat.min_eq_right (by omega), List.take_of_length_le (Nat.le_refl _), List.take_of_length_le (by omega)]
theorem cutP_from {α : Type} (xs : List α) (k : Nat) : cutP xs (some ((k : Nat) : Int)) none = xs.drop k := by
  unfold cutP
  rw [HT.sIx_none, HT.sIx_nat]
  by_cases h : k ≤ xs.length
  · rw [Nat.min_eq_left h, List.take_of_length_le (by rw [List.length_drop]; exact Nat.le_refl _)]
  · rw [Nat.min_eq_right (by omega), Nat.sub_self, List.take_zero, List.drop_eq_nil_of_le (by omega)]
section
variable {te : TE} {σ : L2.St} {H : Hp}
theorem q_asgD {tz : TS} {D : Ends} {i : Nat} {P : V → Hp → Prop} (h : EvD te σ H P) (k : ∀ v H1, Ex H H1 → P v H1 → tz D (σ.set i (some v)) H1) : tSeq (tAsg te (gName i)) tz D σ H := h H (Ex.refl H) _ fun v H1 e p => k v H1 e p
theorem s_retD {D : Ends} {P : V → Hp → Prop} (h : EvD te σ H P) (k : ∀ v H1, Ex H H1 → P v H1 → D.rt v H1) : tRet te D σ H := h H (Ex.refl H) _ k
end
theorem pe_ixtK {X : Cx} {a b : Expr} {ta tb : TE} {pos : Pos} (K : PySem.W.Frag) (hK : X.K = K) (ha : PE X a ta) (hb : PE X b tb) (hs : PlainIx b := by exact fun _ _ => rfl) : PE X (.Subscript a b pos) (tOp (rIxT K) ta tb) := by
  subst hK
  exact pe_ix ix_tup ha hb hs
theorem rv_eqD {K : PySem.W.Frag} {x y : V} {H : Hp} {d e : PyData} (h1 : ∀ H1, Ex H H1 → Dp K H1 x d) (h2 : ∀ H1, Ex H H1 → Dp K H1 y e) (s1 : SeqAt.shaped d = true) (s2 : SeqAt.shaped e = true) : RV (rEqD K) x y H (.bl (PyData.eqv d e)) := fun H1 a Q q => ⟨d, e, h1 H1 a, h2 H1 a, s1, s2, q H1 (Ex.refl _)⟩
theorem rv_neD {K : PySem.W.Frag} {x y : V} {H : Hp} {d e : PyData} (h1 : ∀ H1, Ex H H1 → Dp K H1 x d) (h2 : ∀ H1, Ex H H1 → Dp K H1 y e) (s1 : SeqAt.shaped d = true) (s2 : SeqAt.shaped e = true) : RV (rNeD K) x y H (.bl (!PyData.eqv d e)) := fun H1 a Q q => ⟨d, e, h1 H1 a, h2 H1 a, s1, s2, q H1 (Ex.refl _)⟩
theorem intsDp {K : PySem.W.Frag} {H : Hp} : ∀ ns : List Int, DpAll K H (ns.map V.int) (ns.map PyData.int)
  | [] => .nil
  | n :: r => .cons (.int n) (intsDp r)
theorem ints_lay : ∀ ns : List Int, PyData.canLayAll0 (ns.map PyData.int) = true
  | [] => rfl
  | n :: r => by
    show (true && PyData.canLayAll0 (r.map PyData.int)) = true
    rw [ints_lay r]
    rfl
theorem ints_dep : ∀ ns : List Int, PyData.depthAll (ns.map PyData.int) = 0
  | [] => rfl
  | n :: r => by
    show max 0 (PyData.depthAll (r.map PyData.int)) = 0
    rw [ints_dep r]
    rfl
theorem ints_sh (ns : List Int) : SeqAt.shaped (.list (ns.map PyData.int)) = true := by
  show (PyData.canLayAll0 (ns.map PyData.int) && decide (PyData.depthAll (ns.map PyData.int) + 1 ≤ 64)) = true
  rw [ints_lay, ints_dep]
  rfl
theorem pick3 (a b c v : Int) (h0 : 0 ≤ v) (h1 : v < 3) : ∃ w, atI [V.int a, V.int b, V.int c] v = some (.int w) ∧ (w = a ∨ w = b ∨ w = c) := by
  rcases (show v = 0 ∨ v = 1 ∨ v = 2 by omega) with rfl | rfl | rfl
  · exact ⟨a, rfl, .inl rfl⟩
  · exact ⟨b, rfl, .inr (.inl rfl)⟩
  · exact ⟨c, rfl, .inr (.inr rfl)⟩
theorem s_retIf {t : TT} {ta tb : TE} {D : Ends} {σ : L2.St} {H : Hp} {b : Bool} (h : EvT t σ H b) (h1 : b = true → ∀ H1, Ex H H1 → tRet ta D σ H1) (h2 : b = false → ∀ H1, Ex H H1 → tRet tb D σ H1) : tRet (tIf t ta tb) D σ H := h H (Ex.refl _) _ fun H1 e => by
  cases b with
  | true => exact iteT (h1 rfl H1 e)
  | false => exact iteF (h2 rfl H1 e)
theorem ev_lenT {K : PySem.W.Frag} {σ : L2.St} {H : Hp} {i : Nat} {p : Addr} {xs : List V} (hs : σ[i]? = some (some (.ref p))) (h : SqT K H p xs) : Ev (tCB (fun xs H Q => ∃ p ys, xs = [V.ref p] ∧ (SqL K H p ys ∨ SqT K H p ys) ∧ Q (.int ys.length) H) (tCons (tVar i) tNil)) σ H (.int (xs.length : Int)) := fun H1 e Q q =>
  ⟨_, hs, p, xs, rfl, .inr ((TK.same e) _ _ h), q H1 (Ex.refl _)⟩
theorem ev_cnt {K : PySem.W.Frag} {σ : L2.St} {H : Hp} {i : Nat} {D : Addr} {ys : List V} (hs : σ[i]? = some (some (.ref D))) (h : H D = some (.lst ys)) (hf : ys.all flatV = true) :
    Ev (tBM K "list" (rCntF K) (tVar i) (tCons (tC (.bl true)) tNil)) σ H (.int (ys.countP (fun z => eqV z (.bl true)) : Nat)) := fun H' e Q q => ⟨_, hs, .inl ⟨rfl, _, SqL.of (e _ _ h)⟩, D, ys, .bl true, rfl, rfl, SqL.of (e _ _ h), rfl, hf, q H' (Ex.refl _)⟩
theorem ev_idx {K : PySem.W.Frag} {σ : L2.St} {H : Hp} {i j : Nat} {D : Addr} {ys : List V} {z : V} (hs : σ[i]? = some (some (.ref D))) (h : H D = some (.lst ys)) (hf : ys.all flatV = true) (hz : ys[j]? = some z) (hq : eqV z (.bl true) = true) (ha : ∀ (m : Nat) (z' : V), m < j → ys[m]? = some z' → eqV z' (.bl true) = false) :
    Ev (tBM K "list" (rIndex K) (tVar i) (tCons (tC (.bl true)) tNil)) σ H (.int (j : Nat)) := fun H' e Q q => ⟨_, hs, .inl ⟨rfl, _, SqL.of (e _ _ h)⟩, D, ys, .bl true, j, z, rfl, rfl, SqL.of (e _ _ h), rfl, hf, hz, hq, ha, q H' (Ex.refl _)⟩
theorem pe_ixsK {X : Cx} {a b : Expr} {ta tb : TE} {pos : Pos} (K : PySem.W.Frag) (hK : X.K = K) (ha : PE X a ta) (hb : PE X b tb) (hs : PlainIx b := by exact fun _ _ => rfl) : PE X (.Subscript a b pos) (tOp (rIx K) ta tb) := by
  subst hK
  exact pe_ix ix_seq ha hb hs
mutual
theorem dp_ex {K : PySem.W.Frag} {H H' : Hp} (e : Ex H H') : ∀ {v : V} {d : PyData}, Dp K H v d → Dp K H' v d
  | _, _, .non => .non
  | _, _, .bl b => .bl b
  | _, _, .int i => .int i
  | _, _, .str x => .str x
  | _, _, .lst h a => .lst (ex_l e h) (dps_ex e a)
  | _, _, .tup h a => .tup (ex_t e h) (dps_ex e a)
theorem dps_ex {K : PySem.W.Frag} {H H' : Hp} (e : Ex H H') : ∀ {vs : List V} {ds : List PyData}, DpAll K H vs ds → DpAll K H' vs ds
  | _, _, .nil => .nil
  | _, _, .cons a b => .cons (dp_ex e a) (dps_ex e b)
end
theorem dps_len {K : PySem.W.Frag} {H : Hp} : ∀ {vs : List V} {ds : List PyData}, DpAll K H vs ds → vs.length = ds.length
  | _, _, .nil => rfl
  | _, _, .cons _ b => by rw [List.length_cons, List.length_cons, dps_len b]
theorem dps_get {K : PySem.W.Frag} {H : Hp} : ∀ {vs : List V} {ds : List PyData}, DpAll K H vs ds → ∀ {i : Nat}, i < ds.length → ∃ v d, vs[i]? = some v ∧ ds[i]? = some d ∧ Dp K H v d
  | _, _, .nil, i, hi => absurd hi (Nat.not_lt_zero _)
  | _, _, .cons (v := v) (d := d) a b, 0, _ => ⟨v, d, rfl, rfl, a⟩
  | _, _, .cons a b, i + 1, hi => by simpa using dps_get b (i := i) (by simpa using hi)
/-- whole numbers in lists and tuples -/
inductive IntD : Nat → PyData → Prop
  | int (n : Nat) (i : Int) : IntD n (.int i)
  | bool (n : Nat) (b : Bool) : IntD n (.bool b)
  | lst {n : Nat} {ds : List PyData} (h : ∀ (i : Nat) (d : PyData), ds[i]? = some d → IntD n d) (hl : ds.length ≤ 1000) : IntD (n + 1) (.list ds)
  | tup {n : Nat} {ds : List PyData} (h : ∀ (i : Nat) (d : PyData), ds[i]? = some d → IntD n d) (hl : ds.length ≤ 1000) : IntD (n + 1) (.tuple ds)
/-- equal data are alike -/
def spAl (K : PySem.W.Frag) (n : Nat) : Sp := fun vs H Q _ => ∃ (m : Nat) (x y : V) (d : PyData), m < n ∧ vs = [x, y] ∧ Dp K H x d ∧ Dp K H y d ∧ IntD m d ∧ ∀ H', Same H H' → Q (.bl true) H'
theorem ev_isi {K : PySem.W.Frag} {σ : L2.St} {H : Hp} {i : Nat} {x : V} {t : Value} {n : String} {b : Bool} (hs : σ[i]? = some (some x)) (ty : ∀ H1, Ex H H1 → TyX K H1 x t) (h : PySem.W.kitOne K t (.type n) = some b) : Ev (tCB (rIsi K) (tCons (tVar i) (tCons (tC (.ty n)) tNil))) σ H (.bl b) :=
  fun H1 e Q q => ⟨_, hs, x, .ty n, t, .type n, b, rfl, .ty n, ty H1 e, h, q H1 (Ex.refl _)⟩
theorem ev_isiT {K : PySem.W.Frag} {σ : L2.St} {H : Hp} {i : Nat} {x : V} {t : Value} {b : Bool} (hs : σ[i]? = some (some x)) (ty : ∀ H1, Ex H H1 → TyX K H1 x t) (h : PySem.W.kitAny K t [.type "tuple", .type "list"] = some b) :
    Ev (tCB (rIsiT K) (tCons (tVar i) (tCons (tTup (tCons (tC (.ty "tuple")) (tCons (tC (.ty "list")) tNil))) tNil))) σ H (.bl b) :=
  fun H1 e Q q => ⟨_, hs, Nat.le_of_lt (small1000 (show 2 ≤ 1000 by decide)), fun p np => ⟨x, p, _, t, _, b, rfl, upd_same, .cons (.ty _) (.cons (.ty _) .nil), ty _ (e.trans (Ex.new np)), h, q _ (Ex.new np)⟩⟩
theorem tyx_lst {K : PySem.W.Frag} {H : Hp} {a : Addr} {xs : List V} (h : SqL K H a xs) : TyX K H (.ref a) (.type "list") := by
  rcases h with (h | ⟨o, h⟩) | ⟨o, its, n, hk, hc, _⟩
  · exact .base (.lst h)
  · exact .base (.frz h)
  · exact .kList hk hc
theorem tyx_tup {K : PySem.W.Frag} {H : Hp} {a : Addr} {xs : List V} (h : SqT K H a xs) : TyX K H (.ref a) (.type "tuple") := by
  rcases h with (h | ⟨o, h⟩) | ⟨o, its, n, hk, hc, _⟩
  · exact .base (.tup h)
  · exact .fTuple h
  · exact .kTuple hk hc
theorem ka_list {K : PySem.W.Frag} : PySem.W.kitAny K (.type "list") [.type "tuple", .type "list"] = some true := kitAny_cons (b := false) (kit_ty (by decide +kernel)) (fun _ => kitAny_cons (b := true) (kit_ty (by decide +kernel)) (fun z => by cases z) fun _ => rfl) (fun z => by cases z)
theorem ka_tuple {K : PySem.W.Frag} : PySem.W.kitAny K (.type "tuple") [.type "tuple", .type "list"] = some true := kitAny_cons (b := true) (kit_ty (by decide +kernel)) (fun z => by cases z) fun _ => rfl
theorem ka_int {K : PySem.W.Frag} : PySem.W.kitAny K (.type "int") [.type "tuple", .type "list"] = some false := kitAny_cons (b := false) (kit_ty (by decide +kernel)) (fun _ => kitAny_cons (b := false) (kit_ty (by decide +kernel)) (fun _ => rfl) (fun z => by cases z)) (fun z => by cases z)
theorem ka_bool {K : PySem.W.Frag} : PySem.W.kitAny K (.type "bool") [.type "tuple", .type "list"] = some false := kitAny_cons (b := false) (kit_ty (by decide +kernel)) (fun _ => kitAny_cons (b := false) (kit_ty (by decide +kernel)) (fun _ => rfl) (fun z => by cases z)) (fun z => by cases z)
theorem ev_lenS {K : PySem.W.Frag} {σ : L2.St} {H : Hp} {i : Nat} {p : Addr} {xs : List V} (hs : σ[i]? = some (some (.ref p))) (h : SqL K H p xs ∨ SqT K H p xs) : Ev (tCB (fun xs H Q => ∃ p ys, xs = [V.ref p] ∧ (SqL K H p ys ∨ SqT K H p ys) ∧ Q (.int ys.length) H) (tCons (tVar i) tNil)) σ H (.int (xs.length : Int)) := fun H1 e Q q =>
  ⟨_, hs, p, xs, rfl, h.elim (fun h => .inl (ex_l e h)) (fun h => .inr (ex_t e h)), q H1 (Ex.refl _)⟩
theorem given_none (n : Nat) (v : Nat → V) : given n (fun _ => false) v = [] := by
  unfold given
  simp
theorem at_nat {α : Type} {xs : List α} {i : Nat} {v : α} (hi : i < xs.length) (h : xs[i]? = some v) : atI xs ((i : Nat) : Int) = some v := by
  unfold atI
  rw [ixN_nat hi]
  exact h
def noE : Expr := .Constant .none 0 ⟨0, 0, 0, 0⟩
def noS : Stmt := .Pass ⟨0, 0, 0, 0⟩
def forB : Stmt → List Stmt
  | .For _ _ b _ _ => b
  | _ => []
def ifB : Stmt → List Stmt
  | .If _ b _ _ => b
  | _ => []
def ifC : Stmt → Expr
  | .If c _ _ _ => c
  | _ => noE
def asgE : Stmt → Expr
  | .Assign _ e _ => e
  | .Expr e _ => e
  | _ => noE
def callA : Expr → Expr
  | .Call _ (a :: _) _ _ => a
  | _ => noE
def lisI (i : Nat) : Expr → Expr
  | .List es _ => es.getD i noE
  | _ => noE
def cmpL : Expr → Expr
  | .Compare l _ _ _ => l
  | _ => noE
def lamP : Expr → Arguments
  | .Lambda p _ _ _ => p
  | _ => ⟨[], [], none, [], [], none, []⟩
def lamB : Expr → Expr
  | .Lambda _ b _ _ => b
  | _ => noE
def lamS : Expr → Scope
  | .Lambda _ _ s _ => s
  | _ => ⟨.function, [], false, false, []⟩
def NoLI (o : HO) : Prop := (∀ xs, o ≠ .lst xs) ∧ ∀ C dx fs, o ≠ .ins C dx fs
theorem tabs_but {T : List (Addr × Str)} {H H' : Hp} (hT : Tabs T H) (k : ∀ b o, H b = some o → NoLI o → H' b = some o) : Tabs T H' := fun p hp => by
  obtain ⟨ps, h1, h2, h3⟩ := hT p hp
  refine ⟨ps, k _ _ h1 ⟨fun xs z => (by cases z), fun C dx fs z => (by cases z)⟩, h2, fun pos cv hc => ?_⟩
  obtain ⟨c, e1, e2⟩ := h3 pos cv hc
  exact ⟨c, e1, k _ _ e2 ⟨fun xs z => (by unfold CodeO at z; cases z), fun C dx fs z => (by unfold CodeO at z; cases z)⟩⟩
theorem tabs_same {T : List (Addr × Str)} {H H' : Hp} (hT : Tabs T H) (s : Same H H') : Tabs T H' := tabs_but hT fun b o e _ => s b o e
theorem tabs_kp {T : List (Addr × Str)} {H H' : Hp} {h c : Addr} (hT : Tabs T H) (d : Dr H h c) (k : Kp h c H H') : Tabs T H' := by
  obtain ⟨_, m, kk, ns, e1, e2, _⟩ := d
  refine tabs_but hT fun b o e n => k b o e (fun z => ?_) (fun z => ?_)
  · rw [z, e1] at e
    cases e
    exact n.1 _ rfl
  · rw [z, e2] at e
    cases e
    exact n.1 _ rfl
theorem Dr.extN {H H' : Hp} {h c : Addr} (d : Dr H h c) (s : ExtN H H') : Dr H' h c := by
  obtain ⟨n, m, k, ns, e1, e2, l⟩ := d
  exact ⟨n, m, k, ns, s _ _ e1 (fun ps z => (by cases z)), s _ _ e2 (fun ps z => (by cases z)), l⟩
theorem TK.extN {K : PySem.W.Frag} {H H' : Hp} (s : ExtN H H') : TK K H H' := fun a xs h => by
  rcases h with (h | ⟨o, h⟩) | h
  · exact .inl (.inl (s _ _ h fun ps z => by cases z))
  · exact .inl (.inr ⟨o, s _ _ h fun ps z => by cases z⟩)
  · exact .inr h
theorem Dr.nh {H : Hp} {h c b : Addr} (d : Dr H h c) (n : H b = none) : b ≠ h ∧ b ≠ c := by
  obtain ⟨_, m, kk, ns, e1, e2, _⟩ := d
  refine ⟨fun z => ?_, fun z => ?_⟩
  · rw [z, e1] at n
    cases n
  · rw [z, e2] at n
    cases n
def tI (i : Int) : TE := tC (.int i)
def tP (a b : TE) : TE := tTup (tCons a (tCons b tNil))
def rPw : R2 := rI CPow fun i j => .int (i ^ j.toNat)
def rAd : R2 := rI0 fun i j => .int (i + j)
def tMn (a : TE) : TE := tUn (rU fun i => .int (-i)) a
theorem ev_tI {σ : L2.St} {H : Hp} {i : Int} : Ev (tI i) σ H (.int i) := ev_c
theorem ev_pw {σ : L2.St} {H : Hp} {a b : TE} {i j : Int} (ha : Ev a σ H (.int i)) (hb : Ev b σ H (.int j)) (h : CPow i j) : Ev (tOp rPw a b) σ H (.int (i ^ j.toNat)) := ev_op ha hb (rv_I h)
theorem ev_ad {σ : L2.St} {H : Hp} {a b : TE} {i j : Int} (ha : Ev a σ H (.int i)) (hb : Ev b σ H (.int j)) : Ev (tOp rAd a b) σ H (.int (i + j)) := ev_op ha hb rv_I0
theorem ev_mn {σ : L2.St} {H : Hp} {a : TE} {i : Int} (ha : Ev a σ H (.int i)) : Ev (tMn a) σ H (.int (-i)) := ev_un ha ru_neg
theorem eu_ifT {t : TT} {ta tb : TE} {σ : L2.St} {H : Hp} {xs : List V} (h : EvT t σ H true) (h1 : EvU ta σ H xs) : EvU (tIf t ta tb) σ H xs := fun H1 e Q q => h H1 e _ fun H2 e2 => iteT (h1 H2 (e.trans e2) _ fun p H3 np e3 hp => q p H3 (fresh_back e2 np) (e2.trans e3) hp)
theorem eu_ifF {t : TT} {ta tb : TE} {σ : L2.St} {H : Hp} {xs : List V} (h : EvT t σ H false) (h1 : EvU tb σ H xs) : EvU (tIf t ta tb) σ H xs := fun H1 e Q q => h H1 e _ fun H2 e2 => iteF (h1 H2 (e.trans e2) _ fun p H3 np e3 hp => q p H3 (fresh_back e2 np) (e2.trans e3) hp)
theorem et_isN {σ : L2.St} {H : Hp} {i : Nat} {v : V} (hs : σ[i]? = some (some v)) : EvT (tTest (tOp (fun x y H Q => y = .non ∧ Q (.bl (decide (x = .non))) H) (tVar i) (tC .non))) σ H (decide (v = .non)) :=
  et_test (ev_op (ev_var hs) ev_c (fun H3 _ Q3 q3 => ⟨rfl, q3 H3 (Ex.refl _)⟩))
theorem eqv_self (d : PyData) (h : SeqAt.shaped d = true) : PyData.eqv d d = true := SeqAt.eqv_refl d (SeqAt.canLay_of_shaped h)
/-! ### expressions that give data, all kept -/
def EvDp (K : PySem.W.Frag) (te : TE) (σ : L2.St) (H : Hp) (d : PyData) : Prop := EvD te σ H fun v H => Dp K H v d
def EvDpA (K : PySem.W.Frag) (ta : TA) (σ : L2.St) (H : Hp) (ds : List PyData) : Prop := ∀ H1, Ex H H1 → ∀ Q : List V → Hp → Prop, (∀ vs H2, Ex H1 H2 → DpAll K H2 vs ds → Q vs H2) → ta σ H1 Q
section
variable {K : PySem.W.Frag} {te tb tx : TE} {ta tr : TA} {σ : L2.St} {H : Hp} {d e : PyData} {ds : List PyData}
theorem edp_ev {v : V} (h : Ev te σ H v) (hd : ∀ H2, Ex H H2 → Dp K H2 v d) : EvDp K te σ H d := ed_of h hd
theorem edp_int {i : Int} (h : Ev te σ H (.int i)) : EvDp K te σ H (.int i) := edp_ev h fun _ _ => .int i
theorem edp_str {x : Str} : EvDp K (tC (.str x)) σ H (.str x) := edp_ev ev_c fun _ _ => .str x
theorem eda_nil : EvDpA K tNil σ H [] := fun H1 _ Q q => q [] H1 (Ex.refl _) .nil
theorem eda_cons (h : EvDp K tx σ H d) (hr : EvDpA K tr σ H ds) : EvDpA K (tCons tx tr) σ H (d :: ds) := fun H1 e Q q =>
  h H1 e _ fun v H2 e2 hv => hr H2 (e.trans e2) _ fun vs H3 e3 hvs => q _ _ (e2.trans e3) (.cons (dp_ex e3 hv) hvs)
theorem edp_lst (h : EvDpA K ta σ H ds) (hl : ds.length ≤ 1000) : EvDp K (tLst ta) σ H (.list ds) := fun H1 e Q q => h H1 e _ fun vs H2 e2 hvs => ⟨Nat.le_of_lt (small1000 (by rw [dps_len hvs]; exact hl)), fun p np => q _ _ (e2.trans (Ex.new np)) (.lst (.of upd_same) (dps_ex (Ex.new np) hvs))⟩
theorem edp_tup (h : EvDpA K ta σ H ds) (hl : ds.length ≤ 1000) : EvDp K (tTup ta) σ H (.tuple ds) := fun H1 e Q q => h H1 e _ fun vs H2 e2 hvs => ⟨Nat.le_of_lt (small1000 (by rw [dps_len hvs]; exact hl)), fun p np => q _ _ (e2.trans (Ex.new np)) (.tup (.of upd_same) (dps_ex (Ex.new np) hvs))⟩
theorem et_neD (h1 : EvDp K te σ H d) (h2 : EvDp K tb σ H e) (s1 : SeqAt.shaped d = true) (s2 : SeqAt.shaped e = true) : EvT (tTest (tOp (rNeD K) te tb)) σ H (!PyData.eqv d e) := fun H1 a Q q =>
  h1 H1 a _ fun v H2 e2 hv => h2 H2 (a.trans e2) _ fun u H3 e3 hu => ⟨d, e, dp_ex e3 hv, hu, s1, s2, _, rfl, q H3 (e2.trans e3)⟩
theorem et_same (h1 : EvDp K te σ H d) (h2 : EvDp K tb σ H d) (s1 : SeqAt.shaped d = true) : EvT (tTest (tOp (rNeD K) te tb)) σ H false := et_is (et_neD h1 h2 s1 s1) (by rw [eqv_self d s1]; rfl)
end
theorem et_al {K : PySem.W.Frag} {ta : TA} {σ : L2.St} {H : Hp} {d : PyData} (hA : EvDpA K ta σ H [d, d]) (hd : IntD 3 d) : EvT (tNot (tB (tCall (spAl K 4) [] E0 ta))) σ H false := fun H1 e Q q =>
  hA H1 e (fun vs H2 => spAl K 4 (vs ++ []) H2 (fun x H3 => ∃ c, x = .bl c ∧ Q (!c) H3) E0) fun vs H2 e2 hvs => by
    cases hvs with
    | cons h1 hr =>
      cases hr with
      | cons h2 hr2 =>
        cases hr2
        exact ⟨3, _, _, d, by decide, rfl, h1, h2, hd, fun H5 s5 => ⟨true, rfl, q H5 (e2.trans s5)⟩⟩
theorem pick2 (a b v : Int) (h0 : 0 ≤ v) (h1 : v < 2) : ∃ w, atI [V.int a, V.int b] v = some (.int w) ∧ (w = a ∨ w = b) := by
  rcases (show v = 0 ∨ v = 1 by omega) with rfl | rfl
  · exact ⟨a, rfl, .inl rfl⟩
  · exact ⟨b, rfl, .inr rfl⟩
theorem ev_eqD {K : PySem.W.Frag} {te tb : TE} {σ : L2.St} {H : Hp} {d : PyData} (h1 : EvDp K te σ H d) (h2 : EvDp K tb σ H d) (s1 : SeqAt.shaped d = true) : Ev (tOp (rEqD K) te tb) σ H (.bl true) := fun H1 a Q q =>
  h1 H1 a _ fun v H2 e2 hv => h2 H2 (a.trans e2) _ fun u H3 e3 hu => ⟨d, d, dp_ex e3 hv, hu, s1, s1, by
    rw [eqv_self d s1]
    exact q H3 (e2.trans e3)⟩
theorem lam_ne {f : Addr} {F : LF} : ∀ ps, LamO f F ≠ .tbl ps := Stands.no_tbl
theorem code_ne {c : Addr} {q : Str} : ∀ ps, CodeO c q ≠ .tbl ps := fun ps z => by
  unfold CodeO at z
  cases z
theorem at_int {α : Type} {xs : List α} {i : Nat} (hi : i < xs.length) : atI xs ((i : Nat) : Int) = some xs[i] := at_nat hi (List.getElem?_eq_getElem hi)
end Sea

set_option Elab.async false
set_option linter.all false
set_option maxRecDepth 100000
set_option maxHeartbeats 4000000
/-! several except clauses, each with a name for the error or without one -/
namespace Sea
open PySem PySem.Spec PyProof.Rows L2
/-- a clause: its class, the slot of its name (if it has one), its suite -/
structure Cla where
  c : Value
  slot : Option Nat
  ts : Addr → Value → Option Addr → TS
def namd (o : Option Nat) (v : Option V) (σ : L2.St) : L2.St := match o with
  | none => σ
  | some i => σ.set i v
/-- behind the suite the name is gone -/
def past (D : Ends) (o : Option Nat) : Ends := { nx := fun σ H => D.nx (namd o none σ) H, rt := D.rt, bk := fun σ H => D.bk (namd o none σ) H, ct := fun σ H => D.ct (namd o none σ) H }
/-- what clauses, tried in turn, wish of the error that the body lets out -/
def wCla (K : PySem.W.Frag) (Wout : WX) (D : Ends) : List Cla → WX
  | [] => Wout
  | x :: r => fun cls d σ H => ∃ b, PySem.W.exmOne K cls x.c = some b ∧ match b with
    | true => ∀ a, H a = none → x.ts a cls d (past D x.slot) (namd x.slot (some (.ref a)) σ) H
    | false => wCla K Wout D r cls d σ H
inductive ClaOk (X : Cx) : ExceptHandler → Cla → Prop
  | bare {x : Str} {c : Value} {ts : Addr → Value → Option Addr → TS} {b₀ : Stmt} {suite : List Stmt} {np pos : Pos} (hc : Names X x c)
      (hsu : ∀ (a : Addr) (oe : Obj) (cls : Value) (d : Option Addr) (pn : List (Addr × Obj)), Zc cls d oe → (∃ vs, oe.data = .fields vs) → PSs (X.suite a ((a, oe) :: pn)) (b₀ :: suite) (ts a cls d)) :
      ClaOk X (.ExceptHandler (some (.Name x np)) none (b₀ :: suite) pos) ⟨c, none, ts⟩
  | named {x n : Str} {i : Nat} {c : Value} {ts : Addr → Value → Option Addr → TS} {b₀ : Stmt} {suite : List Stmt} {np pos : Pos} (hN : X.N.Nodup) (hi : X.N[i]? = some n) (hl : X.env.kindOf n = some .local) (hc : Names X x c)
      (hsu : ∀ (a : Addr) (oe : Obj) (cls : Value) (d : Option Addr) (pn : List (Addr × Obj)), Zc cls d oe → (∃ vs, oe.data = .fields vs) → PSs (X.suite a ((a, oe) :: pn)) (b₀ :: suite) (ts a cls d)) :
      ClaOk X (.ExceptHandler (some (.Name x np)) (some n) (b₀ :: suite) pos) ⟨c, some i, ts⟩
inductive ClasOk (X : Cx) : List ExceptHandler → List Cla → Prop
  | nil : ClasOk X [] []
  | cons {h : ExceptHandler} {x : Cla} {hs : List ExceptHandler} {xs : List Cla} (a : ClaOk X h x) (r : ClasOk X hs xs) : ClasOk X (h :: hs) (x :: xs)
/-- the error at a is caught: s is the state in which the clauses are tried; what it was without the error's own objects is told by src -/
structure Caught (X : Cx) (pins : List (Addr × Obj)) (σ : L2.St) (H : Hp) (a : Addr) (cls : Value) (d : Option Addr) (s : Shared) : Prop where
  free : H a = none
  src : ∃ (B : Heap) (s0 : Shared), Inv X pins σ H s0 ∧ (∀ b o, s0.heap.get? b = some o → b ∉ frs X.stack → B.get? b = some o) ∧ s0.heap.UpToSlots s.heap ∧ HandSPX.FlyingZ B X.stack a (Zc cls d) s.heap ∧ s.os = s0.os ∧ AllBare s.gens
section
variable {X : Cx} {pins : List (Addr × Obj)} {σ : L2.St} {H : Hp} {a : Addr} {cls : Value} {d : Option Addr} {s : Shared} {W : WX} {D : Ends}
theorem Caught.inv (c : Caught X pins σ H a cls d s) : Inv X pins σ H s :=
  let ⟨_, _, I, nb, up, fl, os, ag⟩ := c.src
  I.landed nb fl.1 up os ag
/-- its object is none of the frames' -/
theorem Caught.obj (c : Caught X pins σ H a cls d s) : ∃ oe, s.heap.get? a = some oe ∧ Zc cls d oe ∧ (∃ vs, oe.data = .fields vs) ∧ a ∉ frs X.stack := by
  obtain ⟨B, s0, _, _, _, ⟨_, _, frames, oe, vs, _, _, _, there, z, rec, _⟩, _⟩ := c.src
  refine ⟨oe, there, z, ⟨vs, rec⟩, fun m => ?_⟩
  obtain ⟨_, o, at_, other⟩ := frames.mem m
  cases there.symm.trans at_
  exact other vs rec
/-- the flight is set to none once more -/
theorem Caught.land {M : Model} {A : Around} {E : Value → Shared → Prop} {Q : Unit → Shared → Prop} (c : Caught X pins σ H a cls d s) (k : ∀ s', Caught X pins σ H a cls d s' → Q () s') : wpAny M A (setFlight (.ref a) none) Q E s :=
  let ⟨B, s0, I, nb, up, fl, os, ag⟩ := c.src
  HandSPX.lands_againZ fl fun h fl' more => k { s with heap := h } ⟨c.free, B, s0, I, nb, up.trans more, fl', os, ag⟩
/-- within a suite -/
theorem Caught.within (hs : X.stack = X.env :: X.outer) (hf : X.env.frame = some X.env.locals) (c : Caught X pins σ H a cls d s) : ∃ oe, Zc cls d oe ∧ (∃ vs, oe.data = .fields vs) ∧ s.heap.get? a = some oe ∧ Inv (X.suite a ((a, oe) :: (X.pn ++ pins))) [] σ H s := by
  obtain ⟨oe, there, z, ⟨vs, rec⟩, nf⟩ := c.obj
  rw [hs] at nf
  have n1 : a ≠ X.env.locals := fun e => nf (List.mem_filterMap.mpr ⟨X.env, List.mem_cons_self, by rw [hf, e]⟩)
  have n2 : a ∉ X.fs := fun m => nf (let ⟨e, he, q⟩ := List.mem_filterMap.mp m; List.mem_filterMap.mpr ⟨e, List.mem_cons_of_mem _ he, q⟩)
  exact ⟨oe, z, ⟨vs, rec⟩, there, c.inv.suite there rec c.free n1 n2⟩
/-- the class that a clause names is read -/
theorem Caught.test (hs : X.stack = X.env :: X.outer) (hf : X.env.frame = some X.env.locals) (c : Caught X pins σ H a cls d s) {x : Str} {v : Value} {p : Pos} (nm : Names X x v) {Q E : Value → Shared → Prop} (q : Q v s) :
    wpAny (model X.prog X.w) (X.A.mark (some (.ref a))) (eval (.Name x p) X.env) Q E s :=
  let ⟨_, _, _, _, S⟩ := c.within hs hf
  match nm with
  | ⟨g, dbg, .inl m⟩ => ld_glob S g m q dbg
  | ⟨g, dbg, .inr ⟨m, b, n⟩⟩ => ld_blt S g m b q n dbg
/-- one clause is tried -/
theorem Caught.clause (hs : X.stack = X.env :: X.outer) (hf : X.env.frame = some X.env.locals) (c : Caught X pins σ H a cls d s) {h : ExceptHandler} {x : Cla} {rest : List ExceptHandler} (ok : ClaOk X h x) {b : Bool} (one : PySem.W.exmOne X.K cls x.c = some b)
    (yes : b = true → x.ts a cls d (past D x.slot) (namd x.slot (some (.ref a)) σ) H) (no : b = false → wpAny (model X.prog X.w) X.A (handleBy (.ref a) X.env rest) (SP X pins D) X.xe s) :
    wpAny (model X.prog X.w) X.A (handleBy (.ref a) X.env (h :: rest)) (SP X pins D) X.xe s := by
  have frame := c.inv.ok
  have ty : PySem.W.Looks (model X.prog X.w) s.heap (typeOf (.ref a)) cls := by
    obtain ⟨oe, there, z, _⟩ := c.obj
    exact fun A Q E s' keep q => wpAny_typeOf_ref (keep _ _ there) (z.1.symm ▸ q)
  have match_ := PySem.W.exm_one c.inv.kIn ty one
  cases ok with
  | bare nm su =>
    refine wpAny_handleBy_cons (codeAny_handlers_test (c.test hs hf nm (match_.here ?_))) nofun
    cases b with
    | false => exact no rfl
    | true =>
      refine codeAny_handlers_suite (c.land fun s2 c2 => ?_)
      obtain ⟨oe, z, rec, _, S⟩ := c2.within hs hf
      refine wpAny_mono ((su a oe cls d _ z rec).run [] s2 _ H _ S (yes rfl)) (fun f s3 out => ?_) fun _ _ z => z.elim
      match f, out with
      | .next, ⟨_, _, S3, q⟩ => exact ⟨_, _, S3.unsuite frame, q⟩
      | .brk, ⟨_, _, S3, q⟩ => exact ⟨_, _, S3.unsuite frame, q⟩
      | .cont, ⟨_, _, S3, q⟩ => exact ⟨_, _, S3.unsuite frame, q⟩
      | .ret _, ⟨_, _, _, S3, r, q⟩ => exact ⟨_, _, _, S3.unsuite frame, r, q⟩
  | named nd hi hl nm su =>
    refine wpAny_handleBy_cons (codeAny_handlers_test (c.test hs hf nm (match_.here ?_))) nofun
    cases b with
    | false => exact no rfl
    | true =>
      refine codeAny_handlers_suite_as (c.land fun s2 c2 => ?_)
      obtain ⟨oe, z, rec, _, S⟩ := c2.within hs hf
      refine store_ok (X := X.suite a ((a, oe) :: (X.pn ++ pins))) (v := .ref a) S nd hi (.inl hl) rfl (fun s3 S3 => ?_) (.inr hl)
      refine wpAny_mono ((su a oe cls d _ z rec).run [] s3 _ H _ S3 (yes rfl)) (fun f s4 out => ?_) fun _ _ z => z.elim
      match f, out with
      | .next, ⟨_, _, S4, q⟩ => exact gone_ok (S4.unsuite frame) nd hi hl fun _ J => ⟨_, _, J, q⟩
      | .brk, ⟨_, _, S4, q⟩ => exact gone_ok (S4.unsuite frame) nd hi hl fun _ J => ⟨_, _, J, q⟩
      | .cont, ⟨_, _, S4, q⟩ => exact gone_ok (S4.unsuite frame) nd hi hl fun _ J => ⟨_, _, J, q⟩
      | .ret _, ⟨_, _, _, S4, r, q⟩ => exact gone_ok (S4.unsuite frame) nd hi hl fun _ J => ⟨_, _, _, J, r, q⟩
/-- no clause is left: it goes on from here -/
theorem Caught.out (hs : X.stack = X.env :: X.outer) (hf : X.env.frame = some X.env.locals) (tk : Takes X W) (c : Caught X pins σ H a cls d s) (w : W cls d σ H) {Q : Flow → Shared → Prop} : wpAny (model X.prog X.w) X.A (handleBy (.ref a) X.env []) Q X.xe s := by
  obtain ⟨na, B, s0, I, nb, up, fl, os, ag⟩ := c
  obtain ⟨oe, vs, T, _, _, there, _, rec, trace, _⟩ := id fl.2.2.2
  have leaves : wpAny (model X.prog X.w) X.A (setFlight (.ref a) X.env.frame) (fun _ s1 => wpAny (model X.prog X.w) X.A (throw (.ref a) : Sem Flow) Q X.xe s1) X.xe s :=
    hf ▸ HandSPX.setFlight_upZ fl fun h held more => wpAny_throw (tk (.ref a) _ ⟨a, B, s0, pins, σ, H, cls, d, rfl, I, nb, up.trans more, .inr (.inr held), na, os, ag, w⟩)
  have has : (Value.ref T == Value.none) = false := rfl
  refine wpAny_handleBy_nil (wpAny_bind (wpAny_field there rec trace ?_))
  simp only [has, Bool.false_eq_true, if_false]
  first
    | exact wpAny_bind leaves
    | exact wpAny_bind (wpAny_pure (wpAny_bind leaves))
/-- clauses, tried in turn -/
theorem Caught.turns (hs : X.stack = X.env :: X.outer) (hf : X.env.frame = some X.env.locals) (tk : Takes X W) (c : Caught X pins σ H a cls d s) : ∀ {l : List ExceptHandler} {xs : List Cla}, ClasOk X l xs → wCla X.K W D xs cls d σ H →
    wpAny (model X.prog X.w) X.A (handleBy (.ref a) X.env l) (SP X pins D) X.xe s
  | _, _, .nil, w => c.out hs hf tk w
  | _, _, .cons ok r, ⟨true, one, w⟩ => c.clause hs hf ok one (fun _ => w a c.free) nofun
  | _, _, .cons ok r, ⟨false, one, w⟩ => c.clause hs hf ok one nofun fun _ => c.turns hs hf tk r w
/-- try: body, several except clauses -/
theorem ps_try_cls {body : List Stmt} {h₀ : ExceptHandler} {l : List ExceptHandler} {xs : List Cla} {pos : Pos} {tb : WX → TS} (hs : X.stack = X.env :: X.outer) (hf : X.env.frame = some X.env.locals) (tk : Takes X W)
    (hb : ∀ (U : WX) (pn : List (Addr × Obj)) (xe : Value → Shared → Prop), Takes (X.tr pn xe) U → PassesOwn (model X.prog X.w) X.A X.env xe → PSs (X.tr pn xe) body (tb U)) (hl : ClasOk X (h₀ :: l) xs) :
    PS X (.Try body (h₀ :: l) [] [] pos) (fun D σ H => tb (wCla X.K W D xs) D σ H) := by
  constructor
  intro pins s σ H D I h
  have frame := I.ok
  have top : X.A.frames = some (X.env :: X.outer) := hs ▸ frame.frames
  apply wpAny_Try_except
  refine wpAny_mono ((hb (wCla X.K W D xs) (X.pn ++ pins) _ ?_ PassesOwn.looking).run [] s σ H D (I.toTry _) h) ?_ fun _ _ z => z
  · rintro u s' ⟨a, B, s0, pn, σ', H', cls, d, rfl, J, nb, up, sky, na, os, ag, w⟩
    exact Sky.land Zc.steady top hf (hs ▸ sky) fun hp fl more => Caught.turns hs hf tk (s := { s' with heap := hp }) ⟨na, B, s0, J.ofTry frame, nb, up.trans more, hs ▸ fl, os, ag⟩ hl w
  · rintro f s1 out
    match f, out with
    | .next, ⟨_, _, J, q⟩ => exact wpAny_execs_nil ⟨_, _, J.ofTry frame, q⟩
    | .brk, ⟨_, _, J, q⟩ => exact ⟨_, _, J.ofTry frame, q⟩
    | .cont, ⟨_, _, J, q⟩ => exact ⟨_, _, J.ofTry frame, q⟩
    | .ret _, ⟨_, _, _, J, r, q⟩ => exact ⟨_, _, _, J.ofTry frame, r, q⟩
end
end Sea

set_option Elab.async false
set_option linter.all false
set_option maxRecDepth 100000
set_option maxHeartbeats 4000000
/-! dicts whose keys are (a whole number, a whole number, a tuple of whole numbers) and whose values are whole numbers: k not in d, d[k], d[k] = v -/
namespace Sea
open PySem PySem.Spec PyProof.Rows L2 LamX NdefX ClX Evl StX
abbrev NK := Int × Int × List Int
def nk (k : NK) : NestedKey := .tup [.num k.1, .num k.2.1, .tup (k.2.2.map .num)]
theorem num_inj : ∀ {xs ys : List Int}, xs.map NestedKey.num = ys.map NestedKey.num → xs = ys
  | [], [], _ => rfl
  | [], _ :: _, e => by cases e
  | _ :: _, [], e => by cases e
  | x :: xs, y :: ys, e => by
    rw [List.map_cons, List.map_cons] at e
    injection e with e1 e2
    injection e1 with e1
    rw [e1, num_inj e2]
theorem nk_inj {k j : NK} (e : nk k = nk j) : k = j := by
  obtain ⟨a, b, c⟩ := k
  obtain ⟨a', b', c'⟩ := j
  unfold nk at e
  injection e with e
  injection e with e1 e
  injection e with e2 e
  injection e with e3 _
  injection e1 with e1
  injection e2 with e2
  injection e3 with e3
  rw [show a = a' from e1, show b = b' from e2, show c = c' from num_inj e3]
theorem nk_dep (k : NK) : (nk k).depth ≤ 8 := by
  have h : ∀ xs : List Int, NestedKey.depthAll (xs.map .num) = 0 := fun xs => by
    induction xs with
    | nil => rfl
    | cons x r ih =>
      show max 0 (NestedKey.depthAll (r.map .num)) = 0
      rw [ih]
      rfl
  show max 0 (max 0 (max (NestedKey.depthAll (k.2.2.map .num) + 1) 0)) + 1 ≤ 8
  rw [h]
  decide
/-- the value y in H is the key k -/
def KeyAt (K : PySem.W.Frag) (H : Hp) (y : V) (k : NK) : Prop := ∃ b m, y = .ref b ∧ SqT K H b [.int k.1, .int k.2.1, .ref m] ∧ SqT K H m (k.2.2.map V.int)
theorem KeyAt.tk {K : PySem.W.Frag} {H H' : Hp} {y : V} {k : NK} (t : TK K H H') (h : KeyAt K H y k) : KeyAt K H' y k := by
  obtain ⟨b, m, e, h1, h2⟩ := h
  exact ⟨b, m, e, t _ _ h1, t _ _ h2⟩
theorem nums_all {h : Heap} : ∀ {xs : List Int} {us : List Value}, Vals (xs.map V.int) us → NestedAll h (xs.map .num) us
  | [], _, r => by cases r; exact .nil
  | x :: xs, _, r => by
    rw [List.map_cons] at r
    cases r with
    | cons a b =>
      obtain ⟨t, rfl⟩ := a
      exact .cons (.int x t) (nums_all b)
section
variable {X : Cx} {pins : List (Addr × Obj)} {σ : L2.St} {H : Hp} {s : Shared}
theorem tup_nested {a : Addr} {xs : List V} {ks : List NestedKey} (I : Inv X pins σ H s) (h : SqT X.K H a xs) (hk : ∀ us, Vals xs us → NestedAll s.heap ks us) : NestedIs s.heap (.tup ks) (.ref a) := by
  obtain ⟨its, r, ⟨o, h1, h2, n, h3⟩, _⟩ := I.tuple h
  exact .tup h1 h2 h3 (by simpa using hk its r)
theorem key_nested {y : V} {u : Value} {k : NK} (I : Inv X pins σ H s) (h : KeyAt X.K H y k) (ry : RelV y u) : ∃ b, u = .ref b ∧ y = .ref b ∧ (nestedKind X.prog X.w).is s.heap (nk k) b := by
  obtain ⟨b, m, rfl, h1, h2⟩ := h
  refine ⟨b, ry, rfl, tup_nested I h1 fun us r => ?_, nk_dep k⟩
  match us, r with
  | _, .cons ⟨t1, e1⟩ (.cons ⟨t2, e2⟩ (.cons e3 .nil)) =>
    subst e1 e2 e3
    exact .cons (.int _ _) (.cons (.int _ _) (.cons (tup_nested I h2 fun us r => nums_all r) .nil))
end
/-- an entry: the key, where it stands, the number -/
abbrev NE := NK × Addr × Int
def NEr : NE → (NestedKey × Addr × Value) → Prop := fun p q => q.1 = nk p.1 ∧ q.2.1 = p.2.1 ∧ ∃ t, q.2.2 = Value.int p.2.2 t
/-- the dict at a with the entries ks -/
def NdO (P : Program) (w : World) (a : Addr) (ks : List NE) : HO := .ext fun h => ks.length ≤ sizeLine ∧ (a == sysModules) = false ∧ ∃ xs, Paired NEr ks xs ∧
  ∃ o es ep, h.get? a = some o ∧ o.ExactDict ∧ o.data = .dict es ep ∧ es.toList = xs.map (entryOfKey (nestedKind P w)) ∧ (xs.map (·.1)).Nodup
def fnd (ks : List NE) (k : NK) : Option Int := (ks.find? fun p => decide (p.1 = k)).map (·.2.2)
def KeysIn (K : PySem.W.Frag) (H : Hp) (ks : List NE) : Prop := ∀ p ∈ ks, KeyAt K H (.ref p.2.1) p.1
theorem KeysIn.tk {K : PySem.W.Frag} {H H' : Hp} {ks : List NE} (t : TK K H H') (h : KeysIn K H ks) : KeysIn K H' ks := fun p hp => (h p hp).tk t
theorem KeysIn.snoc {K : PySem.W.Frag} {H : Hp} {ks : List NE} {k : NK} {b : Addr} {n : Int} (h : KeysIn K H ks) (g : KeyAt K H (.ref b) k) : KeysIn K H (ks ++ [(k, b, n)]) := fun p hp => by
  rcases List.mem_append.mp hp with hp | hp
  · exact h p hp
  · rw [List.mem_singleton] at hp
    subst hp
    exact g
theorem at_fnd {ks : List NE} {xs : List (NestedKey × Addr × Value)} (r : Paired NEr ks xs) (k : NK) :
    (fnd ks k = none ∧ atKey xs (nk k) = none) ∨ ∃ n b t, fnd ks k = some n ∧ atKey xs (nk k) = some (b, Value.int n t) := by
  induction r with
  | nil => exact .inl ⟨rfl, rfl⟩
  | @cons p q ps qs h r ih =>
    obtain ⟨e1, e2, t, e3⟩ := h
    by_cases e : p.1 = k
    · refine .inr ⟨p.2.2, q.2.1, t, ?_, ?_⟩
      · unfold fnd
        rw [List.find?_cons, decide_eq_true e]
        rfl
      · unfold atKey
        rw [List.find?_cons, decide_eq_true (by rw [e1, e])]
        show some (q.2.1, q.2.2) = _
        rw [e3]
    · have e' : ¬ q.1 = nk k := fun z => e (nk_inj (e1.symm.trans z))
      unfold fnd atKey at ih ⊢
      rw [List.find?_cons, decide_eq_false e, List.find?_cons, decide_eq_false e']
      exact ih
theorem pair_mem {α β : Type} {F : α → β → Prop} {x : β} : ∀ {l : List α} {m : List β}, Paired F l m → x ∈ m → ∃ p ∈ l, F p x
  | _, _, .nil, h => nomatch h
  | p :: _, _, .cons f _, .head _ => ⟨p, .head _, f⟩
  | _, _, .cons _ r, .tail _ h => let ⟨p, hp, f⟩ := pair_mem r h; ⟨p, .tail _ hp, f⟩
section
variable {P : Program} {w : World}
theorem nd_no {K : PySem.W.Frag} {H : Hp} {a : Addr} {ks : List NE} (e : H a = some (NdO P w a ks)) (xs : List V) : ¬ Rd H a (.tup xs) := by
  rintro (z | ⟨o, z⟩)
  · rw [e] at z
    cases z
  · rw [e] at z
    cases z
theorem nd_ok {H : Hp} {h : Heap} {a : Addr} {ks : List NE} (x : ObjOk P w H h a (NdO P w a ks)) (hk : ∀ p ∈ ks, (nestedKind P w).is h (nk p.1) p.2.1) : ks.length ≤ sizeLine ∧ (a == sysModules) = false ∧ ∃ xs, Paired NEr ks xs ∧ h.DictOfH (nestedKind P w) a xs := by
  obtain ⟨⟨few, low, xs, r, o, es, ep, at_, ex, dat, ents, nd⟩, _⟩ := x
  exact ⟨few, low, xs, r, o, es, ep, at_, ex, dat, ents, fun x hx => let ⟨p, hp, e1, e2, _⟩ := pair_mem r hx; e1 ▸ e2 ▸ hk p hp, nd⟩
theorem nd_mk {H : Hp} {h : Heap} {a : Addr} {ks : List NE} {xs : List (NestedKey × Addr × Value)} (z : ks.length ≤ sizeLine) (hd : (a == sysModules) = false) (r : Paired NEr ks xs) (d : h.DictOfH (nestedKind P w) a xs) : ObjOk P w H h a (NdO P w a ks) := by
  obtain ⟨o, es, ep, h1, h2, h3, h4, _, h5⟩ := d
  exact ⟨⟨z, hd, xs, r, o, es, ep, h1, h2, h3, h4, h5⟩, ⟨o, h1⟩, fun h1 h2 ⟨z, hd, xs, r, o, es, ep, g1, g2⟩ st => ⟨z, hd, xs, r, o, es, ep, st _ g1, g2⟩⟩
end
section
variable {X : Cx} {pins : List (Addr × Obj)} {σ : L2.St} {H : Hp} {s : Shared} {pos : Pos}
theorem nd_at {a : Addr} {ks : List NE} (I : Inv X pins σ H s) (e : H a = some (NdO X.prog X.w a ks)) (k : KeysIn X.K H ks) : ks.length ≤ sizeLine ∧ (a == sysModules) = false ∧ ∃ xs, Paired NEr ks xs ∧ s.heap.DictOfH (nestedKind X.prog X.w) a xs :=
  nd_ok (I.hok a _ e) fun p hp => by
    obtain ⟨b, _, e, h⟩ := key_nested I (k p hp) rfl
    cases e
    exact h
/-- {}, to be such a dict -/
def tNd (P : Program) (w : World) : TE := fun _ H Q => ∀ p, H p = none → Q (.ref p) (upd H p (NdO P w p []))
theorem pe_nd : PE X (.Dict [] [] pos) (tNd X.prog X.w) := ⟨fun pins s σ H Q I h =>
  wpAny_Dict_empty ⟨.ref s.heap.objs.size, _, I.laid (a := s.heap.objs.size) (o := NdO X.prog X.w s.heap.objs.size []) (t' := s.toks) (fun _ _ q => Heap.get?_push_of_some _ q) (Nat.le_refl _)
    (nd_mk (Nat.zero_le _) (beq_eq_false_iff_ne.mpr (Ne.symm (Nat.ne_of_lt I.big))) .nil (.new s.heap)), rfl, h _ (I.hok.fresh (Nat.le_refl _))⟩⟩
def rNdNot (P : Program) (w : World) (K : PySem.W.Frag) : R2 := fun y d H Q => ∃ a ks k, d = .ref a ∧ H a = some (NdO P w a ks) ∧ KeysIn K H ks ∧ KeyAt K H y k ∧ Q (.bl (!(fnd ks k).isSome)) H
theorem op_ndNot (hu : X.A.units + 9 < cLine) : OpR X (compareOp .NotIn) (rNdNot X.prog X.w X.K) := by
  intro pins s σ H x y v u Q I rx ry h
  obtain ⟨a, ks, k, rfl, e, hk, hy, q⟩ := h
  obtain ⟨b, rfl, _, hb⟩ := key_nested I hy rx
  obtain rfl : u = Value.ref a := ry
  obtain ⟨_, hd, xs, r, dd⟩ := nd_at I e hk
  have es : (fnd ks k).isSome = (atKey xs (nk k)).isSome := by
    rcases at_fnd r k with ⟨e1, e2⟩ | ⟨n, b', t, e1, e2⟩
    · rw [e1, e2]
      rfl
    · rw [e1, e2]
      rfl
  rw [es] at q
  exact wpAny_notIn_heap (knd := nestedKind X.prog X.w) (by show X.A.in1.units + 8 < cLine; rw [Around.in1_units]; omega) hb hd dd ⟨.bl (!(atKey xs (nk k)).isSome), H, I.tok _, rfl, q⟩
def rNdIx (P : Program) (w : World) (K : PySem.W.Frag) : R2 := fun d y H Q => ∃ a ks k n, d = .ref a ∧ H a = some (NdO P w a ks) ∧ KeysIn K H ks ∧ KeyAt K H y k ∧ fnd ks k = some n ∧ Q (.int n) H
theorem pe_ndIx {o i : Expr} {td ty : TE} (hu : X.A.units + 9 < cLine) (ho : PE X o td) (hi : PE X i ty) (hs : NoSl i) : PE X (.Subscript o i pos) (tOp (rNdIx X.prog X.w X.K) td ty) := by
  refine ⟨fun pins s σ H Q I h => ?_⟩
  refine subD_of PySem.F.slot_dict_getitem.lookup hs (thn (ho.run pins s σ H _ I h) fun u s1 ⟨x, H1, I1, rx, q1⟩ => thn (hi.run pins s1 σ H1 _ I1 q1) fun iv s2 ⟨y, H2, I2, ry, a, ks, k, n, ex, e, hk, hy, hn, q2⟩ => ?_)
  subst ex
  obtain rfl : u = Value.ref a := rx
  obtain ⟨b, rfl, _, hb⟩ := key_nested I2 hy ry
  obtain ⟨_, hd, xs, r, dd⟩ := nd_at I2 e hk
  refine ⟨dd.typeIs, ?_⟩
  rcases at_fnd r k with ⟨e1, _⟩ | ⟨n', b', t, e1, e2⟩
  · rw [hn] at e1
    cases e1
  · rw [hn] at e1
    cases e1
    exact wpAny_getItem_heap (knd := nestedKind X.prog X.w) (by show X.A.in1.units + 8 < cLine; rw [Around.in1_units]; omega) hb dd e2 ⟨.int n, H2, I2.tok _, ⟨t, rfl⟩, q2⟩
def rNdSet (P : Program) (w : World) (K : PySem.W.Frag) : TSet := fun o i v H Q => ∃ a ks k b n, o = .ref a ∧ i = .ref b ∧ v = .int n ∧ H a = some (NdO P w a ks) ∧ KeysIn K H ks ∧ KeyAt K H i k ∧ fnd ks k = none ∧ ks.length < sizeLine ∧ Q (upd H a (NdO P w a (ks ++ [(k, b, n)])))
theorem set_nd (hu : X.A.units + 9 < cLine) : PSet X (rNdSet X.prog X.w X.K) := by
  intro pins s σ H o i v ov iv u Q I ro ri rv h
  obtain ⟨a, ks, k, b, n, rfl, rfl, rfl, e, hk, hy, hn, hl, q⟩ := h
  obtain ⟨b', rfl, e2, hb⟩ := key_nested I hy ri
  cases e2
  obtain rfl : ov = Value.ref a := ro
  obtain ⟨t, rfl⟩ := rv
  obtain ⟨z, hd, xs, r, dd⟩ := nd_at I e hk
  have hz : xs.length ≤ sizeLine := by rw [← Paired.length r]; exact z
  refine wpAny_setItem_heap (hsz := hz) (knd := nestedKind X.prog X.w) (by show X.A.in1.units + 8 < cLine; rw [Around.in1_units]; omega) hb dd fun h' dd' sb => ⟨_, ?_, q⟩
  have e0 : atKey xs (nk k) = none := by
    rcases at_fnd r k with ⟨_, e2⟩ | ⟨n', b', t, e1, _⟩
    · exact e2
    · rw [hn] at e1
      cases e1
  rw [storedH_new e0] at dd'
  obtain ⟨ob, hob⟩ : ∃ ob, h'.get? a = some ob := let ⟨ob, _, _, g, _⟩ := dd'; ⟨ob, g⟩
  exact d_write I (by rw [e]; exact True.intro) sb ⟨ob, hob⟩ (nd_mk (by rw [List.length_append]; show ks.length + 1 ≤ _; omega) hd (Paired.snoc r ⟨rfl, rfl, t, rfl⟩) dd')
end
end Sea

set_option Elab.async false
set_option linter.all false
set_option maxRecDepth 100000
set_option maxHeartbeats 4000000
/-! a method whose first row is super().__init__(e) -/
namespace Sea
open PySem PySem.Spec PyProof.Rows L2 LamX NdefX ClX Evl StX
structure FunC (K : PySem.W.Frag) (x qual : Str) (st : Stmt) (cc cda f : Addr) (fd : FuncData) : Prop where
  ex : ∃ (oc : Value) (od : Option Addr) (kV doc pm : Value) (an : Option Addr) (ct : Value) (osl : Array (Option Value)),
    fd = PySem.W.fnX x qual (defArgs st) (defBody st) (defScope st) [("__class__", cc)] .none kV doc pm an (.ref cda) ct ∧ K.lookup f = some ⟨oc, od, .func fd, osl⟩
  cd : PySem.W.codeIn K (.ref cda) qual = true
  kp : PySem.W.keepIn K (.ref f) = true
/-- what super().m asks of the text, for an instance of D itself -/
structure SupT (P : Program) (K : PySem.W.Frag) (mg : Str → Option Value) (D cc cda f2 : Addr) (m : Str) : Prop where
  code : ∃ (ccl : Value) (cdd : Option Addr) (vs : Array Value) (ccs : Array (Option Value)) (file : Str) (tf : Tok), K.lookup cda = some ⟨ccl, cdd, .fields vs, ccs⟩ ∧ vs[2]? = some (.str file tf) ∧ ((P.main.file : Str) == file) = true
  cell : ∃ (cl : Value) (cld : Option Addr) (csl : Array (Option Value)), K.lookup cc = some ⟨cl, cld, .cell (some (.ref D)), csl⟩
  cls : ∃ cd, PySem.W.clsIn K D = some cd
  sub : PySem.W.mroIn K D (.ref D) = some true
  mS : mg "super" = none
  top : (P.main.scope.names.lookup ("super" : Str)).isSome = false
  opq : PySem.W.nsIn K cStatics "thirdparty.any" = some none
  meth : PySem.W.ks_superIn K D D m = some (some (.ref f2))
  ty : PySem.W.typeIn K (.ref f2) = some (.type "function")
  fi : PySem.W.fnIn K f2 = true
theorem boot_super : bootBuiltins "super" = some (.type "super") := by kernel_rfl
section
variable {P : Program} {w : World} {K : PySem.W.Frag} {mg : Str → Option Value} {base : Heap} {D cc cda f f2 : Addr} {x qual : Str} {st : Stmt} {fd fd2 : FuncData} {N ps ps2 : List Str} {sp sp2 : Sp} {k : Nat}
abbrev supF (x qual : Str) (st : Stmt) (cc cda : Addr) : NF := ⟨x, qual, defArgs st, defBody st, defScope st, [("__class__", cc)], cda⟩
theorem class_cell {H : Hp} {s : Shared} {A : Around} {outer : List Env} (e0 : Env0 P w K mg base A outer s H) (hc : ∃ (cl : Value) (cld : Option Addr) (csl : Array (Option Value)), K.lookup cc = some ⟨cl, cld, .cell (some (.ref D)), csl⟩) :
    CellsAt [("__class__", cc)] ["__class__"] [none] s.heap H := by
  obtain ⟨cl, cld, csl, hc⟩ := hc
  have hb := e0.bs _ _ (e0.mod.kin _ _ hc)
  have only : ∀ (y : Str) (c : Addr), ([("__class__", cc)] : List (Str × Addr)).lookup y = some c → y = "__class__" ∧ c = cc := fun y c e => by
    rw [List.lookup_cons] at e
    split at e
    · rename_i h
      cases e
      exact ⟨by simpa using h, rfl⟩
    · cases e
  refine ⟨rfl, fun y c e => ?_, fun x y c e1 e2 => ?_, fun i y e => ?_⟩
  · obtain ⟨_, rfl⟩ := only y c e
    exact ⟨hb.2, _, _, hb.1, rfl⟩
  · rw [(only x c e1).1, (only y c e2).1]
  · match i, e with
    | 0, e =>
      cases e
      exact ⟨cc, rfl, fun v z => by cases z⟩
/-- the end of the body is the end of the call -/
theorem body_end {F : NF} {A : Around} {outer : List Env} {s s' : Shared} {H : Hp} {E : XK} {Q : VK} {pins : List (Addr × Obj)} : ∀ (fl : Flow), SP (ncx (L2.CX P w) P w K mg base N F f A outer s H E) pins { nx := fun _ H' => Q .non H', rt := Q } fl s' →
    CR (L2.CX P w) outer P w H s Q E (.ok (.ret (match fl with | .ret v => v | _ => .none))) s'
  | .ret _, ⟨v, _, H', J, r, q⟩ => ⟨v, H', J.os, J.bare, J.base, J.hok, r, q⟩
  | .next, ⟨_, H', J, q⟩ => ⟨.non, H', J.os, J.bare, J.base, J.hok, rfl, q⟩
  | .brk, ⟨_, _, _, q⟩ => q.elim
  | .cont, ⟨_, _, _, q⟩ => q.elim
theorem fn_sup {e : Expr} {rest : List Stmt} {p0 p1 p2 p3 p4 : Pos} {pl : Sem Bool} (FC : FunC K x qual st cc cda f fd) (S : NScope N ps ["__class__"] (defScope st)) (SU : SupT P K mg D cc cda f2 "__init__")
    (G : FnR P w K mg base CX0 k f2 sp2)
    (hst : defBody st = .Expr (.Call (.Attribute (.Call (.Name "super" p0) [] [] p1) "__init__" p2) [e] [] p3) p4 :: rest)
    (hself : ∃ ar, ((defArgs st).posonlyargs ++ (defArgs st).args).head? = some ar ∧ N[0]? = some ar.arg ∧ (defScope st).names.lookup ar.arg = some .local)
    (hks : (defScope st).names.lookup ("super" : Str) = some .globalImplicit) (hkc : (defScope st).names.lookup ("__class__" : Str) = some .free)
    (len : ∀ vs H Q E, sp vs H Q E → vs.length = ps.length)
    (he : ∀ L, eval (.Call (.Attribute (.Call (.Name "super" p0) [] [] p1) "__init__" p2) [e] [] p3) (envF (supF x qual st cc cda) f L) = (do
      let ov ← attributeBase (.Call (.Name "super" p0) [] [] p1) "__init__" (envF (supF x qual st cc cda) f L) (eval (.Call (.Name "super" p0) [] [] p1) (envF (supF x qual st cc cda) f L))
      standAt p2.atName
      let (g, first) ← holding [ov] (getMethod ov "__init__" pl)
      callWith p3 g first (backTo p3 (starEach [e] (envF (supF x qual st cc cda) f L))) []))
    (hi : ∀ L, interactive (envF (supF x qual st cc cda) f L) = false)
    (hs : ∀ L, swapsWith (.Call (.Attribute (.Call (.Name "super" p0) [] [] p1) "__init__" p2) [e] [] p3) none p4.line (envF (supF x qual st cc cda) f L) = pure false)
    (hse : ∀ L, starEach [e] (envF (supF x qual st cc cda) f L) = (false, eval e (envF (supF x qual st cc cda) f L)) :: [])
    (hbody : ∀ (A : Around) (outer : List Env) (s : Shared) (H : Hp) (vs : List V) (Q : VK) (E : XK), Room k (A.deeper (envF (supF x qual st cc cda) f s.heap.objs.size)) → sp vs H Q E →
      ∃ te t, PA (ncx (L2.CX P w) P w K mg base N (supF x qual st cc cda) f A outer s H E) [e] te ∧ PSs (ncx (L2.CX P w) P w K mg base N (supF x qual st cc cda) f A outer s H E) rest t ∧
        ∃ a dx fs, (startF N vs [none])[0]? = some (some (.ref a)) ∧ H a = some (.ins D dx fs) ∧ te (startF N vs [none]) H fun ys H1 => sp2 (.ref a :: ys) H1 (fun _ H2 => t { nx := fun _ H' => Q .non H', rt := Q } (startF N vs [none]) H2) (fun _ _ _ => False)) :
    FnOk P w K mg base (L2.CX P w) (k + 1) f fd ps sp := by
  obtain ⟨oc, od, kV, doc, pm, an, ct, osl, rfl, lk⟩ := FC.ex
  refine ⟨len, fun A outer s H args us vs Q E hr e0 hb r hsp => ?_⟩
  have hl := len _ _ _ _ hsp
  have KX : K.In s.heap := e0.mod.kin.keeps fun b o e => (e0.bs b o e).1
  have lim : s.heap.NoLimit := e0.mod.nolimit.keeps fun b o e => (e0.bs b o e).1
  have C := class_cell e0 SU.cell
  obtain ⟨te, t, hte, ht, a, dx, fs, ha0, hHa, hq⟩ := hbody A outer s H vs Q E (hr.deeper _) hsp
  refine ks_codeAny_call_defAt (binds := ps.zip us) hr.depth (KX _ _ lk) rfl lim (PySem.W.codeRec_of KX FC.cd) rfl hb S.nocell (fun ⟨n, _⟩ hy => S.par n (List.of_mem_zip hy).1) (fun h₁ hns kp => ?_) S.co S.gen S.kind
  have I : Inv (ncx (L2.CX P w) P w K mg base N (supF x qual st cc cda) f A outer s H E) [] (startF N vs [none]) H { s with heap := h₁, toks := s.toks + (ps.zip us).length } := inv_startN (ws := [none]) S hr.hd e0 hl r C hns kp
  show _root_.PySem.wpAt (model P w) (A.deeper (envF (supF x qual st cc cda) f s.heap.objs.size)) (.func (defBody st) (envF (supF x qual st cc cda) f s.heap.objs.size)) (execs (defBody st) (envF (supF x qual st cc cda) f s.heap.objs.size)) _ _ _
  rw [hst]
  obtain ⟨ar, har, hN0, hlo⟩ := hself
  obtain ⟨ccl, cdd, cvs, ccs, file, tf, hcode, hvs, hfile⟩ := SU.code
  obtain ⟨cl, cld, csl, hcell⟩ := SU.cell
  obtain ⟨cdD, hD⟩ := SU.cls
  have X1 : K.In h₁ := KX.keeps kp
  obtain ⟨oD, hD1, hD2⟩ : ∃ oD, h₁.get? D = some oD ∧ oD.data = .cls cdD := by
    unfold PySem.W.clsIn at hD
    split at hD
    · rename_i c d cd' sl ho
      cases hD
      exact ⟨_, X1 _ _ ho, rfl⟩
    · cases hD
  obtain ⟨mA, O, _, _, _, _⟩ := ins_get I.hok hHa
  obtain ⟨od2, J, _⟩ := O.look
  refine ks_wpAt_execs_cons (ks_wpAt_Expr_any (ks_wpAt_MethodCall (pl := pl) ?_ (he _)) (hi _) (hs _))
  refine ks_wpAt_super_base (env := envF (supF x qual st cc cda) f s.heap.objs.size) hks hkc rfl rfl (X1 _ _ lk) rfl har rfl (X1 _ _ hcode) rfl hvs hfile SU.top ?_
  obtain ⟨mb, b1, b2⟩ := I.mod.blt
  refine PySem.W.ks_loadName_global S.kind hks (Calls.loadGlobal_builtin (env := envF (supF x qual st cc cda) f s.heap.objs.size) (I.mod.glob.keeps I.bk) SU.mS (b1.keeps I.bk) ((b2 "super" (by decide)).trans boot_super) ⟨rfl, ?_⟩)
  refine wpAny_loadName_free S.kind hkc rfl ⟨_, X1 _ _ hcell, rfl⟩ ?_
  obtain ⟨m, hm1, hm2⟩ := I.loc
  obtain ⟨u, ru, lu⟩ := hm2 0 ar.arg (.ref a) hN0 ha0 (.inl hlo)
  obtain rfl : u = Value.ref a := ru
  have hma : m ar.arg = some (.ref a) := by
    rcases lu with ⟨_, z⟩ | ⟨z, _⟩
    · exact z
    · have z : (defScope st).names.lookup ar.arg = some .cell ∨ (defScope st).names.lookup ar.arg = some .free := z
      rw [hlo] at z
      rcases z with z | z <;> cases z
  refine wpAny_loadName_local S.kind hlo hm1 hma ?_
  refine ks_wpAny_isType_cls hD1 hD2 ⟨rfl, ?_⟩
  refine ks_wpAny_call_super hD1 hD2 J.at_ J.cls (fun c e => ?_) (PySem.W.looks_mroIn X1 SU.sub) (fun h' eN k => ?_)
  · have := J.no
    unfold PySem.W.notCls at this
    rw [e] at this
    exact Bool.noConfusion this
  have I2 := pin_new (t' := s.toks + (ps.zip us).length) I k (Nat.le_refl _) eN (fun v z => by cases z)
  have X2 : K.In h' := X1.keeps k
  obtain ⟨of, hof, hofc⟩ : ∃ of, h'.get? f2 = some of ∧ of.cls = .type "function" := by
    have ht' : (K.lookup f2).map (·.cls) = some (.type "function") := SU.ty
    cases z : K.lookup f2 with
    | none =>
      rw [z] at ht'
      cases ht'
    | some of =>
      rw [z] at ht'
      exact ⟨of, X2 _ _ z, Option.some.inj ht'⟩
  have hm := SU.meth
  unfold PySem.W.ks_superIn at hm
  rw [hD] at hm
  refine PySem.ks_wpAny_getMethod_super (pin_at I2) (PySem.W.looks_opaque X2 SU.opq) (l₀ := cdD.mro) (fun A Q E s k q => wpAny_bind ((PySem.W.looks_clsIn X2 hD) A _ E s k (wpAny_pure q))) rfl X2 hm hof hofc (PySem.W.ks_ne X1 J hD) rfl ?_
  have I3 := pin_new (t' := s.toks + (ps.zip us).length + 1) (o := PySem.W.methodObj (.ref f2) (.ref a)) I2 (fun b o e => Heap.get?_push_of_some _ e) (Nat.le_refl _) (Heap.get?_push_size _ rfl) (fun v z => by cases z)
  have hargs := hte.run p3 _ _ _ _ _ I3 hq
  have hse' := hse s.heap.objs.size
  have hargs : wpAny (model P w) (A.deeper (envF (supF x qual st cc cda) f s.heap.objs.size)) (spliced (backTo p3 (starEach [e] (envF (supF x qual st cc cda) f s.heap.objs.size)))) _ _ _ := hargs
  show wpAny (model P w) (A.deeper (envF (supF x qual st cc cda) f s.heap.objs.size)) (callWith p3 (.ref h'.objs.size) [] (backTo p3 (starEach [e] (envF (supF x qual st cc cda) f s.heap.objs.size))) []) _ _ _
  rw [hse'] at hargs ⊢
  refine PySem.W.callWith_of (P := PySem.W.MethP K h'.objs.size f2 (.ref a)) rfl (PySem.W.keeps_M SU.fi) (Calls.evalArgs_plain (thn hargs fun us s1 hh => ?_))
  obtain ⟨ys, H1, I4, r4, q4⟩ := hh
  refine ⟨⟨pin_at I4, I4.kIn⟩, wpAny_call (PySem.W.method_call (pin_at I4) ?_)⟩
  have run := run_fnR (us := Value.ref a :: us) (vs := V.ref a :: ys) G (hr.deeper _) pass0 I4 (.cons rfl r4) q4
  refine codeAny_mono run fun r s' hq => ?_
  match r, hq with
  | .error _, hq => exact hq
  | .ok (.ret _), ⟨_, H2, I5, _, q5⟩ => exact PySem.wpAt_of_wpAny (wpAny_mono (ht.run _ _ _ _ _ I5 q5) (fun fl _ hs => body_end fl hs) fun _ _ hs => hs)
end
end Sea

set_option Elab.async false
set_option linter.all false
set_option maxRecDepth 100000
set_option maxHeartbeats 4000000
namespace Sea
open PySem PySem.Spec PyProof.Rows L2 LamX NdefX ClX Evl StX
def top (i : Nat) : Stmt := PySem.Challenge.pw_seasonpass_k44_whole_best_limits.main.body.getD i (.Pass ⟨0, 0, 0, 0⟩)
abbrev sStart : Stmt := top 28
abbrev sDrawn : Stmt := top 29
/-! ### draws, second kind: the state keeps the script, a place, a number of its own, the rest of a large cell -/
def Ds (K : PySem.W.Frag) (H : Hp) (h c : Addr) : Prop := ∃ (p m r : Int) (ns : List Int), 0 ≤ p ∧ H h = some (.lst [.ref c, .int p, .int m, .int r]) ∧ SqL K H c (ns.map V.int) ∧ ns.length ≤ 63
/-- all kept but one -/
def Kh (h : Addr) (H H' : Hp) : Prop := ∀ b o, H b = some o → b ≠ h → H' b = some o
theorem Kh.refl {h : Addr} {H : Hp} : Kh h H H := fun _ _ e _ => e
theorem Kh.trans {h : Addr} {H H1 H2 : Hp} (a : Kh h H H1) (b : Kh h H1 H2) : Kh h H H2 := fun x o e n => b x o (a x o e n) n
theorem Kh.same {h : Addr} {H H' : Hp} (s : Same H H') : Kh h H H' := fun b o e _ => s b o e
theorem Kh.at {h : Addr} {H : Hp} {o : HO} : Kh h H (upd H h o) := fun b x e n => by
  rw [upd_ne n]
  exact e
/-- the script is read on, whatever is written to the state -/
theorem scr_keep {K : PySem.W.Frag} {H H' : Hp} {h c : Addr} {p m r : Int} {ns : List Int} (e : H h = some (.lst [.ref c, .int p, .int m, .int r])) (s : SqL K H c (ns.map V.int)) (k : Kh h H H') : SqL K H' c (ns.map V.int) := by
  rcases s with s | s
  · have ne : c ≠ h := by
      rintro rfl
      rcases s with s | ⟨o, s⟩
      · rw [e] at s
        match ns, s with
        | [], s => cases s
        | n :: r, s => cases s
      · rw [e] at s
        cases s
    rcases s with s | ⟨o, s⟩
    · exact .inl (.inl (k _ _ s ne))
    · exact .inl (.inr ⟨o, k _ _ s ne⟩)
  · exact .inr s
theorem Ds.same {K : PySem.W.Frag} {H H' : Hp} {h c : Addr} (d : Ds K H h c) (s : Same H H') : Ds K H' h c := by
  obtain ⟨p, m, r, ns, h0, e1, e2, l⟩ := d
  exact ⟨p, m, r, ns, h0, s _ _ e1, ex_l s e2, l⟩
theorem Ds.tk {K : PySem.W.Frag} {H H' : Hp} {h c : Addr} (d : Ds K H h c) (k : Kh h H H') : TK K H H' := by
  obtain ⟨p, m, r, ns, _, e1, _, _⟩ := d
  refine .but (fun b => b = h) (fun b o e n => k b o e n) fun b xs z => ?_
  rw [z]
  exact Rd.lst_no e1
theorem Ds.nh {K : PySem.W.Frag} {H : Hp} {h c b : Addr} (d : Ds K H h c) (n : H b = none) : b ≠ h := by
  obtain ⟨p, m, r, ns, _, e1, _, _⟩ := d
  rintro rfl
  rw [e1] at n
  cases n
theorem Ds.new {K : PySem.W.Frag} {H : Hp} {h c a : Addr} {o : HO} (d : Ds K H h c) (n : H a = none) : Ds K (upd H a o) h c := d.same (same_new n)
/-- a list of one's own is written, made behind the heap H0: the draws stand -/
theorem Ds.put {K : PySem.W.Frag} {H0 H : Hp} {h c l : Addr} {o : HO} (d0 : Ds K H0 h c) (k : Kh h H0 (upd H l o)) (d : Ds K H h c) (n : l ≠ h) : Ds K (upd H l o) h c := by
  obtain ⟨_, _, _, ns, _, e1, e2, l2⟩ := d0
  obtain ⟨p, m, r, _, p0, f1, _, _⟩ := d
  exact ⟨p, m, r, ns, p0, by rw [upd_ne n.symm]; exact f1, scr_keep e1 e2 k, l2⟩
theorem scStart : FnScope ["_law_script", "_law_mixed", "_law_cell"] ["_law_script"] (defScope sStart) := ⟨rfl, rfl, rfl, by decide +kernel, rfl, by decide +kernel, by decide +kernel⟩
theorem scDrawn : FnScope ["_law_state", "_law_count", "_law_result", "_law_cell"] ["_law_state", "_law_count"] (defScope sDrawn) := ⟨rfl, rfl, rfl, by decide +kernel, rfl, by decide +kernel, by decide +kernel⟩
def spStart (K : PySem.W.Frag) : Sp := fun vs H Q _ => ∃ (a : Addr) (ns : List Int), vs = [.ref a] ∧ SqL K H a (ns.map V.int) ∧ ns.length ≤ 63 ∧ ∀ (h : Addr) (H' : Hp), Same H H' → H h = none → Ds K H' h a → Q (.ref h) H'
def spDrawn (K : PySem.W.Frag) : Sp := fun vs H Q _ => ∃ (h c : Addr) (lim : Int), vs = [.ref h, .int lim] ∧ 0 < lim ∧ lim.natAbs.log2 < 9000 ∧ Ds K H h c ∧ ∀ (v : Int) (H' : Hp), 0 ≤ v → v < lim → Ds K H' h c → Kh h H H' → Q (.int v) H'
section
variable {P : Program} {w : World} {K : PySem.W.Frag} {mg : Str → Option Value} {base : Heap}
theorem ok_start {f : Addr} {fd : FuncData} {k : Nat} (F : Fun K "_law_start" "_law_start" sStart f fd) : FnOk P w K mg base CX0 (k + 1) f fd ["_law_script"] (spStart K) := by
  refine F.ok scStart (fun vs H Q E h => ?_) (fun cdv A outer s H vs Q E hr h => ?_)
  · obtain ⟨a, ns, rfl, _⟩ := h
    rfl
  · obtain ⟨a, ns, rfl, hS, hlen, q⟩ := h
    refine ⟨_, pss_cons (ps_set (i := 1) scStart.nd rfl (.inl rfl) pe_int) (pss_cons (ps_for PassesOwn.never rfl (pi_list (pv 0)) (pg_name (i := 2) scStart.nd rfl (.inl rfl))
        (pss_one (ps_set (i := 1) scStart.nd rfl (.inl rfl) (pe_op op_modN (pe_op op_add (pe_op op_add (pe_op op_mul (pv 1) pe_int) (pv 2)) pe_int) pe_int))))
      (pss_one (ps_ret (pe_lst (pa_cons (pv 0) (pa_cons pe_int (pa_cons (pv 1) (pa_cons pe_int pa_nil)))))))), ?_⟩
    refine ⟨_, rfl, a, rfl, ⟨_, hS⟩, for_list (K := K) (a := a) (xs := ns.map V.int) (fun i σ H' => ∃ (m : Int) (v : Option V), σ = [some (.ref a), some (.int m), v] ∧ H' = H)
      ⟨1, none, rfl, rfl⟩ (fun i σ H' _ ⟨_, _, _, e⟩ => by rw [e]; exact hS) ?_ ?_⟩
    · rintro i y σ H' hi ⟨m, v, rfl, rfl⟩
      obtain ⟨u, rfl⟩ : ∃ u, y = V.int u := by
        rw [List.getElem?_map] at hi
        cases e : ns[i]? with
        | none => rw [e] at hi; cases hi
        | some u => rw [e] at hi; exact ⟨u, (Option.some.inj hi).symm⟩
      refine ⟨_, rfl, _, _, rfl, rfl, .inr ⟨by decide, by decide⟩, _, rfl, _, _, rfl, rfl, _, _, rfl, rfl, _, _, rfl, rfl, (by show (2147483647 : Int) ≠ 0; decide), ?_⟩
      exact ⟨_, _, rfl, rfl⟩
    · rintro σ H' ⟨m, v, rfl, rfl⟩
      refine ⟨_, rfl, _, rfl, Nat.le_of_lt (small1000 (show 4 ≤ 1000 by decide)), fun l nl => ?_⟩
      exact q l _ (same_new nl) nl ⟨0, m, 0, ns, Int.le_refl 0, upd_same, ex_l (Ex.new nl) hS, hlen⟩
theorem ok_drawn {f : Addr} {fd : FuncData} {k : Nat} (F : Fun K "_law_drawn" "_law_drawn" sDrawn f fd) (mN : mg "len" = none) : FnOk P w K mg base CX0 (k + 1) f fd ["_law_state", "_law_count"] (spDrawn K) := by
  refine F.ok scDrawn (fun vs H Q E h => ?_) (fun cdv A outer s H vs Q E hr h => ?_)
  · obtain ⟨h, c, lim, rfl, _⟩ := h
    rfl
  · obtain ⟨h, c, lim, rfl, l0, l1, ⟨p, m, r, ns, p0, e1, e2, hlen⟩, q⟩ := h
    refine ⟨_, pss_cons (ps_if (pt_cmpR op_gt (pe_ixl (pv 0) pe_int) pe_int (nomark _))
          (pss_cons (ps_set (i := 2) scDrawn.nd rfl (.inl rfl) (pe_op op_modN (pe_ixl (pv 0) pe_int) (pv 1)))
          (pss_cons (ps_asg (pe_op op_fdivW (pe_ixl (pv 0) pe_int) (pv 1)) (pg_sub (pv 0) pe_int set_list))
            (pss_one (ps_ret (pv 2))))) pss_nil)
      (pss_cons (ps_asg (pe_op op_add (pe_ixl (pv 0) pe_int) pe_int) (pg_sub (pv 0) pe_int set_list))
      (pss_cons (ps_if (pt_cmpR L2.op_le (pe_ixl (pv 0) pe_int) (pe_callB call_len_seq (by rfl) mN PySem.boot_len (pa_cons (pe_ixl (pv 0) pe_int) pa_nil)) (nomark _))
          (pss_cons (ps_set (i := 3) scDrawn.nd rfl (.inl rfl) (pe_ixl (pe_ixl (pv 0) pe_int) (pe_op op_sub (pe_ixl (pv 0) pe_int) pe_int)))
          (pss_cons (ps_asg (pe_ifExp (pt_cmpR op_ge (pv 3) (pe_op op_pow pe_int pe_int) (nomark _)) (pe_op op_fdivW (pv 3) (pv 1)) pe_int) (pg_sub (pv 0) pe_int set_list))
            (pss_one (ps_ret (pe_op op_modN (pv 3) (pv 1)))))) pss_nil)
      (pss_cons (ps_asg (pe_op op_modN (pe_op op_add (pe_op op_mul (pe_ixl (pv 0) pe_int) pe_int) pe_int) pe_int) (pg_sub (pv 0) pe_int set_list))
      (pss_one (ps_ret (pe_op op_modN (pe_op op_fdivN (pe_ixl (pv 0) pe_int) pe_int) (pv 1))))))), ?_⟩
    have n0 : lim ≠ 0 := Int.ne_of_gt l0
    have done : ∀ (v m' r' p' : Int) (H' : Hp), 0 ≤ p' → H' h = some (.lst [.ref c, .int p', .int m', .int r']) → Kh h H H' → Q (.int (v.fmod lim)) H' := fun v m' r' p' H' hp' e k =>
      q _ _ (Int.fmod_nonneg_of_pos _ l0) (Int.fmod_lt_of_pos _ l0) ⟨p', m', r', ns, hp', e, scr_keep e1 e2 k, hlen⟩ k
    refine ⟨_, rfl, h, _, 3, _, rfl, rfl, SqL.of e1, rfl, _, _, rfl, rfl, _, rfl, ?_⟩
    refine ite2 (fun hgt => ?_) (fun _ => ?_)
    · refine ⟨_, rfl, h, _, 3, _, rfl, rfl, SqL.of e1, rfl, _, rfl, _, _, rfl, rfl, n0, ?_⟩
      refine ⟨_, rfl, h, _, 3, _, rfl, rfl, SqL.of e1, rfl, _, rfl, _, _, rfl, rfl, ⟨l0, l1⟩, ?_⟩
      refine ⟨_, rfl, h, _, 3, 3, rfl, rfl, e1, rfl, ?_⟩
      refine ⟨_, rfl, ?_⟩
      exact done r m _ p _ p0 upd_same Kh.at
    · refine ⟨_, rfl, h, _, 1, _, rfl, rfl, SqL.of e1, rfl, _, _, rfl, rfl, ?_⟩
      refine ⟨_, rfl, h, _, 1, 1, rfl, rfl, e1, rfl, ?_⟩
      have f1 : upd H h (.lst [V.ref c, .int (p + 1), .int m, .int r]) h = some (.lst [V.ref c, .int (p + 1), .int m, .int r]) := upd_same
      have f2 : SqL K (upd H h (.lst [V.ref c, .int (p + 1), .int m, .int r])) c (ns.map V.int) := scr_keep e1 e2 Kh.at
      refine ⟨_, rfl, h, _, 1, _, rfl, rfl, SqL.of f1, rfl, ?_⟩
      refine ⟨_, rfl, h, _, 0, _, rfl, rfl, SqL.of f1, rfl, c, _, rfl, .inl (f2), _, _, rfl, rfl, _, rfl, ?_⟩
      refine ite2 (fun hle => ?_) (fun _ => ?_)
      · have hle := of_decide_eq_true hle
        rw [List.length_map] at hle
        obtain ⟨j, rfl⟩ := Int.eq_ofNat_of_zero_le p0
        have hj : j < ns.length := by omega
        have hat : atI (ns.map V.int) ((j : Int) + 1 - 1) = some (.int ns[j]) := by
          rw [Int.add_sub_cancel]
          refine at_nat (by rw [List.length_map]; exact hj) ?_
          rw [List.getElem?_map, List.getElem?_eq_getElem hj]
          rfl
        refine ⟨_, rfl, h, _, 0, _, rfl, rfl, SqL.of f1, rfl, _, rfl, h, _, 1, _, rfl, rfl, SqL.of f1, rfl, _, _, rfl, rfl, c, _, _, _, rfl, rfl, f2, hat, ?_⟩
        refine ⟨_, rfl, _, _, rfl, rfl, ⟨by decide, by decide, by decide⟩, _, _, rfl, rfl, _, rfl, ?_⟩
        refine ite2 (fun _ => ?_) (fun _ => ?_)
        · refine ⟨_, rfl, _, rfl, _, _, rfl, rfl, ⟨l0, l1⟩, ?_⟩
          refine ⟨_, rfl, h, _, 3, 3, rfl, rfl, f1, rfl, ?_⟩
          refine ⟨_, rfl, _, rfl, _, _, rfl, rfl, n0, ?_⟩
          exact done _ _ _ _ _ (by omega) upd_same (Kh.at.trans Kh.at)
        · refine ⟨_, rfl, h, _, 3, 3, rfl, rfl, f1, rfl, ?_⟩
          refine ⟨_, rfl, _, rfl, _, _, rfl, rfl, n0, ?_⟩
          exact done _ _ _ _ _ (by omega) upd_same (Kh.at.trans Kh.at)
      · refine ⟨_, rfl, h, _, 2, _, rfl, rfl, SqL.of f1, rfl, _, _, rfl, rfl, .inr ⟨by decide, by decide⟩, _, _, rfl, rfl, _, _, rfl, rfl, (by show (2147483647 : Int) ≠ 0; decide), ?_⟩
        refine ⟨_, rfl, h, _, 2, 2, rfl, rfl, f1, rfl, ?_⟩
        refine ⟨_, rfl, h, _, 2, _, rfl, rfl, SqL.of upd_same, rfl, _, _, rfl, rfl, ⟨by decide, by decide⟩, _, rfl, _, _, rfl, rfl, n0, ?_⟩
        exact done _ _ _ _ _ (by omega) upd_same (Kh.at.trans Kh.at)
end
end Sea

set_option Elab.async false
set_option linter.all false
set_option maxRecDepth 100000
set_option maxHeartbeats 4000000
namespace Sea
open PySem PySem.Spec PyProof.Rows L2 LamX NdefX ClX Evl StX
def PrV (K : PySem.W.Frag) (H : Hp) (v : V) (x : Int × Int) : Prop := ∃ b, v = .ref b ∧ SqT K H b [.int x.1, .int x.2]
inductive PsV (K : PySem.W.Frag) (H : Hp) : List V → List (Int × Int) → Prop
  | nil : PsV K H [] []
  | cons {v : V} {x : Int × Int} {vs : List V} {L : List (Int × Int)} : PrV K H v x → PsV K H vs L → PsV K H (v :: vs) (x :: L)
theorem PrV.tk {K : PySem.W.Frag} {H H' : Hp} {v : V} {x : Int × Int} (t : TK K H H') (h : PrV K H v x) : PrV K H' v x := by
  obtain ⟨b, e, h⟩ := h
  exact ⟨b, e, t _ _ h⟩
theorem PsV.tk {K : PySem.W.Frag} {H H' : Hp} {vs : List V} {L : List (Int × Int)} (t : TK K H H') (h : PsV K H vs L) : PsV K H' vs L := by
  induction h with
  | nil => exact .nil
  | cons a _ ih => exact .cons (a.tk t) ih
theorem PsV.len {K : PySem.W.Frag} {H : Hp} {vs : List V} {L : List (Int × Int)} (h : PsV K H vs L) : vs.length = L.length := by
  induction h with
  | nil => rfl
  | cons _ _ ih => rw [List.length_cons, List.length_cons, ih]
theorem PsV.get {K : PySem.W.Frag} {H : Hp} {vs : List V} {L : List (Int × Int)} (h : PsV K H vs L) : ∀ {i : Nat} {v : V}, vs[i]? = some v → ∃ x, L[i]? = some x ∧ PrV K H v x := by
  induction h with
  | nil =>
    intro i v e
    simp at e
  | @cons v0 x0 vs0 L0 a _ ih =>
    intro i v e
    cases i with
    | zero =>
      have e' : v0 = v := by simpa using e
      exact ⟨x0, by simp, e' ▸ a⟩
    | succ j => simpa using ih (i := j) (v := v) (by simpa using e)
theorem PsV.app {K : PySem.W.Frag} {H : Hp} {vs ws : List V} {L M : List (Int × Int)} (h : PsV K H vs L) (g : PsV K H ws M) : PsV K H (vs ++ ws) (L ++ M) := by
  induction h with
  | nil => exact g
  | cons a _ ih => exact .cons a ih
theorem PsV.take {K : PySem.W.Frag} {H : Hp} {vs : List V} {L : List (Int × Int)} (h : PsV K H vs L) : ∀ n, PsV K H (vs.take n) (L.take n) := by
  induction h with
  | nil =>
    intro n
    simp
    exact .nil
  | cons a _ ih =>
    intro n
    cases n with
    | zero => exact .nil
    | succ m => exact .cons a (ih m)
theorem PsV.drop {K : PySem.W.Frag} {H : Hp} {vs : List V} {L : List (Int × Int)} (h : PsV K H vs L) : ∀ n, PsV K H (vs.drop n) (L.drop n) := by
  induction h with
  | nil =>
    intro n
    simp
    exact .nil
  | cons a b ih =>
    intro n
    cases n with
    | zero => exact .cons a b
    | succ m => exact ih m
def psD (L : List (Int × Int)) : PyData := .tuple (L.map fun x => .tuple [.int x.1, .int x.2])
theorem PsV.dp {K : PySem.W.Frag} {H : Hp} {vs : List V} {L : List (Int × Int)} (h : PsV K H vs L) : DpAll K H vs (L.map fun x => .tuple [.int x.1, .int x.2]) := by
  induction h with
  | nil => exact .nil
  | cons a _ ih =>
    obtain ⟨b, rfl, hb⟩ := a
    exact .cons (.tup hb (.cons (.int _) (.cons (.int _) .nil))) ih
/-- a tuple of passes at v -/
def PsA (K : PySem.W.Frag) (H : Hp) (v : V) (L : List (Int × Int)) : Prop := ∃ a vs, v = .ref a ∧ SqT K H a vs ∧ PsV K H vs L
theorem PsA.tk {K : PySem.W.Frag} {H H' : Hp} {v : V} {L : List (Int × Int)} (t : TK K H H') (h : PsA K H v L) : PsA K H' v L := by
  obtain ⟨a, vs, e, h1, h2⟩ := h
  exact ⟨a, vs, e, t _ _ h1, h2.tk t⟩
theorem PsA.dp {K : PySem.W.Frag} {H : Hp} {v : V} {L : List (Int × Int)} (h : PsA K H v L) : Dp K H v (psD L) := by
  obtain ⟨a, vs, rfl, h1, h2⟩ := h
  exact .tup h1 h2.dp
theorem psD_lay : ∀ L : List (Int × Int), PyData.canLayAll0 (L.map fun x => PyData.tuple [.int x.1, .int x.2]) = true
  | [] => rfl
  | x :: L => by
    show ((true && (true && true)) && PyData.canLayAll0 (L.map fun x => PyData.tuple [.int x.1, .int x.2])) = true
    rw [psD_lay L]
    rfl
theorem psD_eqv : ∀ L M : List (Int × Int), PyData.eqvAll (L.map fun x => .tuple [.int x.1, .int x.2]) (M.map fun x => .tuple [.int x.1, .int x.2]) = decide (L = M)
  | [], [] => rfl
  | [], _ :: _ => rfl
  | _ :: _, [] => rfl
  | x :: L, y :: M => by
    show (((x.1 == y.1) && ((x.2 == y.2) && true)) && PyData.eqvAll (L.map fun x => .tuple [.int x.1, .int x.2]) (M.map fun x => .tuple [.int x.1, .int x.2])) = _
    rw [psD_eqv L M, Bool.eq_iff_iff]
    obtain ⟨x1, x2⟩ := x
    obtain ⟨y1, y2⟩ := y
    simp
theorem psD_eq (L M : List (Int × Int)) : PyData.eqv (psD L) (psD M) = decide (L = M) := psD_eqv L M
abbrev sIT : Stmt := inClass (top 3) 0
abbrev sInit : Stmt := inClass (top 8) 3
abbrev sPasses : Stmt := inClass (top 8) 5
abbrev sValid : Stmt := top 9
theorem scIT : FnScope ["self", "index"] ["self", "index"] (defScope sIT) := ⟨rfl, rfl, rfl, by decide +kernel, rfl, by decide +kernel, by decide +kernel⟩
theorem scInit : FnScope ["self", "passes", "index", "length", "price", "is_good"] ["self", "passes"] (defScope sInit) := ⟨rfl, rfl, rfl, by decide +kernel, rfl, by decide +kernel, by decide +kernel⟩
theorem scValid : FnScope ["tariff", "index"] ["tariff", "index"] (defScope sValid) := ⟨rfl, rfl, rfl, by decide +kernel, rfl, by decide +kernel, by decide +kernel⟩
/-- the text's facts -/
structure TX (K : PySem.W.Frag) (mg : Str → Option Value) (C cI cU cP fI : Addr) (mc mp : Value) : Prop where
  cl : Cls K C
  no : NoAttr K C "offers"
  gC : mg "Tariff" = some (.ref C)
  cr : CRead K C mc
  v1 : ∃ u, CVal K C mc "MAX_LENGTH" (.int 28) u
  v2 : ∃ u, CVal K C mc "MAX_PRICE" (.int 1000000) u
  v3 : ∃ u, CVal K C mc "MAX_PASSES" (.int 6) u
  mE : mg "enumerate" = none
  mN : mg "len" = none
  mT : mg "tuple" = none
  xI : OexC K cI
  nI : PySem.W.findIn K (.ref cI) "index" = some none
  gI : mg "InvalidTariff" = some (.ref cI)
  iI : PySem.W.findIn K (.ref cI) "__init__" = some (some (.ref fI))
  tI : PySem.W.typeIn K (.ref fI) = some (.type "function")
  pI : PIn K mg "PassError" cP mp
  qU : PySem.W.excIn K cU [.type "ValueError", .type "Exception", .type "BaseException", .type "object"] "ValueError.__new__" = true
  gU : mg "UnknownPass" = some (.ref cU)
  kU : PySem.W.keepIn K (.ref cU) = true
  sU : PySem.W.subIn K (.ref cU) (.type "BaseException") = some true
  yU : PySem.W.typeIn K (.ref cU) = some (.type "type")
section
variable {P : Program} {w : World} {K : PySem.W.Frag} {mg : Str → Option Value} {base : Heap} {C cI cU cP fI : Addr} {mc mp : Value}
theorem ok_IT {k : Nat} {fd : FuncData} (F : Fun K "__init__" "InvalidTariff.__init__" sIT fI fd) (T : TX K mg C cI cU cP fI mc mp) : FnOk P w K mg base CX0 (k + 1) fI fd ["self", "index"] (spX1 K "index") := by
  refine F.ok scIT (fun vs H Q E h => ?_) (fun cdv A outer s H vs Q E hr h => ?_)
  · obtain ⟨a, C', y, rfl, _⟩ := h
    rfl
  · obtain ⟨a, C', y, rfl, hx, hf, ha, q⟩ := h
    refine ⟨_, pss_cons (ps_expr (pe_pinit (by rfl) T.pI.gB T.pI.rd T.pI.ga T.pI.at_ (pa_cons (pv 0) (pa_cons pe_str pa_nil)))) (pss_one (ps_ost (pv 0) (pv 1))), ?_⟩
    refine ⟨_, rfl, a, C', _, rfl, by decide, hx, ha, _, rfl, _, rfl, a, C', rfl, hx, hf, .inl ⟨ha, fun dx h1 h2 => q dx h1 h2⟩⟩
theorem kb_IT {fd : FuncData} (F : Fun K "__init__" "InvalidTariff.__init__" sIT fI fd) : KBn K fd ["self", "index"] 1 ["index"] (fun us ws => us ++ ws) (fun vs zs => vs ++ zs) := by
  obtain ⟨oc, od, kV, doc, pm, an, cdv, ct, osl, rfl, lk, hcd⟩ := F.ex
  refine ⟨fun s us ws _ h1 h2 => ?_, fun a b => a.append b⟩
  match us, ws, h1, h2 with
  | [u], [x], _, _ => exact .of_eq rfl
end
theorem scPasses : FnScope ["self"] ["self"] (defScope sPasses) := ⟨rfl, rfl, rfl, by decide +kernel, rfl, by decide +kernel, by decide +kernel⟩
/-- a tariff at a, its tuple of passes at p -/
def Tar (K : PySem.W.Frag) (C : Addr) (H : Hp) (a p : Addr) (L : List (Int × Int)) : Prop := (∃ dx, H a = some (.ins C dx [("offers", .ref p)])) ∧ PsA K H (.ref p) L
theorem Tar.len_eq {K : PySem.W.Frag} {C : Addr} {H : Hp} {a p : Addr} {L : List (Int × Int)} (t : Tar K C H a p L) : ∃ vs, SqT K H p vs ∧ vs.length = L.length ∧ PsV K H vs L := by
  obtain ⟨_, q, vs, e, h1, h2⟩ := t
  cases e
  exact ⟨vs, h1, h2.len, h2⟩
/-- the getter of passes -/
structure TP (K : PySem.W.Frag) (C fP pP : Addr) (fdP : FuncData) : Prop where
  pr : PropOf K C "passes" pP fP
  fu : Fun K "passes" "Tariff.passes" sPasses fP fdP
section
variable {P : Program} {w : World} {K : PySem.W.Frag} {mg : Str → Option Value} {base : Heap} {C cI cU cP fI fP pP : Addr} {mc mp : Value} {fdP : FuncData}
theorem ok_passes (F : Fun K "passes" "Tariff.passes" sPasses fP fdP) (c : Cls K C) (n : NoAttr K C "offers") {k : Nat} : FnOk P w K mg base CX0 (k + 1) fP fdP ["self"] (getSp C "offers") := by
  obtain ⟨oc, od, kV, doc, pm, an, cdv, ct, osl, rfl, lk, hcd⟩ := F.ex
  exact fn_getter lk hcd scPasses rfl rfl c n
theorem b_passes (F : Fun K "passes" "Tariff.passes" sPasses fP fdP) : Binds K fdP ["self"] [] := F.binds (ps := ["self"]) fun _ _ _ _ _ _ us hl => match us, hl with | [_], _ => rfl
/-- e.passes, e a tariff -/
theorem pe_passes {X : Cx} {e : Expr} {te : TE} {pos : Pos} (T : TP X.K C fP pP fdP) (c : Cls X.K C) (n : NoAttr X.K C "offers") (hr : Room 2 X.A) (he : PE X e te) (hab : attributeBase e "passes" X.env (eval e X.env) = eval e X.env := by rfl) :
    PE X (.Attribute e "passes" pos) (tProp C (getSp C "offers") [] E0 te) :=
  pe_prop he c T.pr (ok_passes (k := 0) T.fu c n) hr (b_passes T.fu) .nil pass0 hab
def spValid (K : PySem.W.Frag) (C cU : Addr) : Sp := fun vs H Q E => ∃ (a p : Addr) (i : Int) (L : List (Int × Int)), vs = [.ref a, .int i] ∧ Tar K C H a p L ∧ (0 ≤ i ∧ i < L.length → Q .non H) ∧ (¬ (0 ≤ i ∧ i < L.length) → E (.ref cU) none H)
theorem ok_valid {f : Addr} {fd : FuncData} {k : Nat} (F : Fun K "validate_pass" "validate_pass" sValid f fd) (T : TX K mg C cI cU cP fI mc mp) (TQ : TP K C fP pP fdP) : FnOk P w K mg base (L2.CX P w) (k + 3) f fd ["tariff", "index"] (spValid K C cU) := by
  refine F.okX scValid (fun vs H Q E h => ?_) (fun cdv A outer s H vs Q E hr h => ?_)
  · obtain ⟨a, p, i, L, rfl, _⟩ := h
    rfl
  · obtain ⟨a, p, i, L, rfl, ht, q1, q2⟩ := h
    refine ⟨_, pss_one (ps_if (pt_not (pt_chain op_le op_lt pe_int (pv 1) (pe_callB call_len_seq (by rfl) T.mN PySem.boot_len (pa_cons (pe_passes TQ T.cl T.no (hr.mono (by omega)) (pv 0)) pa_nil))))
      (pss_one (ps_raise rfl (takes_of rfl rfl rfl rfl) (pmk_own PySem.F.excBase_ValueError T.qU T.gU T.kU (raises_own T.sU T.yU) (by rfl)))) pss_nil), ?_⟩
    obtain ⟨vs, h1, hl, _⟩ := ht.len_eq
    obtain ⟨⟨dx, ha⟩, _⟩ := ht
    refine ⟨_, rfl, _, _, rfl, rfl, _, rfl, ?_⟩
    refine ite2 (fun h0 => ?_) (fun h0 => ?_)
    · have g0 : (0 : Int) ≤ i := of_decide_eq_true h0
      refine ⟨.ref a, rfl, a, dx, _, rfl, ha, a, dx, _, .ref p, rfl, ha, rfl, p, vs, rfl, .inr h1, _, _, rfl, rfl, _, rfl, ?_⟩
      refine ite2 (fun hb => ?_) (fun hb => ?_)
      · refine q2 fun hc => ?_
        have h2 : i < ((vs.length : Nat) : Int) := by
          rw [hl]
          exact hc.2
        rw [decide_eq_true h2] at hb
        cases hb
      · refine q1 ⟨g0, ?_⟩
        rw [← hl]
        by_cases h2 : i < ((vs.length : Nat) : Int)
        · exact h2
        · rw [decide_eq_false h2] at hb
          exact absurd rfl hb
    · refine ⟨_, rfl, q2 fun hc => ?_⟩
      rw [decide_eq_true hc.1] at h0
      exact h0 rfl
end
/-! ### what is wrong with passes -/
def okP (x : Int × Int) : Bool := (decide (1 ≤ x.1) && decide (x.1 ≤ 28)) && (decide (1 ≤ x.2) && decide (x.2 ≤ 1000000))
def badI (i : Nat) (x : Int × Int) : Bool := decide (V.int ((i : Nat) : Int) = V.int 6) || !okP x
def fb : Nat → List (Int × Int) → Option Nat
  | _, [] => none
  | i, x :: r => if badI i x = true then some i else fb (i + 1) r
def bad (L : List (Int × Int)) : Option Nat := if L = [] then some 0 else fb 0 L
theorem fb_all : ∀ (L : List (Int × Int)) (k : Nat), (∀ j x, L[j]? = some x → badI (k + j) x = false) → fb k L = none
  | [], _, _ => rfl
  | x :: r, k, h => by
    have h0 := h 0 x rfl
    unfold fb
    rw [if_neg (by rw [show badI k x = false from h0]; decide)]
    refine fb_all r (k + 1) fun j y hy => ?_
    have := h (j + 1) y (by simpa using hy)
    rwa [show k + (j + 1) = k + 1 + j by omega] at this
theorem fb_at : ∀ (L : List (Int × Int)) (k i : Nat) (x : Int × Int), L[i]? = some x → badI (k + i) x = true → (∀ j y, j < i → L[j]? = some y → badI (k + j) y = false) → fb k L = some (k + i)
  | [], _, i, _, h, _, _ => by simp at h
  | y :: r, k, 0, x, h, hb, _ => by
    obtain rfl : y = x := by simpa using h
    unfold fb
    rw [if_pos (show badI k y = true from hb)]
    rfl
  | y :: r, k, i + 1, x, h, hb, hn => by
    unfold fb
    rw [if_neg (by rw [show badI k y = false from hn 0 y (Nat.succ_pos _) rfl]; decide)]
    rw [fb_at r (k + 1) i x (by simpa using h) (by rwa [show k + 1 + i = k + (i + 1) by omega]) (fun j z hj hz => by
      have := hn (j + 1) z (by omega) (by simpa using hz)
      rwa [show k + (j + 1) = k + 1 + j by omega] at this)]
    rw [show k + 1 + i = k + (i + 1) by omega]
section
variable {P : Program} {w : World} {K : PySem.W.Frag} {mg : Str → Option Value} {base : Heap} {C cI cU cP fI fP pP : Addr} {mc mp : Value} {fdP fdI : FuncData}
theorem psD_dep : ∀ L : List (Int × Int), PyData.depthAll (L.map fun x => PyData.tuple [.int x.1, .int x.2]) ≤ 1
  | [] => Nat.zero_le _
  | x :: L => by
    show max (max 0 (max 0 0) + 1) (PyData.depthAll (L.map fun x => PyData.tuple [.int x.1, .int x.2])) ≤ 1
    have := psD_dep L
    omega
theorem psD_sh (L : List (Int × Int)) : SeqAt.shaped (psD L) = true := by
  show (PyData.canLayAll0 (L.map fun x => PyData.tuple [.int x.1, .int x.2]) && decide (PyData.depthAll (L.map fun x => PyData.tuple [.int x.1, .int x.2]) + 1 ≤ 64)) = true
  rw [psD_lay, decide_eq_true (by have := psD_dep L; omega)]
  rfl
/-- Tariff.__init__ at the tuple p -/
def spInit (K : PySem.W.Frag) (C cI : Addr) : Sp := fun vs H Q E => ∃ (a p dx : Addr) (L : List (Int × Int)), vs = [.ref a, .ref p] ∧ H a = some (.ins C dx []) ∧ PsA K H (.ref p) L ∧ L.length ≤ 1000 ∧
  (bad L = none → ∀ H', (∀ b o, H b = some o → b ≠ a → H' b = some o) → H' a = some (.ins C dx [("offers", .ref p)]) → Q .non H') ∧
  (∀ i d H', bad L = some i → Same H H' → H' d = some (.xd [("index", .int i)]) → E (.ref cI) (some d) H')
theorem ok_init_body {k : Nat} {X : Cx} (hX : X.K = K) (FI : Fun K "__init__" "InvalidTariff.__init__" sIT fI fdI) (T : TX K mg C cI cU cP fI mc mp) {f : Addr} {cdv : Value} {A : Around} {outer : List Env} {s : Shared} {H : Hp} {vs : List V} {Q : VK} {E : XK}
    (hr : Room (k + 3) (A.deeper (envOfC "Tariff.__init__" (defScope sInit) s.heap.objs.size f cdv))) (h : spInit K C cI vs H Q E) :
    ∃ t, PSs (cxOf (L2.CX P w) P w K mg base ["self", "passes", "index", "length", "price", "is_good"] "Tariff.__init__" (defScope sInit) f cdv A outer s H E) (defBody sInit) t ∧ t { nx := fun _ H' => Q .non H', rt := Q } (start ["self", "passes", "index", "length", "price", "is_good"] vs) H := by
  obtain ⟨a, p, dx, L, rfl, ha, hL, hlen, q1, q2⟩ := h
  have GI : FnOk P w K mg base CX0 1 fI fdI ["self", "index"] (spX1 K "index") := ok_IT FI T
  have kb := kb_IT FI
  refine ⟨_, pss_cons (ps_if (pt_cmpR (op_eqD hr.units) (pv 1) (pe_tup pa_nil) (nomark _)) (pss_one (ps_raise rfl (takes_of rfl rfl rfl rfl) (pmk_kw T.xI T.iI T.tI GI (hr.mono (by omega)) kb pass0 (by rfl) T.gI (pk_cons pe_int pk_nil)))) pss_nil)
    (pss_cons (ps_for (passes_of rfl) rfl (pi_enumT (by rfl) T.mE (pa_cons (pv 1) pa_nil)) (pg_tup rfl (pgs_cons (pg_name (i := 2) scInit.nd rfl (.inl rfl)) (pgs_cons (pg_tup rfl (pgs_cons (pg_name (i := 3) scInit.nd rfl (.inl rfl)) (pgs_cons (pg_name (i := 4) scInit.nd rfl (.inl rfl)) pgs_nil))) pgs_nil)))
      (pss_cons (ps_set (i := 5) scInit.nd rfl (.inl rfl) (pe_and (pe_chain op_le op_le pe_int (pv 3) (pe_clc (by rfl) T.gC T.cr T.v1)) (pe_one (pe_chain op_le op_le pe_int (pv 4) (pe_clc (by rfl) T.gC T.cr T.v2)))))
        (pss_one (ps_if (PW.pt (pw_or (pt_cmpR op_eq (pv 2) (pe_clc (by rfl) T.gC T.cr T.v3) (nomark _)) (pw_or1 (pt_not (pt_val (pv 5))))))
          (pss_one (ps_raise rfl (takes_of rfl rfl rfl rfl) (pmk_kw T.xI T.iI T.tI GI (hr.mono (by omega)) kb pass0 (by rfl) T.gI (pk_cons (pv 2) pk_nil)))) pss_nil))))
    (pss_one (ps_fld (pv 0) (pv 1) rfl))), ?_⟩
  have hps := hL
  obtain ⟨_, vs, e, h1, h2⟩ := hL
  cases e
  have hlen2 := h2.len
  refine ⟨.ref p, rfl, Nat.zero_le _, fun z nz => ?_⟩
  have s0 : Same H (upd H z (.tup [])) := same_new nz
  refine ⟨psD L, psD [], (hps.tk (.same s0)).dp, .tup (xs := []) (.of upd_same) .nil, psD_sh L, psD_sh [], _, rfl, ?_⟩
  refine ite2 (fun hb => ?_) (fun hb => ?_)
  · have eL : L = [] := by
      rw [psD_eq] at hb
      exact of_decide_eq_true hb
    refine mk1_in T.xI T.nI fun d hd => q2 0 d _ ?_ (s0.trans (same_new hd)) upd_same
    unfold bad
    rw [if_pos eL]
  have nL : L ≠ [] := fun z => by
    rw [psD_eq, decide_eq_true z] at hb
    exact hb rfl
  refine ⟨_, rfl, p, vs, rfl, (TK.same s0) _ _ h1, for_rounds (I := IteT K p vs) vs.length (fun i σ H' => ∃ v2 v3 v4 v5, σ = [some (.ref a), some (.ref p), v2, v3, v4, v5] ∧ Same H H' ∧ ∀ j x, j < i → L[j]? = some x → badI j x = false)
    ⟨none, none, none, none, rfl, s0, fun j x hj => absurd hj (Nat.not_lt_zero _)⟩ ?_ ?_⟩
  · rintro i σ H' hi ⟨v2, v3, v4, v5, rfl, sm, hall⟩
    have hvs : SqT K H' p vs := (TK.same sm) _ _ h1
    refine ⟨⟨hi, hvs⟩, ?_⟩
    rintro y HT ⟨x, TT, hx, nT, rfl, rfl⟩
    obtain ⟨⟨l, pr⟩, hLi, b, rfl, hb2⟩ := h2.get hx
    have sT : Same H' (upd H' TT (.tup [.int (i : Nat), .ref b])) := same_new nT
    have hb3 : SqT K (upd H' TT (.tup [.int (i : Nat), .ref b])) b [.int l, .int pr] := (TK.same (sm.trans sT)) _ _ hb2
    have hi6 : i < 1000 := by
      have := (List.getElem?_eq_some_iff.mp hLi).1
      omega
    refine ⟨TT, _, rfl, .of upd_same, rfl, _, _, rfl, _, _, rfl, b, _, rfl, hb3, rfl, _, _, rfl, _, _, rfl, rfl, rfl, ?_⟩
    refine q_asg (v := .bl (okP (l, pr))) (ev_andV (ev_chainI (p := fun i j => decide (i ≤ j)) (q := fun i j => decide (i ≤ j)) ev_c (ev_var rfl) ev_c) fun _ => ev_chainI (p := fun i j => decide (i ≤ j)) (q := fun i j => decide (i ≤ j)) ev_c (ev_var rfl) ev_c) fun H2 e2 => ?_
    refine s_if (b := badI i (l, pr)) (et_or (et_test (ev_op (ev_var rfl) ev_c (rv_eq rfl))) fun _ => et_not (et_B (ev_var rfl))) (fun hb3 H3 e3 => ?_) (fun hb3 H3 e3 => ?_)
    · refine ⟨_, rfl, mk1_in T.xI T.nI fun d hd => q2 i d _ ?_ (((sm.trans sT).trans (e2.trans e3)).trans (same_new hd)) upd_same⟩
      unfold bad
      rw [if_neg nL]
      have := fb_at L 0 i (l, pr) hLi (by rw [Nat.zero_add]; exact hb3) (fun j y hj hy => by
        rw [Nat.zero_add]
        exact hall j y hj hy)
      rwa [Nat.zero_add] at this
    · refine ⟨_, _, _, _, rfl, (sm.trans sT).trans (e2.trans e3), fun j x hj hxx => ?_⟩
      by_cases hji : j < i
      · exact hall j x hji hxx
      · obtain rfl : j = i := by omega
        rw [Option.some.inj (hxx.symm.trans hLi)]
        exact hb3
  · rintro σ H' ⟨v2, v3, v4, v5, rfl, sm, hall⟩
    refine ⟨⟨rfl, (TK.same sm) _ _ h1⟩, ?_⟩
    refine ⟨_, rfl, _, rfl, a, C, dx, [], rfl, sm _ _ ha, T.cl, T.no, by decide, ?_⟩
    refine q1 ?_ _ (fun b o e n => ?_) upd_same
    · unfold bad
      rw [if_neg nL]
      refine fb_all L 0 fun j x hx => ?_
      rw [Nat.zero_add]
      refine hall j x ?_ hx
      rw [hlen2]
      exact (List.getElem?_eq_some_iff.mp hx).1
    · rw [upd_ne n]
      exact sm _ _ e
end
structure TMk (K : PySem.W.Frag) (C fI fT : Addr) (fdI fdT : FuncData) : Prop where
  mkf : Mk K C fT
  fT : Fun K "__init__" "Tariff.__init__" sInit fT fdT
  fI : Fun K "__init__" "InvalidTariff.__init__" sIT fI fdI
/-- Tariff(..) of the passes vs -/
def spMk (K : PySem.W.Frag) (C cI : Addr) : Sp := fun vs H Q E => ∃ L : List (Int × Int), PsV K H vs L ∧ L.length ≤ 1000 ∧ (bad L = none → ∀ a p H', Same H H' → H a = none → Tar K C H' a p L → Q (.ref a) H') ∧
  (∀ i d H', bad L = some i → Same H H' → H' d = some (.xd [("index", .int (i : Nat))]) → E (.ref cI) (some d) H')
section
variable {P : Program} {w : World} {K : PySem.W.Frag} {mg : Str → Option Value} {base : Heap} {C cI cU cP fI fT fP pP : Addr} {mc mp : Value} {fdP fdI fdT : FuncData}
theorem ok_init (T : TX K mg C cI cU cP fI mc mp) (I : TMk K C fI fT fdI fdT) : FnR P w K mg base (L2.CX P w) 4 fT (fun vs H Q E => ∃ ws rest, vs = ws ++ rest ∧ ws.length = ["self"].length ∧ rest.length ≤ sizeLine ∧ ∀ p, H p = Option.none → spInit K C cI (ws ++ [V.ref p]) (upd H p (.tup rest)) Q E) := by
  obtain ⟨oc, od, kV, doc, pm, an, cdv, ct, osl, rfl, lk, hcd⟩ := I.fT.ex
  refine fn_star (ps := ["self"]) (pv := "passes") lk hcd scInit cxUp (fun us rest hl => ?_) fun A outer s H vs Q E hr h => ok_init_body (X := cxOf (L2.CX P w) P w K mg base ["self"] "Tariff.__init__" (defScope sInit) fT cdv A outer s H E) rfl I.fI T hr h
  match us, hl with
  | [u], _ =>
    unfold bindArgs
    have e : ∀ b : Bool, (b && (defArgs sInit).vararg.isNone) = false := fun b => by
      rw [show (defArgs sInit).vararg.isNone = false from rfl, Bool.and_false]
    show _ = _
    simp only [PySem.W.fnOf, e]
    rfl
theorem mk_in {vs : List V} {H : Hp} {Q : VK} {E : XK} (h : spMk K C cI vs H Q E) : ∀ x dx, H x = Option.none → H dx = Option.none → dx ≠ x → (fun vs H Q E => ∃ ws rest, vs = ws ++ rest ∧ ws.length = ["self"].length ∧ rest.length ≤ sizeLine ∧ ∀ p, H p = Option.none → spInit K C cI (ws ++ [V.ref p]) (upd H p (.tup rest)) Q E)
    (V.ref x :: vs) (upd (upd H dx (.own x)) x (.ins C dx [])) (fun v H2 => v = .non ∧ Q (.ref x) H2) E := by
  obtain ⟨L, hL, hlen, q1, q2⟩ := h
  intro x dx nx ndx nex
  have s0 : Same H (upd (upd H dx (.own x)) x (.ins C dx [])) := fun b o e => by
    rw [upd_ne (ne_of_none e nx), upd_ne (ne_of_none e ndx)]
    exact e
  refine ⟨[.ref x], vs, rfl, rfl, Nat.le_of_lt (small1000 (by rw [hL.len]; exact hlen)), fun p np => ?_⟩
  have npx : x ≠ p := fun e => by
    rw [← e, upd_same] at np
    cases np
  have s1 := s0.trans (same_new (o := .tup vs) np)
  have hp : SqT K (upd (upd (upd H dx (.own x)) x (.ins C dx [])) p (.tup vs)) p vs := .of upd_same
  refine ⟨x, p, dx, L, rfl, by rw [upd_ne npx, upd_same], ⟨p, vs, rfl, hp, hL.tk (.same s1)⟩, hlen, fun hb H' hk hx => ⟨rfl, q1 hb x p H' (fun b o e => hk b o (s1 b o e) (ne_of_none e nx)) nx ⟨⟨dx, hx⟩, p, vs, rfl, ?_, (hL.tk (.same s1)).tk ?_⟩⟩, fun i d H' hb sm hd => q2 i d H' hb (s1.trans sm) hd⟩
  · exact .of (hk _ _ upd_same npx.symm)
  · exact .but (fun b => b = x) (fun b o e n => hk b o e n) fun b xs z => by
      rw [z]
      refine Rd.ins_no (C := C) (dx := dx) (fs := []) ?_
      rw [upd_ne npx, upd_same]
section
variable {X : Cx} {e : Expr} {es : List Expr} {te : TE} {t : TA} {E : XK} {p pos spos : Pos}
theorem pe_tar (T : TX X.K X.mg C cI cU cP fI mc mp) (I : TMk X.K C fI fT fdI fdT) (hr : Room 5 X.A) (hx : Passes (L2.CX X.prog X.w) X E) (hg : Gl X "Tariff") (ha : PA X (e :: es) t)
    (he : starEach (e :: es) X.env = (false, eval e X.env) :: starEach es X.env := by rfl) (hpl : (backTo pos (starEach es X.env)).any (·.1) = false := by rfl) :
    PE X (.Call (.Name "Tariff" p) (e :: es) [] pos) (fun σ H Q => t σ H fun vs H1 => spMk X.K C cI vs H1 Q E) := by
  refine ⟨fun pins s σ H Q J h => ?_⟩
  refine wpAny_Call_Name_kw (ld_glob J hg T.gC ?_ (by decide))
  exact PySem.W.callWith_K (h₀ := X.base) J.ok.mod.kin I.mkf.kp (thn (ha.run pos pins s σ H _ J h) fun us s1 ⟨vs, H1, I1, r, q⟩ => ⟨I1.kIn, run_makeR I.mkf (ok_init T I) hr hx I1 r (mk_in q)⟩) he hpl
theorem pe_tarS (T : TX X.K X.mg C cI cU cP fI mc mp) (I : TMk X.K C fI fT fdI fdT) (hr : Room 5 X.A) (hx : Passes (L2.CX X.prog X.w) X E) (hg : Gl X "Tariff") (he : PE X e te)
    (hst : starEach [.Starred e spos] X.env = [(true, eval e X.env)] := by rfl) :
    PE X (.Call (.Name "Tariff" p) [.Starred e spos] [] pos) (fun σ H Q => te σ H fun y H1 => ∃ a xs, y = V.ref a ∧ SqT X.K H1 a xs ∧ spMk X.K C cI xs H1 Q E) := by
  refine ⟨fun pins s σ H Q J h => ?_⟩
  refine wpAny_Call_Name_kw (ld_glob J hg T.gC ?_ (by decide))
  refine PySem.W.callWith_S (h₀ := X.base) J.ok.mod.kin I.mkf.kp (thn (he.run pins s σ H _ J h) fun v s1 hh => ?_) hst
  obtain ⟨y, H1, I1, ry, a, xs, ey, hxs, q⟩ := hh
  subst ey
  obtain rfl : v = Value.ref a := ry
  exact star_any I1 (.inl hxs) fun us s2 I2 rv => ⟨I2.kIn, run_makeR I.mkf (ok_init T I) hr hx I2 rv (mk_in q)⟩
end
end
end Sea

set_option Elab.async false
set_option linter.all false
set_option maxRecDepth 100000
set_option maxHeartbeats 4000000
namespace Sea
open PySem PySem.Spec PyProof.Rows L2 LamX NdefX ClX Evl StX
abbrev sIV : Stmt := inClass (top 4) 0
abbrev sVN : Stmt := top 18
theorem scIV : FnScope ["self", "part", "index"] ["self", "part", "index"] (defScope sIV) := ⟨rfl, rfl, rfl, by decide +kernel, rfl, by decide +kernel, by decide +kernel⟩
theorem scVN : FnScope ["part", "numbers", "largest", "most", "index", "number"] ["part", "numbers", "largest", "most"] (defScope sVN) := ⟨rfl, rfl, rfl, by decide +kernel, rfl, by decide +kernel, by decide +kernel⟩
/-- errors of the package, as the travel's code raises them -/
structure TEv (K : PySem.W.Frag) (mg : Str → Option Value) (cV cP fV : Addr) (fdV : FuncData) (mp : Value) : Prop where
  xV : OexC K cV
  nP : PySem.W.findIn K (.ref cV) "part" = some none
  nI : PySem.W.findIn K (.ref cV) "index" = some none
  gV : mg "InvalidTravel" = some (.ref cV)
  iV : PySem.W.findIn K (.ref cV) "__init__" = some (some (.ref fV))
  tV : PySem.W.typeIn K (.ref fV) = some (.type "function")
  fu : Fun K "__init__" "InvalidTravel.__init__" sIV fV fdV
  pI : PIn K mg "PassError" cP mp
/-- a tuple of whole numbers -/
def TiA (K : PySem.W.Frag) (H : Hp) (v : V) (ns : List Int) : Prop := ∃ a, v = .ref a ∧ SqT K H a (ns.map V.int)
theorem TiA.tk {K : PySem.W.Frag} {H H' : Hp} {v : V} {ns : List Int} (t : TK K H H') (h : TiA K H v ns) : TiA K H' v ns := by
  obtain ⟨a, e, h⟩ := h
  exact ⟨a, e, t _ _ h⟩
theorem mk2_in {K : PySem.W.Frag} {H1 : Hp} {Q : XK} {f g : Str} {y z : V} {c : Addr} (T : OexC K c) (n : PySem.W.findIn K (.ref c) f = some none) (n2 : PySem.W.findIn K (.ref c) g = some none) (h : ∀ d, H1 d = none → Q (.ref c) (some d) (upd H1 d (.xd [(g, z), (f, y)]))) :
    [y, z].length = 2 ∧ ∀ a, H1 a = none → spX2 K f g ([.ref a] ++ [y, z]) (upd H1 a (exo a c none)) (fun v H2 => v = .non ∧ ∃ (d : Addr) (fs : List (Str × V)), H2 a = some (exo a c (some d)) ∧ H2 d = some (exd d fs) ∧ H1 d = none ∧ Q (.ref c) (some d) (upd (del H2 a) d (.xd fs))) (fun _ _ _ => False) := by
  refine ⟨rfl, fun a ha => ⟨a, c, y, z, rfl, T, n, n2, upd_same, fun dx h1 h2 => ?_⟩⟩
  rw [upd_ne h2] at h1
  refine ⟨rfl, dx, _, by rw [upd_ne h2.symm, upd_same], upd_same, h1, ?_⟩
  have e : upd (del (upd (upd (upd (upd H1 a (exo a c none)) dx (exd dx [(f, y)])) a (exo a c (some dx))) dx (exd dx [(g, z), (f, y)])) a) dx (.xd [(g, z), (f, y)]) = upd H1 dx (.xd [(g, z), (f, y)]) := by
    funext b
    by_cases hb : b = dx
    · subst hb
      rw [upd_same, upd_same]
    · rw [upd_ne hb, upd_ne hb]
      by_cases hba : b = a
      · subst hba
        rw [del_same, ha]
      · rw [del_ne hba, upd_ne hb, upd_ne hba, upd_ne hb, upd_ne hba]
  rw [e]
  exact h dx h1
/-- the first of 0 .. n - 1 of which p holds -/
def first (p : Nat → Bool) (n : Nat) : Option Nat := (List.range n).find? p
theorem first_succ (p : Nat → Bool) (n : Nat) : first p (n + 1) = (first p n).or (if p n = true then some n else none) := by
  unfold first
  rw [List.range_succ, List.find?_append, List.find?_cons]
  cases p n <;> rfl
theorem first_none {p : Nat → Bool} : ∀ {n : Nat}, (∀ j, j < n → p j = false) → first p n = none
  | 0, _ => rfl
  | n + 1, h => by
    rw [first_succ, first_none fun j hj => h j (by omega), h n (by omega)]
    rfl
theorem first_at {p : Nat → Bool} {i : Nat} (hp : p i = true) (hb : ∀ j, j < i → p j = false) : ∀ {n : Nat}, i < n → first p n = some i
  | 0, h => absurd h (Nat.not_lt_zero _)
  | n + 1, h => by
    rw [first_succ]
    by_cases e : i < n
    · rw [first_at hp hb e]
      rfl
    · obtain rfl : i = n := by omega
      rw [first_none hb, hp]
      rfl
/-- what is wrong with the i-th number -/
def nbad (ns : List Int) (lg mo : Int) (i : Nat) : Bool := decide (V.int ((i : Nat) : Int) = V.int mo) || (!(decide (0 ≤ ns.getD i 0) && decide (ns.getD i 0 ≤ lg)) || (decide ((0 : Int) < (i : Nat)) && decide (ns.getD i 0 ≤ ns.getD (i - 1) 0)))
def vbad (ns : List Int) (lg mo : Int) : Option Nat := first (nbad ns lg mo) ns.length
def spVN (K : PySem.W.Frag) (cV : Addr) : Sp := fun vs H Q E => ∃ (pt : Str) (v : V) (ns : List Int) (lg mo : Int), vs = [.str pt, v, .int lg, .int mo] ∧ TiA K H v ns ∧ ns.length ≤ 1000 ∧ (vbad ns lg mo = none → ∀ H', Same H H' → Q .non H') ∧
  (∀ i d H', vbad ns lg mo = some i → Same H H' → H' d = some (.xd [("index", .int (i : Nat)), ("part", .str pt)]) → E (.ref cV) (some d) H')
section
variable {P : Program} {w : World} {K : PySem.W.Frag} {mg : Str → Option Value} {base : Heap} {cV cN cP fV : Addr} {fdV : FuncData} {mp : Value}
theorem ok_IV {k : Nat} (T : TEv K mg cV cP fV fdV mp) : FnOk P w K mg base CX0 (k + 1) fV fdV ["self", "part", "index"] (spX2 K "part" "index") := by
  refine T.fu.ok scIV (fun vs H Q E h => ?_) (fun cdv A outer s H vs Q E hr h => ?_)
  · obtain ⟨a, C', y, z, rfl, _⟩ := h
    rfl
  · obtain ⟨a, C', y, z, rfl, hx, hf, hg, ha, q⟩ := h
    refine ⟨_, pss_cons (ps_expr (pe_pinit (by rfl) T.pI.gB T.pI.rd T.pI.ga T.pI.at_ (pa_cons (pv 0) (pa_cons pe_str pa_nil)))) (pss_cons (ps_ost (pv 0) (pv 1)) (pss_one (ps_ost (pv 0) (pv 2)))), ?_⟩
    refine ⟨_, rfl, a, C', _, rfl, show 1 ≤ 1000 by decide, hx, ha, _, rfl, _, rfl, a, C', rfl, hx, hf, .inl ⟨ha, fun dx h1 h2 => ⟨_, rfl, _, rfl, a, C', rfl, hx, hg, .inr ⟨dx, [("part", y)], upd_same, by rw [upd_ne h2, upd_same], show 1 ≤ 900 by decide, ?_⟩⟩⟩⟩
    exact q dx h1 h2
theorem kb_IV (T : TEv K mg cV cP fV fdV mp) : KBn K fdV ["self", "part", "index"] 1 ["part", "index"] (fun us ws => us ++ ws) (fun vs zs => vs ++ zs) := by
  obtain ⟨oc, od, kV, doc, pm, an, cdv, ct, osl, rfl, lk, hcd⟩ := T.fu.ex
  refine ⟨fun s us ws _ h1 h2 => ?_, fun a b => a.append b⟩
  match us, ws, h1, h2 with
  | [u], [x, y], _, _ => exact .of_eq rfl
theorem ok_vn {f : Addr} {fd : FuncData} {k : Nat} (F : Fun K "validate_numbers" "validate_numbers" sVN f fd) (T : TEv K mg cV cP fV fdV mp) (mE : mg "enumerate" = none) : FnOk P w K mg base (L2.CX P w) (k + 4) f fd ["part", "numbers", "largest", "most"] (spVN K cV) := by
  have GI : FnOk P w K mg base CX0 1 fV fdV ["self", "part", "index"] (spX2 K "part" "index") := ok_IV T
  have kb := kb_IV T
  refine F.okX scVN (fun vs H Q E h => ?_) (fun cdv A outer s H vs Q E hr h => ?_)
  · obtain ⟨pt, v, ns, lg, mo, rfl, _⟩ := h
    rfl
  · obtain ⟨pt, v, ns, lg, mo, rfl, ⟨p, rfl, hp⟩, hlen, q1, q2⟩ := h
    refine ⟨_, pss_one (ps_for (passes_of rfl) rfl (pi_enumT (by rfl) mE (pa_cons (pv 1) pa_nil)) (pg_tup rfl (pgs_cons (pg_name (i := 4) scVN.nd rfl (.inl rfl)) (pgs_cons (pg_name (i := 5) scVN.nd rfl (.inl rfl)) pgs_nil)))
      (pss_one (ps_if (PW.pt (pw_or (pt_cmpR op_eq (pv 4) (pv 3) (nomark _)) (pw_or (pt_not (pt_chain op_le op_le pe_int (pv 5) (pv 2))) (pw_or1 (PW.pt (pw_and (pt_cmpR op_gt (pv 4) pe_int (nomark _)) (pw_and1 (pt_cmpR op_le (pv 5) (pe_ixt (pv 1) (pe_op op_sub (pv 4) pe_int)) (nomark _)))))))))
        (pss_one (ps_raise rfl (takes_of rfl rfl rfl rfl) (pmk_kw T.xV T.iV T.tV GI (hr.mono (by omega)) kb pass0 (by rfl) T.gV (pk_cons (pv 0) (pk_cons (pv 4) pk_nil))))) pss_nil))), ?_⟩
    have hll : (ns.map V.int).length = ns.length := List.length_map ..
    refine ⟨_, rfl, p, _, rfl, hp, for_rounds (I := IteT K p (ns.map V.int)) (ns.map V.int).length (fun i σ H' => ∃ v4 v5, σ = [some (.str pt), some (.ref p), some (.int lg), some (.int mo), v4, v5] ∧ Same H H' ∧ ∀ j, j < i → nbad ns lg mo j = false)
      ⟨none, none, rfl, Same.refl H, fun j hj => absurd hj (Nat.not_lt_zero _)⟩ ?_ ?_⟩
    · rintro i σ H' hi ⟨v4, v5, rfl, sm, hall⟩
      refine ⟨⟨hi, (TK.same sm) _ _ hp⟩, ?_⟩
      rintro y HT ⟨x, TT, hx, nT, rfl, rfl⟩
      rw [hll] at hi
      obtain rfl : x = .int ns[i] := by
        rw [List.getElem?_map, List.getElem?_eq_getElem hi] at hx
        exact (Option.some.inj hx).symm
      have sT : Same H' (upd H' TT (.tup [.int (i : Nat), .int ns[i]])) := same_new nT
      have hp2 := (TK.same (sm.trans sT)) _ _ hp
      have gi : ns.getD i 0 = ns[i] := by rw [List.getD_eq_getElem?_getD, List.getElem?_eq_getElem hi]; rfl
      refine ⟨TT, _, rfl, .of upd_same, rfl, _, _, rfl, _, _, rfl, rfl, ?_⟩
      refine s_when (b := nbad ns lg mo i) ?_ (fun hb H2 e2 => ?_) (fun hb H2 e2 => ⟨_, _, rfl, (sm.trans sT).trans e2, fun j hj => ?_⟩)
      · unfold nbad
        rw [gi]
        refine et_or (et_test (ev_op (ev_var rfl) (ev_var rfl) (rv_eq rfl))) fun _ => et_or (et_not (et_test (ev_chainI (p := fun i j => decide (i ≤ j)) (q := fun i j => decide (i ≤ j)) ev_c (ev_var rfl) (ev_var rfl)))) fun _ => et_and (et_test (ev_op (ev_var rfl) ev_c rv_I0)) fun h0 => ?_
        have h0' : 0 < i := by
          have := of_decide_eq_true h0
          omega
        have hi1 : i - 1 < ns.length := by omega
        have g1 : ns.getD (i - 1) 0 = ns[i - 1] := by rw [List.getD_eq_getElem?_getD, List.getElem?_eq_getElem hi1]; rfl
        rw [g1]
        have ha : atI (ns.map V.int) (((i : Nat) : Int) - 1) = some (.int ns[i - 1]) := by
          rw [show ((i : Nat) : Int) - 1 = ((i - 1 : Nat) : Int) by omega]
          refine at_nat (by rw [hll]; exact hi1) ?_
          rw [List.getElem?_map, List.getElem?_eq_getElem hi1]
          rfl
        exact et_test (ev_op (ev_var rfl) (ev_op (ev_var rfl) (ev_op (ev_var rfl) ev_c rv_I0) (rv_ixT hp2 ha)) rv_I0)
      · refine ⟨_, rfl, _, rfl, mk2_in T.xV T.nP T.nI fun d hd => q2 i d _ ?_ (((sm.trans sT).trans e2).trans (same_new hd)) upd_same⟩
        exact first_at hb hall hi
      · by_cases hji : j < i
        · exact hall j hji
        · obtain rfl : j = i := by omega
          exact hb
    · rintro σ H' ⟨v4, v5, rfl, sm, hall⟩
      refine ⟨⟨rfl, (TK.same sm) _ _ hp⟩, ?_⟩
      rw [hll] at hall
      exact q1 (first_none hall) H' sm
end
def Good (ns : List Int) (lg : Int) : Prop := ∀ j, j < ns.length → 0 ≤ ns.getD j 0 ∧ ns.getD j 0 ≤ lg ∧ (0 < j → ns.getD (j - 1) 0 < ns.getD j 0)
theorem Good.mono {ns : List Int} {l m : Int} (h : Good ns l) (e : l ≤ m) : Good ns m := fun j hj => ⟨(h j hj).1, Int.le_trans (h j hj).2.1 e, (h j hj).2.2⟩
theorem getD_app1 {ns : List Int} {x : Int} {j : Nat} (h : j < ns.length) : (ns ++ [x]).getD j 0 = ns.getD j 0 := by
  rw [List.getD_eq_getElem?_getD, List.getD_eq_getElem?_getD, List.getElem?_append_left h]
theorem getD_app2 {ns : List Int} {x : Int} : (ns ++ [x]).getD ns.length 0 = x := by
  rw [List.getD_eq_getElem?_getD, List.getElem?_append_right (Nat.le_refl _), Nat.sub_self]
  rfl
theorem Good.snoc {ns : List Int} {x : Int} (h : Good ns (x - 1)) (h0 : 0 ≤ x) : Good (ns ++ [x]) x := fun j hj => by
  rw [List.length_append, List.length_singleton] at hj
  by_cases e : j < ns.length
  · rw [getD_app1 e]
    obtain ⟨a, b, c⟩ := h j e
    refine ⟨a, by omega, fun hp => ?_⟩
    rw [getD_app1 (by omega)]
    exact c hp
  · obtain rfl : j = ns.length := by omega
    rw [getD_app2]
    refine ⟨h0, Int.le_refl _, fun hp => ?_⟩
    rw [getD_app1 (by omega)]
    have := (h (ns.length - 1) (by omega)).2.1
    omega
theorem vbad_good {ns : List Int} {lg mo : Int} (h : Good ns lg) (hl : (ns.length : Int) ≤ mo) : vbad ns lg mo = none := first_none fun j hj => by
  obtain ⟨a, b, c⟩ := h j hj
  unfold nbad
  rw [decide_eq_true a, decide_eq_true b, show decide (V.int ((j : Nat) : Int) = V.int mo) = false from by rw [dec_int]; simp; omega]
  by_cases hp : 0 < j
  · have := c hp
    rw [show decide (ns.getD j 0 ≤ ns.getD (j - 1) 0) = false from decide_eq_false (by omega)]
    simp
  · rw [show decide ((0 : Int) < (j : Nat)) = false from decide_eq_false (by omega)]
    rfl
abbrev sTvI : Stmt := inClass (top 19) 0
theorem scTvI : FnScope ["self", "length", "days", "exceptions"] ["self", "length", "days", "exceptions"] (defScope sTvI) := ⟨rfl, rfl, rfl, by decide +kernel, rfl, by decide +kernel, by decide +kernel⟩
/-- what is wrong with a travel -/
def tbad (ln : Int) (ds os : List Int) : Option (Str × Nat) :=
  if 1 ≤ ln ∧ ln ≤ 14 then (match vbad ds (ln - 1) 14 with
    | some i => some ("days", i)
    | none => match vbad os 1000000000000000000 6 with
      | some i => some ("exceptions", i)
      | none => none) else some ("length", 0)
/-- the travel's class and its constants -/
structure TTv (K : PySem.W.Frag) (mg : Str → Option Value) (C fVN : Addr) (dVN : FuncData) : Prop where
  cl : Cls K C
  nS : NoAttr K C "size"
  nP : NoAttr K C "pattern"
  nO : NoAttr K C "odd_days"
  gC : mg "Travel" = some (.ref C)
  mR : ∃ u, mg "MAX_ROUND" = some u ∧ RelV (.int 14) u
  mX : ∃ u, mg "MAX_EXCEPTIONS" = some u ∧ RelV (.int 6) u
  mD : ∃ u, mg "MAX_DAYS" = some u ∧ RelV (.int 1000000000000000000) u
  mE : mg "enumerate" = none
  gVN : mg "validate_numbers" = some (.ref fVN)
  kVN : PySem.W.keepIn K (.ref fVN) = true
  uVN : Fun K "validate_numbers" "validate_numbers" sVN fVN dVN
theorem TTv.bVN {K : PySem.W.Frag} {mg : Str → Option Value} {C fVN : Addr} {dVN : FuncData} (T : TTv K mg C fVN dVN) : Binds K dVN ["part", "numbers", "largest", "most"] [] := T.uVN.binds (ps := ["part", "numbers", "largest", "most"]) fun _ _ _ _ _ _ us hl => match us, hl with | [_, _, _, _], _ => rfl
theorem putF_len (f : Str) (v : V) : ∀ fs : List (Str × V), (putF f v fs).length ≤ fs.length + 1
  | [] => Nat.le_refl _
  | (g, u) :: r => by
    show (if g = f then (g, v) :: r else (g, u) :: putF f v r).length ≤ r.length + 1 + 1
    by_cases e : g = f
    · rw [if_pos e]
      exact Nat.le_succ _
    · rw [if_neg e]
      exact Nat.succ_le_succ (putF_len f v r)
/-- the fields of a travel -/
abbrev tvF (ln : Int) (d o : V) : List (Str × V) := putF "odd_days" o (putF "pattern" d (putF "size" (.int ln) []))
def spTvI (K : PySem.W.Frag) (C cV : Addr) : Sp := fun vs H Q E => ∃ (a dx : Addr) (ln : Int) (d o : V) (ds os : List Int), vs = [.ref a, .int ln, d, o] ∧ H a = some (.ins C dx []) ∧ TiA K H d ds ∧ TiA K H o os ∧ ds.length ≤ 1000 ∧ os.length ≤ 1000 ∧
  (tbad ln ds os = none → ∀ H', (∀ b o, H b = some o → b ≠ a → H' b = some o) → H' a = some (.ins C dx (tvF ln d o)) → Q .non H') ∧
  (∀ pt i dd H', tbad ln ds os = some (pt, i) → Same H H' → H' dd = some (.xd [("index", .int (i : Nat)), ("part", .str pt)]) → E (.ref cV) (some dd) H')
section
variable {P : Program} {w : World} {K : PySem.W.Frag} {mg : Str → Option Value} {base : Heap} {cV cP fV C fVN : Addr} {fdV dVN : FuncData} {mp : Value}
theorem ok_tvI {f : Addr} {fd : FuncData} (F : Fun K "__init__" "Travel.__init__" sTvI f fd) (T : TEv K mg cV cP fV fdV mp) (W : TTv K mg C fVN dVN) : FnOk P w K mg base (L2.CX P w) 5 f fd ["self", "length", "days", "exceptions"] (spTvI K C cV) := by
  have GI : FnOk P w K mg base CX0 1 fV fdV ["self", "part", "index"] (spX2 K "part" "index") := ok_IV T
  have kb := kb_IV T
  refine F.okX scTvI (fun vs H Q E h => ?_) (fun cdv A outer s H vs Q E hr h => ?_)
  · obtain ⟨a, dx, ln, d, o, ds, os, rfl, _⟩ := h
    rfl
  · obtain ⟨a, dx, ln, d, o, ds, os, rfl, ha, hd, ho, ld, lo, q1, q2⟩ := h
    have PX : Passes (L2.CX P w) (cxOf (L2.CX P w) P w K mg base ["self", "length", "days", "exceptions"] "Travel.__init__" (defScope sTvI) f cdv A outer s H E) E := passes_call (takes_of rfl rfl rfl rfl) (fun _ _ _ _ h => h)
    have G : FnOk P w K mg base (L2.CX P w) 4 fVN dVN ["part", "numbers", "largest", "most"] (spVN K cV) := ok_vn (k := 0) W.uVN T W.mE
    refine ⟨_, pss_cons (ps_if (pt_not (pt_chain op_le op_le pe_int (pv 1) (C8.pe_gc (by rfl) W.mR))) (pss_one (ps_raise rfl (takes_of rfl rfl rfl rfl) (pmk_kw T.xV T.iV T.tV GI (hr.mono (by omega)) kb pass0 (by rfl) T.gV (pk_cons pe_str (pk_cons pe_int pk_nil))))) pss_nil)
      (pss_cons (ps_expr (pe_call (E := E) G hr (by rfl) W.gVN W.kVN W.bVN .nil PX (pa_cons pe_str (pa_cons (pv 2) (pa_cons (pe_op op_sub (pv 1) pe_int) (pa_cons (C8.pe_gc (by rfl) W.mR) pa_nil))))))
      (pss_cons (ps_expr (pe_call (E := E) G hr (by rfl) W.gVN W.kVN W.bVN .nil PX (pa_cons pe_str (pa_cons (pv 3) (pa_cons (C8.pe_gc (by rfl) W.mD) (pa_cons (C8.pe_gc (by rfl) W.mX) pa_nil))))))
      (pss_cons (ps_fld (pv 0) (pv 1) rfl) (pss_cons (ps_fld (pv 0) (pv 2) rfl) (pss_one (ps_fld (pv 0) (pv 3) rfl)))))), ?_⟩
    refine q_when (b := !(decide (1 ≤ ln) && decide (ln ≤ 14))) (et_not (et_test (ev_chainI (p := fun i j => decide (i ≤ j)) (q := fun i j => decide (i ≤ j)) ev_c (ev_var rfl) ev_c))) (fun hb H1 e1 => ?_) (fun hb H1 e1 => ?_)
    · refine mk2_in T.xV T.nP T.nI fun dd hdd => q2 "length" 0 dd _ ?_ (Same.trans e1 (same_new hdd)) upd_same
      unfold tbad
      rw [if_neg fun hc => by
        rw [decide_eq_true hc.1, decide_eq_true hc.2] at hb
        cases hb]
    · have hc : 1 ≤ ln ∧ ln ≤ 14 := by
        have : (decide (1 ≤ ln) && decide (ln ≤ 14)) = true := by
          cases h : (decide (1 ≤ ln) && decide (ln ≤ 14)) with
          | true => rfl
          | false =>
            rw [h] at hb
            cases hb
        rw [Bool.and_eq_true] at this
        exact ⟨of_decide_eq_true this.1, of_decide_eq_true this.2⟩
      have hd1 := hd.tk (.same e1)
      refine ⟨_, rfl, _, rfl, _, _, rfl, rfl, "days", d, ds, ln - 1, 14, rfl, hd1, ld, fun hv H2 s2 => ?_, fun i dd H2 hv s2 hx => q2 "days" i dd H2 ?_ (Same.trans e1 s2) hx⟩
      · have ho2 := (ho.tk (.same e1)).tk (.same s2)
        refine ⟨_, rfl, "exceptions", o, os, 1000000000000000000, 6, rfl, ho2, lo, fun hv2 H3 s3 => ?_, fun i dd H3 hv2 s3 hx => q2 "exceptions" i dd H3 ?_ (Same.trans (Same.trans e1 s2) s3) hx⟩
        · have ha3 := s3 _ _ (s2 _ _ (e1 _ _ ha))
          refine ⟨_, rfl, _, rfl, a, C, dx, [], rfl, ha3, W.cl, W.nS, by decide, ?_⟩
          refine ⟨_, rfl, _, rfl, a, C, dx, _, rfl, upd_same, W.cl, W.nP, (show 1 < 1000 by decide), ?_⟩
          refine ⟨_, rfl, _, rfl, a, C, dx, _, rfl, upd_same, W.cl, W.nO, Nat.lt_of_le_of_lt (putF_len _ _ _) (show 2 < 1000 by decide), ?_⟩
          refine q1 ?_ _ (fun b x e n => ?_) upd_same
          · unfold tbad
            rw [if_pos hc, hv, hv2]
          · rw [upd_ne n, upd_ne n, upd_ne n]
            exact s3 _ _ (s2 _ _ (e1 _ _ e))
        · unfold tbad
          rw [if_pos hc, hv, hv2]
      · unfold tbad
        rw [if_pos hc, hv]
end
theorem tvF_size (ln : Int) (d o : V) : (tvF ln d o).lookup ("size" : Str) = some (.int ln) := by
  unfold tvF
  rw [lookup_putF, if_neg (by decide +kernel), lookup_putF, if_neg (by decide +kernel), lookup_putF, if_pos rfl]
theorem tvF_pat (ln : Int) (d o : V) : (tvF ln d o).lookup ("pattern" : Str) = some d := by
  unfold tvF
  rw [lookup_putF, if_neg (by decide +kernel), lookup_putF, if_pos rfl]
theorem tvF_odd (ln : Int) (d o : V) : (tvF ln d o).lookup ("odd_days" : Str) = some o := by
  unfold tvF
  rw [lookup_putF, if_pos rfl]
theorem tvF_no (ln : Int) (d o : V) {m : Str} (h1 : ¬ m = "odd_days") (h2 : ¬ m = "pattern") (h3 : ¬ m = "size") : (tvF ln d o).lookup m = none := by
  unfold tvF
  rw [lookup_putF, if_neg h1, lookup_putF, if_neg h2, lookup_putF, if_neg h3]
  rfl
def Tv (K : PySem.W.Frag) (C : Addr) (H : Hp) (a : Addr) (ln : Int) (d o : V) (ds os : List Int) : Prop := (∃ dx, H a = some (.ins C dx (tvF ln d o))) ∧ TiA K H d ds ∧ TiA K H o os
theorem Tv.same {K : PySem.W.Frag} {C : Addr} {H H' : Hp} {a : Addr} {ln : Int} {d o : V} {ds os : List Int} (t : Tv K C H a ln d o ds os) (s : Same H H') : Tv K C H' a ln d o ds os := by
  obtain ⟨⟨dx, h⟩, h1, h2⟩ := t
  exact ⟨⟨dx, s _ _ h⟩, h1.tk (.same s), h2.tk (.same s)⟩
abbrev sRl : Stmt := inClass (top 19) 1
abbrev sRd : Stmt := inClass (top 19) 2
abbrev sEx : Stmt := inClass (top 19) 3
theorem scRl : FnScope ["self"] ["self"] (defScope sRl) := ⟨rfl, rfl, rfl, by decide +kernel, rfl, by decide +kernel, by decide +kernel⟩
theorem scRd : FnScope ["self"] ["self"] (defScope sRd) := ⟨rfl, rfl, rfl, by decide +kernel, rfl, by decide +kernel, by decide +kernel⟩
theorem scEx : FnScope ["self"] ["self"] (defScope sEx) := ⟨rfl, rfl, rfl, by decide +kernel, rfl, by decide +kernel, by decide +kernel⟩
/-! ### the getters -/
structure TPr (K : PySem.W.Frag) (C fRl pRl fRd pRd fEx pEx : Addr) (dRl dRd dEx : FuncData) : Prop where
  pL : PropOf K C "round_length" pRl fRl
  uL : Fun K "round_length" "Travel.round_length" sRl fRl dRl
  pD : PropOf K C "round_days" pRd fRd
  uD : Fun K "round_days" "Travel.round_days" sRd fRd dRd
  pE : PropOf K C "exceptions" pEx fEx
  uE : Fun K "exceptions" "Travel.exceptions" sEx fEx dEx
section
variable {X : Cx} {C fRl pRl fRd pRd fEx pEx fVN : Addr} {dRl dRd dEx dVN : FuncData} {e : Expr} {te : TE} {pos : Pos}
theorem pe_rl (T : TPr X.K C fRl pRl fRd pRd fEx pEx dRl dRd dEx) (W : TTv X.K X.mg C fVN dVN) (hr : Room 2 X.A) (he : PE X e te) (hab : attributeBase e "round_length" X.env (eval e X.env) = eval e X.env := by rfl) : PE X (.Attribute e "round_length" pos) (tProp C (getSp C "size") [] E0 te) := by
  obtain ⟨oc, od, kV, doc, pm, an, cdv, ct, osl, rfl, lk, hcd⟩ := T.uL.ex
  exact pe_prop he W.cl T.pL (fn_getter (k := 0) lk hcd scRl rfl rfl W.cl W.nS) hr (T.uL.binds (ps := ["self"]) fun _ _ _ _ _ _ us hl => match us, hl with | [_], _ => rfl) .nil pass0 hab
theorem pe_rd (T : TPr X.K C fRl pRl fRd pRd fEx pEx dRl dRd dEx) (W : TTv X.K X.mg C fVN dVN) (hr : Room 2 X.A) (he : PE X e te) (hab : attributeBase e "round_days" X.env (eval e X.env) = eval e X.env := by rfl) : PE X (.Attribute e "round_days" pos) (tProp C (getSp C "pattern") [] E0 te) := by
  obtain ⟨oc, od, kV, doc, pm, an, cdv, ct, osl, rfl, lk, hcd⟩ := T.uD.ex
  exact pe_prop he W.cl T.pD (fn_getter (k := 0) lk hcd scRd rfl rfl W.cl W.nP) hr (T.uD.binds (ps := ["self"]) fun _ _ _ _ _ _ us hl => match us, hl with | [_], _ => rfl) .nil pass0 hab
theorem pe_ex (T : TPr X.K C fRl pRl fRd pRd fEx pEx dRl dRd dEx) (W : TTv X.K X.mg C fVN dVN) (hr : Room 2 X.A) (he : PE X e te) (hab : attributeBase e "exceptions" X.env (eval e X.env) = eval e X.env := by rfl) : PE X (.Attribute e "exceptions" pos) (tProp C (getSp C "odd_days") [] E0 te) := by
  obtain ⟨oc, od, kV, doc, pm, an, cdv, ct, osl, rfl, lk, hcd⟩ := T.uE.ex
  exact pe_prop he W.cl T.pE (fn_getter (k := 0) lk hcd scEx rfl rfl W.cl W.nO) hr (T.uE.binds (ps := ["self"]) fun _ _ _ _ _ _ us hl => match us, hl with | [_], _ => rfl) .nil pass0 hab
end
end Sea

set_option Elab.async false
set_option linter.all false
set_option maxRecDepth 100000
set_option maxHeartbeats 4000000
namespace Sea
open PySem PySem.Spec PyProof.Rows L2 LamX NdefX ClX Evl StX
structure TDn (K : PySem.W.Frag) (mg : Str → Option Value) (fD : Addr) (fdD : FuncData) : Prop where
  g : mg "_law_drawn" = some (.ref fD)
  kp : PySem.W.keepIn K (.ref fD) = true
  fu : Fun K "_law_drawn" "_law_drawn" sDrawn fD fdD
  mN : mg "len" = none
theorem TDn.b {K : PySem.W.Frag} {mg : Str → Option Value} {fD : Addr} {fdD : FuncData} (T : TDn K mg fD fdD) : Binds K fdD ["_law_state", "_law_count"] [] := T.fu.binds (ps := ["_law_state", "_law_count"]) fun _ _ _ _ _ _ us hl => match us, hl with | [_, _], _ => rfl
section
variable {X : Cx} {a b : Expr} {ta tb : TE} {p pos : Pos} {fD : Addr} {fdD : FuncData}
/-- _law_drawn(a, b) -/
theorem pe_dr {K : PySem.W.Frag} (T : TDn K X.mg fD fdD) (hr : Room 1 X.A) (hg : Gl X "_law_drawn") (ha : PE X a ta) (hb : PE X b tb) (he : starEach (a :: [b]) X.env = (false, eval a X.env) :: starEach [b] X.env := by rfl) (he2 : starEach (b :: []) X.env = (false, eval b X.env) :: starEach [] X.env := by rfl) (hpl : (backTo pos (starEach [b] X.env)).any (·.1) = false := by rfl) (hK : X.K = K := by rfl) :
    PE X (.Call (.Name "_law_drawn" p) [a, b] [] pos) (tCall (spDrawn K) [] E0 (tCons ta (tCons tb tNil))) := by
  subst hK
  exact pe_call (ok_drawn (k := 0) T.fu T.mN) hr hg T.g T.kp T.b .nil pass0 (pa_cons ha (pa_cons hb pa_nil he2) he) (by decide) he hpl
end
/-! ### expressions that draw -/
def EvS (K : PySem.W.Frag) (te : TE) (σ : L2.St) (H : Hp) (h c : Addr) (P : Int → Prop) : Prop := ∀ H1, Kh h H H1 → Ds K H1 h c → ∀ Q : VK, (∀ v H2, P v → Ds K H2 h c → Kh h H1 H2 → Q (.int v) H2) → te σ H1 Q
section
variable {K : PySem.W.Frag} {te ta tb tl : TE} {σ : L2.St} {H : Hp} {h c : Addr} {P P1 P2 : Int → Prop}
theorem es_of {k : Int} (e : ∀ H1, Kh h H H1 → Ev te σ H1 (.int k)) : EvS K te σ H h c (fun v => v = k) := fun H1 k1 d Q q => e H1 k1 H1 (Ex.refl _) _ fun H2 e2 => q k H2 rfl (d.same e2) (Kh.same e2)
theorem es_c {k : Int} : EvS K (tC (.int k)) σ H h c (fun v => v = k) := es_of fun _ _ => ev_c
theorem es_var {i : Nat} {k : Int} (hs : σ[i]? = some (some (.int k))) : EvS K (tVar i) σ H h c (fun v => v = k) := es_of fun _ _ => ev_var hs
theorem EvS.imp (e : EvS K te σ H h c P1) (i : ∀ v, P1 v → P2 v) : EvS K te σ H h c P2 := fun H1 k1 d Q q => e H1 k1 d Q fun v H2 hv => q v H2 (i v hv)
theorem EvS.later {H' : Hp} (e : EvS K te σ H h c P) (k : Kh h H H') : EvS K te σ H' h c P := fun H1 k1 d Q q => e H1 (k.trans k1) d Q q
theorem es_add (ea : EvS K ta σ H h c P1) (eb : EvS K tb σ H h c P2) : EvS K (tOp rAd ta tb) σ H h c (fun v => ∃ x y, P1 x ∧ P2 y ∧ v = x + y) := fun H1 k1 d Q q =>
  ea H1 k1 d _ fun x H2 px d2 k2 => eb H2 (k1.trans k2) d2 _ fun y H3 py d3 k3 => ⟨x, y, rfl, rfl, q _ H3 ⟨x, y, px, py, rfl⟩ d3 (k2.trans k3)⟩
theorem es_dr {i : Nat} (hs : σ[i]? = some (some (.ref h))) (eb : EvS K tb σ H h c P1) (ok : ∀ m, P1 m → 0 < m ∧ m.natAbs.log2 < 9000 ∧ ∀ v, 0 ≤ v → v < m → P v) : EvS K (tCall (spDrawn K) [] E0 (tCons (tVar i) (tCons tb tNil))) σ H h c P := fun H1 k1 d Q q =>
  ⟨_, hs, eb H1 k1 d _ fun m H2 pm d2 k2 => ⟨h, c, m, rfl, (ok m pm).1, (ok m pm).2.1, d2, fun v H3 v0 v1 d3 k3 => q v H3 ((ok m pm).2.2 v v0 v1) d3 (k2.trans k3)⟩⟩
theorem es_pick {xs : List Int} (el : ∀ H1, EvL tl σ H1 (xs.map V.int)) (eb : EvS K tb σ H h c (fun v => 0 ≤ v ∧ v < xs.length)) : EvS K (tOp (rIxL K) tl tb) σ H h c (fun v => v ∈ xs) := fun H1 k1 d Q q =>
  el H1 H1 (Ex.refl _) _ fun p H2 np e2 hp => eb H2 (k1.trans (Kh.same e2)) (d.same e2) _ fun v H3 hv d3 k3 => by
    obtain ⟨j, rfl⟩ := Int.eq_ofNat_of_zero_le hv.1
    have hj : j < xs.length := by omega
    have at_ : (xs.map V.int)[j]? = some (.int xs[j]) := by
      rw [List.getElem?_map, List.getElem?_eq_getElem hj]
      rfl
    exact ⟨p, _, _, _, rfl, rfl, .of (k3 _ _ hp ((d.nh np))), at_nat (by rw [List.length_map]; exact hj) at_, q _ H3 (List.getElem_mem hj) d3 ((Kh.same e2).trans k3)⟩
/-- a draw below a number of a small table, itself drawn -/
theorem es_tab {i : Nat} {a b d : Int} (hs : σ[i]? = some (some (.ref h))) (el : ∀ H1, EvL tl σ H1 ([a, b, d].map V.int)) (ok : ∀ m, m = a ∨ m = b ∨ m = d → 0 < m ∧ m.natAbs.log2 < 9000 ∧ ∀ v, 0 ≤ v → v < m → P v) :
    EvS K (tCall (spDrawn K) [] E0 (tCons (tVar i) (tCons (tOp (rIxL K) tl (tCall (spDrawn K) [] E0 (tCons (tVar i) (tCons (tC (.int 3)) tNil)))) tNil))) σ H h c P :=
  es_dr hs (es_pick el (es_dr hs es_c fun m e => by
    subst e
    exact ⟨by decide, by decide +kernel, fun v v0 v1 => ⟨v0, v1⟩⟩)) fun m hm => ok m (by simpa using hm)
end
abbrev sPas : Stmt := top 32
abbrev NPa : List Str := ["_law_state", "_law_most", "_law_result", "_law_k", "_law_length"]
theorem scPas : FnScope NPa ["_law_state", "_law_most"] (defScope sPas) := ⟨rfl, rfl, rfl, by decide +kernel, rfl, by decide +kernel, by decide +kernel⟩
def spPas (K : PySem.W.Frag) : Sp := fun vs H Q _ => ∃ (h c : Addr) (m : Int), vs = [.ref h, .int m] ∧ 0 < m ∧ m ≤ 100 ∧ Ds K H h c ∧
  ∀ l vs L H', Ds K H' h c → Kh h H H' → H l = none → H' l = some (.lst vs) → PsV K H' vs L → 1 ≤ L.length → (L.length : Int) ≤ m → (∀ x ∈ L, okP x = true) → Q (.ref l) H'
section
variable {P : Program} {w : World} {K : PySem.W.Frag} {mg : Str → Option Value} {base : Heap} {fD : Addr} {fdD : FuncData}
theorem ok_pas {f : Addr} {fd : FuncData} {k : Nat} (F : Fun K "_law_passes" "_law_passes" sPas f fd) (T : TDn K mg fD fdD) (mR : mg "range" = none) : FnOk P w K mg base CX0 (k + 2) f fd ["_law_state", "_law_most"] (spPas K) := by
  refine F.ok scPas (fun vs H Q E h => ?_) (fun cdv A outer s H vs Q E hr h => ?_)
  · obtain ⟨h, c, m, rfl, _⟩ := h
    rfl
  · obtain ⟨h, c, m, rfl, m0, m1, d, q⟩ := h
    have h1 := hr.mono (show 1 ≤ k + 1 by omega)
    refine ⟨_, pss_cons (ps_set (i := 2) scPas.nd rfl (.inl rfl) (pe_lst pa_nil))
      (pss_cons (ps_for PassesOwn.never rfl (pi_range1 (by rfl) mR (pa_cons (pe_op op_add pe_int (pe_dr T h1 (by rfl) (pv 0) (pv 1))) pa_nil)) (pg_name (i := 3) scPas.nd rfl (.inl rfl))
        (pss_cons (ps_set (i := 4) scPas.nd rfl (.inl rfl) (pe_op op_add pe_int (pe_dr T h1 (by rfl) (pv 0) (pe_ixl (pe_lst (pa_cons pe_int (pa_cons pe_int (pa_cons pe_int pa_nil)))) (pe_dr T h1 (by rfl) (pv 0) pe_int)))))
        (pss_one (ps_expr (pe_bm PySem.F.plainAttrs_list PySem.F.slot_list_append PySem.F.type_list_append mt_append (pv 2) (pa_cons (pe_tup (pa_cons (pv 4) (pa_cons (pe_op op_add pe_int (pe_dr T h1 (by rfl) (pv 0) (pe_ixl (pe_lst (pa_cons pe_int (pa_cons pe_int (pa_cons (pe_op op_pow pe_int pe_int) pa_nil)))) (pe_dr T h1 (by rfl) (pv 0) pe_int)))) pa_nil))) pa_nil))))))
      (pss_one (ps_ret (pv 2)))), ?_⟩
    refine q_asgL (el_lst ea_nil (by decide)) fun l H1 nl e1 hl => ?_
    have d1 := d.same e1
    have nlh : l ≠ h := d.nh nl
    have eN : EvS K (tOp rAd (tC (.int 1)) (tCall (spDrawn K) [] E0 (tCons (tVar 0) (tCons (tVar 1) tNil)))) [some (.ref h), some (.int m), some (.ref l), none, none] H1 h c (fun v => 1 ≤ v ∧ v ≤ m) :=
      (es_add es_c (es_dr (P := fun v => 0 ≤ v ∧ v < m) rfl (es_var rfl) fun x e => by
        subst e
        exact ⟨m0, Nat.lt_of_le_of_lt (Nat.log2_le_self _) (by omega), fun v v0 v1 => ⟨v0, v1⟩⟩)).imp fun v ⟨x, y, hx, hy, e⟩ => by omega
    refine eN H1 Kh.refl d1 _ fun n H2 hn d2 k2 => ⟨n, rfl, by omega, by omega, for_range (lo := 0) (n := n.toNat) (fun i σ' H' => (∃ v3 v4 vs L, σ' = [some (.ref h), some (.int m), some (.ref l), v3, v4] ∧ H' l = some (.lst vs) ∧ PsV K H' vs L ∧ L.length = i ∧ (∀ x ∈ L, okP x = true)) ∧ Ds K H' h c ∧ Kh h H H') ?_ ?_ ?_⟩
    · exact ⟨⟨none, none, [], [], rfl, k2 _ _ hl nlh, .nil, rfl, fun x hx => nomatch hx⟩, d2, (Kh.same e1).trans k2⟩
    · rintro i σ' H' hi ⟨⟨v3, v4, vs, L, rfl, hl', hps, hL, good⟩, d', kk⟩
      have eA : EvS K (tOp rAd (tC (.int 1)) (tCall (spDrawn K) [] E0 (tCons (tVar 0) (tCons (tOp (rIxL K) (tLst (tCons (tC (.int 4)) (tCons (tC (.int 10)) (tCons (tC (.int 28)) tNil)))) (tCall (spDrawn K) [] E0 (tCons (tVar 0) (tCons (tC (.int 3)) tNil)))) tNil)))) [some (.ref h), some (.int m), some (.ref l), some (.int (0 + (i : Int))), v4] H' h c (fun v => 1 ≤ v ∧ v ≤ 28) :=
        (es_add es_c (es_tab (a := 4) (b := 10) (d := 28) (P := fun v => 0 ≤ v ∧ v < 28) rfl (fun _ => el_lst (ea_cons ev_c (ea_cons ev_c (ea_cons ev_c ea_nil))) (show 3 ≤ 100000 by decide)) fun x e => ⟨by omega, by rcases e with rfl | rfl | rfl <;> decide +kernel, fun v v0 v1 => ⟨v0, by omega⟩⟩)).imp fun v ⟨x, y, hx, hy, e⟩ => by omega
      refine eA H' Kh.refl d' _ fun ln H3 hln d3 k3 => ?_
      refine ⟨_, rfl, .inl ⟨rfl, vs, .of (k3 _ _ hl' nlh)⟩, _, rfl, ?_⟩
      have eB : EvS K (tOp rAd (tC (.int 1)) (tCall (spDrawn K) [] E0 (tCons (tVar 0) (tCons (tOp (rIxL K) (tLst (tCons (tC (.int 5)) (tCons (tC (.int 30)) (tCons (tOp rPw (tC (.int 10)) (tC (.int 6))) tNil)))) (tCall (spDrawn K) [] E0 (tCons (tVar 0) (tCons (tC (.int 3)) tNil)))) tNil)))) [some (.ref h), some (.int m), some (.ref l), some (.int (0 + (i : Int))), some (.int ln)] H3 h c (fun v => 1 ≤ v ∧ v ≤ 1000000) :=
        (es_add es_c (es_tab (a := 5) (b := 30) (d := 1000000) (P := fun v => 0 ≤ v ∧ v < 1000000) rfl (fun _ => el_lst (ea_cons ev_c (ea_cons ev_c (ea_cons (ev_pw ev_c ev_c ⟨by decide, by decide, by decide⟩) ea_nil))) (show 3 ≤ 100000 by decide)) fun x e => ⟨by omega, by rcases e with rfl | rfl | rfl <;> decide +kernel, fun v v0 v1 => ⟨v0, by omega⟩⟩)).imp fun v ⟨x, y, hx, hy, e⟩ => by omega
      refine eB H3 Kh.refl d3 _ fun pr H4 hpr d4 k4 => ⟨Nat.le_of_lt (small1000 (show 2 ≤ 1000 by decide)), fun p np => ?_⟩
      have hl4 : H4 l = some (.lst vs) := k4 _ _ (k3 _ _ hl' nlh) nlh
      have hl5 : upd H4 p (.tup [.int ln, .int pr]) l = some (.lst vs) := by
        rw [upd_ne (ne_of_none hl4 np)]
        exact hl4
      have len : vs.length = L.length := hps.len
      refine ⟨l, vs, .ref p, rfl, rfl, hl5, small1000 (by omega), ?_⟩
      have pl : p ≠ l := (ne_of_none hl4 np).symm
      have ph : p ≠ h := d4.nh np
      have k6 : TK K (upd H4 p (.tup [.int ln, .int pr])) (upd (upd H4 p (.tup [.int ln, .int pr])) l (.lst (vs ++ [.ref p]))) := .but (fun b => b = l) (fun b o e n => by rw [upd_ne n]; exact e) fun b xs z => by
        rw [z]
        exact Rd.lst_no hl5
      have kall : Kh h H (upd (upd H4 p (.tup [.int ln, .int pr])) l (.lst (vs ++ [.ref p]))) := fun b o e n => by
        rw [upd_ne (ne_of_none e nl)]
        exact same_new np _ _ (k4 _ _ (k3 _ _ (kk _ _ e n) n) n)
      refine ⟨⟨_, _, vs ++ [.ref p], L ++ [(ln, pr)], rfl, upd_same, PsV.app (((hps.tk (d'.tk (k3.trans k4))).tk (TK.new np)).tk k6) (.cons ⟨p, rfl, .of (by rw [upd_ne pl, upd_same])⟩ .nil), by rw [List.length_append, hL]; rfl, fun x hx => ?_⟩, d.put kall (d4.new np) nlh, kall⟩
      · rcases List.mem_append.mp hx with hx | hx
        · exact good x hx
        · rw [List.mem_singleton.mp hx]
          unfold okP
          rw [decide_eq_true hln.1, decide_eq_true hln.2, decide_eq_true hpr.1, decide_eq_true hpr.2]
          rfl
    · rintro σ' H' ⟨⟨v3, v4, vs, L, rfl, hl', hps, hL, good⟩, d', kk⟩
      exact ⟨_, rfl, q l vs L H' d' kk nl hl' hps (by omega) (by omega) good⟩
end
end Sea

set_option Elab.async false
set_option linter.all false
set_option maxRecDepth 100000
set_option maxHeartbeats 4000000
namespace Sea
open PySem PySem.Spec PyProof.Rows L2 LamX NdefX ClX Evl StX
abbrev sDay : Stmt := top 34
abbrev NDy : List Str := ["_law_state", "_law_length", "_law_dense", "_law_day"]
theorem scDay : FnScope NDy ["_law_state"] (defScope sDay) := ⟨rfl, rfl, rfl, by decide +kernel, rfl, by decide +kernel, by decide +kernel⟩
/-- a pair of a round's length and its travel days -/
def PtA (K : PySem.W.Frag) (H : Hp) (v : V) (ln : Int) (ds : List Int) : Prop := ∃ a d, v = .ref a ∧ SqT K H a [.int ln, d] ∧ TiA K H d ds
def spDay (K : PySem.W.Frag) : Sp := fun vs H Q _ => ∃ (h c : Addr), vs = [.ref h] ∧ Ds K H h c ∧ ∀ (v : V) (ln : Int) (ds : List Int) (H' : Hp), PtA K H' v ln ds → 1 ≤ ln → ln ≤ 14 → Good ds (ln - 1) → (ds.length : Int) ≤ ln → Ds K H' h c → Kh h H H' → Q v H'
section
variable {P : Program} {w : World} {K : PySem.W.Frag} {mg : Str → Option Value} {base : Heap} {fD : Addr} {fdD : FuncData}
theorem ok_day {f : Addr} {fd : FuncData} {k : Nat} (F : Fun K "_law_days" "_law_days" sDay f fd) (T : TDn K mg fD fdD) (mR : mg "range" = none) (mT : mg "tuple" = none) : FnOk P w K mg base CX0 (k + 2) f fd ["_law_state"] (spDay K) := by
  refine F.ok scDay (fun vs H Q E h => ?_) (fun cdv A outer s H vs Q E hr h => ?_)
  · obtain ⟨h, c, rfl, _⟩ := h
    rfl
  · obtain ⟨h, c, rfl, d, q⟩ := h
    have h1 := hr.mono (show 1 ≤ k + 1 by omega)
    have ltb : ∀ {n : Nat}, n ≤ 1000 → n ≤ sizeLine := fun h => Nat.le_of_lt (small1000 h)
    refine ⟨_, pss_cons (ps_asg (pe_tup (pa_cons (pe_op op_add pe_int (pe_dr T h1 (by rfl) (pv 0) pe_int)) (pa_cons (pe_op op_add pe_int (pe_dr T h1 (by rfl) (pv 0) pe_int)) pa_nil))) (pg_tup rfl (pgs_cons (pg_name (i := 1) scDay.nd rfl (.inl rfl)) (pgs_cons (pg_name (i := 2) scDay.nd rfl (.inr rfl)) pgs_nil))))
      (pss_one (ps_ret (pe_tup (pa_cons (pv 1) (pa_cons (pe_callTy call_tuple_of (by rfl) mT (by rfl) (pa_cons (pe_lc (own := [("_law_day", 3)]) (g := gName 3) (by rfl) scDay.nd (pi_range1 (by rfl) mR (pa_cons (pv 1) pa_nil))
        (blkOk_by (own := [("_law_day", 3)]) (N := NDy) (sc := defScope sDay) (by decide +kernel)) (fun _ _ _ _ _ => pg_name (i := 3) scDay.nd rfl (Or.inl rfl))
        (fun _ _ _ _ _ => pts_one (pt_cmpR L2.op_le (pe_dr T h1 (by rfl) (pv 0) pe_int) (pv 2) (nomark _))) (fun _ _ _ _ _ => pv 3)) pa_nil)) pa_nil))))), ?_⟩
    have one : ∀ {σ : L2.St} {H0 : Hp} {m : Int}, 0 < m → m ≤ 100 → σ[0]? = some (some (.ref h)) → EvS K (tOp rAd (tC (.int 1)) (tCall (spDrawn K) [] E0 (tCons (tVar 0) (tCons (tC (.int m)) tNil)))) σ H0 h c (fun v => 1 ≤ v ∧ v ≤ m) := fun {σ H0 m} m0 m1 hs =>
      (es_add es_c (es_dr (P := fun v => 0 ≤ v ∧ v < m) hs es_c fun x e => by
        subst e
        exact ⟨m0, Nat.lt_of_le_of_lt (Nat.log2_le_self _) (by omega), fun v v0 v1 => ⟨v0, v1⟩⟩)).imp fun v ⟨x, y, hx, hy, e⟩ => by omega
    refine one (m := 14) (by decide) (by decide) rfl H Kh.refl d _ fun ln H1 hl d1 k1 => one (m := 4) (by decide) (by decide) rfl H1 Kh.refl d1 _ fun de H2' hd d2' k2' => ⟨ltb (show 2 ≤ 1000 by decide), fun tp ntp => ⟨tp, _, rfl, .of upd_same, rfl, _, _, rfl, _, _, rfl, rfl, ?_⟩⟩
    generalize hH2 : upd H2' tp (.tup [.int ln, .int de]) = H2
    have d2 : Ds K H2 h c := hH2 ▸ d2'.new ntp
    have k2 : Kh h H1 H2 := hH2 ▸ k2'.trans (Kh.same (same_new ntp))
    refine ⟨_, rfl, _, rfl, ln, rfl, by omega, by omega, fun D nD => ?_⟩
    have n1 := d2.nh nD
    refine lc_range (lo := 0) (n := ln.toNat) (fun i H' => ∃ ds : List Int, Ds K H' h c ∧ Kh h H2 H' ∧ H' D = some (.lst (ds.map V.int)) ∧ Good ds ((i : Nat) - 1) ∧ ds.length ≤ i) ⟨[], d2.new nD, Kh.same (same_new nD), upd_same, fun j hj => absurd hj (Nat.not_lt_zero _), Nat.le_refl _⟩ ?_ ?_
    · rintro i H' hi ⟨ds, d3, k3, hD, hg, hlen⟩
      refine ⟨rfl, _, rfl, h, c, 5, rfl, by decide, by decide +kernel, d3, fun y H4 y0 y1 d4 k4 => ⟨_, rfl, _, _, rfl, rfl, _, rfl, ?_⟩⟩
      have hD4 := k4 _ _ hD n1
      refine ite2 (fun _ => ?_) (fun _ => ⟨ds, d4, k3.trans k4, hD4, hg.mono (by omega), by omega⟩)
      have kall : ∀ o, Kh h H2 (upd H4 D o) := fun _ b o e n => by
        rw [upd_ne (ne_of_none e nD)]
        exact (k3.trans k4) b o e n
      refine ⟨_, rfl, _, hD4, by rw [List.length_map]; exact small1000 (by omega), ds ++ [((i : Nat) : Int)], d2.put (kall _) d4 n1, kall _, ?_, ?_, ?_⟩
      · rw [upd_same, List.map_append, Int.zero_add]
        rfl
      · rw [show (((i + 1 : Nat) : Int)) - 1 = (i : Int) by omega]
        exact hg.snoc (by omega)
      · rw [List.length_append, List.length_singleton]
        omega
    · rintro H' ⟨ds, d3, k3, hD, hg, hlen⟩
      refine ⟨D, _, rfl, .inl ⟨.of hD, fun l nl => ⟨ltb (show 2 ≤ 1000 by decide), fun r nr => ?_⟩⟩⟩
      have nlr : l ≠ r := fun z => by
        rw [← z, upd_same] at nr
        cases nr
      refine q _ ln ds _ ⟨r, .ref l, rfl, .of upd_same, l, rfl, .of ?_⟩ (by omega) (by omega) (hg.mono (by omega)) (by omega) ((d3.new nl).new nr) ((((k1.trans k2).trans k3).trans (Kh.same (same_new nl))).trans (Kh.same (same_new nr)))
      rw [upd_ne nlr, upd_same]
end
end Sea

set_option Elab.async false
set_option linter.all false
set_option maxRecDepth 100000
set_option maxHeartbeats 4000000
namespace Sea
open PySem PySem.Spec PyProof.Rows L2 LamX NdefX ClX Evl StX
abbrev sTar : Stmt := top 33
theorem scTar : FnScope ["_law_passes_here"] ["_law_passes_here"] (defScope sTar) := ⟨rfl, rfl, rfl, by decide +kernel, rfl, by decide +kernel, by decide +kernel⟩
theorem bad_ok {L : List (Int × Int)} (h1 : 1 ≤ L.length) (h2 : L.length ≤ 6) (h : ∀ x ∈ L, okP x = true) : bad L = none := by
  unfold bad
  rw [if_neg fun e => by rw [e] at h1; cases h1]
  refine fb_all L 0 fun j x hx => ?_
  have hj := (List.getElem?_eq_some_iff.mp hx).1
  unfold badI
  rw [h x (List.mem_of_getElem? hx), dec_int, beq_eq_false_iff_ne.mpr (by omega)]
  rfl
def spTar (K : PySem.W.Frag) (C : Addr) : Sp := fun vs H Q _ => ∃ (l : Addr) (ws : List V) (L : List (Int × Int)), vs = [.ref l] ∧ H l = some (.lst ws) ∧ PsV K H ws L ∧ 1 ≤ L.length ∧ L.length ≤ 3 ∧ (∀ x ∈ L, okP x = true) ∧
  ∀ a p H', Same H H' → H a = none → Tar K C H' a p L → Q (.ref a) H'
section
variable {P : Program} {w : World} {K : PySem.W.Frag} {mg : Str → Option Value} {base : Heap} {C cI cU cP fI fT : Addr} {mc mp : Value} {fdI fdT : FuncData}
theorem ok_tar {f : Addr} {fd : FuncData} (F : Fun K "_law_tariff" "_law_tariff" sTar f fd) (X1 : TX K mg C cI cU cP fI mc mp) (I : TMk K C fI fT fdI fdT) : FnOk P w K mg base (L2.CX P w) 6 f fd ["_law_passes_here"] (spTar K C) := by
  refine F.okX scTar (fun vs H Q E h => ?_) (fun cdv A outer s H vs Q E hr h => ?_)
  · obtain ⟨l, ws, L, rfl, _⟩ := h
    rfl
  · obtain ⟨l, ws, L, rfl, hl, hps, l1, l3, good, q⟩ := h
    have PX : Passes (L2.CX P w) (cxOf (L2.CX P w) P w K mg base ["_law_passes_here"] "_law_tariff" (defScope sTar) f cdv A outer s H E) E := passes_call (takes_of rfl rfl rfl rfl) (fun _ _ _ _ h => h)
    refine ⟨_, pss_cons (ps_if (pt_cmpR op_eq (pe_callB call_len_seq (by rfl) X1.mN PySem.boot_len (pa_cons (pv 0) pa_nil)) pe_int (nomark _)) (pss_one (ps_ret (pe_tar X1 I hr PX (by rfl) (pa_cons (pe_ixl (pv 0) pe_int) pa_nil)))) pss_nil)
      (pss_cons (ps_if (pt_cmpR op_eq (pe_callB call_len_seq (by rfl) X1.mN PySem.boot_len (pa_cons (pv 0) pa_nil)) pe_int (nomark _)) (pss_one (ps_ret (pe_tar X1 I hr PX (by rfl) (pa_cons (pe_ixl (pv 0) pe_int) (pa_cons (pe_ixl (pv 0) pe_int) pa_nil))))) pss_nil)
      (pss_one (ps_ret (pe_tar X1 I hr PX (by rfl) (pa_cons (pe_ixl (pv 0) pe_int) (pa_cons (pe_ixl (pv 0) pe_int) (pa_cons (pe_ixl (pv 0) pe_int) pa_nil))))))), ?_⟩
    have hb : bad L = none := bad_ok l1 (by omega) good
    have fin : ∀ H' : Hp, Ex H H' → spMk K C cI ws H' Q E := fun _ e => ⟨L, hps.tk (.same e), by omega, fun _ a p H2 sm na t => q a p H2 (Same.trans e sm) (fresh_back e na) t, fun i d H2 hb2 => by rw [hb] at hb2; cases hb2⟩
    have hlen := hps.len
    have eT : ∀ (H' : Hp) (n : Nat), Ex H H' → EvT (tTest (tOp rEq (tCB (rLenS K) (tCons (tVar 0) tNil)) (tC (.int (n : Int))))) [some (.ref l)] H' (decide (V.int (ws.length : Nat) = V.int (n : Int))) := fun _ n e => et_test (ev_op (ev_len (ev_var rfl) (sq_of (e _ _ hl))) ev_c (rv_eq rfl))
    match ws, hl, hlen, fin, eT with
    | [x], hl, hlen, fin, eT =>
      refine q_when (b := decide (V.int (1 : Nat) = V.int 1)) (eT _ 1 (Ex.refl _)) (fun _ H1 e1 => ?_) (fun h => by simp at h)
      exact ⟨_, rfl, l, _, 0, x, rfl, rfl, sq_of (e1 _ _ hl), rfl, fin _ e1⟩
    | [x, y], hl, hlen, fin, eT =>
      refine q_when (b := decide (V.int (2 : Nat) = V.int 1)) (eT _ 1 (Ex.refl _)) (fun h => by simp at h) (fun _ H1 e1 => ?_)
      refine q_when (b := decide (V.int (2 : Nat) = V.int 2)) (eT _ 2 e1) (fun _ H2 e2 => ?_) (fun h => by simp at h)
      exact ⟨_, rfl, l, _, 0, x, rfl, rfl, sq_of (e2 _ _ (e1 _ _ hl)), rfl, _, rfl, l, _, 1, y, rfl, rfl, sq_of (e2 _ _ (e1 _ _ hl)), rfl, fin _ (e1.trans e2)⟩
    | [x, y, z], hl, hlen, fin, eT =>
      refine q_when (b := decide (V.int (3 : Nat) = V.int 1)) (eT _ 1 (Ex.refl _)) (fun h => by simp at h) (fun _ H1 e1 => ?_)
      refine q_when (b := decide (V.int (3 : Nat) = V.int 2)) (eT _ 2 e1) (fun h => by simp at h) (fun _ H2 e2 => ?_)
      have h2 := sq_of (K := K) (e2 _ _ (e1 _ _ hl))
      exact ⟨_, rfl, l, _, 0, x, rfl, rfl, h2, rfl, _, rfl, l, _, 1, y, rfl, rfl, h2, rfl, _, rfl, l, _, 2, z, rfl, rfl, h2, rfl, fin _ (e1.trans e2)⟩
    | [], hl, hlen, _, _ => rw [← hlen] at l1; cases l1
    | _ :: _ :: _ :: _ :: _, hl, hlen, _, _ => simp at hlen; omega
end
end Sea

set_option Elab.async false
set_option linter.all false
set_option maxRecDepth 100000
set_option maxHeartbeats 4000000
namespace Sea
open PySem PySem.Spec PyProof.Rows L2 LamX NdefX ClX Evl StX
abbrev sLengths : Stmt := inClass (top 8) 6
abbrev sPrices : Stmt := inClass (top 8) 7
theorem scLengths : FnScope ["self", "length", "price"] ["self"] (defScope sLengths) := ⟨rfl, rfl, rfl, by decide +kernel, rfl, by decide +kernel, by decide +kernel⟩
theorem scPrices : FnScope ["self", "length", "price"] ["self"] (defScope sPrices) := ⟨rfl, rfl, rfl, by decide +kernel, rfl, by decide +kernel, by decide +kernel⟩
/-- a new tuple of one number of each pass -/
def spCol (K : PySem.W.Frag) (C : Addr) (f : Int × Int → Int) : Sp := fun vs H Q _ => ∃ (a p : Addr) (L : List (Int × Int)), vs = [.ref a] ∧ Tar K C H a p L ∧ L.length ≤ 1000 ∧ ∀ q H', Same H H' → H' q = some (.tup (L.map fun x => .int (f x))) → Q (.ref q) H'
section
variable {P : Program} {w : World} {K : PySem.W.Frag} {mg : Str → Option Value} {base : Heap} {C cI cU cP fI fT fP pP : Addr} {mc mp : Value} {fdP fdI fdT : FuncData}
theorem ok_lengths {f : Addr} {fd : FuncData} {k : Nat} (F : Fun K "lengths" "Tariff.lengths" sLengths f fd) (T : TX K mg C cI cU cP fI mc mp) : FnOk P w K mg base CX0 (k + 1) f fd ["self"] (spCol K C Prod.fst) := by
  refine F.ok scLengths (fun vs H Q E h => ?_) (fun cdv A outer s H vs Q E hr h => ?_)
  · obtain ⟨a, p, L, rfl, _⟩ := h
    rfl
  · obtain ⟨a, p, L, rfl, ht, hlen, q⟩ := h
    refine ⟨_, pss_one (ps_ret (pe_callTy call_tuple_of (by rfl) T.mT (by rfl) (pa_cons (pe_lc (own := [("length", 1), ("price", 2)]) (g := gTup K 2 (gCons (gName 1) (gCons (gName 2) gNil))) (by rfl) scLengths.nd (pi_tup (pe_fld (pv 0) rfl))
      (blkOk_by (own := [("length", 1), ("price", 2)]) (N := ["self", "length", "price"]) (sc := defScope sLengths) (by decide +kernel))
      (fun _ _ _ _ _ => pg_tup rfl (pgs_cons (pg_name (i := 1) scLengths.nd rfl (Or.inl rfl)) (pgs_cons (pg_name (i := 2) scLengths.nd rfl (Or.inl rfl)) pgs_nil))) (fun _ _ _ _ _ => pts_nil) (fun _ _ _ _ _ => pv 1)) pa_nil))), ?_⟩
    obtain ⟨vs, h1, hl, hv⟩ := ht.len_eq
    obtain ⟨⟨dx, ha⟩, _⟩ := ht
    refine ⟨_, rfl, a, C, dx, _, _, rfl, ha, T.cl, T.no, rfl, p, rfl, ?_⟩
    refine ⟨⟨vs, h1⟩, fun D nD => ?_⟩
    have nDb : ∀ {b : Addr} {o : HO}, H b = some o → b ≠ D := fun e => ne_of_none e nD
    refine lc_tup (K := K) (a := p) (xs := vs) (fun i H' => Same H H' ∧ H' D = some (.lst ((L.take i).map fun x => V.int x.1))) ⟨same_new nD, upd_same⟩ (fun i H' _ z => (TK.same z.1) _ _ h1) ?_ ?_
    · rintro i x H' hx ⟨sm, hD⟩
      obtain ⟨⟨l, pr⟩, hLi, b, rfl, hb⟩ := hv.get hx
      refine ⟨b, _, rfl, (TK.same sm) _ _ hb, rfl, _, _, rfl, _, _, rfl, rfl, rfl, ?_⟩
      refine iteT (B := True) ?_
      refine ⟨_, rfl, _, hD, ?_, ?_, ?_⟩
      · rw [List.length_map, List.length_take]
        exact Nat.lt_of_le_of_lt (Nat.min_le_right _ _) (small1000 hlen)
      · intro c o e
        rw [upd_ne (nDb e)]
        exact sm _ _ e
      · rw [upd_same, take_snoc hLi, List.map_append]
        rfl
    · rintro H' ⟨sm, hD⟩
      refine ⟨D, _, rfl, .inl ⟨.of hD, fun l nl => q l _ (sm.trans (same_new nl)) ?_⟩⟩
      rw [upd_same, hl, List.take_length]
theorem ok_prices {f : Addr} {fd : FuncData} {k : Nat} (F : Fun K "prices" "Tariff.prices" sPrices f fd) (T : TX K mg C cI cU cP fI mc mp) : FnOk P w K mg base CX0 (k + 1) f fd ["self"] (spCol K C Prod.snd) := by
  refine F.ok scPrices (fun vs H Q E h => ?_) (fun cdv A outer s H vs Q E hr h => ?_)
  · obtain ⟨a, p, L, rfl, _⟩ := h
    rfl
  · obtain ⟨a, p, L, rfl, ht, hlen, q⟩ := h
    refine ⟨_, pss_one (ps_ret (pe_callTy call_tuple_of (by rfl) T.mT (by rfl) (pa_cons (pe_lc (own := [("length", 1), ("price", 2)]) (g := gTup K 2 (gCons (gName 1) (gCons (gName 2) gNil))) (by rfl) scPrices.nd (pi_tup (pe_fld (pv 0) rfl))
      (blkOk_by (own := [("length", 1), ("price", 2)]) (N := ["self", "length", "price"]) (sc := defScope sPrices) (by decide +kernel))
      (fun _ _ _ _ _ => pg_tup rfl (pgs_cons (pg_name (i := 1) scPrices.nd rfl (Or.inl rfl)) (pgs_cons (pg_name (i := 2) scPrices.nd rfl (Or.inl rfl)) pgs_nil))) (fun _ _ _ _ _ => pts_nil) (fun _ _ _ _ _ => pv 2)) pa_nil))), ?_⟩
    obtain ⟨vs, h1, hl, hv⟩ := ht.len_eq
    obtain ⟨⟨dx, ha⟩, _⟩ := ht
    refine ⟨_, rfl, a, C, dx, _, _, rfl, ha, T.cl, T.no, rfl, p, rfl, ?_⟩
    refine ⟨⟨vs, h1⟩, fun D nD => ?_⟩
    have nDb : ∀ {b : Addr} {o : HO}, H b = some o → b ≠ D := fun e => ne_of_none e nD
    refine lc_tup (K := K) (a := p) (xs := vs) (fun i H' => Same H H' ∧ H' D = some (.lst ((L.take i).map fun x => V.int x.2))) ⟨same_new nD, upd_same⟩ (fun i H' _ z => (TK.same z.1) _ _ h1) ?_ ?_
    · rintro i x H' hx ⟨sm, hD⟩
      obtain ⟨⟨l, pr⟩, hLi, b, rfl, hb⟩ := hv.get hx
      refine ⟨b, _, rfl, (TK.same sm) _ _ hb, rfl, _, _, rfl, _, _, rfl, rfl, rfl, ?_⟩
      refine iteT (B := True) ?_
      refine ⟨_, rfl, _, hD, ?_, ?_, ?_⟩
      · rw [List.length_map, List.length_take]
        exact Nat.lt_of_le_of_lt (Nat.min_le_right _ _) (small1000 hlen)
      · intro c o e
        rw [upd_ne (nDb e)]
        exact sm _ _ e
      · rw [upd_same, take_snoc hLi, List.map_append]
        rfl
    · rintro H' ⟨sm, hD⟩
      refine ⟨D, _, rfl, .inl ⟨.of hD, fun l nl => q l _ (sm.trans (same_new nl)) ?_⟩⟩
      rw [upd_same, hl, List.take_length]
end
end Sea

set_option Elab.async false
set_option linter.all false
set_option maxRecDepth 100000
set_option maxHeartbeats 4000000
namespace Sea
open PySem PySem.Spec PyProof.Rows L2 LamX NdefX ClX Evl StX
abbrev sVC : Stmt := top 10
theorem scVC : FnScope ["count", "smallest", "largest"] ["count", "smallest", "largest"] (defScope sVC) := ⟨rfl, rfl, rfl, by decide +kernel, rfl, by decide +kernel, by decide +kernel⟩
/-- InvalidCount as the code raises it -/
structure TNc (K : PySem.W.Frag) (mg : Str → Option Value) (cN : Addr) : Prop where
  qN : PySem.W.excIn K cN [.type "ValueError", .type "Exception", .type "BaseException", .type "object"] "ValueError.__new__" = true
  gN : mg "InvalidCount" = some (.ref cN)
  kN : PySem.W.keepIn K (.ref cN) = true
  sN : PySem.W.subIn K (.ref cN) (.type "BaseException") = some true
  yN : PySem.W.typeIn K (.ref cN) = some (.type "type")
def spVC (cN : Addr) : Sp := fun vs H Q E => ∃ c x l : Int, vs = [.int c, .int x, .int l] ∧ (x ≤ c ∧ c ≤ l → ∀ H', Same H H' → Q .non H') ∧ (¬ (x ≤ c ∧ c ≤ l) → ∀ H', Same H H' → E (.ref cN) none H')
abbrev sOut : Stmt := top 31
abbrev NOu : List Str := ["_law_work", "e"]
theorem scOut : FnScope NOu ["_law_work"] (defScope sOut) := ⟨rfl, rfl, rfl, by decide +kernel, rfl, by decide +kernel, by decide +kernel⟩
structure TOu (K : PySem.W.Frag) (mg : Str → Option Value) (cV cU : Addr) : Prop where
  gV : mg "InvalidTravel" = some (.ref cV)
  gU : mg "UnknownPass" = some (.ref cU)
  fV : XfC K cV
  nV : PySem.W.findIn K (.ref cV) "index" = some none
  pV : PySem.W.findIn K (.ref cV) "part" = some none
  VV : PySem.W.exmOne K (.ref cV) (.ref cV) = some true
  UV : PySem.W.exmOne K (.ref cU) (.ref cV) = some false
  UU : PySem.W.exmOne K (.ref cU) (.ref cU) = some true
/-- what _law_outcome answers: of a thunk that gives a value, the value; of one that raises, a tuple -/
def spOut (cV cU : Addr) : (Hp → VK → XK → Prop) → Hp → VK → XK → Prop := fun tl H Q _ => tl H Q fun cls d H1 =>
  (cls = .ref cU ∧ ∀ r H', Same H1 H' → H' r = some (.tup [.str "UnknownPass"]) → Q (.ref r) H') ∨
  (cls = .ref cV ∧ ∃ (dx : Addr) (p : Str) (i : Int), d = some dx ∧ H1 dx = some (.xd [("index", .int i), ("part", .str p)]) ∧ ∀ r H', Same H1 H' → H' r = some (.tup [.str "InvalidTravel", .str p, .int i]) → Q (.ref r) H')
section
variable {P : Program} {w : World} {K : PySem.W.Frag} {mg : Str → Option Value} {base : Heap} {cN cV cU : Addr}
theorem ok_vc {f : Addr} {fd : FuncData} {k : Nat} (F : Fun K "validate_count" "validate_count" sVC f fd) (T : TNc K mg cN) : FnOk P w K mg base (L2.CX P w) (k + 1) f fd ["count", "smallest", "largest"] (spVC cN) := by
  refine F.okX scVC (fun vs H Q E h => ?_) (fun cdv A outer s H vs Q E hr h => ?_)
  · obtain ⟨c, x, l, rfl, _⟩ := h
    rfl
  · obtain ⟨c, x, l, rfl, q1, q2⟩ := h
    refine ⟨_, pss_one (ps_if (pt_not (pt_chain op_le op_le (pv 1) (pv 0) (pv 2))) (pss_one (ps_raise rfl (takes_of rfl rfl rfl rfl) (pmk_own PySem.F.excBase_ValueError T.qN T.gN T.kN (raises_own T.sN T.yN) (by rfl)))) pss_nil), ?_⟩
    refine s_when (b := !(decide (x ≤ c) && decide (c ≤ l))) (et_not (et_test (ev_chainI (p := fun i j => decide (i ≤ j)) (q := fun i j => decide (i ≤ j)) (ev_var rfl) (ev_var rfl) (ev_var rfl)))) (fun hb H1 e1 => q2 (fun hc => ?_) H1 e1) (fun hb H1 e1 => q1 ?_ H1 e1)
    · rw [decide_eq_true hc.1, decide_eq_true hc.2] at hb
      cases hb
    · have : (decide (x ≤ c) && decide (c ≤ l)) = true := by
        cases h : (decide (x ≤ c) && decide (c ≤ l)) with
        | true => rfl
        | false =>
          rw [h] at hb
          cases hb
      rw [Bool.and_eq_true] at this
      exact ⟨of_decide_eq_true this.1, of_decide_eq_true this.2⟩
theorem ok_out {f : Addr} {fd : FuncData} {j k : Nat} (F : Fun K "_law_outcome" "_law_outcome" sOut f fd) (T : TOu K mg cV cU) (hjk : j ≤ k) : FnS P w K mg base CX0 (L2.CX P w) (k + 1) j f (spOut cV cU) := by
  intro A outer s H fl tl Q E hr e0 hT h
  obtain ⟨oc, od, kV, doc, pm, an, cdv, ct, osl, rfl, lk, hcd⟩ := F.ex
  refine run_ofS (N := NOu) (ps := ["_law_work"]) (us := [.ref fl]) (vs := [.ref fl]) (k := k) lk hcd scOut hr e0 (.of_eq rfl) (.cons rfl .nil) rfl fun hr' => ?_
  refine ⟨_, pss_one (ps_try_cls (X := (cxOf CX0 P w K mg base NOu "_law_outcome" (defScope sOut) f cdv A outer s H E)) (W := fun _ _ _ _ => False) rfl rfl L2.takes0
      (fun U pn xe tk hp => pss_one (ps_ret (show PE ((cxOf CX0 P w K mg base NOu "_law_outcome" (defScope sOut) f cdv A outer s H E).tr pn xe) _ (tActM (cxOf CX0 P w K mg base NOu "_law_outcome" (defScope sOut) f cdv A outer s H E) j 0 fun σ => WE U σ) from
        pe_actM (X := (cxOf CX0 P w K mg base NOu "_law_outcome" (defScope sOut) f cdv A outer s H E).tr pn xe) (j := j) (i := 0) (E := fun σ => WE U σ) (hr'.mono hjk) rfl (fun σ => passAt tk σ) rfl (.inl rfl))))
      (.cons (.named (i := 1) scOut.nd rfl rfl ⟨by rfl, by decide, .inl T.gV⟩ (fun a oe cls d pn hz hf => pss_one (ps_ret (pe_tup (pa_cons pe_str (pa_cons (pe_xf (X := (cxOf CX0 P w K mg base NOu "_law_outcome" (defScope sOut) f cdv A outer s H E)) (pn := pn) K rfl hz hf (pv 1)) (pa_cons (pe_xf (X := (cxOf CX0 P w K mg base NOu "_law_outcome" (defScope sOut) f cdv A outer s H E)) (pn := pn) K rfl hz hf (pv 1)) pa_nil)))))))
      (.cons (.bare ⟨by rfl, by decide, .inl T.gU⟩ (fun a oe cls d pn hz hf => pss_one (ps_ret (pe_tup (pa_cons pe_str pa_nil))))) .nil))), ?_⟩
  refine ⟨fl, tl, _, _, rfl, rfl, hT, h, fun v H1 q => q, fun cls d H1 hc => ?_⟩
  rcases hc with ⟨rfl, q⟩ | ⟨rfl, dx, p, i, rfl, hx, q⟩
  · refine ⟨false, T.UV, true, T.UU, fun a na => ?_⟩
    exact ⟨Nat.le_of_lt (small1000 (show 1 ≤ 1000 by decide)), fun r nr => q r _ (same_new nr) upd_same⟩
  · refine ⟨true, T.VV, fun a na => ?_⟩
    exact ⟨cV, rfl, T.fV, T.pV, .ref a, rfl, rfl, rfl, dx, _, _, rfl, hx, rfl, cV, rfl, T.fV, T.nV, .ref a, rfl, rfl, rfl, dx, _, _, rfl, hx, rfl, Nat.le_of_lt (small1000 (show 3 ≤ 1000 by decide)), fun r nr => q r _ (same_new nr) upd_same⟩
end
end Sea

set_option Elab.async false
set_option linter.all false
set_option maxRecDepth 100000
set_option maxHeartbeats 4000000
namespace Sea
open PySem PySem.Spec PyProof.Rows L2 LamX NdefX ClX Evl StX
/-! ### a, *b = a list -/
def gStar (K : PySem.W.Frag) (t : TGs) : TG := fun v σ H Q => ∃ (a : Addr) (x : V) (xs : List V), v = .ref a ∧ SqL K H a (x :: xs) ∧ ∀ p, H p = none → t [x, .ref p] σ (upd H p (.lst xs)) Q
/-- what a, *b takes from a list: the first item, a new list of the others -/
theorem star_items {prog : Program} {w : World} {A : Around} {E : Value → Shared → Prop} {s : Shared} {l : Addr} {u : Value} {us : List Value} {Q : List Value → Shared → Prop}
    (hh : A.handled = none) (hl : s.heap.IsList l (u :: us).toArray) (hz : us.length < sizeLine)
    (h : ∀ (h1 : Heap) (tk : Tok), (∀ b o, s.heap.get? b = some o → h1.get? b = some o) → Q [u, .ref h1.objs.size] { s with heap := h1.push { cls := .type "list", data := .seq us.toArray }, toks := tk }) :
    wpAny (model prog w) A (unpackItems (.ref l) 2 (some 1)) Q E s := by
  have below : l < s.heap.objs.size := match hl with | ⟨_, e, _⟩ => Heap.lt_size e
  have apart : l ≠ s.heap.objs.size := Nat.ne_of_lt below
  have can : wpAny (model prog w) A (notIterableAtAll (.ref l)) (fun b s' => b = false ∧ s' = s) E s := by
    unfold notIterableAtAll
    exact wpAny_bind (wpAny_specialOf hl.typeIs slot_list_iter.lookup (wpAny_pure ⟨rfl, rfl⟩))
  unfold unpackItems
  refine wpAny_bind (thn can fun b s' z => ?_)
  obtain ⟨rfl, rfl⟩ := z
  refine wpAny_bind (wpAny_holding (wpAny_pyIter_list hl ?_))
  refine wpAny_bind (wpAny_holding (PySem.W.kun_draw apart 1 0 _ _ ⟨_, Heap.get?_push_size _ rfl, rfl, rfl⟩ (hl.push _) (by simp) fun g it1 same1 => ?_))
  have lg : g.IsList l (u :: us).toArray := (hl.push _).extBut same1.extBut apart
  have old : ∀ b o, s'.heap.get? b = some o → b ≠ s'.heap.objs.size ∧ g.get? b = some o := fun b o e =>
    have n : b ≠ s'.heap.objs.size := Nat.ne_of_lt (Heap.lt_size e)
    ⟨n, same1.extBut b o n (Heap.get?_push_of_some _ e)⟩
  have itIn : s'.heap.objs.size < g.objs.size := match it1 with | ⟨_, e, _⟩ => Heap.lt_size e
  have W := Walks.list (prog := prog) (w := w) (A := A.in1) hh s'.heap.objs.size l apart (u :: us).toArray
  refine wpAny_bind (wpAny_holding (wpAny_collect_iter (s := { s' with heap := g }) (T := "list_iterator") (.inr (.inr (.inl rfl))) (PySem.W.kun_shift W (show 1 ≤ (u :: us).toArray.size by simp)).toS (fun j v st => st.1.typeIs) ⟨it1, lg⟩
    (fun b hb => ?_) (List.mem_cons_self ..) (fun z acc mv got => ?_) (by simp; omega)))
  · rcases List.mem_cons.mp hb with rfl | hb
    · exact itIn
    · rw [List.mem_singleton.mp hb]
      exact match lg with | ⟨_, e, _⟩ => Heap.lt_size e
  · obtain ⟨g2, ga, dr, tk, os2⟩ := z
    obtain ⟨kept, same2, same3, same4, same5⟩ := mv
    cases same2
    cases same3
    cases same4
    have ea : acc.toList = us := PySem.W.kun_acc (items := (u :: us).toArray) (k := 1) (by simp) got
    rw [ea]
    refine wpAny_bind (wpAny_newList (wpAny_pure ?_) (by simp; omega))
    have q := h g2 tk (fun b o e => kept b o (by simpa using (old b o e).1) (old b o e).2)
    simp
    exact q
section
variable {X : Cx} {pos : Pos}
theorem pgs_starN {x : Str} {px p : Pos} {es : List Expr} {t : TGs} (h : PGs X (.Name x px :: es) t) : PGs X (.Starred (.Name x px) p :: es) t := ⟨h.run⟩
theorem pg_star {es : List Expr} {k : Nat} {t : TGs} (hc : X.calm = true) (h : PGs X es t)
    (hn : (assignEach es X.env).length = 2 := by rfl) (hst : (assignEach es X.env).findIdx? (·.1) = some 1 := by rfl) : PG X (.Tuple es k pos) (gStar X.K t) := ⟨by
  rintro pins s σ H v u Q I r ⟨a, x, xs, rfl, hq, hw⟩
  cases r
  obtain ⟨its, rv, ⟨o, n, e1, e2, e3, e4⟩, hz⟩ := I.list hq
  cases rv with
  | cons r0 rs =>
    rw [PyProof.Rows.assign_Tuple]
    refine wpAny_bind (wpAny_standAt ?_)
    unfold unpack
    rw [hn, hst]
    refine wpAny_bind (wpAny_holding (star_items (I.ok.hd hc) ⟨o, e1, e2, n, e4⟩ (by rw [List.length_cons] at hz; rw [← rs.length]; omega) fun h1 tk keep => ?_))
    have I1 : Inv X pins σ H { s with heap := h1, toks := tk } := I.kept (t' := tk) keep
    have hp := I1.hok.fresh (Nat.le_refl _)
    refine h.run pins _ σ _ [x, .ref h1.objs.size] _ Q (I1.laid (o := .lst xs) (t' := tk) (fun b o e => Heap.get?_push_of_some _ e) (Nat.le_refl _) ⟨?_, _, 0, rs, Heap.get?_push_size _ rfl⟩) (.cons r0 (.cons rfl .nil)) (hw _ hp)
    rw [List.length_cons] at hz
    omega⟩
end
end Sea

set_option Elab.async false
set_option linter.all false
set_option maxRecDepth 100000
set_option maxHeartbeats 4000000
/-! texts: what the layer's lemmas on evaluation lack, no program in sight -/
namespace Sea
open PySem PySem.Spec PyProof.Rows L2 LamX NdefX ClX Evl StX
section
variable {K : PySem.W.Frag} {te ta tb : TE} {t : TT} {σ : L2.St} {H : Hp}
theorem given_all (n : Nat) (v : Nat → V) : given n (fun _ => true) v = (List.range n).map v := by
  unfold given
  rw [List.filter_eq_self.mpr fun _ _ => rfl]
/-- a comprehension over a text -/
theorem el_lcSt {z : Str} {j : Nat} {vs : List Nat} (f : Nat → Bool) (v : Nat → V) (h : Ev te σ H (.str z)) (hz : z.length ≤ 40000) (hw : ∀ x, wipe ((wipe σ vs).set j (some x)) vs = wipe σ vs)
    (ht : ∀ i c H1, Ex H H1 → z.cps[i]? = some c → EvT t ((wipe σ vs).set j (some (.str ⟨#[c]⟩))) H1 (f i)) (he : ∀ i c H1, Ex H H1 → z.cps[i]? = some c → f i = true → Ev tb ((wipe σ vs).set j (some (.str ⟨#[c]⟩))) H1 (v i)) :
    EvL (tLc (iStr te) (gName j) t tb vs) σ H (given z.cps.size f v) := fun H0 e Q q => h H0 e _ fun H1 e1 => ⟨z, rfl, fun Dl hD =>
  lc_it walk_str (Cw H1 f v Dl) ⟨hD, Ex.new hD, upd_same⟩ (fun _ _ _ _ => trivial) (fun i x G G' hi p y => by
    obtain ⟨rfl, c, hc, rfl⟩ := y
    exact ⟨hw _, cw_turn p (Nat.lt_of_lt_of_le hi (Nat.le_trans (show z.cps.size ≤ 40000 from hz) (by decide))) (ht i c H1 (e.trans e1) hc) (fun hf => he i c H1 (e.trans e1) hc hf)⟩) (fun H' p => q Dl H' (fresh_back e1 p.1) (e1.trans p.2.1) p.2.2)⟩
theorem ev_allL {bs : List Bool} (h : EvL te σ H (bs.map V.bl)) : Ev (tCB (rAll K) (tCons te tNil)) σ H (.bl (bs.all id)) := fun H1 e Q q =>
  h H1 e _ fun p H2 _ e2 hx => ⟨p, bs, rfl, sq_of hx, q H2 e2⟩
theorem ev_lenZ {z : Str} (h : Ev te σ H (.str z)) (hz : z.length ≤ 100000) : Ev (tCB (fun xs H Q => ∃ z, xs = [.str z] ∧ z.length ≤ sizeLine ∧ Q (.int z.length) H) (tCons te tNil)) σ H (.int (z.length : Int)) := fun H1 e Q q =>
  h H1 e _ fun H2 e2 => ⟨z, rfl, sz_of hz, q H2 e2⟩
theorem ev_inSign {c : Nat} {z : Str} (h : Ev ta σ H (.str ⟨#[c]⟩)) (g : Ev tb σ H (.str z)) : Ev (tOp (fun x y H Q => ∃ (c : Nat) (z : Str), x = .str ⟨#[c]⟩ ∧ y = .str z ∧ Q (.bl (decide (c ∈ z.cps.toList))) H) ta tb) σ H (.bl (decide (c ∈ z.cps.toList))) :=
  ev_op h g fun H1 _ Q q => ⟨c, z, rfl, rfl, q H1 (Ex.refl _)⟩
theorem ev_intS {z : Str} {n : Int} (h : Ev te σ H (.str z)) (hn : PySem.intText? z = some n) (hz : z.length ≤ 640) : Ev (tCB (fun xs H Q => ∃ a n, xs = [.str a] ∧ PySem.intText? a = some n ∧ a.length ≤ 640 ∧ Q (.int n) H) (tCons te tNil)) σ H (.int n) := fun H1 e Q q =>
  h H1 e _ fun H2 e2 => ⟨z, n, rfl, hn, hz, q H2 e2⟩
theorem ev_strI {i : Int} (h : Ev te σ H (.int i)) (hi : i.natAbs.log2 < 1920) : Ev (tCB (fun xs H Q => ∃ i, xs = [.int i] ∧ i.natAbs.log2 < 1920 ∧ Q (.str (toString i)) H) (tCons te tNil)) σ H (.str (toString i)) := fun H1 e Q q =>
  h H1 e _ fun H2 e2 => ⟨i, rfl, hi, q H2 e2⟩
end
section
variable {K : PySem.W.Frag} {te ta tb tl : TE} {t : TT} {tr : TA} {σ : L2.St} {H : Hp}
theorem el_lcTup {K : PySem.W.Frag} {σ : L2.St} {H : Hp} {a : Addr} {xs : List V} {tl te : TE} {t : TT} {j : Nat} {vs : List Nat} (f : Nat → Bool) (v : Nat → V) (h : Ev tl σ H (.ref a)) (hx : SqT K H a xs) (hz : xs.length ≤ 40000) (hw : ∀ x, wipe ((wipe σ vs).set j (some x)) vs = wipe σ vs)
    (ht : ∀ (i : Nat) (x : V) H1, Ex H H1 → xs[i]? = some x → EvT t ((wipe σ vs).set j (some x)) H1 (f i)) (he : ∀ (i : Nat) (x : V) H1, Ex H H1 → xs[i]? = some x → f i = true → Ev te ((wipe σ vs).set j (some x)) H1 (v i)) : EvL (tLc (iTup K tl) (gName j) t te vs) σ H (given xs.length f v) := by
  rintro H0 e Q q
  refine h H0 e _ fun H1 e1 => ?_
  have stays : ∀ {H2}, Ex H1 H2 → SqT K H2 a xs := fun e2 => ex_t (e.trans (e1.trans e2)) hx
  refine ⟨a, rfl, ⟨xs, stays (Ex.refl _)⟩, fun D new => ?_⟩
  refine lc_tup (xs := xs) (Cw H1 f v D) ⟨new, Ex.new new, upd_same⟩ (fun _ _ _ w => stays w.2.1) ?_ fun H2 w => q D H2 (fresh_back e1 w.1) (e1.trans w.2.1) w.2.2
  intro i x H2 at_ w
  have few := (List.getElem?_eq_some_iff.mp at_).1
  exact ⟨hw x, cw_turn w (by omega) (ht i x H1 (e.trans e1) at_) (he i x H1 (e.trans e1) at_)⟩
/-- a list that is walked, or a tuple -/
def iSeq (K : PySem.W.Frag) (te : TE) : TI := fun σ H R => iList K te σ H R ∨ iTup K te σ H R
theorem pi_seq {X : Cx} {tg l : Expr} (hl : PE X l tl) : PI X tg l (iSeq X.K tl) := ⟨fun pins s σ H R I h => h.elim ((pi_list hl).run pins s σ H R I) ((pi_tup hl).run pins s σ H R I)⟩
theorem el_lcSeq {a : Addr} {xs : List V} {j : Nat} {vs : List Nat} (f : Nat → Bool) (v : Nat → V) (h : Ev tl σ H (.ref a)) (hx : SqL K H a xs ∨ SqT K H a xs) (hz : xs.length ≤ 40000) (hw : ∀ x, wipe ((wipe σ vs).set j (some x)) vs = wipe σ vs)
    (ht : ∀ (i : Nat) (x : V) H1, Ex H H1 → xs[i]? = some x → EvT t ((wipe σ vs).set j (some x)) H1 (f i)) (he : ∀ (i : Nat) (x : V) H1, Ex H H1 → xs[i]? = some x → f i = true → Ev te ((wipe σ vs).set j (some x)) H1 (v i)) :
    EvL (tLc (iSeq K tl) (gName j) t te vs) σ H (given xs.length f v) := fun H1 e Q q => hx.elim (fun hx => .inl (el_lcL f v h hx hz hw ht he H1 e Q q)) (fun hx => .inr (el_lcTup f v h hx hz hw ht he H1 e Q q))
theorem eu_tupL {p : Addr} {xs : List V} (h : Ev te σ H (.ref p)) (hx : H p = some (.lst xs)) : EvU (tCB (fun xs H Q => ∃ p ys, xs = [.ref p] ∧ ((SqL K H p ys ∧ ∀ l, H l = none → Q (.ref l) (upd H l (.tup ys))) ∨ (SqT K H p ys ∧ Q (.ref p) H))) (tCons te tNil)) σ H xs := fun H1 e Q q =>
  h H1 e _ fun H2 e2 => ⟨p, xs, rfl, .inl ⟨sq_of (e2 _ _ (e _ _ hx)), fun l nl => q l _ (fresh_back e2 nl) (e2.trans (Ex.new nl)) upd_same⟩⟩
theorem et_isV {i : Nat} {v : V} (hs : σ[i]? = some (some v)) : EvT (tTest (tOp (fun x y H Q => y = .non ∧ Q (.bl (decide (x = .non))) H) (tVar i) (tC .non))) σ H (decide (v = .non)) := et_isN hs
theorem ea_star {xs ys : List V} (h : EvL tl σ H xs) (hr : EvA tr σ H ys) : EvA (tStar K tl tr) σ H (xs ++ ys) := fun H1 e Q q =>
  h H1 e _ fun p H2 _ e2 hx => ⟨p, xs, rfl, .inr (sq_of hx), hr H2 (e.trans e2) _ fun H3 e3 => q H3 (e2.trans e3)⟩
theorem ea_star1 {xs : List V} (h : EvL tl σ H xs) : EvA (tStar K tl tNil) σ H xs := by
  have z := ea_star (K := K) h (ea_nil (σ := σ) (H := H))
  rw [List.append_nil] at z
  exact z
theorem sum_le {ys : List Str} {m : Nat} (h : ∀ y ∈ ys, y.length ≤ m) : (ys.map (·.length)).sum ≤ ys.length * m := by
  induction ys with
  | nil => simp
  | cons y r ih =>
    rw [List.map_cons, List.sum_cons, List.length_cons, Nat.succ_mul]
    have h1 := h y (List.mem_cons_self ..)
    have h2 := ih fun z hz => h z (List.mem_cons_of_mem _ hz)
    omega
theorem ev_join {sp : Str} {ys : List Str} (h : Ev ta σ H (.str sp)) (g : EvL tb σ H (ys.map V.str)) (hz : (ys.map (·.length)).sum + ys.length * sp.length ≤ 16777216) :
    Ev (tM1 (fun x xs H Q => ∃ a p, ∃ ys : List Str, x = .str a ∧ xs = [.ref p] ∧ (SqL K H p (ys.map V.str) ∨ SqT K H p (ys.map V.str)) ∧ (ys.map (·.length)).sum + ys.length * a.length ≤ 16777216 ∧ Q (.str (Txt.join a ys)) H) ta tb) σ H (.str (Txt.join sp ys)) := fun H1 e Q q =>
  h H1 e _ fun H2 e2 => ⟨⟨sp, rfl⟩, g H2 (e.trans e2) _ fun p H3 _ e3 hx => ⟨sp, p, ys, rfl, rfl, .inl (sq_of hx), hz, q H3 (e2.trans e3)⟩⟩
/-- a split into a new list -/
theorem el_split {z sp : Str} (h : Ev ta σ H (.str z)) (g : Ev tb σ H (.str sp)) (hs : (sp.length == 0) = false) (hz : z.length ≤ 100000) :
    EvL (tM1 (fun x xs H Q => ∃ a b, x = .str a ∧ xs = [.str b] ∧ (b.length == 0) = false ∧ a.length + 2 ≤ sizeLine ∧ rNewStrs (Txt.split a b) H Q) ta tb) σ H ((Txt.split z sp).map V.str) := fun H1 e Q q =>
  h H1 e _ fun H2 e2 => ⟨⟨z, rfl⟩, g H2 (e.trans e2) _ fun H3 e3 => ⟨z, sp, rfl, rfl, hs, Nat.le_trans (Nat.add_le_add_right hz 2) (by decide), fun p hp => q p _ (fresh_back (e2.trans e3) hp) ((e2.trans e3).trans (Ex.new hp)) upd_same⟩⟩
end
theorem map_getD {α β : Type} (f : α → β) (d : α) (xs : List α) : (List.range xs.length).map (fun i => f (xs.getD i d)) = xs.map f := by
  refine List.ext_getElem? fun i => ?_
  rw [List.getElem?_map, List.getElem?_map]
  by_cases h : i < xs.length
  · rw [List.getElem?_range h, List.getElem?_eq_getElem h]
    show some (f (xs.getD i d)) = some (f xs[i])
    rw [List.getD_eq_getElem?_getD, List.getElem?_eq_getElem h]
    rfl
  · rw [List.getElem?_eq_none (by rw [List.length_range]; omega), List.getElem?_eq_none (by omega)]
    rfl
theorem map_at {α β : Type} {f : α → β} {xs : List α} {i : Nat} {y : β} (h : (xs.map f)[i]? = some y) : ∃ x, xs[i]? = some x ∧ y = f x := by
  rw [List.getElem?_map] at h
  cases e : xs[i]? with
  | none => rw [e] at h; cases h
  | some x => rw [e] at h; exact ⟨x, rfl, (Option.some.inj h).symm⟩
theorem el_is {te : TE} {σ : L2.St} {H : Hp} {xs ys : List V} (h : EvL te σ H xs) (e : xs = ys) : EvL te σ H ys := e ▸ h
theorem et_yes {σ : L2.St} {H : Hp} : EvT (fun _ H Q => Q true H) σ H true := fun H1 _ Q q => q H1 (Ex.refl _)
theorem sgn_eq (c d : Nat) : decide (V.str ⟨#[c]⟩ = V.str ⟨#[d]⟩) = decide (c = d) := by
  by_cases h : c = d
  · rw [h, decide_eq_true rfl, decide_eq_true rfl]
  · rw [decide_eq_false h, decide_eq_false fun e => h (by simpa using e)]
/-- a sign of a number -/
def digC (c : Nat) : Bool := decide (c ∈ ("0123456789" : Str).cps.toList)
theorem digC_iff {c : Nat} (h : digC c = true) : 48 ≤ c ∧ c ≤ 57 := by
  have m : c ∈ ("0123456789" : Str).cps.toList := of_decide_eq_true h
  have e : ("0123456789" : Str).cps.toList = [48, 49, 50, 51, 52, 53, 54, 55, 56, 57] := by decide +kernel
  rw [e] at m
  simp at m
  omega
/-- a word that is no number -/
def badW (z : Str) : Bool := decide (V.str z = V.str "") || (!(((List.range z.cps.size).map fun i => digC (z.cps.getD i 0)).all id) || (decide ((1 : Int) < (z.length : Int)) && decide (z.cps.getD 0 0 = 48)))
def valW (z : Str) : Int := (PySem.intText? z).getD 0
theorem badW_val {z : Str} (h : badW z = false) (hz : z.length ≤ 640) : PySem.intText? z = some (valW z) ∧ 0 ≤ valW z := by
  unfold badW at h
  rw [Bool.or_eq_false_iff, Bool.or_eq_false_iff, Bool.not_eq_false'] at h
  obtain ⟨h1, h2, _⟩ := h
  have dig : NumText.AllDigits z.cps.toList := fun c hc => by
    obtain ⟨i, hi, rfl⟩ := List.mem_iff_getElem.mp hc
    rw [Array.length_toList] at hi
    have := List.all_eq_true.mp h2 (digC (z.cps.getD i 0)) (List.mem_map.mpr ⟨i, List.mem_range.mpr hi, rfl⟩)
    have := digC_iff this
    simpa [Array.getD, hi] using this
  have ne : z.cps.toList ≠ [] := fun e => by
    have : z = "" := by
      cases z with
      | mk a =>
        have : a = #[] := by simpa using e
        rw [this]
        rfl
    rw [this] at h1
    simp at h1
  have e := intText_digits dig ne (Nat.le_trans hz (by decide))
  unfold valW
  rw [e]
  exact ⟨rfl, Int.natCast_nonneg _⟩
def numsW (ws : List Str) : Option (List Int) := if ws.all (fun z => !badW z) = true then some (ws.map valW) else none
end Sea

set_option Elab.async false
set_option linter.all false
set_option maxRecDepth 100000
set_option maxHeartbeats 4000000
namespace Sea
open PySem PySem.Spec PyProof.Rows L2 LamX NdefX ClX Evl StX
abbrev sByI : Stmt := inClass (top 12) 1
abbrev sByT : Stmt := inClass (top 12) 2
abbrev sByB : Stmt := inClass (top 12) 3
abbrev sSwI : Stmt := inClass (top 13) 2
abbrev sSwC : Stmt := inClass (top 13) 3
abbrev sSwG : Stmt := inClass (top 13) 4
theorem scByI : FnScope ["self", "tariff"] ["self", "tariff"] (defScope sByI) := ⟨rfl, rfl, rfl, by decide +kernel, rfl, by decide +kernel, by decide +kernel⟩
theorem scByT : FnScope ["self"] ["self"] (defScope sByT) := ⟨rfl, rfl, rfl, by decide +kernel, rfl, by decide +kernel, by decide +kernel⟩
theorem scByB : FnScope ["self"] ["self"] (defScope sByB) := ⟨rfl, rfl, rfl, by decide +kernel, rfl, by decide +kernel, by decide +kernel⟩
theorem scSwC : FnScope ["self", "memory"] ["self", "memory"] (defScope sSwC) := ⟨rfl, rfl, rfl, by decide +kernel, rfl, by decide +kernel, by decide +kernel⟩
theorem scSwG : FnScope ["self", "memory", "age"] ["self", "memory"] (defScope sSwG) := ⟨rfl, rfl, rfl, by decide +kernel, rfl, by decide +kernel, by decide +kernel⟩
abbrev NSw : List Str := ["self", "tariff", "short", "long", "limit", "__class__"]
theorem scSwI : NScope NSw ["self", "tariff", "short", "long", "limit"] ["__class__"] (defScope sSwI) := nscope_by (by decide +kernel)
/-- the fields of a buyer with limits -/
abbrev swF (t : Addr) (i j lim : Int) : List (Str × V) := putF "limit" (.int lim) (putF "long" (.int j) (putF "short" (.int i) (putF "offer" (.ref t) [])))
def spByI (K : PySem.W.Frag) (D : Addr) : Sp := fun vs H Q _ => ∃ (a dx : Addr) (v : V), vs = [.ref a, v] ∧ H a = some (.ins D dx []) ∧ Q .non (upd H a (.ins D dx (putF "offer" v [])))
/-- the class and its constants -/
structure TBy (K : PySem.W.Frag) (mg : Str → Option Value) (D : Addr) (md : Value) (fVP fVC : Addr) (dVP dVC : FuncData) (cN : Addr) : Prop where
  cl : Cls K D
  nO : NoAttr K D "offer"
  nS : NoAttr K D "short"
  nL : NoAttr K D "long"
  nM : NoAttr K D "limit"
  gD : mg "SwitchBuyer" = some (.ref D)
  cr : CRead K D md
  vM : ∃ u, CVal K D md "MAX_LIMIT" (.int 1000000000) u
  gVP : mg "validate_pass" = some (.ref fVP)
  kVP : PySem.W.keepIn K (.ref fVP) = true
  uVP : Fun K "validate_pass" "validate_pass" sValid fVP dVP
  gVC : mg "validate_count" = some (.ref fVC)
  kVC : PySem.W.keepIn K (.ref fVC) = true
  uVC : Fun K "validate_count" "validate_count" sVC fVC dVC
  nc : TNc K mg cN
def Sw (K : PySem.W.Frag) (C D : Addr) (H : Hp) (a t p : Addr) (L : List (Int × Int)) (i j lim : Int) : Prop := (∃ dx, H a = some (.ins D dx (swF t i j lim))) ∧ Tar K C H t p L
theorem Tar.same {K : PySem.W.Frag} {C : Addr} {H H' : Hp} {a p : Addr} {L : List (Int × Int)} (t : Tar K C H a p L) (s : Same H H') : Tar K C H' a p L := by
  obtain ⟨⟨dx, h⟩, h2⟩ := t
  exact ⟨⟨dx, s _ _ h⟩, h2.tk (.same s)⟩
theorem Sw.same {K : PySem.W.Frag} {C D : Addr} {H H' : Hp} {a t p : Addr} {L : List (Int × Int)} {i j lim : Int} (b : Sw K C D H a t p L i j lim) (s : Same H H') : Sw K C D H' a t p L i j lim := by
  obtain ⟨⟨dx, h⟩, h2⟩ := b
  exact ⟨⟨dx, s _ _ h⟩, h2.same s⟩
section
variable {P : Program} {w : World} {K : PySem.W.Frag} {mg : Str → Option Value} {base : Heap} {C D cI cU cP cN fI fP pP fVP fVC cc cda fBy : Addr} {mc mp md : Value} {fdP dVP dVC dBy : FuncData}
theorem ok_byI (F : Fun K "__init__" "Buyer.__init__" sByI fBy dBy) (cl : Cls K D) (nO : NoAttr K D "offer") {k : Nat} : FnOk P w K mg base CX0 (k + 1) fBy dBy ["self", "tariff"] (spByI K D) := by
  refine F.ok scByI (fun vs H Q E h => ?_) (fun cdv A outer s H vs Q E hr h => ?_)
  · obtain ⟨a, dx, v, rfl, _⟩ := h
    rfl
  · obtain ⟨a, dx, v, rfl, ha, q⟩ := h
    refine ⟨_, pss_one (ps_fld (pv 0) (pv 1) rfl), ?_⟩
    exact ⟨_, rfl, _, rfl, a, D, dx, [], rfl, ha, cl, nO, by decide, q⟩
def spSwI (K : PySem.W.Frag) (C D : Addr) : Sp := fun vs H Q _ => ∃ (a dx t p : Addr) (L : List (Int × Int)) (i j lim : Int), vs = [.ref a, .ref t, .int i, .int j, .int lim] ∧ H a = some (.ins D dx []) ∧ Tar K C H t p L ∧ (0 ≤ i ∧ i < L.length) ∧ (0 ≤ j ∧ j < L.length) ∧ (0 ≤ lim ∧ lim ≤ 1000000000) ∧
  ∀ H', (∀ b o, H b = some o → b ≠ a → H' b = some o) → H' a = some (.ins D dx (swF t i j lim)) → Q .non H'
theorem ok_swI {f : Addr} {fd : FuncData} (F : FunC K "__init__" "SwitchBuyer.__init__" sSwI cc cda f fd) (SU : SupT P K mg D cc cda fBy "__init__") (FB : Fun K "__init__" "Buyer.__init__" sByI fBy dBy)
    (T : TX K mg C cI cU cP fI mc mp) (TQ : TP K C fP pP fdP) (W : TBy K mg D md fVP fVC dVP dVC cN) (nO : NoAttr K C "offers") : FnOk P w K mg base (L2.CX P w) 5 f fd ["self", "tariff", "short", "long", "limit"] (spSwI K C D) := by
  have GB : FnR P w K mg base CX0 4 fBy (fun vs H Q E => spByI K D (vs ++ []) H Q E) := (ok_byI (k := 3) FB W.cl W.nO).raw (FB.binds (ps := ["self", "tariff"]) fun _ _ _ _ _ _ us hl => match us, hl with | [_, _], _ => rfl) .nil
  have GV : FnOk P w K mg base (L2.CX P w) 3 fVP dVP ["tariff", "index"] (spValid K C cU) := ok_valid (k := 0) W.uVP T TQ
  have GC : FnOk P w K mg base (L2.CX P w) 1 fVC dVC ["count", "smallest", "largest"] (spVC cN) := ok_vc (k := 0) W.uVC W.nc
  have bVP : Binds K dVP ["tariff", "index"] [] := W.uVP.binds (ps := ["tariff", "index"]) fun _ _ _ _ _ _ us hl => match us, hl with | [_, _], _ => rfl
  have bVC : Binds K dVC ["count", "smallest", "largest"] [] := W.uVC.binds (ps := ["count", "smallest", "largest"]) fun _ _ _ _ _ _ us hl => match us, hl with | [_, _, _], _ => rfl
  refine fn_sup F scSwI SU GB rfl ⟨_, rfl, rfl, rfl⟩ rfl rfl (fun vs H Q E h => ?_) (fun _ => rfl) (fun _ => rfl) (fun _ => rfl) (fun _ => rfl) (fun A outer s H vs Q E hr h => ?_)
  · obtain ⟨a, dx, t, p, L, i, j, lim, rfl, _⟩ := h
    rfl
  · obtain ⟨a, dx, t, p, L, i, j, lim, rfl, ha, ht, hi, hj, hl, q⟩ := h
    have PX : Passes (L2.CX P w) (ncx (L2.CX P w) P w K mg base NSw (supF "__init__" "SwitchBuyer.__init__" sSwI cc cda) f A outer s H E) E := passes_call (takes_of rfl rfl rfl rfl) (fun _ _ _ _ h => h)
    refine ⟨_, _, pa_cons (pv 1) pa_nil, pss_cons (ps_expr (pe_call (E := E) GV (hr.mono (by omega)) (by rfl) W.gVP W.kVP bVP .nil PX (pa_cons (pv 1) (pa_cons (pv 2) pa_nil))))
      (pss_cons (ps_expr (pe_call (E := E) GV (hr.mono (by omega)) (by rfl) W.gVP W.kVP bVP .nil PX (pa_cons (pv 1) (pa_cons (pv 3) pa_nil))))
      (pss_cons (ps_expr (pe_call (E := E) GC (hr.mono (by omega)) (by rfl) W.gVC W.kVC bVC .nil PX (pa_cons (pv 4) (pa_cons pe_int (pa_cons (pe_clc (by rfl) W.gD W.cr W.vM) pa_nil)))))
      (pss_cons (ps_fld (pv 0) (pv 2) rfl) (pss_cons (ps_fld (pv 0) (pv 3) rfl) (pss_one (ps_fld (pv 0) (pv 4) rfl)))))), a, dx, [], rfl, ha, ?_⟩
    have ne : t ≠ a := by
      obtain ⟨⟨dx2, ht1⟩, _⟩ := ht
      rintro rfl
      rw [ht1] at ha
      cases ha
    have tar : ∀ {H' : Hp}, (∀ b o, H b = some o → b ≠ a → H' b = some o) → Tar K C H' t p L := fun {H'} keep => by
      obtain ⟨⟨dx2, ht1⟩, ht2⟩ := ht
      refine ⟨⟨dx2, keep _ _ ht1 ne⟩, ht2.tk (.but (fun b => b = a) (fun b o e n => keep b o e n) fun b xs z => ?_)⟩
      rw [z]
      exact Rd.ins_no ha
    have k1 : ∀ b o, H b = some o → b ≠ a → (upd H a (.ins D dx (putF "offer" (.ref t) []))) b = some o := fun b o e n => by
      rw [upd_ne n]
      exact e
    refine ⟨_, rfl, a, dx, .ref t, rfl, ha, ?_⟩
    refine ⟨_, rfl, _, rfl, t, p, i, L, rfl, tar k1, fun _ => ?_, fun h => absurd hi h⟩
    refine ⟨_, rfl, _, rfl, t, p, j, L, rfl, tar k1, fun _ => ?_, fun h => absurd hj h⟩
    refine ⟨_, rfl, lim, 0, 1000000000, rfl, fun _ H1 s1 => ?_, fun h => absurd hl h⟩
    have a1 : H1 a = some (.ins D dx (putF "offer" (.ref t) [])) := s1 _ _ upd_same
    refine ⟨_, rfl, _, rfl, a, D, dx, _, rfl, a1, W.cl, W.nS, show 1 < 1000 by decide, ?_⟩
    refine ⟨_, rfl, _, rfl, a, D, dx, _, rfl, upd_same, W.cl, W.nL, Nat.lt_of_le_of_lt (putF_len _ _ _) (show 1 + 1 < 1000 by decide), ?_⟩
    refine ⟨_, rfl, _, rfl, a, D, dx, _, rfl, upd_same, W.cl, W.nM, Nat.lt_of_le_of_lt (Nat.le_trans (putF_len _ _ _) (Nat.succ_le_succ (putF_len _ _ _))) (show 1 + 1 + 1 < 1000 by decide), ?_⟩
    refine q _ (fun b o e n => ?_) upd_same
    rw [upd_ne n, upd_ne n, upd_ne n]
    exact s1 _ _ (k1 b o e n)
/-! ### the rest of the buyer -/
/-- a getter that answers with a fixed attribute -/
structure TBg (K : PySem.W.Frag) (C D fT pT fB fC fG : Addr) (dT dB dC dG : FuncData) : Prop where
  pT : PropOf K D "tariff" pT fT
  uT : Fun K "tariff" "Buyer.tariff" sByT fT dT
  mB : Meth K D "beginning" fB
  uB : Fun K "beginning" "Buyer.beginning" sByB fB dB
  mC : Meth K D "choose" fC
  uC : Fun K "choose" "SwitchBuyer.choose" sSwC fC dC
  mG : Meth K D "grow_older" fG
  uG : Fun K "grow_older" "SwitchBuyer.grow_older" sSwG fG dG
/-- the properties lengths and prices -/
structure TLp (K : PySem.W.Frag) (C fL pL fR pR : Addr) (dL dR : FuncData) : Prop where
  pL : PropOf K C "lengths" pL fL
  uL : Fun K "lengths" "Tariff.lengths" sLengths fL dL
  pR : PropOf K C "prices" pR fR
  uR : Fun K "prices" "Tariff.prices" sPrices fR dR
end
section
variable {X : Cx} {C cI cU cP fI fL pL fR pR : Addr} {mc mp : Value} {dL dR : FuncData} {e : Expr} {te : TE} {pos : Pos}
theorem pe_lens (K : PySem.W.Frag) (hK : X.K = K) (T : TLp K C fL pL fR pR dL dR) (TT : TX K X.mg C cI cU cP fI mc mp) (hr : Room 2 X.A) (he : PE X e te) (hab : attributeBase e "lengths" X.env (eval e X.env) = eval e X.env := by rfl) : PE X (.Attribute e "lengths" pos) (tProp C (spCol K C Prod.fst) [] E0 te) := by
  subst hK
  exact pe_prop he TT.cl T.pL (ok_lengths (k := 0) T.uL TT) hr (T.uL.binds (ps := ["self"]) fun _ _ _ _ _ _ us hl => match us, hl with | [_], _ => rfl) .nil pass0 hab
theorem pe_pris (K : PySem.W.Frag) (hK : X.K = K) (T : TLp K C fL pL fR pR dL dR) (TT : TX K X.mg C cI cU cP fI mc mp) (hr : Room 2 X.A) (he : PE X e te) (hab : attributeBase e "prices" X.env (eval e X.env) = eval e X.env := by rfl) : PE X (.Attribute e "prices" pos) (tProp C (spCol K C Prod.snd) [] E0 te) := by
  subst hK
  exact pe_prop he TT.cl T.pR (ok_prices (k := 0) T.uR TT) hr (T.uR.binds (ps := ["self"]) fun _ _ _ _ _ _ us hl => match us, hl with | [_], _ => rfl) .nil pass0 hab
end
theorem pe_fldK {X : Cx} {e : Expr} {ta : TE} {f : Str} {pos : Pos} (K : PySem.W.Frag) (hK : X.K = K) (he : PE X e ta) (hb : attributeBase e f X.env (eval e X.env) = eval e X.env) : PE X (.Attribute e f pos) (tFld K ta f) := hK ▸ pe_fld he hb
section
variable {K : PySem.W.Frag} {C D : Addr} {σ : L2.St} {H : Hp}
/-- e.lengths or e.prices, at i -/
theorem ev_col {te ti : TE} {t p : Addr} {L : List (Int × Int)} {i : Int} {x : Int × Int} {f : Int × Int → Int} (h : Ev te σ H (.ref t)) (ht : Tar K C H t p L) (hL : L.length ≤ 1000) (hi : Ev ti σ H (.int i)) (hx : atI L i = some x) :
    Ev (tOp (rIxT K) (tProp C (spCol K C f) [] E0 te) ti) σ H (.int (f x)) := fun H1 e Q q =>
  h H1 e _ fun H2 e2 => by
    obtain ⟨⟨dx, hd⟩, hp⟩ := ht.same (e.trans e2)
    refine ⟨t, dx, _, rfl, hd, t, p, L, rfl, ⟨⟨dx, hd⟩, hp⟩, hL, fun r H3 s3 hr => ?_⟩
    refine hi H3 (e.trans (e2.trans s3)) _ fun H4 e4 => ⟨r, _, i, _, rfl, rfl, .of (e4 _ _ hr), ?_, q H4 (e2.trans (Ex.trans s3 e4))⟩
    unfold atI at hx ⊢
    rw [List.length_map]
    cases e : ixN L.length i with
    | none =>
      rw [e] at hx
      cases hx
    | some j =>
      rw [e] at hx
      show (L.map fun x => V.int (f x))[j]? = _
      rw [List.getElem?_map, show L[j]? = some x from hx]
      rfl
theorem sw_len {t : Addr} {i j lim : Int} {f : Str} {v : V} (h : (swF t i j lim).lookup f = some v) : (swF t i j lim).lookup f = some v := h
theorem swF_o (t : Addr) (i j lim : Int) : (swF t i j lim).lookup ("offer" : Str) = some (.ref t) := rfl
theorem swF_s (t : Addr) (i j lim : Int) : (swF t i j lim).lookup ("short" : Str) = some (.int i) := rfl
theorem swF_l (t : Addr) (i j lim : Int) : (swF t i j lim).lookup ("long" : Str) = some (.int j) := rfl
theorem swF_m (t : Addr) (i j lim : Int) : (swF t i j lim).lookup ("limit" : Str) = some (.int lim) := rfl
theorem ev_swf {a t p : Addr} {L : List (Int × Int)} {i j lim : Int} {k : Nat} {f : Str} {v : V} (b : Sw K C D H a t p L i j lim) (c : Cls K D) (n : NoAttr K D f) (hs : σ[k]? = some (some (.ref a))) (h : (swF t i j lim).lookup f = some v) : Ev (tFld K (tVar k) f) σ H v := fun H1 e Q q => by
  obtain ⟨⟨dx, hd⟩, _⟩ := b.same e
  exact ⟨.ref a, hs, a, D, dx, _, v, rfl, hd, c, n, h, q H1 (Ex.refl H1)⟩
end
theorem eu_ofL {K : PySem.W.Frag} {σ : L2.St} {H : Hp} {te : TE} {xs : List V} (h : EvL te σ H xs) : EvU (tCB (fun xs H Q => ∃ p ys, xs = [.ref p] ∧ ((SqL K H p ys ∧ ∀ l, H l = none → Q (.ref l) (upd H l (.tup ys))) ∨ (SqT K H p ys ∧ Q (.ref p) H))) (tCons te tNil)) σ H xs := fun H1 e Q q =>
  h H1 e _ fun p H2 np e2 hp => ⟨p, xs, rfl, .inl ⟨.of hp, fun l nl => q l _ (fresh_back e2 nl) (e2.trans (Ex.new nl)) upd_same⟩⟩
theorem given_map (os : List Int) (f : Int → Bool) (g : Int → Int) : ∀ n, n ≤ os.length → given n (fun i => f (os.getD i 0)) (fun i => .int (g (os.getD i 0))) = (((os.take n).filter f).map g).map V.int
  | 0, _ => rfl
  | n + 1, h => by
    have at_ : os[n]? = some os[n] := List.getElem?_eq_getElem (by omega)
    have gd : os.getD n 0 = os[n] := by rw [List.getD_eq_getElem?_getD, at_]; rfl
    rw [take_snoc at_, List.filter_append, List.map_append, List.map_append, ← given_map os f g n (by omega)]
    cases e : f os[n] with
    | true => rw [given_yes (by rw [gd, e]), gd, List.filter_cons_of_pos e]; rfl
    | false => rw [given_no (by rw [gd, e]), List.filter_cons_of_neg (by rw [e]; decide), List.filter_nil, List.map_nil, List.map_nil, List.append_nil]
/-! ### what a buyer with limits does, in plain words -/
/-- the memory after a purchase -/
def chM (ps lim : Int) (m : List Int) : Option (List Int) := if lim < ((m.length : Int) + 1) * ps then none else some (m ++ [0])
def grM (ll : Int) (m : List Int) : List Int := (m.filter fun x => decide (x + 1 < ll)).map (· + 1)
/-- choose: the index, the memory -/
def chI (i j ps lim : Int) (m : List Int) : Int × List Int := match chM ps lim m with
  | none => (j, [])
  | some m' => (i, m')
def spChs (K : PySem.W.Frag) (C D : Addr) : Sp := fun vs H Q _ => ∃ (a t p : Addr) (L : List (Int × Int)) (i j lim : Int) (x : Int × Int) (v : V) (m : List Int), vs = [.ref a, v] ∧ Sw K C D H a t p L i j lim ∧ L.length ≤ 1000 ∧ atI L i = some x ∧ TiA K H v m ∧ m.length ≤ 900 ∧
  ∀ (r : Addr) (v' : V) H', Same H H' → SqT K H' r [.int (chI i j x.2 lim m).1, v'] → TiA K H' v' (chI i j x.2 lim m).2 → Q (.ref r) H'
def spGr (K : PySem.W.Frag) (C D : Addr) : Sp := fun vs H Q _ => ∃ (a t p : Addr) (L : List (Int × Int)) (i j lim : Int) (x : Int × Int) (v : V) (m : List Int), vs = [.ref a, v] ∧ Sw K C D H a t p L i j lim ∧ L.length ≤ 1000 ∧ atI L j = some x ∧ TiA K H v m ∧ m.length ≤ 900 ∧
  ∀ (v' : V) H', Same H H' → TiA K H' v' (grM x.1 m) → Q v' H'
section
variable {P : Program} {w : World} {K : PySem.W.Frag} {mg : Str → Option Value} {base : Heap} {C D cI cU cP cN fI fP pP fVP fVC fL pL fR pR : Addr} {mc mp md : Value} {fdP dVP dVC dL dR : FuncData}
theorem ok_chs {f : Addr} {fd : FuncData} (F : Fun K "choose" "SwitchBuyer.choose" sSwC f fd) (T : TX K mg C cI cU cP fI mc mp) (LP : TLp K C fL pL fR pR dL dR) (W : TBy K mg D md fVP fVC dVP dVC cN) : FnOk P w K mg base CX0 3 f fd ["self", "memory"] (spChs K C D) := by
  refine F.ok scSwC (fun vs H Q E h => ?_) (fun cdv A outer s H vs Q E hr h => ?_)
  · obtain ⟨a, t, p, L, i, j, lim, x, v, m, rfl, _⟩ := h
    rfl
  · obtain ⟨a, t, p, L, i, j, lim, x, v, m, rfl, hb, hL, hx, hm, l9, q⟩ := h
    refine ⟨_, pss_cons (ps_if (pt_cmpR op_gt (pe_op op_mul (pe_op op_add (pe_callB call_len_seq (by rfl) T.mN PySem.boot_len (pa_cons (pv 1) pa_nil)) pe_int) (pe_ixt (pe_pris K rfl LP T hr (pe_fld (pv 0) rfl)) (pe_fld (pv 0) rfl))) (pe_fld (pv 0) rfl) (nomark _))
        (pss_one (ps_ret (pe_tup (pa_cons (pe_fld (pv 0) rfl) (pa_cons (pe_tup pa_nil) pa_nil))))) pss_nil)
      (pss_one (ps_ret (pe_tup (pa_cons (pe_fld (pv 0) rfl) (pa_cons (pe_op op_catA (pv 1) (pe_tup (pa_cons pe_int pa_nil))) pa_nil))))), ?_⟩
    obtain ⟨pm, rfl, hm⟩ := hm
    have hlen : (m.map V.int).length = m.length := List.length_map ..
    have ch : (chI i j x.2 lim m) = if lim < ((m.length : Int) + 1) * x.2 then (j, []) else (i, m ++ [0]) := by
      unfold chI chM
      by_cases h : lim < ((m.length : Int) + 1) * x.2
      · rw [if_pos h, if_pos h]
      · rw [if_neg h, if_neg h]
    refine q_when (b := decide (lim < ((m.length : Int) + 1) * x.2)) (et_test (ev_op (ev_op (ev_op (ev_is (ev_lenT rfl hm) (by rw [hlen])) ev_c rv_I0) (ev_col (ev_swf hb W.cl W.nO rfl (swF_o ..)) hb.2 hL (ev_swf hb W.cl W.nS rfl (swF_s ..)) hx) (rv_I (.inl ⟨by omega, by omega⟩))) (ev_swf hb W.cl W.nM rfl (swF_m ..)) (rv_I0 (g := fun i j => .bl (decide (j < i)))))) (fun hc H1 e1 => ?_) (fun hc H1 e1 => ?_)
    · rw [if_pos (of_decide_eq_true hc)] at ch
      unfold tRet tTup tCons
      refine (ev_swf (k := 0) (σ := [some (.ref a), some (.ref pm)]) hb W.cl W.nL rfl (swF_l t i j lim)) H1 e1 _ fun H2 e2 => ?_
      refine ⟨Nat.zero_le _, fun z nz => ⟨Nat.le_of_lt (small1000 (show 2 ≤ 1000 by decide)), fun r nr => ?_⟩⟩
      refine q r (.ref z) _ (((e1.trans e2).trans (same_new nz)).trans (same_new nr)) ?_ ⟨z, ?_⟩
      · rw [ch]
        exact .of upd_same
      · rw [ch]
        exact ⟨rfl, .of (same_new nr _ _ upd_same)⟩
    · rw [if_neg (of_decide_eq_false hc)] at ch
      unfold tRet tTup tCons
      refine (ev_swf (k := 0) (σ := [some (.ref a), some (.ref pm)]) hb W.cl W.nS rfl (swF_s t i j lim)) H1 e1 _ fun H2 e2 => ?_
      refine ⟨.ref pm, rfl, Nat.le_of_lt (small1000 (show 1 ≤ 1000 by decide)), fun y ny => ?_⟩
      have s2 : Same H (upd H2 y (.tup [.int 0])) := (e1.trans e2).trans (same_new ny)
      have hm2 := (TK.same s2) _ _ hm
      have fin : ∀ (z : Addr) (H3 : Hp), Same H H3 → SqT K H3 z ((m ++ [0]).map V.int) → ∀ r, H3 r = none → Q (V.ref r) (upd H3 r (.tup [V.int i, V.ref z])) := fun z H3 s3 hz r nr => by
        refine q r (V.ref z) _ (s3.trans (same_new nr)) ?_ ⟨z, ?_⟩
        · rw [ch]
          exact .of upd_same
        · rw [ch]
          exact ⟨rfl, (TK.new nr) _ _ hz⟩
      have l2 : 2 ≤ sizeLine := Nat.le_of_lt (small1000 (show 2 ≤ 1000 by decide))
      refine ⟨pm, y, _, _, rfl, rfl, hm2, .of upd_same, Nat.le_of_lt (small1000 ?_), fun he => ?_, fun _ he => absurd he (by simp), fun _ _ z nz => ?_⟩
      · rw [hlen]
        show m.length + 1 ≤ 1000
        omega
      · refine ⟨l2, fin y _ s2 ?_⟩
        have : m = [] := by
          cases m with
          | nil => rfl
          | cons _ _ => cases he
        rw [this]
        exact .of upd_same
      · refine ⟨l2, fin z _ (s2.trans (same_new nz)) ?_⟩
        rw [List.map_append]
        exact .of upd_same
theorem ok_gr {f : Addr} {fd : FuncData} (F : Fun K "grow_older" "SwitchBuyer.grow_older" sSwG f fd) (T : TX K mg C cI cU cP fI mc mp) (LP : TLp K C fL pL fR pR dL dR) (W : TBy K mg D md fVP fVC dVP dVC cN) : FnOk P w K mg base CX0 3 f fd ["self", "memory"] (spGr K C D) := by
  refine F.ok scSwG (fun vs H Q E h => ?_) (fun cdv A outer s H vs Q E hr h => ?_)
  · obtain ⟨a, t, p, L, i, j, lim, x, v, m, rfl, _⟩ := h
    rfl
  · obtain ⟨a, t, p, L, i, j, lim, x, v, m, rfl, hb, hL, hx, hm, l9, q⟩ := h
    refine ⟨_, pss_one (ps_ret (pe_callTy call_tuple_of (by rfl) T.mT (by rfl) (pa_cons (pe_lc (own := [("age", 2)]) (g := gName 2) (by rfl) scSwG.nd (pi_tup (pv 1)) (blkOk_by (own := [("age", 2)]) (N := ["self", "memory", "age"]) (sc := defScope sSwG) (by decide +kernel))
        (fun _ _ _ _ _ => pg_name (i := 2) scSwG.nd rfl (Or.inl rfl))
        (fun _ _ _ hrb _ => pts_one (pt_cmpR op_lt (pe_op op_add (pv 2) pe_int) (pe_ixtK K rfl (pe_lens K rfl LP T hr (pe_fldK K rfl (pv 0) rfl)) (pe_fldK K rfl (pv 0) rfl)) (nomark _))) (fun _ _ _ _ _ => pe_op op_add (pv 2) pe_int)) pa_nil))), ?_⟩
    obtain ⟨pm, rfl, hm⟩ := hm
    have hlen : (m.map V.int).length = m.length := List.length_map ..
    have item : ∀ (i : Nat) (y : V), (m.map V.int)[i]? = some y → y = .int (m.getD i 0) := fun i y hy => by
      rw [List.getElem?_map] at hy
      cases hi : m[i]? with
      | none =>
        rw [hi] at hy
        cases hy
      | some z =>
        rw [hi] at hy
        cases hy
        rw [List.getD_eq_getElem?_getD, hi]
        rfl
    refine s_retU (eu_ofL (el_lcTup (K := K) (j := 2) (vs := [2]) (fun i => decide (m.getD i 0 + 1 < x.1)) (fun i => .int (m.getD i 0 + 1)) (ev_var rfl) hm (by rw [hlen]; omega) (fun _ => rfl) (fun n y H1 e1 hy => ?_) (fun n y H1 e1 hy _ => ?_))) (fun r H1 _ e1 h1 => ?_)
    · rw [item n y hy]
      have b1 := hb.same e1
      exact et_test (ev_op (ev_op (ev_var rfl) ev_c rv_I0) (ev_col (ev_swf b1 W.cl W.nO rfl (swF_o ..)) b1.2 hL (ev_swf b1 W.cl W.nL rfl (swF_l ..)) hx) (rv_I0 (g := fun i j => .bl (decide (i < j)))))
    · rw [item n y hy]
      exact ev_op (ev_var rfl) ev_c rv_I0
    · rw [hlen, given_map m (fun z => decide (z + 1 < x.1)) (· + 1) m.length (Nat.le_refl _), List.take_length] at h1
      exact q (.ref r) H1 e1 ⟨r, rfl, .of h1⟩
/-- () -/
def spBeg (D : Addr) : Sp := fun vs H Q _ => ∃ a, vs = [.ref a] ∧ ∀ r H', Same H H' → H' r = some (.tup []) → Q (.ref r) H'
theorem ok_beg {f : Addr} {fd : FuncData} {k : Nat} (F : Fun K "beginning" "Buyer.beginning" sByB f fd) : FnOk P w K mg base CX0 (k + 1) f fd ["self"] (spBeg D) := by
  refine F.ok scByB (fun vs H Q E h => ?_) (fun cdv A outer s H vs Q E hr h => ?_)
  · obtain ⟨a, rfl, _⟩ := h
    rfl
  · obtain ⟨a, rfl, q⟩ := h
    refine ⟨_, pss_one (ps_ret (pe_tup pa_nil)), ?_⟩
    exact ⟨Nat.zero_le _, fun r nr => q r _ (same_new nr) upd_same⟩
theorem ok_byT (F : Fun K "tariff" "Buyer.tariff" sByT fP fdP) (c : Cls K D) (n : NoAttr K D "offer") {k : Nat} : FnOk P w K mg base CX0 (k + 1) fP fdP ["self"] (getSp D "offer") := by
  obtain ⟨oc, od, kV, doc, pm, an, cdv, ct, osl, rfl, lk, hcd⟩ := F.ex
  exact fn_getter lk hcd scByT rfl rfl c n
end
end Sea

set_option Elab.async false
set_option linter.all false
set_option maxRecDepth 100000
set_option maxHeartbeats 4000000
/-! the simulation in plain words; that it comes back -/
namespace Sea
open PySem PySem.Spec PyProof.Rows L2 LamX NdefX ClX Evl StX
structure Par where
  ln : Int
  ds : List Int
  x : Int × Int
  y : Int × Int
  lim : Int
/-- days left, memory, total -/
abbrev Q3 := Int × List Int × Int
def max0 (k : Int) : Int := if k > 0 then k else 0
def goes (g : Par) (d : Nat) : Bool := inV (.int ((d : Int).fmod g.ln)) (g.ds.map V.int)
def stp (g : Par) (d : Nat) (s : Q3) : Q3 :=
  if s.1 = 0 ∧ goes g d = true then
    match chM g.x.2 g.lim s.2.1 with
    | none => (max0 (g.y.1 - 1), grM g.y.1 [], s.2.2 + g.y.2)
    | some m => (max0 (g.x.1 - 1), grM g.y.1 m, s.2.2 + g.x.2)
  else (max0 (s.1 - 1), grM g.y.1 s.2.1, s.2.2)
def sim (g : Par) : Nat → Q3
  | 0 => (0, [], 0)
  | d + 1 => stp g d (sim g d)
def key (g : Par) (d : Nat) : NK := ((d : Int).fmod g.ln, (sim g d).1, (sim g d).2.1)
/-- numbers as the law draws them -/
structure Par.Ok (g : Par) : Prop where
  l1 : 1 ≤ g.ln
  l2 : g.ln ≤ 14
  x1 : 1 ≤ g.x.1
  x2 : g.x.1 ≤ 10
  x3 : 1 ≤ g.x.2
  x4 : g.x.2 ≤ 1000000
  y1 : 1 ≤ g.y.1
  y2 : g.y.1 ≤ 10
  y3 : 1 ≤ g.y.2
  y4 : g.y.2 ≤ 1000000
/-- a memory: ages, the older ahead -/
def MOk (ll : Int) (m : List Int) : Prop := m.Pairwise (· > ·) ∧ ∀ z ∈ m, 1 ≤ z ∧ z < ll
theorem grM_ok {ll : Int} {m : List Int} (h : m.Pairwise (· > ·)) (h0 : ∀ z ∈ m, 0 ≤ z) : MOk ll (grM ll m) := by
  unfold grM
  refine ⟨List.pairwise_map.mpr ((h.filter _).imp fun h => by omega), fun z hz => ?_⟩
  obtain ⟨a, ha, rfl⟩ := List.mem_map.mp hz
  obtain ⟨h1, h2⟩ := List.mem_filter.mp ha
  have := of_decide_eq_true h2
  have := h0 a h1
  omega
theorem snoc_ok {ll : Int} {m : List Int} (h : MOk ll m) : (m ++ [0]).Pairwise (· > ·) ∧ ∀ z ∈ m ++ [0], 0 ≤ z := by
  refine ⟨List.pairwise_append.mpr ⟨h.1, List.pairwise_singleton .., fun a ha b hb => ?_⟩, fun z hz => ?_⟩
  · rw [List.mem_singleton.mp hb]
    have := (h.2 a ha).1
    omega
  · rcases List.mem_append.mp hz with hz | hz
    · have := (h.2 z hz).1
      omega
    · rw [List.mem_singleton.mp hz]
      decide
theorem max0_le {k n : Int} (h : k ≤ n) (h0 : 0 ≤ n) : 0 ≤ max0 k ∧ max0 k ≤ n := by
  unfold max0
  split <;> omega
theorem sim_ok {g : Par} (o : g.Ok) : ∀ d, MOk g.y.1 (sim g d).2.1 ∧ 0 ≤ (sim g d).1 ∧ (sim g d).1 ≤ 9
  | 0 => ⟨⟨List.Pairwise.nil, fun z hz => nomatch hz⟩, show (0 : Int) ≤ 0 by decide, show (0 : Int) ≤ 9 by decide⟩
  | d + 1 => by
    obtain ⟨h1, h2, h3⟩ := sim_ok o d
    obtain ⟨l1, l2, x1, x2, x3, x4, y1, y2, y3, y4⟩ := o
    show MOk g.y.1 (stp g d (sim g d)).2.1 ∧ 0 ≤ (stp g d (sim g d)).1 ∧ (stp g d (sim g d)).1 ≤ 9
    unfold stp
    split
    · cases e : chM g.x.2 g.lim (sim g d).2.1 with
      | none => exact ⟨grM_ok .nil fun z hz => (nomatch hz), max0_le (by omega) (by decide)⟩
      | some m =>
        unfold chM at e
        split at e
        · cases e
        · cases e
          obtain ⟨s1, s2⟩ := snoc_ok h1
          exact ⟨grM_ok s1 s2, max0_le (by omega) (by decide)⟩
    · exact ⟨grM_ok h1.1 fun z hz => by have := (h1.2 z hz).1; omega, max0_le (by omega) (by decide)⟩
theorem stp_up {g : Par} (o : g.Ok) (d : Nat) (s : Q3) : s.2.2 ≤ (stp g d s).2.2 ∧ (stp g d s).2.2 ≤ s.2.2 + 1000000 := by
  obtain ⟨l1, l2, x1, x2, x3, x4, y1, y2, y3, y4⟩ := o
  unfold stp
  split
  · cases chM g.x.2 g.lim s.2.1 with
    | none => exact ⟨by show s.2.2 ≤ s.2.2 + g.y.2; omega, by show s.2.2 + g.y.2 ≤ _; omega⟩
    | some m => exact ⟨by show s.2.2 ≤ s.2.2 + g.x.2; omega, by show s.2.2 + g.x.2 ≤ _; omega⟩
  · exact ⟨Int.le_refl _, by show s.2.2 ≤ _; omega⟩
theorem sim_up {g : Par} (o : g.Ok) (d : Nat) : ∀ n, (sim g d).2.2 ≤ (sim g (d + n)).2.2
  | 0 => Int.le_refl _
  | n + 1 => Int.le_trans (sim_up o d n) (stp_up o (d + n) (sim g (d + n))).1
theorem sim_nn {g : Par} (o : g.Ok) (d : Nat) : 0 ≤ (sim g d).2.2 := by
  have := sim_up o 0 d
  rw [Nat.zero_add] at this
  exact this
/-! ### all keys -/
def subs : Nat → List (List Int)
  | 0 => [[]]
  | n + 1 => subs n ++ (subs n).map fun m => ((n : Int) + 1) :: m
theorem subs_len : ∀ n, (subs n).length = 2 ^ n
  | 0 => rfl
  | n + 1 => by
    show (subs n ++ (subs n).map _).length = _
    rw [List.length_append, List.length_map, subs_len n, Nat.pow_succ]
    omega
theorem in_subs : ∀ (n : Nat) (m : List Int), m.Pairwise (· > ·) → (∀ z ∈ m, 1 ≤ z ∧ z ≤ n) → m ∈ subs n
  | 0, [], _, _ => List.mem_singleton.mpr rfl
  | 0, z :: r, _, h => by
    have := h z List.mem_cons_self
    omega
  | n + 1, [], _, _ => List.mem_append_left _ (in_subs n [] .nil fun z hz => nomatch hz)
  | n + 1, z :: r, hp, h => by
    have hz := h z List.mem_cons_self
    obtain ⟨p1, p2⟩ := List.pairwise_cons.mp hp
    have small : ∀ u ∈ r, 1 ≤ u ∧ u < z := fun u hu => ⟨(h u (List.mem_cons_of_mem _ hu)).1, p1 u hu⟩
    by_cases e : z = (n : Int) + 1
    · subst e
      exact List.mem_append_right _ (List.mem_map.mpr ⟨r, in_subs n r p2 fun u hu => by have := small u hu; omega, rfl⟩)
    · refine List.mem_append_left _ (in_subs n (z :: r) hp fun u hu => ?_)
      rcases List.mem_cons.mp hu with rfl | hu
      · omega
      · have := small u hu
        omega
def univ : List NK := (List.range 14).flatMap fun (p : Nat) => (List.range 10).flatMap fun (l : Nat) => (subs 9).map fun (m : List Int) => (((p : Int), (l : Int), m) : NK)
theorem flat_len {α β : Type} {f : α → List β} {k : Nat} (h : ∀ a, (f a).length = k) : ∀ l : List α, (l.flatMap f).length = l.length * k
  | [] => by simp
  | a :: r => by
    rw [List.flatMap_cons, List.length_append, h, flat_len h r, List.length_cons, Nat.succ_mul]
    omega
theorem univ_len : univ.length = 71680 := by
  unfold univ
  rw [flat_len (k := 10 * 512) fun p => ?_, List.length_range]
  rw [flat_len (k := 512) fun l => ?_, List.length_range]
  rw [List.length_map, subs_len]
theorem key_in {g : Par} (o : g.Ok) (d : Nat) : key g d ∈ univ := by
  obtain ⟨h1, h2, h3⟩ := sim_ok o d
  obtain ⟨l1, l2, x1, x2, x3, x4, y1, y2, y3, y4⟩ := o
  have f0 := Int.fmod_nonneg_of_pos (d : Int) (show 0 < g.ln by omega)
  have f1 := Int.fmod_lt_of_pos (d : Int) (show 0 < g.ln by omega)
  obtain ⟨p, hp⟩ := Int.eq_ofNat_of_zero_le f0
  obtain ⟨l, hl⟩ := Int.eq_ofNat_of_zero_le h2
  have p14 : p < 14 := by omega
  have l10 : l < 10 := by omega
  unfold univ key
  refine List.mem_flatMap.mpr ⟨p, List.mem_range.mpr p14, List.mem_flatMap.mpr ⟨l, List.mem_range.mpr l10, List.mem_map.mpr ⟨(sim g d).2.1, in_subs 9 _ h1.1 fun z hz => by have := h1.2 z hz; omega, ?_⟩⟩⟩
  rw [hp, hl]
theorem nodup_len {α : Type} [DecidableEq α] : ∀ (l m : List α), l.Nodup → (∀ x ∈ l, x ∈ m) → l.length ≤ m.length
  | [], _, _, _ => Nat.zero_le _
  | a :: r, m, hn, h => by
    obtain ⟨n1, n2⟩ := List.nodup_cons.mp hn
    have ha := h a List.mem_cons_self
    have := nodup_len r (m.erase a) n2 fun x hx => (List.mem_erase_of_ne (fun e => n1 (by rw [← e]; exact hx))).mpr (h x (List.mem_cons_of_mem _ hx))
    rw [List.length_erase_of_mem ha] at this
    have : 0 < m.length := List.length_pos_of_mem ha
    rw [List.length_cons]
    omega
/-- no key of the first d days stands twice -/
def Fresh (g : Par) (d : Nat) : Prop := ∀ i j, i < j → j < d → key g i ≠ key g j
theorem Fresh.few {g : Par} (o : g.Ok) {d : Nat} (h : Fresh g d) : d ≤ 71680 := by
  have := nodup_len ((List.range d).map (key g)) univ ?_ fun x hx => ?_
  · rw [List.length_map, List.length_range, univ_len] at this
    exact this
  · refine List.pairwise_map.mpr (List.pairwise_lt_range.imp_of_mem fun {i j} _ hj h1 => h i j h1 (List.mem_range.mp hj))
  · obtain ⟨i, _, rfl⟩ := List.mem_map.mp hx
    exact key_in o i
/-- the first day that comes back, and the day to which -/
def IsRep (g : Par) (d j : Nat) : Prop := Fresh g d ∧ j < d ∧ key g j = key g d
theorem IsRep.one {g : Par} {d j d' j' : Nat} (h : IsRep g d j) (h' : IsRep g d' j') : d = d' ∧ j = j' := by
  obtain ⟨f, a, e⟩ := h
  obtain ⟨f', a', e'⟩ := h'
  have ed : d = d' := by
    rcases Nat.lt_trichotomy d d' with z | z | z
    · exact absurd e (f' j d a z)
    · exact z
    · exact absurd e' (f j' d' a' z)
  subst ed
  refine ⟨rfl, ?_⟩
  rcases Nat.lt_trichotomy j j' with z | z | z
  · exact absurd (e.trans e'.symm) (f j j' z a')
  · exact z
  · exact absurd (e'.trans e.symm) (f j' j z a)
/-! ### the price of a round -/
def frac (n d : Int) : Int × Int := (n / (Int.gcd n d : Nat), d / (Int.gcd n d : Nat))
theorem frac_pos {n d : Int} (h : 0 < d) : 0 < (frac n d).2 := by
  have g0 : Int.gcd n d ≠ 0 := fun e => by
    have := (Int.gcd_eq_zero_iff.mp e).2
    omega
  have g1 : (0 : Int) < (Int.gcd n d : Nat) := by omega
  obtain ⟨c, hc⟩ := Int.gcd_dvd_right n d
  show 0 < d / (Int.gcd n d : Nat)
  have c0 : 0 < c := by
    rcases Int.lt_trichotomy c 0 with z | z | z
    · have := Int.mul_neg_of_pos_of_neg g1 z
      omega
    · rw [z, Int.mul_zero] at hc
      omega
    · exact z
  have : d / (Int.gcd n d : Nat) = c := by
    have e := Int.mul_ediv_cancel_left c (show ((Int.gcd n d : Nat) : Int) ≠ 0 by omega)
    rw [← hc] at e
    exact e
  rw [this]
  exact c0
def Res (g : Par) (x : Int × Int) : Prop := ∃ d j, IsRep g d j ∧ x = frac (((sim g d).2.2 - (sim g j).2.2) * g.ln) ((d : Int) - j)
theorem Res.one {g : Par} {x y : Int × Int} (h : Res g x) (h' : Res g y) : x = y := by
  obtain ⟨d, j, i, rfl⟩ := h
  obtain ⟨d', j', i', rfl⟩ := h'
  obtain ⟨rfl, rfl⟩ := i.one i'
  rfl
theorem Res.pos {g : Par} {x : Int × Int} (h : Res g x) : 0 < x.2 := by
  obtain ⟨d, j, i, rfl⟩ := h
  have := i.2.1
  exact frac_pos (by omega)
abbrev Par.at (g : Par) (l : Int) : Par := { g with lim := l }
theorem sim_eq {g : Par} (o : g.Ok) {l1 l2 : Int} (h : ∀ m, MOk g.y.1 m → chM g.x.2 l1 m = chM g.x.2 l2 m) : ∀ d, sim (g.at l1) d = sim (g.at l2) d
  | 0 => rfl
  | d + 1 => by
    have ih := sim_eq o h d
    have ok : (g.at l1).Ok := ⟨o.l1, o.l2, o.x1, o.x2, o.x3, o.x4, o.y1, o.y2, o.y3, o.y4⟩
    have m := (sim_ok ok d).1
    show stp (g.at l1) d (sim (g.at l1) d) = stp (g.at l2) d (sim (g.at l2) d)
    rw [ih] at m ⊢
    have e := h _ m
    unfold stp
    show (if _ ∧ goes (g.at l1) d = true then (match chM g.x.2 l1 (sim (g.at l2) d).2.1 with
      | none => _
      | some m => _) else _) = _
    rw [e]
    rfl
theorem res_eq {g : Par} (o : g.Ok) {l1 l2 : Int} (h : ∀ m, MOk g.y.1 m → chM g.x.2 l1 m = chM g.x.2 l2 m) {x : Int × Int} (r : Res (g.at l1) x) : Res (g.at l2) x := by
  have se := sim_eq o h
  have ke : ∀ d, key (g.at l1) d = key (g.at l2) d := fun d => by
    unfold key
    rw [se d]
  obtain ⟨d, j, ⟨f, a, e⟩, rfl⟩ := r
  refine ⟨d, j, ⟨fun i k h1 h2 => ?_, a, ?_⟩, ?_⟩
  · rw [← ke, ← ke]
    exact f i k h1 h2
  · rw [← ke, ← ke]
    exact e
  · rw [se, se]
theorem mok_len : ∀ (n : Nat) (m : List Int), m.Pairwise (· > ·) → (∀ z ∈ m, 1 ≤ z ∧ z ≤ n) → m.length ≤ n
  | _, [], _, _ => Nat.zero_le _
  | 0, z :: r, _, h => by
    have := h z List.mem_cons_self
    omega
  | n + 1, z :: r, hp, h => by
    have hz := h z List.mem_cons_self
    obtain ⟨p1, p2⟩ := List.pairwise_cons.mp hp
    have := mok_len n r p2 fun u hu => by
      have := p1 u hu
      have := h u (List.mem_cons_of_mem _ hu)
      omega
    rw [List.length_cons]
    omega
/-- every limit does what one of those that matter does -/
theorem limit_of {g : Par} (o : g.Ok) {t : Int} (t0 : 0 ≤ t) : ∃ k : Nat, (k : Int) ≤ g.y.1 ∧ (k : Int) * g.x.2 ≤ t ∧ ∀ m, MOk g.y.1 m → chM g.x.2 t m = chM g.x.2 (k * g.x.2) m := by
  obtain ⟨l1, l2, x1, x2, x3, x4, y1, y2, y3, y4⟩ := o
  have p0 : 0 < g.x.2 := by omega
  have q0 : 0 ≤ t / g.x.2 := Int.ediv_nonneg t0 (by omega)
  have q1 : t / g.x.2 * g.x.2 ≤ t := Int.ediv_mul_le t (by omega)
  have q2 : t < (t / g.x.2 + 1) * g.x.2 := Int.lt_ediv_add_one_mul_self t p0
  have key : ∀ c : Int, 0 ≤ c → c ≤ g.y.1 → c * g.x.2 ≤ t → (c = g.y.1 ∨ t < (c + 1) * g.x.2) → ∀ m, MOk g.y.1 m → chM g.x.2 t m = chM g.x.2 (c * g.x.2) m := fun c c0 c1 c2 c3 m hm => by
    obtain ⟨n, hn⟩ := Int.eq_ofNat_of_zero_le (show 0 ≤ g.y.1 - 1 by omega)
    have hl := mok_len n m hm.1 fun z hz => by
      have := hm.2 z hz
      omega
    have e : (t < ((m.length : Int) + 1) * g.x.2) ↔ (c * g.x.2 < ((m.length : Int) + 1) * g.x.2) := by
      constructor
      · intro h
        exact Int.lt_of_le_of_lt c2 h
      · intro h
        have hc : c < (m.length : Int) + 1 := Int.lt_of_mul_lt_mul_right h (Int.le_of_lt p0)
        rcases c3 with c3 | c3
        · omega
        · exact Int.lt_of_lt_of_le c3 (Int.mul_le_mul_of_nonneg_right (by omega) (Int.le_of_lt p0))
    unfold chM
    by_cases h : t < ((m.length : Int) + 1) * g.x.2
    · rw [if_pos h, if_pos (e.mp h)]
    · rw [if_neg h, if_neg fun z => h (e.mpr z)]
  by_cases hq : t / g.x.2 ≤ g.y.1
  · obtain ⟨k, hk⟩ := Int.eq_ofNat_of_zero_le q0
    have ek : t / g.x.2 = (k : Int) := hk
    rw [ek] at q1 q2 hq
    exact ⟨k, hq, q1, key k (by omega) hq q1 (.inr q2)⟩
  · obtain ⟨k, hk⟩ := Int.eq_ofNat_of_zero_le (show 0 ≤ g.y.1 by omega)
    have ek : g.y.1 = (k : Int) := hk
    have le : (k : Int) * g.x.2 ≤ t := Int.le_trans (Int.mul_le_mul_of_nonneg_right (by omega) (Int.le_of_lt p0)) q1
    refine ⟨k, by omega, le, key k (by omega) (by omega) le (.inl ek.symm)⟩
/-! ### the best of them -/
def Less (a b : Int × Int) : Prop := a.1 * b.2 < b.1 * a.2
theorem Less.trans' {a b c : Int × Int} (a0 : 0 < a.2) (b0 : 0 < b.2) (c0 : 0 < c.2) (h : ¬ Less b a) (h' : ¬ Less c b) : ¬ Less c a := by
  unfold Less at *
  intro z
  have h1 : a.1 * b.2 ≤ b.1 * a.2 := by omega
  have h2 : b.1 * c.2 ≤ c.1 * b.2 := by omega
  have e1 := Int.mul_le_mul_of_nonneg_right h1 (Int.le_of_lt c0)
  have e2 := Int.mul_le_mul_of_nonneg_right h2 (Int.le_of_lt a0)
  have e3 := Int.mul_lt_mul_of_pos_right z b0
  have r1 : a.1 * b.2 * c.2 = a.1 * c.2 * b.2 := by rw [Int.mul_assoc, Int.mul_comm b.2, ← Int.mul_assoc]
  have r2 : b.1 * a.2 * c.2 = b.1 * c.2 * a.2 := by rw [Int.mul_assoc, Int.mul_comm a.2, ← Int.mul_assoc]
  have r3 : c.1 * b.2 * a.2 = c.1 * a.2 * b.2 := by rw [Int.mul_assoc, Int.mul_comm b.2, ← Int.mul_assoc]
  rw [r1, r2] at e1
  rw [r3] at e2
  omega
/-- among the limits 0, ps, .., (n - 1) * ps: the k-th is the first of those with the least price x -/
def Best (g : Par) (n k : Nat) (x : Int × Int) : Prop := k < n ∧ Res (g.at (k * g.x.2)) x ∧ (∀ i y, i < k → Res (g.at (i * g.x.2)) y → Less x y) ∧ ∀ i y, i < n → Res (g.at (i * g.x.2)) y → ¬ Less y x
theorem Less.irr {a b : Int × Int} (h : Less a b) : ¬ Less b a := by
  unfold Less at *
  omega
theorem best_first {g : Par} {x : Int × Int} (h : Res (g.at ((0 : Nat) * g.x.2)) x) : Best g 1 0 x := ⟨Nat.zero_lt_one, h, fun i y hi => absurd hi (Nat.not_lt_zero _), fun i y hi hr => by
  obtain rfl : i = 0 := by omega
  rw [hr.one h]
  unfold Less
  omega⟩
theorem Best.old {g : Par} {n k : Nat} {x y : Int × Int} (b : Best g n k x) (h : Res (g.at (n * g.x.2)) y) (hl : ¬ Less y x) : Best g (n + 1) k x := ⟨Nat.lt_succ_of_lt b.1, b.2.1, b.2.2.1, fun i z hi hr => by
  by_cases e : i = n
  · subst e
    rw [hr.one h]
    exact hl
  · exact b.2.2.2 i z (by omega) hr⟩
theorem Best.new {g : Par} {n k : Nat} {x y : Int × Int} (b : Best g n k x) (h : Res (g.at (n * g.x.2)) y) (hl : Less y x) : Best g (n + 1) n y := by
  have x0 := b.2.1.pos
  have y0 := h.pos
  refine ⟨Nat.lt_succ_self n, h, fun i z hi hr => ?_, fun i z hi hr => ?_⟩
  · have h1 := b.2.2.2 i z hi hr
    have z0 := hr.pos
    unfold Less at *
    have h1 : x.1 * z.2 ≤ z.1 * x.2 := by omega
    have e1 := Int.mul_le_mul_of_nonneg_right h1 (Int.le_of_lt y0)
    have e3 := Int.mul_lt_mul_of_pos_right hl z0
    have r1 : x.1 * z.2 * y.2 = x.1 * y.2 * z.2 := by rw [Int.mul_assoc, Int.mul_comm z.2, ← Int.mul_assoc]
    have r2 : z.1 * x.2 * y.2 = z.1 * y.2 * x.2 := by rw [Int.mul_assoc, Int.mul_comm x.2, ← Int.mul_assoc]
    have r3 : y.1 * x.2 * z.2 = y.1 * z.2 * x.2 := by rw [Int.mul_assoc, Int.mul_comm x.2, ← Int.mul_assoc]
    rw [r1, r2] at e1
    rw [r3] at e3
    exact Int.lt_of_mul_lt_mul_right (Int.lt_of_lt_of_le e3 e1) (Int.le_of_lt x0)
  · by_cases e : i = n
    · subst e
      rw [hr.one h]
      unfold Less
      omega
    · exact Less.trans' y0 x0 hr.pos (Less.irr hl) (b.2.2.2 i z (by omega) hr)
/-- what the law asks of another limit -/
theorem Best.any {g : Par} (o : g.Ok) {n k : Nat} {x y : Int × Int} {t : Int} (b : Best g n k x) (hn : (n : Int) = g.y.1 + 1) (t0 : 0 ≤ t) (h : Res (g.at t) y) : ¬ Less y x ∧ (t < k * g.x.2 → y ≠ x) := by
  obtain ⟨c, c1, c2, c3⟩ := limit_of o t0
  have r := res_eq o c3 h
  refine ⟨b.2.2.2 c y (by omega) r, fun ht e => ?_⟩
  have p0 : 0 < g.x.2 := by
    have := o.x3
    omega
  have hc : (c : Int) < k := Int.lt_of_mul_lt_mul_right (Int.lt_of_le_of_lt c2 ht) (Int.le_of_lt p0)
  have := b.2.2.1 c y (by omega) r
  rw [e] at this
  unfold Less at this
  omega
end Sea

set_option Elab.async false
set_option linter.all false
set_option maxRecDepth 100000
set_option maxHeartbeats 4000000
namespace Sea
open PySem PySem.Spec PyProof.Rows L2 LamX NdefX ClX Evl StX
abbrev sCd : Stmt := top 21
abbrev sSpI : Stmt := inClass (top 23) 0
abbrev sFr : Stmt := top 24
abbrev sSr : Stmt := top 25
abbrev sBl : Stmt := top 26
abbrev NSp : List Str := ["self", "buyer", "travel", "day", "left", "memory", "seen", "total", "index", "price"]
theorem scCd : FnScope ["one", "other"] ["one", "other"] (defScope sCd) := ⟨rfl, rfl, rfl, by decide +kernel, rfl, by decide +kernel, by decide +kernel⟩
theorem scSpI : FnScope NSp ["self", "buyer", "travel"] (defScope sSpI) := ⟨rfl, rfl, rfl, by decide +kernel, rfl, by decide +kernel, by decide +kernel⟩
theorem scFr : FnScope ["numerator", "denominator", "divisor"] ["numerator", "denominator"] (defScope sFr) := ⟨rfl, rfl, rfl, by decide +kernel, rfl, by decide +kernel, by decide +kernel⟩
theorem scSr : FnScope ["buyer", "travel", "spending"] ["buyer", "travel"] (defScope sSr) := ⟨rfl, rfl, rfl, by decide +kernel, rfl, by decide +kernel, by decide +kernel⟩
abbrev NBl : List Str := ["tariff", "short", "long", "travel", "best", "number", "limit", "price", "rounds"]
theorem scBl : FnScope NBl ["tariff", "short", "long", "travel"] (defScope sBl) := ⟨rfl, rfl, rfl, by decide +kernel, rfl, by decide +kernel, by decide +kernel⟩
/-- (e).f = v as one of several targets -/
def gAt (K : PySem.W.Frag) (ta : TE) (f : Str) : TG := fun v σ H Q => ta σ H fun x H1 => ∃ a C dx fs, x = .ref a ∧ H1 a = some (.ins C dx fs) ∧ Cls K C ∧ NoAttr K C f ∧ fs.length < 1000 ∧ Q σ (upd H1 a (.ins C dx (putF f v fs)))
theorem pg_at {X : Cx} {o : Expr} {ta : TE} {f : Str} {pos : Pos} (ho : PE X o ta) : PG X (.Attribute o f pos) (gAt X.K ta f) := by
  refine ⟨fun pins s σ H v u Q I r h => ?_⟩
  rw [assign_Attribute]
  refine wpAny_bind (wpAny_holding (thn (ho.run pins s σ H _ I h) fun ov s1 ⟨x, H1, I1, rx, a, C, dx, fs, ex, ea, c, n, l, q⟩ => ?_))
  subst ex
  obtain rfl : ov = Value.ref a := rx
  refine wpAny_bind (wpAny_standAt (wpAny_bind (wpAny_holding (setattr_ok I1 ea c n l r fun s3 I3 => ?_))))
  exact wpAny_release ⟨σ, _, I3, q⟩
theorem ev_int1 {te : TE} {σ : L2.St} {H : Hp} {n : Int} (h : Ev te σ H (.int n)) : Ev (tCB (fun xs H Q => (∃ n, xs = [V.int n] ∧ Q (.int n) H) ∨ ∃ b : Bool, xs = [V.bl b] ∧ Q (.int (if b then 1 else 0)) H) (tCons te tNil)) σ H (.int n) := fun H1 e Q q => h H1 e _ fun H2 e2 => .inl ⟨n, rfl, q H2 e2⟩
def spCd : Sp := fun vs H Q _ => ∃ a b : Int, vs = [.int a, .int b] ∧ 0 ≤ a ∧ 0 ≤ b ∧ ∀ H', Same H H' → Q (.int (Int.gcd a b : Nat)) H'
def spFr : Sp := fun vs H Q _ => ∃ a b : Int, vs = [.int a, .int b] ∧ 0 ≤ a ∧ 0 < b ∧ b ≤ 1000000 ∧ ∀ r H', Same H H' → H' r = some (.tup [.int (frac a b).1, .int (frac a b).2]) → Q (.ref r) H'
theorem gcd_step {a b : Int} (h : 0 ≤ a) (h' : 0 < b) : Int.gcd b (a.fmod b) = Int.gcd a b := by
  obtain ⟨n, rfl⟩ := Int.eq_ofNat_of_zero_le h
  obtain ⟨m, rfl⟩ := Int.eq_ofNat_of_zero_le (Int.le_of_lt h')
  have e : (n : Int).fmod (m : Int) = ((n % m : Nat) : Int) := by
    rw [Int.fmod_eq_emod_of_nonneg _ (Int.natCast_nonneg m)]
    rfl
  rw [e]
  show Nat.gcd m (n % m) = Nat.gcd n m
  rw [Nat.gcd_comm n m, Nat.gcd_rec m n, Nat.gcd_comm]
section
variable {P : Program} {w : World} {K : PySem.W.Frag} {mg : Str → Option Value} {base : Heap}
theorem ok_cd {f : Addr} {fd : FuncData} {k : Nat} (F : Fun K "common_divisor" "common_divisor" sCd f fd) (mI : mg "int" = none) : FnOk P w K mg base CX0 (k + 1) f fd ["one", "other"] spCd := by
  refine F.ok scCd (fun vs H Q E h => ?_) (fun cdv A outer s H vs Q E hr h => ?_)
  · obtain ⟨a, b, rfl, _⟩ := h
    rfl
  · obtain ⟨a, b, rfl, a0, b0, q⟩ := h
    refine ⟨_, pss_cons (ps_while PassesOwn.never (pt_cmpR op_ne (pv 1) pe_int (nomark _))
        (pss_one (ps_par (i := 0) (j := 1) rfl scCd.nd rfl rfl (by decide) rfl rfl (pa_cons (pv 1) (pa_cons (pe_op op_modN (pe_callTy call_int1 (by rfl) mI (by rfl) (pa_cons (pv 0) pa_nil)) (pe_callTy call_int1 (by rfl) mI (by rfl) (pa_cons (pv 1) pa_nil))) pa_nil)) (by rfl))))
      (pss_one (ps_ret (pv 0))), ?_⟩
    refine q_while (fun m σ H' => ∃ x y : Int, σ = [some (.int x), some (.int y)] ∧ 0 ≤ x ∧ 0 ≤ y ∧ m = y.toNat ∧ Int.gcd x y = Int.gcd a b ∧ Same H H') b.toNat ⟨a, b, rfl, a0, b0, rfl, rfl, Same.refl H⟩ ?_
    rintro m σ' H' ⟨x, y, rfl, x0, y0, rfl, g, sm⟩
    refine ⟨!decide (V.int y = V.int 0), et_test (ev_op (ev_var rfl) ev_c (rv_ne rfl)), fun hb H1 e1 => ?_, fun hb H1 e1 => ?_⟩
    · have yn : 0 < y := by
        have : y ≠ 0 := fun z => by
          rw [z] at hb
          cases hb
        omega
      refine ⟨fun σ2 H2 => ∃ m', m' < y.toNat ∧ ∃ x y : Int, σ2 = [some (.int x), some (.int y)] ∧ 0 ≤ x ∧ 0 ≤ y ∧ m' = y.toNat ∧ Int.gcd x y = Int.gcd a b ∧ Same H H2, fun σ2 H2 h => h, ?_⟩
      have f0 := Int.fmod_nonneg_of_pos x yn
      have f1 := Int.fmod_lt_of_pos x yn
      refine ⟨_, rfl, (ev_op (ev_int1 (ev_var rfl)) (ev_int1 (ev_var rfl)) (rv_I (C := fun _ j => j ≠ 0) (g := fun i j => .int (i.fmod j)) (i := x) (j := y) (by omega))) H1 (Ex.refl H1) _ fun H2 e2 => ⟨_, _, rfl, _, ?_, y, x.fmod y, rfl, y0, f0, rfl, ?_, (sm.trans e1).trans e2⟩⟩
      · omega
      · rw [gcd_step x0 yn, g]
    · have y1 : y = 0 := by
        by_cases z : y = 0
        · exact z
        · rw [decide_eq_false (fun e => z (by injection e))] at hb
          cases hb
      subst y1
      refine ⟨_, rfl, ?_⟩
      have e : ((Int.gcd a b : Nat) : Int) = x := by
        rw [← g, Int.gcd_zero_right]
        omega
      have := q H1 (sm.trans e1)
      rw [e] at this
      exact this
theorem ok_fr {f fC : Addr} {fd dC : FuncData} {k : Nat} (F : Fun K "fraction" "fraction" sFr f fd) (FC : Fun K "common_divisor" "common_divisor" sCd fC dC) (gC : mg "common_divisor" = some (.ref fC)) (kC : PySem.W.keepIn K (.ref fC) = true) (mI : mg "int" = none) :
    FnOk P w K mg base CX0 (k + 2) f fd ["numerator", "denominator"] spFr := by
  refine F.ok scFr (fun vs H Q E h => ?_) (fun cdv A outer s H vs Q E hr h => ?_)
  · obtain ⟨a, b, rfl, _⟩ := h
    rfl
  · obtain ⟨a, b, rfl, a0, b0, b1, q⟩ := h
    refine ⟨_, pss_cons (ps_set (i := 2) scFr.nd rfl (.inl rfl) (pe_call (E := E0) (ok_cd (k := 0) FC mI) (hr.mono (by omega)) (by rfl) gC kC (FC.binds (ps := ["one", "other"]) fun _ _ _ _ _ _ us hl => match us, hl with | [_, _], _ => rfl) .nil pass0 (pa_cons (pv 0) (pa_cons (pv 1) pa_nil))))
      (pss_one (ps_ret (pe_tup (pa_cons (pe_op op_fdivW (pv 0) (pv 2)) (pa_cons (pe_op op_fdivW (pv 1) (pv 2)) pa_nil))))), ?_⟩
    have g0 : Int.gcd a b ≠ 0 := fun e => by
      have := (Int.gcd_eq_zero_iff.mp e).2
      omega
    have g1 : (0 : Int) < (Int.gcd a b : Nat) := by omega
    have g2 : ((Int.gcd a b : Nat) : Int) ≤ b := Int.le_of_dvd b0 (Int.gcd_dvd_right a b)
    have g3 : ((Int.gcd a b : Nat) : Int).natAbs.log2 < 9000 := Nat.lt_trans ((Nat.log2_lt (show ((Int.gcd a b : Nat) : Int).natAbs ≠ 0 by omega)).mpr (show _ < 2 ^ 20 by omega)) (show 20 < 9000 by decide)
    refine ⟨_, rfl, _, rfl, a, b, rfl, a0, Int.le_of_lt b0, fun H1 s1 => ?_⟩
    refine ⟨_, rfl, _, rfl, _, _, rfl, rfl, ⟨g1, g3⟩, _, rfl, _, rfl, _, _, rfl, rfl, ⟨g1, g3⟩, Nat.le_of_lt (small1000 (show 2 ≤ 1000 by decide)), fun r nr => ?_⟩
    exact q r _ (s1.trans (same_new nr)) upd_same
end
/-- the class Spending -/
structure TSg (K : PySem.W.Frag) (mg : Str → Option Value) (S : Addr) : Prop where
  cl : Cls K S
  nT : NoAttr K S "totals"
  nB : NoAttr K S "bought"
  nS : NoAttr K S "start"
  nP : NoAttr K S "period"
  nG : NoAttr K S "gain"
  gS : mg "Spending" = some (.ref S)
  mI : mg "int" = none
  mX : mg "max" = none
/-- its fields at the end -/
abbrev spF (tl bd : Addr) (a b c : Int) : List (Str × V) := putF "gain" (.int c) (putF "period" (.int b) (putF "start" (.int a) (putF "bought" (.ref bd) (putF "totals" (.ref tl) []))))
def spSpI (K : PySem.W.Frag) (C D S CV cV : Addr) : Sp := fun vs H Q E => ∃ (a b tv dx t p : Addr) (L : List (Int × Int)) (i j ln : Int) (dv ov : V) (os : List Int) (g : Par), vs = [.ref a, .ref b, .ref tv] ∧ H a = some (.ins S dx []) ∧ Sw K C D H b t p L i j g.lim ∧ L.length ≤ 1000 ∧ atI L i = some g.x ∧ atI L j = some g.y ∧
  Tv K CV H tv g.ln dv ov g.ds os ∧ os.length ≤ 1000 ∧ g.Ok ∧
  (os = [] → ∀ tl bd d k H', (∀ b o, H b = some o → b ≠ a → H' b = some o) → IsRep g d k → H' a = some (.ins S dx (spF tl bd k ((d : Int) - k) ((sim g d).2.2 - (sim g k).2.2))) → Q .non H') ∧
  (os ≠ [] → ∀ dd H', Same H H' → H' dd = some (.xd [("index", .int 0), ("part", .str "exceptions")]) → E (.ref cV) (some dd) H')
end Sea

set_option Elab.async false
set_option linter.all false
set_option maxRecDepth 100000
set_option maxHeartbeats 4000000
/-! the loop of Spending: its states -/
namespace Sea
open PySem PySem.Spec PyProof.Rows L2 LamX NdefX ClX Evl StX
/-- all that stood is kept but a -/
def KA (a : Addr) (H H' : Hp) : Prop := ∀ b o, H b = some o → b ≠ a → H' b = some o
theorem KA.same {a : Addr} {H H1 H2 : Hp} (k : KA a H H1) (s : Same H1 H2) : KA a H H2 := fun b o e n => s _ _ (k b o e n)
theorem KA.put {a z : Addr} {H H1 : Hp} {o : HO} (k : KA a H H1) (n : H z = none ∨ z = a) : KA a H (upd H1 z o) := fun b u e nb => by
  rw [upd_ne ?_]
  · exact k b u e nb
  · rintro rfl
    rcases n with n | n
    · rw [e] at n
      cases n
    · exact nb n
section
variable {K : PySem.W.Frag} {C D S CV : Addr} {H H' : Hp} {a dx : Addr}
theorem KA.tk (k : KA a H H') (ha : H a = some (.ins S dx [])) : TK K H H' := .but (fun b => b = a) (fun b o e n => k b o e n) fun b xs z => by
  rw [z]
  exact Rd.ins_no ha
theorem ins_apart {b C' dx' : Addr} {fs : List (Str × V)} (ha : H a = some (.ins S dx [])) (hb : H b = some (.ins C' dx' fs)) (n : fs ≠ []) : b ≠ a := by
  rintro rfl
  rw [ha] at hb
  injection hb with hb
  injection hb with _ _ hb
  exact n hb.symm
theorem KA.tar {t p : Addr} {L : List (Int × Int)} (k : KA a H H') (ha : H a = some (.ins S dx [])) (h : Tar K C H t p L) : Tar K C H' t p L := by
  obtain ⟨⟨d1, h1⟩, h2⟩ := h
  exact ⟨⟨d1, k _ _ h1 (ins_apart ha h1 (by simp))⟩, h2.tk (k.tk ha)⟩
theorem KA.sw {b t p : Addr} {L : List (Int × Int)} {i j lim : Int} (k : KA a H H') (ha : H a = some (.ins S dx [])) (h : Sw K C D H b t p L i j lim) : Sw K C D H' b t p L i j lim := by
  obtain ⟨⟨d1, h1⟩, h2⟩ := h
  exact ⟨⟨d1, k _ _ h1 (ins_apart ha h1 fun z => by have : (swF t i j lim).length = 4 := rfl; rw [z] at this; cases this)⟩, k.tar ha h2⟩
theorem KA.tv {b : Addr} {ln : Int} {d o : V} {ds os : List Int} (k : KA a H H') (ha : H a = some (.ins S dx [])) (h : Tv K CV H b ln d o ds os) : Tv K CV H' b ln d o ds os := by
  obtain ⟨⟨d1, h1⟩, h2, h3⟩ := h
  exact ⟨⟨d1, k _ _ h1 (ins_apart ha h1 fun z => by have : (tvF ln d o).length = 3 := rfl; rw [z] at this; cases this)⟩, h2.tk (k.tk ha), h3.tk (k.tk ha)⟩
end
theorem tk_lst {K : PySem.W.Frag} {H : Hp} {z : Addr} {xs : List V} {o : HO} (e : H z = some (.lst xs)) : TK K H (upd H z o) := .but (fun b => b = z) (fun b u q n => by rw [upd_ne n]; exact q) fun b ys q => by
  rw [q]
  exact Rd.lst_no e
theorem tk_ins {K : PySem.W.Frag} {H : Hp} {z C dx : Addr} {fs : List (Str × V)} {o : HO} (e : H z = some (.ins C dx fs)) : TK K H (upd H z o) := .but (fun b => b = z) (fun b u q n => by rw [upd_ne n]; exact q) fun b ys q => by
  rw [q]
  exact Rd.ins_no e
theorem tk_dk {K : PySem.W.Frag} {H : Hp} {z : Addr} {kvs : List (Key × V)} {o : HO} (e : H z = some (.dK kvs)) : TK K H (upd H z o) := .but (fun b => b = z) (fun b u q n => by rw [upd_ne n]; exact q) fun b ys q => by
  rw [q]
  rintro (h | ⟨o, h⟩)
  · rw [e] at h
    cases h
  · rw [e] at h
    cases h
theorem tk_nd {P : Program} {w : World} {K : PySem.W.Frag} {H : Hp} {z : Addr} {ks : List NE} {o : HO} (e : H z = some (NdO P w z ks)) : TK K H (upd H z o) := .but (fun b => b = z) (fun b u q n => by rw [upd_ne n]; exact q) fun b ys q => by
  rw [q]
  exact nd_no (K := K) e ys
/-! ### readings -/
theorem eqv_nil (os : List Int) : PyData.eqv (.tuple (os.map PyData.int)) (.tuple []) = decide (os = []) := by
  cases os with
  | nil => rfl
  | cons a r => rfl
theorem ints_shT (ns : List Int) : SeqAt.shaped (.tuple (ns.map PyData.int)) = true := ints_sh ns
section
variable {K : PySem.W.Frag} {σ : L2.St} {H : Hp} {C : Addr}
theorem ev_prop {i : Nat} {a dx : Addr} {fs : List (Str × V)} {f : Str} {v : V} (hs : σ[i]? = some (some (.ref a))) (ha : H a = some (.ins C dx fs)) (hf : fs.lookup f = some v) : Ev (tProp C (getSp C f) [] E0 (tVar i)) σ H v := fun H1 e Q q =>
  ⟨_, hs, a, dx, fs, rfl, e _ _ ha, a, dx, fs, v, rfl, e _ _ ha, hf, q H1 (Ex.refl _)⟩
theorem tv_get {a : Addr} {ln : Int} {d o v : V} {ds os : List Int} {fn : Str} {i : Nat} (hs : σ[i]? = some (some (.ref a))) (t : Tv K C H a ln d o ds os) (hl : (tvF ln d o).lookup fn = some v) : Ev (tProp C (getSp C fn) [] E0 (tVar i)) σ H v := by
  obtain ⟨⟨dx, ha⟩, _⟩ := t
  exact ev_prop hs ha hl
end
abbrev tInt (te : TE) : TE := tCB (fun xs H Q => (∃ n, xs = [V.int n] ∧ Q (.int n) H) ∨ ∃ b : Bool, xs = [V.bl b] ∧ Q (.int (if b then 1 else 0)) H) (tCons te tNil)
section
variable {K : PySem.W.Frag} {σ : L2.St} {H : Hp} {CV tv : Addr} {dv ov : V} {os : List Int} {g : Par}
/-- int(day) % travel.round_length -/
theorem mod_run {d : Nat} (o : g.Ok) (h2 : σ[2]? = some (some (.ref tv))) (h3 : σ[3]? = some (some (.int d))) (ht : Tv K CV H tv g.ln dv ov g.ds os) : Ev (tOp (rI (fun _ j => j ≠ 0) fun i j => .int (i.fmod j)) (tInt (tVar 3)) (tProp CV (getSp CV "size") [] E0 (tVar 2))) σ H (.int ((d : Int).fmod g.ln)) :=
  ev_op (ev_int1 (ev_var h3)) (tv_get h2 ht (tvF_size ..)) (rv_I (C := fun _ j => j ≠ 0) (g := fun i j => .int (i.fmod j)) (i := (d : Int)) (j := g.ln) (by have := o.l1; omega))
theorem key_run {d : Nat} {l : Int} {vm : V} {m : List Int} (o : g.Ok) (h2 : σ[2]? = some (some (.ref tv))) (h3 : σ[3]? = some (some (.int d))) (h4 : σ[4]? = some (some (.int l))) (h5 : σ[5]? = some (some vm)) (ht : Tv K CV H tv g.ln dv ov g.ds os) (hm : TiA K H vm m) :
    EvD (tTup (tCons (tOp (rI (fun _ j => j ≠ 0) fun i j => .int (i.fmod j)) (tInt (tVar 3)) (tProp CV (getSp CV "size") [] E0 (tVar 2))) (tCons (tVar 4) (tCons (tVar 5) tNil)))) σ H fun v H' => KeyAt K H' v ((d : Int).fmod g.ln, l, m) := fun H1 e Q q =>
  mod_run o h2 h3 ht H1 e _ fun H2 e2 => by
    obtain ⟨pm, rfl, hm⟩ := hm
    refine ⟨_, h4, _, h5, Nat.le_of_lt (small1000 (show 3 ≤ 1000 by decide)), fun r nr => q (.ref r) _ (e2.trans (same_new nr)) ⟨r, pm, rfl, .of upd_same, ?_⟩⟩
    exact (TK.new nr) _ _ (ex_t (e.trans e2) hm)
end
/-! ### the dict of the days that were seen -/
def SeenIs (g : Par) (d : Nat) (ks : List NE) : Prop := ks.map (fun p => (p.1, p.2.2)) = (List.range d).map fun k => (key g k, (k : Int))
theorem fnd_map (ks : List NE) (k : NK) : fnd ks k = ((ks.map fun p => (p.1, p.2.2)).find? fun p => decide (p.1 = k)).map (·.2) := by
  unfold fnd
  induction ks with
  | nil => rfl
  | cons p r ih =>
    rw [List.map_cons, List.find?_cons, List.find?_cons]
    by_cases e : p.1 = k
    · rw [decide_eq_true e]
      rfl
    · rw [decide_eq_false e]
      exact ih
theorem SeenIs.len {g : Par} {d : Nat} {ks : List NE} (h : SeenIs g d ks) : ks.length = d := by
  have := congrArg List.length h
  rw [List.length_map, List.length_map, List.length_range] at this
  exact this
theorem SeenIs.some {g : Par} {d : Nat} {ks : List NE} {k : NK} {n : Int} (h : SeenIs g d ks) (e : fnd ks k = some n) : ∃ j, j < d ∧ n = (j : Int) ∧ key g j = k := by
  rw [fnd_map, show ks.map (fun p => (p.1, p.2.2)) = _ from h] at e
  obtain ⟨p, hp, rfl⟩ := Option.map_eq_some_iff.mp e
  have h1 := List.find?_some hp
  obtain ⟨j, hj, rfl⟩ := List.mem_map.mp (List.mem_of_find?_eq_some hp)
  exact ⟨j, List.mem_range.mp hj, rfl, of_decide_eq_true h1⟩
theorem SeenIs.none {g : Par} {d : Nat} {ks : List NE} {k : NK} (h : SeenIs g d ks) (e : fnd ks k = none) : ∀ j, j < d → key g j ≠ k := fun j hj z => by
  rw [fnd_map, show ks.map (fun p => (p.1, p.2.2)) = _ from h, Option.map_eq_none_iff, List.find?_eq_none] at e
  exact e (key g j, (j : Int)) (List.mem_map.mpr ⟨j, List.mem_range.mpr hj, rfl⟩) (decide_eq_true z)
theorem SeenIs.snoc {g : Par} {d : Nat} {ks : List NE} {b : Addr} (h : SeenIs g d ks) : SeenIs g (d + 1) (ks ++ [(key g d, b, (d : Int))]) := by
  unfold SeenIs at *
  rw [List.map_append, h, List.range_succ, List.map_append]
  rfl
theorem Fresh.snoc {g : Par} {d : Nat} (h : Fresh g d) (n : ∀ j, j < d → key g j ≠ key g d) : Fresh g (d + 1) := fun i j hi hj => by
  by_cases e : j < d
  · exact h i j hi e
  · obtain rfl : j = d := by omega
    exact n i hi
/-! ### totals -/
def tots (g : Par) (d : Nat) : List V := (List.range (d + 1)).map fun k => V.int (sim g k).2.2
theorem tots_len (g : Par) (d : Nat) : (tots g d).length = d + 1 := by
  unfold tots
  rw [List.length_map, List.length_range]
theorem tots_at (g : Par) {d k : Nat} (h : k ≤ d) : atI (tots g d) (k : Int) = some (.int (sim g k).2.2) := by
  refine at_nat (by rw [tots_len]; omega) ?_
  unfold tots
  rw [List.getElem?_map, List.getElem?_range (by omega)]
  rfl
theorem tots_last (g : Par) (d : Nat) : atI (tots g d) (-1) = some (.int (sim g d).2.2) := by
  unfold atI
  rw [tots_len]
  have e : ixN (d + 1) (-1) = some d := by
    unfold ixN
    rw [if_neg (by decide), if_pos (by omega)]
    congr 1
    omega
  rw [e]
  show (tots g d)[d]? = _
  unfold tots
  rw [List.getElem?_map, List.getElem?_range (by omega)]
  rfl
theorem tots_snoc (g : Par) (d : Nat) : tots g (d + 1) = tots g d ++ [.int (sim g (d + 1)).2.2] := by
  unfold tots
  rw [List.range_succ, List.map_append]
  rfl
/-- ahead of a day's ageing -/
def pre (g : Par) (d : Nat) (s : Q3) : Q3 := if s.1 = 0 ∧ goes g d = true then
    match chM g.x.2 g.lim s.2.1 with
    | none => (g.y.1, [], s.2.2 + g.y.2)
    | some m => (g.x.1, m, s.2.2 + g.x.2)
  else s
theorem stp_pre (g : Par) (d : Nat) (s : Q3) : stp g d s = (max0 ((pre g d s).1 - 1), grM g.y.1 (pre g d s).2.1, (pre g d s).2.2) := by
  unfold stp pre
  split
  · cases chM g.x.2 g.lim s.2.1 <;> rfl
  · rfl
theorem pre_len {g : Par} (o : g.Ok) {d : Nat} : (pre g d (sim g d)).2.1.length ≤ 10 := by
  obtain ⟨⟨h1, h2⟩, _⟩ := sim_ok o d
  have hl := mok_len 9 _ h1 fun z hz => by
    have := h2 z hz
    have := o.y2
    omega
  unfold pre
  split
  · unfold chM
    split
    · exact Nat.zero_le _
    · next e => 
      split at e
      · cases e
      · cases e
        rw [List.length_append]
        show (sim g d).2.1.length + 1 ≤ 10
        omega
  · omega
theorem sim_len {g : Par} (o : g.Ok) {d : Nat} : (sim g d).2.1.length ≤ 9 := by
  obtain ⟨⟨h1, h2⟩, _⟩ := sim_ok o d
  exact mok_len 9 _ h1 fun z hz => by
    have := h2 z hz
    have := o.y2
    omega
end Sea

set_option Elab.async false
set_option linter.all false
set_option maxRecDepth 100000
set_option maxHeartbeats 4000000
namespace Sea
open PySem PySem.Spec PyProof.Rows L2 LamX NdefX ClX Evl StX
/-- what the loop stands on: the heap H0 ahead of it, the new objects -/
structure Lp (P : Program) (w : World) (K : PySem.W.Frag) (g : Par) (S a dx tl bd sd : Addr) (H0 : Hp) (d : Nat) (vm : V) (kvs : List (Key × V)) (ks : List NE) (H : Hp) : Prop where
  me : TiA K H vm (sim g d).2.1
  ka : KA a H0 H
  ia : H a = some (.ins S dx (putF "bought" (.ref bd) (putF "totals" (.ref tl) [])))
  it : H tl = some (.lst (tots g d))
  ib : H bd = some (.dK kvs)
  lb : kvs.length ≤ d
  is : H sd = some (NdO P w sd ks)
  ki : KeysIn K H ks
  si : SeenIs g d ks
  fr : Fresh g d
theorem Lp.same {P : Program} {w : World} {K : PySem.W.Frag} {g : Par} {S a dx tl bd sd : Addr} {H0 : Hp} {d : Nat} {vm : V} {kvs : List (Key × V)} {ks : List NE} {H H' : Hp} (l : Lp P w K g S a dx tl bd sd H0 d vm kvs ks H) (s : Same H H') : Lp P w K g S a dx tl bd sd H0 d vm kvs ks H' :=
  ⟨l.me.tk (.same s), l.ka.same s, s _ _ l.ia, s _ _ l.it, s _ _ l.ib, l.lb, s _ _ l.is, l.ki.tk (.same s), l.si, l.fr⟩
theorem flat_ints (ns : List Int) : (ns.map V.int).all flatV = true := by
  rw [List.all_map]
  exact List.all_eq_true.mpr fun _ _ => rfl
theorem rd_test {r : R2} {ta tb : TE} {σ : L2.St} {H : Hp} {Q : Bool → Hp → Prop} {P : V → Hp → Prop} (h : EvD ta σ H P) (k : ∀ v H1, Ex H H1 → P v H1 → tb σ H1 fun y H2 => r v y H2 fun x H' => ∃ k, x = .bl k ∧ Q k H') : tTest (tOp r ta tb) σ H Q := h H (Ex.refl _) _ k
/-- .. within a day, behind the choice -/
structure Mp (P : Program) (w : World) (K : PySem.W.Frag) (g : Par) (S a dx tl bd sd : Addr) (H0 : Hp) (d : Nat) (vm : V) (kvs : List (Key × V)) (ks : List NE) (H : Hp) : Prop where
  me : TiA K H vm (pre g d (sim g d)).2.1
  ka : KA a H0 H
  ia : H a = some (.ins S dx (putF "bought" (.ref bd) (putF "totals" (.ref tl) [])))
  it : H tl = some (.lst (tots g d))
  ib : H bd = some (.dK kvs)
  lb : kvs.length ≤ d + 1
  is : H sd = some (NdO P w sd ks)
  ki : KeysIn K H ks
theorem Mp.same {P : Program} {w : World} {K : PySem.W.Frag} {g : Par} {S a dx tl bd sd : Addr} {H0 : Hp} {d : Nat} {vm : V} {kvs : List (Key × V)} {ks : List NE} {H H' : Hp} (l : Mp P w K g S a dx tl bd sd H0 d vm kvs ks H) (s : Same H H') : Mp P w K g S a dx tl bd sd H0 d vm kvs ks H' :=
  ⟨l.me.tk (.same s), l.ka.same s, s _ _ l.ia, s _ _ l.it, s _ _ l.ib, l.lb, s _ _ l.is, l.ki.tk (.same s)⟩
theorem PsV.atI {K : PySem.W.Frag} {H : Hp} {vs : List V} {L : List (Int × Int)} (h : PsV K H vs L) {i : Int} {x : Int × Int} (e : L2.atI L i = some x) : ∃ v, L2.atI vs i = some v ∧ PrV K H v x := by
  unfold L2.atI at e ⊢
  rw [h.len]
  cases ei : ixN L.length i with
  | none =>
    rw [ei] at e
    cases e
  | some j =>
    rw [ei] at e
    have e : L[j]? = some x := e
    have hj : j < vs.length := by
      rw [h.len]
      exact (List.getElem?_eq_some_iff.mp e).1
    obtain ⟨y, hy, hp⟩ := h.get (List.getElem?_eq_getElem hj)
    rw [e] at hy
    cases hy
    exact ⟨_, List.getElem?_eq_getElem hj, hp⟩
/-- the choice: the pass, the memory -/
theorem choice {g : Par} {L : List (Int × Int)} {i j : Int} {d : Nat} {s : Q3} (hx : atI L i = some g.x) (hy : atI L j = some g.y) (hc : s.1 = 0 ∧ goes g d = true) :
    ∃ z, atI L (chI i j g.x.2 g.lim s.2.1).1 = some z ∧ pre g d s = (z.1, (chI i j g.x.2 g.lim s.2.1).2, s.2.2 + z.2) := by
  unfold pre chI
  rw [if_pos hc]
  cases chM g.x.2 g.lim s.2.1 with
  | none => exact ⟨g.y, hy, rfl⟩
  | some m => exact ⟨g.x, hx, rfl⟩
section
variable {P : Program} {w : World} {K : PySem.W.Frag} {mg : Str → Option Value} {base : Heap}
variable {C D S CV cV cI cU cP cN fV fI fP pP fVP fVC fL pL fR pR fVN fRl pRl fRd pRd fEx pEx fT pT fB fC fG : Addr} {mc mp md : Value} {fdV fdP dVP dVC dL dR dVN dRl dRd dEx dT dB dC dG : FuncData}
theorem ok_spI {f : Addr} {fd : FuncData} (F : Fun K "__init__" "Spending.__init__" sSpI f fd) (SP : TSg K mg S) (T : TX K mg C cI cU cP fI mc mp) (TQ : TP K C fP pP fdP) (LP : TLp K C fL pL fR pR dL dR) (W : TBy K mg D md fVP fVC dVP dVC cN)
    (BG : TBg K C D fT pT fB fC fG dT dB dC dG) (TV : TTv K mg CV fVN dVN) (R : TPr K CV fRl pRl fRd pRd fEx pEx dRl dRd dEx) (EV : TEv K mg cV cP fV fdV mp) : FnOk P w K mg base (L2.CX P w) 5 f fd ["self", "buyer", "travel"] (spSpI K C D S CV cV) := by
  have GI : FnOk P w K mg base CX0 1 fV fdV ["self", "part", "index"] (spX2 K "part" "index") := ok_IV EV
  have kb := kb_IV EV
  refine F.okX scSpI (fun vs H Q E h => ?_) (fun cdv A outer s H vs Q E hr h => ?_)
  · obtain ⟨a, b, tv, dx, t, p, L, i, j, ln, dv, ov, os, g, rfl, _⟩ := h
    rfl
  · obtain ⟨a, b, tv, dx, t, p, L, i, j, ln, dv, ov, os, g, rfl, ha, hb, hL, hx, hy, ht, hos, ok, q1, q2⟩ := h
    have h2 := hr.mono (show 2 ≤ 4 by omega)
    have hu : (A.deeper (envOfC "Spending.__init__" (defScope sSpI) s.heap.objs.size f cdv)).units + 9 < cLine := Nat.lt_of_le_of_lt (Nat.add_le_add_left (by decide : 9 ≤ 64) _) hr.units
    have hu1 : (A.deeper (envOfC "Spending.__init__" (defScope sSpI) s.heap.objs.size f cdv)).units + 1 < cLine := Nat.lt_of_le_of_lt (Nat.add_le_add_left (by decide : 1 ≤ 64) _) hr.units
    refine ⟨_, pss_cut (ps_if (pt_cmpR (op_neD hr.units) (pe_ex R TV h2 (pv 2)) (pe_tup pa_nil) (nomark _)) (pss_one (ps_raise rfl (takes_of rfl rfl rfl rfl) (pmk_kw EV.xV EV.iV EV.tV GI (hr.mono (by omega)) kb pass0 (by rfl) EV.gV (pk_cons pe_str (pk_cons pe_int pk_nil))))) pss_nil)
      (pss_cons (ps_asg (pe_tup (pa_cons (pe_lst (pa_cons pe_int pa_nil)) (pa_cons pe_dnewK pa_nil))) (pg_tup rfl (pgs_cons (pg_at (pv 0)) (pgs_cons (pg_at (pv 0)) pgs_nil))))
      (pss_cons (ps_par3 (i := 3) (j := 4) (l := 5) rfl scSpI.nd rfl rfl rfl (by decide) (by decide) (by decide) rfl rfl rfl (pa_cons pe_int (pa_cons pe_int (pa_cons (pe_meth0 (pv 1) W.cl BG.mB (ok_beg (D := D) (k := 0) BG.uB) (hr.mono (by omega)) (BG.uB.binds (ps := ["self"]) fun _ _ _ _ _ _ us hl => match us, hl with | [_], _ => rfl) .nil pass0) pa_nil))) (by rfl))
      (pss_cons (ps_set (i := 6) scSpI.nd rfl (.inl rfl) pe_nd)
      (pss_cut (ps_while (passes_of rfl) (pt_cmpR (op_ndNot hu) (pe_tup (pa_cons (pe_op op_modN (pe_callTy call_int1 (by rfl) SP.mI (by rfl) (pa_cons (pv 3) pa_nil)) (pe_rl R TV h2 (pv 2))) (pa_cons (pv 4) (pa_cons (pv 5) pa_nil)))) (pv 6) (by rfl))
        (pss_cons (ps_asg (pv 3) (pg_sub (pv 6) (pe_tup (pa_cons (pe_op op_modN (pe_callTy call_int1 (by rfl) SP.mI (by rfl) (pa_cons (pv 3) pa_nil)) (pe_rl R TV h2 (pv 2))) (pa_cons (pv 4) (pa_cons (pv 5) pa_nil)))) (set_nd hu)))
        (pss_cons (ps_set (i := 7) scSpI.nd rfl (.inl rfl) (pe_ixl (pe_fld (pv 0) rfl) (pe_un un_neg pe_int)))
        (pss_cut (ps_if (PW.pt (pw_and (pt_cmpR op_eq (pv 4) pe_int (nomark _)) (pw_and1 (pt_cmpR op_in_seq (pe_op op_modN (pe_callTy call_int1 (by rfl) SP.mI (by rfl) (pa_cons (pv 3) pa_nil)) (pe_rl R TV h2 (pv 2))) (pe_rd R TV h2 (pv 2)) (by rfl)))))
          (pss_cons (ps_asg (pe_meth (pv 1) W.cl BG.mC (ok_chs BG.uC T LP W) (hr.mono (by omega)) (BG.uC.binds (ps := ["self", "memory"]) fun _ _ _ _ _ _ us hl => match us, hl with | [_, _], _ => rfl) .nil pass0 (pa_cons (pv 5) pa_nil)) (pg_tup rfl (pgs_cons (pg_name (i := 8) scSpI.nd rfl (.inl rfl)) (pgs_cons (pg_name (i := 5) scSpI.nd rfl (.inl rfl)) pgs_nil))))
          (pss_cons (ps_asg (pe_ixt (pe_passes TQ T.cl T.no h2 (pe_prop (pv 1) W.cl BG.pT (ok_byT (k := 0) BG.uT W.cl W.nO) h2 (BG.uT.binds (ps := ["self"]) fun _ _ _ _ _ _ us hl => match us, hl with | [_], _ => rfl) .nil pass0 rfl)) (pv 8)) (pg_tup rfl (pgs_cons (pg_name (i := 4) scSpI.nd rfl (.inl rfl)) (pgs_cons (pg_name (i := 9) scSpI.nd rfl (.inl rfl)) pgs_nil))))
          (pss_cons (ps_asg (pv 8) (pg_sub (pe_fld (pv 0) rfl) (pv 3) (set_dict hu1)))
          (pss_one (ps_aug (i := 7) scSpI.nd rfl (.inl rfl) (pv 9) ip_add))))) pss_nil)
        (pss_cons (ps_expr (pe_bm PySem.F.plainAttrs_list PySem.F.slot_list_append PySem.F.type_list_append mt_append (pe_fld (pv 0) rfl) (pa_cons (pv 7) pa_nil)))
        (pss_cons (ps_par (i := 4) (j := 5) rfl scSpI.nd rfl rfl (by decide) rfl rfl (pa_cons (pe_callB (call_max2 rfl) (by rfl) SP.mX (by decide +kernel) (pa_cons pe_int (pa_cons (pe_op op_sub (pv 4) pe_int) pa_nil))) (pa_cons (pe_meth (pv 1) W.cl BG.mG (ok_gr BG.uG T LP W) (hr.mono (by omega)) (BG.uG.binds (ps := ["self", "memory"]) fun _ _ _ _ _ _ us hl => match us, hl with | [_, _], _ => rfl) .nil pass0 (pa_cons (pv 5) pa_nil)) pa_nil)) (by rfl))
        (pss_one (ps_aug (i := 3) scSpI.nd rfl (.inl rfl) pe_int ip_add))))))))
      (pss_cons (ps_fld (pv 0) (pe_ndIx hu (pv 6) (pe_tup (pa_cons (pe_op op_modN (pe_callTy call_int1 (by rfl) SP.mI (by rfl) (pa_cons (pv 3) pa_nil)) (pe_rl R TV h2 (pv 2))) (pa_cons (pv 4) (pa_cons (pv 5) pa_nil)))) (fun _ _ => rfl)) rfl)
      (pss_cons (ps_fld (pv 0) (pe_op op_sub (pv 3) (pe_fld (pv 0) rfl)) rfl)
      (pss_one (ps_fld (pv 0) (pe_op op_sub (pe_ixl (pe_fld (pv 0) rfl) (pv 3)) (pe_ixl (pe_fld (pv 0) rfl) (pe_fld (pv 0) rfl))) rfl)))))))), ?_⟩
    have s1000 : ∀ {n : Nat}, n ≤ 1000 → n ≤ sizeLine := fun h => Nat.le_of_lt (small1000 h)
    obtain ⟨⟨dxt, hti⟩, ⟨pd, rfl, hpd⟩, ⟨po, rfl, hpo⟩⟩ := id ht
    refine ⟨fun σ H' => σ = [some (.ref a), some (.ref b), some (.ref tv), none, none, none, none, none, none, none] ∧ Same H H' ∧ os = [], ?_, ?_⟩
    · refine s_when (b := !decide (os = [])) (et_is (et_neD (edp_ev (tv_get rfl ht (tvF_odd ..)) fun H2 x2 => .tup (ex_t x2 hpo) (intsDp os)) (edp_tup eda_nil (by decide)) (ints_shT os) (by decide +kernel)) (by rw [eqv_nil])) (fun hb' H1 e1 => ?_) (fun hb' H1 e1 => ⟨rfl, e1, by simpa using hb'⟩)
      exact mk2_in EV.xV EV.nP EV.nI fun dd hd => q2 (by simpa using hb') dd _ (e1.trans (same_new hd)) upd_same
    rintro σ H1 ⟨rfl, s1, os0⟩
    have ha1 := s1 _ _ ha
    refine ⟨s1000 (show 1 ≤ 1000 by decide), fun tl ntl bd nbd => ⟨s1000 (show 2 ≤ 1000 by decide), fun tp ntp => ⟨tp, _, rfl, .of upd_same, rfl, _, _, rfl, ?_⟩⟩⟩
    have sa : Same H1 (upd (upd (upd H1 tl (.lst [.int 0])) bd (.dK [])) tp (.tup [.ref tl, .ref bd])) := ((same_new ntl).trans (same_new nbd)).trans (same_new ntp)
    refine ⟨_, rfl, a, S, dx, [], rfl, sa _ _ ha1, SP.cl, SP.nT, by decide, _, _, rfl, ⟨_, rfl, a, S, dx, _, rfl, upd_same, SP.cl, SP.nB, show 1 < 1000 by decide, rfl, ?_⟩⟩
    have nta : tl ≠ a := fun z => by rw [z, ha1] at ntl; cases ntl
    have nba : bd ≠ a := fun z => by rw [z, (same_new ntl) _ _ ha1] at nbd; cases nbd
    have nbt : bd ≠ tl := fun z => by rw [z, upd_same] at nbd; cases nbd
    have tt : (upd (upd H1 tl (.lst [.int 0])) bd (.dK [])) tl = some (.lst [.int 0]) := by rw [upd_ne nbt.symm, upd_same]
    generalize hH2 : upd (upd (upd (upd (upd H1 tl (.lst [.int 0])) bd (.dK [])) tp (.tup [.ref tl, .ref bd])) a (.ins S dx (putF "totals" (.ref tl) []))) a (.ins S dx (putF "bought" (.ref bd) (putF "totals" (.ref tl) []))) = H2
    have k2 : KA a H H2 := by
      rw [← hH2]
      refine KA.put (KA.put (KA.same (H1 := H1) (fun b o e n => s1 _ _ e) sa) (.inr rfl)) (.inr rfl)
    have a2 : H2 a = some (.ins S dx (putF "bought" (.ref bd) (putF "totals" (.ref tl) []))) := by rw [← hH2, upd_same]
    have t2 : H2 tl = some (.lst [.int 0]) := by
      rw [← hH2, upd_ne nta, upd_ne nta]
      exact (same_new ntp) _ _ tt
    have b2 : H2 bd = some (.dK []) := by
      rw [← hH2, upd_ne nba, upd_ne nba]
      exact (same_new ntp) _ _ upd_same
    have nt0 : H tl = none := fresh_back s1 ntl
    have nb0 : H bd = none := fresh_back (s1.trans (same_new ntl)) nbd
    obtain ⟨dxb, hbi⟩ := (k2.sw ha hb).1
    refine ⟨_, rfl, b, dxb, _, rfl, hbi, rfl, b, rfl, fun m H3 s3 hm => ⟨_, _, _, rfl, fun sd nsd => ?_⟩⟩
    have ns0 : H sd = none := by
      cases e : H sd with
      | none => rfl
      | some o =>
        by_cases z : sd = a
        · rw [z, s3 _ _ a2] at nsd
          cases nsd
        · rw [s3 _ _ (k2 _ _ e z)] at nsd
          cases nsd
    have L0 : Lp P w K g S a dx tl bd sd H 0 (.ref m) [] [] (upd H3 sd (NdO P w sd [])) := by
      have s4 := s3.trans (same_new (o := NdO P w sd []) nsd)
      exact ⟨⟨m, rfl, .of ((same_new nsd) _ _ hm)⟩, k2.same s4, s4 _ _ a2, s4 _ _ t2, s4 _ _ b2, Nat.le_refl _, upd_same, (fun p hp => nomatch hp), rfl, fun i j _ hj => absurd hj (Nat.not_lt_zero _)⟩
    refine ⟨fun σ' H' => ∃ (d : Nat) (vm : V) (v7 v8 v9 : Option V) (kvs : List (Key × V)) (ks : List NE) (n : Int), σ' = [some (.ref a), some (.ref b), some (.ref tv), some (.int d), some (.int (sim g d).1), some vm, some (.ref sd), v7, v8, v9] ∧ Lp P w K g S a dx tl bd sd H d vm kvs ks H' ∧ fnd ks (key g d) = some n, ?_, ?_⟩
    · refine ⟨fun n σ' H' => ∃ (d : Nat) (vm : V) (v7 v8 v9 : Option V) (kvs : List (Key × V)) (ks : List NE), n + d = 71681 ∧ σ' = [some (.ref a), some (.ref b), some (.ref tv), some (.int d), some (.int (sim g d).1), some vm, some (.ref sd), v7, v8, v9] ∧ Lp P w K g S a dx tl bd sd H d vm kvs ks H', ⟨71681, 0, _, _, _, _, _, _, rfl, rfl, L0⟩, ?_⟩
      rintro n σ' H' ⟨d, vm, v7, v8, v9, kvs, ks, hn, rfl, lp⟩
      refine rd_test (key_run (σ := [some (.ref a), some (.ref b), some (.ref tv), some (.int d), some (.int (sim g d).1), some vm, some (.ref sd), v7, v8, v9]) (g := g) ok rfl rfl rfl rfl (lp.ka.tv ha ht) lp.me) fun v H5 e5 hkey => ?_
      have l5 := lp.same e5
      refine ⟨_, rfl, sd, ks, key g d, rfl, l5.is, l5.ki, hkey, ⟨_, rfl, ?_⟩⟩
      refine ite2 (fun hb' => ?_) (fun hb' => ?_)
      rotate_left
      · cases hf : fnd ks (key g d) with
        | none =>
          rw [hf] at hb'
          exact absurd rfl hb'
        | some n => exact ⟨d, vm, v7, v8, v9, kvs, ks, n, rfl, l5, hf⟩
      have hf : fnd ks (key g d) = none := by
        cases hf : fnd ks (key g d) with
        | none => rfl
        | some n =>
          rw [hf] at hb'
          cases hb'
      have fr1 := l5.fr.snoc (l5.si.none hf)
      have few := fr1.few ok
      have fits : ∀ {n : Nat}, n ≤ 71690 → n < sizeLine := fun h => by
        rw [sizeLine_eq]
        omega
      refine ⟨fun σ2 H2 => ∃ m', m' < n ∧ ∃ (d : Nat) (vm : V) (v7 v8 v9 : Option V) (kvs : List (Key × V)) (ks : List NE), m' + d = 71681 ∧ σ2 = [some (.ref a), some (.ref b), some (.ref tv), some (.int d), some (.int (sim g d).1), some vm, some (.ref sd), v7, v8, v9] ∧ Lp P w K g S a dx tl bd sd H d vm kvs ks H2, fun σ2 H2 h => h, ?_⟩
      refine ⟨_, rfl, _, rfl, ?_⟩
      refine (key_run (σ := [some (.ref a), some (.ref b), some (.ref tv), some (.int d), some (.int (sim g d).1), some vm, some (.ref sd), v7, v8, v9]) (g := g) ok rfl rfl rfl rfl (l5.ka.tv ha ht) l5.me) H5 (Ex.refl _) _ fun v2 H6 e6 hk2 => ?_
      have l6 := l5.same e6
      obtain ⟨r, rfl⟩ : ∃ r, v2 = .ref r := let ⟨b, _, e, _⟩ := hk2; ⟨b, e⟩
      refine ⟨sd, ks, key g d, r, (d : Int), rfl, rfl, rfl, l6.is, l6.ki, hk2, hf, fits (by rw [l6.si.len]; omega), ?_⟩
      have nst : tl ≠ sd := ne_of l6.it l6.is (fun z => nomatch z)
      have nsb : bd ≠ sd := ne_of l6.ib l6.is (fun z => nomatch z)
      have nsa : a ≠ sd := ne_of l6.ia l6.is (fun z => nomatch z)
      skip
      have tk6 : TK K H6 (upd H6 sd (NdO P w sd (ks ++ [(key g d, r, (d : Int))]))) := tk_nd l6.is
      have m7 : ∀ {vm' : V}, TiA K H6 vm' (sim g d).2.1 → TiA K (upd H6 sd (NdO P w sd (ks ++ [(key g d, r, (d : Int))]))) vm' (sim g d).2.1 := fun h => h.tk tk6
      have ka7 : KA a H (upd H6 sd (NdO P w sd (ks ++ [(key g d, r, (d : Int))]))) := l6.ka.put (.inl ns0)
      have ia7 : (upd H6 sd (NdO P w sd (ks ++ [(key g d, r, (d : Int))]))) a = some (.ins S dx (putF "bought" (.ref bd) (putF "totals" (.ref tl) []))) := by
        rw [upd_ne nsa]
        exact l6.ia
      have it7 : (upd H6 sd (NdO P w sd (ks ++ [(key g d, r, (d : Int))]))) tl = some (.lst (tots g d)) := by
        rw [upd_ne nst]
        exact l6.it
      have ib7 : (upd H6 sd (NdO P w sd (ks ++ [(key g d, r, (d : Int))]))) bd = some (.dK kvs) := by
        rw [upd_ne nsb]
        exact l6.ib
      have ki7 : KeysIn K (upd H6 sd (NdO P w sd (ks ++ [(key g d, r, (d : Int))]))) (ks ++ [(key g d, r, (d : Int))]) := (l6.ki.snoc hk2).tk tk6
      have is7 : (upd H6 sd (NdO P w sd (ks ++ [(key g d, r, (d : Int))]))) sd = some (NdO P w sd (ks ++ [(key g d, r, (d : Int))])) := upd_same
      have me7 := m7 l6.me
      have lb7 := l6.lb
      refine ⟨_, rfl, a, S, dx, _, _, rfl, ia7, SP.cl, SP.nT, rfl, ⟨1, rfl, tl, tots g d, -1, _, rfl, rfl, .inl (.inl it7), tots_last g d, ?_⟩⟩
      refine ⟨fun σ' H' => ∃ (vm' : V) (v8' v9' : Option V) (kvs' : List (Key × V)), σ' = [some (.ref a), some (.ref b), some (.ref tv), some (.int d), some (.int (pre g d (sim g d)).1), some vm', some (.ref sd), some (.int (pre g d (sim g d)).2.2), v8', v9'] ∧ Mp P w K g S a dx tl bd sd H d vm' kvs' (ks ++ [(key g d, r, (d : Int))]) H', ?_, ?_⟩
      · refine s_when (b := decide (V.int (sim g d).1 = V.int 0) && goes g d) (et_and (et_test (ev_op (ev_var rfl) ev_c (rv_eq rfl))) fun _ => et_test (ev_op (mod_run (σ := [some (.ref a), some (.ref b), some (.ref tv), some (.int d), some (.int (sim g d).1), some vm, some (.ref sd), some (.int (sim g d).2.2), v8, v9]) (g := g) (d := d) ok rfl rfl (ka7.tv ha ht)) (tv_get rfl (ka7.tv ha ht) (tvF_pat ..)) (rv_isT ((ka7.tk ha) _ _ hpd) rfl (flat_ints _)))) (fun hc H8 e8 => ?_) (fun hc H8 e8 => ?_)
        · have hc' : (sim g d).1 = 0 ∧ goes g d = true := by
            rw [Bool.and_eq_true] at hc
            have := of_decide_eq_true hc.1
            exact ⟨by injection this, hc.2⟩
          obtain ⟨z, hz, hpre⟩ := choice (d := d) hx hy hc'
          have k8 := ka7.same e8
          have sw8 := k8.sw ha hb
          obtain ⟨dxb8, hbi8⟩ := id sw8.1
          have sl := sim_len ok (d := d)
          refine ⟨_, rfl, b, dxb8, _, rfl, hbi8, rfl, _, rfl, ⟨b, t, p, L, i, j, g.lim, g.x, vm, (sim g d).2.1, rfl, sw8, hL, hx, me7.tk (.same e8), by omega, fun r2 v' H9 s9 hr2 hv => ⟨r2, _, rfl, hr2, rfl, _, _, rfl, _, _, rfl, rfl, ?_⟩⟩⟩
          have k9 := k8.same s9
          have sw9 := k9.sw ha hb
          obtain ⟨dxb9, hbi9⟩ := id sw9.1
          obtain ⟨⟨dxt9, hti9⟩, htp9⟩ := id sw9.2
          obtain ⟨pvs, hpv, _, hps⟩ := sw9.2.len_eq
          obtain ⟨_, hat, q, rfl, hq⟩ := hps.atI hz
          refine ⟨_, rfl, b, dxb9, _, rfl, hbi9, b, dxb9, _, .ref t, rfl, hbi9, rfl, t, dxt9, _, rfl, hti9, t, dxt9, _, .ref p, rfl, hti9, rfl, _, rfl, ⟨p, pvs, _, .ref q, rfl, rfl, hpv, hat, ⟨q, _, rfl, hq, rfl, _, _, rfl, _, _, rfl, rfl, ?_⟩⟩⟩
          have s79 := e8.trans s9
          have ib9 := s79 _ _ ib7
          refine ⟨_, rfl, _, rfl, a, S, dx, _, _, rfl, s79 _ _ ia7, SP.cl, SP.nB, rfl, _, rfl, bd, _, rfl, DPut.k (k := .inl (d : Int)) ib9 (fits (by omega)), ?_⟩
          refine ⟨_, rfl, _, rfl, _, _, rfl, rfl, ?_⟩
          have nba9 : a ≠ bd := ne_of (s79 _ _ ia7) ib9 (fun z => nomatch z)
          have nbt9 : tl ≠ bd := ne_of (s79 _ _ it7) ib9 (fun z => nomatch z)
          have nbs9 : sd ≠ bd := ne_of (s79 _ _ is7) ib9 (fun z => nomatch z)
          refine ⟨v', some (.int (chI i j g.x.2 g.lim (sim g d).2.1).1), some (.int z.2), putK kvs (.inl (d : Int)) (.int (chI i j g.x.2 g.lim (sim g d).2.1).1), ?_, Mp.mk (by rw [hpre]; exact hv.tk (tk_dk ib9)) (k9.put (.inl nb0)) (by rw [upd_ne nba9]; exact s79 _ _ ia7) (by rw [upd_ne nbt9]; exact s79 _ _ it7) upd_same (by have := length_putK kvs (.inl (d : Int)) (V.int (chI i j g.x.2 g.lim (sim g d).2.1).1); omega) (by rw [upd_ne nbs9]; exact s79 _ _ is7) ((ki7.tk (.same s79)).tk (tk_dk ib9))⟩
          rw [hpre]
          rfl
        · have pe : pre g d (sim g d) = sim g d := by
            unfold pre
            rw [if_neg fun z => by rw [z.1, z.2] at hc; cases hc]
          rw [pe]
          exact ⟨vm, v8, v9, kvs, rfl, (Mp.mk (by rw [pe]; exact me7) ka7 ia7 it7 ib7 (by omega) is7 ki7 : Mp P w K g S a dx tl bd sd H d vm kvs _ _).same e8⟩
      rintro σ' H9 ⟨vm', v8', v9', kvs', rfl, mp⟩
      refine ⟨_, rfl, a, S, dx, _, _, rfl, mp.ia, SP.cl, SP.nT, rfl, .inl ⟨rfl, _, .of mp.it⟩, _, rfl, tl, tots g d, _, rfl, rfl, mp.it, fits (by rw [tots_len]; omega), ?_⟩
      have nta : a ≠ tl := ne_of mp.ia mp.it (fun z => nomatch z)
      have ntb : bd ≠ tl := ne_of mp.ib mp.it (fun z => nomatch z)
      have nts : sd ≠ tl := ne_of mp.is mp.it (fun z => nomatch z)
      have tkl : TK K H9 (upd H9 tl (.lst (tots g d ++ [.int (pre g d (sim g d)).2.2]))) := tk_lst mp.it
      have ka10 : KA a H (upd H9 tl (.lst (tots g d ++ [.int (pre g d (sim g d)).2.2]))) := mp.ka.put (.inl nt0)
      have sw10 := ka10.sw ha hb
      obtain ⟨dxb10, hbi10⟩ := id sw10.1
      have pl := pre_len ok (d := d)
      have me10 := mp.me.tk tkl
      refine ⟨_, rfl, _, _, rfl, rfl, _, _, rfl, _, rfl, b, dxb10, _, rfl, hbi10, rfl, _, rfl, ⟨b, t, p, L, i, j, g.lim, g.y, vm', (pre g d (sim g d)).2.1, rfl, sw10, hL, hy, me10, by omega, fun v' H11 s11 hv => ⟨_, _, rfl, ?_⟩⟩⟩
      refine ⟨_, rfl, _, _, rfl, rfl, ?_⟩
      have e1 : sim g (d + 1) = (max0 ((pre g d (sim g d)).1 - 1), grM g.y.1 (pre g d (sim g d)).2.1, (pre g d (sim g d)).2.2) := stp_pre g d (sim g d)
      refine ⟨71681 - (d + 1), by omega, d + 1, v', some (.int (pre g d (sim g d)).2.2), v8', v9', kvs', _, by omega, ?_, ⟨by rw [e1]; exact hv, ka10.same s11, s11 _ _ (by rw [upd_ne nta]; exact mp.ia), ?_, s11 _ _ (by rw [upd_ne ntb]; exact mp.ib), mp.lb, s11 _ _ (by rw [upd_ne nts]; exact mp.is), (mp.ki.tk tkl).tk (.same s11), l6.si.snoc, fr1⟩⟩
      · rw [e1]
        rfl
      · rw [tots_snoc, e1]
        exact s11 _ _ upd_same
    rintro σ' H' ⟨d, vm, v7, v8, v9, kvs, ks, n, rfl, lp, hf⟩
    obtain ⟨k, hk, rfl, hkk⟩ := lp.si.some hf
    have few := lp.fr.few ok
    refine ⟨_, rfl, ?_⟩
    refine (key_run (σ := [some (.ref a), some (.ref b), some (.ref tv), some (.int d), some (.int (sim g d).1), some vm, some (.ref sd), v7, v8, v9]) (g := g) ok rfl rfl rfl rfl (lp.ka.tv ha ht) lp.me) H' (Ex.refl _) _ fun v H5 e5 hkey => ?_
    have l5 := lp.same e5
    refine ⟨sd, ks, key g d, (k : Int), rfl, l5.is, l5.ki, hkey, hf, ⟨_, rfl, a, S, dx, _, rfl, l5.ia, SP.cl, SP.nS, Nat.lt_of_le_of_lt (putF_len _ _ _) (show 1 + 1 < 1000 by decide), ?_⟩⟩
    have nta : tl ≠ a := ne_of l5.it l5.ia (fun z => nomatch z)
    refine ⟨_, rfl, _, rfl, a, S, dx, _, _, rfl, upd_same, SP.cl, SP.nS, rfl, _, _, rfl, rfl, ⟨_, rfl, a, S, dx, _, rfl, upd_same, SP.cl, SP.nP, Nat.lt_of_le_of_lt (putF_len _ _ _) (Nat.succ_lt_succ (Nat.lt_of_le_of_lt (putF_len _ _ _) (show 1 + 1 < 999 by decide))), ?_⟩⟩
    rw [upd_upd]
    have t6 : ∀ o, (upd H5 a o) tl = some (.lst (tots g d)) := fun o => by
      rw [upd_ne nta]
      exact l5.it
    refine ⟨_, rfl, a, S, dx, _, _, rfl, upd_same, SP.cl, SP.nT, rfl, ⟨_, rfl, tl, tots g d, (d : Int), _, rfl, rfl, .inl (.inl (t6 _)), tots_at g (Nat.le_refl d), ?_⟩⟩
    refine ⟨_, rfl, a, S, dx, _, _, rfl, upd_same, SP.cl, SP.nT, rfl, ⟨_, rfl, a, S, dx, _, _, rfl, upd_same, SP.cl, SP.nS, rfl, tl, tots g d, (k : Int), _, rfl, rfl, .inl (.inl (t6 _)), tots_at g (Nat.le_of_lt hk), _, _, rfl, rfl, ?_⟩⟩
    refine ⟨_, rfl, a, S, dx, _, rfl, upd_same, SP.cl, SP.nG, Nat.lt_of_le_of_lt (putF_len _ _ _) (Nat.succ_lt_succ (Nat.lt_of_le_of_lt (putF_len _ _ _) (Nat.succ_lt_succ (Nat.lt_of_le_of_lt (putF_len _ _ _) (show 1 + 1 < 998 by decide))))), ?_⟩
    rw [upd_upd]
    exact q1 os0 tl bd d k _ (fun b o e n => by rw [upd_ne n]; exact l5.ka _ _ e n) ⟨lp.fr, hk, hkk⟩ upd_same
end
end Sea

set_option Elab.async false
set_option linter.all false
set_option maxRecDepth 100000
set_option maxHeartbeats 4000000
namespace Sea
open PySem PySem.Spec PyProof.Rows L2 LamX NdefX ClX Evl StX
theorem Res.few {g : Par} (o : g.Ok) {x : Int × Int} (h : Res g x) : 0 < x.2 ∧ x.2 ≤ 71680 := by
  refine ⟨h.pos, ?_⟩
  obtain ⟨d, j, i, rfl⟩ := h
  have few := i.1.few o
  have lt := i.2.1
  have e : ((d : Int) - j) / ((Int.gcd (((sim g d).2.2 - (sim g j).2.2) * g.ln) ((d : Int) - j) : Nat) : Int) ≤ (d : Int) - j := Int.ediv_le_self _ (by omega)
  show ((d : Int) - j) / _ ≤ 71680
  omega
/-- the functions that Spending's result goes through -/
structure TSr (K : PySem.W.Frag) (mg : Str → Option Value) (S fSI fFr fCd fSr : Addr) (dSI dFr dCd dSr : FuncData) : Prop where
  mkS : Mk K S fSI
  uSI : Fun K "__init__" "Spending.__init__" sSpI fSI dSI
  gFr : mg "fraction" = some (.ref fFr)
  kFr : PySem.W.keepIn K (.ref fFr) = true
  uFr : Fun K "fraction" "fraction" sFr fFr dFr
  gCd : mg "common_divisor" = some (.ref fCd)
  kCd : PySem.W.keepIn K (.ref fCd) = true
  uCd : Fun K "common_divisor" "common_divisor" sCd fCd dCd
  gSr : mg "spent_per_round" = some (.ref fSr)
  kSr : PySem.W.keepIn K (.ref fSr) = true
  uSr : Fun K "spent_per_round" "spent_per_round" sSr fSr dSr
/-- a buyer and its travel, as Spending takes them -/
structure Deal (K : PySem.W.Frag) (C D CV : Addr) (g : Par) (os : List Int) (H : Hp) (b tv : Addr) : Prop where
  sw : ∃ t p L i j, Sw K C D H b t p L i j g.lim ∧ L.length ≤ 1000 ∧ atI L i = some g.x ∧ atI L j = some g.y
  tv : ∃ dv ov, Tv K CV H tv g.ln dv ov g.ds os
  lo : os.length ≤ 1000
  ok : g.Ok
theorem Deal.same {K : PySem.W.Frag} {C D CV : Addr} {g : Par} {os : List Int} {H H' : Hp} {b tv : Addr} (d : Deal K C D CV g os H b tv) (s : Same H H') : Deal K C D CV g os H' b tv := by
  obtain ⟨⟨t, p, L, i, j, h, h2⟩, ⟨dv, ov, h3⟩, h4, h5⟩ := d
  exact ⟨⟨t, p, L, i, j, h.same s, h2⟩, ⟨dv, ov, h3.same s⟩, h4, h5⟩
def spSr (K : PySem.W.Frag) (C D CV cV : Addr) : Sp := fun vs H Q E => ∃ (b tv : Addr) (g : Par) (os : List Int), vs = [.ref b, .ref tv] ∧ Deal K C D CV g os H b tv ∧
  (os = [] → ∀ r x H', Same H H' → Res g x → H' r = some (.tup [.int x.1, .int x.2]) → Q (.ref r) H') ∧
  (os ≠ [] → ∀ dd H', Same H H' → H' dd = some (.xd [("index", .int 0), ("part", .str "exceptions")]) → E (.ref cV) (some dd) H')
section
variable {P : Program} {w : World} {K : PySem.W.Frag} {mg : Str → Option Value} {base : Heap} {C D S CV cV cI cU cP cN fV fI fP pP fVP fVC fL pL fR pR fVN fRl pRl fRd pRd fEx pEx fT pT fB fC fG fSI fFr fCd fSr : Addr} {mc mp md : Value}
  {fdV fdP dVP dVC dL dR dVN dRl dRd dEx dT dB dC dG dSI dFr dCd dSr : FuncData}
theorem ok_sr (SP : TSg K mg S) (T : TX K mg C cI cU cP fI mc mp) (TQ : TP K C fP pP fdP) (LP : TLp K C fL pL fR pR dL dR) (W : TBy K mg D md fVP fVC dVP dVC cN)
    (BG : TBg K C D fT pT fB fC fG dT dB dC dG) (TV : TTv K mg CV fVN dVN) (R : TPr K CV fRl pRl fRd pRd fEx pEx dRl dRd dEx) (EV : TEv K mg cV cP fV fdV mp) (N : TSr K mg S fSI fFr fCd fSr dSI dFr dCd dSr) : FnOk P w K mg base (L2.CX P w) 7 fSr dSr ["buyer", "travel"] (spSr K C D CV cV) := by
  have G1 : FnOk P w K mg base (L2.CX P w) 5 fSI dSI ["self", "buyer", "travel"] (spSpI K C D S CV cV) := ok_spI N.uSI SP T TQ LP W BG TV R EV
  have b1 : Binds K dSI ["self", "buyer", "travel"] [] := N.uSI.binds (ps := ["self", "buyer", "travel"]) fun _ _ _ _ _ _ us hl => match us, hl with | [_, _, _], _ => rfl
  have b2 : Binds K dFr ["numerator", "denominator"] [] := N.uFr.binds (ps := ["numerator", "denominator"]) fun _ _ _ _ _ _ us hl => match us, hl with | [_, _], _ => rfl
  refine N.uSr.okX scSr (fun vs H Q E h => ?_) (fun cdv A outer s H vs Q E hr h => ?_)
  · obtain ⟨b, tv, g, os, rfl, _⟩ := h
    rfl
  · obtain ⟨b, tv, g, os, rfl, dl, q1, q2⟩ := h
    have PX : Passes (L2.CX P w) (cxOf (L2.CX P w) P w K mg base ["buyer", "travel", "spending"] "spent_per_round" (defScope sSr) fSr cdv A outer s H E) E := passes_call (takes_of rfl rfl rfl rfl) (fun _ _ _ _ h => h)
    refine ⟨_, pss_cons (ps_set (i := 2) scSr.nd rfl (.inl rfl) (pe_make (E := E) N.mkS G1 hr (by rfl) SP.gS b1 .nil PX (pa_cons (pv 0) (pa_cons (pv 1) pa_nil))))
      (pss_one (ps_ret (pe_call (E := E0) (ok_fr (k := 0) N.uFr N.uCd N.gCd N.kCd SP.mI) (hr.mono (by omega)) (by rfl) N.gFr N.kFr b2 .nil pass0
        (pa_cons (pe_op op_mul (pe_fld (pv 2) rfl) (pe_rl R TV (hr.mono (by omega)) (pv 1))) (pa_cons (pe_fld (pv 2) rfl) pa_nil))))), ?_⟩
    obtain ⟨⟨t, p, L, i, j, sw, hL, hx, hy⟩, ⟨dv, ov, ht⟩, lo, ok⟩ := id dl
    refine ⟨_, rfl, _, rfl, fun a dx na ndx nad => ?_⟩
    have s0 : Same H (upd (upd H dx (.own a)) a (.ins S dx [])) := fun b u e => by
      rw [upd_ne (ne_of_none e na), upd_ne (ne_of_none e ndx)]
      exact e
    refine ⟨a, b, tv, dx, t, p, L, i, j, g.ln, dv, ov, os, g, rfl, upd_same, sw.same s0, hL, hx, hy, ht.same s0, lo, ok, fun os0 tl bd d k H' ka ir ha => ⟨rfl, ?_⟩, fun os0 dd H' sm hd => q2 os0 dd H' (Same.trans s0 sm) hd⟩
    have s1 : Same H H' := fun b u e => ka _ _ (s0 _ _ e) (ne_of_none e na)
    have few := ir.1.few ok
    have lt := ir.2.1
    refine ⟨_, rfl, a, S, dx, _, _, rfl, ha, SP.cl, SP.nG, rfl, (tv_get (σ := [some (.ref b), some (.ref tv), some (.ref a)]) (i := 1) rfl (ht.same s1) (tvF_size ..)) H' (Ex.refl _) _ fun H2 e2 => ⟨_, _, rfl, rfl, .inr ⟨?_, ?_⟩, _, rfl, a, S, dx, _, _, rfl, e2 _ _ ha, SP.cl, SP.nP, rfl, _, _, rfl, ?_, ?_, ?_, fun r H3 s3 h3 => q1 os0 r _ H3 ((s1.trans e2).trans s3) ⟨d, k, ir, rfl⟩ h3⟩⟩
    · have := ok.l1
      omega
    · have := ok.l2
      omega
    · have := sim_up ok k (d - k)
      rw [show k + (d - k) = d by omega] at this
      exact Int.mul_nonneg (by omega) (by have := ok.l1; omega)
    · omega
    · omega
end
end Sea

set_option Elab.async false
set_option linter.all false
set_option maxRecDepth 100000
set_option maxHeartbeats 4000000
namespace Sea
open PySem PySem.Spec PyProof.Rows L2 LamX NdefX ClX Evl StX
def PassOk (z : Int × Int) : Prop := 1 ≤ z.1 ∧ z.1 ≤ 10 ∧ 1 ≤ z.2 ∧ z.2 ≤ 1000000
def InP (L : List (Int × Int)) (i : Int) : Prop := 0 ≤ i ∧ i < L.length
theorem InP.at {L : List (Int × Int)} {i : Int} (h : InP L i) : ∃ x, atI L i = some x ∧ x ∈ L := by
  obtain ⟨h0, h1⟩ := h
  obtain ⟨n, rfl⟩ := Int.eq_ofNat_of_zero_le h0
  have hn : n < L.length := by omega
  exact ⟨L[n], at_nat hn (List.getElem?_eq_getElem hn), List.getElem_mem hn⟩
/-- best_limit's answer: a pair of the limit and the price -/
def BlA (K : PySem.W.Frag) (g : Par) (n : Nat) (H : Hp) (v : V) : Prop := ∃ r q k z, v = .ref r ∧ SqT K H r [.int ((k : Nat) * g.x.2), .ref q] ∧ SqT K H q [.int z.1, .int z.2] ∧ Best g n k z
theorem BlA.tk {K : PySem.W.Frag} {g : Par} {n : Nat} {H H' : Hp} {v : V} (t : TK K H H') (h : BlA K g n H v) : BlA K g n H' v := by
  obtain ⟨r, q, k, z, e, h1, h2, h3⟩ := h
  exact ⟨r, q, k, z, e, t _ _ h1, t _ _ h2, h3⟩
def spBl (K : PySem.W.Frag) (C CV cU cV : Addr) : Sp := fun vs H Q E => ∃ (t p tv : Addr) (i j ln : Int) (L : List (Int × Int)) (dv ov : V) (ds os : List Int), vs = [.ref t, .int i, .int j, .ref tv] ∧ Tar K C H t p L ∧ L.length ≤ 1000 ∧ (∀ z ∈ L, PassOk z) ∧ Tv K CV H tv ln dv ov ds os ∧ os.length ≤ 1000 ∧ 1 ≤ ln ∧ ln ≤ 14 ∧
  (¬ (InP L i ∧ InP L j) → E (.ref cU) none H) ∧
  (InP L i → InP L j → os ≠ [] → ∀ dd H', Same H H' → H' dd = some (.xd [("index", .int 0), ("part", .str "exceptions")]) → E (.ref cV) (some dd) H') ∧
  (os = [] → ∀ x y, atI L i = some x → atI L j = some y → ∀ v H', Same H H' → BlA K ⟨ln, ds, x, y, 0⟩ (y.1 + 1).toNat H' v → Q v H')
structure TBl (P : Program) (K : PySem.W.Frag) (mg : Str → Option Value) (D fSw cc cda fBy : Addr) (dSw dBy : FuncData) : Prop where
  mkD : Mk K D fSw
  uSw : FunC K "__init__" "SwitchBuyer.__init__" sSwI cc cda fSw dSw
  su : SupT P K mg D cc cda fBy "__init__"
  uBy : Fun K "__init__" "Buyer.__init__" sByI fBy dBy
theorem kb_sw {K : PySem.W.Frag} {cc cda f : Addr} {fd : FuncData} (F : FunC K "__init__" "SwitchBuyer.__init__" sSwI cc cda f fd) : KBn K fd ["self", "tariff", "short", "long", "limit"] 4 ["limit"] (fun us ws => us ++ ws) (fun vs zs => vs ++ zs) := by
  obtain ⟨oc, od, kV, doc, pm, an, ct, osl, rfl, lk⟩ := F.ex
  refine ⟨fun s us ws _ h1 h2 => ?_, fun a b => a.append b⟩
  match us, ws, h1, h2 with
  | [u, v, x, z], [y], _, _ => exact .of_eq rfl
/-- SwitchBuyer(t, i, j, limit=l): what a caller shows -/
theorem sw_mk {K : PySem.W.Frag} {C D : Addr} {H : Hp} {Q : VK} {E : XK} {t p : Addr} {L : List (Int × Int)} {i j lim : Int} {x dx : Addr} (ht : Tar K C H t p L) (hi : InP L i) (hj : InP L j) (hl : 0 ≤ lim ∧ lim ≤ 1000000000) (nx : H x = none) (ndx : H dx = none)
    (q : ∀ H', Same H H' → Sw K C D H' x t p L i j lim → Q .non H') : spSwI K C D [V.ref x, .ref t, .int i, .int j, .int lim] (upd (upd H dx (.own x)) x (.ins D dx [])) Q E := by
  have s0 : Same H (upd (upd H dx (.own x)) x (.ins D dx [])) := fun b u e => by
    rw [upd_ne (ne_of_none e nx), upd_ne (ne_of_none e ndx)]
    exact e
  refine ⟨x, dx, t, p, L, i, j, lim, rfl, upd_same, ht.same s0, hi, hj, hl, fun H' keep at_ => ?_⟩
  have sm : Same H H' := fun b u e => keep b u (s0 b u e) (ne_of_none e nx)
  exact q H' sm ⟨⟨dx, at_⟩, ht.same sm⟩
section
variable {P : Program} {w : World} {K : PySem.W.Frag} {mg : Str → Option Value} {base : Heap} {C D S CV cV cI cU cP cN fV fI fP pP fVP fVC fL pL fR pR fVN fRl pRl fRd pRd fEx pEx fT pT fB fC fG fSI fFr fCd fSr fSw cc cda fBy : Addr} {mc mp md : Value}
  {fdV fdP dVP dVC dL dR dVN dRl dRd dEx dT dB dC dG dSI dFr dCd dSr dSw dBy : FuncData}
theorem ok_bl {f : Addr} {fd : FuncData} (F : Fun K "best_limit" "best_limit" sBl f fd) (SP : TSg K mg S) (T : TX K mg C cI cU cP fI mc mp) (TQ : TP K C fP pP fdP) (LP : TLp K C fL pL fR pR dL dR) (W : TBy K mg D md fVP fVC dVP dVC cN)
    (BG : TBg K C D fT pT fB fC fG dT dB dC dG) (TV : TTv K mg CV fVN dVN) (R : TPr K CV fRl pRl fRd pRd fEx pEx dRl dRd dEx) (EV : TEv K mg cV cP fV fdV mp) (N : TSr K mg S fSI fFr fCd fSr dSI dFr dCd dSr) (B : TBl P K mg D fSw cc cda fBy dSw dBy) (mR : mg "range" = none) :
    FnOk P w K mg base (L2.CX P w) 8 f fd ["tariff", "short", "long", "travel"] (spBl K C CV cU cV) := by
  have GV : FnOk P w K mg base (L2.CX P w) 3 fVP dVP ["tariff", "index"] (spValid K C cU) := ok_valid (k := 0) W.uVP T TQ
  have bVP : Binds K dVP ["tariff", "index"] [] := W.uVP.binds (ps := ["tariff", "index"]) fun _ _ _ _ _ _ us hl => match us, hl with | [_, _], _ => rfl
  have GS : FnOk P w K mg base (L2.CX P w) 7 fSr dSr ["buyer", "travel"] (spSr K C D CV cV) := ok_sr SP T TQ LP W BG TV R EV N
  have bS : Binds K dSr ["buyer", "travel"] [] := N.uSr.binds (ps := ["buyer", "travel"]) fun _ _ _ _ _ _ us hl => match us, hl with | [_, _], _ => rfl
  have GW : FnOk P w K mg base (L2.CX P w) 5 fSw dSw ["self", "tariff", "short", "long", "limit"] (spSwI K C D) := ok_swI B.uSw B.su B.uBy T TQ W T.no
  refine F.okX scBl (fun vs H Q E h => ?_) (fun cdv A outer s H vs Q E hr h => ?_)
  · obtain ⟨t, p, tv, i, j, ln, L, dv, ov, ds, os, rfl, _⟩ := h
    rfl
  · obtain ⟨t, p, tv, i, j, ln, L, dv, ov, ds, os, rfl, ht, hL, hps, hv, lo, l1, l2, q1, q2, q3⟩ := h
    have PX : Passes (L2.CX P w) (cxOf (L2.CX P w) P w K mg base NBl "best_limit" (defScope sBl) f cdv A outer s H E) E := passes_call (takes_of rfl rfl rfl rfl) (fun _ _ _ _ h => h)
    have h2 := hr.mono (show 2 ≤ 7 by omega)
    refine ⟨_, pss_cons (ps_expr (pe_call (E := E) GV (hr.mono (by omega)) (by rfl) W.gVP W.kVP bVP .nil PX (pa_cons (pv 0) (pa_cons (pv 1) pa_nil))))
      (pss_cons (ps_expr (pe_call (E := E) GV (hr.mono (by omega)) (by rfl) W.gVP W.kVP bVP .nil PX (pa_cons (pv 0) (pa_cons (pv 2) pa_nil))))
      (pss_cons (ps_set (i := 4) scBl.nd rfl (.inl rfl) pe_non)
      (pss_cons (ps_for (passes_of rfl) rfl (pi_range1 (by rfl) mR (pa_cons (pe_op op_add (pe_ixt (pe_lens K rfl LP T h2 (pv 0)) (pv 2)) pe_int) pa_nil)) (pg_name (i := 5) scBl.nd rfl (.inl rfl))
        (pss_cons (ps_set (i := 6) scBl.nd rfl (.inl rfl) (pe_op op_mul (pv 5) (pe_ixt (pe_pris K rfl LP T h2 (pv 0)) (pv 1))))
        (pss_cons (ps_asg (pe_call (E := E) GS hr (by rfl) N.gSr N.kSr bS .nil PX (pa_cons (pe_makeK (E := E) B.mkD GW (hr.mono (by omega)) (by rfl) W.gD (kb_sw B.uSw) PX (pa_cons (pv 0) (pa_cons (pv 1) (pa_cons (pv 2) pa_nil))) (pk_cons (pv 6) pk_nil)) (pa_cons (pv 3) pa_nil)))
            (pg_tup rfl (pgs_cons (pg_name (i := 7) scBl.nd rfl (.inl rfl)) (pgs_cons (pg_name (i := 8) scBl.nd rfl (.inl rfl)) pgs_nil))))
        (pss_one (ps_if (PW.pt (pw_or (pt_cmpR op_isN (pv 4) pe_non (nomark _)) (pw_or1 (pt_cmpR op_lt (pe_op op_mul (pv 7) (pe_ixt (pe_ixt (pv 4) pe_int) pe_int)) (pe_op op_mul (pe_ixt (pe_ixt (pv 4) pe_int) pe_int) (pv 8)) (nomark _)))))
          (pss_one (ps_set (i := 4) scBl.nd rfl (.inl rfl) (pe_tup (pa_cons (pv 6) (pa_cons (pe_tup (pa_cons (pv 7) (pa_cons (pv 8) pa_nil))) pa_nil))))) pss_nil)))))
      (pss_one (ps_ret (pv 4)))))), ?_⟩
    refine ⟨_, rfl, _, rfl, t, p, i, L, rfl, ht, fun hi => ?_, fun hi => q1 fun z => hi z.1⟩
    refine ⟨_, rfl, _, rfl, t, p, j, L, rfl, ht, fun hj => ?_, fun hj => q1 fun z => hj z.2⟩
    obtain ⟨x, hx, hxm⟩ := InP.at hi
    obtain ⟨y, hy, hym⟩ := InP.at hj
    obtain ⟨x1, x2, x3, x4⟩ := hps x hxm
    obtain ⟨y1, y2, y3, y4⟩ := hps y hym
    have ok : ∀ l : Int, (Par.mk ln ds x y l).Ok := fun l => ⟨l1, l2, x1, x2, x3, x4, y1, y2, y3, y4⟩
    have hb : (y.1 + 1).toNat = y.1 + 1 := by omega
    have eN : Ev (tOp (rI0 fun i j => .int (i + j)) (tOp (rIxT K) (tProp C (spCol K C Prod.fst) [] E0 (tVar 0)) (tVar 2)) (tC (.int 1))) [some (.ref t), some (.int i), some (.int j), some (.ref tv), some .non, none, none, none, none] H (.int (y.1 + 1)) := ev_op (ev_col (ev_var rfl) ht hL (ev_var rfl) hy) ev_c rv_I0
    refine eN H (Ex.refl _) _ fun H1 e1 => ⟨y.1 + 1, rfl, by omega, by omega, for_range (lo := 0) (n := (y.1 + 1).toNat) (fun n σ' H' => ∃ (v : V) (v5 v6 v7 v8 : Option V), σ' = [some (.ref t), some (.int i), some (.int j), some (.ref tv), some v, v5, v6, v7, v8] ∧ Same H H' ∧ ((n = 0 ∧ v = .non) ∨ (0 < n ∧ os = [] ∧ BlA K ⟨ln, ds, x, y, 0⟩ n H' v))) ⟨.non, none, none, none, none, rfl, e1, .inl ⟨rfl, rfl⟩⟩ ?_ ?_⟩
    rotate_left
    · rintro σ' H' ⟨v, v5, v6, v7, v8, rfl, sm, hv2⟩
      rcases hv2 with ⟨n0, _⟩ | ⟨_, os0, hv2⟩
      · omega
      · exact ⟨_, rfl, q3 os0 x y hx hy v H' sm hv2⟩
    rintro n σ' H' hn ⟨v, v5, v6, v7, v8, rfl, sm, hv2⟩
    have eL : Ev (tOp (rI CMul fun i j => .int (i * j)) (tVar 5) (tOp (rIxT K) (tProp C (spCol K C Prod.snd) [] E0 (tVar 0)) (tVar 1))) [some (.ref t), some (.int i), some (.int j), some (.ref tv), some v, some (.int (0 + (n : Int))), v6, v7, v8] H' (.int ((n : Int) * x.2)) := by
      refine ev_is (ev_op (ev_var rfl) (ev_col (ev_var rfl) (ht.same sm) hL (ev_var rfl) hx) (rv_I (.inl ⟨by omega, by omega⟩))) ?_
      show V.int ((0 + (n : Int)) * x.2) = _
      rw [Int.zero_add]
    refine q_asg eL fun H2 e2 => ?_
    have n10 : n ≤ 10 := by omega
    have lim : 0 ≤ (n : Int) * x.2 ∧ (n : Int) * x.2 ≤ 1000000000 := by
      refine ⟨Int.mul_nonneg (by omega) (by omega), ?_⟩
      have h1 := Int.mul_le_mul (show (n : Int) ≤ 10 by omega) x4 (by omega) (by omega)
      omega
    have s2 := sm.trans e2
    refine ⟨_, rfl, _, rfl, _, rfl, _, rfl, rfl, rfl, fun a dx na ndx _ => ?_⟩
    refine sw_mk (ht.same s2) hi hj lim na ndx fun H3 s3 sw => ⟨rfl, ?_⟩
    refine ⟨_, rfl, a, tv, ⟨ln, ds, x, y, (n : Int) * x.2⟩, os, rfl, ⟨⟨t, p, L, i, j, sw, hL, hx, hy⟩, ⟨dv, ov, hv.same (s2.trans s3)⟩, lo, ok _⟩, fun os0 r z H4 s4 hz hr2 => ⟨r, _, rfl, .of hr2, rfl, _, _, rfl, _, _, rfl, rfl, ?_⟩, fun os0 dd H4 s4 hd => q2 hi hj os0 dd H4 ((s2.trans s3).trans s4) hd⟩
    have sm4 := (s2.trans s3).trans s4
    have zf := hz.few (ok _)
    have s1000 : ∀ {n : Nat}, n ≤ 1000 → n ≤ sizeLine := fun h => Nat.le_of_lt (small1000 h)
    rcases hv2 with ⟨n0, rfl⟩ | ⟨n1, _, r0, q0, k, bz, rfl, hr0, hq0, best⟩
    · subst n0
      refine s_when (b := decide (V.non = V.non) || false) (et_or (et_isN rfl) fun h => absurd h (by decide)) (fun _ H5 e5 => ?_) (fun hb _ _ => absurd hb (by decide))
      refine ⟨_, rfl, _, rfl, _, rfl, s1000 (show 2 ≤ 1000 by decide), fun qq nq => ⟨s1000 (show 2 ≤ 1000 by decide), fun rr nr => ?_⟩⟩
      refine ⟨.ref rr, _, _, _, _, rfl, ((sm4.trans e5).trans (same_new nq)).trans (same_new nr), .inr ⟨Nat.zero_lt_one, os0, rr, qq, 0, z, rfl, .of upd_same, (TK.new nr) _ _ (.of upd_same), best_first hz⟩⟩
    · have t4 : TK K H' H4 := .same ((e2.trans s3).trans s4)
      have hr4 := t4 _ _ hr0
      have hq4 := t4 _ _ hq0
      have bf := best.2.1.few (ok _)
      refine s_when (b := decide (V.ref r0 = V.non) || decide (z.1 * bz.2 < bz.1 * z.2)) (et_or (et_isN rfl) fun _ => et_test (ev_op (ev_op (ev_var rfl) (ev_op (ev_op (ev_var rfl) ev_c (rv_ixT hr4 rfl)) ev_c (rv_ixT hq4 rfl)) (rv_I (.inr ⟨by omega, by omega⟩))) (ev_op (ev_op (ev_op (ev_var rfl) ev_c (rv_ixT hr4 rfl)) ev_c (rv_ixT hq4 rfl)) (ev_var rfl) (rv_I (.inr ⟨by omega, by omega⟩))) (rv_I0 (g := fun i j => .bl (decide (i < j)))))) (fun hb H5 e5 => ?_) (fun hb H5 e5 => ?_)
      · have hl : Less z bz := by
          rw [decide_eq_false (by intro h; cases h), Bool.false_or] at hb
          have hb : z.1 * bz.2 < bz.1 * z.2 := of_decide_eq_true hb
          exact hb
        refine ⟨_, rfl, _, rfl, _, rfl, s1000 (show 2 ≤ 1000 by decide), fun qq nq => ⟨s1000 (show 2 ≤ 1000 by decide), fun rr nr => ?_⟩⟩
        refine ⟨.ref rr, _, _, _, _, rfl, ((sm4.trans e5).trans (same_new nq)).trans (same_new nr), .inr ⟨Nat.succ_pos n, os0, rr, qq, n, z, rfl, .of upd_same, (TK.new nr) _ _ (.of upd_same), best.new hz hl⟩⟩
      · have hl : ¬ Less z bz := by
          rw [decide_eq_false (by intro h; cases h), Bool.false_or] at hb
          have hb : ¬ z.1 * bz.2 < bz.1 * z.2 := of_decide_eq_false hb
          exact hb
        exact ⟨.ref r0, _, _, _, _, rfl, sm4.trans e5, .inr ⟨Nat.succ_pos n, os0, r0, q0, k, bz, rfl, (TK.same e5) _ _ hr4, (TK.same e5) _ _ hq4, best.old hz hl⟩⟩
end
end Sea

set_option Elab.async false
set_option linter.all false
set_option maxRecDepth 100000
set_option maxHeartbeats 4000000
/-! set(list of ints), sorted(tuple of ints), t[::-1] -/
namespace Sea
open PySem PySem.Spec PyProof.Rows L2
section
variable {P : Program} {w : World} {A : Around} {E : Value → Shared → Prop} {s : Shared}
/-- a set just made -/
abbrev bareSet (w : World) : Obj := { cls := .type "set", dict := none, data := .set #[] 0 (.fresh 0 0 (!w.params.followText "set-order")) }
/-- the set made is filled from a walk over ints: set.__init__ at the list l -/
theorem fill_list {l : Addr} {items : Array Value} (ns : List Int) {R : Result → Shared → Prop} (hh : A.handled = none) (hl : s.heap.IsList l items) (hi : IntsAre items.toList ns) (few : ns.length + 1 < scanBound)
    (h : ∀ (h' : Heap) (tk c : Nat), SetR w h' s.heap.objs.size (fun j => decide (j ∈ ns)) c → c ≤ ns.length → (∀ b o, s.heap.get? b = some o → h'.get? b = some o) → R (.ok (.ret .none)) { s with heap := h', toks := tk }) :
    codeAny (model P w) A (.call (.builtin "set.__init__") ⟨[.ref s.heap.objs.size, .ref l], []⟩) R { s with heap := s.heap.push (bareSet w) } := by
  have many : items.size = ns.length := by rw [← Array.length_toList]; exact IntsAre.length hi
  have made : (s.heap.push (bareSet w)).get? s.heap.objs.size = some (bareSet w) := Heap.get?_push_size _ rfl
  have still : (s.heap.push (bareSet w)).IsList l items := hl.push _
  have below : l < s.heap.objs.size := hl.choose_spec.1 |> Heap.lt_size
  have grown : (s.heap.push (bareSet w)).objs.size = s.heap.objs.size + 1 := Heap.size_push ..
  obtain ⟨⟨ocls, odict, odata, oslots⟩, at_, oc, nl, od⟩ := id still
  obtain rfl : ocls = _ := oc
  obtain rfl : odata = _ := od
  have notSet := F.sub_list_set
  have notFrozen := F.sub_list_frozenset
  have notDict : (Value.type "list" == Value.type "dict") = false := by decide
  refine codeAny_call_builtin F.called_set.init.plain F.entry_set_init (check_set_init_1 ⟨_, made, rfl⟩ ?_)
  unfold Builtin.«set.__init__» noKeywords Builtin.Frozenset.updateFrom
  generalize hPI : pyIter = PI
  wp_walk
  subst hPI
  refine wpAny_pyIter_list still (wpAny_bind (wpAny_runValue ?_))
  have item : ∀ (i : Nat) (v : Value), items[i]? = some v → ∃ k t, ns[i]? = some k ∧ v = .int k t := by
    intro i v hv
    obtain ⟨t, e⟩ := IntsAre.int_at hi i v (by rwa [Array.getElem?_toList])
    have lt : i < ns.length := many ▸ (Array.getElem?_eq_some_iff.mp hv).1
    exact ⟨ns[i], t, List.getElem?_eq_getElem lt, by rw [e, List.getD_eq_getElem?_getD, List.getElem?_eq_getElem lt]; rfl⟩
  have walk := Walks.list (prog := P) (w := w) (A := A.in1.in1) (by exact hh) (s.heap.push (bareSet w)).objs.size l (by rw [grown]; exact Nat.ne_of_lt (Nat.lt_succ_of_lt below)) items
  refine set_update_ints walk.toS s.heap.objs.size ?_ ns many few item (items.size - 0) 0 _ rfl (Nat.zero_le _) ⟨⟨_, Heap.get?_push_size _ rfl, rfl, rfl⟩, still.push _⟩ ⟨0, Nat.le_refl 0, setR_new_at (Heap.get?_push_of_some _ made)⟩ ?_
  · simp only [grown, List.mem_cons, List.not_mem_nil, or_false, not_or]
    exact ⟨Nat.ne_of_lt (Nat.lt_succ_self _), Nat.ne_of_gt below⟩
  · rintro ⟨h', g2, d', tk', os'⟩ c moved le full
    obtain rfl : g2 = s.gens := moved.gens
    obtain rfl : d' = s.drawn := moved.drawn
    obtain rfl : os' = s.os := moved.os
    refine wpAny_pure (wpAny_pure (h h' tk' c full (many ▸ le) fun b o e => moved.heap b o ?_ (Heap.get?_push_of_some _ (Heap.get?_push_of_some _ e))))
    have old := Heap.lt_size e
    simp only [grown, List.mem_cons, List.not_mem_nil, or_false, not_or]
    exact ⟨Nat.ne_of_lt old, Nat.ne_of_lt (Nat.lt_succ_of_lt old)⟩
/-- set(l), l a list of ints -/
theorem set_list {l : Addr} {items : Array Value} (ns : List Int) {Q : Value → Shared → Prop} (hh : A.handled = none) (hl : s.heap.IsList l items) (hi : IntsAre items.toList ns) (few : ns.length + 1 < scanBound)
    (h : ∀ (h' : Heap) (tk c : Nat), SetR w h' s.heap.objs.size (fun j => decide (j ∈ ns)) c → c ≤ ns.length → (∀ b o, s.heap.get? b = some o → h'.get? b = some o) → Q (.ref s.heap.objs.size) { s with heap := h', toks := tk }) :
    wpAny (model P w) A (call (.type "set") [.ref l]) Q E s := by
  have ⟨c, tl, hmro⟩ := F.called_set.mro
  have hmade := F.called_set.made
  have hsub := F.called_set.sub
  have h1 := F.called_set.notType
  have h2 := F.called_set.canCreate
  have hct := F.typeCall_set_1 (.ref l)
  have isSet : Shared.TypeIs { s with heap := s.heap.push (bareSet w) } (.ref s.heap.objs.size) "set" := ⟨_, Heap.get?_push_size _ rfl, rfl⟩
  have find := F.called_set.init.lookup
  have bind := F.called_set.init.bind (.ref s.heap.objs.size)
  apply wpAny_call
  apply codeAny_of_tree
  show wpAny _ _ (callAny (.type "set") _) _ _ _
  apply wpAny_pure
  refine ⟨Code.quiet_builtin _ (by decide +kernel), codeAny_builtin F.entry_type_call ?_⟩
  rw [Around.under_plain (weight_type_call_type "set" [.ref l] []) rfl]
  repeat (any_goals (first | assumption | wp_step))
  refine codeAny_mono (code_set_led1 (.ref l) (E := E) (Q₁ := fun obj s1 => obj = .ref s.heap.objs.size ∧ s1 = { s with heap := s.heap.push (bareSet w) }) ⟨rfl, rfl⟩) ?_
  intro r s1 z
  match r, z with
  | .error _, z => exact z
  | .ok .next, z => exact z.elim
  | .ok .brk, z => exact z.elim
  | .ok .cont, z => exact z.elim
  | .ok (.ret obj), ⟨e1, e2⟩ =>
    subst e1 e2
    repeat (any_goals (first | assumption | wp_step))
    refine codeAny_mono (fill_list (R := wants (fun r s2 => r = .none ∧ Q (.ref s.heap.objs.size) s2) E) ns hh hl hi few fun h' tk c full le old => ⟨rfl, h h' tk c full le old⟩) ?_
    intro r s2 z
    match r, z with
    | .error _, z => exact z
    | .ok .next, z => exact z.elim
    | .ok .brk, z => exact z.elim
    | .ok .cont, z => exact z.elim
    | .ok (.ret _), ⟨e, z⟩ =>
      subst e
      repeat (any_goals (first | assumption | wp_step))
end
end Sea

set_option Elab.async false
set_option linter.all false
set_option maxRecDepth 100000
set_option maxHeartbeats 4000000
/-! set(list of ints), sorted(tuple of ints), t[::-1] -/
namespace Sea
open PySem PySem.Spec PyProof.Rows L2
/-- sorted(t), t a tuple of ints -/
theorem sorted_tuple {P : Program} {w : World} {A : Around} {E : Value → Shared → Prop} {s : Shared} {t : Addr} {vs : List Value} (ns : List Int) {Q : Value → Shared → Prop} (ht : IsTup s.heap t vs.toArray) (hi : IntsAre vs ns) (few : vs.length ≤ 1000)
    (h : ∀ (h1 h' : Heap) (out : Array Value) (c : Nat) (ns' : List Int), (∀ b o, s.heap.get? b = some o → h1.get? b = some o) → (∀ b o, h1.get? b = some o → h'.get? b = some o) → h'.get? h1.objs.size = some (seqObj "list" out c) → IntsAre out.toList ns' → ns'.Perm ns → ns'.Pairwise (· ≤ ·) → Q (.ref h1.objs.size) { s with heap := h' }) :
    wpAny (model P w) A (call (.builtin "sorted") [.ref t]) Q E s := by
  have line : vs.length ≤ sizeLine := by rw [sizeLine_eq]; omega
  obtain ⟨o, at_, oc, n, od⟩ := id ht
  apply Calls.call_function_entry kind_sorted plain_sorted entry_sorted (args_sorted1 _)
  unfold Builtin.«sorted»
  refine wpAny_bind (m := checkCount "sorted" 1 1 _) (wpAny_pure (wpAny_bind (wpAny_collect_seq t (.inr rfl) at_ oc od (fun h1 old => ?_) (by rwa [List.size_toArray]))))
  rw [List.toList_toArray]
  refine wpAny_bind (wpAny_newList ?_ line)
  have made : (h1.push (seqObj "list" vs.toArray 0)).get? h1.objs.size = some (seqObj "list" vs.toArray 0) := Heap.get?_push_size _ rfl
  refine wpAny_bind (wpAny_holding (wpAny_call_entry slot_list_sort ⟨_, made, rfl⟩ entry_list_sort (list_sort_treeAny made hi line fun out ns' a b c => ⟨_, rfl, ?_⟩) (args_list_sort _)))
  obtain ⟨c', there⟩ := sortedHeap_at (vs := vs) (out := out) made
  refine wpAny_pure ⟨_, rfl, h h1 _ out c' ns' old (fun b o e => ?_) there a b c⟩
  have lt := Heap.lt_size e
  exact (sortedHeap_old (Nat.ne_of_lt lt) (by rw [size_push']; exact Nat.lt_succ_of_lt lt)).trans (Heap.get?_push_of_some _ e)
section
variable {X : Cx}
def rSortedT (K : PySem.W.Frag) : List V → Hp → VK → Prop := fun vs H Q => ∃ (a : Addr) (ns : List Int), vs = [.ref a] ∧ SqT K H a (ns.map V.int) ∧ ns.length ≤ 1000 ∧ ∀ (ns' : List Int) (p : Addr), ns'.Perm ns → ns'.Pairwise (· ≤ ·) → H p = none → Q (.ref p) (upd H p (.lst (ns'.map V.int)))
theorem cr_sortedT : CallR X (.builtin "sorted") (rSortedT X.K) := by
  rintro pins s σ H _ us Q I r ⟨a, ns, rfl, ht, few, q⟩
  obtain ⟨its, rv, pt, _⟩ := I.tuple ht
  rw [Vals.ref1 r]
  have many : its.length = ns.length := by rw [← rv.length, List.length_map]
  refine sorted_tuple ns pt rv.ints (by omega) ?_
  intro h1 h' out c ns' old new there whole perm rising
  have J : Inv X pins σ H { s with heap := h1, toks := s.toks } := I.kept (t' := s.toks) old
  have fits : (ns'.map V.int).length ≤ sizeLine := by rw [List.length_map, perm.length_eq, sizeLine_eq]; omega
  exact ⟨.ref h1.objs.size, _, J.laid (t' := s.toks) (o := .lst (ns'.map V.int)) new (Nat.le_refl _) ⟨fits, out.toList, c, vals_of_ints whole, there⟩, rfl, q ns' _ perm rising (J.hok.fresh (Nat.le_refl _))⟩
def rSetL (K : PySem.W.Frag) (w : World) : List V → Hp → VK → Prop := fun xs H Q => ∃ (p : Addr) (ns : List Int), xs = [.ref p] ∧ SqL K H p (ns.map V.int) ∧ ns.length ≤ 1000 ∧ ∀ (a : Addr) (c : Nat), H a = none → c ≤ ns.length → Q (.ref a) (upd H a (SetO w a (fun j => decide (j ∈ ns)) c))
theorem cr_setL (calm : X.calm = true) : CallR X (.type "set") (rSetL X.K X.w) := by
  rintro pins s σ H _ us Q I r ⟨p, ns, rfl, hl, few, q⟩
  obtain ⟨its, rv, there, _⟩ := I.list hl
  rw [Vals.ref1 r]
  refine set_list (items := its.toArray) ns (I.ok.hd calm) there.isList (by simpa using rv.ints) (by unfold scanBound; omega) ?_
  intro h' tk c full le old
  exact ⟨.ref s.heap.objs.size, _, I.laid (t' := tk) (a := s.heap.objs.size) old (Nat.le_refl _) (setO_new full), rfl, q _ c (I.hok.fresh (Nat.le_refl _)) le⟩
/-! ### t[::-1] -/
theorem back_pick (xs : Array Value) : ((List.range xs.size).filterMap fun (k : Nat) => xs[(((xs.size : Int) - 1) + (k : Int) * (-1)).toNat]?) = xs.toList.reverse := by
  have each : ∀ k ∈ List.range xs.size, xs[(((xs.size : Int) - 1) + (k : Int) * (-1)).toNat]? = some (xs.toList.reverse.getD k .none) := by
    intro k hk
    have lt : k < xs.size := List.mem_range.mp hk
    have e : (((xs.size : Int) - 1) + (k : Int) * (-1)).toNat = xs.size - 1 - k := by omega
    rw [e, List.getD_eq_getElem?_getD, List.getElem?_reverse (by simpa using lt)]
    simp only [Array.length_toList, Array.getElem?_toList]
    rw [Array.getElem?_eq_getElem (by omega)]
    rfl
  have go : ∀ (l : List Nat) (f : Nat → Option Value) (g : Nat → Value), (∀ k ∈ l, f k = some (g k)) → l.filterMap f = l.map g := by
    intro l f g
    induction l with
    | nil => exact fun _ => rfl
    | cons k l ih =>
      intro hk
      rw [List.filterMap_cons, hk k List.mem_cons_self, List.map_cons, ih fun j hj => hk j (List.mem_cons_of_mem _ hj)]
  rw [go _ _ _ each]
  refine List.ext_getElem (by simp) fun i h1 h2 => ?_
  rw [List.getElem_map, List.getElem_range, List.getD_eq_getElem?_getD, List.getElem?_eq_getElem h2]
  rfl
theorem getItem_back {P : Program} {w : World} {A : Around} {E : Value → Shared → Prop} {s : Shared} {t sl : Addr} {items : Array Value} {u : Tok} {Q : Value → Shared → Prop} (ht : IsTup s.heap t items) (hs : s.heap.IsSliceOf sl .none .none (.int (-1) u)) (fits : items.size ≤ sizeLine)
    (h : Q (.ref s.heap.objs.size) { s with heap := s.heap.push { cls := .type "tuple", data := .seq items.toList.reverse.toArray } }) : wpAny (model P w) A (getItem (.ref t) (.ref sl)) Q E s := by
  have ⟨os, at_, oc, od⟩ := hs
  have isSl : s.TypeIs (.ref sl) "slice" := ⟨os, at_, oc⟩
  unfold getItem
  refine wpAny_holding (wpAny_bind (wpAny_sequenceKey ht.typeIs (by decide) ?_))
  refine wpAny_bind (wpAny_callSpecial?_slot (name := Str.ofString "__getitem__") ht.typeIs slot_tuple_getitem (wpAny_call_entry slot_tuple_getitem ht.typeIs PyProof.Rows.entry_tuple_getitem ?_ (PyProof.Rows.args_tuple_getitem _ _)))
  show wpAny _ _ (Builtin.Tuple.tupleItemsOf (.ref t) >>= _) _ _ s
  refine wpAny_bind (tupleItemsOf_ ht (wpAny_bind (wpAny_typeOf isSl ?_)))
  rw [if_pos (by decide)]
  have part : ∀ {A : Around} {E : Value → Shared → Prop} {Q : Option Int → Shared → Prop}, Q (some (-1)) s → wpAny (model P w) A (Builtin.Slice.slicePartIndex (.int (-1) u)) Q E s := fun q => slicePart_int q
  unfold Builtin.Slice.sliceApplied Builtin.Slice.sliceFields
  refine wpAny_bind (wpAny_bind (wpAny_bind (wpAny_field at_ od (x := .none) rfl (wpAny_bind (wpAny_field at_ od (x := .none) rfl (wpAny_bind (wpAny_field at_ od (x := .int (-1) u) rfl (wpAny_pure ?_))))))))
  refine wpAny_bind (part (show wpAny _ _ (if ((-1 : Int) == 0) = true then _ else _) _ _ s from ?_))
  rw [if_neg (by decide)]
  have nope : ∀ {A : Around} {E : Value → Shared → Prop} {Q : Option Int → Shared → Prop}, Q none s → wpAny (model P w) A (Builtin.Slice.slicePartIndex .none) Q E s := fun q => slicePart_none q
  have places : Builtin.Slice.slicePlaces ((items.size : Int) - 1) (-1) (-1) = items.size := by
    unfold Builtin.Slice.slicePlaces
    rw [if_neg (by decide)]
    rw [show (-(-1) : Int) = 1 by decide, Int.ediv_one]
    split <;> omega
  refine wpAny_bind (nope (wpAny_bind (nope (wpAny_bind (wpAny_pure ?_)))))
  show wpAny _ _ (pure (((items.size : Int) - 1), (-1 : Int), Builtin.Slice.slicePlaces ((items.size : Int) - 1) (-1) (-1))) _ _ s
  rw [places]
  refine wpAny_pure ?_
  have notAll : ¬ (((((items.size : Int) - 1) == 0) && ((-1 : Int) == 1) && (items.size == items.size)) = true) := by simp
  dsimp only
  rw [if_neg notAll, back_pick]
  have size : items.toList.reverse.toArray.size ≤ sizeLine := by simpa using fits
  exact wpAny_bind (m := Builtin.Tuple.tupleExact _) (wpAny_newObj_type (wpAny_pure ⟨_, rfl, wpAny_pure h⟩) size)
/-- t[::-1] -/
def tRevT (K : PySem.W.Frag) (te : TE) : TE := fun σ H Q => te σ H fun x H1 => ∃ a xs, x = .ref a ∧ SqT K H1 a xs ∧ ∀ p, H1 p = none → Q (.ref p) (upd H1 p (.tup xs.reverse))
theorem pe_revT {e : Expr} {te : TE} {k : Nat} {p1 p2 p3 pos : Pos} (he : PE X e te) : PE X (.Subscript e (.Slice none none (some (.UnaryOp .USub (.Constant (.int 1) k p1) p2)) p3) pos) (tRevT X.K te) := by
  constructor
  intro pins s σ H Q I h
  have step : PO X (some (.UnaryOp .USub (.Constant (.int 1) k p1) p2)) (tPart (tUn (rU fun i => .int (-i)) (tC (.int 1)))) := po_some (pe_un un_neg pe_int)
  refine Subscript_ (thn (he.run pins s σ H _ I h) ?_)
  rintro v s1 ⟨x, H1, I1, r1, a, xs, rfl, hx, q⟩
  obtain rfl : v = .ref a := r1
  apply wpAny_Slice
  refine thn (po_none.run pins s1 σ H1 (fun o H2 => (o, H2) = (none, H1)) I1 rfl) ?_
  rintro vl s2 ⟨_, _, I2, pl, e⟩
  cases e
  refine thn (po_none.run pins s2 σ H1 (fun o H2 => (o, H2) = (none, H1)) I2 rfl) ?_
  rintro vu s3 ⟨_, _, I3, pu, e⟩
  cases e
  refine thn (step.run pins s3 σ H1 (fun o H2 => (o, H2) = (some (-1), H1)) I3 ⟨1, rfl, -1, rfl, rfl⟩) ?_
  rintro vs s4 ⟨_, _, I4, ps, e⟩
  cases e
  cases pl
  cases pu
  cases ps
  rename_i u
  have I5 : Inv X pins σ H1 { s4 with heap := s4.heap.push { cls := .type "slice", data := .fields #[.none, .none, .int (-1) u] } } := I4.kept (t' := s4.toks) fun _ _ z => Heap.get?_push_of_some _ z
  obtain ⟨its, r, ht, hz⟩ := I5.tuple hx
  have many : its.toArray.size ≤ sizeLine := by rw [List.size_toArray, ← r.length]; exact hz
  refine tail_any (ops := [.ref a, .ref s4.heap.objs.size]) ht.typeIs slot_tuple_getitem.lookup ?_ (by with_unfolding_all rfl)
  refine getItem_back ht (Heap.IsSliceOf.new _ _ _ _) many ?_
  exact ⟨.ref _, _, I5.laid (t' := s4.toks) (o := .tup xs.reverse) (fun _ _ z => Heap.get?_push_of_some _ z) (Nat.le_refl _) ⟨by rw [List.length_reverse]; exact hz, _, r.reverse, (show IsTup _ _ _ from ⟨_, Heap.get?_push_size _ rfl, rfl, 0, rfl⟩)⟩, rfl, q _ (I5.hok.fresh (Nat.le_refl _))⟩
end
end Sea

set_option Elab.async false
set_option linter.all false
set_option maxRecDepth 100000
set_option maxHeartbeats 4000000
/-! expressions that give tuples and lists of ints -/
namespace Sea
open PySem PySem.Spec PyProof.Rows L2 LamX NdefX ClX Evl StX
def LiA (K : PySem.W.Frag) (H : Hp) (v : V) (ns : List Int) : Prop := ∃ a, v = .ref a ∧ SqL K H a (ns.map V.int)
def rTupO (K : PySem.W.Frag) : List V → Hp → VK → Prop := fun xs H Q => ∃ p ys, xs = [V.ref p] ∧ ((SqL K H p ys ∧ ∀ l, H l = none → Q (.ref l) (upd H l (.tup ys))) ∨ (SqT K H p ys ∧ Q (.ref p) H))
section
variable {K : PySem.W.Frag} {w : World} {σ : L2.St} {H : Hp} {ta tb te tx : TE} {ns ms : List Int}
theorem ei_var {i : Nat} {v : V} (hs : σ[i]? = some (some v)) (h : TiA K H v ns) : EvD (tVar i) σ H fun v H => TiA K H v ns := fun H1 e Q q => ⟨v, hs, q v H1 (Ex.refl _) (h.tk (.same e))⟩
theorem ei_ev {v : V} (h : Ev te σ H v) (hv : TiA K H v ns) : EvD te σ H fun v H => TiA K H v ns := ed_of h fun _ e => hv.tk (.same e)
theorem ei_cat (h1 : EvD ta σ H fun v H => TiA K H v ns) (h2 : EvD tb σ H fun v H => TiA K H v ms) (few : ns.length + ms.length ≤ 1000) : EvD (tOp (rCatA K) ta tb) σ H fun v H => TiA K H v (ns ++ ms) := by
  intro H1 e Q q
  refine h1 H1 e _ fun v H2 e2 hv => h2 H2 (e.trans e2) _ fun u H3 e3 hu => ?_
  obtain ⟨a, rfl, ha⟩ := hv.tk (.same e3)
  obtain ⟨b, rfl, hb⟩ := hu
  have e13 := e2.trans e3
  refine ⟨a, b, _, _, rfl, rfl, ha, hb, Nat.le_of_lt (small1000 (by rw [List.length_map, List.length_map]; exact few)), fun z => q _ _ e13 ⟨b, rfl, ?_⟩, fun _ z => q _ _ e13 ⟨a, rfl, ?_⟩, fun _ _ p np => q _ _ (e13.trans (Ex.new np)) ⟨p, rfl, .of (by rw [upd_same, List.map_append])⟩⟩
  · rw [List.map_append, z]
    exact hb
  · rw [List.map_append, z, List.append_nil]
    exact ha
theorem ei_one {x : Int} (h : Ev tx σ H (.int x)) : EvD (tTup (tCons tx tNil)) σ H fun v H => TiA K H v [x] := fun H1 e Q q =>
  h H1 e _ fun H2 e2 => ⟨Nat.le_of_lt (small1000 (show 1 ≤ 1000 by decide)), fun p np => q _ _ (e2.trans (Ex.new np)) ⟨p, rfl, .of upd_same⟩⟩
theorem ei_tupL (h : EvD te σ H fun v H => LiA K H v ns) : EvD (tCB (rTupO K) (tCons te tNil)) σ H fun v H => TiA K H v ns := by
  intro H1 e Q q
  refine h H1 e _ fun v H2 e2 hv => ?_
  obtain ⟨a, rfl, ha⟩ := hv
  exact ⟨a, _, rfl, .inl ⟨ha, fun l nl => q _ _ (e2.trans (Ex.new nl)) ⟨l, rfl, .of upd_same⟩⟩⟩
theorem ei_lst (h : EvL te σ H (ns.map V.int)) : EvD te σ H fun v H => LiA K H v ns := fun H1 e Q q => h H1 e _ fun p H2 np e2 hp => q _ _ e2 ⟨p, rfl, .of hp⟩
theorem ei_sortT (h : EvD te σ H fun v H => TiA K H v ns) (few : ns.length ≤ 1000) : EvD (tCB (rSortedT K) (tCons te tNil)) σ H fun v H => ∃ ms : List Int, ms.Perm ns ∧ ms.Pairwise (· ≤ ·) ∧ LiA K H v ms := by
  intro H1 e Q q
  refine h H1 e _ fun v H2 e2 hv => ?_
  obtain ⟨a, rfl, ha⟩ := hv
  exact ⟨a, ns, rfl, ha, few, fun ms p perm rising np => q _ _ (e2.trans (Ex.new np)) ⟨ms, perm, rising, p, rfl, .of upd_same⟩⟩
theorem ei_sortL (h : EvD te σ H fun v H => LiA K H v ns) : EvD (tCB (rSortedI K) (tCons te tNil)) σ H fun v H => ∃ ms : List Int, ms.Perm ns ∧ ms.Pairwise (· ≤ ·) ∧ LiA K H v ms := by
  intro H1 e Q q
  refine h H1 e _ fun v H2 e2 hv => ?_
  obtain ⟨a, rfl, ha⟩ := hv
  exact ⟨a, ns, rfl, ha, fun ms p perm rising np => q _ _ (e2.trans (Ex.new np)) ⟨ms, perm, rising, p, rfl, .of upd_same⟩⟩
/-- sorted(set(l)) -/
theorem ei_uniq (h : EvD te σ H fun v H => LiA K H v ns) (few : ns.length < 64) : EvD (tCB (rSortedSet w) (tCons (tCB (rSetL K w) (tCons te tNil)) tNil)) σ H fun v H => ∃ ms : List Int, ms.Pairwise (· < ·) ∧ (∀ k, k ∈ ms ↔ k ∈ ns) ∧ ms.length ≤ ns.length ∧ LiA K H v ms := by
  intro H1 e Q q
  refine h H1 e _ fun v H2 e2 hv => ?_
  obtain ⟨a, rfl, ha⟩ := hv
  refine ⟨a, ns, rfl, ha, by omega, fun s c ns' le => ⟨s, _, c, rfl, upd_same, by omega, fun ms p rising mem len np => ?_⟩⟩
  exact q _ _ ((e2.trans (Ex.new ns')).trans (Ex.new np)) ⟨ms, rising, fun k => by rw [mem k, decide_eq_true_eq], by omega, p, rfl, .of upd_same⟩
theorem ei_imp {P P' : V → Hp → Prop} (h : EvD te σ H P) (i : ∀ v H, P v H → P' v H) : EvD te σ H P' := fun H1 e Q q => h H1 e Q fun v H2 e2 p => q v H2 e2 (i v H2 p)
/-- tuple(e), e a list of ints of which something holds -/
theorem ei_tupP {R : List Int → Prop} (h : EvD te σ H fun v H => ∃ ms, R ms ∧ LiA K H v ms) : EvD (tCB (rTupO K) (tCons te tNil)) σ H fun v H => ∃ ms, R ms ∧ TiA K H v ms := by
  intro H1 e Q q
  refine h H1 e _ fun v H2 e2 hv => ?_
  obtain ⟨ms, r, a, rfl, ha⟩ := hv
  exact ⟨a, _, rfl, .inl ⟨ha, fun l nl => q _ _ (e2.trans (Ex.new nl)) ⟨ms, r, l, rfl, .of upd_same⟩⟩⟩
theorem ei_lenT (h : EvD te σ H fun v H => TiA K H v ns) : Ev (tCB (fun xs H Q => ∃ p ys, xs = [V.ref p] ∧ (SqL K H p ys ∨ SqT K H p ys) ∧ Q (.int ys.length) H) (tCons te tNil)) σ H (.int (ns.length : Nat)) := by
  intro H1 e Q q
  refine h H1 e _ fun v H2 e2 hv => ?_
  obtain ⟨a, rfl, ha⟩ := hv
  have z := q H2 e2
  rw [← List.length_map (f := V.int)] at z
  exact ⟨a, _, rfl, .inr ha, z⟩
end
end Sea

set_option Elab.async false
set_option linter.all false
set_option maxRecDepth 100000
set_option maxHeartbeats 4000000
namespace Sea
open PySem PySem.Spec PyProof.Rows L2 LamX NdefX ClX Evl StX
abbrev sWx : Stmt := inClass (top 19) 8
theorem scWx : FnScope ["self", "day", "changed", "other"] ["self", "day"] (defScope sWx) := ⟨rfl, rfl, rfl, by decide +kernel, rfl, by decide +kernel, by decide +kernel⟩
theorem kb_tvI {K : PySem.W.Frag} {f : Addr} {fd : FuncData} (F : Fun K "__init__" "Travel.__init__" sTvI f fd) : KBn K fd ["self", "length", "days", "exceptions"] 3 ["exceptions"] (fun us ws => us ++ ws) (fun vs zs => vs ++ zs) := by
  obtain ⟨oc, od, kV, doc, pm, an, cdv, ct, osl, rfl, lk, hcd⟩ := F.ex
  refine ⟨fun s us ws _ h1 h2 => ?_, fun a b => a.append b⟩
  match us, ws, h1, h2 with
  | [u, v, x], [y], _, _ => exact .of_eq rfl
/-- a travel is made -/
theorem tv_new {K : PySem.W.Frag} {C cV : Addr} {H : Hp} {Q : VK} {E : XK} {ln : Int} {d o : V} {ds os : List Int} {x dx : Addr} (hd : TiA K H d ds) (ho : TiA K H o os) (ld : ds.length ≤ 1000) (lo : os.length ≤ 1000) (hb : tbad ln ds os = none) (nx : H x = none) (ndx : H dx = none)
    (q : ∀ H', Same H H' → Tv K C H' x ln d o ds os → Q .non H') : spTvI K C cV [V.ref x, .int ln, d, o] (upd (upd H dx (.own x)) x (.ins C dx [])) Q E := by
  have s0 : Same H (upd (upd H dx (.own x)) x (.ins C dx [])) := fun b u e => by
    rw [upd_ne (ne_of_none e nx), upd_ne (ne_of_none e ndx)]
    exact e
  refine ⟨x, dx, ln, d, o, ds, os, rfl, upd_same, hd.tk (.same s0), ho.tk (.same s0), ld, lo, fun _ H' keep at_ => ?_, fun pt i dd H' e => ?_⟩
  · have sm : Same H H' := fun b u e => keep b u (s0 b u e) (ne_of_none e nx)
    exact q H' sm ⟨⟨dx, at_⟩, hd.tk (.same sm), ho.tk (.same sm)⟩
  · rw [hb] at e
    cases e
theorem tbad_ok {ln : Int} {ds os : List Int} (l1 : 1 ≤ ln) (l2 : ln ≤ 14) (g : Good ds (ln - 1)) (n : (ds.length : Int) ≤ ln) (h : Good os 1000000000000000000) (m : os.length ≤ 6) : tbad ln ds os = none := by
  unfold tbad
  rw [if_pos ⟨l1, l2⟩, vbad_good g (by omega), vbad_good h (by omega)]
theorem good_nil {l : Int} : Good [] l := fun j hj => absurd hj (Nat.not_lt_zero _)
theorem good_nine : Good [9] 1000000000000000000 := fun j hj => by
  match j, hj with
  | 0, _ => exact ⟨by decide, by decide, fun h => absurd h (Nat.lt_irrefl _)⟩
/-- with_exception(9) of a travel without exceptions -/
def spWx (K : PySem.W.Frag) (C : Addr) : Sp := fun vs H Q _ => ∃ (a : Addr) (ln : Int) (d o : V) (ds : List Int), vs = [.ref a, .int 9] ∧ Tv K C H a ln d o ds [] ∧ 1 ≤ ln ∧ ln ≤ 14 ∧ Good ds (ln - 1) ∧ (ds.length : Int) ≤ ln ∧
  ∀ a' o' H', Same H H' → Tv K C H' a' ln d o' ds [9] → Q (.ref a') H'
section
variable {P : Program} {w : World} {K : PySem.W.Frag} {mg : Str → Option Value} {base : Heap} {cV cN cP fV C fVN fVC fT : Addr} {fdV dVN dVC dT : FuncData} {mp : Value}
theorem ok_wx {f : Addr} {fd : FuncData} (F : Fun K "with_exception" "Travel.with_exception" sWx f fd) (T : TEv K mg cV cP fV fdV mp) (W : TTv K mg C fVN dVN) (NC : TNc K mg cN) (gVC : mg "validate_count" = some (.ref fVC)) (kVC : PySem.W.keepIn K (.ref fVC) = true) (uVC : Fun K "validate_count" "validate_count" sVC fVC dVC)
    (mT : mg "tuple" = none) (mS : mg "sorted" = none) (mN : mg "len" = none) (MK : Mk K C fT) (I : Fun K "__init__" "Travel.__init__" sTvI fT dT) :
    FnOk P w K mg base (L2.CX P w) 7 f fd ["self", "day"] (spWx K C) := by
  have GI : FnOk P w K mg base CX0 1 fV fdV ["self", "part", "index"] (spX2 K "part" "index") := ok_IV T
  have kb := kb_IV T
  have bVC : Binds K dVC ["count", "smallest", "largest"] [] := uVC.binds (ps := ["count", "smallest", "largest"]) fun _ _ _ _ _ _ us hl => match us, hl with | [_, _, _], _ => rfl
  refine F.okX scWx (fun vs H Q E h => ?_) (fun cdv A outer s H vs Q E hr h => ?_)
  · obtain ⟨a, ln, d, o, ds, rfl, _⟩ := h
    rfl
  · obtain ⟨a, ln, d, o, ds, rfl, ht, l1, l2, gd, nd, q1⟩ := h
    have PX : Passes (L2.CX P w) (cxOf (L2.CX P w) P w K mg base ["self", "day", "changed", "other"] "Travel.with_exception" (defScope sWx) f cdv A outer s H E) E := passes_call (takes_of rfl rfl rfl rfl) (fun _ _ _ _ h => h)
    refine ⟨_, pss_cons (ps_expr (pe_call (E := E) (ok_vc (k := 0) uVC NC) (hr.mono (by omega)) (by rfl) gVC kVC bVC .nil PX (pa_cons (pv 1) (pa_cons pe_int (pa_cons (C8.pe_gc (by rfl) W.mD) pa_nil)))))
      (pss_cut (ps_if (pt_cmpR op_in_seq (pv 1) (pe_fld (pv 0) rfl) (by rfl))
          (pss_one (ps_set (i := 2) scWx.nd rfl (.inl rfl) (pe_callTy call_tuple_of (by rfl) mT (by rfl) (pa_cons (pe_lc (own := [("other", 3)]) (g := gName 3) (by rfl) scWx.nd (pi_tup (pe_fld (pv 0) rfl)) (blkOk_by (own := [("other", 3)]) (N := ["self", "day", "changed", "other"]) (sc := defScope sWx) (by decide +kernel))
            (fun _ _ _ _ _ => pg_name (i := 3) scWx.nd rfl (Or.inl rfl)) (fun _ _ _ _ _ => pts_one (pt_cmpR op_ne (pv 3) (pv 1) (nomark _))) (fun _ _ _ _ _ => pv 3)) pa_nil))))
          (pss_one (ps_set (i := 2) scWx.nd rfl (.inl rfl) (pe_callTy call_tuple_of (by rfl) mT (by rfl) (pa_cons (pe_callB cr_sortedT (by rfl) mS (by decide +kernel) (pa_cons (pe_op op_catA (pe_fld (pv 0) rfl) (pe_tup (pa_cons (pv 1) pa_nil))) pa_nil)) pa_nil)))))
      (pss_cons (ps_if (pt_cmpR op_gt (pe_callB call_len_seq (by rfl) mN PySem.boot_len (pa_cons (pv 2) pa_nil)) (C8.pe_gc (by rfl) W.mX) (nomark _)) (pss_one (ps_raise rfl (takes_of rfl rfl rfl rfl) (pmk_kw T.xV T.iV T.tV GI (hr.mono (by omega)) kb pass0 (by rfl) T.gV (pk_cons pe_str (pk_cons (C8.pe_gc (by rfl) W.mX) pk_nil))))) pss_nil)
      (pss_one (ps_ret (pe_makeK (E := E) MK (ok_tvI I T W) hr (by rfl) W.gC (kb_tvI I) PX (pa_cons (pe_fld (pv 0) rfl) (pa_cons (pe_fld (pv 0) rfl) pa_nil)) (pk_cons (pv 2) pk_nil)))))), ?_⟩
    refine ⟨_, rfl, 9, 0, 1000000000000000000, rfl, fun _ H1 s1 => ?_, fun nb H1 s1 => absurd (by decide) nb⟩
    have t1 := ht.same s1
    obtain ⟨⟨dx, ha⟩, hdd, po, rfl, ho⟩ := id t1
    have ev_odd : ∀ {σ : L2.St} {H2 : Hp}, Same H1 H2 → σ[0]? = some (some (.ref a)) → Ev (tFld K (tVar 0) "odd_days") σ H2 (.ref po) := fun {σ H2} s2 hs H3 e Q q => ⟨.ref a, hs, a, C, dx, _, _, rfl, e _ _ (s2 _ _ ha), W.cl, W.nO, tvF_odd .., q H3 (Ex.refl _)⟩
    refine ⟨fun σ H' => ∃ v : V, σ = ([some (.ref a), some (.int 9), some v, none] : L2.St) ∧ TiA K H' v [9] ∧ Same H1 H', ?_, ?_⟩
    · refine s_if (b := inV (.int 9) (([] : List Int).map V.int)) (et_test (ev_op (ev_var rfl) (ev_odd (Same.refl _) rfl) (rv_isT ho rfl (flat_ints [])))) (fun hin H2 e2 => by cases hin) (fun hno H2 e2 => ?_)
      have ho2 : TiA K H2 (.ref po) [] := ⟨po, rfl, ex_t e2 ho⟩
      have eS := ei_tupP (R := fun ms => ms.Perm ([] ++ [9]) ∧ ms.Pairwise (· ≤ ·)) (ei_imp (ei_sortT (K := K) (ei_cat (σ := ([some (.ref a), some (.int 9), none, none] : L2.St)) (ta := tFld K (tVar 0) "odd_days") (tb := tTup (tCons (tVar 1) tNil)) (ei_ev (ev_odd e2 rfl) ho2) (ei_one (x := 9) (ev_var rfl)) (show 0 + 1 ≤ 1000 by decide)) (show 1 ≤ 1000 by decide)) fun v H ⟨ms, p1, p2, p3⟩ => ⟨ms, ⟨p1, p2⟩, p3⟩)
      refine eS H2 (Ex.refl _) _ fun v H3 e3 ⟨ms, ⟨perm, rising⟩, hv⟩ => ⟨v, rfl, ?_, Same.trans e2 e3⟩
      rw [show ms = [9] from List.perm_singleton.mp perm] at hv
      exact hv
    rintro σ H2 ⟨v, rfl, hv, s2⟩
    refine q_when (b := decide (((([9] : List Int).length : Nat) : Int) > 6)) (et_test (ev_op (ei_lenT (ei_var rfl hv)) ev_c rv_I0)) (fun hm H3 e3 => absurd hm (by decide)) (fun hm H3 e3 => ?_)
    have t3 := (t1.same s2).same e3
    obtain ⟨dx3, ha3⟩ := t3.1
    refine ⟨_, rfl, a, C, dx3, _, _, rfl, ha3, W.cl, W.nS, tvF_size _ _ _, _, rfl, a, C, dx3, _, _, rfl, ha3, W.cl, W.nP, tvF_pat _ _ _, _, rfl, rfl, rfl, fun x dx nx ndx _ => ?_⟩
    exact tv_new t3.2.1 (hv.tk (.same e3)) (by omega) (show 1 ≤ 1000 by decide) (tbad_ok l1 l2 gd nd good_nine (show 1 ≤ 6 by decide)) nx ndx fun H' sm tv => ⟨rfl, q1 x v H' (Same.trans (Same.trans (Same.trans s1 s2) e3) sm) tv⟩
end
end Sea

set_option Elab.async false
set_option linter.all false
set_option maxRecDepth 100000
set_option maxHeartbeats 4000000
namespace Sea
open PySem PySem.Spec PyProof.Rows L2 LamX NdefX ClX Evl StX
abbrev sLe : Stmt := top 35
abbrev sLaw : Stmt := top 36
/-- all that the law leans on -/
structure Gd (P : Program) (K : PySem.W.Frag) (mg : Str → Option Value) where
  C : Addr
  CV : Addr
  D : Addr
  S : Addr
  cP : Addr
  cI : Addr
  cV : Addr
  cU : Addr
  cN : Addr
  fI : Addr
  fV : Addr
  fT : Addr
  fTv : Addr
  fVN : Addr
  fVP : Addr
  fVC : Addr
  fP : Addr
  pP : Addr
  fL : Addr
  pL : Addr
  fR : Addr
  pR : Addr
  fRl : Addr
  pRl : Addr
  fRd : Addr
  pRd : Addr
  fEx : Addr
  pEx : Addr
  fWx : Addr
  fBt : Addr
  pBt : Addr
  fBb : Addr
  fBc : Addr
  fBg : Addr
  fSI : Addr
  fFr : Addr
  fCd : Addr
  fSr : Addr
  fSw : Addr
  cc : Addr
  cda : Addr
  fBy : Addr
  fBl : Addr
  fSt : Addr
  fD : Addr
  fOu : Addr
  fPas : Addr
  fTar : Addr
  fDay : Addr
  fLe : Addr
  eT : Addr
  Pt : Addr
  mc : Value
  mp : Value
  md : Value
  dI : FuncData
  dV : FuncData
  dT : FuncData
  dTv : FuncData
  dVN : FuncData
  dVP : FuncData
  dVC : FuncData
  dP : FuncData
  dL : FuncData
  dR : FuncData
  dRl : FuncData
  dRd : FuncData
  dEx : FuncData
  dWx : FuncData
  dBt : FuncData
  dBb : FuncData
  dBc : FuncData
  dBg : FuncData
  dSI : FuncData
  dFr : FuncData
  dCd : FuncData
  dSr : FuncData
  dSw : FuncData
  dBy : FuncData
  dBl : FuncData
  dSt : FuncData
  dD : FuncData
  dOu : FuncData
  dPas : FuncData
  dTar : FuncData
  dDay : FuncData
  dLe : FuncData
  X : TX K mg C cI cU cP fI mc mp
  I : TMk K C fI fT dI dT
  Q : TP K C fP pP dP
  LP : TLp K C fL pL fR pR dL dR
  EV : TEv K mg cV cP fV dV mp
  W : TTv K mg CV fVN dVN
  mkV : Mk K CV fTv
  uTv : Fun K "__init__" "Travel.__init__" sTvI fTv dTv
  kTv : FunD K "__init__" "Travel.__init__" (defArgs sTvI) (defBody sTvI) (defScope sTvI) [] [("exceptions", V.ref eT)] fTv dTv
  eTv : ∃ (o : Obj) (n : Nat), K.lookup eT = some o ∧ o.cls = .type "tuple" ∧ o.data = .seq #[] n
  R : TPr K CV fRl pRl fRd pRd fEx pEx dRl dRd dEx
  mWx : Meth K CV "with_exception" fWx
  uWx : Fun K "with_exception" "Travel.with_exception" sWx fWx dWx
  DN : TDn K mg fD dD
  BY : TBy K mg D md fVP fVC dVP dVC cN
  BG : TBg K C D fBt pBt fBb fBc fBg dBt dBb dBc dBg
  SP : TSg K mg S
  N : TSr K mg S fSI fFr fCd fSr dSI dFr dCd dSr
  B : TBl P K mg D fSw cc cda fBy dSw dBy
  OU : TOu K mg cV cU
  gBl : mg "best_limit" = some (.ref fBl)
  kBl : PySem.W.keepIn K (.ref fBl) = true
  uBl : Fun K "best_limit" "best_limit" sBl fBl dBl
  gSt : mg "_law_start" = some (.ref fSt)
  kSt : PySem.W.keepIn K (.ref fSt) = true
  uSt : Fun K "_law_start" "_law_start" sStart fSt dSt
  gOu : mg "_law_outcome" = some (.ref fOu)
  kOu : PySem.W.keepIn K (.ref fOu) = true
  uOu : Fun K "_law_outcome" "_law_outcome" sOut fOu dOu
  gPas : mg "_law_passes" = some (.ref fPas)
  kPas : PySem.W.keepIn K (.ref fPas) = true
  uPas : Fun K "_law_passes" "_law_passes" sPas fPas dPas
  gTar : mg "_law_tariff" = some (.ref fTar)
  kTar : PySem.W.keepIn K (.ref fTar) = true
  uTar : Fun K "_law_tariff" "_law_tariff" sTar fTar dTar
  gDay : mg "_law_days" = some (.ref fDay)
  kDay : PySem.W.keepIn K (.ref fDay) = true
  uDay : Fun K "_law_days" "_law_days" sDay fDay dDay
  gLe : mg "_law_less" = some (.ref fLe)
  kLe : PySem.W.keepIn K (.ref fLe) = true
  uLe : Fun K "_law_less" "_law_less" sLe fLe dLe
  m_range : mg "range" = none
  m_tuple : mg "tuple" = none
  m_sorted : mg "sorted" = none
  m_min : mg "min" = none
  m_abs : mg "abs" = none
  m_len : mg "len" = none
section
variable {P : Program} {K : PySem.W.Frag} {mg : Str → Option Value}
theorem Gd.bBl (G : Gd P K mg) : Binds K G.dBl ["tariff", "short", "long", "travel"] [] := G.uBl.binds (ps := ["tariff", "short", "long", "travel"]) fun _ _ _ _ _ _ us hl => match us, hl with | [_, _, _, _], _ => rfl
theorem Gd.bSt (G : Gd P K mg) : Binds K G.dSt ["_law_script"] [] := G.uSt.binds (ps := ["_law_script"]) fun _ _ _ _ _ _ us hl => match us, hl with | [_], _ => rfl
theorem Gd.bPas (G : Gd P K mg) : Binds K G.dPas ["_law_state", "_law_most"] [] := G.uPas.binds (ps := ["_law_state", "_law_most"]) fun _ _ _ _ _ _ us hl => match us, hl with | [_, _], _ => rfl
theorem Gd.bTar (G : Gd P K mg) : Binds K G.dTar ["_law_passes_here"] [] := G.uTar.binds (ps := ["_law_passes_here"]) fun _ _ _ _ _ _ us hl => match us, hl with | [_], _ => rfl
theorem Gd.bDay (G : Gd P K mg) : Binds K G.dDay ["_law_state"] [] := G.uDay.binds (ps := ["_law_state"]) fun _ _ _ _ _ _ us hl => match us, hl with | [_], _ => rfl
theorem Gd.bLe (G : Gd P K mg) : Binds K G.dLe ["_law_one", "_law_other"] [] := G.uLe.binds (ps := ["_law_one", "_law_other"]) fun _ _ _ _ _ _ us hl => match us, hl with | [_, _], _ => rfl
end
section
variable {P : Program} {w : World} {K : PySem.W.Frag} {mg : Str → Option Value} {base : Heap}
/-- Travel(a, b): the exceptions lack -/
theorem Gd.bTv0 (G : Gd P K mg) : ∃ ds, Vals [V.ref G.eT] ds ∧ Binds K G.dTv ["self", "length", "days", "exceptions"] ds :=
  G.kTv.binds0 (ps := ["self", "length", "days", "exceptions"]) 3 (by simp) rfl fun D doc pm an cdv ct us ks l1 l2 => match us, ks, l1, l2 with
    | [u, v, x], [y], _, _ => ⟨_, _, _, _, _, _, rfl, rfl, rfl⟩
theorem Gd.nil (G : Gd P K mg) (H : Hp) : TiA K H (.ref G.eT) [] := by
  obtain ⟨o, n, h1, h2, h3⟩ := G.eTv
  exact ⟨_, rfl, .inr ⟨o, #[], n, h1, h2, h3, Nat.zero_le _, .nil⟩⟩
theorem scLe : FnScope ["_law_one", "_law_other"] ["_law_one", "_law_other"] (defScope sLe) := ⟨rfl, rfl, rfl, by decide +kernel, rfl, by decide +kernel, by decide +kernel⟩
/-- a price: a pair of whole numbers -/
def PcA (K : PySem.W.Frag) (H : Hp) (v : V) (z : Int × Int) : Prop := ∃ a, v = .ref a ∧ SqT K H a [.int z.1, .int z.2]
theorem PcA.tk {H H' : Hp} {v : V} {z : Int × Int} (t : TK K H H') (h : PcA K H v z) : PcA K H' v z := by
  obtain ⟨a, e, h⟩ := h
  exact ⟨a, e, t _ _ h⟩
theorem PcA.dp {H : Hp} {v : V} {z : Int × Int} (h : PcA K H v z) : Dp K H v (.tuple [.int z.1, .int z.2]) := by
  obtain ⟨a, rfl, h⟩ := h
  exact .tup h (.cons (.int _) (.cons (.int _) .nil))
def spLe (K : PySem.W.Frag) : Sp := fun vs H Q _ => ∃ (u v : V) (x y : Int × Int), vs = [u, v] ∧ PcA K H u x ∧ PcA K H v y ∧ 0 < x.2 ∧ x.2 ≤ 71680 ∧ 0 < y.2 ∧ y.2 ≤ 71680 ∧ ∀ H', Same H H' → Q (.bl (decide (x.1 * y.2 < y.1 * x.2))) H'
theorem ok_le {f : Addr} {fd : FuncData} {k : Nat} (F : Fun K "_law_less" "_law_less" sLe f fd) : FnOk P w K mg base CX0 (k + 1) f fd ["_law_one", "_law_other"] (spLe K) := by
  refine F.ok scLe (fun vs H Q E h => ?_) (fun cdv A outer s H vs Q E hr h => ?_)
  · obtain ⟨u, v, x, y, rfl, _⟩ := h
    rfl
  · obtain ⟨u, v, x, y, rfl, ⟨a, rfl, ha⟩, ⟨b, rfl, hb⟩, x0, x1, y0, y1, q⟩ := h
    refine ⟨_, pss_one (ps_ret (pe_cmpR op_lt (pe_op op_mul (pe_ixt (pv 0) pe_int) (pe_ixt (pv 1) pe_int)) (pe_op op_mul (pe_ixt (pv 1) pe_int) (pe_ixt (pv 0) pe_int)) (nomark _))), ?_⟩
    exact s_ret (v := .bl (decide (x.1 * y.2 < y.1 * x.2))) (ev_op (ev_op (ev_op (ev_var rfl) ev_c (rv_ixT ha rfl)) (ev_op (ev_var rfl) ev_c (rv_ixT hb rfl)) (rv_I (.inr ⟨by omega, by omega⟩))) (ev_op (ev_op (ev_var rfl) ev_c (rv_ixT hb rfl)) (ev_op (ev_var rfl) ev_c (rv_ixT ha rfl)) (rv_I (.inr ⟨by omega, by omega⟩))) (rv_I0 (g := fun i j => .bl (decide (i < j))))) fun H1 e1 => q H1 e1
end
/-! ### lambdas by their places -/
def mkF (q : Str) (e : Expr) (cl : List (Str × Addr)) (c : Addr) (dV : Value) : LF := ⟨q, lamP e, lamB e, lamS e, cl, c, dV⟩
theorem dv_none {q : Str} {e : Expr} {cl : List (Str × Addr)} {c : Addr} {H : Hp} : DvOk (mkF q e cl c .none) H := fun t z => by
  have z' : Value.none = Value.ref t := z
  cases z'
def qLam : Str := (envOfC "law" (defScope sLaw) 0 0 .none).qual ++ "<lambda>"
abbrev lam1 : Expr := lisI 0 (asgE ((defBody sLaw).getD 12 noS))
abbrev lam2 : Expr := lisI 1 (asgE ((defBody sLaw).getD 12 noS))
def expE : Stmt → Expr
  | .Expr e _ => e
  | _ => noE
abbrev lam3 : Expr := callA (expE ((defBody sLaw).getD 13 noS))
theorem sc1 : NScope ["_law_tariff_here", "_law_passes_here", "_law_odd"] [] ["_law_tariff_here", "_law_passes_here", "_law_odd"] (lamS lam1) := nscope_by (by decide +kernel)
theorem sc2 : NScope ["_law_a", "_law_tariff_here", "_law_odd"] ["_law_a"] ["_law_tariff_here", "_law_odd"] (lamS lam2) := nscope_by (by decide +kernel)
theorem sc3 : NScope ["_law_b", "_law_tariff_here", "_law_odd"] ["_law_b"] ["_law_tariff_here", "_law_odd"] (lamS lam3) := nscope_by (by decide +kernel)
abbrev Gd.tb {P : Program} {K : PySem.W.Frag} {mg : Str → Option Value} (G : Gd P K mg) : List (Addr × Str) := [(G.Pt, qLam)]
/-- the thunks: a tariff, a travel with an exception -/
structure Odd (K : PySem.W.Frag) (C CV : Addr) (H : Hp) (t p o : Addr) (L : List (Int × Int)) : Prop where
  ta : Tar K C H t p L
  lL : L.length ≤ 1000
  l0 : 1 ≤ L.length
  ok : ∀ z ∈ L, PassOk z
  tv : ∃ ln ds dv ov, Tv K CV H o ln dv ov ds [9] ∧ 1 ≤ ln ∧ ln ≤ 14
def ts1 (K : PySem.W.Frag) (C CV cU : Addr) : TSp := fun ws H Q E => ∃ (t p o l : Addr) (vs : List V) (L : List (Int × Int)), ws = [some (.ref t), some (.ref l), some (.ref o)] ∧ H l = some (.lst vs) ∧ vs.length = L.length ∧ Odd K C CV H t p o L ∧ ∀ H', Same H H' → E (.ref cU) none H'
def ts2 (K : PySem.W.Frag) (C CV cU : Addr) : TSp := fun ws H Q E => ∃ (t p o : Addr) (L : List (Int × Int)), ws = [some (.ref t), some (.ref o)] ∧ Odd K C CV H t p o L ∧ ∀ H', Same H H' → E (.ref cU) none H'
def ts3 (K : PySem.W.Frag) (C CV cV : Addr) : TSp := fun ws H Q E => ∃ (t p o : Addr) (L : List (Int × Int)), ws = [some (.ref t), some (.ref o)] ∧ Odd K C CV H t p o L ∧ ∀ dd H', Same H H' → H' dd = some (.xd [("index", .int 0), ("part", .str "exceptions")]) → E (.ref cV) (some dd) H'
section
variable {P : Program} {w : World} {K : PySem.W.Frag} {mg : Str → Option Value} {base : Heap} {f c t : Addr} {cl : List (Str × Addr)}
theorem g_bl (G : Gd P K mg) : FnOk P w K mg base (L2.CX P w) 8 G.fBl G.dBl ["tariff", "short", "long", "travel"] (spBl K G.C G.CV G.cU G.cV) := ok_bl G.uBl G.SP G.X G.Q G.LP G.BY G.BG G.W G.R G.EV G.N G.B G.m_range
theorem lok1 (G : Gd P K mg) : LOk P w K mg base (L2.CX P w) 9 f (mkF qLam lam1 cl c .none) ["_law_tariff_here", "_law_passes_here", "_law_odd"] (ts1 K G.C G.CV G.cU) := by
  refine lok_of0 (k := 8) sc1 (fun _ _ _ => rfl) fun A outer s H ws Q E hr hl h => ?_
  obtain ⟨t, p, o, l, vs, L, rfl, hl2, hn, ⟨ta, lL, l0, ok, ⟨ln, ds, dv, ov, tv, n1, n2⟩⟩, q⟩ := h
  refine ⟨_, pe_call (E := E) (g_bl G) (hr.mono (by decide)) (by rfl) G.gBl G.kBl G.bBl .nil (passes_call (takes_of rfl rfl rfl rfl) (fun _ _ _ _ h => h)) (pa_cons (pv 0) (pa_cons (pe_callB call_len_seq (by rfl) G.m_len PySem.boot_len (pa_cons (pv 1) pa_nil)) (pa_cons pe_int (pa_cons (pv 2) pa_nil)))), _, rfl, _, rfl, l, vs, rfl, .inl (.inl (.inl hl2)), _, rfl, t, p, o, ((vs.length : Nat) : Int), 0, ln, L, dv, ov, ds, [9], rfl, ta, lL, ok, tv, by decide, n1, n2, fun _ => q H (Same.refl H), fun hi => ?_, fun e => by cases e⟩
  have := hi.2
  omega
theorem lok2 (G : Gd P K mg) : LOk P w K mg base (L2.CX P w) 9 f (mkF qLam lam2 cl c (.ref t)) ["_law_tariff_here", "_law_odd"] (ts2 K G.C G.CV G.cU) := by
  refine lok_ofD (k := 8) (a := "_law_a") (t := t) sc2 rfl (fun _ _ _ => ⟨_, rfl, fun _ => rfl⟩) fun A outer s H ws Q E d hr hl h => ?_
  obtain ⟨t, p, o, L, rfl, ⟨ta, lL, l0, ok, ⟨ln, ds, dv, ov, tv, n1, n2⟩⟩, q⟩ := h
  exact ⟨_, pe_call (E := E) (g_bl G) (hr.mono (by decide)) (by rfl) G.gBl G.kBl G.bBl .nil (passes_call (takes_of rfl rfl rfl rfl) (fun _ _ _ _ h => h)) (pa_cons (pv 1) (pa_cons pe_int (pa_cons (pe_op op_sub pe_int pe_int) (pa_cons (pv 2) pa_nil)))), _, rfl, _, _, rfl, rfl, _, rfl, t, p, o, 0, 0 - 1, ln, L, dv, ov, ds, [9], rfl, ta, lL, ok, tv, by decide, n1, n2, fun _ => q H (Same.refl H), fun _ hj => absurd hj.1 (by decide), fun e => by cases e⟩
theorem lok3 (G : Gd P K mg) : LOk P w K mg base (L2.CX P w) 9 f (mkF qLam lam3 cl c (.ref t)) ["_law_tariff_here", "_law_odd"] (ts3 K G.C G.CV G.cV) := by
  refine lok_ofD (k := 8) (a := "_law_b") (t := t) sc3 rfl (fun _ _ _ => ⟨_, rfl, fun _ => rfl⟩) fun A outer s H ws Q E d hr hl h => ?_
  obtain ⟨t, p, o, L, rfl, ⟨ta, lL, l0, ok, ⟨ln, ds, dv, ov, tv, n1, n2⟩⟩, q⟩ := h
  refine ⟨_, pe_call (E := E) (g_bl G) (hr.mono (by decide)) (by rfl) G.gBl G.kBl G.bBl .nil (passes_call (takes_of rfl rfl rfl rfl) (fun _ _ _ _ h => h)) (pa_cons (pv 1) (pa_cons pe_int (pa_cons pe_int (pa_cons (pv 2) pa_nil)))), _, rfl, _, rfl, t, p, o, 0, 0, ln, L, dv, ov, ds, [9], rfl, ta, lL, ok, tv, by decide, n1, n2, fun hn => absurd ⟨⟨Int.le_refl 0, by omega⟩, ⟨Int.le_refl 0, by omega⟩⟩ hn, fun _ _ _ dd H' sm hd => q dd H' sm hd, fun e => by cases e⟩
end
end Sea

set_option Elab.async false
set_option linter.all false
set_option maxRecDepth 100000
set_option maxHeartbeats 4000000
namespace Sea
open PySem PySem.Spec PyProof.Rows L2 LamX NdefX ClX Evl StX
abbrev NL : List Str := ["_law_script", "_law_state", "_law_passes_here", "_law_tariff_here", "_law_length", "_law_days_here", "_law_travel", "_law_small", "_law_great", "_law_best", "_law_price", "_law_number", "_law_other", "_law_far", "_law_odd", "_law_works", "_law_expected", "_law_size", "_law_work"]
theorem scLaw : FnScope NL ["_law_script"] (defScope sLaw) := ⟨rfl, rfl, rfl, by decide +kernel, rfl, by decide +kernel, by decide +kernel⟩
theorem hf1 : ∀ y ∈ (lamS lam1).names, y.2 = .free → (defScope sLaw).names.lookup y.1 = some .cell ∨ (defScope sLaw).names.lookup y.1 = some .free := by decide +kernel
theorem hf2 : ∀ y ∈ (lamS lam2).names, y.2 = .free → (defScope sLaw).names.lookup y.1 = some .cell ∨ (defScope sLaw).names.lookup y.1 = some .free := by decide +kernel
theorem hf3 : ∀ y ∈ (lamS lam3).names, y.2 = .free → (defScope sLaw).names.lookup y.1 = some .cell ∨ (defScope sLaw).names.lookup y.1 = some .free := by decide +kernel
theorem hr1 : ∀ y ∈ (["_law_tariff_here", "_law_passes_here", "_law_odd"] : List Str), (y, NameKind.free) ∈ (lamS lam1).names := by decide +kernel
theorem hr2 : ∀ y ∈ (["_law_tariff_here", "_law_odd"] : List Str), (y, NameKind.free) ∈ (lamS lam2).names := by decide +kernel
theorem hr3 : ∀ y ∈ (["_law_tariff_here", "_law_odd"] : List Str), (y, NameKind.free) ∈ (lamS lam3).names := by decide +kernel
theorem tabs_kh {K : PySem.W.Frag} {T : List (Addr × Str)} {H H' : Hp} {h c : Addr} (hT : Tabs T H) (d : Ds K H h c) (k : Kh h H H') : Tabs T H' := by
  obtain ⟨p, m, r, ns, _, e1, e2, _⟩ := d
  refine tabs_but hT fun b o e n => k b o e (fun z => ?_)
  rw [z, e1] at e
  cases e
  exact n.1 _ rfl
/-- the draws, the passes -/
structure C2 (K : PySem.W.Frag) (tb : List (Addr × Str)) (h a0 l : Addr) (vs : List V) (L : List (Int × Int)) (H : Hp) : Prop where
  d : Ds K H h a0
  T : Tabs tb H
  hl : H l = some (.lst vs)
  nl : l ≠ h
  ps : PsV K H vs L
theorem C2.same {K : PySem.W.Frag} {tb : List (Addr × Str)} {h a0 l : Addr} {vs : List V} {L : List (Int × Int)} {H H' : Hp} (c : C2 K tb h a0 l vs L H) (s : Same H H') : C2 K tb h a0 l vs L H' :=
  ⟨c.d.same s, tabs_same c.T s, s _ _ c.hl, c.nl, c.ps.tk (.same s)⟩
theorem C2.kh {K : PySem.W.Frag} {tb : List (Addr × Str)} {h a0 l : Addr} {vs : List V} {L : List (Int × Int)} {H H' : Hp} (c : C2 K tb h a0 l vs L H) (k : Kh h H H') (d : Ds K H' h a0) : C2 K tb h a0 l vs L H' :=
  ⟨d, tabs_kh c.T c.d k, k _ _ c.hl c.nl, c.nl, c.ps.tk (c.d.tk k)⟩
theorem ds_ins {K : PySem.W.Frag} {H : Hp} {h c a C dx : Addr} {fs : List (Str × V)} (d : Ds K H h c) (e : H a = some (.ins C dx fs)) : a ≠ h := by
  obtain ⟨p, m, r, ns, _, e1, _⟩ := d
  rintro rfl
  rw [e1] at e
  cases e
theorem Tar.kh {K : PySem.W.Frag} {C : Addr} {H H' : Hp} {h c a p : Addr} {L : List (Int × Int)} (t : Tar K C H a p L) (d : Ds K H h c) (k : Kh h H H') : Tar K C H' a p L := by
  obtain ⟨⟨dx, h1⟩, h2⟩ := t
  exact ⟨⟨dx, k _ _ h1 (ds_ins d h1)⟩, h2.tk (d.tk k)⟩
theorem Tv.kh {K : PySem.W.Frag} {C : Addr} {H H' : Hp} {h c a : Addr} {ln : Int} {dv ov : V} {ds os : List Int} (t : Tv K C H a ln dv ov ds os) (d : Ds K H h c) (k : Kh h H H') : Tv K C H' a ln dv ov ds os := by
  obtain ⟨⟨dx, h1⟩, h2, h3⟩ := t
  exact ⟨⟨dx, k _ _ h1 (ds_ins d h1)⟩, h2.tk (d.tk k), h3.tk (d.tk k)⟩
/-- what stands when all is drawn -/
structure Lw (K : PySem.W.Frag) (C CV : Addr) (tb : List (Addr × Str)) (l t p tv : Addr) (vs : List V) (L : List (Int × Int)) (ln : Int) (dv ov : V) (ds : List Int) (i j : Int) (H : Hp) : Prop where
  T : Tabs tb H
  hl : H l = some (.lst vs)
  ps : PsV K H vs L
  n1 : 1 ≤ L.length
  n3 : L.length ≤ 3
  ok : ∀ z ∈ L, PassOk z
  ta : Tar K C H t p L
  tv : Tv K CV H tv ln dv ov ds []
  l1 : 1 ≤ ln
  l2 : ln ≤ 14
  gd : Good ds (ln - 1)
  nd : (ds.length : Int) ≤ ln
  hi : InP L i
  hj : InP L j
theorem Lw.same {K : PySem.W.Frag} {C CV : Addr} {tb : List (Addr × Str)} {l t p tv : Addr} {vs : List V} {L : List (Int × Int)} {ln : Int} {dv ov : V} {ds : List Int} {i j : Int} {H H' : Hp} (w : Lw K C CV tb l t p tv vs L ln dv ov ds i j H) (s : Same H H') : Lw K C CV tb l t p tv vs L ln dv ov ds i j H' :=
  ⟨tabs_same w.T s, s _ _ w.hl, w.ps.tk (.same s), w.n1, w.n3, w.ok, w.ta.same s, w.tv.same s, w.l1, w.l2, w.gd, w.nd, w.hi, w.hj⟩
theorem eqv_nilD (ds : List PyData) : PyData.eqv (.list ds) (.list []) = decide (ds = []) := by
  cases ds with
  | nil => rfl
  | cons a r => rfl
theorem psD_shL (L : List (Int × Int)) : SeqAt.shaped (.list (L.map fun x => PyData.tuple [.int x.1, .int x.2])) = true := by
  show (PyData.canLayAll0 (L.map fun x => PyData.tuple [.int x.1, .int x.2]) && decide (PyData.depthAll (L.map fun x => PyData.tuple [.int x.1, .int x.2]) + 1 ≤ 64)) = true
  rw [psD_lay, decide_eq_true (by have := psD_dep L; omega)]
  rfl
theorem passOk_okP {z : Int × Int} (h : PassOk z) : okP z = true := by
  obtain ⟨h1, h2, h3, h4⟩ := h
  unfold okP
  rw [decide_eq_true h1, decide_eq_true (show z.1 ≤ 28 by omega), decide_eq_true h3, decide_eq_true h4]
  rfl
/-- kept: all but tables and lists -/
def KN (H H' : Hp) : Prop := ∀ b o, H b = some o → (∀ ps, o ≠ .tbl ps) → (∀ xs, o ≠ .lst xs) → H' b = some o
theorem KN.tk {K : PySem.W.Frag} {H H' : Hp} (k : KN H H') (nf : ∀ b o u, H b = some (.frz o u) → H' b = some (.frz o u)) : TK K H H' := fun a xs h => by
  rcases h with (h | ⟨o, h⟩) | h
  · exact .inl (.inl (k _ _ h (fun ps z => by cases z) (fun ys z => by cases z)))
  · exact .inl (.inr ⟨o, nf _ _ _ h⟩)
  · exact .inr h
theorem Odd.kn {K : PySem.W.Frag} {C CV : Addr} {H H' : Hp} {t p o : Addr} {L : List (Int × Int)} (d : Odd K C CV H t p o L) (k : KN H H') : Odd K C CV H' t p o L := by
  have tk : TK K H H' := k.tk fun b o u e => k _ _ e (fun ps z => by cases z) (fun ys z => by cases z)
  obtain ⟨⟨⟨d1, h1⟩, h2⟩, lL, l0, ok, ⟨ln, ds, dv, ov, ⟨⟨d2, h3⟩, h4, h5⟩, n1, n2⟩⟩ := d
  exact ⟨⟨⟨d1, k _ _ h1 (fun ps z => by cases z) (fun ys z => by cases z)⟩, h2.tk tk⟩, lL, l0, ok, ⟨ln, ds, dv, ov, ⟨⟨d2, k _ _ h3 (fun ps z => by cases z) (fun ys z => by cases z)⟩, h4.tk tk, h5.tk tk⟩, n1, n2⟩⟩
theorem lam_nt {f : Addr} {F : LF} (ps : Array Value) : LamO f F ≠ .tbl ps := fun z => by
  unfold LamO Stands at z
  cases z
theorem lam_nl {f : Addr} {F : LF} (xs : List V) : LamO f F ≠ .lst xs := fun z => by
  unfold LamO Stands at z
  cases z
theorem code_nt {c : Addr} {q : Str} (ps : Array Value) : CodeO c q ≠ .tbl ps := fun z => by
  unfold CodeO at z
  cases z
theorem code_nl {c : Addr} {q : Str} (xs : List V) : CodeO c q ≠ .lst xs := fun z => by
  unfold CodeO at z
  cases z
def wD : PyData := .list [.tuple [.str "UnknownPass"], .tuple [.str "UnknownPass"], .tuple [.str "InvalidTravel", .str "exceptions", .int 0]]
theorem wSh : SeqAt.shaped wD = true := by decide +kernel
/-! ### readings of the law's own -/
abbrev tSr (K : PySem.W.Frag) (C D CV cV : Addr) (tl : TE) : TE := tCall (spSr K C D CV cV) [] E0 (tCons (tMakeK D 3 1 (spSwI K C D) (fun vs zs => vs ++ zs) E0 (tCons (tVar 3) (tCons (tVar 7) (tCons (tVar 8) tNil))) (tCons tl tNil)) (tCons (tVar 6) tNil))
section
variable {K : PySem.W.Frag} {C D CV cV l t p tv : Addr} {tb : List (Addr × Str)} {vs : List V} {L : List (Int × Int)} {ln : Int} {dv ov : V} {ds : List Int} {i j : Int} {H : Hp} {σ : L2.St} {x y : Int × Int}
theorem Lw.par (w : Lw K C CV tb l t p tv vs L ln dv ov ds i j H) (hx : atI L i = some x) (hy : atI L j = some y) (lim : Int) : (Par.mk ln ds x y lim).Ok := by
  obtain ⟨x', hx', hxm⟩ := w.hi.at
  obtain ⟨y', hy', hym⟩ := w.hj.at
  rw [hx] at hx'
  rw [hy] at hy'
  cases hx'
  cases hy'
  obtain ⟨x1, x2, x3, x4⟩ := w.ok x hxm
  obtain ⟨y1, y2, y3, y4⟩ := w.ok y hym
  exact ⟨w.l1, w.l2, x1, x2, x3, x4, y1, y2, y3, y4⟩
theorem sr_run (w : Lw K C CV tb l t p tv vs L ln dv ov ds i j H) (hx : atI L i = some x) (hy : atI L j = some y) (h3 : σ[3]? = some (some (.ref t))) (h6 : σ[6]? = some (some (.ref tv))) (h7 : σ[7]? = some (some (.int i))) (h8 : σ[8]? = some (some (.int j))) {tl : TE} {lim : Int}
    (hl : Ev tl σ H (.int lim)) (l0 : 0 ≤ lim ∧ lim ≤ 1000000000) : EvD (tSr K C D CV cV tl) σ H fun v H' => ∃ z, PcA K H' v z ∧ Res ⟨ln, ds, x, y, lim⟩ z := fun H1 e Q q => by
  refine ⟨_, h3, _, h7, _, h8, hl H1 e _ fun H2 e2 => ⟨rfl, rfl, fun a dx na ndx _ => ?_⟩⟩
  have w2 := w.same (e.trans e2)
  refine sw_mk w2.ta w.hi w.hj l0 na ndx fun H3 s3 sw => ⟨rfl, ?_⟩
  refine ⟨_, h6, a, tv, ⟨ln, ds, x, y, lim⟩, [], rfl, ⟨⟨t, p, L, i, j, sw, by have := w.n3; omega, hx, hy⟩, ⟨dv, ov, w2.tv.same s3⟩, Nat.zero_le _, w.par hx hy lim⟩, fun _ r z H4 s4 hz hr => q (.ref r) H4 ((e2.trans s3).trans s4) ⟨z, ⟨r, rfl, .of hr⟩, hz⟩, fun h => absurd rfl h⟩
theorem le_ev {m n : Nat} {u v : V} {a b : Int × Int} (h1 : σ[m]? = some (some u)) (h2 : σ[n]? = some (some v)) (p1 : PcA K H u a) (p2 : PcA K H v b) (a0 : 0 < a.2 ∧ a.2 ≤ 71680) (b0 : 0 < b.2 ∧ b.2 ≤ 71680) : Ev (tCall (spLe K) [] E0 (tCons (tVar m) (tCons (tVar n) tNil))) σ H (.bl (decide (a.1 * b.2 < b.1 * a.2))) := fun H1 e Q q =>
  ⟨_, h1, _, h2, u, v, a, b, rfl, p1.tk (.same e), p2.tk (.same e), a0.1, a0.2, b0.1, b0.2, fun H' s => q H' s⟩
theorem pc_sh (z : Int × Int) : SeqAt.shaped (.tuple [.int z.1, .int z.2]) = true := rfl
theorem pc_eqv (a b : Int × Int) : PyData.eqv (.tuple [.int a.1, .int a.2]) (.tuple [.int b.1, .int b.2]) = decide (a = b) := by
  show ((a.1 == b.1) && ((a.2 == b.2) && true)) = _
  rw [Bool.eq_iff_iff]
  obtain ⟨a1, a2⟩ := a
  obtain ⟨b1, b2⟩ := b
  simp
theorem eq_ev {te tf : TE} {d e : PyData} (h1 : EvDp K te σ H d) (h2 : EvDp K tf σ H e) (s1 : SeqAt.shaped d = true) (s2 : SeqAt.shaped e = true) : EvT (tTest (tOp (rEqD K) te tf)) σ H (PyData.eqv d e) := fun H1 a Q q =>
  h1 H1 a _ fun v H2 e2 hv => h2 H2 (a.trans e2) _ fun u H3 e3 hu => ⟨d, e, dp_ex e3 hv, hu, s1, s2, _, rfl, q H3 (e2.trans e3)⟩
theorem s_retEq {te : TE} {n : Nat} {v : V} {d : PyData} {D : Ends} (hv : σ[n]? = some (some v)) (hd : ∀ H2, Ex H H2 → Dp K H2 v d) (sh : SeqAt.shaped d = true) (k : ∀ H2, D.rt (.bl true) H2) (h1 : EvDp K te σ H d) : tRet (tOp (rEqD K) te (tVar n)) D σ H :=
  s_ret (ev_eqD h1 (edp_ev (ev_var hv) hd) sh) fun H1 _ => k H1
theorem abs_ev {te : TE} {n : Int} (h : Ev te σ H (.int n)) : Ev (tCB (fun xs H Q => ∃ i, xs = [V.int i] ∧ Q (.int (if i < 0 then -i else i)) H) (tCons te tNil)) σ H (.int (if n < 0 then -n else n)) := fun H1 e Q q => h H1 e _ fun H2 e2 => ⟨n, rfl, q H2 e2⟩
theorem px_ev {m n : Nat} {f : Int × Int → Int} {k : Int} (w : Lw K C CV tb l t p tv vs L ln dv ov ds i j H) (hm : σ[m]? = some (some (.int k))) (hn : σ[n]? = some (some (.ref l))) (hk : atI L k = some x) {c : Int} (hc : atI [V.int x.1, V.int x.2] c = some (.int (f x))) :
    Ev (tOp (rIxT K) (tOp (rIxL K) (tVar n) (tVar m)) (tC (.int c))) σ H (.int (f x)) := by
  obtain ⟨v, hv, b, rfl, hb⟩ := w.ps.atI hk
  exact ev_op (ev_op (ev_var hn) (ev_var hm) (rv_ixL (.inl (.inl w.hl)) hv)) ev_c (rv_ixT hb hc)
end
def spLaw (K : PySem.W.Frag) (Pt : Addr) : Sp := fun vs H Q _ => ∃ (a : Addr) (ns : List Int), vs = [.ref a] ∧ SqL K H a (ns.map V.int) ∧ ns.length ≤ 63 ∧ H Pt = some (.tbl #[]) ∧ ∀ H', Q (.bl true) H'
section
variable {P : Program} {w : World} {K : PySem.W.Frag} {mg : Str → Option Value} {base : Heap}
theorem g_sr (G : Gd P K mg) : FnOk P w K mg base (L2.CX P w) 7 G.fSr G.dSr ["buyer", "travel"] (spSr K G.C G.D G.CV G.cV) := ok_sr G.SP G.X G.Q G.LP G.BY G.BG G.W G.R G.EV G.N
theorem g_sw (G : Gd P K mg) : FnOk P w K mg base (L2.CX P w) 5 G.fSw G.dSw ["self", "tariff", "short", "long", "limit"] (spSwI K G.C G.D) := ok_swI G.B.uSw G.B.su G.B.uBy G.X G.Q G.BY G.X.no
theorem Gd.bSr (G : Gd P K mg) : Binds K G.dSr ["buyer", "travel"] [] := G.N.uSr.binds (ps := ["buyer", "travel"]) fun _ _ _ _ _ _ us hl => match us, hl with | [_, _], _ => rfl
theorem Gd.bWx (G : Gd P K mg) : Binds K G.dWx ["self", "day"] [] := G.uWx.binds (ps := ["self", "day"]) fun _ _ _ _ _ _ us hl => match us, hl with | [_, _], _ => rfl
theorem ok_law {f cc : Addr} {oc kV doc pm ct : Value} {od an : Option Addr} {osl : Array (Option Value)} (G : Gd P K mg) (lk : K.lookup f = some ⟨oc, od, .func (PySem.W.fnOf "law" "law" (defArgs sLaw) (defBody sLaw) (defScope sLaw) .none kV doc pm an (.ref cc) ct), osl⟩)
    (hcd : PySem.W.codeIn K (.ref cc) "law" = true) (TB : TabB base mg cc G.Pt) : FnOk P w K mg base CX0 12 f (PySem.W.fnOf "law" "law" (defArgs sLaw) (defBody sLaw) (defScope sLaw) .none kV doc pm an (.ref cc) ct) ["_law_script"] (spLaw K G.Pt) := by
  have hTm : (G.Pt, qLam) ∈ G.tb := List.mem_singleton.mpr rfl
  have hTu : ∀ p ∈ G.tb, p.1 = G.Pt → p.2 = qLam := fun p hp _ => by rw [List.mem_singleton.mp hp]
  obtain ⟨dsT, rT, bT⟩ := G.bTv0
  refine fn_of (N := NL) lk hcd scLaw (fun vs H Q E h => ?_) (fun A outer s H vs Q E hr h => ?_)
  · obtain ⟨a, ns, rfl, _⟩ := h
    rfl
  · have hu := hr.units
    have h1 := hr.mono (show 1 ≤ 11 by decide)
    have h2 := hr.mono (show 2 ≤ 11 by decide)
    have h6 := hr.mono (show 6 ≤ 11 by decide)
    have h7 := hr.mono (show 7 ≤ 11 by decide)
    have h8 := hr.mono (show 8 ≤ 11 by decide)
    have h10 := hr.mono (show 10 ≤ 11 by decide)
    suffices hh : ∃ t, PSs (cxOf CX0 P w K mg base NL "law" (defScope sLaw) f (.ref cc) A outer s H E).nox (defBody sLaw) t ∧ t { nx := fun _ H' => Q .non H', rt := Q } (start NL vs) H by
      obtain ⟨t, ht, hq⟩ := hh
      exact ⟨t, ht.nox, hq⟩
    refine ⟨_, pss_cut (ps_set (i := 1) scLaw.nd rfl (.inl rfl) (pe_call (E := E0) (ok_start (k := 0) G.uSt) h1 (by rfl) G.gSt G.kSt G.bSt .nil pass0 (pa_cons (pv 0) pa_nil)))
      (pss_cut (ps_set (i := 2) scLaw.nd rfl (.inr rfl) (pe_lc (own := [("_law_size", 17), ("_law_price", 10)]) (g := gTup K 2 (gCons (gName 17) (gCons (gName 10) gNil))) (by rfl) scLaw.nd (pi_list (pe_call (E := E0) (ok_pas (k := 0) G.uPas G.DN G.m_range) h2 (by rfl) G.gPas G.kPas G.bPas .nil pass0 (pa_cons (pv 1) (pa_cons pe_int pa_nil))))
          (blkOk_by (own := [("_law_size", 17), ("_law_price", 10)]) (N := NL) (sc := defScope sLaw) (by decide +kernel))
          (fun _ _ _ _ _ => pg_tup rfl (pgs_cons (pg_name (i := 17) scLaw.nd rfl (Or.inl rfl)) (pgs_cons (pg_name (i := 10) scLaw.nd rfl (Or.inl rfl)) pgs_nil))) (fun _ _ _ _ _ => pts_one (pt_cmpR L2.op_le (pv 17) pe_int (nomark _)))
          (fun _ _ _ _ _ => pe_tup (pa_cons (pv 17) (pa_cons (pe_callB (call_min2 rfl) (by rfl) G.m_min (by decide +kernel) (pa_cons (pv 10) (pa_cons pe_int pa_nil))) pa_nil)))))
      (pss_cut (ps_set (i := 2) scLaw.nd rfl (.inr rfl) (pe_ifExp (pt_cmpR (op_neD hu) (pv 2) (pe_lst pa_nil) (nomark _)) (pv 2) (pe_lst (pa_cons (pe_tup (pa_cons pe_int (pa_cons pe_int pa_nil))) (pa_cons (pe_tup (pa_cons pe_int (pa_cons pe_int pa_nil))) pa_nil)))))
      (pss_cut (ps_asg (pe_tup (pa_cons (pe_call (E := E0) (ok_tar G.uTar G.X G.I) h6 (by rfl) G.gTar G.kTar G.bTar .nil passL (pa_cons (pv 2) pa_nil)) (pa_cons (pe_call (E := E0) (ok_day (k := 0) G.uDay G.DN G.m_range G.m_tuple) h2 (by rfl) G.gDay G.kDay G.bDay .nil pass0 (pa_cons (pv 1) pa_nil)) pa_nil)))
          (pg_tup rfl (pgs_cons (pg_name (i := 3) scLaw.nd rfl (.inr rfl)) (pgs_cons (pg_tup rfl (pgs_cons (pg_name (i := 4) scLaw.nd rfl (.inl rfl)) (pgs_cons (pg_name (i := 5) scLaw.nd rfl (.inl rfl)) pgs_nil))) pgs_nil))))
      (pss_cut (ps_set (i := 6) scLaw.nd rfl (.inl rfl) (pe_make (E := E0) G.mkV (ok_tvI G.uTv G.EV G.W) h6 (by rfl) G.W.gC bT rT passL (pa_cons (pv 4) (pa_cons (pv 5) pa_nil))))
      (pss_cut (ps_par (i := 7) (j := 8) rfl scLaw.nd rfl rfl (by decide) rfl rfl (pa_cons (pe_dr G.DN h1 (by rfl) (pv 1) (pe_callB call_len_seq (by rfl) G.m_len PySem.boot_len (pa_cons (pv 2) pa_nil))) (pa_cons (pe_dr G.DN h1 (by rfl) (pv 1) (pe_callB call_len_seq (by rfl) G.m_len PySem.boot_len (pa_cons (pv 2) pa_nil))) pa_nil)) (by rfl))
      (pss_cut (ps_asg (pe_call (E := E0) (g_bl G) h8 (by rfl) G.gBl G.kBl G.bBl .nil passL (pa_cons (pv 3) (pa_cons (pv 7) (pa_cons (pv 8) (pa_cons (pv 6) pa_nil))))) (pg_tup rfl (pgs_cons (pg_name (i := 9) scLaw.nd rfl (.inl rfl)) (pgs_cons (pg_name (i := 10) scLaw.nd rfl (.inl rfl)) pgs_nil))))
      (pss_cut (ps_if (pt_cmpR (op_neD hu) (pe_call (E := E0) (g_sr G) h7 (by rfl) G.N.gSr G.N.kSr G.bSr .nil passL (pa_cons (pe_makeK (E := E0) G.B.mkD (g_sw G) h6 (by rfl) G.BY.gD (kb_sw G.B.uSw) passL (pa_cons (pv 3) (pa_cons (pv 7) (pa_cons (pv 8) pa_nil))) (pk_cons (pv 9) pk_nil)) (pa_cons (pv 6) pa_nil))) (pv 10) (nomark _)) (pss_one (ps_ret pe_bl)) pss_nil)
      (pss_cut (ps_for PassesOwn.never rfl (pi_range1 (by rfl) G.m_range (pa_cons (pe_op op_mul (pe_ixt (pe_ixl (pv 2) (pv 7)) pe_int) (pe_op op_add (pe_ixt (pe_ixl (pv 2) (pv 8)) pe_int) pe_int)) pa_nil)) (pg_name (i := 11) scLaw.nd rfl (.inl rfl))
        (pss_one (ps_if (PW.pt (pw_or (pt_cmpR op_lt (pv 11) pe_int (nomark _)) (pw_or (pt_cmpR op_eq (pe_op op_modN (pv 11) pe_int) pe_int (nomark _)) (pw_or1 (pt_cmpR op_lt (pe_callB call_abs (by rfl) G.m_abs (by decide +kernel) (pa_cons (pe_op op_sub (pv 11) (pv 9)) pa_nil)) pe_int (nomark _))))))
          (pss_cons (ps_set (i := 12) scLaw.nd rfl (.inl rfl) (pe_call (E := E0) (g_sr G) h7 (by rfl) G.N.gSr G.N.kSr G.bSr .nil passL (pa_cons (pe_makeK (E := E0) G.B.mkD (g_sw G) h6 (by rfl) G.BY.gD (kb_sw G.B.uSw) passL (pa_cons (pv 3) (pa_cons (pv 7) (pa_cons (pv 8) pa_nil))) (pk_cons (pv 11) pk_nil)) (pa_cons (pv 6) pa_nil))))
          (pss_one (ps_if (PW.pt (pw_or (pt_val (pe_call (E := E0) (ok_le (k := 0) G.uLe) h1 (by rfl) G.gLe G.kLe G.bLe .nil pass0 (pa_cons (pv 12) (pa_cons (pv 10) pa_nil)))) (pw_or1 (PW.pt (pw_and (pt_cmpR op_lt (pv 11) (pv 9) (nomark _)) (pw_and1 (pt_cmpR (op_eqD hu) (pv 12) (pv 10) (nomark _)))))))) (pss_one (ps_ret pe_bl)) pss_nil))) pss_nil)))
      (pss_cut (ps_set (i := 13) scLaw.nd rfl (.inl rfl) (pe_call (E := E0) (g_sr G) h7 (by rfl) G.N.gSr G.N.kSr G.bSr .nil passL (pa_cons (pe_makeK (E := E0) G.B.mkD (g_sw G) h6 (by rfl) G.BY.gD (kb_sw G.B.uSw) passL (pa_cons (pv 3) (pa_cons (pv 7) (pa_cons (pv 8) pa_nil))) (pk_cons (pe_op op_pow pe_int pe_int) pk_nil)) (pa_cons (pv 6) pa_nil))))
      (pss_cut (ps_if (pt_val (pe_call (E := E0) (ok_le (k := 0) G.uLe) h1 (by rfl) G.gLe G.kLe G.bLe .nil pass0 (pa_cons (pv 13) (pa_cons (pv 10) pa_nil)))) (pss_one (ps_ret pe_bl)) pss_nil)
      (pss_cut (ps_set (i := 14) scLaw.nd rfl (.inr rfl) (pe_meth (pv 6) G.W.cl G.mWx (ok_wx G.uWx G.EV G.W G.BY.nc G.BY.gVC G.BY.kVC G.BY.uVC G.m_tuple G.m_sorted G.m_len G.mkV G.uTv) h7 G.bWx .nil (E := E0) passL (pa_cons pe_int pa_nil)))
      (pss_cons (ps_set (i := 15) scLaw.nd rfl (.inl rfl) (pe_lst (pa_cons (pe_lamV (T := G.tb) TB rfl hTm hTu hf1) (pa_cons (pe_lamD (T := G.tb) TB rfl hTm hTu hf2 rfl rfl) pa_nil))))
      (pss_cons (ps_expr (pe_bm PySem.F.plainAttrs_list PySem.F.slot_list_append PySem.F.type_list_append mt_append (pv 15) (pa_cons (pe_lamD (T := G.tb) TB rfl hTm hTu hf3 rfl rfl) pa_nil)))
      (pss_cons (ps_set (i := 16) scLaw.nd rfl (.inl rfl) (pe_lst (pa_cons (pe_tup (pa_cons pe_str pa_nil)) (pa_cons (pe_tup (pa_cons pe_str pa_nil)) (pa_cons (pe_tup (pa_cons pe_str (pa_cons pe_str (pa_cons pe_int pa_nil)))) pa_nil)))))
      (pss_one (ps_ret (pe_cmpR (op_eqD hu) (pe_lcT (i := 18) (ok_out G.uOu G.OU (Nat.le_refl 9)) rfl rfl scLaw.nd rfl (plainBlk_by (by decide +kernel)) rfl rfl G.gOu G.kOu h10 (pv 15)) (pv 16) (nomark _)))))))))))))))))), ?_⟩
    obtain ⟨a0, ns, rfl, hS, hlen, hPt, q⟩ := h
    have s1000 : ∀ {n : Nat}, n ≤ 1000 → n ≤ sizeLine := fun h => Nat.le_of_lt (small1000 h)
    refine ⟨fun σ H' => ∃ h : Addr, σ = ([some (.ref a0), some (.ref h), none, none, none, none, none, none, none, none, none, none, none, none, none, none, none, none, none] : L2.St) ∧ Ds K H' h a0 ∧ Tabs G.tb H', ?_, ?_⟩
    · refine ⟨_, rfl, a0, ns, rfl, hS, hlen, fun h H' sm nh d => ⟨h, rfl, d, tabs_same (fun p hp => ?_) sm⟩⟩
      rw [List.mem_singleton.mp hp]
      exact TabS.nil hPt
    rintro σ H1 ⟨h, rfl, d1, T1⟩
    -- the passes
    refine ⟨fun σ H' => ∃ (l : Addr) (vs : List V) (L : List (Int × Int)), σ = ([some (.ref a0), some (.ref h), some (.ref l), none, none, none, none, none, none, none, none, none, none, none, none, none, none, none, none] : L2.St) ∧ C2 K G.tb h a0 l vs L H' ∧ L.length ≤ 3 ∧ ∀ z ∈ L, PassOk z, ?_, ?_⟩
    · refine ⟨_, rfl, h, a0, 3, rfl, by decide, by decide, d1, fun l0 ws M H2 d2 k2 nl0 hl0 hps n1 n3 okM => ⟨l0, rfl, ⟨_, .inl (.inl hl0)⟩, fun D nD => ?_⟩⟩
      have T2 := tabs_kh T1 d1 k2
      have wl := hps.len
      refine lc_list (K := K) (a := l0) (xs := ws) (fun i H' => Same H2 H' ∧ ∃ (vs : List V) (L : List (Int × Int)), H' D = some (.lst vs) ∧ PsV K H' vs L ∧ L.length ≤ i ∧ ∀ z ∈ L, PassOk z) ⟨same_new nD, [], [], upd_same, .nil, Nat.le_refl _, fun z hz => nomatch hz⟩ (fun i H' _ z => .inl (.inl (z.1 _ _ hl0))) ?_ ?_
      · rintro i x H' hx ⟨sm, vs, L, hD, hvs, hlen', hok⟩
        obtain ⟨⟨sz, pr⟩, hMi, b, rfl, hb⟩ := hps.get hx
        have okz := okM _ (List.mem_of_getElem? hMi)
        have hi3 : i < 3 := by
          have := (List.getElem?_eq_some_iff.mp hMi).1
          omega
        refine ⟨b, _, rfl, (TK.same sm) _ _ hb, rfl, _, _, rfl, _, _, rfl, rfl, rfl, ?_⟩
        refine ⟨_, rfl, _, _, rfl, rfl, _, rfl, ?_⟩
        refine ite2 (fun hle => ?_) (fun _ => ⟨sm, vs, L, hD, hvs, by omega, hok⟩)
        refine ⟨_, rfl, _, rfl, _, _, rfl, s1000 (show 2 ≤ 1000 by decide), fun tp ntp => ?_⟩
        have hle : sz ≤ 10 := of_decide_eq_true hle
        have nDt : D ≠ tp := ne_of_none hD ntp
        have hD2 : (upd H' tp (.tup [.int sz, .int (if 40 < pr then 40 else pr)])) D = some (.lst vs) := by
          rw [upd_ne nDt]
          exact hD
        have vl := hvs.len
        refine ⟨vs, hD2, small1000 (by omega), ?_, vs ++ [.ref tp], L ++ [(sz, if 40 < pr then 40 else pr)], upd_same, ?_, ?_, ?_⟩
        · exact fun c o e => by
            rw [upd_ne (ne_of_none e nD)]
            exact (same_new ntp) _ _ (sm _ _ e)
        · exact ((hvs.tk (TK.new ntp)).tk (tk_lst hD2)).app (.cons ⟨tp, rfl, (tk_lst hD2) _ _ (.of upd_same)⟩ .nil)
        · rw [List.length_append]
          show L.length + 1 ≤ i + 1
          omega
        · intro z hz
          rcases List.mem_append.mp hz with hz | hz
          · exact hok z hz
          · rw [List.mem_singleton.mp hz]
            unfold okP at okz
            rw [Bool.and_eq_true, Bool.and_eq_true, Bool.and_eq_true] at okz
            obtain ⟨⟨z1, z2⟩, z3, z4⟩ := okz
            have z1 := of_decide_eq_true z1
            have z3 := of_decide_eq_true z3
            have z4 := of_decide_eq_true z4
            refine ⟨z1, hle, ?_, ?_⟩
            · show 1 ≤ if 40 < pr then 40 else pr
              split <;> omega
            · show (if 40 < pr then 40 else pr) ≤ 1000000
              split <;> omega
      · rintro H' ⟨sm, vs, L, hD, hvs, hlen', hok⟩
        exact ⟨D, vs, L, rfl, ⟨d2.same sm, tabs_same T2 sm, hD, d2.nh nD, hvs⟩, by omega, hok⟩
    rintro σ H2 ⟨l1, vs1, L1, rfl, c2, n3, ok1⟩
    -- at least one pass
    refine ⟨fun σ H' => ∃ (l : Addr) (vs : List V) (L : List (Int × Int)), σ = ([some (.ref a0), some (.ref h), some (.ref l), none, none, none, none, none, none, none, none, none, none, none, none, none, none, none, none] : L2.St) ∧ C2 K G.tb h a0 l vs L H' ∧ 1 ≤ L.length ∧ L.length ≤ 3 ∧ ∀ z ∈ L, PassOk z, ?_, ?_⟩
    · have het : EvT _ _ H2 (!decide (L1.map (fun x => PyData.tuple [.int x.1, .int x.2]) = [])) := et_is (et_neD (K := K) (te := tVar 2) (tb := tLst tNil) (σ := ([some (.ref a0), some (.ref h), some (.ref l1), none, none, none, none, none, none, none, none, none, none, none, none, none, none, none, none] : L2.St)) (edp_ev (ev_var rfl) fun H3 e3 => .lst (sq_of (e3 _ _ c2.hl)) (c2.ps.tk (.same e3)).dp) (edp_lst eda_nil (by decide)) (psD_shL L1) (by decide +kernel)) (by rw [eqv_nilD])
      refine het H2 (Ex.refl _) _ fun H3 e3 => ?_
      cases L1 with
      | cons z r => exact iteT ⟨_, rfl, l1, vs1, z :: r, rfl, c2.same e3, Nat.succ_pos _, n3, ok1⟩
      | nil =>
        refine iteF ⟨s1000 (show 2 ≤ 1000 by decide), fun p np => ⟨s1000 (show 2 ≤ 1000 by decide), fun r nr => ⟨s1000 (show 2 ≤ 1000 by decide), fun l nl => ⟨l, _, [(1, 2), (6, 9)], rfl, ⟨?_, ?_, upd_same, ?_, ?_⟩, by decide, by decide, fun z hz => ?_⟩⟩⟩⟩
        · exact c2.d.same (((e3.trans (same_new np)).trans (same_new nr)).trans (same_new nl))
        · exact tabs_same c2.T (((e3.trans (same_new np)).trans (same_new nr)).trans (same_new nl))
        · exact (c2.d.same ((e3.trans (same_new np)).trans (same_new nr))).nh nl
        · exact .cons ⟨p, rfl, .of ((same_new nl) _ _ ((same_new nr) _ _ upd_same))⟩ (.cons ⟨r, rfl, .of ((same_new nl) _ _ upd_same)⟩ .nil)
        · rcases List.mem_cons.mp hz with rfl | hz
          · exact ⟨by decide, by decide, by decide, by decide⟩
          · rw [List.mem_singleton.mp hz]
            exact ⟨by decide, by decide, by decide, by decide⟩
    rintro σ H3 ⟨l, vs, L, rfl, c3, n1, n3', ok3⟩
    -- the tariff, the days
    refine ⟨fun σ H' => ∃ (t p : Addr) (ln : Int) (dv : V) (ds : List Int), σ = ([some (.ref a0), some (.ref h), some (.ref l), some (.ref t), some (.int ln), some dv, none, none, none, none, none, none, none, none, none, none, none, none, none] : L2.St) ∧ C2 K G.tb h a0 l vs L H' ∧ Tar K G.C H' t p L ∧ TiA K H' dv ds ∧ 1 ≤ ln ∧ ln ≤ 14 ∧ Good ds (ln - 1) ∧ (ds.length : Int) ≤ ln, ?_, ?_⟩
    · refine ⟨_, rfl, l, vs, L, rfl, c3.hl, c3.ps, n1, n3', fun z hz => passOk_okP (ok3 z hz), fun t p H4 s4 _ tar => ⟨_, rfl, h, a0, rfl, (c3.same s4).d, fun v ln ds H5 hpt l1' l14 gd nd d5 k5 => ?_⟩⟩
      obtain ⟨pa, dv, rfl, hpa, hd⟩ := hpt
      refine ⟨s1000 (show 2 ≤ 1000 by decide), fun tp ntp => ⟨tp, _, rfl, .of upd_same, rfl, _, _, rfl, _, _, rfl, ⟨pa, _, rfl, (TK.new ntp) _ _ hpa, rfl, _, _, rfl, _, _, rfl, rfl, rfl, t, p, ln, dv, ds, rfl, ?_, ?_, hd.tk (TK.new ntp), l1', l14, gd, nd⟩⟩⟩
      · exact ((c3.same s4).kh k5 d5).same (same_new ntp)
      · exact (tar.kh (c3.same s4).d k5).same (same_new ntp)
    rintro σ H4 ⟨t, p, ln, dv, ds, rfl, c4, tar4, hd4, l1, l2, gd, nd⟩
    -- the travel
    refine ⟨fun σ H' => ∃ (tv : Addr), σ = ([some (.ref a0), some (.ref h), some (.ref l), some (.ref t), some (.int ln), some dv, some (.ref tv), none, none, none, none, none, none, none, none, none, none, none, none] : L2.St) ∧ C2 K G.tb h a0 l vs L H' ∧ Tar K G.C H' t p L ∧ Tv K G.CV H' tv ln dv (.ref G.eT) ds [], ?_, ?_⟩
    · refine ⟨_, rfl, _, rfl, fun x dx nx ndx _ => ?_⟩
      exact tv_new hd4 (G.nil _) (by omega) (Nat.zero_le _) (tbad_ok l1 l2 gd nd good_nil (Nat.zero_le _)) nx ndx fun H' sm tv => ⟨rfl, x, rfl, c4.same sm, tar4.same sm, tv⟩
    rintro σ H5 ⟨tv, rfl, c5, tar5, tv5⟩
    -- short and long
    refine ⟨fun σ H' => ∃ (i j : Int), σ = ([some (.ref a0), some (.ref h), some (.ref l), some (.ref t), some (.int ln), some dv, some (.ref tv), some (.int i), some (.int j), none, none, none, none, none, none, none, none, none, none] : L2.St) ∧ Lw K G.C G.CV G.tb l t p tv vs L ln dv (.ref G.eT) ds i j H', ?_, ?_⟩
    · have vl := c5.ps.len
      have pos : (0 : Int) < ((vs.length : Nat) : Int) := by omega
      have log : (((vs.length : Nat) : Int)).natAbs.log2 < 9000 := Nat.lt_of_le_of_lt (Nat.log2_le_self _) (by omega)
      refine ⟨_, rfl, _, rfl, l, vs, rfl, .inl (.inl (.inl c5.hl)), h, a0, ((vs.length : Nat) : Int), rfl, pos, log, c5.d, fun i H6 i0 i1 d6 k6 => ?_⟩
      have c6 := c5.kh k6 d6
      refine ⟨_, rfl, _, rfl, l, vs, rfl, .inl (.inl (.inl c6.hl)), h, a0, ((vs.length : Nat) : Int), rfl, pos, log, c6.d, fun j H7 j0 j1 d7 k7 => ⟨_, _, rfl, i, j, rfl, ?_⟩⟩
      have c7 := c6.kh k7 d7
      exact ⟨c7.T, c7.hl, c7.ps, n1, n3', ok3, (tar5.kh c5.d k6).kh c6.d k7, (tv5.kh c5.d k6).kh c6.d k7, l1, l2, gd, nd, ⟨i0, by omega⟩, ⟨j0, by omega⟩⟩
    rintro σ H6 ⟨i, j, rfl, w6⟩
    obtain ⟨x, hx, hxm⟩ := w6.hi.at
    obtain ⟨y, hy, hym⟩ := w6.hj.at
    obtain ⟨x1, x2, x3, x4⟩ := ok3 x hxm
    obtain ⟨y1, y2, y3, y4⟩ := ok3 y hym
    have pok := w6.par hx hy 0
    -- the best limit
    refine ⟨fun σ H' => ∃ (k : Nat) (z : Int × Int) (v : V), σ = ([some (.ref a0), some (.ref h), some (.ref l), some (.ref t), some (.int ln), some dv, some (.ref tv), some (.int i), some (.int j), some (.int ((k : Nat) * x.2)), some v, none, none, none, none, none, none, none, none] : L2.St) ∧ Lw K G.C G.CV G.tb l t p tv vs L ln dv (.ref G.eT) ds i j H' ∧ PcA K H' v z ∧ Best ⟨ln, ds, x, y, 0⟩ (y.1 + 1).toNat k z, ?_, ?_⟩
    · refine ⟨_, rfl, _, rfl, _, rfl, _, rfl, t, p, tv, i, j, ln, L, dv, .ref G.eT, ds, [], rfl, w6.ta, by omega, ok3, w6.tv, Nat.zero_le _, l1, l2, fun hn => absurd ⟨w6.hi, w6.hj⟩ hn, fun _ _ h => absurd rfl h, fun _ x' y' hx' hy' v H7 s7 bl => ?_⟩
      rw [hx] at hx'
      rw [hy] at hy'
      cases hx'
      cases hy'
      obtain ⟨r, qq, k, z, rfl, hr, hq, best⟩ := bl
      exact ⟨r, _, rfl, hr, rfl, _, _, rfl, _, _, rfl, rfl, k, z, .ref qq, rfl, w6.same s7, ⟨qq, rfl, hq⟩, best⟩
    rintro σ H7 ⟨k, z, v, rfl, w7, hz7, best⟩
    have k10 : k ≤ 10 := by
      have := best.1
      omega
    have lim0 : 0 ≤ (k : Int) * x.2 ∧ (k : Int) * x.2 ≤ 1000000000 := by
      refine ⟨Int.mul_nonneg (by omega) (by omega), ?_⟩
      have h1 := Int.mul_le_mul (show (k : Int) ≤ 10 by omega) x4 (by omega) (by omega)
      omega
    have zf := best.2.1.few (w6.par hx hy _)
    have hbn : (((y.1 + 1).toNat : Nat) : Int) = y.1 + 1 := by omega
    -- asked again
    refine ⟨fun σ H' => σ = ([some (.ref a0), some (.ref h), some (.ref l), some (.ref t), some (.int ln), some dv, some (.ref tv), some (.int i), some (.int j), some (.int ((k : Nat) * x.2)), some v, none, none, none, none, none, none, none, none] : L2.St) ∧ Lw K G.C G.CV G.tb l t p tv vs L ln dv (.ref G.eT) ds i j H' ∧ PcA K H' v z, ?_, ?_⟩
    · refine s_when (b := false) (et_same (K := K) (te := tSr K G.C G.D G.CV G.cV (tVar 9)) (tb := tVar 10) (d := .tuple [.int z.1, .int z.2]) (fun H8 e8 Q8 q8 => sr_run w7 hx hy rfl rfl rfl rfl (ev_var rfl) lim0 H8 e8 _ fun u H9 e9 ⟨z', hz', res⟩ => q8 u H9 e9 (by
          rw [← best.2.1.one res] at hz'
          exact hz'.dp)) (edp_ev (ev_var rfl) fun H8 e8 => (hz7.tk (.same e8)).dp) (pc_sh z)) (fun hb => by cases hb) (fun _ H8 e8 => ⟨rfl, w7.same e8, hz7.tk (.same e8)⟩)
    rintro σ H8 ⟨rfl, w8, hz8⟩
    -- the other limits
    refine ⟨fun σ H' => ∃ v11 v12, σ = ([some (.ref a0), some (.ref h), some (.ref l), some (.ref t), some (.int ln), some dv, some (.ref tv), some (.int i), some (.int j), some (.int ((k : Nat) * x.2)), some v, v11, v12, none, none, none, none, none, none] : L2.St) ∧ Lw K G.C G.CV G.tb l t p tv vs L ln dv (.ref G.eT) ds i j H' ∧ PcA K H' v z, ?_, ?_⟩
    · have eN : Ev (tOp (rI CMul fun i j => .int (i * j)) (tOp (rIxT K) (tOp (rIxL K) (tVar 2) (tVar 7)) (tC (.int 1))) (tOp rAd (tOp (rIxT K) (tOp (rIxL K) (tVar 2) (tVar 8)) (tC (.int 0))) (tC (.int 2)))) ([some (.ref a0), some (.ref h), some (.ref l), some (.ref t), some (.int ln), some dv, some (.ref tv), some (.int i), some (.int j), some (.int ((k : Nat) * x.2)), some v, none, none, none, none, none, none, none, none] : L2.St) H8 (.int (x.2 * (y.1 + 2))) :=
        ev_op (px_ev (x := x) (f := Prod.snd) w8 rfl rfl hx rfl) (ev_op (px_ev (x := y) (f := Prod.fst) w8 rfl rfl hy rfl) ev_c rv_I0) (rv_I (.inl ⟨by omega, by omega⟩))
      have up : x.2 * (y.1 + 2) ≤ 1000000 * 12 := Int.mul_le_mul x4 (by omega) (by omega) (by omega)
      have dn : 0 ≤ x.2 * (y.1 + 2) := Int.mul_nonneg (by omega) (by omega)
      refine eN H8 (Ex.refl _) _ fun H1 e1 => ⟨x.2 * (y.1 + 2), rfl, by omega, by omega, for_range (lo := 0) (n := (x.2 * (y.1 + 2)).toNat) (fun _ σ H' => ∃ v11 v12, σ = ([some (.ref a0), some (.ref h), some (.ref l), some (.ref t), some (.int ln), some dv, some (.ref tv), some (.int i), some (.int j), some (.int ((k : Nat) * x.2)), some v, v11, v12, none, none, none, none, none, none] : L2.St) ∧ Lw K G.C G.CV G.tb l t p tv vs L ln dv (.ref G.eT) ds i j H' ∧ PcA K H' v z) ⟨none, none, rfl, w8.same e1, hz8.tk (.same e1)⟩ ?_ fun σ H' z => z⟩
      rintro n σ' H' hn ⟨v11, v12, rfl, w9, hz9⟩
      refine s_when (b := decide ((0 + (n : Int)) < 60) || (decide (V.int ((0 + (n : Int)).fmod 7) = V.int 0) || decide ((if (0 + (n : Int)) - (k : Nat) * x.2 < 0 then -((0 + (n : Int)) - (k : Nat) * x.2) else (0 + (n : Int)) - (k : Nat) * x.2) < 3)))
        (et_or (et_test (ev_op (ev_var rfl) ev_c (rv_I0 (g := fun i j => .bl (decide (i < j)))))) fun _ => et_or (et_test (ev_op (ev_op (ev_var rfl) ev_c (rv_I (C := fun _ j => j ≠ 0) (g := fun i j => .int (i.fmod j)) (by decide))) ev_c (rv_eq rfl))) fun _ => et_test (ev_op (abs_ev (ev_op (ev_var rfl) (ev_var rfl) (rv_I0 (g := fun i j => .int (i - j))))) ev_c (rv_I0 (g := fun i j => .bl (decide (i < j)))))) (fun _ H9 e9 => ?_) (fun _ H9 e9 => ⟨_, _, rfl, w9.same e9, hz9.tk (.same e9)⟩)
      have w10 := w9.same e9
      have t0 : (0 : Int) ≤ 0 + (n : Int) := by omega
      have t1 : 0 + (n : Int) ≤ 1000000000 := by omega
      refine sr_run (tl := tVar 11) (lim := 0 + (n : Int)) w10 hx hy rfl rfl rfl rfl (ev_var rfl) ⟨t0, t1⟩ H9 (Ex.refl _) _ fun u H10 e10 ⟨zo, hzo, res⟩ => ?_
      have w11 := w10.same e10
      have hz11 := (hz9.tk (.same e9)).tk (.same e10)
      have of := res.few (w6.par hx hy _)
      obtain ⟨nl, ne⟩ := best.any pok hbn (t := 0 + (n : Int)) t0 res
      have eL := le_ev (σ := ([some (.ref a0), some (.ref h), some (.ref l), some (.ref t), some (.int ln), some dv, some (.ref tv), some (.int i), some (.int j), some (.int ((k : Nat) * x.2)), some v, some (.int (0 + (n : Int))), some u, none, none, none, none, none, none] : L2.St)) (m := 12) (n := 10) rfl rfl hzo hz11 of zf
      refine s_when (b := decide (zo.1 * z.2 < z.1 * zo.2) || (decide ((0 + (n : Int)) < (k : Nat) * x.2) && PyData.eqv (.tuple [.int zo.1, .int zo.2]) (.tuple [.int z.1, .int z.2]))) (et_or (et_B eL) fun _ => et_and (et_test (ev_op (ev_var rfl) (ev_var rfl) (rv_I0 (g := fun i j => .bl (decide (i < j)))))) fun _ => eq_ev (K := K) (edp_ev (ev_var rfl) fun H11 e11 => (hzo.tk (.same e11)).dp) (edp_ev (ev_var rfl) fun H11 e11 => (hz11.tk (.same e11)).dp) (pc_sh zo) (pc_sh z)) (fun hb => ?_) (fun _ H11 e11 => ⟨_, _, rfl, w11.same e11, hz11.tk (.same e11)⟩)
      rw [pc_eqv, Bool.or_eq_true, Bool.and_eq_true] at hb
      rcases hb with hb | ⟨hb, hc⟩
      · exact absurd (of_decide_eq_true hb) nl
      · exact absurd (of_decide_eq_true hc) (ne (of_decide_eq_true hb))
    rintro σ H9 ⟨v11, v12, rfl, w9, hz9⟩
    -- without a limit
    refine ⟨fun σ H' => ∃ (u : V) (zf : Int × Int), σ = ([some (.ref a0), some (.ref h), some (.ref l), some (.ref t), some (.int ln), some dv, some (.ref tv), some (.int i), some (.int j), some (.int ((k : Nat) * x.2)), some v, v11, v12, some u, none, none, none, none, none] : L2.St) ∧ Lw K G.C G.CV G.tb l t p tv vs L ln dv (.ref G.eT) ds i j H' ∧ PcA K H' v z ∧ PcA K H' u zf ∧ Res ⟨ln, ds, x, y, 1000000000⟩ zf, ?_, ?_⟩
    · refine sr_run (tl := tOp rPw (tC (.int 10)) (tC (.int 9))) (lim := 1000000000) w9 hx hy rfl rfl rfl rfl (ev_is (ev_pw ev_c ev_c ⟨by decide, by decide, by decide⟩) rfl) ⟨by decide, by decide⟩ H9 (Ex.refl _) _ fun u H10 e10 ⟨zf, hzf, res⟩ => ?_
      exact ⟨u, zf, rfl, w9.same e10, hz9.tk (.same e10), hzf, res⟩
    rintro σ H10 ⟨u, zfar, rfl, w10, hz10, hu10, resf⟩
    have ff := resf.few (w6.par hx hy _)
    refine ⟨fun σ H' => σ = ([some (.ref a0), some (.ref h), some (.ref l), some (.ref t), some (.int ln), some dv, some (.ref tv), some (.int i), some (.int j), some (.int ((k : Nat) * x.2)), some v, v11, v12, some u, none, none, none, none, none] : L2.St) ∧ Lw K G.C G.CV G.tb l t p tv vs L ln dv (.ref G.eT) ds i j H', ?_, ?_⟩
    · refine s_when (b := decide (zfar.1 * z.2 < z.1 * zfar.2)) (et_B (le_ev rfl rfl hu10 hz10 ff zf)) (fun hb => ?_) (fun _ H11 e11 => ⟨rfl, w10.same e11⟩)
      exact absurd (of_decide_eq_true hb) (best.any pok hbn (t := 1000000000) (by decide) resf).1
    rintro σ H11 ⟨rfl, w11⟩
    -- a day more or less
    refine ⟨fun σ H' => ∃ (o : Addr), σ = ([some (.ref a0), some (.ref h), some (.ref l), some (.ref t), some (.int ln), some dv, some (.ref tv), some (.int i), some (.int j), some (.int ((k : Nat) * x.2)), some v, v11, v12, some u, some (.ref o), none, none, none, none] : L2.St) ∧ Tabs G.tb H' ∧ H' l = some (.lst vs) ∧ vs.length = L.length ∧ Odd K G.C G.CV H' t p o L, ?_, ?_⟩
    · obtain ⟨dxv, htv⟩ := w11.tv.1
      refine ⟨_, rfl, tv, dxv, _, rfl, htv, rfl, tv, ln, dv, .ref G.eT, ds, rfl, w11.tv, l1, l2, gd, nd, fun o o' H' sm tvo => ?_⟩
      have w12 := w11.same sm
      exact ⟨o, rfl, w12.T, w12.hl, w12.ps.len, ⟨w12.ta, by omega, n1, ok3, ⟨ln, ds, dv, o', tvo, l1, l2⟩⟩⟩
    rintro σ H12 ⟨o, rfl, T12, hl12, vl12, od12⟩
    -- the works
    refine ⟨T12, fun f1 c1 H13 eA Ta nf1 ho1 hc1 => ⟨Ta, fun f2 c2 t2 H14 eB Tb nf2 nt2 ht2 ho2 hc2 => ⟨s1000 (show 2 ≤ 1000 by decide), fun D nD => ?_⟩⟩⟩
    refine ⟨.ref D, rfl, .inl ⟨rfl, _, SqL.of upd_same⟩, tabs_same Tb (same_new nD), fun f3 c3 t3 H16 eC Tc nf3 nt3 ht3 ho3 hc3 => ?_⟩
    have hD16 : H16 D = some (.lst [.ref f1, .ref f2]) := eC _ _ upd_same (fun ps z => by cases z)
    refine ⟨D, _, _, rfl, rfl, hD16, small1000 (show 2 ≤ 1000 by decide), ?_⟩
    refine ⟨s1000 (show 1 ≤ 1000 by decide), fun e1 ne1 => ⟨s1000 (show 1 ≤ 1000 by decide), fun e2 ne2 => ⟨s1000 (show 3 ≤ 1000 by decide), fun e3 ne3 => ⟨s1000 (show 3 ≤ 1000 by decide), fun Y nY => ?_⟩⟩⟩⟩
    have k16 : KN H16 (upd H16 D (.lst ([.ref f1, .ref f2] ++ [.ref f3]))) := fun b u e _ nl => by
      rw [upd_ne (fun z => by rw [z, hD16] at e; cases e; exact nl _ rfl)]
      exact e
    have kA : KN H12 H13 := fun b u e nt _ => eA _ _ e nt
    have kB : KN H13 H14 := fun b u e nt _ => eB _ _ e nt
    have kC : KN H14 H16 := fun b u e nt _ => eC _ _ ((same_new nD) _ _ e) nt
    have s20 : Same (upd H16 D (.lst ([.ref f1, .ref f2] ++ [.ref f3]))) (upd (upd (upd (upd (upd H16 D (.lst ([.ref f1, .ref f2] ++ [.ref f3]))) e1 (.tup [.str "UnknownPass"])) e2 (.tup [.str "UnknownPass"])) e3 (.tup [.str "InvalidTravel", .str "exceptions", .int 0])) Y (.lst [.ref e1, .ref e2, .ref e3])) :=
      (((same_new ne1).trans (same_new ne2)).trans (same_new ne3)).trans (same_new nY)
    have kS : KN _ _ := fun b u e _ _ => s20 b u e
    have hdD : (upd (upd (upd (upd (upd H16 D (.lst ([.ref f1, .ref f2] ++ [.ref f3]))) e1 (.tup [.str "UnknownPass"])) e2 (.tup [.str "UnknownPass"])) e3 (.tup [.str "InvalidTravel", .str "exceptions", .int 0])) Y (.lst [.ref e1, .ref e2, .ref e3])) D = some (.lst [.ref f1, .ref f2, .ref f3]) := s20 _ _ upd_same
    have hY : (upd (upd (upd (upd (upd H16 D (.lst ([.ref f1, .ref f2] ++ [.ref f3]))) e1 (.tup [.str "UnknownPass"])) e2 (.tup [.str "UnknownPass"])) e3 (.tup [.str "InvalidTravel", .str "exceptions", .int 0])) Y (.lst [.ref e1, .ref e2, .ref e3])) Y = some (.lst [.ref e1, .ref e2, .ref e3]) := upd_same
    have g1 : (upd (upd (upd (upd (upd H16 D (.lst ([.ref f1, .ref f2] ++ [.ref f3]))) e1 (.tup [.str "UnknownPass"])) e2 (.tup [.str "UnknownPass"])) e3 (.tup [.str "InvalidTravel", .str "exceptions", .int 0])) Y (.lst [.ref e1, .ref e2, .ref e3])) e1 = some (.tup [.str "UnknownPass"]) := (same_new nY) _ _ ((same_new ne3) _ _ ((same_new ne2) _ _ upd_same))
    have g2 : (upd (upd (upd (upd (upd H16 D (.lst ([.ref f1, .ref f2] ++ [.ref f3]))) e1 (.tup [.str "UnknownPass"])) e2 (.tup [.str "UnknownPass"])) e3 (.tup [.str "InvalidTravel", .str "exceptions", .int 0])) Y (.lst [.ref e1, .ref e2, .ref e3])) e2 = some (.tup [.str "UnknownPass"]) := (same_new nY) _ _ ((same_new ne3) _ _ upd_same)
    have g3 : (upd (upd (upd (upd (upd H16 D (.lst ([.ref f1, .ref f2] ++ [.ref f3]))) e1 (.tup [.str "UnknownPass"])) e2 (.tup [.str "UnknownPass"])) e3 (.tup [.str "InvalidTravel", .str "exceptions", .int 0])) Y (.lst [.ref e1, .ref e2, .ref e3])) e3 = some (.tup [.str "InvalidTravel", .str "exceptions", .int 0]) := (same_new nY) _ _ upd_same
    have ho1' := kS _ _ (k16 _ _ (kC _ _ (kB _ _ ho1 lam_nt lam_nl) lam_nt lam_nl) lam_nt lam_nl) lam_nt lam_nl
    have hc1' := kS _ _ (k16 _ _ (kC _ _ (kB _ _ hc1 code_nt code_nl) code_nt code_nl) code_nt code_nl) code_nt code_nl
    have ho2' := kS _ _ (k16 _ _ (kC _ _ ho2 lam_nt lam_nl) lam_nt lam_nl) lam_nt lam_nl
    have hc2' := kS _ _ (k16 _ _ (kC _ _ hc2 code_nt code_nl) code_nt code_nl) code_nt code_nl
    have ht2' := kS _ _ (k16 _ _ (kC _ _ ht2 (fun ps z => by cases z) (fun ps z => by cases z)) (fun ps z => by cases z) (fun ps z => by cases z)) (fun ps z => by cases z) (fun ps z => by cases z)
    have ho3' := kS _ _ (k16 _ _ ho3 lam_nt lam_nl) lam_nt lam_nl
    have hc3' := kS _ _ (k16 _ _ hc3 code_nt code_nl) code_nt code_nl
    have ht3' := kS _ _ (k16 _ _ ht3 (fun ps z => by cases z) (fun ps z => by cases z)) (fun ps z => by cases z) (fun ps z => by cases z)
    have od20 := ((((od12.kn kA).kn kB).kn kC).kn k16).kn kS
    have hl14 := eB _ _ (eA _ _ hl12 (fun ps z => by cases z)) (fun ps z => by cases z)
    have hl20 := s20 l _ (show (upd H16 D (.lst ([.ref f1, .ref f2] ++ [.ref f3]))) l = some (.lst vs) by
      rw [upd_ne (ne_of_none hl14 nD)]
      exact eC _ _ ((same_new nD) _ _ hl14) (fun ps z => by cases z))
    revert hdD hY g1 g2 g3 ho1' hc1' ho2' hc2' ht2' ho3' hc3' ht3' od20 hl20
    clear s20 kS
    generalize (upd (upd (upd (upd (upd H16 D (.lst ([.ref f1, .ref f2] ++ [.ref f3]))) e1 (.tup [.str "UnknownPass"])) e2 (.tup [.str "UnknownPass"])) e3 (.tup [.str "InvalidTravel", .str "exceptions", .int 0])) Y (.lst [.ref e1, .ref e2, .ref e3])) = H20
    intro hdD hY g1 g2 g3 ho1' hc1' ho2' hc2' ht2' ho3' hc3' ht3' od20 hl20
    have kn : ∀ {H' : Hp}, Ex H20 H' → KN H20 H' := fun e b u h _ _ => e _ _ h
    show tRet (tOp (rEqD K) (tLcT (cxOf CX0 P w K mg base NL "law" (defScope sLaw) f (.ref cc) A outer s H E).nox (L2.CX P w) 9 (spOut G.cV G.cU) (tVar 15)) (tVar 16)) { nx := fun _ H' => Q .non H', rt := Q } ([some (.ref a0), some (.ref h), some (.ref l), some (.ref t), some (.int ln), some dv, some (.ref tv), some (.int i), some (.int j), some (.int ((k : Nat) * x.2)), some v, v11, v12, some u, some (.ref o), some (.ref D), some (.ref Y), none, none] : L2.St) H20
    refine s_retEq (K := K) (d := wD) (v := .ref Y) ?_ (fun H21 e21 => .lst (.inl (.inl (e21 _ _ hY))) (.cons (.tup (.of (e21 _ _ g1)) (.cons (.str _) .nil)) (.cons (.tup (.of (e21 _ _ g2)) (.cons (.str _) .nil)) (.cons (.tup (.of (e21 _ _ g3)) (.cons (.str _) (.cons (.str _) (.cons (.int _) .nil)))) .nil)))) wSh (fun H21 => ?_) fun H21 e21 Q21 q21 => ?_
    · rfl
    · exact q H21
    refine ⟨_, rfl, D, [.ref f1, .ref f2, .ref f3], rfl, show 3 ≤ 1000 by decide, ?_⟩
    refine ⟨.of (e21 _ _ hdD), f1, mkF qLam lam1 _ c1 .none, ["_law_tariff_here", "_law_passes_here", "_law_odd"], [3, 2, 14], ts1 K G.C G.CV G.cU, rfl, lok1 G, e21 _ _ ho1', e21 _ _ hc1', dv_none, fun ok => Caps.made ok hf1 hr1 rfl, ?_⟩
    refine ⟨t, p, o, l, vs, L, rfl, e21 _ _ hl20, vl12, od20.kn (kn e21), fun H22 s22 => .inl ⟨rfl, fun r1 H23 s23 h23 => ?_⟩⟩
    have e23 : Ex H20 H23 := (Ex.trans e21 s22).trans s23
    refine ⟨.of (e23 _ _ hdD), f2, mkF qLam lam2 _ c2 (.ref t2), ["_law_tariff_here", "_law_odd"], [3, 14], ts2 K G.C G.CV G.cU, rfl, lok2 G, e23 _ _ ho2', e23 _ _ hc2', fun t z => ⟨0, ?_⟩, fun ok => Caps.made ok hf2 hr2 rfl, ?_⟩
    · have z' : Value.ref t2 = Value.ref t := z
      cases z'
      exact e23 _ _ ht2'
    refine ⟨t, p, o, L, rfl, od20.kn (kn e23), fun H24 s24 => .inl ⟨rfl, fun r2 H25 s25 h25 => ?_⟩⟩
    have e25 : Ex H20 H25 := (Ex.trans e23 s24).trans s25
    refine ⟨.of (e25 _ _ hdD), f3, mkF qLam lam3 _ c3 (.ref t3), ["_law_tariff_here", "_law_odd"], [3, 14], ts3 K G.C G.CV G.cV, rfl, lok3 G, e25 _ _ ho3', e25 _ _ hc3', fun t z => ⟨0, ?_⟩, fun ok => Caps.made ok hf3 hr3 rfl, ?_⟩
    · have z' : Value.ref t3 = Value.ref t := z
      cases z'
      exact e25 _ _ ht3'
    refine ⟨t, p, o, L, rfl, od20.kn (kn e25), fun dd H26 s26 hdd => .inr ⟨rfl, dd, "exceptions", 0, rfl, hdd, fun r3 H27 s27 h27 => ?_⟩⟩
    have e27 : Ex H20 H27 := (Ex.trans e25 s26).trans s27
    refine ⟨.of (e27 _ _ hdD), fun D' nD' => q21 _ _ ?_ ?_⟩
    · exact (((((Ex.trans s22 s23).trans s24).trans s25).trans s26).trans s27).trans (Ex.new nD')
    · exact .lst (.of upd_same) (dps_ex (Ex.new nD') (.cons (.tup (.of (s27 _ _ (s26 _ _ (s25 _ _ (s24 _ _ h23))))) (.cons (.str _) .nil)) (.cons (.tup (.of (s27 _ _ (s26 _ _ h25))) (.cons (.str _) .nil)) (.cons (.tup (.of h27) (.cons (.str _) (.cons (.str _) (.cons (.int _) .nil)))) .nil))))
end
end Sea

set_option Elab.async false
set_option linter.all false
set_option maxRecDepth 100000
set_option maxHeartbeats 8000000
namespace Sea
open PySem PySem.Spec PyProof.Rows L2 LamX NdefX ClX StX
theorem all_mk {l : PySem.W.OpenLaw} {w : World} {K : PySem.W.Frag} {h : Heap} {mg : Str → Option Value} {fa : Addr} (X : K.In h) (Gn : h.Ns mainGlobals mg) (hfa : mg "law" = some (.ref fa))
    {C CV D S CB cP cI cV cU cN pP pL pR pRl pRd pEx pBt cc cda cl Pt eT fI fV fT fTv fP fL fR fRl fRd fEx fWx fBt fBb fBc fBg fSI fSw fBy fVN fVP fVC fFr fCd fSr fBl fSt fD fOu fPas fTar fDay fLe fLaw : Addr}
    {t0 : Tok} {t1 : Tok} {t2 : Tok} {tM : Tok} {u0 : Tok} {u1 : Tok} {u2 : Tok} {nmI qI : Str} {xNI : Addr} {xbsI xbmI xsubI : List Value} {xsnI : List Str} {xabI : Bool} {xcolI : Option Bool} {xddI : Option Addr} {xm0I xm1I xm2I xm3I xm5I : Option Value} {nmV qV : Str} {xNV : Addr} {xbsV xbmV xsubV : List Value} {xsnV : List Str} {xabV : Bool} {xcolV : Option Bool} {xddV : Option Addr} {xm0V xm1V xm2V xm3V xm5V : Option Value} {ocT : Value} {dcT : Value} {pmT : Value} {ctT : Value} {cdT : Value} {kVT : Value} {odT anT : Option Addr} {slT : Array (Option Value)} {ocI : Value} {dcI : Value} {pmI : Value} {ctI : Value} {cdI : Value} {kVI : Value} {odI anI : Option Addr} {slI : Array (Option Value)} {ocXV : Value} {dcXV : Value} {pmXV : Value} {ctXV : Value} {cdXV : Value} {kVXV : Value} {odXV anXV : Option Addr} {slXV : Array (Option Value)} {reP : List Value} {ocP : Value} {dcP : Value} {pmP : Value} {ctP : Value} {cdP : Value} {kVP : Value} {odP anP : Option Addr} {slP : Array (Option Value)} {reL : List Value} {ocL : Value} {dcL : Value} {pmL : Value} {ctL : Value} {cdL : Value} {kVL : Value} {odL anL : Option Addr} {slL : Array (Option Value)} {reR : List Value} {ocR : Value} {dcR : Value} {pmR : Value} {ctR : Value} {cdR : Value} {kVR : Value} {odR anR : Option Addr} {slR : Array (Option Value)} {ocTv : Value} {dcTv : Value} {pmTv : Value} {ctTv : Value} {cdTv : Value} {odTv anTv : Option Addr} {slTv : Array (Option Value)} {kD : Addr} {eTd : Option Addr} {eTn : Nat} {eTs : Array (Option Value)} {reRl : List Value} {ocRl : Value} {dcRl : Value} {pmRl : Value} {ctRl : Value} {cdRl : Value} {kVRl : Value} {odRl anRl : Option Addr} {slRl : Array (Option Value)} {reRd : List Value} {ocRd : Value} {dcRd : Value} {pmRd : Value} {ctRd : Value} {cdRd : Value} {kVRd : Value} {odRd anRd : Option Addr} {slRd : Array (Option Value)} {reEx : List Value} {ocEx : Value} {dcEx : Value} {pmEx : Value} {ctEx : Value} {cdEx : Value} {kVEx : Value} {odEx anEx : Option Addr} {slEx : Array (Option Value)} {ocWx : Value} {dcWx : Value} {pmWx : Value} {ctWx : Value} {cdWx : Value} {kVWx : Value} {odWx anWx : Option Addr} {slWx : Array (Option Value)} {reBt : List Value} {ocBt : Value} {dcBt : Value} {pmBt : Value} {ctBt : Value} {cdBt : Value} {kVBt : Value} {odBt anBt : Option Addr} {slBt : Array (Option Value)} {ocBb : Value} {dcBb : Value} {pmBb : Value} {ctBb : Value} {cdBb : Value} {kVBb : Value} {odBb anBb : Option Addr} {slBb : Array (Option Value)} {ocBc : Value} {dcBc : Value} {pmBc : Value} {ctBc : Value} {cdBc : Value} {kVBc : Value} {odBc anBc : Option Addr} {slBc : Array (Option Value)} {ocBg : Value} {dcBg : Value} {pmBg : Value} {ctBg : Value} {cdBg : Value} {kVBg : Value} {odBg anBg : Option Addr} {slBg : Array (Option Value)} {ocSI : Value} {dcSI : Value} {pmSI : Value} {ctSI : Value} {cdSI : Value} {kVSI : Value} {odSI anSI : Option Addr} {slSI : Array (Option Value)} {ocSw kVSw dcSw pmSw ctSw : Value} {odSw anSw : Option Addr} {slSw : Array (Option Value)} {sccl sclv : Value} {scdd scld : Option Addr} {scvs : Array Value} {sccs scsl : Array (Option Value)} {scfile : Str} {sctf : Tok} {scls : ClassData} {ocBy : Value} {dcBy : Value} {pmBy : Value} {ctBy : Value} {cdBy : Value} {kVBy : Value} {odBy anBy : Option Addr} {slBy : Array (Option Value)} {ocVN : Value} {dcVN : Value} {pmVN : Value} {ctVN : Value} {cdVN : Value} {kVVN : Value} {odVN anVN : Option Addr} {slVN : Array (Option Value)} {ocVP : Value} {dcVP : Value} {pmVP : Value} {ctVP : Value} {cdVP : Value} {kVVP : Value} {odVP anVP : Option Addr} {slVP : Array (Option Value)} {ocVC : Value} {dcVC : Value} {pmVC : Value} {ctVC : Value} {cdVC : Value} {kVVC : Value} {odVC anVC : Option Addr} {slVC : Array (Option Value)} {ocFr : Value} {dcFr : Value} {pmFr : Value} {ctFr : Value} {cdFr : Value} {kVFr : Value} {odFr anFr : Option Addr} {slFr : Array (Option Value)} {ocCd : Value} {dcCd : Value} {pmCd : Value} {ctCd : Value} {cdCd : Value} {kVCd : Value} {odCd anCd : Option Addr} {slCd : Array (Option Value)} {ocSr : Value} {dcSr : Value} {pmSr : Value} {ctSr : Value} {cdSr : Value} {kVSr : Value} {odSr anSr : Option Addr} {slSr : Array (Option Value)} {ocBl : Value} {dcBl : Value} {pmBl : Value} {ctBl : Value} {cdBl : Value} {kVBl : Value} {odBl anBl : Option Addr} {slBl : Array (Option Value)} {ocSt : Value} {dcSt : Value} {pmSt : Value} {ctSt : Value} {cdSt : Value} {kVSt : Value} {odSt anSt : Option Addr} {slSt : Array (Option Value)} {ocD : Value} {dcD : Value} {pmD : Value} {ctD : Value} {cdD : Value} {kVD : Value} {odD anD : Option Addr} {slD : Array (Option Value)} {ocOu : Value} {dcOu : Value} {pmOu : Value} {ctOu : Value} {cdOu : Value} {kVOu : Value} {odOu anOu : Option Addr} {slOu : Array (Option Value)} {ocPas : Value} {dcPas : Value} {pmPas : Value} {ctPas : Value} {cdPas : Value} {kVPas : Value} {odPas anPas : Option Addr} {slPas : Array (Option Value)} {ocTar : Value} {dcTar : Value} {pmTar : Value} {ctTar : Value} {cdTar : Value} {kVTar : Value} {odTar anTar : Option Addr} {slTar : Array (Option Value)} {ocDay : Value} {dcDay : Value} {pmDay : Value} {ctDay : Value} {cdDay : Value} {kVDay : Value} {odDay anDay : Option Addr} {slDay : Array (Option Value)} {ocLe : Value} {dcLe : Value} {pmLe : Value} {ctLe : Value} {cdLe : Value} {kVLe : Value} {odLe anLe : Option Addr} {slLe : Array (Option Value)} {ocLaw : Value} {dcLaw : Value} {pmLaw : Value} {ctLaw : Value} {kVLaw : Value} {odLaw anLaw : Option Addr} {slLaw : Array (Option Value)}
    (hT : h.get? Pt = some { cls := .none, data := .fields #[] })
    (aC : PySem.W.nsIn K mainGlobals "Tariff" = some (some (.ref C)))
    (aCV : PySem.W.nsIn K mainGlobals "Travel" = some (some (.ref CV)))
    (aD : PySem.W.nsIn K mainGlobals "SwitchBuyer" = some (some (.ref D)))
    (aS : PySem.W.nsIn K mainGlobals "Spending" = some (some (.ref S)))
    (aP : PySem.W.nsIn K mainGlobals "PassError" = some (some (.ref cP)))
    (aI : PySem.W.nsIn K mainGlobals "InvalidTariff" = some (some (.ref cI)))
    (aV : PySem.W.nsIn K mainGlobals "InvalidTravel" = some (some (.ref cV)))
    (aU : PySem.W.nsIn K mainGlobals "UnknownPass" = some (some (.ref cU)))
    (aN : PySem.W.nsIn K mainGlobals "InvalidCount" = some (some (.ref cN)))
    (z_enumerate : PySem.W.nsIn K mainGlobals "enumerate" = some none)
    (z_len : PySem.W.nsIn K mainGlobals "len" = some none)
    (z_tuple : PySem.W.nsIn K mainGlobals "tuple" = some none)
    (z_int : PySem.W.nsIn K mainGlobals "int" = some none)
    (z_range : PySem.W.nsIn K mainGlobals "range" = some none)
    (z_max : PySem.W.nsIn K mainGlobals "max" = some none)
    (z_min : PySem.W.nsIn K mainGlobals "min" = some none)
    (z_abs : PySem.W.nsIn K mainGlobals "abs" = some none)
    (z_sorted : PySem.W.nsIn K mainGlobals "sorted" = some none)
    (z_super : PySem.W.nsIn K mainGlobals "super" = some none)
    (pgC : PySem.W.plainGet K C Str.empty = true)
    (hdC : PySem.W.hasDictIn K C = true)
    (poC : PySem.W.plainOver K C = true)
    (saC : PySem.W.findIn K (.ref C) "__setattr__" = some (some (.builtin "object.__setattr__")))
    (mkC : PySem.W.makesIn K C = true)
    (kpCC : PySem.W.keepIn K (.ref C) = true)
    (pgV : PySem.W.plainGet K CV Str.empty = true)
    (hdV : PySem.W.hasDictIn K CV = true)
    (poV : PySem.W.plainOver K CV = true)
    (saV : PySem.W.findIn K (.ref CV) "__setattr__" = some (some (.builtin "object.__setattr__")))
    (mkV : PySem.W.makesIn K CV = true)
    (kpCV : PySem.W.keepIn K (.ref CV) = true)
    (pgD : PySem.W.plainGet K D Str.empty = true)
    (hdD : PySem.W.hasDictIn K D = true)
    (poD : PySem.W.plainOver K D = true)
    (saD : PySem.W.findIn K (.ref D) "__setattr__" = some (some (.builtin "object.__setattr__")))
    (mkD : PySem.W.makesIn K D = true)
    (kpCD : PySem.W.keepIn K (.ref D) = true)
    (pgS : PySem.W.plainGet K S Str.empty = true)
    (hdS : PySem.W.hasDictIn K S = true)
    (poS : PySem.W.plainOver K S = true)
    (saS : PySem.W.findIn K (.ref S) "__setattr__" = some (some (.builtin "object.__setattr__")))
    (mkS : PySem.W.makesIn K S = true)
    (kpCS : PySem.W.keepIn K (.ref S) = true)
    (nO : PySem.W.findIn K (.ref C) "offers" = some none)
    (rd : PySem.W.readsIn K C (.type "type") = true)
    (ga : PySem.W.specialIn K (.ref C) "__getattribute__" = some (some (.builtin "type.__getattribute__")))
    (v0 : PySem.W.findCls K (.ref C) (.type "type") "MAX_LENGTH" = some (.val (.int 28 t0)))
    (v1 : PySem.W.findCls K (.ref C) (.type "type") "MAX_PRICE" = some (.val (.int 1000000 t1)))
    (v2 : PySem.W.findCls K (.ref C) (.type "type") "MAX_PASSES" = some (.val (.int 6 t2)))
    (rdD : PySem.W.readsIn K D (.type "type") = true)
    (gaD : PySem.W.specialIn K (.ref D) "__getattribute__" = some (some (.builtin "type.__getattribute__")))
    (vM : PySem.W.findCls K (.ref D) (.type "type") "MAX_LIMIT" = some (.val (.int 1000000000 tM)))
    (nA0 : PySem.W.findIn K (.ref CV) "size" = some none)
    (nA1 : PySem.W.findIn K (.ref CV) "pattern" = some none)
    (nA2 : PySem.W.findIn K (.ref CV) "odd_days" = some none)
    (nB0 : PySem.W.findIn K (.ref D) "offer" = some none)
    (nB1 : PySem.W.findIn K (.ref D) "short" = some none)
    (nB2 : PySem.W.findIn K (.ref D) "long" = some none)
    (nB3 : PySem.W.findIn K (.ref D) "limit" = some none)
    (nS0 : PySem.W.findIn K (.ref S) "totals" = some none)
    (nS1 : PySem.W.findIn K (.ref S) "bought" = some none)
    (nS2 : PySem.W.findIn K (.ref S) "start" = some none)
    (nS3 : PySem.W.findIn K (.ref S) "period" = some none)
    (nS4 : PySem.W.findIn K (.ref S) "gain" = some none)
    (w0 : PySem.W.nsIn K mainGlobals "MAX_ROUND" = some (some (.int 14 u0)))
    (w1 : PySem.W.nsIn K mainGlobals "MAX_EXCEPTIONS" = some (some (.int 6 u1)))
    (w2 : PySem.W.nsIn K mainGlobals "MAX_DAYS" = some (some (.int 1000000000000000000 u2)))
    (xLI : K.lookup cI = some (excClassObj nmI qI cI xNI xbsI xbmI true xsnI xsubI xabI xcolI xddI xm0I xm1I xm2I xm3I xm5I "ValueError.__new__"))
    (xrvI : PySem.HandSPX.refsVE xbmI = true)
    (xsaI : PySem.W.findIn K (.ref cI) "__setattr__" = some (some (.builtin "object.__setattr__")))
    (sI : PySem.W.subIn K (.ref cI) (.type "BaseException") = some true)
    (yI : PySem.W.typeIn K (.ref cI) = some (.type "type"))
    (kpI : PySem.W.keepIn K (.ref cI) = true)
    (nI_index : PySem.W.findIn K (.ref cI) "index" = some none)
    (iI : PySem.W.findIn K (.ref cI) "__init__" = some (some (.ref fI)))
    (tI : PySem.W.typeIn K (.ref fI) = some (.type "function"))
    (egI : PySem.W.findIn K (.ref cI) "__getattribute__" = some (some (.builtin "BaseException.__getattribute__")))
    (ekI : PySem.W.findIn K (.ref cI) "__getattr__" = some none)
    (ehI : PySem.W.hasDictIn K cI = true)
    (xLV : K.lookup cV = some (excClassObj nmV qV cV xNV xbsV xbmV true xsnV xsubV xabV xcolV xddV xm0V xm1V xm2V xm3V xm5V "ValueError.__new__"))
    (xrvV : PySem.HandSPX.refsVE xbmV = true)
    (xsaV : PySem.W.findIn K (.ref cV) "__setattr__" = some (some (.builtin "object.__setattr__")))
    (sV : PySem.W.subIn K (.ref cV) (.type "BaseException") = some true)
    (yV : PySem.W.typeIn K (.ref cV) = some (.type "type"))
    (kpV : PySem.W.keepIn K (.ref cV) = true)
    (nV_part : PySem.W.findIn K (.ref cV) "part" = some none)
    (nV_index : PySem.W.findIn K (.ref cV) "index" = some none)
    (iV : PySem.W.findIn K (.ref cV) "__init__" = some (some (.ref fV)))
    (tV : PySem.W.typeIn K (.ref fV) = some (.type "function"))
    (egV : PySem.W.findIn K (.ref cV) "__getattribute__" = some (some (.builtin "BaseException.__getattribute__")))
    (ekV : PySem.W.findIn K (.ref cV) "__getattr__" = some none)
    (ehV : PySem.W.hasDictIn K cV = true)
    (prd : PySem.W.readsIn K cP (.type "type") = true)
    (pga : PySem.W.specialIn K (.ref cP) "__getattribute__" = some (some (.builtin "type.__getattribute__")))
    (pat : PySem.W.findCls K (.ref cP) (.type "type") "__init__" = some (.val (.builtin "ValueError.__init__")))
    (qU : PySem.W.excIn K cU [.type "ValueError", .type "Exception", .type "BaseException", .type "object"] "ValueError.__new__" = true)
    (kU : PySem.W.keepIn K (.ref cU) = true)
    (sU : PySem.W.subIn K (.ref cU) (.type "BaseException") = some true)
    (yU : PySem.W.typeIn K (.ref cU) = some (.type "type"))
    (qN : PySem.W.excIn K cN [.type "ValueError", .type "Exception", .type "BaseException", .type "object"] "ValueError.__new__" = true)
    (kN : PySem.W.keepIn K (.ref cN) = true)
    (sN : PySem.W.subIn K (.ref cN) (.type "BaseException") = some true)
    (yN : PySem.W.typeIn K (.ref cN) = some (.type "type"))
    (xVV : PySem.W.exmOne K (.ref cV) (.ref cV) = some true)
    (xUV : PySem.W.exmOne K (.ref cU) (.ref cV) = some false)
    (xUU : PySem.W.exmOne K (.ref cU) (.ref cU) = some true)
    (atT : PySem.W.findIn K (.ref C) "__init__" = some (some (.ref fT)))
    (ifT : PySem.W.isFn K (.ref fT) = true)
    (lT : K.lookup fT = some ⟨ocT, odT, .func (PySem.W.fnOf "__init__" "Tariff.__init__" (defArgs sInit) (defBody sInit) (defScope sInit) .none kVT dcT pmT anT cdT ctT), slT⟩)
    (cd_T : PySem.W.codeIn K cdT "Tariff.__init__" = true)
    (kp_T : PySem.W.keepIn K (.ref fT) = true)
    (lI : K.lookup fI = some ⟨ocI, odI, .func (PySem.W.fnOf "__init__" "InvalidTariff.__init__" (defArgs sIT) (defBody sIT) (defScope sIT) .none kVI dcI pmI anI cdI ctI), slI⟩)
    (cd_I : PySem.W.codeIn K cdI "InvalidTariff.__init__" = true)
    (kp_I : PySem.W.keepIn K (.ref fI) = true)
    (lXV : K.lookup fV = some ⟨ocXV, odXV, .func (PySem.W.fnOf "__init__" "InvalidTravel.__init__" (defArgs sIV) (defBody sIV) (defScope sIV) .none kVXV dcXV pmXV anXV cdXV ctXV), slXV⟩)
    (cd_XV : PySem.W.codeIn K cdXV "InvalidTravel.__init__" = true)
    (kp_XV : PySem.W.keepIn K (.ref fV) = true)
    (atP : PySem.W.findIn K (.ref C) "passes" = some (some (.ref pP)))
    (geP : PySem.W.specialIn K (.ref pP) "__get__" = some (some (.builtin "property.__get__")))
    (taP : PySem.W.takesIn K (.ref pP) = some true)
    (rcP : PySem.W.recIn K pP "property" = some (.ref fP :: reP))
    (lP : K.lookup fP = some ⟨ocP, odP, .func (PySem.W.fnOf "passes" "Tariff.passes" (defArgs sPasses) (defBody sPasses) (defScope sPasses) .none kVP dcP pmP anP cdP ctP), slP⟩)
    (cd_P : PySem.W.codeIn K cdP "Tariff.passes" = true)
    (kp_P : PySem.W.keepIn K (.ref fP) = true)
    (atL : PySem.W.findIn K (.ref C) "lengths" = some (some (.ref pL)))
    (geL : PySem.W.specialIn K (.ref pL) "__get__" = some (some (.builtin "property.__get__")))
    (taL : PySem.W.takesIn K (.ref pL) = some true)
    (rcL : PySem.W.recIn K pL "property" = some (.ref fL :: reL))
    (lL : K.lookup fL = some ⟨ocL, odL, .func (PySem.W.fnOf "lengths" "Tariff.lengths" (defArgs sLengths) (defBody sLengths) (defScope sLengths) .none kVL dcL pmL anL cdL ctL), slL⟩)
    (cd_L : PySem.W.codeIn K cdL "Tariff.lengths" = true)
    (kp_L : PySem.W.keepIn K (.ref fL) = true)
    (atR : PySem.W.findIn K (.ref C) "prices" = some (some (.ref pR)))
    (geR : PySem.W.specialIn K (.ref pR) "__get__" = some (some (.builtin "property.__get__")))
    (taR : PySem.W.takesIn K (.ref pR) = some true)
    (rcR : PySem.W.recIn K pR "property" = some (.ref fR :: reR))
    (lR : K.lookup fR = some ⟨ocR, odR, .func (PySem.W.fnOf "prices" "Tariff.prices" (defArgs sPrices) (defBody sPrices) (defScope sPrices) .none kVR dcR pmR anR cdR ctR), slR⟩)
    (cd_R : PySem.W.codeIn K cdR "Tariff.prices" = true)
    (kp_R : PySem.W.keepIn K (.ref fR) = true)
    (atTv : PySem.W.findIn K (.ref CV) "__init__" = some (some (.ref fTv)))
    (ifTv : PySem.W.isFn K (.ref fTv) = true)
    (lTv : K.lookup fTv = some ⟨ocTv, odTv, .func (PySem.W.fnOf "__init__" "Travel.__init__" (defArgs sTvI) (defBody sTvI) (defScope sTvI) .none (.ref kD) dcTv pmTv anTv cdTv ctTv), slTv⟩)
    (cd_Tv : PySem.W.codeIn K cdTv "Travel.__init__" = true)
    (kp_Tv : PySem.W.keepIn K (.ref fTv) = true)
    (kx : PySem.W.nsIn K kD "exceptions" = some (some (.ref eT)))
    (eTl : K.lookup eT = some ⟨.type "tuple", eTd, .seq #[] eTn, eTs⟩)
    (atRl : PySem.W.findIn K (.ref CV) "round_length" = some (some (.ref pRl)))
    (geRl : PySem.W.specialIn K (.ref pRl) "__get__" = some (some (.builtin "property.__get__")))
    (taRl : PySem.W.takesIn K (.ref pRl) = some true)
    (rcRl : PySem.W.recIn K pRl "property" = some (.ref fRl :: reRl))
    (lRl : K.lookup fRl = some ⟨ocRl, odRl, .func (PySem.W.fnOf "round_length" "Travel.round_length" (defArgs sRl) (defBody sRl) (defScope sRl) .none kVRl dcRl pmRl anRl cdRl ctRl), slRl⟩)
    (cd_Rl : PySem.W.codeIn K cdRl "Travel.round_length" = true)
    (kp_Rl : PySem.W.keepIn K (.ref fRl) = true)
    (atRd : PySem.W.findIn K (.ref CV) "round_days" = some (some (.ref pRd)))
    (geRd : PySem.W.specialIn K (.ref pRd) "__get__" = some (some (.builtin "property.__get__")))
    (taRd : PySem.W.takesIn K (.ref pRd) = some true)
    (rcRd : PySem.W.recIn K pRd "property" = some (.ref fRd :: reRd))
    (lRd : K.lookup fRd = some ⟨ocRd, odRd, .func (PySem.W.fnOf "round_days" "Travel.round_days" (defArgs sRd) (defBody sRd) (defScope sRd) .none kVRd dcRd pmRd anRd cdRd ctRd), slRd⟩)
    (cd_Rd : PySem.W.codeIn K cdRd "Travel.round_days" = true)
    (kp_Rd : PySem.W.keepIn K (.ref fRd) = true)
    (atEx : PySem.W.findIn K (.ref CV) "exceptions" = some (some (.ref pEx)))
    (geEx : PySem.W.specialIn K (.ref pEx) "__get__" = some (some (.builtin "property.__get__")))
    (taEx : PySem.W.takesIn K (.ref pEx) = some true)
    (rcEx : PySem.W.recIn K pEx "property" = some (.ref fEx :: reEx))
    (lEx : K.lookup fEx = some ⟨ocEx, odEx, .func (PySem.W.fnOf "exceptions" "Travel.exceptions" (defArgs sEx) (defBody sEx) (defScope sEx) .none kVEx dcEx pmEx anEx cdEx ctEx), slEx⟩)
    (cd_Ex : PySem.W.codeIn K cdEx "Travel.exceptions" = true)
    (kp_Ex : PySem.W.keepIn K (.ref fEx) = true)
    (atWx : PySem.W.findIn K (.ref CV) "with_exception" = some (some (.ref fWx)))
    (ifWx : PySem.W.isFn K (.ref fWx) = true)
    (lWx : K.lookup fWx = some ⟨ocWx, odWx, .func (PySem.W.fnOf "with_exception" "Travel.with_exception" (defArgs sWx) (defBody sWx) (defScope sWx) .none kVWx dcWx pmWx anWx cdWx ctWx), slWx⟩)
    (cd_Wx : PySem.W.codeIn K cdWx "Travel.with_exception" = true)
    (kp_Wx : PySem.W.keepIn K (.ref fWx) = true)
    (atBt : PySem.W.findIn K (.ref D) "tariff" = some (some (.ref pBt)))
    (geBt : PySem.W.specialIn K (.ref pBt) "__get__" = some (some (.builtin "property.__get__")))
    (taBt : PySem.W.takesIn K (.ref pBt) = some true)
    (rcBt : PySem.W.recIn K pBt "property" = some (.ref fBt :: reBt))
    (lBt : K.lookup fBt = some ⟨ocBt, odBt, .func (PySem.W.fnOf "tariff" "Buyer.tariff" (defArgs sByT) (defBody sByT) (defScope sByT) .none kVBt dcBt pmBt anBt cdBt ctBt), slBt⟩)
    (cd_Bt : PySem.W.codeIn K cdBt "Buyer.tariff" = true)
    (kp_Bt : PySem.W.keepIn K (.ref fBt) = true)
    (atBb : PySem.W.findIn K (.ref D) "beginning" = some (some (.ref fBb)))
    (ifBb : PySem.W.isFn K (.ref fBb) = true)
    (lBb : K.lookup fBb = some ⟨ocBb, odBb, .func (PySem.W.fnOf "beginning" "Buyer.beginning" (defArgs sByB) (defBody sByB) (defScope sByB) .none kVBb dcBb pmBb anBb cdBb ctBb), slBb⟩)
    (cd_Bb : PySem.W.codeIn K cdBb "Buyer.beginning" = true)
    (kp_Bb : PySem.W.keepIn K (.ref fBb) = true)
    (atBc : PySem.W.findIn K (.ref D) "choose" = some (some (.ref fBc)))
    (ifBc : PySem.W.isFn K (.ref fBc) = true)
    (lBc : K.lookup fBc = some ⟨ocBc, odBc, .func (PySem.W.fnOf "choose" "SwitchBuyer.choose" (defArgs sSwC) (defBody sSwC) (defScope sSwC) .none kVBc dcBc pmBc anBc cdBc ctBc), slBc⟩)
    (cd_Bc : PySem.W.codeIn K cdBc "SwitchBuyer.choose" = true)
    (kp_Bc : PySem.W.keepIn K (.ref fBc) = true)
    (atBg : PySem.W.findIn K (.ref D) "grow_older" = some (some (.ref fBg)))
    (ifBg : PySem.W.isFn K (.ref fBg) = true)
    (lBg : K.lookup fBg = some ⟨ocBg, odBg, .func (PySem.W.fnOf "grow_older" "SwitchBuyer.grow_older" (defArgs sSwG) (defBody sSwG) (defScope sSwG) .none kVBg dcBg pmBg anBg cdBg ctBg), slBg⟩)
    (cd_Bg : PySem.W.codeIn K cdBg "SwitchBuyer.grow_older" = true)
    (kp_Bg : PySem.W.keepIn K (.ref fBg) = true)
    (atSI : PySem.W.findIn K (.ref S) "__init__" = some (some (.ref fSI)))
    (ifSI : PySem.W.isFn K (.ref fSI) = true)
    (lSI : K.lookup fSI = some ⟨ocSI, odSI, .func (PySem.W.fnOf "__init__" "Spending.__init__" (defArgs sSpI) (defBody sSpI) (defScope sSpI) .none kVSI dcSI pmSI anSI cdSI ctSI), slSI⟩)
    (cd_SI : PySem.W.codeIn K cdSI "Spending.__init__" = true)
    (kp_SI : PySem.W.keepIn K (.ref fSI) = true)
    (atSw : PySem.W.findIn K (.ref D) "__init__" = some (some (.ref fSw)))
    (ifSw : PySem.W.isFn K (.ref fSw) = true)
    (lSw : K.lookup fSw = some ⟨ocSw, odSw, .func (PySem.W.fnX "__init__" "SwitchBuyer.__init__" (defArgs sSwI) (defBody sSwI) (defScope sSwI) [("__class__", cc)] .none kVSw dcSw pmSw anSw (.ref cda) ctSw), slSw⟩)
    (cd_Sw : PySem.W.codeIn K (.ref cda) "SwitchBuyer.__init__" = true)
    (kp_Sw : PySem.W.keepIn K (.ref fSw) = true)
    (aB : PySem.W.nsIn K mainGlobals "Buyer" = some (some (.ref CB)))
    (atBy : PySem.W.findIn K (.ref CB) "__init__" = some (some (.ref fBy)))
    (scode : K.lookup cda = some ⟨sccl, scdd, .fields scvs, sccs⟩)
    (sfil : scvs[2]? = some (.str scfile sctf))
    (smain : ((l.prog.main.file : Str) == scfile) = true)
    (scell : K.lookup cc = some ⟨sclv, scld, .cell (some (.ref D)), scsl⟩)
    (sclass : PySem.W.clsIn K D = some scls)
    (smro : PySem.W.mroIn K D (.ref D) = some true)
    (stop : (l.prog.main.scope.names.lookup ("super" : Str)).isSome = false)
    (sopq : PySem.W.nsIn K cStatics "thirdparty.any" = some none)
    (smeth : PySem.W.ks_superIn K D D "__init__" = some (some (.ref fBy)))
    (sty : PySem.W.typeIn K (.ref fBy) = some (.type "function"))
    (sfi : PySem.W.fnIn K fBy = true)
    (lBy : K.lookup fBy = some ⟨ocBy, odBy, .func (PySem.W.fnOf "__init__" "Buyer.__init__" (defArgs sByI) (defBody sByI) (defScope sByI) .none kVBy dcBy pmBy anBy cdBy ctBy), slBy⟩)
    (cd_By : PySem.W.codeIn K cdBy "Buyer.__init__" = true)
    (kp_By : PySem.W.keepIn K (.ref fBy) = true)
    (atVN : PySem.W.nsIn K mainGlobals "validate_numbers" = some (some (.ref fVN)))
    (lVN : K.lookup fVN = some ⟨ocVN, odVN, .func (PySem.W.fnOf "validate_numbers" "validate_numbers" (defArgs sVN) (defBody sVN) (defScope sVN) .none kVVN dcVN pmVN anVN cdVN ctVN), slVN⟩)
    (cd_VN : PySem.W.codeIn K cdVN "validate_numbers" = true)
    (kp_VN : PySem.W.keepIn K (.ref fVN) = true)
    (atVP : PySem.W.nsIn K mainGlobals "validate_pass" = some (some (.ref fVP)))
    (lVP : K.lookup fVP = some ⟨ocVP, odVP, .func (PySem.W.fnOf "validate_pass" "validate_pass" (defArgs sValid) (defBody sValid) (defScope sValid) .none kVVP dcVP pmVP anVP cdVP ctVP), slVP⟩)
    (cd_VP : PySem.W.codeIn K cdVP "validate_pass" = true)
    (kp_VP : PySem.W.keepIn K (.ref fVP) = true)
    (atVC : PySem.W.nsIn K mainGlobals "validate_count" = some (some (.ref fVC)))
    (lVC : K.lookup fVC = some ⟨ocVC, odVC, .func (PySem.W.fnOf "validate_count" "validate_count" (defArgs sVC) (defBody sVC) (defScope sVC) .none kVVC dcVC pmVC anVC cdVC ctVC), slVC⟩)
    (cd_VC : PySem.W.codeIn K cdVC "validate_count" = true)
    (kp_VC : PySem.W.keepIn K (.ref fVC) = true)
    (atFr : PySem.W.nsIn K mainGlobals "fraction" = some (some (.ref fFr)))
    (lFr : K.lookup fFr = some ⟨ocFr, odFr, .func (PySem.W.fnOf "fraction" "fraction" (defArgs sFr) (defBody sFr) (defScope sFr) .none kVFr dcFr pmFr anFr cdFr ctFr), slFr⟩)
    (cd_Fr : PySem.W.codeIn K cdFr "fraction" = true)
    (kp_Fr : PySem.W.keepIn K (.ref fFr) = true)
    (atCd : PySem.W.nsIn K mainGlobals "common_divisor" = some (some (.ref fCd)))
    (lCd : K.lookup fCd = some ⟨ocCd, odCd, .func (PySem.W.fnOf "common_divisor" "common_divisor" (defArgs sCd) (defBody sCd) (defScope sCd) .none kVCd dcCd pmCd anCd cdCd ctCd), slCd⟩)
    (cd_Cd : PySem.W.codeIn K cdCd "common_divisor" = true)
    (kp_Cd : PySem.W.keepIn K (.ref fCd) = true)
    (atSr : PySem.W.nsIn K mainGlobals "spent_per_round" = some (some (.ref fSr)))
    (lSr : K.lookup fSr = some ⟨ocSr, odSr, .func (PySem.W.fnOf "spent_per_round" "spent_per_round" (defArgs sSr) (defBody sSr) (defScope sSr) .none kVSr dcSr pmSr anSr cdSr ctSr), slSr⟩)
    (cd_Sr : PySem.W.codeIn K cdSr "spent_per_round" = true)
    (kp_Sr : PySem.W.keepIn K (.ref fSr) = true)
    (atBl : PySem.W.nsIn K mainGlobals "best_limit" = some (some (.ref fBl)))
    (lBl : K.lookup fBl = some ⟨ocBl, odBl, .func (PySem.W.fnOf "best_limit" "best_limit" (defArgs sBl) (defBody sBl) (defScope sBl) .none kVBl dcBl pmBl anBl cdBl ctBl), slBl⟩)
    (cd_Bl : PySem.W.codeIn K cdBl "best_limit" = true)
    (kp_Bl : PySem.W.keepIn K (.ref fBl) = true)
    (atSt : PySem.W.nsIn K mainGlobals "_law_start" = some (some (.ref fSt)))
    (lSt : K.lookup fSt = some ⟨ocSt, odSt, .func (PySem.W.fnOf "_law_start" "_law_start" (defArgs sStart) (defBody sStart) (defScope sStart) .none kVSt dcSt pmSt anSt cdSt ctSt), slSt⟩)
    (cd_St : PySem.W.codeIn K cdSt "_law_start" = true)
    (kp_St : PySem.W.keepIn K (.ref fSt) = true)
    (atD : PySem.W.nsIn K mainGlobals "_law_drawn" = some (some (.ref fD)))
    (lD : K.lookup fD = some ⟨ocD, odD, .func (PySem.W.fnOf "_law_drawn" "_law_drawn" (defArgs sDrawn) (defBody sDrawn) (defScope sDrawn) .none kVD dcD pmD anD cdD ctD), slD⟩)
    (cd_D : PySem.W.codeIn K cdD "_law_drawn" = true)
    (kp_D : PySem.W.keepIn K (.ref fD) = true)
    (atOu : PySem.W.nsIn K mainGlobals "_law_outcome" = some (some (.ref fOu)))
    (lOu : K.lookup fOu = some ⟨ocOu, odOu, .func (PySem.W.fnOf "_law_outcome" "_law_outcome" (defArgs sOut) (defBody sOut) (defScope sOut) .none kVOu dcOu pmOu anOu cdOu ctOu), slOu⟩)
    (cd_Ou : PySem.W.codeIn K cdOu "_law_outcome" = true)
    (kp_Ou : PySem.W.keepIn K (.ref fOu) = true)
    (atPas : PySem.W.nsIn K mainGlobals "_law_passes" = some (some (.ref fPas)))
    (lPas : K.lookup fPas = some ⟨ocPas, odPas, .func (PySem.W.fnOf "_law_passes" "_law_passes" (defArgs sPas) (defBody sPas) (defScope sPas) .none kVPas dcPas pmPas anPas cdPas ctPas), slPas⟩)
    (cd_Pas : PySem.W.codeIn K cdPas "_law_passes" = true)
    (kp_Pas : PySem.W.keepIn K (.ref fPas) = true)
    (atTar : PySem.W.nsIn K mainGlobals "_law_tariff" = some (some (.ref fTar)))
    (lTar : K.lookup fTar = some ⟨ocTar, odTar, .func (PySem.W.fnOf "_law_tariff" "_law_tariff" (defArgs sTar) (defBody sTar) (defScope sTar) .none kVTar dcTar pmTar anTar cdTar ctTar), slTar⟩)
    (cd_Tar : PySem.W.codeIn K cdTar "_law_tariff" = true)
    (kp_Tar : PySem.W.keepIn K (.ref fTar) = true)
    (atDay : PySem.W.nsIn K mainGlobals "_law_days" = some (some (.ref fDay)))
    (lDay : K.lookup fDay = some ⟨ocDay, odDay, .func (PySem.W.fnOf "_law_days" "_law_days" (defArgs sDay) (defBody sDay) (defScope sDay) .none kVDay dcDay pmDay anDay cdDay ctDay), slDay⟩)
    (cd_Day : PySem.W.codeIn K cdDay "_law_days" = true)
    (kp_Day : PySem.W.keepIn K (.ref fDay) = true)
    (atLe : PySem.W.nsIn K mainGlobals "_law_less" = some (some (.ref fLe)))
    (lLe : K.lookup fLe = some ⟨ocLe, odLe, .func (PySem.W.fnOf "_law_less" "_law_less" (defArgs sLe) (defBody sLe) (defScope sLe) .none kVLe dcLe pmLe anLe cdLe ctLe), slLe⟩)
    (cd_Le : PySem.W.codeIn K cdLe "_law_less" = true)
    (kp_Le : PySem.W.keepIn K (.ref fLe) = true)
    (atLaw : PySem.W.nsIn K mainGlobals "law" = some (some (.ref fLaw)))
    (lLaw : K.lookup fLaw = some ⟨ocLaw, odLaw, .func (PySem.W.fnOf "law" "law" (defArgs sLaw) (defBody sLaw) (defScope sLaw) .none kVLaw dcLaw pmLaw anLaw (.ref cl) ctLaw), slLaw⟩)
    (cd_Law : PySem.W.codeIn K (.ref cl) "law" = true)
    (kp_Law : PySem.W.keepIn K (.ref fLaw) = true)
    (nT : K.lookup Pt = none)
    (hH : PySem.W.codeHdIn K cl Pt = true)
    : LawAtS l w K CX0 12 63 "_law_script" mg fa h := by
  have e := hfa.symm.trans (PySem.W.mg_of X Gn atLaw)
  cases e
  have oexI : OexC K cI := ⟨⟨_, _, _, _, _, _, _, _, _, _, _, _, _, _, _, xLI, xrvI⟩, xsaI, sI, yI, kpI⟩
  have oexV : OexC K cV := ⟨⟨_, _, _, _, _, _, _, _, _, _, _, _, _, _, _, xLV, xrvV⟩, xsaV, sV, yV, kpV⟩
  let G : Gd l.prog K mg := {
    C := C, CV := CV, D := D, S := S, cP := cP, cI := cI, cV := cV, cU := cU, cN := cN, fI := fI, fV := fV, fT := fT, fTv := fTv, fVN := fVN, fVP := fVP, fVC := fVC, fP := fP, pP := pP, fL := fL, pL := pL, fR := fR, pR := pR, fRl := fRl, pRl := pRl, fRd := fRd, pRd := pRd, fEx := fEx, pEx := pEx, fWx := fWx, fBt := fBt, pBt := pBt, fBb := fBb, fBc := fBc, fBg := fBg, fSI := fSI, fFr := fFr, fCd := fCd, fSr := fSr, fSw := fSw, cc := cc, cda := cda, fBy := fBy, fBl := fBl, fSt := fSt, fD := fD, fOu := fOu, fPas := fPas, fTar := fTar, fDay := fDay, fLe := fLe, eT := eT, Pt := Pt, mc := (.type "type"), mp := (.type "type"), md := (.type "type")
    dI := _, dV := _, dT := _, dTv := _, dVN := _, dVP := _, dVC := _, dP := _, dL := _, dR := _, dRl := _, dRd := _, dEx := _, dWx := _, dBt := _, dBb := _, dBc := _, dBg := _, dSI := _, dFr := _, dCd := _, dSr := _, dSw := _, dBy := _, dBl := _, dSt := _, dD := _, dOu := _, dPas := _, dTar := _, dDay := _, dLe := _
    X := { cl := ⟨pgC, hdC, poC, saC⟩, no := nO, gC := PySem.W.mg_of X Gn aC, cr := ⟨rd, ga⟩, v1 := ⟨_, v0, ⟨_, rfl⟩⟩, v2 := ⟨_, v1, ⟨_, rfl⟩⟩, v3 := ⟨_, v2, ⟨_, rfl⟩⟩, mE := PySem.W.mg_none_of X Gn z_enumerate, mN := PySem.W.mg_none_of X Gn z_len, mT := PySem.W.mg_none_of X Gn z_tuple, xI := oexI, nI := nI_index, gI := PySem.W.mg_of X Gn aI, iI := iI, tI := tI, pI := ⟨PySem.W.mg_of X Gn aP, prd, pga, pat⟩, qU := qU, gU := PySem.W.mg_of X Gn aU, kU := kU, sU := sU, yU := yU }
    I := { mkf := ⟨mkC, atT, ifT, kpCC⟩, fT := fun_mk (st := sInit) lT cd_T kp_T, fI := fun_mk (st := sIT) lI cd_I kp_I }
    Q := { pr := ⟨atP, geP, taP, ⟨_, rcP⟩⟩, fu := fun_mk (st := sPasses) lP cd_P kp_P }
    LP := { pL := ⟨atL, geL, taL, ⟨_, rcL⟩⟩, uL := fun_mk (st := sLengths) lL cd_L kp_L, pR := ⟨atR, geR, taR, ⟨_, rcR⟩⟩, uR := fun_mk (st := sPrices) lR cd_R kp_R }
    EV := { xV := oexV, nP := nV_part, nI := nV_index, gV := PySem.W.mg_of X Gn aV, iV := iV, tV := tV, fu := fun_mk (st := sIV) lXV cd_XV kp_XV, pI := ⟨PySem.W.mg_of X Gn aP, prd, pga, pat⟩ }
    W := { cl := ⟨pgV, hdV, poV, saV⟩, nS := nA0, nP := nA1, nO := nA2, gC := PySem.W.mg_of X Gn aCV, mR := ⟨_, PySem.W.mg_of X Gn w0, ⟨_, rfl⟩⟩, mX := ⟨_, PySem.W.mg_of X Gn w1, ⟨_, rfl⟩⟩, mD := ⟨_, PySem.W.mg_of X Gn w2, ⟨_, rfl⟩⟩, mE := PySem.W.mg_none_of X Gn z_enumerate, gVN := PySem.W.mg_of X Gn atVN, kVN := kp_VN, uVN := fun_mk (st := sVN) lVN cd_VN kp_VN }
    mkV := ⟨mkV, atTv, ifTv, kpCV⟩, uTv := fun_mk (st := sTvI) lTv cd_Tv kp_Tv
    kTv := ⟨⟨_, _, _, _, _, _, _, _, _, _, rfl, lTv, cd_Tv, .inl ⟨rfl, rfl⟩, .inr ⟨kD, rfl, fun q hq => by
      rw [List.mem_singleton.mp hq]
      exact ⟨_, kx, rfl⟩⟩⟩, kp_Tv⟩
    eTv := ⟨_, _, eTl, rfl, rfl⟩
    R := { pL := ⟨atRl, geRl, taRl, ⟨_, rcRl⟩⟩, uL := fun_mk (st := sRl) lRl cd_Rl kp_Rl, pD := ⟨atRd, geRd, taRd, ⟨_, rcRd⟩⟩, uD := fun_mk (st := sRd) lRd cd_Rd kp_Rd, pE := ⟨atEx, geEx, taEx, ⟨_, rcEx⟩⟩, uE := fun_mk (st := sEx) lEx cd_Ex kp_Ex }
    mWx := ⟨atWx, ifWx, kp_Wx⟩, uWx := fun_mk (st := sWx) lWx cd_Wx kp_Wx
    DN := { g := PySem.W.mg_of X Gn atD, kp := kp_D, fu := fun_mk (st := sDrawn) lD cd_D kp_D, mN := PySem.W.mg_none_of X Gn z_len }
    BY := { cl := ⟨pgD, hdD, poD, saD⟩, nO := nB0, nS := nB1, nL := nB2, nM := nB3, gD := PySem.W.mg_of X Gn aD, cr := ⟨rdD, gaD⟩, vM := ⟨_, vM, ⟨_, rfl⟩⟩, gVP := PySem.W.mg_of X Gn atVP, kVP := kp_VP, uVP := fun_mk (st := sValid) lVP cd_VP kp_VP, gVC := PySem.W.mg_of X Gn atVC, kVC := kp_VC, uVC := fun_mk (st := sVC) lVC cd_VC kp_VC, nc := { qN := qN, gN := PySem.W.mg_of X Gn aN, kN := kN, sN := sN, yN := yN } }
    BG := { pT := ⟨atBt, geBt, taBt, ⟨_, rcBt⟩⟩, uT := fun_mk (st := sByT) lBt cd_Bt kp_Bt, mB := ⟨atBb, ifBb, kp_Bb⟩, uB := fun_mk (st := sByB) lBb cd_Bb kp_Bb, mC := ⟨atBc, ifBc, kp_Bc⟩, uC := fun_mk (st := sSwC) lBc cd_Bc kp_Bc, mG := ⟨atBg, ifBg, kp_Bg⟩, uG := fun_mk (st := sSwG) lBg cd_Bg kp_Bg }
    SP := { cl := ⟨pgS, hdS, poS, saS⟩, nT := nS0, nB := nS1, nS := nS2, nP := nS3, nG := nS4, gS := PySem.W.mg_of X Gn aS, mI := PySem.W.mg_none_of X Gn z_int, mX := PySem.W.mg_none_of X Gn z_max }
    N := { mkS := ⟨mkS, atSI, ifSI, kpCS⟩, uSI := fun_mk (st := sSpI) lSI cd_SI kp_SI, gFr := PySem.W.mg_of X Gn atFr, kFr := kp_Fr, uFr := fun_mk (st := sFr) lFr cd_Fr kp_Fr, gCd := PySem.W.mg_of X Gn atCd, kCd := kp_Cd, uCd := fun_mk (st := sCd) lCd cd_Cd kp_Cd, gSr := PySem.W.mg_of X Gn atSr, kSr := kp_Sr, uSr := fun_mk (st := sSr) lSr cd_Sr kp_Sr }
    B := { mkD := ⟨mkD, atSw, ifSw, kpCD⟩, uSw := ⟨⟨_, _, _, _, _, _, _, _, rfl, lSw⟩, cd_Sw, kp_Sw⟩, su := ⟨⟨_, _, _, _, _, _, scode, sfil, smain⟩, ⟨_, _, _, scell⟩, ⟨_, sclass⟩, smro, PySem.W.mg_none_of X Gn z_super, stop, sopq, smeth, sty, sfi⟩, uBy := fun_mk (st := sByI) lBy cd_By kp_By }
    OU := { gV := PySem.W.mg_of X Gn aV, gU := PySem.W.mg_of X Gn aU, fV := ⟨egV, ekV, sV, ehV⟩, nV := nV_index, pV := nV_part, VV := xVV, UV := xUV, UU := xUU }
    gBl := PySem.W.mg_of X Gn atBl, kBl := kp_Bl, uBl := fun_mk (st := sBl) lBl cd_Bl kp_Bl
    gSt := PySem.W.mg_of X Gn atSt, kSt := kp_St, uSt := fun_mk (st := sStart) lSt cd_St kp_St
    gOu := PySem.W.mg_of X Gn atOu, kOu := kp_Ou, uOu := fun_mk (st := sOut) lOu cd_Ou kp_Ou
    gPas := PySem.W.mg_of X Gn atPas, kPas := kp_Pas, uPas := fun_mk (st := sPas) lPas cd_Pas kp_Pas
    gTar := PySem.W.mg_of X Gn atTar, kTar := kp_Tar, uTar := fun_mk (st := sTar) lTar cd_Tar kp_Tar
    gDay := PySem.W.mg_of X Gn atDay, kDay := kp_Day, uDay := fun_mk (st := sDay) lDay cd_Day kp_Day
    gLe := PySem.W.mg_of X Gn atLe, kLe := kp_Le, uLe := fun_mk (st := sLe) lLe cd_Le kp_Le
    m_range := PySem.W.mg_none_of X Gn z_range, m_tuple := PySem.W.mg_none_of X Gn z_tuple, m_sorted := PySem.W.mg_none_of X Gn z_sorted, m_min := PySem.W.mg_none_of X Gn z_min, m_abs := PySem.W.mg_none_of X Gn z_abs, m_len := PySem.W.mg_none_of X Gn z_len }
  refine ⟨_, [(cl, Pt)], spLaw K Pt, fun p hp => ?_, fun p hp => ?_, fun p hp => ?_, fun s v => .of_eq rfl, fun H a ns hl _ hH hS => ⟨a, ns, rfl, hS, hl, hH (cl, Pt) (List.Mem.head _), fun _ => rfl⟩, fun base _ _ hB => ok_law (P := l.prog) (w := w) (base := base) G lLaw cd_Law (hB (cl, Pt) (List.Mem.head _))⟩
  · rw [List.mem_singleton.mp hp]
    exact hT
  · rw [List.mem_singleton.mp hp]
    exact nT
  · rw [List.mem_singleton.mp hp]
    exact PySem.W.codeHd_of_K X hH
end Sea

open PySem PySem.W PyProof.Rows in
set_option maxRecDepth 100000 in
set_option maxHeartbeats 0 in
theorem PySem.Challenge.cw_seasonpass_k44_whole_best_limits_holds : PySem.Challenge.rw_seasonpass_k44_whole_best_limits.Holds := by
  w_on; o_law; k_head; (case hw => w_witness2)
  k_fill
  refine LamX.walk_ofTs (l := PySem.Challenge.rw_seasonpass_k44_whole_best_limits) (n := 63) (k := 12) (x := "_law_script") (CX := fun _ => L2.CX0) rfl (by decide) rfl ⟨rfl, by decide, by decide⟩ (fun w h Y => PySem.W.km_in_of Y) ?F (fun _ _ _ _ _ z => z)
  case F =>
    intro w mg fa h Y KX G hmg
    refine' Sea.all_mk KX G hmg ?hT ?aC ?aCV ?aD ?aS ?aP ?aI ?aV ?aU ?aN ?z_enumerate ?z_len ?z_tuple ?z_int ?z_range ?z_max ?z_min ?z_abs ?z_sorted ?z_super ?pgC ?hdC ?poC ?saC ?mkC ?kpCC ?pgV ?hdV ?poV ?saV ?mkV ?kpCV ?pgD ?hdD ?poD ?saD ?mkD ?kpCD ?pgS ?hdS ?poS ?saS ?mkS ?kpCS ?nO ?rd ?ga ?v0 ?v1 ?v2 ?rdD ?gaD ?vM ?nA0 ?nA1 ?nA2 ?nB0 ?nB1 ?nB2 ?nB3 ?nS0 ?nS1 ?nS2 ?nS3 ?nS4 ?w0 ?w1 ?w2 ?xLI ?xrvI ?xsaI ?sI ?yI ?kpI ?nI_index ?iI ?tI ?egI ?ekI ?ehI ?xLV ?xrvV ?xsaV ?sV ?yV ?kpV ?nV_part ?nV_index ?iV ?tV ?egV ?ekV ?ehV ?prd ?pga ?pat ?qU ?kU ?sU ?yU ?qN ?kN ?sN ?yN ?xVV ?xUV ?xUU ?atT ?ifT ?lT ?cd_T ?kp_T ?lI ?cd_I ?kp_I ?lXV ?cd_XV ?kp_XV ?atP ?geP ?taP ?rcP ?lP ?cd_P ?kp_P ?atL ?geL ?taL ?rcL ?lL ?cd_L ?kp_L ?atR ?geR ?taR ?rcR ?lR ?cd_R ?kp_R ?atTv ?ifTv ?lTv ?cd_Tv ?kp_Tv ?kx ?eTl ?atRl ?geRl ?taRl ?rcRl ?lRl ?cd_Rl ?kp_Rl ?atRd ?geRd ?taRd ?rcRd ?lRd ?cd_Rd ?kp_Rd ?atEx ?geEx ?taEx ?rcEx ?lEx ?cd_Ex ?kp_Ex ?atWx ?ifWx ?lWx ?cd_Wx ?kp_Wx ?atBt ?geBt ?taBt ?rcBt ?lBt ?cd_Bt ?kp_Bt ?atBb ?ifBb ?lBb ?cd_Bb ?kp_Bb ?atBc ?ifBc ?lBc ?cd_Bc ?kp_Bc ?atBg ?ifBg ?lBg ?cd_Bg ?kp_Bg ?atSI ?ifSI ?lSI ?cd_SI ?kp_SI ?atSw ?ifSw ?lSw ?cd_Sw ?kp_Sw ?aB ?atBy ?scode ?sfil ?smain ?scell ?sclass ?smro ?stop ?sopq ?smeth ?sty ?sfi ?lBy ?cd_By ?kp_By ?atVN ?lVN ?cd_VN ?kp_VN ?atVP ?lVP ?cd_VP ?kp_VP ?atVC ?lVC ?cd_VC ?kp_VC ?atFr ?lFr ?cd_Fr ?kp_Fr ?atCd ?lCd ?cd_Cd ?kp_Cd ?atSr ?lSr ?cd_Sr ?kp_Sr ?atBl ?lBl ?cd_Bl ?kp_Bl ?atSt ?lSt ?cd_St ?kp_St ?atD ?lD ?cd_D ?kp_D ?atOu ?lOu ?cd_Ou ?kp_Ou ?atPas ?lPas ?cd_Pas ?kp_Pas ?atTar ?lTar ?cd_Tar ?kp_Tar ?atDay ?lDay ?cd_Day ?kp_Day ?atLe ?lLe ?cd_Le ?kp_Le ?atLaw ?lLaw ?cd_Law ?kp_Law ?nT ?hH
    (case hT => exact PySem.W.km_tabs_of Y _ (List.Mem.head _))
    (case aC => k_is)
    (case aCV => k_is)
    (case aD => k_is)
    (case aS => k_is)
    (case aP => k_is)
    (case aI => k_is)
    (case aV => k_is)
    (case aU => k_is)
    (case aN => k_is)
    (case z_enumerate => k_is)
    (case z_len => k_is)
    (case z_tuple => k_is)
    (case z_int => k_is)
    (case z_range => k_is)
    (case z_max => k_is)
    (case z_min => k_is)
    (case z_abs => k_is)
    (case z_sorted => k_is)
    (case z_super => k_is)
    (case pgC => k_is)
    (case hdC => k_is)
    (case poC => k_is)
    (case saC => k_is)
    (case mkC => k_is)
    (case kpCC => k_is)
    (case pgV => k_is)
    (case hdV => k_is)
    (case poV => k_is)
    (case saV => k_is)
    (case mkV => k_is)
    (case kpCV => k_is)
    (case pgD => k_is)
    (case hdD => k_is)
    (case poD => k_is)
    (case saD => k_is)
    (case mkD => k_is)
    (case kpCD => k_is)
    (case pgS => k_is)
    (case hdS => k_is)
    (case poS => k_is)
    (case saS => k_is)
    (case mkS => k_is)
    (case kpCS => k_is)
    (case nO => k_is)
    (case rd => k_is)
    (case ga => k_is)
    (case v0 => k_is)
    (case v1 => k_is)
    (case v2 => k_is)
    (case rdD => k_is)
    (case gaD => k_is)
    (case vM => k_is)
    (case nA0 => k_is)
    (case nA1 => k_is)
    (case nA2 => k_is)
    (case nB0 => k_is)
    (case nB1 => k_is)
    (case nB2 => k_is)
    (case nB3 => k_is)
    (case nS0 => k_is)
    (case nS1 => k_is)
    (case nS2 => k_is)
    (case nS3 => k_is)
    (case nS4 => k_is)
    (case w0 => k_is)
    (case w1 => k_is)
    (case w2 => k_is)
    (case xLI => k_is)
    (case xrvI => first | rfl | decide +kernel)
    (case xsaI => k_is)
    (case sI => k_is)
    (case yI => k_is)
    (case kpI => k_is)
    (case nI_index => k_is)
    (case iI => k_is)
    (case tI => k_is)
    (case egI => k_is)
    (case ekI => k_is)
    (case ehI => k_is)
    (case xLV => k_is)
    (case xrvV => first | rfl | decide +kernel)
    (case xsaV => k_is)
    (case sV => k_is)
    (case yV => k_is)
    (case kpV => k_is)
    (case nV_part => k_is)
    (case nV_index => k_is)
    (case iV => k_is)
    (case tV => k_is)
    (case egV => k_is)
    (case ekV => k_is)
    (case ehV => k_is)
    (case prd => k_is)
    (case pga => k_is)
    (case pat => k_is)
    (case qU => first | k_is | kernel_rfl | rfl)
    (case kU => k_is)
    (case sU => k_is)
    (case yU => k_is)
    (case qN => first | k_is | kernel_rfl | rfl)
    (case kN => k_is)
    (case sN => k_is)
    (case yN => k_is)
    (case xVV => first | k_is | kernel_rfl | rfl | decide +kernel)
    (case xUV => first | k_is | kernel_rfl | rfl | decide +kernel)
    (case xUU => first | k_is | kernel_rfl | rfl | decide +kernel)
    (case atT => k_is)
    (case ifT => k_is)
    (case lT => k_is)
    (case cd_T => k_is)
    (case kp_T => k_is)
    (case lI => k_is)
    (case cd_I => k_is)
    (case kp_I => k_is)
    (case lXV => k_is)
    (case cd_XV => k_is)
    (case kp_XV => k_is)
    (case atP => k_is)
    (case geP => k_is)
    (case taP => k_is)
    (case rcP => k_is)
    (case lP => k_is)
    (case cd_P => k_is)
    (case kp_P => k_is)
    (case atL => k_is)
    (case geL => k_is)
    (case taL => k_is)
    (case rcL => k_is)
    (case lL => k_is)
    (case cd_L => k_is)
    (case kp_L => k_is)
    (case atR => k_is)
    (case geR => k_is)
    (case taR => k_is)
    (case rcR => k_is)
    (case lR => k_is)
    (case cd_R => k_is)
    (case kp_R => k_is)
    (case atTv => k_is)
    (case ifTv => k_is)
    (case lTv => k_is)
    (case cd_Tv => k_is)
    (case kp_Tv => k_is)
    (case kx => first | k_is | kernel_rfl | rfl | decide +kernel)
    (case eTl => first | k_is | kernel_rfl | rfl | decide +kernel)
    (case atRl => k_is)
    (case geRl => k_is)
    (case taRl => k_is)
    (case rcRl => k_is)
    (case lRl => k_is)
    (case cd_Rl => k_is)
    (case kp_Rl => k_is)
    (case atRd => k_is)
    (case geRd => k_is)
    (case taRd => k_is)
    (case rcRd => k_is)
    (case lRd => k_is)
    (case cd_Rd => k_is)
    (case kp_Rd => k_is)
    (case atEx => k_is)
    (case geEx => k_is)
    (case taEx => k_is)
    (case rcEx => k_is)
    (case lEx => k_is)
    (case cd_Ex => k_is)
    (case kp_Ex => k_is)
    (case atWx => k_is)
    (case ifWx => k_is)
    (case lWx => k_is)
    (case cd_Wx => k_is)
    (case kp_Wx => k_is)
    (case atBt => k_is)
    (case geBt => k_is)
    (case taBt => k_is)
    (case rcBt => k_is)
    (case lBt => k_is)
    (case cd_Bt => k_is)
    (case kp_Bt => k_is)
    (case atBb => k_is)
    (case ifBb => k_is)
    (case lBb => k_is)
    (case cd_Bb => k_is)
    (case kp_Bb => k_is)
    (case atBc => k_is)
    (case ifBc => k_is)
    (case lBc => k_is)
    (case cd_Bc => k_is)
    (case kp_Bc => k_is)
    (case atBg => k_is)
    (case ifBg => k_is)
    (case lBg => k_is)
    (case cd_Bg => k_is)
    (case kp_Bg => k_is)
    (case atSI => k_is)
    (case ifSI => k_is)
    (case lSI => k_is)
    (case cd_SI => k_is)
    (case kp_SI => k_is)
    (case atSw => k_is)
    (case ifSw => k_is)
    (case lSw => k_is)
    (case cd_Sw => k_is)
    (case kp_Sw => k_is)
    (case aB => k_is)
    (case atBy => k_is)
    (case scode => first | k_is | kernel_rfl | rfl | decide +kernel)
    (case sfil => first | rfl | kernel_rfl | decide +kernel)
    (case smain => first | rfl | kernel_rfl | decide +kernel)
    (case scell => first | k_is | kernel_rfl | rfl | decide +kernel)
    (case sclass => first | k_is | kernel_rfl | rfl | decide +kernel)
    (case smro => first | k_is | kernel_rfl | rfl | decide +kernel)
    (case stop => first | rfl | kernel_rfl | decide +kernel)
    (case sopq => first | k_is | kernel_rfl | rfl | decide +kernel)
    (case smeth => first | k_is | kernel_rfl | rfl | decide +kernel)
    (case sty => first | k_is | kernel_rfl | rfl | decide +kernel)
    (case sfi => first | k_is | kernel_rfl | rfl | decide +kernel)
    (case lBy => k_is)
    (case cd_By => k_is)
    (case kp_By => k_is)
    (case atVN => k_is)
    (case lVN => k_is)
    (case cd_VN => k_is)
    (case kp_VN => k_is)
    (case atVP => k_is)
    (case lVP => k_is)
    (case cd_VP => k_is)
    (case kp_VP => k_is)
    (case atVC => k_is)
    (case lVC => k_is)
    (case cd_VC => k_is)
    (case kp_VC => k_is)
    (case atFr => k_is)
    (case lFr => k_is)
    (case cd_Fr => k_is)
    (case kp_Fr => k_is)
    (case atCd => k_is)
    (case lCd => k_is)
    (case cd_Cd => k_is)
    (case kp_Cd => k_is)
    (case atSr => k_is)
    (case lSr => k_is)
    (case cd_Sr => k_is)
    (case kp_Sr => k_is)
    (case atBl => k_is)
    (case lBl => k_is)
    (case cd_Bl => k_is)
    (case kp_Bl => k_is)
    (case atSt => k_is)
    (case lSt => k_is)
    (case cd_St => k_is)
    (case kp_St => k_is)
    (case atD => k_is)
    (case lD => k_is)
    (case cd_D => k_is)
    (case kp_D => k_is)
    (case atOu => k_is)
    (case lOu => k_is)
    (case cd_Ou => k_is)
    (case kp_Ou => k_is)
    (case atPas => k_is)
    (case lPas => k_is)
    (case cd_Pas => k_is)
    (case kp_Pas => k_is)
    (case atTar => k_is)
    (case lTar => k_is)
    (case cd_Tar => k_is)
    (case kp_Tar => k_is)
    (case atDay => k_is)
    (case lDay => k_is)
    (case cd_Day => k_is)
    (case kp_Day => k_is)
    (case atLe => k_is)
    (case lLe => k_is)
    (case cd_Le => k_is)
    (case kp_Le => k_is)
    (case atLaw => k_is)
    (case lLaw => k_is)
    (case cd_Law => k_is)
    (case kp_Law => k_is)
    (case nT => first | rfl | kernel_rfl)
    (case hH => first | kernel_rfl | rfl)
#print axioms PySem.Challenge.cw_seasonpass_k44_whole_best_limits_holds

