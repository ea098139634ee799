import PyProof.Rows.All
import Wide.All
import OpenK.AllK
import Wide.FinOn
import HandS.ForMost
import HandS.ForExc
import HandS.Nested
import HandS.Star
import HandS.Property
import HandS.ClsMeth
import HandS.Defaults
import HandS.ExcInit
import HandS.MakeKwOnly
import HandS.IsInst
import HandS.Wide
import HandS.EndTab
import KE.GoesMore
import KE.GoesComp
import KE.GoesEnum
import HandS.ExcIs
import HandS.TryMany
import KE.KExcIs
import HandS.Evl
import HandS.ExcField
import HandS.TupAny
import HandS.Small
import KE.KeyNested
import KE.KSuper
import HandS.NestedK
import HandS.SetFor
import HandS.Strs
import HandS.SortInts
import HandS.Style
import PyProof.ListNew
import PyProof.TupleOfSeq
import PyProof.Rows.FactsTup
import PyProof.Rows.SortShellAny
import HandS.GenList
import HandS.GenYield
import HandS.Text
import HandS.Walk
import KE.IntTextLaws
import HandS.Iter
import HandS.EndOwn
import KE.KNestM
import PySem.Challenge.RW_seasonpass_k41_whole_buyers_day_by_day
set_option Elab.async false
set_option linter.all false
set_option maxRecDepth 100000
set_option maxHeartbeats 4000000
/-! lambdas as tracked objects, called from anywhere -/
namespace Sea
open PySem PySem.Spec PyProof.Rows L2 LamX NdefX

/-- the words of a lambda, what it captured, its code object, its defaults -/
structure LF where
  qual : Str
  params : Arguments
  body : Expr
  scope : Scope
  cl : List (Str × Addr)
  c : Addr
  dV : Value
abbrev LF.fd (F : LF) (doc pm ctv : Value) : FuncData :=
  PySem.W.kdv_fn "<lambda>" F.qual F.params (.expr F.body) F.scope F.cl F.dV doc pm (.ref F.c) ctv
/-- what a lambda's object is: a function object with the words F, whatever its text, module and annotations are -/
inductive LamAs (F : LF) : Obj → Prop
  | mk (od : Option Addr) (sl : Array (Option Value)) (doc pm ctv : Value) : LamAs F ⟨.type "function", od, .func (F.fd doc pm ctv), sl⟩
/-- at f stands an object of which R holds -/
def Stands (R : Obj → Prop) (f : Addr) : HO := .ext fun h => ∃ o, R o ∧ h.get? f = some o
theorem Stands.ok {P : Program} {w : World} {H : Hp} {h : Heap} {f : Addr} {R : Obj → Prop} {o : Obj} (r : R o) (e : h.get? f = some o) : ObjOk P w H h f (Stands R f) :=
  ⟨⟨o, r, e⟩, ⟨o, e⟩, fun _ _ ⟨o, r, e⟩ stays => ⟨o, r, stays o e⟩⟩
theorem Stands.no_tbl {R : Obj → Prop} {f : Addr} (ps : Array Value) : Stands R f ≠ .tbl ps := nofun
theorem Stands.no_tup {R : Obj → Prop} {f : Addr} (xs : List V) : Stands R f ≠ .tup xs := nofun
/-- a new object is laid at the heap's end -/
theorem Stands.laid {X : Cx} {pins : List (Addr × Obj)} {σ : L2.St} {H : Hp} {s : Shared} {R : Obj → Prop} {o : Obj} {t : Nat} (I : Inv X pins σ H s) (r : R o) (nf : o.isFreed = false) :
    Inv X pins σ (upd H s.heap.objs.size (Stands R s.heap.objs.size)) { s with heap := s.heap.push o, toks := t } :=
  I.laid (fun _ _ e => Heap.get?_push_of_some _ e) (Nat.le_refl _) (Stands.ok r (Heap.get?_push_size _ nf))
abbrev LamO (f : Addr) (F : LF) : HO := Stands (LamAs F) f
theorem lamO_at {P : Program} {w : World} {H : Hp} {h : Heap} {f : Addr} {F : LF} (hok : HOk P w H h) (e : H f = some (LamO f F)) : ∃ o, LamAs F o ∧ h.get? f = some o :=
  (hok f _ e).1
theorem tabs_keep {T : List (Addr × Str)} {H : Hp} {a : Addr} {o : HO} (hT : Tabs T H) (n : H a = none) : Tabs T (upd H a o) :=
  hT.ext fun b u e => by rw [upd_ne (ne_of_none e n), e]
theorem extN_new {H : Hp} {a : Addr} {o : HO} (n : H a = none) : ExtN H (upd H a o) := .of fun b u e => by rw [upd_ne (ne_of_none e n), e]
theorem extN_tbl {H : Hp} {P : Addr} {ps qs : Array Value} (at_ : H P = some (.tbl ps)) : ExtN H (upd H P (.tbl qs)) := fun b o e n => (upd_ne fun z => n ps (by
  rw [z, at_] at e
  exact (Option.some.inj e).symm)).trans e
/-- all that a table's row tells bears the name q -/
def Told (H : Hp) (q : Str) (row : List Value) : Prop := ∀ (pos : Pos) (cv : Value), codeAmong pos row = some cv → ∃ d, cv = .ref d ∧ H d = some (CodeO d q)
theorem Told.one {H H' : Hp} {q : Str} {row : List Value} {pos : Pos} {c : Addr} (t : Told H q row) (ok : TriplesOk row) (keep : ∀ d, H d = some (CodeO d q) → H' d = some (CodeO d q)) (new : H' c = some (CodeO c q)) : Told H' q (row ++ [rawInt pos.line, rawInt pos.col, .ref c]) := fun pos cv h =>
  (among_app _ ok h).elim (fun old => (t pos cv old).imp fun d z => ⟨z.1, keep d z.2⟩) fun e => ⟨c, e, new⟩
/-- the maker's table has grown by one code object -/
theorem tabs_more {T : List (Addr × Str)} {H : Hp} {P c : Addr} {q : Str} {ps : Array Value} {pos : Pos} (hT : Tabs T H) (at_ : H P = some (.tbl ps)) (ok : TriplesOk ps.toList) (told : Told H q ps.toList) (hu : ∀ p ∈ T, p.1 = P → p.2 = q) (nC : H c = none) :
    Tabs T (upd (upd H P (.tbl (ps ++ #[rawInt pos.line, rawInt pos.col, .ref c]))) c (CodeO c q)) ∧ ExtN H (upd (upd H P (.tbl (ps ++ #[rawInt pos.line, rawInt pos.col, .ref c]))) c (CodeO c q)) := by
  have Pc : P ≠ c := ne_of_none at_ nC
  have ext := (extN_tbl (qs := ps ++ #[rawInt pos.line, rawInt pos.col, .ref c]) at_).trans (extN_new (o := CodeO c q) ((upd_ne Pc.symm).trans nC))
  have row : (ps ++ #[rawInt pos.line, rawInt pos.col, .ref c]).toList = ps.toList ++ [rawInt pos.line, rawInt pos.col, .ref c] := by simp
  have mine : TabS (upd (upd H P (.tbl (ps ++ #[rawInt pos.line, rawInt pos.col, .ref c]))) c (CodeO c q)) P q := by
    refine ⟨_, (upd_ne Pc).trans upd_same, ?_, ?_⟩ <;> rw [row]
    · exact PySem.TriplesOk_snoc _ _ _ _ ok
    · exact told.one ok (fun d e => ext d _ e codeO_ne) upd_same
  have other : ∀ p ∈ T, p.1 ≠ P → TabS (upd (upd H P (.tbl (ps ++ #[rawInt pos.line, rawInt pos.col, .ref c]))) c (CodeO c q)) p.1 p.2 := fun p hp n =>
    let ⟨qs, there, fine, names⟩ := hT p hp
    ⟨qs, (upd_ne (ne_of_none there nC)).trans ((upd_ne n).trans there), fine, fun x y h => (names x y h).imp fun d z => ⟨z.1, ext d _ z.2 codeO_ne⟩⟩
  exact ⟨fun p hp => if e : p.1 = P then by rw [e, hu p hp e]; exact mine else other p hp e, ext⟩

section
variable {X : Cx} {pins : List (Addr × Obj)} {σ : L2.St} {H : Hp} {s : Shared}
/-- the lambda's object is made -/
theorem lam_tr {T : List (Addr × Str)} {c P : Addr} {params : Arguments} {body : Expr} {scope : Scope} {pos : Pos} {dV : Value} {E : Value → Shared → Prop} {Q : Value → Shared → Prop} (I : Inv X pins σ H s) (TB : TabB X.base X.mg c P) (hcode : X.env.code = .ref c)
    (hm : (P, X.env.qual ++ "<lambda>") ∈ T) (hu : ∀ p ∈ T, p.1 = P → p.2 = X.env.qual ++ "<lambda>") (hT : Tabs T H) (hfree : ∀ y ∈ scope.names, y.2 = .free → ∃ c, X.env.cells.lookup y.1 = some c)
    (h : ∀ (f c' : Addr) (H1 : Hp) (s' : Shared), Inv X pins σ H1 s' → ExtN H H1 → Tabs T H1 → H f = none →
      H1 f = some (LamO f ⟨X.env.qual ++ "<lambda>", params, body, scope, cloFrom X.env.cells scope.names [], c', dV⟩) → H1 c' = some (CodeO c' (X.env.qual ++ "<lambda>")) → Q (.ref f) s') :
    wpAny (model X.prog X.w) X.A (makeTail "<lambda>" (X.env.qual ++ "<lambda>") params (.expr body) scope X.env dV .none none pos pos.line) Q E s := by
  obtain ⟨ps, table, triples, told⟩ := hT _ hm
  have main := TB.bm.keeps I.bk
  have glob := I.mod.glob.keeps I.bk
  have code := TB.code.keeps I.bk
  -- whichever way the code object was got: the function object is laid last
  have last : ∀ (c' : Addr) (H1 : Hp) (hp : Heap) (tk : Nat) (doc pm ctv : Value), Inv X pins σ H1 { s with heap := hp, toks := tk } → s.heap.objs.size ≤ hp.objs.size → ExtN H H1 → Tabs T H1 → H1 c' = some (CodeO c' (X.env.qual ++ "<lambda>")) →
      Q (.ref hp.objs.size) { s with heap := hp.push ⟨.type "function", none, .func ((LF.mk (X.env.qual ++ "<lambda>") params body scope (cloFrom X.env.cells scope.names []) c' dV).fd doc pm ctv), #[]⟩, toks := tk } := by
    intro c' H1 hp tk doc pm ctv J le ext tabs hc
    have fresh : H1 hp.objs.size = none := J.hok.fresh (Nat.le_refl _)
    exact h _ c' _ _ (Stands.laid J (LamAs.mk none #[] doc pm ctv) rfl) (ext.trans (extN_new fresh)) (tabs_keep tabs fresh) (I.hok.fresh le) upd_same ((upd_ne (ne_of_none hc fresh)).trans hc)
  match hk : codeAmong pos ps.toList with
  | some cv =>
    obtain ⟨c', rfl, known⟩ := told pos cv hk
    exact PySem.W.kdv_makeTailHit (closure_ok hfree) I.ok.glob glob hcode code (I.hok P _ table) triples hk main fun ctv doc hp tk old le => last c' H hp tk doc _ ctv (I.kept old) le (.refl H) hT known
  | none =>
    refine PySem.W.kdv_makeTail (closure_ok hfree) I.ok.glob glob hcode code (I.hok P _ table) triples hk TB.gP main ?_
    rintro c' ctv doc hp tk old ge lt ⟨_, oc, vs, t, z, rec⟩ row
    cases z
    have grown := tabs_more (pos := pos) hT table triples told hu (I.hok.fresh ge)
    exact last c' _ hp tk doc _ ctv (inv_table (t' := tk) I table (fun b o hb e => old b o hb e) row ge ⟨oc, vs, t, rec⟩) (Nat.le_trans ge (Nat.le_of_lt lt)) grown.2 grown.1 upd_same
end

/-- a lambda as a value: without defaults -/
def tLamV (T : List (Addr × Str)) (mk : Addr → LF) : TE := fun _ H Q => Tabs T H ∧ ∀ (f c' : Addr) (H1 : Hp), ExtN H H1 → Tabs T H1 → H f = none → H1 f = some (LamO f (mk c')) → H1 c' = some (CodeO c' (mk c').qual) → Q (.ref f) H1
/-- .. with one default, an int -/
def tLamD (T : List (Addr × Str)) (d : Int) (mk : Addr → Addr → LF) : TE := fun _ H Q => Tabs T H ∧ ∀ (f c' t : Addr) (H1 : Hp), ExtN H H1 → Tabs T H1 → H f = none → H t = none → H1 t = some (.tup [.int d]) → H1 f = some (LamO f (mk c' t)) → H1 c' = some (CodeO c' (mk c' t).qual) → Q (.ref f) H1
section
variable {X : Cx} {T : List (Addr × Str)} {c P : Addr} {params : Arguments} {body : Expr} {scope : Scope} {pos : Pos}
theorem free_has (hf : ∀ y ∈ scope.names, y.2 = .free → X.env.scope.names.lookup y.1 = some .cell ∨ X.env.scope.names.lookup y.1 = some .free) (ok : X.Ok) : ∀ y ∈ scope.names, y.2 = .free → ∃ c, X.env.cells.lookup y.1 = some c :=
  fun y hy e => (hf y hy e).elim (fun k => ok.has _ (.inl k)) (fun k => ok.has _ (.inr k))
theorem pe_lamV (TB : TabB X.base X.mg c P) (hcode : X.env.code = .ref c) (hm : (P, X.env.qual ++ "<lambda>") ∈ T) (hu : ∀ p ∈ T, p.1 = P → p.2 = X.env.qual ++ "<lambda>")
    (hf : ∀ y ∈ scope.names, y.2 = .free → X.env.scope.names.lookup y.1 = some .cell ∨ X.env.scope.names.lookup y.1 = some .free) (hdef : defaultsOf params X.env = ([], []) := by rfl) :
    PE X (.Lambda params body scope pos) (tLamV T fun c' => ⟨X.env.qual ++ "<lambda>", params, body, scope, cloFrom X.env.cells scope.names [], c', .none⟩) := by
  refine ⟨fun pins s σ H Q I h => ?_⟩
  obtain ⟨hT, h⟩ := h
  refine PySem.W.kla_eval hdef ?_
  rw [makeFunction_eq]
  simp only [List.zip_nil_right, List.filterMap_nil, List.isEmpty_nil, if_true, pure_bind]
  exact lam_tr I TB hcode hm hu hT (free_has hf I.ok) fun f c' H1 s' I1 eN T1 f0 f1 c1 => ⟨.ref f, H1, I1, rfl, h f c' H1 eN T1 f0 f1 c1⟩
theorem pe_lamD {d : Int} {j : Nat} {dp : Pos} (TB : TabB X.base X.mg c P) (hcode : X.env.code = .ref c) (hm : (P, X.env.qual ++ "<lambda>") ∈ T) (hu : ∀ p ∈ T, p.1 = P → p.2 = X.env.qual ++ "<lambda>")
    (hf : ∀ y ∈ scope.names, y.2 = .free → X.env.scope.names.lookup y.1 = some .cell ∨ X.env.scope.names.lookup y.1 = some .free) (hd : params.defaults = [.Constant (.int d) j dp]) (hk0 : params.kw_defaults = []) :
    PE X (.Lambda params body scope pos) (tLamD T d fun c' t => ⟨X.env.qual ++ "<lambda>", params, body, scope, cloFrom X.env.cells scope.names [], c', .ref t⟩) := by
  refine ⟨fun pins s σ H Q I h => ?_⟩
  obtain ⟨hT, h⟩ := h
  refine PySem.W.kdv_lam (by rw [hd]; rfl) hk0 ?_
  rw [hd]
  refine PySem.W.kdv_all1 (wpAny_Constant_int (PySem.W.kdv_all0 ?_))
  rw [makeFunction_eq]
  simp only [List.zip_nil_right, List.filterMap_nil, List.isEmpty_nil, if_true, pure_bind, List.isEmpty_cons, Bool.false_eq_true, if_false]
  refine wpAny_bind (wpAny_newTextTuple ?_)
  have nT : H s.heap.objs.size = none := I.hok.fresh (Nat.le_refl _)
  have I1 := I.laid (t' := s.toks + 1) (a := s.heap.objs.size) (o := .tup [.int d]) (h' := s.heap.push ({ cls := .type "tuple", data := .seq #[.int d s.toks] } : Obj)) (fun b u e => Heap.get?_push_of_some _ e) (Nat.le_refl _)
    ⟨(by show 1 ≤ sizeLine; decide), [.int d s.toks], .cons ⟨_, rfl⟩ .nil, ⟨_, Heap.get?_push_size _ rfl, rfl, _, rfl⟩⟩
  refine lam_tr I1 TB hcode hm hu (tabs_keep hT nT) (free_has hf I.ok) fun f c' H1 s' I2 eN T1 f0 f1 c1 => ⟨.ref f, H1, I2, rfl, ?_⟩
  have ft : f ≠ s.heap.objs.size := fun z => by
    rw [z, upd_same] at f0
    cases f0
  have f0' : H f = none := by
    rw [upd_ne ft] at f0
    exact f0
  exact h f c' s.heap.objs.size H1 ((extN_new nT).trans eN) T1 f0' nT (eN _ _ upd_same (fun ps z => by cases z)) f1 c1
end
end Sea

set_option Elab.async false
set_option linter.all false
set_option maxRecDepth 100000
set_option maxHeartbeats 4000000
namespace Sea
open PySem PySem.Spec PyProof.Rows L2 LamX NdefX
abbrev LF.nf (F : LF) : NF := ⟨"<lambda>", F.qual, F.params, [], F.scope, F.cl, F.c⟩
/-- the tuple of defaults, where there is one, holds one int -/
def DvOk (F : LF) (H : Hp) : Prop := ∀ t, F.dV = .ref t → ∃ d, H t = some (.tup [.int d])
/-- a thunk's reading: ws what its captured cells hold -/
abbrev TSp := List (Option V) → Hp → VK → XK → Prop
structure LOk (P : Program) (w : World) (K : PySem.W.Frag) (mg : Str → Option Value) (base : Heap) (CX : CXT) (k : Nat) (f : Addr) (F : LF) (fr : List Str) (sp : TSp) : Prop where
  run : ∀ (A : Around) (outer : List Env) (s : Shared) (H : Hp) (ws : List (Option V)) (Q : VK) (E : XK), Room k A → Env0 P w K mg base A outer s H → H f = some (LamO f F) → H F.c = some (CodeO F.c F.qual) → DvOk F H →
    CellsAt F.cl fr ws s.heap H → sp ws H Q E → codeAny (model P w) A (.call (.ref f) ⟨[], []⟩) (CR CX outer P w H s Q E) s
theorem LOk.mono {P : Program} {w : World} {K : PySem.W.Frag} {mg : Str → Option Value} {base : Heap} {CX : CXT} {k j : Nat} {f : Addr} {F : LF} {fr : List Str} {sp : TSp} (o : LOk P w K mg base CX j f F fr sp) (h : j ≤ k) : LOk P w K mg base CX k f F fr sp :=
  ⟨fun A outer s H ws Q E hr => o.run A outer s H ws Q E (hr.mono h)⟩
theorem LOk.imp {P : Program} {w : World} {K : PySem.W.Frag} {mg : Str → Option Value} {base : Heap} {CX : CXT} {k : Nat} {f : Addr} {F : LF} {fr : List Str} {sp sp' : TSp} (o : LOk P w K mg base CX k f F fr sp) (h : ∀ ws H Q E, sp' ws H Q E → sp ws H Q E) : LOk P w K mg base CX k f F fr sp' :=
  ⟨fun A outer s H ws Q E hr e0 a b c d q => o.run A outer s H ws Q E hr e0 a b c d (h _ _ _ _ q)⟩
section
variable {CX : CXT} {P : Program} {w : World} {K : PySem.W.Frag} {mg : Str → Option Value} {base : Heap} {N ps fr : List Str} {F : LF} {f : Addr} {k : Nat} {sp : TSp}
theorem lok_core {A : Around} {outer : List Env} {s : Shared} {H : Hp} {us : List Value} {vs : List V} {ws : List (Option V)} {Q : VK} {E : XK} (S : NScope N ps fr F.scope) (hr : Room (k + 1) A) (e0 : Env0 P w K mg base A outer s H)
    (hf : H f = some (LamO f F)) (hc : H F.c = some (CodeO F.c F.qual)) (C : CellsAt F.cl fr ws s.heap H) (r : Vals vs us) (hl : vs.length = ps.length)
    (hb : ∀ doc pm ctv : Value, BindsTo s (F.fd doc pm ctv) ⟨[], []⟩ (ps.zip us))
    (hbody : Room k (A.deeper (envF F.nf f s.heap.objs.size)) → ∃ t, PE (ncx CX P w K mg base N F.nf f A outer s H E) F.body t ∧ t (startF N vs ws) H Q) :
    codeAny (model P w) A (.call (.ref f) ⟨[], []⟩) (CR CX outer P w H s Q E) s := by
  have lim : s.heap.NoLimit := e0.mod.nolimit.keeps fun b o e => (e0.bs b o e).1
  obtain ⟨_, ⟨od, sl, doc, pm, ctv⟩, ho⟩ := lamO_at e0.hok hf
  refine PySem.W.kla_callFunE hr.depth ho rfl S.co S.gen rfl (codeO_at e0.hok hc) ?_
  refine hb doc pm ctv _ _ _ _ ?_
  refine wpAny_newFunctionEnv S.nocell (fun ⟨n, _⟩ hy => S.par n (List.of_mem_zip hy).1) (fun h1 hns hsb => ⟨lim.fresh _ hsb, ?_⟩) S.kind
  have kp : ∀ b o, s.heap.get? b = some o → h1.get? b = some o := fun b o e => hsb.extBut b o (Nat.ne_of_lt (Heap.lt_size e)) (Heap.get?_push_of_some _ e)
  obtain ⟨t, ht, hq⟩ := hbody (hr.deeper _)
  have I : Inv (ncx CX P w K mg base N F.nf f A outer s H E) [] (startF N vs ws) H { s with heap := h1, toks := s.toks + (ps.zip us).length } := inv_startN S hr.hd e0 hl r C hns kp
  show codeAny _ _ (.expr F.body (envF F.nf f s.heap.objs.size)) _ _
  refine PySem.W.kla_codeExpr (wpAny_mono (ht.run [] _ (startF N vs ws) H Q I hq) (fun v s' hs => ?_) fun e s' hs => hs)
  obtain ⟨x, H', J, rv, q⟩ := hs
  exact ⟨x, H', J.os, J.bare, J.base, J.hok, rv, q⟩
theorem lok_of0 (S : NScope N [] fr F.scope) (hb : ∀ doc pm ctv : Value, bindArgs (F.fd doc pm ctv) ⟨[], []⟩ = pure [])
    (hbody : ∀ (A : Around) (outer : List Env) (s : Shared) (H : Hp) (ws : List (Option V)) (Q : VK) (E : XK), Room k (A.deeper (envF F.nf f s.heap.objs.size)) → ws.length = fr.length → sp ws H Q E →
      ∃ t, PE (ncx CX P w K mg base N F.nf f A outer s H E) F.body t ∧ t (startF N [] ws) H Q) : LOk P w K mg base CX (k + 1) f F fr sp :=
  ⟨fun A outer s H ws Q E hr e0 hf hc hd C hq => lok_core (us := []) (vs := []) S hr e0 hf hc C .nil rfl (fun doc pm ctv => .of_eq (hb doc pm ctv)) fun hr' => hbody A outer s H ws Q E hr' C.len hq⟩
/-- with one default -/
theorem lok_ofD {a : Str} {t : Addr} (S : NScope N [a] fr F.scope) (hdv : F.dV = .ref t)
    (hb : ∀ doc pm ctv : Value, ∃ kk : Option (Array Value) → Sem (List (Str × Value)), bindArgs (F.fd doc pm ctv) ⟨[], []⟩ = seqItems? (F.fd doc pm ctv).defaults >>= kk ∧ ∀ u, kk (some #[u]) = pure [(a, u)])
    (hbody : ∀ (A : Around) (outer : List Env) (s : Shared) (H : Hp) (ws : List (Option V)) (Q : VK) (E : XK) (d : Int), Room k (A.deeper (envF F.nf f s.heap.objs.size)) → ws.length = fr.length → sp ws H Q E →
      ∃ t, PE (ncx CX P w K mg base N F.nf f A outer s H E) F.body t ∧ t (startF N [.int d] ws) H Q) : LOk P w K mg base CX (k + 1) f F fr sp := by
  refine ⟨fun A outer s H ws Q E hr e0 hf hc hd C hq => ?_⟩
  obtain ⟨d, ht⟩ := hd t hdv
  obtain ⟨_, its, rv, o, ho, hcl, n, hsq⟩ := (show ObjOk P w H s.heap t (.tup [.int d]) from e0.hok t _ ht)
  cases rv with
  | @cons _ u _ rest ru rr =>
    cases rr
    exact lok_core (us := [u]) (vs := [.int d]) S hr e0 hf hc C (.cons ru .nil) rfl (fun doc pm ctv => by
      obtain ⟨kk, e1, e2⟩ := hb doc pm ctv
      exact BindsTo.of_defaults hdv ho hsq e1 (e2 u)) fun hr' => hbody A outer s H ws Q E d hr' C.len hq
end

/-- what a caller hands on with a thunk: tl is its reading -/
structure Thunk (P : Program) (w : World) (K : PySem.W.Frag) (mg : Str → Option Value) (base : Heap) (CX : CXT) (k : Nat) (outer : List Env) (s : Shared) (H : Hp) (f : Addr) (tl : Hp → VK → XK → Prop) : Prop where
  ex : ∃ (F : LF) (fr : List Str) (ws : List (Option V)) (sp : TSp), LOk P w K mg base CX k f F fr sp ∧ H f = some (LamO f F) ∧ H F.c = some (CodeO F.c F.qual) ∧ DvOk F H ∧ CellsAt F.cl fr ws s.heap H ∧ (∀ y c, F.cl.lookup y = some c → c ∉ frs outer) ∧ tl = sp ws
/-- a def that takes a thunk, its promise told of the state -/
def FnS (P : Program) (w : World) (K : PySem.W.Frag) (mg : Str → Option Value) (base : Heap) (CX CXl : CXT) (k j : Nat) (g : Addr) (sp : (Hp → VK → XK → Prop) → Hp → VK → XK → Prop) : Prop :=
  ∀ (A : Around) (outer : List Env) (s : Shared) (H : Hp) (f : Addr) (tl : Hp → VK → XK → Prop) (Q : VK) (E : XK), Room k A → Env0 P w K mg base A outer s H → Thunk P w K mg base CXl j outer s H f tl → sp tl H Q E →
    codeAny (model P w) A (.call (.ref g) ⟨[.ref f], []⟩) (CR CX outer P w H s Q E) s
section
variable {X : Cx} {CX CXl : CXT} {i k j : Nat} {x : Str} {p pos : Pos} {E : L2.St → XK}
/-- a local name is read: the value that its slot holds, nothing moved -/
theorem name_at {pins : List (Addr × Obj)} {σ : L2.St} {H : Hp} {s : Shared} {v : V} {Qv : Value → Shared → Prop} (hN : X.N[i]? = some x) (hv : Vis X.env.scope x) (hd : (x == ("__debug__" : Str)) = false) (hcd : (x == ("__classdict__" : Str)) = false)
    (I : Inv X pins σ H s) (slot : σ[i]? = some (some v)) (next : ∀ u s', RelV v u → Inv X pins σ H s' → Qv u s') : wpAny (model X.prog X.w) X.A (eval (.Name x p) X.env) Qv X.xe s := by
  have read := (pe_var (pos := p) hN hv hd hcd).run pins s σ H (fun y H' => (y, H') = (v, H)) I ⟨v, slot, rfl⟩
  refine thn read ?_
  rintro u s' ⟨_, _, J, r, e⟩
  cases e
  exact next u s' r J
/-- x(), x the thunk that this def was handed -/
def tAct (X : Cx) (CXl : CXT) (j i : Nat) (E : L2.St → XK) : TE := fun σ H Q => ∃ (f : Addr) (tl : Hp → VK → XK → Prop), σ[i]? = some (some (.ref f)) ∧ H = X.H_0 ∧ Thunk X.prog X.w X.K X.mg X.base CXl j X.outer X.s_0 X.H_0 f tl ∧ tl H Q (E σ)
theorem pe_actT (hr : Room j X.A) (hex : X.ex = []) (hx : ∀ σ, PassesAt CXl X σ (E σ)) (hN : X.N[i]? = some x) (hv : Vis X.env.scope x)
    (hd : (x == ("__debug__" : Str)) = false := by decide) (hcd : (x == ("__classdict__" : Str)) = false := by decide) : PE X (.Call (.Name x p) [] [] pos) (tAct X CXl j i E) := by
  constructor
  rintro pins s σ _ Q I ⟨f, _, slot, rfl, ⟨F, fr, ws, sp, L, hf, hc, hdv, C, nf, rfl⟩, ht⟩
  refine wpAny_Call_Name_kw (name_at hN hv hd hcd I slot ?_)
  rintro u s1 (rfl : u = .ref f) I1
  obtain ⟨_, ⟨od, sl, doc, pm, ctv⟩, ho⟩ := lamO_at I1.hok hf
  have cells := C.later nf (fun y c e z => by rw [hex] at z; cases z) I1
  have ran := L.run X.A X.stack s1 X.H_0 ws Q (E σ) hr I1.env0 hf hc hdv cells ht
  refine PySem.W.callWith_F0 (first := []) ⟨_, od, _, sl, ho⟩ (wpAny_call (codeAny_mono ran ?_))
  intro r s' back
  match r, back with
  | .error e, back => exact hx σ pins X.H_0 s1 e s' I1 back
  | .ok (.ret _), back => exact I1.after back
  | .ok .next, back => exact back.elim
  | .ok .brk, back => exact back.elim
  | .ok .cont, back => exact back.elim
/-- from the running frame: the cells that a thunk captured here -/
theorem thunk_here {pins : List (Addr × Obj)} {σ : L2.St} {H : Hp} {s : Shared} {f : Addr} {F : LF} {fr : List Str} {js : List Nat} {sp : TSp} (I : Inv X pins σ H s) (hfn : X.fn = fun _ => true) (L : LOk X.prog X.w X.K X.mg X.base CXl j f F fr sp) (hf : H f = some (LamO f F)) (hc : H F.c = some (CodeO F.c F.qual)) (hd : DvOk F H)
    (cp : Caps X F.cl fr js) : Thunk X.prog X.w X.K X.mg X.base CXl j X.stack s H f (sp (js.map (slotAt σ))) := by
  refine ⟨F, fr, _, sp, L, hf, hc, hd, cells_of I cp, fun y c e z => ?_, rfl⟩
  have e' := cp.sub y c e
  rcases List.mem_cons.mp (I.stkSub c z) with z | z
  · exact I.cne y c e' z
  · have h1 := I.ok.cab y c (by rw [hfn]) e'
    obtain ⟨_, o, ho, _⟩ := I.ok.funs.mem z
    exact absurd (Nat.lt_of_lt_of_le (Heap.lt_size ho) h1) (Nat.lt_irrefl _)
/-- g(e), e a lambda made in this def -/
def tGive (X : Cx) (CXl : CXT) (j : Nat) (sp : (Hp → VK → XK → Prop) → Hp → VK → XK → Prop) (te : TE) : TE := fun σ H Q => te σ H fun v H1 => ∃ (f : Addr) (F : LF) (fr : List Str) (js : List Nat) (lsp : TSp), v = .ref f ∧ LOk X.prog X.w X.K X.mg X.base CXl j f F fr lsp ∧
  H1 f = some (LamO f F) ∧ H1 F.c = some (CodeO F.c F.qual) ∧ DvOk F H1 ∧ (X.Ok → Caps X F.cl fr js) ∧ sp (lsp (js.map (slotAt σ))) H1 Q fun _ _ _ => False
theorem pe_give {g : Addr} {sp : (Hp → VK → XK → Prop) → Hp → VK → XK → Prop} {e : Expr} {te : TE} (G : FnS X.prog X.w X.K X.mg X.base CX0 CXl k j g sp) (hfn : X.fn = fun _ => true) (hr : Room k X.A) (hg : Gl X x) (hm : X.mg x = some (.ref g)) (hk : PySem.W.keepIn X.K (.ref g) = true) (he : PE X e te)
    (hdb : (x == ("__debug__" : Str)) = false := by decide) (hs : starEach (e :: []) X.env = (false, eval e X.env) :: starEach [] X.env := by rfl) (hpl : (backTo pos (starEach [] X.env)).any (·.1) = false := by rfl) :
    PE X (.Call (.Name x p) [e] [] pos) (tGive X CXl j sp te) := by
  refine ⟨fun pins s σ H Q I h => ?_⟩
  refine wpAny_Call_Name_kw (ld_glob I hg hm ?_ hdb)
  refine PySem.W.callWith_K (h₀ := X.base) I.ok.mod.kin hk (thn ((pa_cons he pa_nil hs).run pos pins s σ H (fun vs H1 => ∃ v, vs = [v] ∧ ∃ (f : Addr) (F : LF) (fr : List Str) (js : List Nat) (lsp : TSp), v = .ref f ∧ LOk X.prog X.w X.K X.mg X.base CXl j f F fr lsp ∧
    H1 f = some (LamO f F) ∧ H1 F.c = some (CodeO F.c F.qual) ∧ DvOk F H1 ∧ (X.Ok → Caps X F.cl fr js) ∧ sp (lsp (js.map (slotAt σ))) H1 Q fun _ _ _ => False) I ?_) fun us s1 hh => ?_) hs hpl
  · show te σ H _
    refine Eq.mp ?_ h
    show te σ H _ = te σ H _
    congr 1
    funext v H1
    refine propext ⟨fun hh => ⟨v, rfl, hh⟩, fun ⟨v', e', hh⟩ => ?_⟩
    cases e'
    exact hh
  · obtain ⟨vs, H1, I1, r, v, ev, f, F, fr, js, lsp, ef, L, hf, hc, hd, cp, q⟩ := hh
    subst ev
    subst ef
    refine ⟨I1.kIn, ?_⟩
    cases r with
    | cons ru rr =>
      cases rr
      obtain rfl := (show _ = Value.ref f from ru)
      refine wpAny_call (codeAny_mono (G X.A X.stack s1 H1 f _ Q (fun _ _ _ => False) hr I1.env0 (thunk_here I1 hfn L hf hc hd (cp I1.ok)) q) fun r s' hq => ?_)
      cases r with
      | error e => exact False.elim hq
      | ok fl =>
        cases fl with
        | ret u => exact I1.after hq
        | next => exact False.elim hq
        | brk => exact False.elim hq
        | cont => exact False.elim hq
end
end Sea

set_option Elab.async false
set_option linter.all false
set_option maxRecDepth 100000
set_option maxHeartbeats 4000000
/-! [g(x) for x in xs], xs a list of lambdas that this def made, g a def that takes a thunk -/
namespace Sea
open PySem PySem.Spec PyProof.Rows L2 LamX NdefX
theorem vals_at {xs : List V} {us : List Value} {i : Nat} {u : Value} (r : Vals xs us) (h : us[i]? = some u) : ∃ x, xs[i]? = some x ∧ RelV x u := by
  cases e : xs[i]? with
  | none =>
    rw [r.none_of e] at h
    cases h
  | some x =>
    obtain ⟨u', h', ru⟩ := r.get e
    rw [h] at h'
    cases h'
    exact ⟨x, rfl, ru⟩
def listSt (it a : Addr) (xs : List V) (i : Nat) (h : Heap) : Prop := h.IsListIter it a i ∧ ∃ items : Array Value, h.IsList a items ∧ Vals xs items.toList
theorem goes_listV {prog : Program} {w : World} {A : Around} {target : Expr} (hh : A.handled = none) (it a : Addr) (hne : a ≠ it) (xs : List V) :
    Goes prog w A target it [it, a] [it] xs.length (fun i v _ => ∃ x, xs[i]? = some x ∧ RelV x v) (listSt it a xs) := by
  refine ⟨fun b hb => by simp at hb; simp [hb], ?_, ?_, ?_, ?_⟩
  · rintro i h h' ⟨⟨o, ho, ro⟩, items, ⟨o2, ho2, ro2⟩, rv⟩ hk
    exact ⟨⟨o, hk it (by simp) o ho, ro⟩, items, ⟨o2, hk a (by simp) o2 ho2, ro2⟩, rv⟩
  · rintro i s Q E hi ⟨hit, items, hl, rv⟩ hQ
    have sz : items.size = xs.length := by
      have := rv.length
      rw [Array.length_toList] at this
      exact this.symm
    refine (Goes.list (prog := prog) (w := w) (target := target) hh it a hne items).goes i s Q E (by rw [sz]; exact hi) ⟨hit, hl⟩ ?_
    intro v h' tk hY hSt hk htk
    exact hQ v h' tk (vals_at rv (by simpa using hY)) ⟨hSt.1, items, hSt.2, rv⟩ hk htk
  · rintro s Q E ⟨hit, items, hl, rv⟩ hQ
    have sz : items.size = xs.length := by
      have := rv.length
      rw [Array.length_toList] at this
      exact this.symm
    refine (Goes.list (prog := prog) (w := w) (target := target) hh it a hne items).stops s Q E ⟨by rw [sz]; exact hit, hl⟩ hQ
  · rintro i s Q E ⟨hit, items, hl, rv⟩ hQ
    exact (Goes.list (prog := prog) (w := w) (target := target) hh it a hne items).self i s Q E ⟨hit, hl⟩ hQ
theorem clo_none {cells : List (Str × Addr)} : ∀ {names : List (Str × NameKind)} {acc : List (Str × Addr)}, (∀ y ∈ names, y.2 ≠ .free) → cloFrom cells names acc = acc
  | [], acc, _ => rfl
  | (n, k) :: r, acc, h => by
    have hk : (k == NameKind.free) = false := by
      have := h (n, k) List.mem_cons_self
      cases k <;> first | rfl | exact absurd rfl this
    unfold cloFrom
    rw [hk]
    exact clo_none fun y hy => h y (List.mem_cons_of_mem _ hy)
/-- a block whose names are its own locals and globals -/
structure PlainBlk (scope : Scope) : Prop where
  kind : scope.kind = .function
  nm : ∀ y ∈ scope.names, y.2 = .local ∨ y.2 = .globalImplicit
  uq : ∀ y ∈ scope.names, y.2 = .local → scope.names.lookup y.1 = some .local
theorem PlainBlk.noFree {scope : Scope} (b : PlainBlk scope) : ∀ y ∈ scope.names, y.2 ≠ .free := fun y hy e => by
  rcases b.nm y hy with h | h <;> rw [h] at e <;> cases e
theorem PlainBlk.noCell {scope : Scope} (b : PlainBlk scope) : ∀ y ∈ scope.names, y.2 ≠ .cell := fun y hy e => by
  rcases b.nm y hy with h | h <;> rw [h] at e <;> cases e
def plainBlkB (scope : Scope) : Bool := decide (scope.kind = .function) && scope.names.all (fun y => decide (y.2 = .local) || decide (y.2 = .globalImplicit)) && scope.names.all fun y => !decide (y.2 = .local) || decide (scope.names.lookup y.1 = some .local)
theorem plainBlk_by {scope : Scope} (h : plainBlkB scope = true) : PlainBlk scope := by
  unfold plainBlkB at h
  simp only [Bool.and_eq_true, Bool.or_eq_true, Bool.not_eq_true', decide_eq_true_eq, decide_eq_false_iff_not, List.all_eq_true] at h
  exact ⟨h.1.1, h.1.2, fun y hy e => (h.2 y hy).elim (fun z => absurd e z) id⟩
section
variable {X : Cx} {pins : List (Addr × Obj)} {σ : L2.St} {H : Hp} {s : Shared}
theorem PlainBlk.kindOf {scope : Scope} {C : Addr} (b : PlainBlk scope) {y : Str} {k : NameKind} (h : (compEnvC scope [] C X.env).kindOf y = some k) : k = .local ∨ k = .globalImplicit := by
  have h' : (relS scope X.env.scope).names.lookup y = some k := h
  obtain ⟨k', e, r⟩ := lookup_relS h'
  have hk := b.nm _ (PySem.mem_of_lookup e)
  rcases r with rfl | ⟨rfl, _⟩
  · exact hk
  · rcases hk with z | z <;> cases z
theorem blk_inv {scope : Scope} {C : Addr} {h3 : Heap} {tk : Nat} (I : Inv X pins σ H s) (hc : X.calm = true) (b : PlainBlk scope) (nC : s.heap.objs.size ≤ C) (kp : ∀ b o, s.heap.get? b = some o → h3.get? b = some o) (hns : h3.Ns C fun _ => none) :
    Inv (X.blk s H scope (compEnvC scope [] C X.env) []) [] (List.replicate X.N.length none) H { s with heap := h3, toks := tk } := by
  have nocell : ∀ x c, ([] : List (Str × Addr)).lookup x = some c → False := fun x c e => by simp at e
  have okB : (X.blk s H scope (compEnvC scope [] C X.env) []).Ok := by
    refine ⟨I.ok.mod, b.kind, I.ok.glob, I.ok.blt, nC, fun x y c e _ => (nocell x c e).elim, fun y hy => ?_, fun y c _ e => (nocell y c e).elim, I.ok.hd, I.ok.frames, .inl rfl, fun q hq => absurd hq (by simp), I.bs, Nat.le_trans I.ok.bsz I.sz, fun _ _ _ => by simp, fun q hq => absurd hq (by simp), I.stack, I.stkFree⟩
    exfalso
    rcases hy with hy | hy
    · rcases b.kindOf (X := X) hy with z | z <;> cases z
    · rcases b.kindOf (X := X) hy with z | z <;> cases z
  refine ⟨okB, rfl, I.bare, Un.kept kp, ⟨_, hns, fun i x v _ e _ => ?_⟩, fun x c e => (nocell x c e).elim, I.hok.fresh nC, fun x c e => (nocell x c e).elim, fun p hp => absurd (show p ∈ ([] : List (Addr × Obj)) ++ [] from hp) (by simp), I.hok.kept kp, by simp⟩
  exfalso
  have : (List.replicate X.N.length (none : Option V))[i]? = some (some v) := e
  rw [List.getElem?_replicate] at this
  split at this <;> cases this
end
/-- the reading of the rest r of the list, acc made so far; the list of lambdas stands at a throughout -/
def gAll (X : Cx) (CXl : CXT) (j : Nat) (sp : (Hp → VK → XK → Prop) → Hp → VK → XK → Prop) (σ : L2.St) (a : Addr) (xs : List V) (Q : VK) : List V → List V → Hp → Prop
  | [], acc, H => SqL X.K H a xs ∧ ∀ D, H D = none → Q (.ref D) (upd H D (.lst acc))
  | v :: r, acc, H => SqL X.K H a xs ∧ ∃ (f : Addr) (F : LF) (fr : List Str) (js : List Nat) (lsp : TSp), v = .ref f ∧ LOk X.prog X.w X.K X.mg X.base CXl j f F fr lsp ∧
    H f = some (LamO f F) ∧ H F.c = some (CodeO F.c F.qual) ∧ DvOk F H ∧ (X.Ok → Caps X F.cl fr js) ∧ sp (lsp (js.map (slotAt σ))) H (fun y H2 => gAll X CXl j sp σ a xs Q r (acc ++ [y]) H2) fun _ _ _ => False
theorem gAll_list {X : Cx} {CXl : CXT} {j : Nat} {sp : (Hp → VK → XK → Prop) → Hp → VK → XK → Prop} {σ : L2.St} {a : Addr} {xs : List V} {Q : VK} {r acc : List V} {H : Hp} (h : gAll X CXl j sp σ a xs Q r acc H) : SqL X.K H a xs := by
  cases r with
  | nil => exact h.1
  | cons v r => exact h.1
def tLcT (X : Cx) (CXl : CXT) (j : Nat) (sp : (Hp → VK → XK → Prop) → Hp → VK → XK → Prop) (te : TE) : TE := fun σ H Q => te σ H fun v H1 => ∃ (a : Addr) (xs : List V), v = .ref a ∧ xs.length ≤ 1000 ∧ gAll X CXl j sp σ a xs Q xs [] H1
section
variable {X : Cx} {CXl : CXT} {i k j : Nat} {x g : Str} {gA : Addr} {sp : (Hp → VK → XK → Prop) → Hp → VK → XK → Prop} {scope : Scope} {iter : Expr} {te : TE} {px px2 pg pp pos : Pos}
theorem pe_lcT (G : FnS X.prog X.w X.K X.mg X.base CX0 CXl k j gA sp) (hc : X.calm = true) (hfn : X.fn = fun _ => true) (hN : X.N.Nodup) (hi : X.N[i]? = some x) (b : PlainBlk scope) (hx : scope.names.lookup x = some .local) (hg : scope.names.lookup g = some .globalImplicit)
    (hm : X.mg g = some (.ref gA)) (hk : PySem.W.keepIn X.K (.ref gA) = true) (hr : Room k X.A) (he : PE X iter te) (hdb : (g == ("__debug__" : Str)) = false := by decide) (hdx : (x == ("__debug__" : Str)) = false := by decide)
    (hs : ∀ y, foldedSetIterable iter X.env y = pure y := by intro _; rfl) :
    PE X (.ListComp (.Call (.Name g pg) [.Name x px] [] pp) [⟨.Name x px2, iter, [], 0⟩] scope pos) (tLcT X CXl j sp te) := by
  refine ⟨fun pins s σ H Q I h => ?_⟩
  have hclos : closureFor scope X.env = pure [] := by
    rw [closure_ok (fun y hy e => absurd e (b.noFree y hy)), clo_none b.noFree]
  refine ListComp_goes hclos b.noCell b.kind b.uq ?_ hs
  refine thn (he.run pins s σ H _ I h) fun u s1 hh => ?_
  obtain ⟨v, H1, I1, rv, a, xs, ev, hlen, hga⟩ := hh
  subst ev
  obtain rfl : u = Value.ref a := rv
  obtain ⟨its, ri, ⟨o, n, ho, hcl, _, hd⟩, _⟩ := I1.list (gAll_list hga)
  refine wpAny_pyIter_list (items := its.toArray) ⟨o, ho, hcl, n, hd⟩ ?_
  have hit : a ≠ s1.heap.objs.size := Nat.ne_of_lt (Heap.lt_size ho)
  generalize hsi : s1.heap.objs.size = it at hit ⊢
  refine ⟨it, [it, a], [it], xs.length, _, _, rfl, goes_listV (I1.ok.hd hc) it a hit xs, Nat.le_trans hlen (by decide), ?_, ?_, ?_⟩
  · refine ⟨⟨({ cls := .type "list_iterator", data := .fields #[.ref a, .int 0 0] } : Obj), ?_, rfl, rfl⟩, its.toArray, ⟨o, Heap.get?_push_of_some _ ho, hcl, n, hd⟩, by simpa using ri⟩
    rw [← hsi]
    exact Heap.get?_push_size _ rfl
  · intro q hq
    show q < (s1.heap.push _).objs.size
    rw [Heap.size_push, hsi]
    rcases List.mem_cons.mp hq with rfl | hq
    · exact Nat.lt_succ_self _
    · rw [List.mem_singleton.mp hq, ← hsi]
      exact Nat.lt_succ_of_lt (Heap.lt_size ho)
  · intro D C s3 hB
    obtain ⟨⟨h3, tk3, rfl⟩, old, nD, nC, hDC, hnm⟩ := hB
    have nD' : it + 1 ≤ D := by
      have z : (s1.heap.push ({ cls := .type "list_iterator", data := .fields #[.ref a, .int 0 0] } : Obj)).objs.size ≤ D := nD
      rw [Heap.size_push, hsi] at z
      exact z
    have nC' : it + 1 ≤ C := by
      have z : (s1.heap.push ({ cls := .type "list_iterator", data := .fields #[.ref a, .int 0 0] } : Obj)).objs.size ≤ C := nC
      rw [Heap.size_push, hsi] at z
      exact z
    have sD : s1.heap.objs.size ≤ D := by rw [hsi]; exact Nat.le_of_succ_le nD'
    have sC : s1.heap.objs.size ≤ C := by rw [hsi]; exact Nat.le_of_succ_le nC'
    have sI : s1.heap.objs.size ≤ it := Nat.le_of_eq hsi
    have hDI : D ≠ it := Nat.ne_of_gt nD'
    have hCI : C ≠ it := Nat.ne_of_gt nC'
    have kp : ∀ q u, s1.heap.get? q = some u → h3.get? q = some u := fun q u e => old q u (Heap.get?_push_of_some _ e)
    have fsN : ∀ {q : Addr}, s1.heap.objs.size ≤ q → q ∉ frs X.stack := fun {q} hq z => by
      rcases List.mem_cons.mp (I1.stkSub q z) with z | z
      · exact absurd (Nat.lt_of_lt_of_le I1.lt (z ▸ hq)) (Nat.lt_irrefl _)
      · exact I1.nofs hq z
    generalize hXb : X.blk s1 H1 scope (compEnvC scope [] C X.env) [] = Xb
    have I3 : Inv Xb [] (List.replicate X.N.length none) H1 { s1 with heap := h3, toks := tk3 } := by
      rw [← hXb]
      exact blk_inv I1 hc b sC kp hnm
    have nfree : H1 D = none ∧ H1 it = none := ⟨I1.hok.fresh sD, I1.hok.fresh sI⟩
    have eN : Xb.N = X.N := by rw [← hXb]
    have eL : Xb.env.locals = C := by rw [← hXb]; rfl
    have eS : Xb.s_0 = s1 := by rw [← hXb]
    have eCl : Xb.env.cells = [] := by rw [← hXb]; rfl
    have eFs : Xb.fs = frs X.stack := by rw [← hXb]
    have ePn : Xb.pn = [] := by rw [← hXb]
    refine ⟨fun m ys s4 => ∃ (H4 : Hp) (acc : List V), Inv Xb [] (List.replicate X.N.length none) H4 s4 ∧ Vals acc ys ∧ acc.length = m ∧ H4 D = none ∧ H4 it = none ∧ gAll X CXl j sp σ a xs Q (xs.drop m) acc H4,
      ⟨H1, [], I3, .nil, rfl, nfree.1, nfree.2, hga⟩, ?_, ?_, ?_⟩
    · -- D and the iterator may change
      rintro m ys s4 h' tk ⟨H4, acc, I4, ra, la, fD, fI, q4⟩ hk' _
      refine ⟨H4, acc, ?_, ra, la, fD, fI, q4⟩
      have ne : ∀ {c : Addr} {u : HO}, H4 c = some u → c ∉ [D, it] := fun {c u} e z => by
        rcases List.mem_cons.mp z with z | z
        · rw [z, fD] at e; cases e
        · rw [List.mem_singleton.mp z, fI] at e; cases e
      have nC4 : C ∉ [D, it] := fun z => by
        rcases List.mem_cons.mp z with z | z
        · exact hDC z.symm
        · exact hCI (List.mem_singleton.mp z)
      refine I4.step (g' := s4.gens) (d' := s4.drawn) (t' := tk) (ch := [D, it]) (fun q hq => ⟨.inr ?_, ?_, fun y c e => ?_, fun p hp => ?_⟩) (fun q o _ _ hq e _ => hk' q o hq e) (fun q o _ _ hq e _ => ⟨o.slots, hk' q o hq e⟩) (fun _ _ _ _ z => z) (fun q o hq e => ⟨o, hk' q o hq e⟩)
        (fun _ _ e => e) (fun _ _ _ e => e) (fun q ps e => ⟨#[], by rw [e]; simp⟩) (fun mm hm4 => ?_) (fun q u e => (I4.hok q u e).stay (fun c v hc2 z => hk' c v (by
          rcases hc2 with hc2 | hc2
          · rw [hc2]
            exact ne e
          · exact ne hc2) z) (fun _ z => z) fun _ _ z => z) I4.bare
      · rw [eS]
        rcases List.mem_cons.mp hq with z | z
        · rw [z]; exact sD
        · rw [List.mem_singleton.mp z]; exact sI
      · rw [eL]
        exact fun z => nC4 (z ▸ hq)
      · rw [eCl] at e
        simp at e
      · rw [ePn] at hp
        simp at hp
      · obtain ⟨o5, es, ep, e5, r5⟩ := hm4
        rw [eL] at e5 ⊢
        exact ⟨o5, es, ep, hk' C o5 nC4 e5, r5⟩
    · -- one turn
      rintro m u ys s4 hm4 ⟨xv, hxv, rxv⟩ hSt ⟨H4, acc, I4, ra, la, fD, fI, q4⟩ hPL
      have hdrop : xs.drop m = xv :: xs.drop (m + 1) := by
        obtain ⟨hlt, e⟩ := List.getElem?_eq_some_iff.mp hxv
        rw [List.drop_eq_getElem_cons hlt, e]
      rw [hdrop] at q4
      obtain ⟨_, f, F, fr, js, lsp, ef, L, hf, hco, hdv, cp, q5⟩ := q4
      subst ef
      obtain rfl : u = Value.ref f := rxv
      obtain ⟨⟨oi, hoi, hoc, hod⟩, _⟩ := hSt
      obtain ⟨nD4, hoD⟩ := hPL
      have Ip : Inv Xb [(it, oi), (D, ({ cls := .type "list", data := .seq ys.toArray nD4 } : Obj))] (List.replicate X.N.length none) H4 s4 := by
        refine I4.pins_of fun p hp => ?_
        rcases List.mem_cons.mp hp with rfl | hp
        · refine ⟨hoi, fI, by rw [eL]; exact Ne.symm hCI, by rw [eFs]; exact fsN sI, fun v z => ?_⟩
          rw [hod] at z
          cases z
        · rw [List.mem_singleton.mp hp]
          exact ⟨hoD, fD, by rw [eL]; exact hDC, by rw [eFs]; exact fsN sD, fun v z => by cases z⟩
      have hlocB : Xb.env.scope.names.lookup x = some .local := by rw [← hXb]; exact lookup_relabel_local hx
      have hEnv : compEnvC scope [] C X.env = Xb.env := by rw [← hXb]
      have hprog : Xb.prog = X.prog := by rw [← hXb]
      have hw : Xb.w = X.w := by rw [← hXb]
      have hAA : Xb.A = X.A := by rw [← hXb]
      have hst : Xb.stack = X.stack := by rw [← hXb]
      have hmgB : Xb.mg = X.mg := by rw [← hXb]
      have hKB : Xb.K = X.K := by rw [← hXb]
      have hbB : Xb.base = X.base := by rw [← hXb]
      have hglB : Gl Xb g := by
        have key := lookup_relS_keep (sc := X.env.scope) (by intro z; cases z) hg
        rw [← hXb]
        exact key
      have eX : Xb.ex = [] := by rw [← hXb]
      have eH : Xb.H_0 = H1 := by rw [← hXb]
      have cpX := cp I.ok
      have C0 : CellsAt F.cl fr (js.map (slotAt σ)) Xb.s_0.heap Xb.H_0 := by
        rw [eS, eH]
        exact cells_of I1 cpX
      have nf : ∀ y c, F.cl.lookup y = some c → c ∉ frs X.stack := fun y c e z => by
        have e' := cpX.sub y c e
        rcases List.mem_cons.mp (I1.stkSub c z) with z | z
        · exact I1.cne y c e' z
        · have h1 := I1.ok.cab y c (by rw [hfn]) e'
          obtain ⟨_, ob, hob, _⟩ := I1.ok.funs.mem z
          exact absurd (Nat.lt_of_lt_of_le (Heap.lt_size hob) h1) (Nat.lt_irrefl _)
      rw [hEnv, ← hAA, ← hprog, ← hw]
      refine wpAny_assign_Name (store_ok Ip (by rw [eN]; exact hN) (by rw [eN]; exact hi) (.inl hlocB) (v := V.ref f) rfl (fun s5 I5 => ?_) (.inr hlocB))
      refine wpAny_tests_nil ?_
      rw [if_pos rfl]
      have hsl : (List.replicate X.N.length (none : Option V)).set i (some (.ref f)) = (List.replicate X.N.length (none : Option V)).set i (some (.ref f)) := rfl
      have hiN : i < X.N.length := (List.getElem?_eq_some_iff.mp hi).1
      have hget : ((List.replicate X.N.length (none : Option V)).set i (some (.ref f)))[i]? = some (some (.ref f)) := List.getElem?_set_self (by simpa using hiN)
      refine wpAny_Call_Name_kw (ld_glob (X := Xb) I5 hglB (by rw [hmgB]; exact hm) ?_ hdb)
      have hkB : PySem.W.keepIn Xb.K (.ref gA) = true := by rw [hKB]; exact hk
      obtain ⟨mm, hnsB, hlk⟩ := I5.loc
      obtain ⟨uu, ru, lk⟩ := hlk i x (.ref f) (by rw [eN]; exact hi) hget (.inl hlocB)
      obtain rfl : uu = Value.ref f := ru
      have hmm : mm x = some (.ref f) := by
        rcases lk with ⟨_, z⟩ | ⟨z, _⟩
        · exact z
        · have z' : Xb.env.scope.names.lookup x = some .cell ∨ Xb.env.scope.names.lookup x = some .free := z
          rw [hlocB] at z'
          rcases z' with z' | z' <;> cases z'
      refine PySem.W.callWith_K (h₀ := Xb.base) I5.ok.mod.kin hkB (Calls.spliced_cons (wpAny_Name (wpAny_loadName_local I5.ok.kind hlocB hnsB hmm (Calls.spliced_nil ⟨I5.kIn, ?_⟩)) hdx)) rfl rfl
      show wpAny _ _ (call (.ref gA) [.ref f]) _ _ _
      have C5 : CellsAt F.cl fr (js.map (slotAt σ)) s5.heap H4 := C0.later (fun y c e => by rw [eFs]; exact nf y c e) (fun y c e z => by rw [eX] at z; cases z) I5
      have TH : Thunk X.prog X.w X.K X.mg X.base CXl j X.stack s5 H4 f (lsp (js.map (slotAt σ))) := ⟨F, fr, _, lsp, L, hf, hco, hdv, C5, nf, rfl⟩
      have e5 := I5.env0
      rw [hprog, hw, hKB, hmgB, hbB, hAA, hst] at e5
      refine wpAny_call (codeAny_mono (hprog ▸ hw ▸ hAA ▸ G X.A X.stack s5 H4 f _ _ (fun _ _ _ => False) hr e5 TH q5) fun r s6 hq => ?_)
      cases r with
      | error e => exact False.elim hq
      | ok fl =>
        cases fl with
        | next => exact False.elim hq
        | brk => exact False.elim hq
        | cont => exact False.elim hq
        | ret z =>
          have hq' : CE Xb.stack Xb.prog Xb.w H4 s5 (fun y H2 => gAll X CXl j sp σ a xs Q (xs.drop (m + 1)) (acc ++ [y]) H2) z s6 := by rw [hst]; exact hq
          obtain ⟨y, H6, I6, ry, q6⟩ := I5.after hq'
          have p1 := I6.pin (it, oi) (List.mem_append_right _ List.mem_cons_self)
          have p2 := I6.pin (D, ({ cls := .type "list", data := .seq ys.toArray nD4 } : Obj)) (List.mem_append_right _ (List.mem_cons_of_mem _ List.mem_cons_self))
          obtain ⟨its6, ri6, ⟨o6, n6, ho6, hc6, _, hd6⟩, _⟩ := I6.list (by rw [hKB]; exact gAll_list q6)
          refine ⟨⟨H6, acc ++ [y], ?_, ra.append (.cons ry .nil), by rw [List.length_append, la]; rfl, p2.2.1, p1.2.1, q6⟩, ⟨⟨oi, p1.1, hoc, hod⟩, its6.toArray, ⟨o6, ho6, hc6, n6, hd6⟩, by simpa using ri6⟩, ⟨nD4, p2.1⟩⟩
          refine (I6.pins_of (pins' := []) (fun p hp => absurd hp (by simp))).weak (by simp) fun ii v e => ?_
          rw [List.getElem?_replicate] at e
          split at e <;> cases e
    · -- the end
      rintro ys s4 ⟨H4, acc, I4, ra, la, fD, fI, q4⟩ ⟨nD4, hoD⟩
      obtain ⟨mC, hnC, _⟩ := I4.loc
      rw [eL] at hnC
      refine ⟨mC, hnC, fun h5 sb => ?_⟩
      rw [List.drop_length] at q4
      have hgt : ∀ q u, q ≠ C → s4.heap.get? q = some u → h5.get? q = some u := fun q u hq e => (sb.2 q hq).trans e
      have fC : H4 C = none := by have z := I4.free; rw [eL] at z; exact z
      have ub := I4.base
      have uo := I4.os
      have hk4 := I4.hok
      rw [eFs, eS] at ub
      have eH : Xb.H_0 = H1 := by rw [← hXb]
      have eX : Xb.ex = [] := by rw [← hXb]
      rw [eH, eX] at ub
      rw [eS] at uo
      have hprog : Xb.prog = X.prog := by rw [← hXb]
      have hw : Xb.w = X.w := by rw [← hXb]
      rw [hprog, hw] at hk4
      have neS : ∀ {q : Addr} {u : Obj}, s1.heap.get? q = some u → q ≠ C ∧ q ≠ D := fun {q u} e => ⟨Nat.ne_of_lt (Nat.lt_of_lt_of_le (Heap.lt_size e) sC), Nat.ne_of_lt (Nat.lt_of_lt_of_le (Heap.lt_size e) sD)⟩
      have lenA : acc.length ≤ 1000 := by rw [la]; exact hlen
      have U : Un (frs X.stack) [] H1 (upd H4 D (.lst acc)) s1.heap h5 := {
        keep := fun q u e nq hf hx2 => hgt q u (neS e).1 (ub.keep q u e nq hf hx2)
        slot := fun q u e nq hf hx2 => by
          obtain ⟨sl, z⟩ := ub.slot q u e nq hf hx2
          exact ⟨sl, hgt q _ (neS e).1 z⟩
        free := fun q u e nq hx2 => by rw [upd_ne (neS e).2]; exact ub.free q u e nq hx2
        there := fun q u e hx2 => by
          obtain ⟨u', z⟩ := ub.there q u e hx2
          exact ⟨u', hgt q _ (neS e).1 z⟩
        tups := fun q ys2 e => by
          have z := ub.tups q ys2 e
          rw [upd_ne (ne_of_none z fD)]
          exact z
        frzs := fun q o2 u e => by
          have z := ub.frzs q o2 u e
          rw [upd_ne (ne_of_none z fD)]
          exact z
        tbls := fun q ps e => by
          obtain ⟨more, z⟩ := ub.tbls q ps e
          exact ⟨more, by rw [upd_ne (ne_of_none z fD)]; exact z⟩ }
      have hok5 : HOk X.prog X.w (upd H4 D (.lst acc)) h5 := fun q u e => by
        by_cases hq : q = D
        · subst hq
          rw [upd_same] at e
          cases e
          exact ⟨Nat.le_trans lenA (by decide), ys, nD4, ra, hgt q _ hDC hoD⟩
        · rw [upd_ne hq] at e
          refine (hk4 q u e).stay (fun c v hc2 z => hgt c v (fun zc => ?_) z) (fun c z => by rw [upd_ne (ne_of_none z fD)]; exact z) fun c zs z => by rw [upd_ne (ne_of_none z fD)]; exact z
          rcases hc2 with hc2 | hc2
          · rw [← hc2, zc, fC] at e
            cases e
          · rw [zc, fC] at hc2
            cases hc2
      have J : Inv X pins σ (upd H4 D (.lst acc)) { s4 with heap := h5 } := I1.call' (ch := []) uo U hok5 I4.bare fun q hq => absurd hq (by simp)
      exact ⟨.ref D, _, J, rfl, q4.2 D fD⟩
end
end Sea

set_option Elab.async false
set_option linter.all false
set_option maxRecDepth 100000
set_option maxHeartbeats 4000000
/-! an own exception class called with keywords alone: C(k = v, ..) -/
namespace Sea
open PySem PySem.Spec PyProof.Rows PySem.HandSPX
/-- in h the class C is one of errors over ValueError: what it inherits, by the built-in names -/
structure ErrAt (h : Heap) (C : Addr) : Prop where
  ex : ∃ nm q N bs bm sn sub ab col dd k0 k1 k2 k3 k5, h.get? C = some (excClassObj nm q C N bs bm true sn sub ab col dd k0 k1 k2 k3 k5 "ValueError.__new__") ∧ refsVE bm = true
theorem ErrAt.over {bm : List Value} (C : Addr) (h : refsVE bm = true) (X : String) : (Value.ref C :: bm).contains (.type X) = veTail.contains (.type X) :=
  (List.contains_cons).trans ((Bool.false_or _).trans (refsVE_contains X bm h))
/-- the heap in which the error stands, its arguments empty -/
abbrev born (C : Addr) (h : Heap) : Heap := (h.push (W.kdv_tup [])).push (excO C h.objs.size)
theorem born_old {C : Addr} {h : Heap} : ∀ b o, h.get? b = some o → (born C h).get? b = some o := fun _ _ z => Heap.get?_push_of_some _ (Heap.get?_push_of_some _ z)
theorem born_new {C : Addr} {h : Heap} : (born C h).get? (h.objs.size + 1) = some (excO C h.objs.size) := by
  rw [← Heap.size_push h (o := W.kdv_tup [])]
  exact Heap.get?_push_size _ rfl
section
variable {prog : Program} {w : World} {A : Around} {R : Result → Shared → Prop} {s : Shared} {C : Addr} {kw : List (Str × Value)}
/-- ValueError.__new__(C, k = v, ..) -/
theorem err_born (T : ErrAt s.heap C) (q : R (.ok (.ret (.ref (s.heap.objs.size + 1)))) { s with heap := born C s.heap }) : codeAny (model prog w) A (.call (.builtin "ValueError.__new__") ⟨[.ref C], kw⟩) R s := by
  obtain ⟨nm, qn, N, bs, bm, sn, sub, ab, col, dd, k0, k1, k2, k3, k5, at_, ve⟩ := T.ex
  have V := F.excBase_ValueError
  have yes : (Value.ref C :: bm).contains (.type "ValueError") = true := ErrAt.over C ve _
  have no1 : (Value.ref C :: bm).contains (.type "AttributeError") = false := ErrAt.over C ve _
  have no2 : (Value.ref C :: bm).contains (.type "NameError") = false := ErrAt.over C ve _
  have tail := V.ends
  have star := V.noStar
  obtain ⟨hp, g, d, t, os⟩ := s
  apply codeAny_call_builtin_code (Code.quiet_builtin _ V.quiet)
  simp only [checkBuiltinCall, V.newKind, V.newSplit, V.newRow]
  repeat (first
    | (refine wpAny_isSubtype_exc at_ ?_; rw [yes])
    | refine wpAny_loadPart_at at_ ?_
    | refine wpAny_madeBy_exc at_ ?_
    | refine wpAny_staticBase_exc at_ ?_
    | simp only [bne_self_eq_false, Bool.false_eq_true, if_false]
    | wp_step)
  apply codeAny_builtinAt V.entry
  unfold Builtin.«BaseException.__new__»
  refine PySem.wpAt_bind ?_
  refine PySem.wpAt_bind (m := stack) (PySem.wpAt_stack ?_)
  intro p below
  refine PySem.wpAt_of_wpAny ?_
  wp_walk
  refine PySem.wpAt_of_wpAny ?_
  rw [V.owner]
  repeat (first
    | (with_reducible refine wpAny_isSubtype_exc at_ ?_; simp only [yes, no1, no2])
    | with_reducible refine wpAny_loadPart_at at_ ?_
    | with_reducible refine wpAny_madeHere_exc V.canon at_ ?_
    | wp_step)
  exact (Heap.size_push hp (o := W.kdv_tup [])).symm ▸ q
/-- C(k = v, ..): the error is born, then its class's def __init__ has it -/
theorem err_call {fI : Addr} (T : ErrAt s.heap C) (ini : W.Looks (model prog w) s.heap (typeLookup (.ref C) "__init__") (some (.ref fI))) (bnd : ∀ self, W.Looks (model prog w) s.heap (bindSpecial (.ref fI) self) (.ref fI, [self]))
    (q : codeAny (model prog w) (A.under (.builtin "type.__call__" ⟨[.ref C], kw⟩)) (.call (.ref fI) ⟨[.ref (s.heap.objs.size + 1)], kw⟩) (W.InitBack (s.heap.objs.size + 1) R) { s with heap := born C s.heap }) :
    codeAny (model prog w) A (.call (.ref C) ⟨[], kw⟩) R s := by
  have ⟨nm, qn, N, bs, bm, sn, sub, ab, col, dd, k0, k1, k2, k3, k5, at_, ve⟩ := T.ex
  have isC : (Value.ref C :: bm).contains (.ref C) = true := by simp
  have isTy : s.TypeIs (.ref C) "type" := ⟨_, at_, rfl⟩
  have dunder := tc_lookup
  have bound := tc_bind (.ref C)
  have tsub := tc_sub
  have ini' := ini.keeps (born_old (C := C))
  have bnd' := (bnd (.ref (s.heap.objs.size + 1))).keeps (born_old (C := C))
  have at2 := born_old (C := C) _ _ at_
  have new2 := born_new (C := C) (h := s.heap)
  obtain ⟨hp, g, d, t, os⟩ := s
  dsimp only at at_ at2 new2 ini' bnd' q
  have quiet := Code.quiet_builtin (id := "type.__call__") ⟨[.ref C], kw⟩ (by decide +kernel)
  apply codeAny_of_tree
  show wpAny _ _ (callAny (.ref C) _) _ _ _
  repeat (any_goals (first | assumption | with_reducible refine wpAny_loadPart_at at_ ?_ | wp_step))
  refine ⟨rfl, codeAny_call_builtin_at quiet entry_typeCall ?_⟩
  simp only [checkBuiltinCall, tc_kind, tc_split]
  unfold Builtin.«type.__call__»
  repeat (any_goals (first
    | assumption
    | with_reducible refine wpAny_loadPart_at at_ ?_
    | with_reducible refine wpAny_onRaise ?_
    | with_reducible refine wpAny_map ?_
    | with_reducible refine wpAny_madeBy_exc at_ ?_
    | wp_step))
  refine err_born (s := ⟨hp, g, d, t, os⟩) T ?_
  show wpAny _ _ _ _ _ _
  have i1 : (born C hp).get? (hp.objs.size + 1) = some (excO C hp.objs.size) := new2
  unfold isInstance
  repeat (first
    | with_reducible refine wpAny_loadPart_at new2 ?_
    | (with_reducible refine wpAny_isSubtype_exc at2 ?_; rw [isC])
    | wp_step)
  show wpAny _ _ (typeLookup (.ref C) "__init__") _ _ ⟨born C hp, g, d, t, os⟩
  refine ini'.at ?_
  refine wpAny_holding (wpAny_bind (bnd'.at (wpAny_bind (wpAny_call ?_))))
  refine codeAny_mono q fun r s2 z => ?_
  match r, z with
  | .error _, z => exact z
  | .ok (.ret _), ⟨e, z⟩ =>
    subst e
    exact wpAny_pure (wpAny_pure z)
  | .ok .next, z => exact z.elim
  | .ok .brk, z => exact z.elim
  | .ok .cont, z => exact z.elim
end
end Sea

set_option Elab.async false
set_option linter.all false
set_option maxRecDepth 100000
set_option maxHeartbeats 4000000
/-! raise C(k = v, ..), C an own exception class over another own one whose __init__ says P.__init__(self, text) and stores its keywords -/
namespace Sea
open PySem PySem.Spec PyProof.Rows L2 LamX NdefX ClX
/-- C(k = v, ..) -/
def tMkK (C : Addr) (n : Nat) (sp : Sp) (gV : List V → List V → List V) (tk : TA) : L2.St → Hp → XK → Prop := fun σ H Q => tk σ H fun zs H1 => zs.length = n ∧ ∀ a, H1 a = none → sp (gV [.ref a] zs) (upd H1 a (exo a C none))
  (fun v H2 => v = .non ∧ ∃ (d : Addr) (fs : List (Str × V)), H2 a = some (exo a C (some d)) ∧ H2 d = some (exd d fs) ∧ H1 d = none ∧ Q (.ref C) (some d) (upd (del H2 a) d (.xd fs))) (fun _ _ _ => False)
section
variable {X : Cx} {e : Expr} {es : List Expr} {ta : TA} {p p1 p2 pos : Pos} {kws : List Keyword} {tk : TA} {ks : List Str} {g : List Value → List Value → List Value} {gV : List V → List V → List V}
theorem pe_pinit {x : Str} {B : Addr} {mc : Value} {pl : Sem Bool} (hg : Gl X x) (hm : X.mg x = some (.ref B)) (rd : PySem.W.readsIn X.K B mc = true) (ga : PySem.W.specialIn X.K (.ref B) "__getattribute__" = some (some (.builtin "type.__getattribute__")))
    (hat : PySem.W.findCls X.K (.ref B) mc "__init__" = some (.val (.builtin "ValueError.__init__"))) (ha : PA X (e :: es) ta) (hdb : (x == ("__debug__" : Str)) = false := by decide)
    (hc : eval (.Call (.Attribute (.Name x p1) "__init__" p2) (e :: es) [] pos) X.env = (do
      let ov ← eval (.Name x p1) X.env
      standAt p2.atName
      let (f, first) ← holding [ov] (getMethod ov "__init__" pl)
      callWith pos f first (backTo pos (starEach (e :: es) X.env)) (backToKw pos (keywordEach [] X.env))) := by rfl)
    (he : starEach (e :: es) X.env = (false, eval e X.env) :: starEach es X.env := by rfl) (hpl : (backTo pos (starEach es X.env)).any (·.1) = false := by rfl) :
    PE X (.Call (.Attribute (.Name x p1) "__init__" p2) (e :: es) [] pos) (tVeI X.K ta) := by
  constructor
  intro pins s σ H Q I h
  apply PySem.W.methodCall_KW (ld_glob I hg hm (PySem.W.method_cls I.kIn ga (PySem.W.cls_value I.kIn rd hat (by decide +kernel) ?_)) hdb) hc
  have args := ha.run pos pins _ σ H _ (I.tok (s.toks + 1)) h
  show wpAny _ _ (callWith pos (Value.builtin "ValueError.__init__") [] (backTo pos (starEach (e :: es) X.env)) []) _ _ _
  refine PyProof.Rows.callWith_method1 (thn args ?_) he hpl
  rintro us s1 ⟨_, H1, J, rel, a, C, ws, rfl, few, T, ea, q⟩
  match us, rel with
  | u :: ur, .cons ra rr =>
    rw [show u = .ref a from ra]
    have short : ur.length ≤ sizeLine := by
      rw [sizeLine_eq, ← Paired.length rr]
      omega
    exact oinit_ok T J ea short fun s' L => ⟨.non, H1, L, rfl, q⟩
theorem pmk_kw {CX : CXT} {x : Str} {C fI : Addr} {k : Nat} {fd : FuncData} {ps : List Str} {sp : Sp} (T : OexC X.K C) (iC : PySem.W.findIn X.K (.ref C) "__init__" = some (some (.ref fI))) (tI : PySem.W.typeIn X.K (.ref fI) = some (.type "function"))
    (F1 : FnOk X.prog X.w X.K X.mg X.base CX k fI fd ps sp) (hr : Room (k + 1) X.A) (hb : KBn X.K fd ps 1 ks g gV) (hx : Passes CX X (fun _ _ _ => False)) (hg : Gl X x) (hm : X.mg x = some (.ref C)) (hkw : PK X kws tk)
    (hall : (backToKw pos (keywordEach kws X.env)).all (·.1.isSome) = true := by rfl) (hks : (backToKw pos (keywordEach kws X.env)).filterMap (·.1) = ks := by rfl) (hdb : (x == ("__debug__" : Str)) = false := by decide)
    (hpl : ((backTo pos (starEach [] X.env)).any (·.1) || (backToKw pos (keywordEach kws X.env)).any (·.1.isNone)) = false := by rfl) :
    PMk X (.Call (.Name x p) [] kws pos) (tMkK C ks.length sp gV tk) := by
  intro pins s σ H Q I h
  apply wpAny_Call_Name_kw
  apply ld_glob I hg hm ?_ hdb
  apply PySem.W.callWith_KW0 (h₀ := X.base) I.ok.mod.kin T.kC hall ?_ hpl
  refine thn (hkw.run pos pins s σ H _ I h) ?_
  rintro ws ⟨hp, g1, dr, tk', os⟩ ⟨zs, H1, J, rel, many, q⟩
  have err : ErrAt hp C := by
    obtain ⟨nm, qn, N, bs, bm, sn, sub, ab, col, dd, k0, k1, k2, k3, k5, at_, ve⟩ := T.cls
    exact ⟨nm, qn, N, bs, bm, sn, sub, ab, col, dd, k0, k1, k2, k3, k5, J.kIn _ _ at_, ve⟩
  have above : hp.objs.size ≤ hp.objs.size + 1 := Nat.le_succ _
  -- the invariant once the error stands in the heap
  have L : Inv X pins σ (upd H1 (hp.objs.size + 1) (exo (hp.objs.size + 1) C none)) ⟨born C hp, g1, dr, tk', os⟩ := J.laid (t' := tk') born_old above (exo_ok born_new)
  have ini := F1.run _ X.stack _ _ ⟨[.ref (hp.objs.size + 1)], ks.zip ws⟩ (g [.ref (hp.objs.size + 1)] ws) _ _ (fun _ _ _ => False) (hr.make C [] (ks.zip ws)) (L.env0.make C [] (ks.zip ws))
    (hb.to _ [.ref (hp.objs.size + 1)] ws L.kIn rfl (rel.length.symm.trans many)) (hb.rel (us := [.ref (hp.objs.size + 1)]) (vs := [.ref (hp.objs.size + 1)]) (.cons rfl .nil) rel) (q (hp.objs.size + 1) (J.hok.fresh above))
  rw [hks]
  refine ⟨J.kIn, wpAny_call (err_call err (PySem.W.looks_findIn J.kIn iC) (fun self => PySem.W.bind_fn J.kIn self tI) (codeAny_mono ini ?_))⟩
  intro r s' back
  match r, back with
  | .error er, back => exact hx pins σ _ _ er s' L back
  | .ok .next, back => exact back.elim
  | .ok .brk, back => exact back.elim
  | .ok .cont, back => exact back.elim
  | .ok (.ret _), ⟨_, H2, os2, bare, un, hok, rv, e, d, fs, ea, ed, hd1, q2⟩ =>
    subst e
    obtain ⟨h2, g2, d2, t2, os3⟩ := s'
    exact ⟨rv, mk_end (raises_own T.exC T.tyC) J above born_old un hok os2 bare ea ed hd1 q2⟩
end

/-! ### the __init__ of such a class: one keyword, two keywords -/
/-- the class facts that the body asks: its parent's __init__ is ValueError's -/
structure PIn (K : PySem.W.Frag) (mg : Str → Option Value) (x : Str) (B : Addr) (mc : Value) : Prop where
  gB : mg x = some (.ref B)
  rd : PySem.W.readsIn K B mc = true
  ga : PySem.W.specialIn K (.ref B) "__getattribute__" = some (some (.builtin "type.__getattribute__"))
  at_ : PySem.W.findCls K (.ref B) mc "__init__" = some (.val (.builtin "ValueError.__init__"))
def spX1 (K : PySem.W.Frag) (f : Str) : Sp := fun vs H Q _ => ∃ (a C : Addr) (y : V), vs = [.ref a, y] ∧ OexC K C ∧ PySem.W.findIn K (.ref C) f = some none ∧ H a = some (exo a C none) ∧
  ∀ dx, H dx = none → dx ≠ a → Q .non (upd (upd H dx (exd dx [(f, y)])) a (exo a C (some dx)))
def spX2 (K : PySem.W.Frag) (f g : Str) : Sp := fun vs H Q _ => ∃ (a C : Addr) (y z : V), vs = [.ref a, y, z] ∧ OexC K C ∧ PySem.W.findIn K (.ref C) f = some none ∧ PySem.W.findIn K (.ref C) g = some none ∧ H a = some (exo a C none) ∧
  ∀ dx, H dx = none → dx ≠ a → Q .non (upd (upd (upd H dx (exd dx [(f, y)])) a (exo a C (some dx))) dx (exd dx [(g, z), (f, y)]))
theorem gone_eq {H : Hp} {a d : Addr} {o : HO} {u w v : HO} (ha : H a = none) (hd : d ≠ a) : upd (del (upd (upd H d u) a o) a) d v = upd H d v := by
  funext b
  by_cases hb : b = d
  · subst hb
    rw [upd_same, upd_same]
  · rw [upd_ne hb, upd_ne hb]
    by_cases hba : b = a
    · subst hba
      rw [del_same, ha]
    · rw [del_ne hba, upd_ne hba, upd_ne hb]
theorem gone_eq2 {H : Hp} {a d : Addr} {o : HO} {u w v : HO} (ha : H a = none) (hd : d ≠ a) : upd (del (upd (upd (upd H d u) a o) d w) a) d v = upd H d v := by
  funext b
  by_cases hb : b = d
  · subst hb
    rw [upd_same, upd_same]
  · rw [upd_ne hb, upd_ne hb]
    by_cases hba : b = a
    · subst hba
      rw [del_same, ha]
    · rw [del_ne hba, upd_ne hb, upd_ne hba, upd_ne hb]
end Sea

set_option Elab.async false
set_option linter.all false
set_option maxRecDepth 100000
set_option maxHeartbeats 4000000
/-! enumerate over a tuple -/
namespace Sea
open PySem PySem.Spec PyProof.Rows L2
/-- enumerate(t), t the tuple at a: a new iterator over it, and a new cell that counts -/
structure EnumMade (a : Addr) (h h2 : Heap) : Prop where
  cell : IsEnum h2 (h.objs.size + 1) h.objs.size 0 .none
  iter : h2.IsTupleIter h.objs.size a 0
  old : ∀ b o, h.get? b = some o → h2.get? b = some o
theorem enumMade (a : Addr) (h : Heap) :
    EnumMade a h ((h.push { cls := .type "tuple_iterator", data := .fields #[.ref a, .int 0 0] }).push { cls := .type "enumerate", data := .fields #[.none, .bool false, .ref h.objs.size, rawInt 0, .none, .none] }) where
  cell := by
    show Heap.get? _ _ = _
    rw [← Heap.size_push h (o := { cls := .type "tuple_iterator", data := .fields #[.ref a, .int 0 0] })]
    exact Heap.get?_push_size _ rfl
  iter := ⟨_, Heap.get?_push_of_some _ (Heap.get?_push_size h rfl), rfl, rfl⟩
  old := fun _ _ z => Heap.get?_push_of_some _ (Heap.get?_push_of_some _ z)
theorem Sem_any {α : Type} {M : Model} {A : Around} {E : Value → Shared → Prop} {s : Shared} {v : α} {Q : α → Shared → Prop} (q : ∀ x, Q x s) : wpAny M A (pure v) Q E s := wpAny_pure (q v)
theorem new_enumT (a : Addr) (its : Array Value) :
    Meets (Builtin.«enumerate.__new__» ⟨[.type "enumerate", .ref a], []⟩) (fun _ R s => s.heap.IsTuple a its ∧ ∀ h2, EnumMade a s.heap h2 → R (.ok (.ret (.ref (s.heap.objs.size + 1)))) { s with heap := h2 }) := by
  apply Meets.of_wp
  intro prog w A R s z
  have ht := z.1
  have made := z.2
  have ready := sub_enumerate
  have got := made _ (enumMade a s.heap)
  rw [← Heap.size_push s.heap (o := { cls := .type "tuple_iterator", data := .fields #[.ref a, .int 0 0] })] at got
  have it : ∀ {B : Around} {Er T : Value → Shared → Prop}, T (.ref s.heap.objs.size) { s with heap := s.heap.push _ } → wpAny (model prog w) B (pyIter (.ref a)) T Er s := fun r => (begins_tuple a its).iter prog w _ _ s _ ht r
  wp_walk using it
  refine wpAny_stack_any fun stk => Sem_any fun short => ?_
  cases short <;> wp_walk using it <;> exact ⟨_, rfl, got⟩
theorem call_enumT {prog : Program} {w : World} {A : Around} {E Q : Value → Shared → Prop} {s : Shared} {a : Addr} {its : Array Value} (ht : s.heap.IsTuple a its) (h : ∀ h2, EnumMade a s.heap h2 → Q (.ref (s.heap.objs.size + 1)) { s with heap := h2 }) :
    wpAny (model prog w) A (call (.type "enumerate") [.ref a]) Q E s :=
  callType_new F.called_enumerate (by decide) (F.typeCall_enumerate_1 _) (F.newCall_enumerate_1 _) (fun obj => F.args_object_init_2 obj _) F.entry_enumerate_new (new_enumT a its)
    ⟨ht, fun h2 m => ⟨⟨_, m.cell, rfl⟩, h h2 m⟩⟩
/-- the turns over a tuple that is known to hold xs: while there are items, a new pair of the place and the item -/
def IteT (K : PySem.W.Frag) (a : Addr) (xs : List V) : It where
  go i H := i < xs.length ∧ SqT K H a xs
  yld i H v H' := ∃ x pair, xs[i]? = some x ∧ H pair = none ∧ v = .ref pair ∧ H' = upd H pair (.tup [.int (i : Nat), x])
  stop i H := i = xs.length ∧ SqT K H a xs
/-- the walk over enumerate, as the library's WalksT.enumFrom tells it, read as turns of IteT -/
theorem turn_enumT {P : Program} {w : World} {K : PySem.W.Frag} {elts : List Expr} {kk : Nat} {tpos : Pos} (a e it : Addr) (xs : List V) (hei : e ≠ it) (hai : a ≠ it) (hae : a ≠ e) :
    Turn P w K (.Tuple elts kk tpos) (IteT K a xs) [e, it] e (fun i h => (∃ old, IsEnum h e it (0 + (i : Int)) old) ∧ h.IsTupleIter it a i) := by
  have walk := fun (A : Around) (hh : A.handled = none) (its : Array Value) =>
    WalksT.enumFrom (prog := P) (w := w) (A := A) 0 (Draws.tuple (A := A.in1) hh it a hai its) e hei (by simp [hei, Ne.symm hae]) (by simp)
  refine { mem := List.mem_cons_self .., obj := ?_, keep := ?_, item := ?_, done := ?_, self := ?_ }
  · rintro i h ⟨⟨old, he⟩, o, ho, _, hd⟩ b hb
    simp only [List.mem_cons, List.not_mem_nil, or_false] at hb
    cases hb with
    | inl hb => subst hb; exact ⟨_, he, by intro v; simp⟩
    | inr hb => subst hb; exact ⟨o, ho, by intro v; rw [hd]; simp⟩
  · rintro i h h2 ⟨⟨old, he⟩, hi⟩ k
    exact ⟨⟨old, k e (by simp) _ he⟩, hi.at fun o q => k it (by simp) o q⟩
  · rintro X rfl rfl rfl hc i pins s σ H Ex I hf ⟨en, hi⟩ ⟨lt, hq⟩
    obtain ⟨its, rv, pt, _⟩ := I.tuple hq
    have hx : xs[i]? = some xs[i] := List.getElem?_eq_getElem lt
    generalize xs[i] = x at hx
    obtain ⟨y, hy, ry⟩ := rv.get hx
    have W := walk X.A (I.ok.hd hc) its.toArray
    refine W.item i s _ _ (by simpa using (List.getElem?_eq_some_iff.mp hy).1) ⟨en, hi, pt⟩ ?_
    rintro T vals h2 tk ⟨t, z, hz, rfl⟩ hle hT hmid hk
    obtain rfl : z = y := Option.some.inj (Eq.trans (by simpa using hz.symm) hy)
    refine ⟨_, rfl, W.go elts kk tpos i T _ _ _ hmid fun h3 st3 hk3 => ?_⟩
    have keeps : ∀ b o, b ∉ [e, it] → s.heap.get? b = some o → h3.get? b = some o := fun b o hb q => hk3 b o hb (hk b o hb q)
    have pair : ObjOk X.prog X.w (upd H T (.tup [.int (i : Nat), x])) h3 T (.tup [.int (i : Nat), x]) :=
      ⟨by show 2 ≤ sizeLine; decide, [.int (0 + (i : Int)) t, z], .cons ⟨t, by rw [Int.zero_add]⟩ (.cons ry .nil), hT.at fun o q => hk3 T o (W.apart i T h2 hmid) q⟩
    have nT : H T = none := I.hok.fresh hle
    refine ⟨.ref T, _, I.turnedNew (t' := tk) keeps hf hle pair, rfl, ⟨x, T, hx, nT, rfl, rfl⟩, ⟨st3.1, st3.2.1⟩, fun b hb => ?_⟩
    rw [upd_ne (show b ≠ T from fun z => W.apart i T h2 hmid (z ▸ hb))]
    exact (hf b hb).1
  · rintro X rfl rfl rfl hc i pins s σ H Ex I hf ⟨en, hi⟩ ⟨rfl, hq⟩
    obtain ⟨its, rv, pt, _⟩ := I.tuple hq
    have W := walk X.A (I.ok.hd hc) its.toArray
    have hn : its.toArray.size = xs.length := by simpa using rv.length.symm
    exact W.done s _ _ (by rw [hn]; exact ⟨en, hi, pt⟩) fun h2 tk hk => ⟨rfl, I.turnedL (t' := tk) hk hf⟩
  · exact fun A i s Q Ex st h => wpAny_pyIter_enum st.1.choose_spec h
def iEnumT (K : PySem.W.Frag) (ta : TA) : TI := fun σ H R => ta σ H fun vs H1 => ∃ a xs, vs = [.ref a] ∧ SqT K H1 a xs ∧ R (IteT K a xs) H1
theorem pi_enumT {X : Cx} {e : Expr} {ta : TA} {p pos tpos : Pos} {elts : List Expr} {kk : Nat} (hg : Gl X "enumerate") (hm : X.mg "enumerate" = none) (ha : PA X [e] ta) (hs : starEach [e] X.env = [(false, eval e X.env)] := by rfl) :
    PI X (.Tuple elts kk tpos) (.Call (.Name "enumerate" p) [e] [] pos) (iEnumT X.K ta) where
  run pins s σ H R I h := by
    refine Call_ (ld_blt I hg hm boot_enumerate (PyProof.Rows.callWith_type1 (thn (ha.run pos pins s σ H _ I h) ?_) hs rfl))
    rintro us s1 ⟨_, H1, I1, r1, a, xs, rfl, hq, q⟩
    obtain ⟨u, rfl, ru⟩ := r1.one
    obtain rfl : u = .ref a := ru
    obtain ⟨its, rv, pt, _⟩ := I1.tuple hq
    have below : a < s1.heap.objs.size := by
      obtain ⟨_, z, _⟩ := (show s1.heap.IsTuple a its.toArray from pt)
      exact Heap.lt_size z
    refine call_enumT pt fun h2 m => wpAny_pyIter_enum m.cell ⟨_, _, _, _, H1, rfl, I1.kept (t' := s1.toks) m.old, turn_enumT a (s1.heap.objs.size + 1) s1.heap.objs.size xs (Nat.succ_ne_self _) (Nat.ne_of_lt below) (Nat.ne_of_lt (Nat.lt_succ_of_lt below)), ⟨⟨_, m.cell⟩, m.iter⟩, ?_, q⟩
    have fresh : ∀ b, s1.heap.objs.size ≤ b → FpOk X pins H1 b := fun b hb => I1.fpOk hb (I1.hok.fresh hb)
    simpa using And.intro (fresh (s1.heap.objs.size + 1) (Nat.le_succ _)) (fresh s1.heap.objs.size (Nat.le_refl _))
end Sea

set_option Elab.async false
set_option linter.all false
set_option maxRecDepth 100000
set_option maxHeartbeats 4000000
/-! isinstance of a caught error that has a dict; list.count of flat items -/
namespace Sea
open PySem PySem.Spec PyProof.Rows L2
/-- the caught error, seen in the heap: an instance of its class, its dict (if it has one) beside it -/
theorem held_inst {X : Cx} {pins : List (Addr × Obj)} {σ : L2.St} {H : Hp} {s : Shared} {a D : Addr} {d : Option Addr} {oe : Obj} {pn : List (Addr × Obj)} (I : Inv (X.suite a ((a, oe) :: pn)) pins σ H s) (hz : Zc (.ref D) d oe) (hf : ∃ vs, oe.data = .fields vs)
    (hd : ∀ dx, d = some dx → ∃ fs, H dx = some (.xd fs)) : ∃ od, PySem.W.InstAt s.heap a oe D od := by
  have there := (I.pin (a, oe) (by simp)).1
  have plain : PySem.W.notCls oe := by
    obtain ⟨vs, hv⟩ := hf
    rw [PySem.W.notCls, hv]
  match d, hz, hd with
  | none, hz, _ => exact ⟨none, there, hz.1, plain, by rw [hz.2]; trivial⟩
  | some dx, hz, hd =>
    obtain ⟨fs, hx⟩ := hd dx rfl
    have ⟨mA, ns, _⟩ : ObjOk X.prog X.w H s.heap dx (.xd fs) := I.hok dx _ hx
    have ⟨od, ho, _⟩ := lookIn_ns ns
    exact ⟨some od, there, hz.1, plain, by rw [hz.2]; exact ho⟩
/-- isinstance(e, c), e the exception that the suite holds, with its dict (tracked) or without; D its class -/
def rIsX (K : PySem.W.Frag) (a : Addr) (cls : Value) (d : Option Addr) : List V → Hp → VK → Prop := fun xs H Q => ∃ (D : Addr) (c : V) (cv : Value) (b : Bool), cls = .ref D ∧ ExcC K D ∧ xs = [.ref a, c] ∧ (∀ u, RelV c u → u = cv) ∧ PySem.W.kitOne K (.ref D) cv = some b ∧ (∀ dx, d = some dx → ∃ fs, H dx = some (.xd fs)) ∧ Q (.bl b) H
theorem call_isX {X : Cx} {a : Addr} {cls : Value} {d : Option Addr} {oe : Obj} {pn : List (Addr × Obj)} (K : PySem.W.Frag) (hK : X.K = K) (hz : Zc cls d oe) (hf : ∃ vs, oe.data = .fields vs) : CallR (X.suite a ((a, oe) :: pn)) (.builtin "isinstance") (rIsX K a cls d) := by
  subst hK
  rintro pins s σ H _ us Q I r ⟨D, c, cv, b, rfl, C, rfl, told, one, hd, q⟩
  obtain ⟨x, t, rfl, rx, rt⟩ : ∃ x t, us = [x, t] ∧ RelV (.ref a) x ∧ RelV c t := match us, r with
    | _, .cons rx (.cons rt .nil) => ⟨_, _, rfl, rx, rt⟩
  obtain ⟨od, inst⟩ := held_inst I hz hf hd
  have dict : (PySem.W.clsIn X.K D).isSome := by
    obtain ⟨cd, z, _⟩ := PySem.W.any_some C.hd
    rw [z]
    rfl
  have kit := PySem.W.kitx_exc (x := a) (ox := oe) (od := od) dict C.hg C.hk C.hs C.ha C.hn C.ht C.hm
  rw [show x = .ref a from rx, told t rt]
  exact PySem.W.kia_one kit I.kIn inst one nofun fun tk => ⟨.bl b, H, I.kept (t' := tk) fun _ _ z => z, rfl, q⟩
/-- xs.count(y), flat items -/
def rCntF (K : PySem.W.Frag) : V → List V → Hp → VK → Prop := fun x xs H Q => ∃ (a : Addr) (ys : List V) (y : V), x = V.ref a ∧ xs = [y] ∧ SqL K H a ys ∧ flatV y = true ∧ ys.all flatV = true ∧ Q (.int (ys.countP (fun z => eqV z y) : Nat)) H
theorem cnt_flat {y : V} : ∀ {ys : List V} {its : List Value}, Vals ys its → ys.all flatV = true → its.countP (eqU y) = ys.countP (fun z => eqV z y)
  | _, _, .nil, _ => rfl
  | _, _, .cons r rr, f => by
    rename_i v u vs us
    rw [List.all_cons, Bool.and_eq_true] at f
    rw [List.countP_cons, List.countP_cons, cnt_flat rr f.2, eqU_of r f.1]
theorem mt_countF {X : Cx} : MtR X "list.count" (rCntF X.K) := by
  rintro pins s σ H _ _ v us Q I rx rxs ⟨a, ys, y, rfl, rfl, hs, fy, fys, q⟩
  obtain rfl : v = .ref a := rx
  obtain ⟨u, rfl, ru⟩ := rxs.one
  obtain ⟨its, rv, ⟨o, n, ho, hc, _, hd⟩, _⟩ := I.list hs
  obtain ⟨cls, dd, data, sl⟩ := o
  obtain rfl : cls = _ := hc
  obtain rfl : data = _ := hd
  have many := cnt_flat (y := y) rv fys
  have law := SeqAt.list_countAt a its.toArray n dd sl u (eqU y)
  refine call_meets PySem.F.slot_list_count ⟨_, ho, rfl⟩ PySem.F.entry_list_count (PySem.F.args_list_count_2 _ _) law ⟨ho, fun z hz => mem_eqAt ru fy rv fys z (by simpa using hz), ?_⟩
  rw [List.toList_toArray, many]
  exact ⟨.int (ys.countP (fun z => eqV z y) : Nat), H, I.tok _, ⟨s.toks, rfl⟩, q⟩
end Sea

set_option Elab.async false
set_option linter.all false
set_option maxRecDepth 100000
set_option maxHeartbeats 4000000
namespace Sea
open PySem PySem.Spec PyProof.Rows L2 LamX NdefX Evl
/-! ### what a suite may ask of the caught error, whatever its class -/
/-- e.f, e the caught error: its class is told by the reading; the library's rule for that class does the rest -/
def tXf (K : PySem.W.Frag) (f : Str) (a : Addr) (cls : Value) (d : Option Addr) (te : TE) : TE := fun σ H Q => ∃ D : Addr, cls = .ref D ∧ XfC K D ∧ PySem.W.findIn K (.ref D) f = some none ∧ L2.tXf a cls d D f te σ H Q
theorem pe_xf {X : Cx} {f : Str} {a : Addr} {oe : Obj} {cls : Value} {d : Option Addr} {pn : List (Addr × Obj)} {e : Expr} {te : TE} {pos : Pos} (K : PySem.W.Frag) (hK : X.K = K) (hz : Zc cls d oe) (hf : ∃ vs, oe.data = .fields vs) (he : PE (X.suite a ((a, oe) :: pn)) e te)
    (hb : attributeBase e f X.env (eval e X.env) = eval e X.env := by rfl) : PE (X.suite a ((a, oe) :: pn)) (.Attribute e f pos) (tXf K f a cls d te) :=
  ⟨fun pins s σ H Q I ⟨_, _, T, no, h⟩ => (L2.pe_xf (hK ▸ T) (hK ▸ no) hz hf he hb).run pins s σ H Q I h⟩
/-! ### the handed thunk called, its promise weakened -/
theorem cx_le {P : Program} {w : World} {outer : List Env} {H : Hp} {s s' : Shared} {E E' : XK} {e : Value} (h : L2.CX P w outer H s E e s') (m : ∀ c d H', E c d H' → E' c d H') : L2.CX P w outer H s E' e s' := by
  obtain ⟨a, B, H', cls, d, h1, h2, h3, h4, h5, h6, h7, h8⟩ := h
  exact ⟨a, B, H', cls, d, h1, h2, h3, h4, h5, h6, h7, m _ _ _ h8⟩
section
variable {X : Cx} {i j : Nat} {x : Str} {p pos : Pos} {E : L2.St → XK}
def tActM (X : Cx) (j i : Nat) (E : L2.St → XK) : TE := fun σ H Q => ∃ (f : Addr) (tl : Hp → VK → XK → Prop) (Q' : VK) (E' : XK), σ[i]? = some (some (.ref f)) ∧ H = X.H_0 ∧ Thunk X.prog X.w X.K X.mg X.base (L2.CX X.prog X.w) j X.outer X.s_0 X.H_0 f tl ∧ tl H Q' E' ∧ (∀ v H1, Q' v H1 → Q v H1) ∧ (∀ c d H1, E' c d H1 → E σ c d H1)
theorem pe_actM (hr : Room j X.A) (hex : X.ex = []) (hx : ∀ σ, PassesAt (L2.CX X.prog X.w) X σ (E σ)) (hN : X.N[i]? = some x) (hv : Vis X.env.scope x)
    (hd : (x == ("__debug__" : Str)) = false := by decide) (hcd : (x == ("__classdict__" : Str)) = false := by decide) : PE X (.Call (.Name x p) [] [] pos) (tActM X j i E) := by
  refine ⟨fun pins s σ H Q I h => ?_⟩
  obtain ⟨f, tl, Q', E', hs, eH, hT, ht, mQ, mE⟩ := h
  have hx' : ∀ τ, PassesAt (L2.CX X.prog X.w) X τ (if τ = σ then E' else E τ) := fun τ => by
    by_cases hq : τ = σ
    · rw [if_pos hq]
      subst hq
      exact fun pins H s e s' J c => hx _ pins H s e s' J (cx_le c mE)
    · rw [if_neg hq]
      exact hx τ
  refine thn ((pe_actT (CXl := L2.CX X.prog X.w) (i := i) (p := p) (pos := pos) (E := fun τ => if τ = σ then E' else E τ) hr hex hx' hN hv hd hcd).run pins s σ H Q' I ⟨f, tl, hs, eH, hT, ?_⟩) fun u s1 hh => ?_
  · show tl H Q' (if σ = σ then E' else E σ)
    rw [if_pos rfl]
    exact ht
  · obtain ⟨v, H1, I1, r1, q1⟩ := hh
    exact ⟨v, H1, I1, r1, mQ _ _ q1⟩
end
theorem ev_isX {K : PySem.W.Frag} {a : Addr} {cls : Value} {d : Option Addr} {D : Addr} {c : V} {cv : Value} {b : Bool} {i : Nat} {σ : L2.St} {H : Hp} (h1 : cls = .ref D) (h2 : ExcC K D) (h3 : ∀ u, RelV c u → u = cv) (h4 : PySem.W.kitOne K (.ref D) cv = some b) (h5 : ∀ dx, d = some dx → ∃ fs, H dx = some (.xd fs)) (hs : σ[i]? = some (some (.ref a))) :
    Ev (tCB (rIsX K a cls d) (tCons (tVar i) (tCons (tC c) tNil))) σ H (.bl b) := fun H1 e Q q => ⟨_, hs, D, c, cv, b, h1, h2, rfl, h3, h4, fun dx hd => let ⟨fs, hx⟩ := h5 dx hd; ⟨fs, e _ _ hx⟩, q H1 (Ex.refl _)⟩
end Sea

set_option Elab.async false
set_option linter.all false
set_option maxRecDepth 100000
set_option maxHeartbeats 4000000
/-! rules with the written part K named: within a suite or a block the reading must not speak of the context -/
namespace Sea
open PySem PySem.Spec PyProof.Rows L2
section
variable {X : Cx} {T : String} {r : V → List V → Hp → VK → Prop} {e a b : Expr} {to ta tb : TE} {t : TA} {pos : Pos}
theorem pe_bmK (K : PySem.W.Frag) (hK : X.K = K) (h : PE X e (tBM X.K T r to t)) : PE X e (tBM K T r to t) := hK ▸ h
theorem pe_ixlK (K : PySem.W.Frag) (hK : X.K = K) (ha : PE X a ta) (hb : PE X b tb) (hs : PlainIx b := by exact fun _ _ => rfl) : PE X (.Subscript a b pos) (tOp (rIxL K) ta tb) := hK ▸ pe_ix ix_list ha hb hs
theorem mt_countK (K : PySem.W.Frag) (hK : X.K = K) : MtR X "list.count" (rCntF K) := hK ▸ mt_countF
theorem mt_indexK (K : PySem.W.Frag) (hK : X.K = K) : MtR X "list.index" (rIndex K) := hK ▸ mt_index
theorem op_inK (K : PySem.W.Frag) (hK : X.K = K) : OpR X (compareOp .In) (rIn K false) := hK ▸ op_in_seq
end
end Sea

set_option Elab.async false
set_option linter.all false
set_option maxRecDepth 100000
set_option maxHeartbeats 4000000
/-! what every law of this package leans on, no program in sight -/
namespace Sea
open PySem PySem.Spec PyProof.Rows L2 LamX NdefX ClX Evl StX
section
variable {X : Cx} {a b : Expr} {ta tb : TE} {pos : Pos}
theorem pe_ixl (ha : PE X a ta) (hb : PE X b tb) (hs : PlainIx b := by exact fun _ _ => rfl) : PE X (.Subscript a b pos) (tOp (rIxL X.K) ta tb) := pe_ix ix_list ha hb hs
theorem pe_ixt (ha : PE X a ta) (hb : PE X b tb) (hs : PlainIx b := by exact fun _ _ => rfl) : PE X (.Subscript a b pos) (tOp (rIxT X.K) ta tb) := pe_ix ix_tup ha hb hs
end
/-! ### draws -/
structure Dr (H : Hp) (h c : Addr) : Prop where
  ne : h ≠ c
  ex : ∃ (m k : Int) (ns : List Int), H h = some (.lst [.int m, .ref c, .int k]) ∧ H c = some (.lst (ns.map V.int)) ∧ ns.length ≤ 63
/-- all kept but h and c -/
def Kp (h c : Addr) (H H' : Hp) : Prop := ∀ b o, H b = some o → b ≠ h → b ≠ c → H' b = some o
theorem Kp.refl {h c : Addr} {H : Hp} : Kp h c H H := fun _ _ e _ _ => e
theorem Kp.trans {h c : Addr} {H H1 H2 : Hp} (a : Kp h c H H1) (b : Kp h c H1 H2) : Kp h c H H2 := fun x o e n1 n2 => b x o (a x o e n1 n2) n1 n2
theorem Kp.new {h c a : Addr} {H : Hp} {o : HO} (n : H a = none) : Kp h c H (upd H a o) := fun b o e _ _ => by
  rw [upd_ne (ne_of_none e n)]
  exact e
theorem Kp.same {h c : Addr} {H H' : Hp} (s : Same H H') : Kp h c H H' := fun b o e _ _ => s b o e
theorem Dr.same {H H' : Hp} {h c : Addr} (d : Dr H h c) (s : Same H H') : Dr H' h c := by
  obtain ⟨n, m, k, ns, e1, e2, l⟩ := d
  exact ⟨n, m, k, ns, s _ _ e1, s _ _ e2, l⟩
theorem Dr.new {H : Hp} {h c a : Addr} {o : HO} (d : Dr H h c) (n : H a = none) : Dr (upd H a o) h c := d.same fun b o e => by
  rw [upd_ne (ne_of_none e n)]
  exact e
theorem pick0 (ns : List Int) (i : Int) (h0 : 0 ≤ i) (h1 : i < (ns.length : Int) + 1) : ∃ u : Int, atI (ns.map V.int ++ [V.int 0]) i = some (.int u) := by
  obtain ⟨j, rfl⟩ := Int.eq_ofNat_of_zero_le h0
  have hj : j < (ns.map V.int ++ [V.int 0]).length := by
    rw [List.length_append, List.length_map]
    show j < ns.length + 1
    omega
  refine ⟨(ns ++ [0]).getD j 0, ?_⟩
  have e : ns.map V.int ++ [V.int 0] = (ns ++ [0]).map V.int := by rw [List.map_append]; rfl
  rw [e] at hj ⊢
  unfold atI ixN
  rw [if_pos (by omega), if_pos (by omega)]
  show ((ns ++ [0]).map V.int)[(j : Int).toNat]? = _
  rw [Int.toNat_natCast, List.getElem?_map]
  rw [List.length_map] at hj
  rw [List.getElem?_eq_getElem hj]
  rw [List.getD_eq_getElem?_getD, List.getElem?_eq_getElem hj]
  rfl
theorem pick_nil {i u : Int} (h : atI (([] : List Int).map V.int ++ [V.int 0]) i = some (.int u)) : u = 0 := by
  revert h
  unfold atI ixN
  show ((if 0 ≤ i then (if i < ((1 : Nat) : Int) then some i.toNat else none) else if -((1 : Nat) : Int) ≤ i then some (i + ((1 : Nat) : Int)).toNat else none).bind fun j => [V.int 0][j]?) = _ → _
  intro h
  split at h
  · split at h
    · have e : i.toNat = 0 := by omega
      rw [show (some i.toNat : Option Nat) = some 0 by rw [e]] at h
      cases h
      rfl
    · cases h
  · split at h
    · have e : (i + ((1 : Nat) : Int)).toNat = 0 := by omega
      rw [show (some (i + ((1 : Nat) : Int)).toNat : Option Nat) = some 0 by rw [e]] at h
      cases h
      rfl
    · cases h
theorem ixn_fmod {n : Nat} (k : Int) (h : (0 : Int) < (n : Int)) : ∃ j, ixN n (k.fmod (n : Int)) = some j := by
  refine ⟨(k.fmod (n : Int)).toNat, ?_⟩
  unfold ixN
  rw [if_pos (Int.fmod_nonneg_of_pos _ h), if_pos (Int.fmod_lt_of_pos _ h)]
def TK (K : PySem.W.Frag) (H H' : Hp) : Prop := ∀ a xs, SqT K H a xs → SqT K H' a xs
theorem TK.refl {K : PySem.W.Frag} {H : Hp} : TK K H H := fun _ _ h => h
theorem TK.trans {K : PySem.W.Frag} {H H1 H2 : Hp} (a : TK K H H1) (b : TK K H1 H2) : TK K H H2 := fun x y h => b x y (a x y h)
theorem sqT_keep {K : PySem.W.Frag} {H H' : Hp} {a : Addr} {xs : List V} (e : ∀ o, H a = some o → H' a = some o) (h : SqT K H a xs) : SqT K H' a xs := by
  rcases h with (h | ⟨o, h⟩) | h
  · exact .inl (.inl (e _ h))
  · exact .inl (.inr ⟨o, e _ h⟩)
  · exact .inr h
theorem TK.same {K : PySem.W.Frag} {H H' : Hp} (s : Same H H') : TK K H H' := fun a xs h => sqT_keep (fun o => s a o) h
theorem same_new {H : Hp} {p : Addr} {o : HO} (h : H p = none) : Same H (upd H p o) := fun b x e => by
  rw [upd_ne (ne_of_none e h)]
  exact e
theorem TK.new {K : PySem.W.Frag} {H : Hp} {a : Addr} {o : HO} (n : H a = none) : TK K H (upd H a o) := .same (same_new n)
theorem TK.but {K : PySem.W.Frag} {H H' : Hp} (D : Addr → Prop) (s : ∀ b o, H b = some o → ¬ D b → H' b = some o) (nt : ∀ b xs, D b → ¬ Rd H b (.tup xs)) : TK K H H' := fun a xs h => by
  rcases h with h | h
  · have nd : ¬ D a := fun z => nt a xs z h
    rcases h with h | ⟨o, h⟩
    · exact .inl (.inl (s _ _ h nd))
    · exact .inl (.inr ⟨o, s _ _ h nd⟩)
  · exact .inr h
theorem Rd.lst_no {H : Hp} {a : Addr} {xs ys : List V} (e : H a = some (.lst ys)) : ¬ Rd H a (.tup xs) := fun h => by
  rcases h with h | ⟨o, h⟩
  · rw [e] at h
    cases h
  · rw [e] at h
    cases h
theorem Rd.ins_no {H : Hp} {a C dx : Addr} {xs : List V} {fs : List (Str × V)} (e : H a = some (.ins C dx fs)) : ¬ Rd H a (.tup xs) := fun h => by
  rcases h with h | ⟨o, h⟩
  · rw [e] at h
    cases h
  · rw [e] at h
    cases h
theorem Dr.tk {K : PySem.W.Frag} {H H' : Hp} {h c : Addr} (d : Dr H h c) (k : Kp h c H H') : TK K H H' := by
  obtain ⟨_, m, kk, ns, e1, e2, _⟩ := d
  refine .but (fun b => b = h ∨ b = c) (fun b o e n => k b o e (fun z => n (.inl z)) (fun z => n (.inr z))) fun b xs z => ?_
  rcases z with z | z
  · rw [z]
    exact Rd.lst_no e1
  · rw [z]
    exact Rd.lst_no e2
section
variable {X : Cx} {C : Addr} {mc : Value} {x f : Str} {v : V} {p pos : Pos}
theorem pe_clc (hg : Gl X x) (hm : X.mg x = some (.ref C)) (cr : CRead X.K C mc) (cv : ∃ u, CVal X.K C mc f v u) (hd : (x == ("__debug__" : Str)) = false := by decide)
    (hb : attributeBase (.Name x p) f X.env (eval (.Name x p) X.env) = eval (.Name x p) X.env := by rfl) : PE X (.Attribute (.Name x p) f pos) (tC v) := by
  obtain ⟨u, cv⟩ := cv
  exact ⟨fun pins s σ H Q I h => (pe_cval (pe_glob (v := .ref C) hg hm rfl hd) hb).run pins s σ H Q I ⟨C, mc, v, u, rfl, cr, cv, h⟩⟩
end
theorem ev_chainI {ta tb tc : TE} {σ : L2.St} {H : Hp} {i j k : Int} {p q : Int → Int → Bool} (ha : Ev ta σ H (.int i)) (hb : Ev tb σ H (.int j)) (hc : Ev tc σ H (.int k)) :
    Ev (tChain (rI0 fun i j => .bl (p i j)) (rI0 fun i j => .bl (q i j)) ta tb tc) σ H (.bl (p i j && q j k)) := fun H1 e Q hq => ha H1 e _ fun H2 e2 => hb H2 (e.trans e2) _ fun H3 e3 => ⟨i, j, rfl, rfl, p i j, rfl, by
  cases hp : p i j with
  | true => exact iteT (hc H3 ((e.trans e2).trans e3) _ fun H4 e4 => ⟨j, k, rfl, rfl, by
      have z := hq H4 ((e2.trans e3).trans e4)
      rw [hp] at z
      exact z⟩)
  | false => exact iteF (by
      have z := hq H3 (e2.trans e3)
      rw [hp] at z
      exact z)⟩
/-- a loop of n rounds: what each round finds and leaves, and what stands when the source is dry -/
theorem for_rounds {I : It} {g : TG} {tb : TS} {D : Ends} {σ : L2.St} {H : Hp} (n : Nat) (Pv : Nat → L2.St → Hp → Prop) (start : Pv 0 σ H)
    (round : ∀ i σ H, i < n → Pv i σ H → I.go i H ∧ ∀ x H', I.yld i H x H' → g x σ H' fun σ2 H2 => tb { D with nx := Pv (i + 1), ct := Pv (i + 1), bk := D.nx } σ2 H2)
    (dry : ∀ σ H, Pv n σ H → I.stop n H ∧ D.nx σ H) :
    ∃ W : Nat → Nat → L2.St → Hp → Prop, (∃ m, W 0 m σ H) ∧ ∀ i m σ H, W i m σ H →
      (I.stop i H ∧ D.nx σ H) ∨ (I.go i H ∧ ∃ N : L2.St → Hp → Prop, (∀ σ' H', N σ' H' → ∃ m', m' < m ∧ W (i + 1) m' σ' H') ∧ ∀ x H', I.yld i H x H' → g x σ H' fun σ2 H2 => tb { D with nx := N, ct := N, bk := D.nx } σ2 H2) := by
  let W : Nat → Nat → L2.St → Hp → Prop := fun i m σ H => m + i = n ∧ Pv i σ H
  have more : ∀ i m σ H, W i (m + 1) σ H → (I.go i H ∧ ∃ N : L2.St → Hp → Prop, (∀ σ' H', N σ' H' → ∃ m', m' < m + 1 ∧ W (i + 1) m' σ' H') ∧ ∀ x H', I.yld i H x H' → g x σ H' fun σ2 H2 => tb { D with nx := N, ct := N, bk := D.nx } σ2 H2) := by
    rintro i m σ H ⟨e, p⟩
    have ⟨go, each⟩ := round i σ H (by omega) p
    exact ⟨go, Pv (i + 1), fun _ _ z => ⟨m, Nat.lt_succ_self m, by omega, z⟩, each⟩
  have last : ∀ i σ H, W i 0 σ H → I.stop i H ∧ D.nx σ H := by
    rintro i σ H ⟨e, p⟩
    rw [Nat.zero_add] at e
    exact e ▸ dry σ H (e ▸ p)
  exact ⟨W, ⟨n, rfl, start⟩, fun i m σ H w => match m, w with
    | 0, w => .inl (last i σ H w)
    | m + 1, w => .inr (more i m σ H w)⟩
section
variable {K : PySem.W.Frag}
theorem mk1_in {H1 : Hp} {Q : XK} {f : Str} {y : V} {c : Addr} (T : OexC K c) (n : PySem.W.findIn K (.ref c) f = some none) (h : ∀ d, H1 d = none → Q (.ref c) (some d) (upd H1 d (.xd [(f, y)]))) :
    [y].length = 1 ∧ ∀ a, H1 a = none → spX1 K f ([.ref a] ++ [y]) (upd H1 a (exo a c none)) (fun v H2 => v = .non ∧ ∃ (d : Addr) (fs : List (Str × V)), H2 a = some (exo a c (some d)) ∧ H2 d = some (exd d fs) ∧ H1 d = none ∧ Q (.ref c) (some d) (upd (del H2 a) d (.xd fs))) (fun _ _ _ => False) := by
  refine ⟨rfl, fun a ha => ⟨a, c, y, rfl, T, n, upd_same, fun dx h1 h2 => ?_⟩⟩
  rw [upd_ne h2] at h1
  refine ⟨rfl, dx, _, upd_same, by rw [upd_ne h2, upd_same], h1, ?_⟩
  have e : upd (del (upd (upd (upd H1 a (exo a c none)) dx (exd dx [(f, y)])) a (exo a c (some dx))) a) dx (.xd [(f, y)]) = upd H1 dx (.xd [(f, y)]) := by
    funext b
    by_cases hb : b = dx
    · subst hb
      rw [upd_same, upd_same]
    · rw [upd_ne hb, upd_ne hb]
      by_cases hba : b = a
      · subst hba
        rw [del_same, ha]
      · rw [del_ne hba, upd_ne hba, upd_ne hb, upd_ne hba]
  rw [e]
  exact h dx h1
end
theorem take_snoc {α : Type} {L : List α} {i : Nat} {x : α} (h : L[i]? = some x) : L.take (i + 1) = L.take i ++ [x] := by
  rw [List.take_add_one, h]
  rfl
def EvD (te : TE) (σ : L2.St) (H : Hp) (P : V → Hp → Prop) : Prop := ∀ H1, Ex H H1 → ∀ Q : VK, (∀ v H2, Ex H1 H2 → P v H2 → Q v H2) → te σ H1 Q
theorem EvD.mono {te : TE} {σ : L2.St} {H H' : Hp} {P : V → Hp → Prop} (e : Ex H H') (h : EvD te σ H P) : EvD te σ H' P := fun H1 a Q q => h H1 (e.trans a) Q q
theorem ed_of {te : TE} {σ : L2.St} {H : Hp} {v : V} {P : V → Hp → Prop} (h : Ev te σ H v) (hp : ∀ H2, Ex H H2 → P v H2) : EvD te σ H P := fun H1 e Q q => h H1 e _ fun H2 e2 => q v H2 e2 (hp H2 (e.trans e2))
def cutP {α : Type} (xs : List α) (lo hi : Option Int) : List α := (xs.drop (HT.sIx xs.length 0 lo)).take (HT.sIx xs.length xs.length hi - HT.sIx xs.length 0 lo)
theorem cutP_all {α : Type} (xs : List α) (lo hi : Option Int) (h : HT.sIx xs.length 0 lo = 0 ∧ HT.sIx xs.length xs.length hi = xs.length) : cutP xs lo hi = xs := by
  unfold cutP
  rw [h.1, h.2, List.drop_zero, Nat.sub_zero, List.take_length]
theorem cutP_to {α : Type} (xs : List α) (k : Nat) : cutP xs none (some ((k : Nat) : Int)) = xs.take k := by
  unfold cutP
  rw [HT.sIx_none, HT.sIx_nat, List.drop_zero, Nat.sub_zero]
  by_cases h : k ≤ xs.length
  · rw [Nat.min_eq_left h]
  · rw [Nat.min_eq_right (by omega), List.take_of_length_le (Nat.le_refl _), List.take_of_length_le (by omega)]
theorem cutP_from {α : Type} (xs : List α) (k : Nat) : cutP xs (some ((k : Nat) : Int)) none = xs.drop k := by
  unfold cutP
  rw [HT.sIx_none, HT.sIx_nat]
  by_cases h : k ≤ xs.length
  · rw [Nat.min_eq_left h, List.take_of_length_le (by rw [List.length_drop]; exact Nat.le_refl _)]
  · rw [Nat.min_eq_right (by omega), Nat.sub_self, List.take_zero, List.drop_eq_nil_of_le (by omega)]
section
variable {te : TE} {σ : L2.St} {H : Hp}
theorem q_asgD {tz : TS} {D : Ends} {i : Nat} {P : V → Hp → Prop} (h : EvD te σ H P) (k : ∀ v H1, Ex H H1 → P v H1 → tz D (σ.set i (some v)) H1) : tSeq (tAsg te (gName i)) tz D σ H := h H (Ex.refl H) _ fun v H1 e p => k v H1 e p
theorem s_retD {D : Ends} {P : V → Hp → Prop} (h : EvD te σ H P) (k : ∀ v H1, Ex H H1 → P v H1 → D.rt v H1) : tRet te D σ H := h H (Ex.refl H) _ k
end
theorem pe_ixtK {X : Cx} {a b : Expr} {ta tb : TE} {pos : Pos} (K : PySem.W.Frag) (hK : X.K = K) (ha : PE X a ta) (hb : PE X b tb) (hs : PlainIx b := by exact fun _ _ => rfl) : PE X (.Subscript a b pos) (tOp (rIxT K) ta tb) := by
  subst hK
  exact pe_ix ix_tup ha hb hs
theorem rv_eqD {K : PySem.W.Frag} {x y : V} {H : Hp} {d e : PyData} (h1 : ∀ H1, Ex H H1 → Dp K H1 x d) (h2 : ∀ H1, Ex H H1 → Dp K H1 y e) (s1 : SeqAt.shaped d = true) (s2 : SeqAt.shaped e = true) : RV (rEqD K) x y H (.bl (PyData.eqv d e)) := fun H1 a Q q => ⟨d, e, h1 H1 a, h2 H1 a, s1, s2, q H1 (Ex.refl _)⟩
theorem rv_neD {K : PySem.W.Frag} {x y : V} {H : Hp} {d e : PyData} (h1 : ∀ H1, Ex H H1 → Dp K H1 x d) (h2 : ∀ H1, Ex H H1 → Dp K H1 y e) (s1 : SeqAt.shaped d = true) (s2 : SeqAt.shaped e = true) : RV (rNeD K) x y H (.bl (!PyData.eqv d e)) := fun H1 a Q q => ⟨d, e, h1 H1 a, h2 H1 a, s1, s2, q H1 (Ex.refl _)⟩
theorem intsDp {K : PySem.W.Frag} {H : Hp} : ∀ ns : List Int, DpAll K H (ns.map V.int) (ns.map PyData.int)
  | [] => .nil
  | n :: r => .cons (.int n) (intsDp r)
theorem ints_lay : ∀ ns : List Int, PyData.canLayAll0 (ns.map PyData.int) = true
  | [] => rfl
  | n :: r => by
    show (true && PyData.canLayAll0 (r.map PyData.int)) = true
    rw [ints_lay r]
    rfl
theorem ints_dep : ∀ ns : List Int, PyData.depthAll (ns.map PyData.int) = 0
  | [] => rfl
  | n :: r => by
    show max 0 (PyData.depthAll (r.map PyData.int)) = 0
    rw [ints_dep r]
    rfl
theorem ints_sh (ns : List Int) : SeqAt.shaped (.list (ns.map PyData.int)) = true := by
  show (PyData.canLayAll0 (ns.map PyData.int) && decide (PyData.depthAll (ns.map PyData.int) + 1 ≤ 64)) = true
  rw [ints_lay, ints_dep]
  rfl
theorem pick3 (a b c v : Int) (h0 : 0 ≤ v) (h1 : v < 3) : ∃ w, atI [V.int a, V.int b, V.int c] v = some (.int w) ∧ (w = a ∨ w = b ∨ w = c) := by
  rcases (show v = 0 ∨ v = 1 ∨ v = 2 by omega) with rfl | rfl | rfl
  · exact ⟨a, rfl, .inl rfl⟩
  · exact ⟨b, rfl, .inr (.inl rfl)⟩
  · exact ⟨c, rfl, .inr (.inr rfl)⟩
theorem s_retIf {t : TT} {ta tb : TE} {D : Ends} {σ : L2.St} {H : Hp} {b : Bool} (h : EvT t σ H b) (h1 : b = true → ∀ H1, Ex H H1 → tRet ta D σ H1) (h2 : b = false → ∀ H1, Ex H H1 → tRet tb D σ H1) : tRet (tIf t ta tb) D σ H := h H (Ex.refl _) _ fun H1 e => by
  cases b with
  | true => exact iteT (h1 rfl H1 e)
  | false => exact iteF (h2 rfl H1 e)
theorem ev_lenT {K : PySem.W.Frag} {σ : L2.St} {H : Hp} {i : Nat} {p : Addr} {xs : List V} (hs : σ[i]? = some (some (.ref p))) (h : SqT K H p xs) : Ev (tCB (fun xs H Q => ∃ p ys, xs = [V.ref p] ∧ (SqL K H p ys ∨ SqT K H p ys) ∧ Q (.int ys.length) H) (tCons (tVar i) tNil)) σ H (.int (xs.length : Int)) := fun H1 e Q q =>
  ⟨_, hs, p, xs, rfl, .inr ((TK.same e) _ _ h), q H1 (Ex.refl _)⟩
theorem ev_cnt {K : PySem.W.Frag} {σ : L2.St} {H : Hp} {i : Nat} {D : Addr} {ys : List V} (hs : σ[i]? = some (some (.ref D))) (h : H D = some (.lst ys)) (hf : ys.all flatV = true) :
    Ev (tBM K "list" (rCntF K) (tVar i) (tCons (tC (.bl true)) tNil)) σ H (.int (ys.countP (fun z => eqV z (.bl true)) : Nat)) := fun H' e Q q => ⟨_, hs, .inl ⟨rfl, _, SqL.of (e _ _ h)⟩, D, ys, .bl true, rfl, rfl, SqL.of (e _ _ h), rfl, hf, q H' (Ex.refl _)⟩
theorem ev_idx {K : PySem.W.Frag} {σ : L2.St} {H : Hp} {i j : Nat} {D : Addr} {ys : List V} {z : V} (hs : σ[i]? = some (some (.ref D))) (h : H D = some (.lst ys)) (hf : ys.all flatV = true) (hz : ys[j]? = some z) (hq : eqV z (.bl true) = true) (ha : ∀ (m : Nat) (z' : V), m < j → ys[m]? = some z' → eqV z' (.bl true) = false) :
    Ev (tBM K "list" (rIndex K) (tVar i) (tCons (tC (.bl true)) tNil)) σ H (.int (j : Nat)) := fun H' e Q q => ⟨_, hs, .inl ⟨rfl, _, SqL.of (e _ _ h)⟩, D, ys, .bl true, j, z, rfl, rfl, SqL.of (e _ _ h), rfl, hf, hz, hq, ha, q H' (Ex.refl _)⟩
theorem pe_ixsK {X : Cx} {a b : Expr} {ta tb : TE} {pos : Pos} (K : PySem.W.Frag) (hK : X.K = K) (ha : PE X a ta) (hb : PE X b tb) (hs : PlainIx b := by exact fun _ _ => rfl) : PE X (.Subscript a b pos) (tOp (rIx K) ta tb) := by
  subst hK
  exact pe_ix ix_seq ha hb hs
mutual
theorem dp_ex {K : PySem.W.Frag} {H H' : Hp} (e : Ex H H') : ∀ {v : V} {d : PyData}, Dp K H v d → Dp K H' v d
  | _, _, .non => .non
  | _, _, .bl b => .bl b
  | _, _, .int i => .int i
  | _, _, .str x => .str x
  | _, _, .lst h a => .lst (ex_l e h) (dps_ex e a)
  | _, _, .tup h a => .tup (ex_t e h) (dps_ex e a)
theorem dps_ex {K : PySem.W.Frag} {H H' : Hp} (e : Ex H H') : ∀ {vs : List V} {ds : List PyData}, DpAll K H vs ds → DpAll K H' vs ds
  | _, _, .nil => .nil
  | _, _, .cons a b => .cons (dp_ex e a) (dps_ex e b)
end
theorem dps_len {K : PySem.W.Frag} {H : Hp} : ∀ {vs : List V} {ds : List PyData}, DpAll K H vs ds → vs.length = ds.length
  | _, _, .nil => rfl
  | _, _, .cons _ b => by rw [List.length_cons, List.length_cons, dps_len b]
theorem dps_get {K : PySem.W.Frag} {H : Hp} : ∀ {vs : List V} {ds : List PyData}, DpAll K H vs ds → ∀ {i : Nat}, i < ds.length → ∃ v d, vs[i]? = some v ∧ ds[i]? = some d ∧ Dp K H v d
  | _, _, .nil, i, hi => absurd hi (Nat.not_lt_zero _)
  | _, _, .cons (v := v) (d := d) a b, 0, _ => ⟨v, d, rfl, rfl, a⟩
  | _, _, .cons a b, i + 1, hi => by simpa using dps_get b (i := i) (by simpa using hi)
/-- whole numbers in lists and tuples -/
inductive IntD : Nat → PyData → Prop
  | int (n : Nat) (i : Int) : IntD n (.int i)
  | bool (n : Nat) (b : Bool) : IntD n (.bool b)
  | lst {n : Nat} {ds : List PyData} (h : ∀ (i : Nat) (d : PyData), ds[i]? = some d → IntD n d) (hl : ds.length ≤ 1000) : IntD (n + 1) (.list ds)
  | tup {n : Nat} {ds : List PyData} (h : ∀ (i : Nat) (d : PyData), ds[i]? = some d → IntD n d) (hl : ds.length ≤ 1000) : IntD (n + 1) (.tuple ds)
/-- equal data are alike -/
def spAl (K : PySem.W.Frag) (n : Nat) : Sp := fun vs H Q _ => ∃ (m : Nat) (x y : V) (d : PyData), m < n ∧ vs = [x, y] ∧ Dp K H x d ∧ Dp K H y d ∧ IntD m d ∧ ∀ H', Same H H' → Q (.bl true) H'
theorem ev_isi {K : PySem.W.Frag} {σ : L2.St} {H : Hp} {i : Nat} {x : V} {t : Value} {n : String} {b : Bool} (hs : σ[i]? = some (some x)) (ty : ∀ H1, Ex H H1 → TyX K H1 x t) (h : PySem.W.kitOne K t (.type n) = some b) : Ev (tCB (rIsi K) (tCons (tVar i) (tCons (tC (.ty n)) tNil))) σ H (.bl b) :=
  fun H1 e Q q => ⟨_, hs, x, .ty n, t, .type n, b, rfl, .ty n, ty H1 e, h, q H1 (Ex.refl _)⟩
theorem ev_isiT {K : PySem.W.Frag} {σ : L2.St} {H : Hp} {i : Nat} {x : V} {t : Value} {b : Bool} (hs : σ[i]? = some (some x)) (ty : ∀ H1, Ex H H1 → TyX K H1 x t) (h : PySem.W.kitAny K t [.type "tuple", .type "list"] = some b) :
    Ev (tCB (rIsiT K) (tCons (tVar i) (tCons (tTup (tCons (tC (.ty "tuple")) (tCons (tC (.ty "list")) tNil))) tNil))) σ H (.bl b) :=
  fun H1 e Q q => ⟨_, hs, Nat.le_of_lt (small1000 (show 2 ≤ 1000 by decide)), fun p np => ⟨x, p, _, t, _, b, rfl, upd_same, .cons (.ty _) (.cons (.ty _) .nil), ty _ (e.trans (Ex.new np)), h, q _ (Ex.new np)⟩⟩
theorem tyx_lst {K : PySem.W.Frag} {H : Hp} {a : Addr} {xs : List V} (h : SqL K H a xs) : TyX K H (.ref a) (.type "list") := by
  rcases h with (h | ⟨o, h⟩) | ⟨o, its, n, hk, hc, _⟩
  · exact .base (.lst h)
  · exact .base (.frz h)
  · exact .kList hk hc
theorem tyx_tup {K : PySem.W.Frag} {H : Hp} {a : Addr} {xs : List V} (h : SqT K H a xs) : TyX K H (.ref a) (.type "tuple") := by
  rcases h with (h | ⟨o, h⟩) | ⟨o, its, n, hk, hc, _⟩
  · exact .base (.tup h)
  · exact .fTuple h
  · exact .kTuple hk hc
theorem ka_list {K : PySem.W.Frag} : PySem.W.kitAny K (.type "list") [.type "tuple", .type "list"] = some true := kitAny_cons (b := false) (kit_ty (by decide +kernel)) (fun _ => kitAny_cons (b := true) (kit_ty (by decide +kernel)) (fun z => by cases z) fun _ => rfl) (fun z => by cases z)
theorem ka_tuple {K : PySem.W.Frag} : PySem.W.kitAny K (.type "tuple") [.type "tuple", .type "list"] = some true := kitAny_cons (b := true) (kit_ty (by decide +kernel)) (fun z => by cases z) fun _ => rfl
theorem ka_int {K : PySem.W.Frag} : PySem.W.kitAny K (.type "int") [.type "tuple", .type "list"] = some false := kitAny_cons (b := false) (kit_ty (by decide +kernel)) (fun _ => kitAny_cons (b := false) (kit_ty (by decide +kernel)) (fun _ => rfl) (fun z => by cases z)) (fun z => by cases z)
theorem ka_bool {K : PySem.W.Frag} : PySem.W.kitAny K (.type "bool") [.type "tuple", .type "list"] = some false := kitAny_cons (b := false) (kit_ty (by decide +kernel)) (fun _ => kitAny_cons (b := false) (kit_ty (by decide +kernel)) (fun _ => rfl) (fun z => by cases z)) (fun z => by cases z)
theorem ev_lenS {K : PySem.W.Frag} {σ : L2.St} {H : Hp} {i : Nat} {p : Addr} {xs : List V} (hs : σ[i]? = some (some (.ref p))) (h : SqL K H p xs ∨ SqT K H p xs) : Ev (tCB (fun xs H Q => ∃ p ys, xs = [V.ref p] ∧ (SqL K H p ys ∨ SqT K H p ys) ∧ Q (.int ys.length) H) (tCons (tVar i) tNil)) σ H (.int (xs.length : Int)) := fun H1 e Q q =>
  ⟨_, hs, p, xs, rfl, h.elim (fun h => .inl (ex_l e h)) (fun h => .inr (ex_t e h)), q H1 (Ex.refl _)⟩
theorem given_none (n : Nat) (v : Nat → V) : given n (fun _ => false) v = [] := by
  unfold given
  simp
theorem at_nat {α : Type} {xs : List α} {i : Nat} {v : α} (hi : i < xs.length) (h : xs[i]? = some v) : atI xs ((i : Nat) : Int) = some v := by
  unfold atI
  rw [ixN_nat hi]
  exact h
def noE : Expr := .Constant .none 0 ⟨0, 0, 0, 0⟩
def noS : Stmt := .Pass ⟨0, 0, 0, 0⟩
def forB : Stmt → List Stmt
  | .For _ _ b _ _ => b
  | _ => []
def ifB : Stmt → List Stmt
  | .If _ b _ _ => b
  | _ => []
def ifC : Stmt → Expr
  | .If c _ _ _ => c
  | _ => noE
def asgE : Stmt → Expr
  | .Assign _ e _ => e
  | .Expr e _ => e
  | _ => noE
def callA : Expr → Expr
  | .Call _ (a :: _) _ _ => a
  | _ => noE
def lisI (i : Nat) : Expr → Expr
  | .List es _ => es.getD i noE
  | _ => noE
def cmpL : Expr → Expr
  | .Compare l _ _ _ => l
  | _ => noE
def lamP : Expr → Arguments
  | .Lambda p _ _ _ => p
  | _ => ⟨[], [], none, [], [], none, []⟩
def lamB : Expr → Expr
  | .Lambda _ b _ _ => b
  | _ => noE
def lamS : Expr → Scope
  | .Lambda _ _ s _ => s
  | _ => ⟨.function, [], false, false, []⟩
def NoLI (o : HO) : Prop := (∀ xs, o ≠ .lst xs) ∧ ∀ C dx fs, o ≠ .ins C dx fs
theorem tabs_but {T : List (Addr × Str)} {H H' : Hp} (hT : Tabs T H) (k : ∀ b o, H b = some o → NoLI o → H' b = some o) : Tabs T H' := fun p hp => by
  obtain ⟨ps, h1, h2, h3⟩ := hT p hp
  refine ⟨ps, k _ _ h1 ⟨fun xs z => (by cases z), fun C dx fs z => (by cases z)⟩, h2, fun pos cv hc => ?_⟩
  obtain ⟨c, e1, e2⟩ := h3 pos cv hc
  exact ⟨c, e1, k _ _ e2 ⟨fun xs z => (by unfold CodeO at z; cases z), fun C dx fs z => (by unfold CodeO at z; cases z)⟩⟩
theorem tabs_same {T : List (Addr × Str)} {H H' : Hp} (hT : Tabs T H) (s : Same H H') : Tabs T H' := tabs_but hT fun b o e _ => s b o e
theorem tabs_kp {T : List (Addr × Str)} {H H' : Hp} {h c : Addr} (hT : Tabs T H) (d : Dr H h c) (k : Kp h c H H') : Tabs T H' := by
  obtain ⟨_, m, kk, ns, e1, e2, _⟩ := d
  refine tabs_but hT fun b o e n => k b o e (fun z => ?_) (fun z => ?_)
  · rw [z, e1] at e
    cases e
    exact n.1 _ rfl
  · rw [z, e2] at e
    cases e
    exact n.1 _ rfl
theorem Dr.extN {H H' : Hp} {h c : Addr} (d : Dr H h c) (s : ExtN H H') : Dr H' h c := by
  obtain ⟨n, m, k, ns, e1, e2, l⟩ := d
  exact ⟨n, m, k, ns, s _ _ e1 (fun ps z => (by cases z)), s _ _ e2 (fun ps z => (by cases z)), l⟩
theorem TK.extN {K : PySem.W.Frag} {H H' : Hp} (s : ExtN H H') : TK K H H' := fun a xs h => by
  rcases h with (h | ⟨o, h⟩) | h
  · exact .inl (.inl (s _ _ h fun ps z => by cases z))
  · exact .inl (.inr ⟨o, s _ _ h fun ps z => by cases z⟩)
  · exact .inr h
theorem Dr.nh {H : Hp} {h c b : Addr} (d : Dr H h c) (n : H b = none) : b ≠ h ∧ b ≠ c := by
  obtain ⟨_, m, kk, ns, e1, e2, _⟩ := d
  refine ⟨fun z => ?_, fun z => ?_⟩
  · rw [z, e1] at n
    cases n
  · rw [z, e2] at n
    cases n
def tI (i : Int) : TE := tC (.int i)
def tP (a b : TE) : TE := tTup (tCons a (tCons b tNil))
def rPw : R2 := rI CPow fun i j => .int (i ^ j.toNat)
def rAd : R2 := rI0 fun i j => .int (i + j)
def tMn (a : TE) : TE := tUn (rU fun i => .int (-i)) a
theorem ev_tI {σ : L2.St} {H : Hp} {i : Int} : Ev (tI i) σ H (.int i) := ev_c
theorem ev_pw {σ : L2.St} {H : Hp} {a b : TE} {i j : Int} (ha : Ev a σ H (.int i)) (hb : Ev b σ H (.int j)) (h : CPow i j) : Ev (tOp rPw a b) σ H (.int (i ^ j.toNat)) := ev_op ha hb (rv_I h)
theorem ev_ad {σ : L2.St} {H : Hp} {a b : TE} {i j : Int} (ha : Ev a σ H (.int i)) (hb : Ev b σ H (.int j)) : Ev (tOp rAd a b) σ H (.int (i + j)) := ev_op ha hb rv_I0
theorem ev_mn {σ : L2.St} {H : Hp} {a : TE} {i : Int} (ha : Ev a σ H (.int i)) : Ev (tMn a) σ H (.int (-i)) := ev_un ha ru_neg
theorem eu_ifT {t : TT} {ta tb : TE} {σ : L2.St} {H : Hp} {xs : List V} (h : EvT t σ H true) (h1 : EvU ta σ H xs) : EvU (tIf t ta tb) σ H xs := fun H1 e Q q => h H1 e _ fun H2 e2 => iteT (h1 H2 (e.trans e2) _ fun p H3 np e3 hp => q p H3 (fresh_back e2 np) (e2.trans e3) hp)
theorem eu_ifF {t : TT} {ta tb : TE} {σ : L2.St} {H : Hp} {xs : List V} (h : EvT t σ H false) (h1 : EvU tb σ H xs) : EvU (tIf t ta tb) σ H xs := fun H1 e Q q => h H1 e _ fun H2 e2 => iteF (h1 H2 (e.trans e2) _ fun p H3 np e3 hp => q p H3 (fresh_back e2 np) (e2.trans e3) hp)
theorem et_isN {σ : L2.St} {H : Hp} {i : Nat} {v : V} (hs : σ[i]? = some (some v)) : EvT (tTest (tOp (fun x y H Q => y = .non ∧ Q (.bl (decide (x = .non))) H) (tVar i) (tC .non))) σ H (decide (v = .non)) :=
  et_test (ev_op (ev_var hs) ev_c (fun H3 _ Q3 q3 => ⟨rfl, q3 H3 (Ex.refl _)⟩))
theorem eqv_self (d : PyData) (h : SeqAt.shaped d = true) : PyData.eqv d d = true := SeqAt.eqv_refl d (SeqAt.canLay_of_shaped h)
/-! ### expressions that give data, all kept -/
def EvDp (K : PySem.W.Frag) (te : TE) (σ : L2.St) (H : Hp) (d : PyData) : Prop := EvD te σ H fun v H => Dp K H v d
def EvDpA (K : PySem.W.Frag) (ta : TA) (σ : L2.St) (H : Hp) (ds : List PyData) : Prop := ∀ H1, Ex H H1 → ∀ Q : List V → Hp → Prop, (∀ vs H2, Ex H1 H2 → DpAll K H2 vs ds → Q vs H2) → ta σ H1 Q
section
variable {K : PySem.W.Frag} {te tb tx : TE} {ta tr : TA} {σ : L2.St} {H : Hp} {d e : PyData} {ds : List PyData}
theorem edp_ev {v : V} (h : Ev te σ H v) (hd : ∀ H2, Ex H H2 → Dp K H2 v d) : EvDp K te σ H d := ed_of h hd
theorem edp_int {i : Int} (h : Ev te σ H (.int i)) : EvDp K te σ H (.int i) := edp_ev h fun _ _ => .int i
theorem edp_str {x : Str} : EvDp K (tC (.str x)) σ H (.str x) := edp_ev ev_c fun _ _ => .str x
theorem eda_nil : EvDpA K tNil σ H [] := fun H1 _ Q q => q [] H1 (Ex.refl _) .nil
theorem eda_cons (h : EvDp K tx σ H d) (hr : EvDpA K tr σ H ds) : EvDpA K (tCons tx tr) σ H (d :: ds) := fun H1 e Q q =>
  h H1 e _ fun v H2 e2 hv => hr H2 (e.trans e2) _ fun vs H3 e3 hvs => q _ _ (e2.trans e3) (.cons (dp_ex e3 hv) hvs)
theorem edp_lst (h : EvDpA K ta σ H ds) (hl : ds.length ≤ 1000) : EvDp K (tLst ta) σ H (.list ds) := fun H1 e Q q => h H1 e _ fun vs H2 e2 hvs => ⟨Nat.le_of_lt (small1000 (by rw [dps_len hvs]; exact hl)), fun p np => q _ _ (e2.trans (Ex.new np)) (.lst (.of upd_same) (dps_ex (Ex.new np) hvs))⟩
theorem edp_tup (h : EvDpA K ta σ H ds) (hl : ds.length ≤ 1000) : EvDp K (tTup ta) σ H (.tuple ds) := fun H1 e Q q => h H1 e _ fun vs H2 e2 hvs => ⟨Nat.le_of_lt (small1000 (by rw [dps_len hvs]; exact hl)), fun p np => q _ _ (e2.trans (Ex.new np)) (.tup (.of upd_same) (dps_ex (Ex.new np) hvs))⟩
theorem et_neD (h1 : EvDp K te σ H d) (h2 : EvDp K tb σ H e) (s1 : SeqAt.shaped d = true) (s2 : SeqAt.shaped e = true) : EvT (tTest (tOp (rNeD K) te tb)) σ H (!PyData.eqv d e) := fun H1 a Q q =>
  h1 H1 a _ fun v H2 e2 hv => h2 H2 (a.trans e2) _ fun u H3 e3 hu => ⟨d, e, dp_ex e3 hv, hu, s1, s2, _, rfl, q H3 (e2.trans e3)⟩
theorem et_same (h1 : EvDp K te σ H d) (h2 : EvDp K tb σ H d) (s1 : SeqAt.shaped d = true) : EvT (tTest (tOp (rNeD K) te tb)) σ H false := et_is (et_neD h1 h2 s1 s1) (by rw [eqv_self d s1]; rfl)
end
theorem et_al {K : PySem.W.Frag} {ta : TA} {σ : L2.St} {H : Hp} {d : PyData} (hA : EvDpA K ta σ H [d, d]) (hd : IntD 3 d) : EvT (tNot (tB (tCall (spAl K 4) [] E0 ta))) σ H false := fun H1 e Q q =>
  hA H1 e (fun vs H2 => spAl K 4 (vs ++ []) H2 (fun x H3 => ∃ c, x = .bl c ∧ Q (!c) H3) E0) fun vs H2 e2 hvs => by
    cases hvs with
    | cons h1 hr =>
      cases hr with
      | cons h2 hr2 =>
        cases hr2
        exact ⟨3, _, _, d, by decide, rfl, h1, h2, hd, fun H5 s5 => ⟨true, rfl, q H5 (e2.trans s5)⟩⟩
theorem pick2 (a b v : Int) (h0 : 0 ≤ v) (h1 : v < 2) : ∃ w, atI [V.int a, V.int b] v = some (.int w) ∧ (w = a ∨ w = b) := by
  rcases (show v = 0 ∨ v = 1 by omega) with rfl | rfl
  · exact ⟨a, rfl, .inl rfl⟩
  · exact ⟨b, rfl, .inr rfl⟩
theorem ev_eqD {K : PySem.W.Frag} {te tb : TE} {σ : L2.St} {H : Hp} {d : PyData} (h1 : EvDp K te σ H d) (h2 : EvDp K tb σ H d) (s1 : SeqAt.shaped d = true) : Ev (tOp (rEqD K) te tb) σ H (.bl true) := fun H1 a Q q =>
  h1 H1 a _ fun v H2 e2 hv => h2 H2 (a.trans e2) _ fun u H3 e3 hu => ⟨d, d, dp_ex e3 hv, hu, s1, s1, by
    rw [eqv_self d s1]
    exact q H3 (e2.trans e3)⟩
theorem lam_ne {f : Addr} {F : LF} : ∀ ps, LamO f F ≠ .tbl ps := Stands.no_tbl
theorem code_ne {c : Addr} {q : Str} : ∀ ps, CodeO c q ≠ .tbl ps := fun ps z => by
  unfold CodeO at z
  cases z
theorem at_int {α : Type} {xs : List α} {i : Nat} (hi : i < xs.length) : atI xs ((i : Nat) : Int) = some xs[i] := at_nat hi (List.getElem?_eq_getElem hi)
end Sea

set_option Elab.async false
set_option linter.all false
set_option maxRecDepth 100000
set_option maxHeartbeats 4000000
/-! several except clauses, each with a name for the error or without one -/
namespace Sea
open PySem PySem.Spec PyProof.Rows L2
/-- a clause: its class, the slot of its name (if it has one), its suite -/
structure Cla where
  c : Value
  slot : Option Nat
  ts : Addr → Value → Option Addr → TS
def namd (o : Option Nat) (v : Option V) (σ : L2.St) : L2.St := match o with
  | none => σ
  | some i => σ.set i v
/-- behind the suite the name is gone -/
def past (D : Ends) (o : Option Nat) : Ends := { nx := fun σ H => D.nx (namd o none σ) H, rt := D.rt, bk := fun σ H => D.bk (namd o none σ) H, ct := fun σ H => D.ct (namd o none σ) H }
/-- what clauses, tried in turn, wish of the error that the body lets out -/
def wCla (K : PySem.W.Frag) (Wout : WX) (D : Ends) : List Cla → WX
  | [] => Wout
  | x :: r => fun cls d σ H => ∃ b, PySem.W.exmOne K cls x.c = some b ∧ match b with
    | true => ∀ a, H a = none → x.ts a cls d (past D x.slot) (namd x.slot (some (.ref a)) σ) H
    | false => wCla K Wout D r cls d σ H
inductive ClaOk (X : Cx) : ExceptHandler → Cla → Prop
  | bare {x : Str} {c : Value} {ts : Addr → Value → Option Addr → TS} {b₀ : Stmt} {suite : List Stmt} {np pos : Pos} (hc : Names X x c)
      (hsu : ∀ (a : Addr) (oe : Obj) (cls : Value) (d : Option Addr) (pn : List (Addr × Obj)), Zc cls d oe → (∃ vs, oe.data = .fields vs) → PSs (X.suite a ((a, oe) :: pn)) (b₀ :: suite) (ts a cls d)) :
      ClaOk X (.ExceptHandler (some (.Name x np)) none (b₀ :: suite) pos) ⟨c, none, ts⟩
  | named {x n : Str} {i : Nat} {c : Value} {ts : Addr → Value → Option Addr → TS} {b₀ : Stmt} {suite : List Stmt} {np pos : Pos} (hN : X.N.Nodup) (hi : X.N[i]? = some n) (hl : X.env.kindOf n = some .local) (hc : Names X x c)
      (hsu : ∀ (a : Addr) (oe : Obj) (cls : Value) (d : Option Addr) (pn : List (Addr × Obj)), Zc cls d oe → (∃ vs, oe.data = .fields vs) → PSs (X.suite a ((a, oe) :: pn)) (b₀ :: suite) (ts a cls d)) :
      ClaOk X (.ExceptHandler (some (.Name x np)) (some n) (b₀ :: suite) pos) ⟨c, some i, ts⟩
inductive ClasOk (X : Cx) : List ExceptHandler → List Cla → Prop
  | nil : ClasOk X [] []
  | cons {h : ExceptHandler} {x : Cla} {hs : List ExceptHandler} {xs : List Cla} (a : ClaOk X h x) (r : ClasOk X hs xs) : ClasOk X (h :: hs) (x :: xs)
/-- the error at a is caught: s is the state in which the clauses are tried; what it was without the error's own objects is told by src -/
structure Caught (X : Cx) (pins : List (Addr × Obj)) (σ : L2.St) (H : Hp) (a : Addr) (cls : Value) (d : Option Addr) (s : Shared) : Prop where
  free : H a = none
  src : ∃ (B : Heap) (s0 : Shared), Inv X pins σ H s0 ∧ (∀ b o, s0.heap.get? b = some o → b ∉ frs X.stack → B.get? b = some o) ∧ s0.heap.UpToSlots s.heap ∧ HandSPX.FlyingZ B X.stack a (Zc cls d) s.heap ∧ s.os = s0.os ∧ AllBare s.gens
section
variable {X : Cx} {pins : List (Addr × Obj)} {σ : L2.St} {H : Hp} {a : Addr} {cls : Value} {d : Option Addr} {s : Shared} {W : WX} {D : Ends}
theorem Caught.inv (c : Caught X pins σ H a cls d s) : Inv X pins σ H s :=
  let ⟨_, _, I, nb, up, fl, os, ag⟩ := c.src
  I.landed nb fl.1 up os ag
/-- its object is none of the frames' -/
theorem Caught.obj (c : Caught X pins σ H a cls d s) : ∃ oe, s.heap.get? a = some oe ∧ Zc cls d oe ∧ (∃ vs, oe.data = .fields vs) ∧ a ∉ frs X.stack := by
  obtain ⟨B, s0, _, _, _, ⟨_, _, frames, oe, vs, _, _, _, there, z, rec, _⟩, _⟩ := c.src
  refine ⟨oe, there, z, ⟨vs, rec⟩, fun m => ?_⟩
  obtain ⟨_, o, at_, other⟩ := frames.mem m
  cases there.symm.trans at_
  exact other vs rec
/-- the flight is set to none once more -/
theorem Caught.land {M : Model} {A : Around} {E : Value → Shared → Prop} {Q : Unit → Shared → Prop} (c : Caught X pins σ H a cls d s) (k : ∀ s', Caught X pins σ H a cls d s' → Q () s') : wpAny M A (setFlight (.ref a) none) Q E s :=
  let ⟨B, s0, I, nb, up, fl, os, ag⟩ := c.src
  HandSPX.lands_againZ fl fun h fl' more => k { s with heap := h } ⟨c.free, B, s0, I, nb, up.trans more, fl', os, ag⟩
/-- within a suite -/
theorem Caught.within (hs : X.stack = X.env :: X.outer) (hf : X.env.frame = some X.env.locals) (c : Caught X pins σ H a cls d s) : ∃ oe, Zc cls d oe ∧ (∃ vs, oe.data = .fields vs) ∧ s.heap.get? a = some oe ∧ Inv (X.suite a ((a, oe) :: (X.pn ++ pins))) [] σ H s := by
  obtain ⟨oe, there, z, ⟨vs, rec⟩, nf⟩ := c.obj
  rw [hs] at nf
  have n1 : a ≠ X.env.locals := fun e => nf (List.mem_filterMap.mpr ⟨X.env, List.mem_cons_self, by rw [hf, e]⟩)
  have n2 : a ∉ X.fs := fun m => nf (let ⟨e, he, q⟩ := List.mem_filterMap.mp m; List.mem_filterMap.mpr ⟨e, List.mem_cons_of_mem _ he, q⟩)
  exact ⟨oe, z, ⟨vs, rec⟩, there, c.inv.suite there rec c.free n1 n2⟩
/-- the class that a clause names is read -/
theorem Caught.test (hs : X.stack = X.env :: X.outer) (hf : X.env.frame = some X.env.locals) (c : Caught X pins σ H a cls d s) {x : Str} {v : Value} {p : Pos} (nm : Names X x v) {Q E : Value → Shared → Prop} (q : Q v s) :
    wpAny (model X.prog X.w) (X.A.mark (some (.ref a))) (eval (.Name x p) X.env) Q E s :=
  let ⟨_, _, _, _, S⟩ := c.within hs hf
  match nm with
  | ⟨g, dbg, .inl m⟩ => ld_glob S g m q dbg
  | ⟨g, dbg, .inr ⟨m, b, n⟩⟩ => ld_blt S g m b q n dbg
/-- one clause is tried -/
theorem Caught.clause (hs : X.stack = X.env :: X.outer) (hf : X.env.frame = some X.env.locals) (c : Caught X pins σ H a cls d s) {h : ExceptHandler} {x : Cla} {rest : List ExceptHandler} (ok : ClaOk X h x) {b : Bool} (one : PySem.W.exmOne X.K cls x.c = some b)
    (yes : b = true → x.ts a cls d (past D x.slot) (namd x.slot (some (.ref a)) σ) H) (no : b = false → wpAny (model X.prog X.w) X.A (handleBy (.ref a) X.env rest) (SP X pins D) X.xe s) :
    wpAny (model X.prog X.w) X.A (handleBy (.ref a) X.env (h :: rest)) (SP X pins D) X.xe s := by
  have frame := c.inv.ok
  have ty : PySem.W.Looks (model X.prog X.w) s.heap (typeOf (.ref a)) cls := by
    obtain ⟨oe, there, z, _⟩ := c.obj
    exact fun A Q E s' keep q => wpAny_typeOf_ref (keep _ _ there) (z.1.symm ▸ q)
  have match_ := PySem.W.exm_one c.inv.kIn ty one
  cases ok with
  | bare nm su =>
    refine wpAny_handleBy_cons (codeAny_handlers_test (c.test hs hf nm (match_.here ?_))) nofun
    cases b with
    | false => exact no rfl
    | true =>
      refine codeAny_handlers_suite (c.land fun s2 c2 => ?_)
      obtain ⟨oe, z, rec, _, S⟩ := c2.within hs hf
      refine wpAny_mono ((su a oe cls d _ z rec).run [] s2 _ H _ S (yes rfl)) (fun f s3 out => ?_) fun _ _ z => z.elim
      match f, out with
      | .next, ⟨_, _, S3, q⟩ => exact ⟨_, _, S3.unsuite frame, q⟩
      | .brk, ⟨_, _, S3, q⟩ => exact ⟨_, _, S3.unsuite frame, q⟩
      | .cont, ⟨_, _, S3, q⟩ => exact ⟨_, _, S3.unsuite frame, q⟩
      | .ret _, ⟨_, _, _, S3, r, q⟩ => exact ⟨_, _, _, S3.unsuite frame, r, q⟩
  | named nd hi hl nm su =>
    refine wpAny_handleBy_cons (codeAny_handlers_test (c.test hs hf nm (match_.here ?_))) nofun
    cases b with
    | false => exact no rfl
    | true =>
      refine codeAny_handlers_suite_as (c.land fun s2 c2 => ?_)
      obtain ⟨oe, z, rec, _, S⟩ := c2.within hs hf
      refine store_ok (X := X.suite a ((a, oe) :: (X.pn ++ pins))) (v := .ref a) S nd hi (.inl hl) rfl (fun s3 S3 => ?_) (.inr hl)
      refine wpAny_mono ((su a oe cls d _ z rec).run [] s3 _ H _ S3 (yes rfl)) (fun f s4 out => ?_) fun _ _ z => z.elim
      match f, out with
      | .next, ⟨_, _, S4, q⟩ => exact gone_ok (S4.unsuite frame) nd hi hl fun _ J => ⟨_, _, J, q⟩
      | .brk, ⟨_, _, S4, q⟩ => exact gone_ok (S4.unsuite frame) nd hi hl fun _ J => ⟨_, _, J, q⟩
      | .cont, ⟨_, _, S4, q⟩ => exact gone_ok (S4.unsuite frame) nd hi hl fun _ J => ⟨_, _, J, q⟩
      | .ret _, ⟨_, _, _, S4, r, q⟩ => exact gone_ok (S4.unsuite frame) nd hi hl fun _ J => ⟨_, _, _, J, r, q⟩
/-- no clause is left: it goes on from here -/
theorem Caught.out (hs : X.stack = X.env :: X.outer) (hf : X.env.frame = some X.env.locals) (tk : Takes X W) (c : Caught X pins σ H a cls d s) (w : W cls d σ H) {Q : Flow → Shared → Prop} : wpAny (model X.prog X.w) X.A (handleBy (.ref a) X.env []) Q X.xe s := by
  obtain ⟨na, B, s0, I, nb, up, fl, os, ag⟩ := c
  obtain ⟨oe, vs, T, _, _, there, _, rec, trace, _⟩ := id fl.2.2.2
  have leaves : wpAny (model X.prog X.w) X.A (setFlight (.ref a) X.env.frame) (fun _ s1 => wpAny (model X.prog X.w) X.A (throw (.ref a) : Sem Flow) Q X.xe s1) X.xe s :=
    hf ▸ HandSPX.setFlight_upZ fl fun h held more => wpAny_throw (tk (.ref a) _ ⟨a, B, s0, pins, σ, H, cls, d, rfl, I, nb, up.trans more, .inr (.inr held), na, os, ag, w⟩)
  have has : (Value.ref T == Value.none) = false := rfl
  refine wpAny_handleBy_nil (wpAny_bind (wpAny_field there rec trace ?_))
  simp only [has, Bool.false_eq_true, if_false]
  first
    | exact wpAny_bind leaves
    | exact wpAny_bind (wpAny_pure (wpAny_bind leaves))
/-- clauses, tried in turn -/
theorem Caught.turns (hs : X.stack = X.env :: X.outer) (hf : X.env.frame = some X.env.locals) (tk : Takes X W) (c : Caught X pins σ H a cls d s) : ∀ {l : List ExceptHandler} {xs : List Cla}, ClasOk X l xs → wCla X.K W D xs cls d σ H →
    wpAny (model X.prog X.w) X.A (handleBy (.ref a) X.env l) (SP X pins D) X.xe s
  | _, _, .nil, w => c.out hs hf tk w
  | _, _, .cons ok r, ⟨true, one, w⟩ => c.clause hs hf ok one (fun _ => w a c.free) nofun
  | _, _, .cons ok r, ⟨false, one, w⟩ => c.clause hs hf ok one nofun fun _ => c.turns hs hf tk r w
/-- try: body, several except clauses -/
theorem ps_try_cls {body : List Stmt} {h₀ : ExceptHandler} {l : List ExceptHandler} {xs : List Cla} {pos : Pos} {tb : WX → TS} (hs : X.stack = X.env :: X.outer) (hf : X.env.frame = some X.env.locals) (tk : Takes X W)
    (hb : ∀ (U : WX) (pn : List (Addr × Obj)) (xe : Value → Shared → Prop), Takes (X.tr pn xe) U → PassesOwn (model X.prog X.w) X.A X.env xe → PSs (X.tr pn xe) body (tb U)) (hl : ClasOk X (h₀ :: l) xs) :
    PS X (.Try body (h₀ :: l) [] [] pos) (fun D σ H => tb (wCla X.K W D xs) D σ H) := by
  constructor
  intro pins s σ H D I h
  have frame := I.ok
  have top : X.A.frames = some (X.env :: X.outer) := hs ▸ frame.frames
  apply wpAny_Try_except
  refine wpAny_mono ((hb (wCla X.K W D xs) (X.pn ++ pins) _ ?_ PassesOwn.looking).run [] s σ H D (I.toTry _) h) ?_ fun _ _ z => z
  · rintro u s' ⟨a, B, s0, pn, σ', H', cls, d, rfl, J, nb, up, sky, na, os, ag, w⟩
    exact Sky.land Zc.steady top hf (hs ▸ sky) fun hp fl more => Caught.turns hs hf tk (s := { s' with heap := hp }) ⟨na, B, s0, J.ofTry frame, nb, up.trans more, hs ▸ fl, os, ag⟩ hl w
  · rintro f s1 out
    match f, out with
    | .next, ⟨_, _, J, q⟩ => exact wpAny_execs_nil ⟨_, _, J.ofTry frame, q⟩
    | .brk, ⟨_, _, J, q⟩ => exact ⟨_, _, J.ofTry frame, q⟩
    | .cont, ⟨_, _, J, q⟩ => exact ⟨_, _, J.ofTry frame, q⟩
    | .ret _, ⟨_, _, _, J, r, q⟩ => exact ⟨_, _, _, J.ofTry frame, r, q⟩
end
end Sea

set_option Elab.async false
set_option linter.all false
set_option maxRecDepth 100000
set_option maxHeartbeats 4000000
/-! dicts whose keys are (a whole number, a whole number, a tuple of whole numbers) and whose values are whole numbers: k not in d, d[k], d[k] = v -/
namespace Sea
open PySem PySem.Spec PyProof.Rows L2 LamX NdefX ClX Evl StX
abbrev NK := Int × Int × List Int
def nk (k : NK) : NestedKey := .tup [.num k.1, .num k.2.1, .tup (k.2.2.map .num)]
theorem num_inj : ∀ {xs ys : List Int}, xs.map NestedKey.num = ys.map NestedKey.num → xs = ys
  | [], [], _ => rfl
  | [], _ :: _, e => by cases e
  | _ :: _, [], e => by cases e
  | x :: xs, y :: ys, e => by
    rw [List.map_cons, List.map_cons] at e
    injection e with e1 e2
    injection e1 with e1
    rw [e1, num_inj e2]
theorem nk_inj {k j : NK} (e : nk k = nk j) : k = j := by
  obtain ⟨a, b, c⟩ := k
  obtain ⟨a', b', c'⟩ := j
  unfold nk at e
  injection e with e
  injection e with e1 e
  injection e with e2 e
  injection e with e3 _
  injection e1 with e1
  injection e2 with e2
  injection e3 with e3
  rw [show a = a' from e1, show b = b' from e2, show c = c' from num_inj e3]
theorem nk_dep (k : NK) : (nk k).depth ≤ 8 := by
  have h : ∀ xs : List Int, NestedKey.depthAll (xs.map .num) = 0 := fun xs => by
    induction xs with
    | nil => rfl
    | cons x r ih =>
      show max 0 (NestedKey.depthAll (r.map .num)) = 0
      rw [ih]
      rfl
  show max 0 (max 0 (max (NestedKey.depthAll (k.2.2.map .num) + 1) 0)) + 1 ≤ 8
  rw [h]
  decide
/-- the value y in H is the key k -/
def KeyAt (K : PySem.W.Frag) (H : Hp) (y : V) (k : NK) : Prop := ∃ b m, y = .ref b ∧ SqT K H b [.int k.1, .int k.2.1, .ref m] ∧ SqT K H m (k.2.2.map V.int)
theorem KeyAt.tk {K : PySem.W.Frag} {H H' : Hp} {y : V} {k : NK} (t : TK K H H') (h : KeyAt K H y k) : KeyAt K H' y k := by
  obtain ⟨b, m, e, h1, h2⟩ := h
  exact ⟨b, m, e, t _ _ h1, t _ _ h2⟩
theorem nums_all {h : Heap} : ∀ {xs : List Int} {us : List Value}, Vals (xs.map V.int) us → NestedAll h (xs.map .num) us
  | [], _, r => by cases r; exact .nil
  | x :: xs, _, r => by
    rw [List.map_cons] at r
    cases r with
    | cons a b =>
      obtain ⟨t, rfl⟩ := a
      exact .cons (.int x t) (nums_all b)
section
variable {X : Cx} {pins : List (Addr × Obj)} {σ : L2.St} {H : Hp} {s : Shared}
theorem tup_nested {a : Addr} {xs : List V} {ks : List NestedKey} (I : Inv X pins σ H s) (h : SqT X.K H a xs) (hk : ∀ us, Vals xs us → NestedAll s.heap ks us) : NestedIs s.heap (.tup ks) (.ref a) := by
  obtain ⟨its, r, ⟨o, h1, h2, n, h3⟩, _⟩ := I.tuple h
  exact .tup h1 h2 h3 (by simpa using hk its r)
theorem key_nested {y : V} {u : Value} {k : NK} (I : Inv X pins σ H s) (h : KeyAt X.K H y k) (ry : RelV y u) : ∃ b, u = .ref b ∧ y = .ref b ∧ (nestedKind X.prog X.w).is s.heap (nk k) b := by
  obtain ⟨b, m, rfl, h1, h2⟩ := h
  refine ⟨b, ry, rfl, tup_nested I h1 fun us r => ?_, nk_dep k⟩
  match us, r with
  | _, .cons ⟨t1, e1⟩ (.cons ⟨t2, e2⟩ (.cons e3 .nil)) =>
    subst e1 e2 e3
    exact .cons (.int _ _) (.cons (.int _ _) (.cons (tup_nested I h2 fun us r => nums_all r) .nil))
end
/-- an entry: the key, where it stands, the number -/
abbrev NE := NK × Addr × Int
def NEr : NE → (NestedKey × Addr × Value) → Prop := fun p q => q.1 = nk p.1 ∧ q.2.1 = p.2.1 ∧ ∃ t, q.2.2 = Value.int p.2.2 t
/-- the dict at a with the entries ks -/
def NdO (P : Program) (w : World) (a : Addr) (ks : List NE) : HO := .ext fun h => ks.length ≤ sizeLine ∧ (a == sysModules) = false ∧ ∃ xs, Paired NEr ks xs ∧
  ∃ o es ep, h.get? a = some o ∧ o.ExactDict ∧ o.data = .dict es ep ∧ es.toList = xs.map (entryOfKey (nestedKind P w)) ∧ (xs.map (·.1)).Nodup
def fnd (ks : List NE) (k : NK) : Option Int := (ks.find? fun p => decide (p.1 = k)).map (·.2.2)
def KeysIn (K : PySem.W.Frag) (H : Hp) (ks : List NE) : Prop := ∀ p ∈ ks, KeyAt K H (.ref p.2.1) p.1
theorem KeysIn.tk {K : PySem.W.Frag} {H H' : Hp} {ks : List NE} (t : TK K H H') (h : KeysIn K H ks) : KeysIn K H' ks := fun p hp => (h p hp).tk t
theorem KeysIn.snoc {K : PySem.W.Frag} {H : Hp} {ks : List NE} {k : NK} {b : Addr} {n : Int} (h : KeysIn K H ks) (g : KeyAt K H (.ref b) k) : KeysIn K H (ks ++ [(k, b, n)]) := fun p hp => by
  rcases List.mem_append.mp hp with hp | hp
  · exact h p hp
  · rw [List.mem_singleton] at hp
    subst hp
    exact g
theorem at_fnd {ks : List NE} {xs : List (NestedKey × Addr × Value)} (r : Paired NEr ks xs) (k : NK) :
    (fnd ks k = none ∧ atKey xs (nk k) = none) ∨ ∃ n b t, fnd ks k = some n ∧ atKey xs (nk k) = some (b, Value.int n t) := by
  induction r with
  | nil => exact .inl ⟨rfl, rfl⟩
  | @cons p q ps qs h r ih =>
    obtain ⟨e1, e2, t, e3⟩ := h
    by_cases e : p.1 = k
    · refine .inr ⟨p.2.2, q.2.1, t, ?_, ?_⟩
      · unfold fnd
        rw [List.find?_cons, decide_eq_true e]
        rfl
      · unfold atKey
        rw [List.find?_cons, decide_eq_true (by rw [e1, e])]
        show some (q.2.1, q.2.2) = _
        rw [e3]
    · have e' : ¬ q.1 = nk k := fun z => e (nk_inj (e1.symm.trans z))
      unfold fnd atKey at ih ⊢
      rw [List.find?_cons, decide_eq_false e, List.find?_cons, decide_eq_false e']
      exact ih
theorem pair_mem {α β : Type} {F : α → β → Prop} {x : β} : ∀ {l : List α} {m : List β}, Paired F l m → x ∈ m → ∃ p ∈ l, F p x
  | _, _, .nil, h => nomatch h
  | p :: _, _, .cons f _, .head _ => ⟨p, .head _, f⟩
  | _, _, .cons _ r, .tail _ h => let ⟨p, hp, f⟩ := pair_mem r h; ⟨p, .tail _ hp, f⟩
section
variable {P : Program} {w : World}
theorem nd_no {K : PySem.W.Frag} {H : Hp} {a : Addr} {ks : List NE} (e : H a = some (NdO P w a ks)) (xs : List V) : ¬ Rd H a (.tup xs) := by
  rintro (z | ⟨o, z⟩)
  · rw [e] at z
    cases z
  · rw [e] at z
    cases z
theorem nd_ok {H : Hp} {h : Heap} {a : Addr} {ks : List NE} (x : ObjOk P w H h a (NdO P w a ks)) (hk : ∀ p ∈ ks, (nestedKind P w).is h (nk p.1) p.2.1) : ks.length ≤ sizeLine ∧ (a == sysModules) = false ∧ ∃ xs, Paired NEr ks xs ∧ h.DictOfH (nestedKind P w) a xs := by
  obtain ⟨⟨few, low, xs, r, o, es, ep, at_, ex, dat, ents, nd⟩, _⟩ := x
  exact ⟨few, low, xs, r, o, es, ep, at_, ex, dat, ents, fun x hx => let ⟨p, hp, e1, e2, _⟩ := pair_mem r hx; e1 ▸ e2 ▸ hk p hp, nd⟩
theorem nd_mk {H : Hp} {h : Heap} {a : Addr} {ks : List NE} {xs : List (NestedKey × Addr × Value)} (z : ks.length ≤ sizeLine) (hd : (a == sysModules) = false) (r : Paired NEr ks xs) (d : h.DictOfH (nestedKind P w) a xs) : ObjOk P w H h a (NdO P w a ks) := by
  obtain ⟨o, es, ep, h1, h2, h3, h4, _, h5⟩ := d
  exact ⟨⟨z, hd, xs, r, o, es, ep, h1, h2, h3, h4, h5⟩, ⟨o, h1⟩, fun h1 h2 ⟨z, hd, xs, r, o, es, ep, g1, g2⟩ st => ⟨z, hd, xs, r, o, es, ep, st _ g1, g2⟩⟩
end
section
variable {X : Cx} {pins : List (Addr × Obj)} {σ : L2.St} {H : Hp} {s : Shared} {pos : Pos}
theorem nd_at {a : Addr} {ks : List NE} (I : Inv X pins σ H s) (e : H a = some (NdO X.prog X.w a ks)) (k : KeysIn X.K H ks) : ks.length ≤ sizeLine ∧ (a == sysModules) = false ∧ ∃ xs, Paired NEr ks xs ∧ s.heap.DictOfH (nestedKind X.prog X.w) a xs :=
  nd_ok (I.hok a _ e) fun p hp => by
    obtain ⟨b, _, e, h⟩ := key_nested I (k p hp) rfl
    cases e
    exact h
/-- {}, to be such a dict -/
def tNd (P : Program) (w : World) : TE := fun _ H Q => ∀ p, H p = none → Q (.ref p) (upd H p (NdO P w p []))
theorem pe_nd : PE X (.Dict [] [] pos) (tNd X.prog X.w) := ⟨fun pins s σ H Q I h =>
  wpAny_Dict_empty ⟨.ref s.heap.objs.size, _, I.laid (a := s.heap.objs.size) (o := NdO X.prog X.w s.heap.objs.size []) (t' := s.toks) (fun _ _ q => Heap.get?_push_of_some _ q) (Nat.le_refl _)
    (nd_mk (Nat.zero_le _) (beq_eq_false_iff_ne.mpr (Ne.symm (Nat.ne_of_lt I.big))) .nil (.new s.heap)), rfl, h _ (I.hok.fresh (Nat.le_refl _))⟩⟩
def rNdNot (P : Program) (w : World) (K : PySem.W.Frag) : R2 := fun y d H Q => ∃ a ks k, d = .ref a ∧ H a = some (NdO P w a ks) ∧ KeysIn K H ks ∧ KeyAt K H y k ∧ Q (.bl (!(fnd ks k).isSome)) H
theorem op_ndNot (hu : X.A.units + 9 < cLine) : OpR X (compareOp .NotIn) (rNdNot X.prog X.w X.K) := by
  intro pins s σ H x y v u Q I rx ry h
  obtain ⟨a, ks, k, rfl, e, hk, hy, q⟩ := h
  obtain ⟨b, rfl, _, hb⟩ := key_nested I hy rx
  obtain rfl : u = Value.ref a := ry
  obtain ⟨_, hd, xs, r, dd⟩ := nd_at I e hk
  have es : (fnd ks k).isSome = (atKey xs (nk k)).isSome := by
    rcases at_fnd r k with ⟨e1, e2⟩ | ⟨n, b', t, e1, e2⟩
    · rw [e1, e2]
      rfl
    · rw [e1, e2]
      rfl
  rw [es] at q
  exact wpAny_notIn_heap (knd := nestedKind X.prog X.w) (by show X.A.in1.units + 8 < cLine; rw [Around.in1_units]; omega) hb hd dd ⟨.bl (!(atKey xs (nk k)).isSome), H, I.tok _, rfl, q⟩
def rNdIx (P : Program) (w : World) (K : PySem.W.Frag) : R2 := fun d y H Q => ∃ a ks k n, d = .ref a ∧ H a = some (NdO P w a ks) ∧ KeysIn K H ks ∧ KeyAt K H y k ∧ fnd ks k = some n ∧ Q (.int n) H
theorem pe_ndIx {o i : Expr} {td ty : TE} (hu : X.A.units + 9 < cLine) (ho : PE X o td) (hi : PE X i ty) (hs : NoSl i) : PE X (.Subscript o i pos) (tOp (rNdIx X.prog X.w X.K) td ty) := by
  refine ⟨fun pins s σ H Q I h => ?_⟩
  refine subD_of PySem.F.slot_dict_getitem.lookup hs (thn (ho.run pins s σ H _ I h) fun u s1 ⟨x, H1, I1, rx, q1⟩ => thn (hi.run pins s1 σ H1 _ I1 q1) fun iv s2 ⟨y, H2, I2, ry, a, ks, k, n, ex, e, hk, hy, hn, q2⟩ => ?_)
  subst ex
  obtain rfl : u = Value.ref a := rx
  obtain ⟨b, rfl, _, hb⟩ := key_nested I2 hy ry
  obtain ⟨_, hd, xs, r, dd⟩ := nd_at I2 e hk
  refine ⟨dd.typeIs, ?_⟩
  rcases at_fnd r k with ⟨e1, _⟩ | ⟨n', b', t, e1, e2⟩
  · rw [hn] at e1
    cases e1
  · rw [hn] at e1
    cases e1
    exact wpAny_getItem_heap (knd := nestedKind X.prog X.w) (by show X.A.in1.units + 8 < cLine; rw [Around.in1_units]; omega) hb dd e2 ⟨.int n, H2, I2.tok _, ⟨t, rfl⟩, q2⟩
def rNdSet (P : Program) (w : World) (K : PySem.W.Frag) : TSet := fun o i v H Q => ∃ a ks k b n, o = .ref a ∧ i = .ref b ∧ v = .int n ∧ H a = some (NdO P w a ks) ∧ KeysIn K H ks ∧ KeyAt K H i k ∧ fnd ks k = none ∧ ks.length < sizeLine ∧ Q (upd H a (NdO P w a (ks ++ [(k, b, n)])))
theorem set_nd (hu : X.A.units + 9 < cLine) : PSet X (rNdSet X.prog X.w X.K) := by
  intro pins s σ H o i v ov iv u Q I ro ri rv h
  obtain ⟨a, ks, k, b, n, rfl, rfl, rfl, e, hk, hy, hn, hl, q⟩ := h
  obtain ⟨b', rfl, e2, hb⟩ := key_nested I hy ri
  cases e2
  obtain rfl : ov = Value.ref a := ro
  obtain ⟨t, rfl⟩ := rv
  obtain ⟨z, hd, xs, r, dd⟩ := nd_at I e hk
  have hz : xs.length ≤ sizeLine := by rw [← Paired.length r]; exact z
  refine wpAny_setItem_heap (hsz := hz) (knd := nestedKind X.prog X.w) (by show X.A.in1.units + 8 < cLine; rw [Around.in1_units]; omega) hb dd fun h' dd' sb => ⟨_, ?_, q⟩
  have e0 : atKey xs (nk k) = none := by
    rcases at_fnd r k with ⟨_, e2⟩ | ⟨n', b', t, e1, _⟩
    · exact e2
    · rw [hn] at e1
      cases e1
  rw [storedH_new e0] at dd'
  obtain ⟨ob, hob⟩ : ∃ ob, h'.get? a = some ob := let ⟨ob, _, _, g, _⟩ := dd'; ⟨ob, g⟩
  exact d_write I (by rw [e]; exact True.intro) sb ⟨ob, hob⟩ (nd_mk (by rw [List.length_append]; show ks.length + 1 ≤ _; omega) hd (Paired.snoc r ⟨rfl, rfl, t, rfl⟩) dd')
end
end Sea

set_option Elab.async false
set_option linter.all false
set_option maxRecDepth 100000
set_option maxHeartbeats 4000000
/-! a method whose first row is super().__init__(e) -/
namespace Sea
open PySem PySem.Spec PyProof.Rows L2 LamX NdefX ClX Evl StX
structure FunC (K : PySem.W.Frag) (x qual : Str) (st : Stmt) (cc cda f : Addr) (fd : FuncData) : Prop where
  ex : ∃ (oc : Value) (od : Option Addr) (kV doc pm : Value) (an : Option Addr) (ct : Value) (osl : Array (Option Value)),
    fd = PySem.W.fnX x qual (defArgs st) (defBody st) (defScope st) [("__class__", cc)] .none kV doc pm an (.ref cda) ct ∧ K.lookup f = some ⟨oc, od, .func fd, osl⟩
  cd : PySem.W.codeIn K (.ref cda) qual = true
  kp : PySem.W.keepIn K (.ref f) = true
/-- what super().m asks of the text, for an instance of D itself -/
structure SupT (P : Program) (K : PySem.W.Frag) (mg : Str → Option Value) (D cc cda f2 : Addr) (m : Str) : Prop where
  code : ∃ (ccl : Value) (cdd : Option Addr) (vs : Array Value) (ccs : Array (Option Value)) (file : Str) (tf : Tok), K.lookup cda = some ⟨ccl, cdd, .fields vs, ccs⟩ ∧ vs[2]? = some (.str file tf) ∧ ((P.main.file : Str) == file) = true
  cell : ∃ (cl : Value) (cld : Option Addr) (csl : Array (Option Value)), K.lookup cc = some ⟨cl, cld, .cell (some (.ref D)), csl⟩
  cls : ∃ cd, PySem.W.clsIn K D = some cd
  sub : PySem.W.mroIn K D (.ref D) = some true
  mS : mg "super" = none
  top : (P.main.scope.names.lookup ("super" : Str)).isSome = false
  opq : PySem.W.nsIn K cStatics "thirdparty.any" = some none
  meth : PySem.W.ks_superIn K D D m = some (some (.ref f2))
  ty : PySem.W.typeIn K (.ref f2) = some (.type "function")
  fi : PySem.W.fnIn K f2 = true
theorem boot_super : bootBuiltins "super" = some (.type "super") := by kernel_rfl
section
variable {P : Program} {w : World} {K : PySem.W.Frag} {mg : Str → Option Value} {base : Heap} {D cc cda f f2 : Addr} {x qual : Str} {st : Stmt} {fd fd2 : FuncData} {N ps ps2 : List Str} {sp sp2 : Sp} {k : Nat}
abbrev supF (x qual : Str) (st : Stmt) (cc cda : Addr) : NF := ⟨x, qual, defArgs st, defBody st, defScope st, [("__class__", cc)], cda⟩
theorem class_cell {H : Hp} {s : Shared} {A : Around} {outer : List Env} (e0 : Env0 P w K mg base A outer s H) (hc : ∃ (cl : Value) (cld : Option Addr) (csl : Array (Option Value)), K.lookup cc = some ⟨cl, cld, .cell (some (.ref D)), csl⟩) :
    CellsAt [("__class__", cc)] ["__class__"] [none] s.heap H := by
  obtain ⟨cl, cld, csl, hc⟩ := hc
  have hb := e0.bs _ _ (e0.mod.kin _ _ hc)
  have only : ∀ (y : Str) (c : Addr), ([("__class__", cc)] : List (Str × Addr)).lookup y = some c → y = "__class__" ∧ c = cc := fun y c e => by
    rw [List.lookup_cons] at e
    split at e
    · rename_i h
      cases e
      exact ⟨by simpa using h, rfl⟩
    · cases e
  refine ⟨rfl, fun y c e => ?_, fun x y c e1 e2 => ?_, fun i y e => ?_⟩
  · obtain ⟨_, rfl⟩ := only y c e
    exact ⟨hb.2, _, _, hb.1, rfl⟩
  · rw [(only x c e1).1, (only y c e2).1]
  · match i, e with
    | 0, e =>
      cases e
      exact ⟨cc, rfl, fun v z => by cases z⟩
/-- the end of the body is the end of the call -/
theorem body_end {F : NF} {A : Around} {outer : List Env} {s s' : Shared} {H : Hp} {E : XK} {Q : VK} {pins : List (Addr × Obj)} : ∀ (fl : Flow), SP (ncx (L2.CX P w) P w K mg base N F f A outer s H E) pins { nx := fun _ H' => Q .non H', rt := Q } fl s' →
    CR (L2.CX P w) outer P w H s Q E (.ok (.ret (match fl with | .ret v => v | _ => .none))) s'
  | .ret _, ⟨v, _, H', J, r, q⟩ => ⟨v, H', J.os, J.bare, J.base, J.hok, r, q⟩
  | .next, ⟨_, H', J, q⟩ => ⟨.non, H', J.os, J.bare, J.base, J.hok, rfl, q⟩
  | .brk, ⟨_, _, _, q⟩ => q.elim
  | .cont, ⟨_, _, _, q⟩ => q.elim
theorem sup_core {e : Expr} {rest : List Stmt} {p0 p1 p2 p3 p4 : Pos} {pl : Sem Bool} (S : NScope N ps ["__class__"] (defScope st)) (SU : SupT P K mg D cc cda f2 "__init__")
    (G : FnR P w K mg base CX0 k f2 sp2)
    (hst : defBody st = .Expr (.Call (.Attribute (.Call (.Name "super" p0) [] [] p1) "__init__" p2) [e] [] p3) p4 :: rest)
    (hself : ∃ ar, ((defArgs st).posonlyargs ++ (defArgs st).args).head? = some ar ∧ N[0]? = some ar.arg ∧ (defScope st).names.lookup ar.arg = some .local)
    (hks : (defScope st).names.lookup ("super" : Str) = some .globalImplicit) (hkc : (defScope st).names.lookup ("__class__" : Str) = some .free)
    (he : ∀ L, eval (.Call (.Attribute (.Call (.Name "super" p0) [] [] p1) "__init__" p2) [e] [] p3) (envF (supF x qual st cc cda) f L) = (do
      let ov ← attributeBase (.Call (.Name "super" p0) [] [] p1) "__init__" (envF (supF x qual st cc cda) f L) (eval (.Call (.Name "super" p0) [] [] p1) (envF (supF x qual st cc cda) f L))
      standAt p2.atName
      let (g, first) ← holding [ov] (getMethod ov "__init__" pl)
      callWith p3 g first (backTo p3 (starEach [e] (envF (supF x qual st cc cda) f L))) []))
    (hi : ∀ L, interactive (envF (supF x qual st cc cda) f L) = false)
    (hs : ∀ L, swapsWith (.Call (.Attribute (.Call (.Name "super" p0) [] [] p1) "__init__" p2) [e] [] p3) none p4.line (envF (supF x qual st cc cda) f L) = pure false)
    (hse : ∀ L, starEach [e] (envF (supF x qual st cc cda) f L) = (false, eval e (envF (supF x qual st cc cda) f L)) :: [])
    {A : Around} {outer : List Env} {s : Shared} {H : Hp} {vs : List V} {us : List Value} {Q : VK} {E : XK} {h₁ : Heap} {od oc kV doc pm : _} {an : Option Addr} {ct : Value} {osl : Array (Option Value)} {tk : Nat}
    (lk : K.lookup f = some ⟨oc, od, .func (PySem.W.fnX x qual (defArgs st) (defBody st) (defScope st) [("__class__", cc)] .none kV doc pm an (.ref cda) ct), osl⟩) (hr : Room (k + 1) A) (e0 : Env0 P w K mg base A outer s H) (r : Vals vs us) (hl : vs.length = ps.length) (hns : h₁.Ns s.heap.objs.size fun y => (ps.zip us).reverse.lookup y) (kp : ∀ b o, s.heap.get? b = some o → h₁.get? b = some o)
    (hbody : ∃ te t, PA (ncx (L2.CX P w) P w K mg base N (supF x qual st cc cda) f A outer s H E) [e] te ∧ PSs (ncx (L2.CX P w) P w K mg base N (supF x qual st cc cda) f A outer s H E) rest t ∧
        ∃ a dx fs, (startF N vs [none])[0]? = some (some (.ref a)) ∧ H a = some (.ins D dx fs) ∧ te (startF N vs [none]) H fun ys H1 => sp2 (.ref a :: ys) H1 (fun _ H2 => t { nx := fun _ H' => Q .non H', rt := Q } (startF N vs [none]) H2) (fun _ _ _ => False)) :
    _root_.PySem.wpAt (model P w) (A.deeper (envF (supF x qual st cc cda) f s.heap.objs.size)) (.func (defBody st) (envF (supF x qual st cc cda) f s.heap.objs.size)) (execs (defBody st) (envF (supF x qual st cc cda) f s.heap.objs.size)) (fun fl s' => CR (L2.CX P w) outer P w H s Q E (.ok (.ret (match fl with | .ret v => v | _ => .none))) s')
      (fun e s' => wpAny (model P w) (A.deeper (envF (supF x qual st cc cda) f s.heap.objs.size)) (leaving (envF (supF x qual st cc cda) f s.heap.objs.size) e) (fun _ s'' => CR (L2.CX P w) outer P w H s Q E (.error e) s'') (fun e' s'' => CR (L2.CX P w) outer P w H s Q E (.error e') s'') s') { s with heap := h₁, toks := tk } := by
  have KX : K.In s.heap := e0.mod.kin.keeps fun b o e => (e0.bs b o e).1
  have C := class_cell e0 SU.cell
  obtain ⟨te, t, hte, ht, a, dx, fs, ha0, hHa, hq⟩ := hbody
  have I : Inv (ncx (L2.CX P w) P w K mg base N (supF x qual st cc cda) f A outer s H E) [] (startF N vs [none]) H { s with heap := h₁, toks := tk } := inv_startN (ws := [none]) S hr.hd e0 hl r C hns kp
  rw [hst]
  obtain ⟨ar, har, hN0, hlo⟩ := hself
  obtain ⟨ccl, cdd, cvs, ccs, file, tf, hcode, hvs, hfile⟩ := SU.code
  obtain ⟨cl, cld, csl, hcell⟩ := SU.cell
  obtain ⟨cdD, hD⟩ := SU.cls
  have X1 : K.In h₁ := KX.keeps kp
  obtain ⟨oD, hD1, hD2⟩ : ∃ oD, h₁.get? D = some oD ∧ oD.data = .cls cdD := by
    unfold PySem.W.clsIn at hD
    split at hD
    · rename_i c d cd' sl ho
      cases hD
      exact ⟨_, X1 _ _ ho, rfl⟩
    · cases hD
  obtain ⟨mA, O, _, _, _, _⟩ := ins_get I.hok hHa
  obtain ⟨od2, J, _⟩ := O.look
  refine ks_wpAt_execs_cons (ks_wpAt_Expr_any (ks_wpAt_MethodCall (pl := pl) ?_ (he _)) (hi _) (hs _))
  refine ks_wpAt_super_base (env := envF (supF x qual st cc cda) f s.heap.objs.size) hks hkc rfl rfl (X1 _ _ lk) rfl har rfl (X1 _ _ hcode) rfl hvs hfile SU.top ?_
  obtain ⟨mb, b1, b2⟩ := I.mod.blt
  refine PySem.W.ks_loadName_global S.kind hks (Calls.loadGlobal_builtin (env := envF (supF x qual st cc cda) f s.heap.objs.size) (I.mod.glob.keeps I.bk) SU.mS (b1.keeps I.bk) ((b2 "super" (by decide)).trans boot_super) ⟨rfl, ?_⟩)
  refine wpAny_loadName_free S.kind hkc rfl ⟨_, X1 _ _ hcell, rfl⟩ ?_
  obtain ⟨m, hm1, hm2⟩ := I.loc
  obtain ⟨u, ru, lu⟩ := hm2 0 ar.arg (.ref a) hN0 ha0 (.inl hlo)
  obtain rfl : u = Value.ref a := ru
  have hma : m ar.arg = some (.ref a) := by
    rcases lu with ⟨_, z⟩ | ⟨z, _⟩
    · exact z
    · have z : (defScope st).names.lookup ar.arg = some .cell ∨ (defScope st).names.lookup ar.arg = some .free := z
      rw [hlo] at z
      rcases z with z | z <;> cases z
  refine wpAny_loadName_local S.kind hlo hm1 hma ?_
  refine ks_wpAny_isType_cls hD1 hD2 ⟨rfl, ?_⟩
  refine ks_wpAny_call_super hD1 hD2 J.at_ J.cls (fun c e => ?_) (PySem.W.looks_mroIn X1 SU.sub) (fun h' eN k => ?_)
  · have := J.no
    unfold PySem.W.notCls at this
    rw [e] at this
    exact Bool.noConfusion this
  have I2 := pin_new (t' := tk) I k (Nat.le_refl _) eN (fun v z => by cases z)
  have X2 : K.In h' := X1.keeps k
  obtain ⟨of, hof, hofc⟩ : ∃ of, h'.get? f2 = some of ∧ of.cls = .type "function" := by
    have ht' : (K.lookup f2).map (·.cls) = some (.type "function") := SU.ty
    cases z : K.lookup f2 with
    | none =>
      rw [z] at ht'
      cases ht'
    | some of =>
      rw [z] at ht'
      exact ⟨of, X2 _ _ z, Option.some.inj ht'⟩
  have hm := SU.meth
  unfold PySem.W.ks_superIn at hm
  rw [hD] at hm
  refine PySem.ks_wpAny_getMethod_super (pin_at I2) (PySem.W.looks_opaque X2 SU.opq) (l₀ := cdD.mro) (fun A Q E s k q => wpAny_bind ((PySem.W.looks_clsIn X2 hD) A _ E s k (wpAny_pure q))) rfl X2 hm hof hofc (PySem.W.ks_ne X1 J hD) rfl ?_
  have I3 := pin_new (t' := tk + 1) (o := PySem.W.methodObj (.ref f2) (.ref a)) I2 (fun b o e => Heap.get?_push_of_some _ e) (Nat.le_refl _) (Heap.get?_push_size _ rfl) (fun v z => by cases z)
  have hargs := hte.run p3 _ _ _ _ _ I3 hq
  have hse' := hse s.heap.objs.size
  have hargs : wpAny (model P w) (A.deeper (envF (supF x qual st cc cda) f s.heap.objs.size)) (spliced (backTo p3 (starEach [e] (envF (supF x qual st cc cda) f s.heap.objs.size)))) _ _ _ := hargs
  show wpAny (model P w) (A.deeper (envF (supF x qual st cc cda) f s.heap.objs.size)) (callWith p3 (.ref h'.objs.size) [] (backTo p3 (starEach [e] (envF (supF x qual st cc cda) f s.heap.objs.size))) []) _ _ _
  rw [hse'] at hargs ⊢
  refine PySem.W.callWith_of (P := PySem.W.MethP K h'.objs.size f2 (.ref a)) rfl (PySem.W.keeps_M SU.fi) (Calls.evalArgs_plain (thn hargs fun us s1 hh => ?_))
  obtain ⟨ys, H1, I4, r4, q4⟩ := hh
  refine ⟨⟨pin_at I4, I4.kIn⟩, wpAny_call (PySem.W.method_call (pin_at I4) ?_)⟩
  have run := run_fnR (us := Value.ref a :: us) (vs := V.ref a :: ys) G (hr.deeper _) pass0 I4 (.cons rfl r4) q4
  refine codeAny_mono run fun r s' hq => ?_
  match r, hq with
  | .error _, hq => exact hq
  | .ok (.ret _), ⟨_, H2, I5, _, q5⟩ => exact PySem.wpAt_of_wpAny (wpAny_mono (ht.run _ _ _ _ _ I5 q5) (fun fl _ hs => body_end fl hs) fun _ _ hs => hs)
theorem fn_sup {e : Expr} {rest : List Stmt} {p0 p1 p2 p3 p4 : Pos} {pl : Sem Bool} (FC : FunC K x qual st cc cda f fd) (S : NScope N ps ["__class__"] (defScope st)) (SU : SupT P K mg D cc cda f2 "__init__")
    (G : FnR P w K mg base CX0 k f2 sp2)
    (hst : defBody st = .Expr (.Call (.Attribute (.Call (.Name "super" p0) [] [] p1) "__init__" p2) [e] [] p3) p4 :: rest)
    (hself : ∃ ar, ((defArgs st).posonlyargs ++ (defArgs st).args).head? = some ar ∧ N[0]? = some ar.arg ∧ (defScope st).names.lookup ar.arg = some .local)
    (hks : (defScope st).names.lookup ("super" : Str) = some .globalImplicit) (hkc : (defScope st).names.lookup ("__class__" : Str) = some .free)
    (len : ∀ vs H Q E, sp vs H Q E → vs.length = ps.length)
    (he : ∀ L, eval (.Call (.Attribute (.Call (.Name "super" p0) [] [] p1) "__init__" p2) [e] [] p3) (envF (supF x qual st cc cda) f L) = (do
      let ov ← attributeBase (.Call (.Name "super" p0) [] [] p1) "__init__" (envF (supF x qual st cc cda) f L) (eval (.Call (.Name "super" p0) [] [] p1) (envF (supF x qual st cc cda) f L))
      standAt p2.atName
      let (g, first) ← holding [ov] (getMethod ov "__init__" pl)
      callWith p3 g first (backTo p3 (starEach [e] (envF (supF x qual st cc cda) f L))) []))
    (hi : ∀ L, interactive (envF (supF x qual st cc cda) f L) = false)
    (hs : ∀ L, swapsWith (.Call (.Attribute (.Call (.Name "super" p0) [] [] p1) "__init__" p2) [e] [] p3) none p4.line (envF (supF x qual st cc cda) f L) = pure false)
    (hse : ∀ L, starEach [e] (envF (supF x qual st cc cda) f L) = (false, eval e (envF (supF x qual st cc cda) f L)) :: [])
    (hbody : ∀ (A : Around) (outer : List Env) (s : Shared) (H : Hp) (vs : List V) (Q : VK) (E : XK), Room k (A.deeper (envF (supF x qual st cc cda) f s.heap.objs.size)) → sp vs H Q E →
      ∃ te t, PA (ncx (L2.CX P w) P w K mg base N (supF x qual st cc cda) f A outer s H E) [e] te ∧ PSs (ncx (L2.CX P w) P w K mg base N (supF x qual st cc cda) f A outer s H E) rest t ∧
        ∃ a dx fs, (startF N vs [none])[0]? = some (some (.ref a)) ∧ H a = some (.ins D dx fs) ∧ te (startF N vs [none]) H fun ys H1 => sp2 (.ref a :: ys) H1 (fun _ H2 => t { nx := fun _ H' => Q .non H', rt := Q } (startF N vs [none]) H2) (fun _ _ _ => False)) :
    FnOk P w K mg base (L2.CX P w) (k + 1) f fd ps sp := by
  obtain ⟨oc, od, kV, doc, pm, an, ct, osl, rfl, lk⟩ := FC.ex
  refine ⟨len, fun A outer s H args us vs Q E hr e0 hb r hsp => ?_⟩
  have KX : K.In s.heap := e0.mod.kin.keeps fun b o e => (e0.bs b o e).1
  have lim : s.heap.NoLimit := e0.mod.nolimit.keeps fun b o e => (e0.bs b o e).1
  exact ks_codeAny_call_defAt (binds := ps.zip us) hr.depth (KX _ _ lk) rfl lim (PySem.W.codeRec_of KX FC.cd) rfl hb S.nocell (fun ⟨n, _⟩ hy => S.par n (List.of_mem_zip hy).1) (fun h₁ hns kp => sup_core S SU G hst hself hks hkc he hi hs hse lk hr e0 r (len _ _ _ _ hsp) hns kp (hbody A outer s H vs Q E (hr.deeper _) hsp)) S.co S.gen S.kind
theorem fn_supS {pv : Str} {e : Expr} {rest : List Stmt} {p0 p1 p2 p3 p4 : Pos} {pl : Sem Bool} (FC : FunC K x qual st cc cda f fd) (S : NScope N (ps ++ [pv]) ["__class__"] (defScope st)) (SU : SupT P K mg D cc cda f2 "__init__")
    (G : FnR P w K mg base CX0 k f2 sp2)
    (hst : defBody st = .Expr (.Call (.Attribute (.Call (.Name "super" p0) [] [] p1) "__init__" p2) [e] [] p3) p4 :: rest)
    (hself : ∃ ar, ((defArgs st).posonlyargs ++ (defArgs st).args).head? = some ar ∧ N[0]? = some ar.arg ∧ (defScope st).names.lookup ar.arg = some .local)
    (hks : (defScope st).names.lookup ("super" : Str) = some .globalImplicit) (hkc : (defScope st).names.lookup ("__class__" : Str) = some .free)
    (hb : ∀ us rest : List Value, us.length = ps.length → bindArgs fd ⟨us ++ rest, []⟩ = (newTuple rest >>= fun t => pure (ps.zip us ++ [(pv, t)])))
    (len : ∀ vs H Q E, sp vs H Q E → vs.length = (ps ++ [pv]).length)
    (he : ∀ L, eval (.Call (.Attribute (.Call (.Name "super" p0) [] [] p1) "__init__" p2) [e] [] p3) (envF (supF x qual st cc cda) f L) = (do
      let ov ← attributeBase (.Call (.Name "super" p0) [] [] p1) "__init__" (envF (supF x qual st cc cda) f L) (eval (.Call (.Name "super" p0) [] [] p1) (envF (supF x qual st cc cda) f L))
      standAt p2.atName
      let (g, first) ← holding [ov] (getMethod ov "__init__" pl)
      callWith p3 g first (backTo p3 (starEach [e] (envF (supF x qual st cc cda) f L))) []))
    (hi : ∀ L, interactive (envF (supF x qual st cc cda) f L) = false)
    (hs : ∀ L, swapsWith (.Call (.Attribute (.Call (.Name "super" p0) [] [] p1) "__init__" p2) [e] [] p3) none p4.line (envF (supF x qual st cc cda) f L) = pure false)
    (hse : ∀ L, starEach [e] (envF (supF x qual st cc cda) f L) = (false, eval e (envF (supF x qual st cc cda) f L)) :: [])
    (hbody : ∀ (A : Around) (outer : List Env) (s : Shared) (H : Hp) (vs : List V) (Q : VK) (E : XK), Room k (A.deeper (envF (supF x qual st cc cda) f s.heap.objs.size)) → sp vs H Q E →
      ∃ te t, PA (ncx (L2.CX P w) P w K mg base N (supF x qual st cc cda) f A outer s H E) [e] te ∧ PSs (ncx (L2.CX P w) P w K mg base N (supF x qual st cc cda) f A outer s H E) rest t ∧
        ∃ a dx fs, (startF N vs [none])[0]? = some (some (.ref a)) ∧ H a = some (.ins D dx fs) ∧ te (startF N vs [none]) H fun ys H1 => sp2 (.ref a :: ys) H1 (fun _ H2 => t { nx := fun _ H' => Q .non H', rt := Q } (startF N vs [none]) H2) (fun _ _ _ => False)) :
    FnR P w K mg base (L2.CX P w) (k + 1) f (fun vs H Q E => ∃ ws rest, vs = ws ++ rest ∧ ws.length = ps.length ∧ rest.length ≤ sizeLine ∧ ∀ p, H p = Option.none → sp (ws ++ [V.ref p]) (upd H p (.tup rest)) Q E) := by
  obtain ⟨oc, od, kV, doc, pm, an, ct, osl, rfl, lk⟩ := FC.ex
  intro A outer s H us vs Q E hr e0 r hsp
  obtain ⟨ws, rest', ev, hl, hz, hq⟩ := hsp
  subst ev
  obtain ⟨u1, u2, eu, r1, r2⟩ := vals_split r
  subst eu
  have KX : K.In s.heap := e0.mod.kin.keeps fun b o e => (e0.bs b o e).1
  have hn : H s.heap.objs.size = Option.none := e0.hok.fresh (Nat.le_refl _)
  have hl1 : u1.length = ps.length := by rw [← r1.length]; exact hl
  have hl2 : u2.length ≤ sizeLine := by rw [← r2.length]; exact hz
  have new : ObjOk P w (upd H s.heap.objs.size (.tup rest')) (s.heap.push ({ cls := .type "tuple", data := .seq u2.toArray } : Obj)) s.heap.objs.size (.tup rest') := ⟨hz, u2, r2, ⟨_, Heap.get?_push_size _ rfl, rfl, _, rfl⟩⟩
  have un := un_laid (fs := frs outer) (s := s) (o := ({ cls := .type "tuple", data := .seq u2.toArray } : Obj)) (u := .tup rest') hn
  have e2 := env0_laid e0 new
  have lim2 : (s.heap.push ({ cls := .type "tuple", data := .seq u2.toArray } : Obj)).NoLimit := e0.mod.nolimit.keeps fun b o e => (e2.bs b o e).1
  have hsp := hq _ hn
  refine codeAny_call_function hr.depth (KX _ _ lk) rfl S.co S.gen rfl (PySem.W.codeRec_of KX FC.cd) ?_
  rw [hb u1 u2 hl1]
  refine wpAny_bind (wpAny_newTuple (wpAny_pure ?_) hl2)
  have r3 : Vals (ws ++ [V.ref s.heap.objs.size]) (u1 ++ [Value.ref s.heap.objs.size]) := r1.append (.cons rfl .nil)
  have zz : ps.zip u1 ++ [(pv, Value.ref s.heap.objs.size)] = (ps ++ [pv]).zip (u1 ++ [Value.ref s.heap.objs.size]) := by
    rw [List.zip_append hl1.symm]
    rfl
  rw [zz]
  refine wpAny_newFunctionEnv S.nocell (fun ⟨n, _⟩ hy => S.par n (List.of_mem_zip hy).1) (fun h₀ hns₀ hsb₀ => ⟨lim2.fresh _ hsb₀, ?_⟩) S.kind
  refine codeAny_mono (ks_codeAny_funcAt (R := CR (L2.CX P w) outer P w (upd H s.heap.objs.size (.tup rest')) { s with heap := s.heap.push ({ cls := .type "tuple", data := .seq u2.toArray } : Obj) } Q E) (sup_core S SU G hst hself hks hkc he hi hs hse lk hr e2 r3 (len _ _ _ _ hsp) hns₀ (fun b o e => hsb₀.extBut b o (Nat.ne_of_lt (Heap.lt_size e)) (Heap.get?_push_of_some _ e)) (hbody A outer _ _ _ Q E (hr.deeper _) hsp))) fun res s' h => ?_
  match res, h with
  | .error e, h => exact cxUp outer s H { s with heap := s.heap.push ({ cls := .type "tuple", data := .seq u2.toArray } : Obj) } _ E e s' un (fun b o q => Heap.get?_push_of_some _ q) rfl h
  | .ok (.ret u), ⟨v', H', a1, a2, a3, a4, a5, a6⟩ => exact ⟨v', H', a1, a2, un.trans a3, a4, a5, a6⟩
end
end Sea

set_option Elab.async false
set_option linter.all false
set_option maxRecDepth 100000
set_option maxHeartbeats 4000000
/-! set(list of ints), sorted(tuple of ints), t[::-1] -/
namespace Sea
open PySem PySem.Spec PyProof.Rows L2
section
variable {P : Program} {w : World} {A : Around} {E : Value → Shared → Prop} {s : Shared}
/-- a set just made -/
abbrev bareSet (w : World) : Obj := { cls := .type "set", dict := none, data := .set #[] 0 (.fresh 0 0 (!w.params.followText "set-order")) }
/-- the set made is filled from a walk over ints: set.__init__ at the list l -/
theorem fill_list {l : Addr} {items : Array Value} (ns : List Int) {R : Result → Shared → Prop} (hh : A.handled = none) (hl : s.heap.IsList l items) (hi : IntsAre items.toList ns) (few : ns.length + 1 < scanBound)
    (h : ∀ (h' : Heap) (tk c : Nat), SetR w h' s.heap.objs.size (fun j => decide (j ∈ ns)) c → c ≤ ns.length → (∀ b o, s.heap.get? b = some o → h'.get? b = some o) → R (.ok (.ret .none)) { s with heap := h', toks := tk }) :
    codeAny (model P w) A (.call (.builtin "set.__init__") ⟨[.ref s.heap.objs.size, .ref l], []⟩) R { s with heap := s.heap.push (bareSet w) } := by
  have many : items.size = ns.length := by rw [← Array.length_toList]; exact IntsAre.length hi
  have made : (s.heap.push (bareSet w)).get? s.heap.objs.size = some (bareSet w) := Heap.get?_push_size _ rfl
  have still : (s.heap.push (bareSet w)).IsList l items := hl.push _
  have below : l < s.heap.objs.size := hl.choose_spec.1 |> Heap.lt_size
  have grown : (s.heap.push (bareSet w)).objs.size = s.heap.objs.size + 1 := Heap.size_push ..
  obtain ⟨⟨ocls, odict, odata, oslots⟩, at_, oc, nl, od⟩ := id still
  obtain rfl : ocls = _ := oc
  obtain rfl : odata = _ := od
  have notSet := F.sub_list_set
  have notFrozen := F.sub_list_frozenset
  have notDict : (Value.type "list" == Value.type "dict") = false := by decide
  refine codeAny_call_builtin F.called_set.init.plain F.entry_set_init (check_set_init_1 ⟨_, made, rfl⟩ ?_)
  unfold Builtin.«set.__init__» noKeywords Builtin.Frozenset.updateFrom
  generalize hPI : pyIter = PI
  wp_walk
  subst hPI
  refine wpAny_pyIter_list still (wpAny_bind (wpAny_runValue ?_))
  have item : ∀ (i : Nat) (v : Value), items[i]? = some v → ∃ k t, ns[i]? = some k ∧ v = .int k t := by
    intro i v hv
    obtain ⟨t, e⟩ := IntsAre.int_at hi i v (by rwa [Array.getElem?_toList])
    have lt : i < ns.length := many ▸ (Array.getElem?_eq_some_iff.mp hv).1
    exact ⟨ns[i], t, List.getElem?_eq_getElem lt, by rw [e, List.getD_eq_getElem?_getD, List.getElem?_eq_getElem lt]; rfl⟩
  have walk := Walks.list (prog := P) (w := w) (A := A.in1.in1) (by exact hh) (s.heap.push (bareSet w)).objs.size l (by rw [grown]; exact Nat.ne_of_lt (Nat.lt_succ_of_lt below)) items
  refine set_update_ints walk.toS s.heap.objs.size ?_ ns many few item (items.size - 0) 0 _ rfl (Nat.zero_le _) ⟨⟨_, Heap.get?_push_size _ rfl, rfl, rfl⟩, still.push _⟩ ⟨0, Nat.le_refl 0, setR_new_at (Heap.get?_push_of_some _ made)⟩ ?_
  · simp only [grown, List.mem_cons, List.not_mem_nil, or_false, not_or]
    exact ⟨Nat.ne_of_lt (Nat.lt_succ_self _), Nat.ne_of_gt below⟩
  · rintro ⟨h', g2, d', tk', os'⟩ c moved le full
    obtain rfl : g2 = s.gens := moved.gens
    obtain rfl : d' = s.drawn := moved.drawn
    obtain rfl : os' = s.os := moved.os
    refine wpAny_pure (wpAny_pure (h h' tk' c full (many ▸ le) fun b o e => moved.heap b o ?_ (Heap.get?_push_of_some _ (Heap.get?_push_of_some _ e))))
    have old := Heap.lt_size e
    simp only [grown, List.mem_cons, List.not_mem_nil, or_false, not_or]
    exact ⟨Nat.ne_of_lt old, Nat.ne_of_lt (Nat.lt_succ_of_lt old)⟩
/-- set(l), l a list of ints -/
theorem set_listR {l : Addr} {items : Array Value} (ns : List Int) {Q : Value → Shared → Prop} (hh : A.handled = none) (hl : s.heap.IsList l items) (hi : IntsAre items.toList ns) (few : ns.length + 1 < scanBound)
    (h : ∀ (h' : Heap) (tk c : Nat), SetR w h' s.heap.objs.size (fun j => decide (j ∈ ns)) c → c ≤ ns.length → (∀ b o, s.heap.get? b = some o → h'.get? b = some o) → Q (.ref s.heap.objs.size) { s with heap := h', toks := tk }) :
    wpAny (model P w) A (call (.type "set") [.ref l]) Q E s := by
  have ⟨c, tl, hmro⟩ := F.called_set.mro
  have hmade := F.called_set.made
  have hsub := F.called_set.sub
  have h1 := F.called_set.notType
  have h2 := F.called_set.canCreate
  have hct := F.typeCall_set_1 (.ref l)
  have isSet : Shared.TypeIs { s with heap := s.heap.push (bareSet w) } (.ref s.heap.objs.size) "set" := ⟨_, Heap.get?_push_size _ rfl, rfl⟩
  have find := F.called_set.init.lookup
  have bind := F.called_set.init.bind (.ref s.heap.objs.size)
  apply wpAny_call
  apply codeAny_of_tree
  show wpAny _ _ (callAny (.type "set") _) _ _ _
  apply wpAny_pure
  refine ⟨Code.quiet_builtin _ (by decide +kernel), codeAny_builtin F.entry_type_call ?_⟩
  rw [Around.under_plain (weight_type_call_type "set" [.ref l] []) rfl]
  repeat (any_goals (first | assumption | wp_step))
  refine codeAny_mono (code_set_led1 (.ref l) (E := E) (Q₁ := fun obj s1 => obj = .ref s.heap.objs.size ∧ s1 = { s with heap := s.heap.push (bareSet w) }) ⟨rfl, rfl⟩) ?_
  intro r s1 z
  match r, z with
  | .error _, z => exact z
  | .ok .next, z => exact z.elim
  | .ok .brk, z => exact z.elim
  | .ok .cont, z => exact z.elim
  | .ok (.ret obj), ⟨e1, e2⟩ =>
    subst e1 e2
    repeat (any_goals (first | assumption | wp_step))
    refine codeAny_mono (fill_list (R := wants (fun r s2 => r = .none ∧ Q (.ref s.heap.objs.size) s2) E) ns hh hl hi few fun h' tk c full le old => ⟨rfl, h h' tk c full le old⟩) ?_
    intro r s2 z
    match r, z with
    | .error _, z => exact z
    | .ok .next, z => exact z.elim
    | .ok .brk, z => exact z.elim
    | .ok .cont, z => exact z.elim
    | .ok (.ret _), ⟨e, z⟩ =>
      subst e
      repeat (any_goals (first | assumption | wp_step))
end
end Sea

set_option Elab.async false
set_option linter.all false
set_option maxRecDepth 100000
set_option maxHeartbeats 4000000
/-! set(list of ints), sorted(tuple of ints), t[::-1] -/
namespace Sea
open PySem PySem.Spec PyProof.Rows L2
/-- sorted(t), t a tuple of ints -/
theorem sorted_tuple {P : Program} {w : World} {A : Around} {E : Value → Shared → Prop} {s : Shared} {t : Addr} {vs : List Value} (ns : List Int) {Q : Value → Shared → Prop} (ht : IsTup s.heap t vs.toArray) (hi : IntsAre vs ns) (few : vs.length ≤ 1000)
    (h : ∀ (h1 h' : Heap) (out : Array Value) (c : Nat) (ns' : List Int), (∀ b o, s.heap.get? b = some o → h1.get? b = some o) → (∀ b o, h1.get? b = some o → h'.get? b = some o) → h'.get? h1.objs.size = some (seqObj "list" out c) → IntsAre out.toList ns' → ns'.Perm ns → ns'.Pairwise (· ≤ ·) → Q (.ref h1.objs.size) { s with heap := h' }) :
    wpAny (model P w) A (call (.builtin "sorted") [.ref t]) Q E s := by
  have line : vs.length ≤ sizeLine := by rw [sizeLine_eq]; omega
  obtain ⟨o, at_, oc, n, od⟩ := id ht
  apply Calls.call_function_entry kind_sorted plain_sorted entry_sorted (args_sorted1 _)
  unfold Builtin.«sorted»
  refine wpAny_bind (m := checkCount "sorted" 1 1 _) (wpAny_pure (wpAny_bind (wpAny_collect_seq t (.inr rfl) at_ oc od (fun h1 old => ?_) (by rwa [List.size_toArray]))))
  rw [List.toList_toArray]
  refine wpAny_bind (wpAny_newList ?_ line)
  have made : (h1.push (seqObj "list" vs.toArray 0)).get? h1.objs.size = some (seqObj "list" vs.toArray 0) := Heap.get?_push_size _ rfl
  refine wpAny_bind (wpAny_holding (wpAny_call_entry slot_list_sort ⟨_, made, rfl⟩ entry_list_sort (list_sort_treeAny made hi line fun out ns' a b c => ⟨_, rfl, ?_⟩) (args_list_sort _)))
  obtain ⟨c', there⟩ := sortedHeap_at (vs := vs) (out := out) made
  refine wpAny_pure ⟨_, rfl, h h1 _ out c' ns' old (fun b o e => ?_) there a b c⟩
  have lt := Heap.lt_size e
  exact (sortedHeap_old (Nat.ne_of_lt lt) (by rw [size_push']; exact Nat.lt_succ_of_lt lt)).trans (Heap.get?_push_of_some _ e)
section
variable {X : Cx}
def rSortedT (K : PySem.W.Frag) : List V → Hp → VK → Prop := fun vs H Q => ∃ (a : Addr) (ns : List Int), vs = [.ref a] ∧ SqT K H a (ns.map V.int) ∧ ns.length ≤ 1000 ∧ ∀ (ns' : List Int) (p : Addr), ns'.Perm ns → ns'.Pairwise (· ≤ ·) → H p = none → Q (.ref p) (upd H p (.lst (ns'.map V.int)))
theorem cr_sortedT : CallR X (.builtin "sorted") (rSortedT X.K) := by
  rintro pins s σ H _ us Q I r ⟨a, ns, rfl, ht, few, q⟩
  obtain ⟨its, rv, pt, _⟩ := I.tuple ht
  rw [Vals.ref1 r]
  have many : its.length = ns.length := by rw [← rv.length, List.length_map]
  refine sorted_tuple ns pt rv.ints (by omega) ?_
  intro h1 h' out c ns' old new there whole perm rising
  have J : Inv X pins σ H { s with heap := h1, toks := s.toks } := I.kept (t' := s.toks) old
  have fits : (ns'.map V.int).length ≤ sizeLine := by rw [List.length_map, perm.length_eq, sizeLine_eq]; omega
  exact ⟨.ref h1.objs.size, _, J.laid (t' := s.toks) (o := .lst (ns'.map V.int)) new (Nat.le_refl _) ⟨fits, out.toList, c, vals_of_ints whole, there⟩, rfl, q ns' _ perm rising (J.hok.fresh (Nat.le_refl _))⟩
def rSetL (K : PySem.W.Frag) (w : World) : List V → Hp → VK → Prop := fun xs H Q => ∃ (p : Addr) (ns : List Int), xs = [.ref p] ∧ SqL K H p (ns.map V.int) ∧ ns.length ≤ 1000 ∧ ∀ (a : Addr) (c : Nat), H a = none → c ≤ ns.length → Q (.ref a) (upd H a (SetO w a (fun j => decide (j ∈ ns)) c))
theorem cr_setL (calm : X.calm = true) : CallR X (.type "set") (rSetL X.K X.w) := by
  rintro pins s σ H _ us Q I r ⟨p, ns, rfl, hl, few, q⟩
  obtain ⟨its, rv, there, _⟩ := I.list hl
  rw [Vals.ref1 r]
  refine set_listR (items := its.toArray) ns (I.ok.hd calm) there.isList (by simpa using rv.ints) (by unfold scanBound; omega) ?_
  intro h' tk c full le old
  exact ⟨.ref s.heap.objs.size, _, I.laid (t' := tk) (a := s.heap.objs.size) old (Nat.le_refl _) (setO_new full), rfl, q _ c (I.hok.fresh (Nat.le_refl _)) le⟩
/-! ### t[::-1] -/
theorem back_pick (xs : Array Value) : ((List.range xs.size).filterMap fun (k : Nat) => xs[(((xs.size : Int) - 1) + (k : Int) * (-1)).toNat]?) = xs.toList.reverse := by
  have each : ∀ k ∈ List.range xs.size, xs[(((xs.size : Int) - 1) + (k : Int) * (-1)).toNat]? = some (xs.toList.reverse.getD k .none) := by
    intro k hk
    have lt : k < xs.size := List.mem_range.mp hk
    have e : (((xs.size : Int) - 1) + (k : Int) * (-1)).toNat = xs.size - 1 - k := by omega
    rw [e, List.getD_eq_getElem?_getD, List.getElem?_reverse (by simpa using lt)]
    simp only [Array.length_toList, Array.getElem?_toList]
    rw [Array.getElem?_eq_getElem (by omega)]
    rfl
  have go : ∀ (l : List Nat) (f : Nat → Option Value) (g : Nat → Value), (∀ k ∈ l, f k = some (g k)) → l.filterMap f = l.map g := by
    intro l f g
    induction l with
    | nil => exact fun _ => rfl
    | cons k l ih =>
      intro hk
      rw [List.filterMap_cons, hk k List.mem_cons_self, List.map_cons, ih fun j hj => hk j (List.mem_cons_of_mem _ hj)]
  rw [go _ _ _ each]
  refine List.ext_getElem (by simp) fun i h1 h2 => ?_
  rw [List.getElem_map, List.getElem_range, List.getD_eq_getElem?_getD, List.getElem?_eq_getElem h2]
  rfl
theorem getItem_back {P : Program} {w : World} {A : Around} {E : Value → Shared → Prop} {s : Shared} {t sl : Addr} {items : Array Value} {u : Tok} {Q : Value → Shared → Prop} (ht : IsTup s.heap t items) (hs : s.heap.IsSliceOf sl .none .none (.int (-1) u)) (fits : items.size ≤ sizeLine)
    (h : Q (.ref s.heap.objs.size) { s with heap := s.heap.push { cls := .type "tuple", data := .seq items.toList.reverse.toArray } }) : wpAny (model P w) A (getItem (.ref t) (.ref sl)) Q E s := by
  have ⟨os, at_, oc, od⟩ := hs
  have isSl : s.TypeIs (.ref sl) "slice" := ⟨os, at_, oc⟩
  unfold getItem
  refine wpAny_holding (wpAny_bind (wpAny_sequenceKey ht.typeIs (by decide) ?_))
  refine wpAny_bind (wpAny_callSpecial?_slot (name := Str.ofString "__getitem__") ht.typeIs slot_tuple_getitem (wpAny_call_entry slot_tuple_getitem ht.typeIs PyProof.Rows.entry_tuple_getitem ?_ (PyProof.Rows.args_tuple_getitem _ _)))
  show wpAny _ _ (Builtin.Tuple.tupleItemsOf (.ref t) >>= _) _ _ s
  refine wpAny_bind (tupleItemsOf_ ht (wpAny_bind (wpAny_typeOf isSl ?_)))
  rw [if_pos (by decide)]
  have part : ∀ {A : Around} {E : Value → Shared → Prop} {Q : Option Int → Shared → Prop}, Q (some (-1)) s → wpAny (model P w) A (Builtin.Slice.slicePartIndex (.int (-1) u)) Q E s := fun q => slicePart_int q
  unfold Builtin.Slice.sliceApplied Builtin.Slice.sliceFields
  refine wpAny_bind (wpAny_bind (wpAny_bind (wpAny_field at_ od (x := .none) rfl (wpAny_bind (wpAny_field at_ od (x := .none) rfl (wpAny_bind (wpAny_field at_ od (x := .int (-1) u) rfl (wpAny_pure ?_))))))))
  refine wpAny_bind (part (show wpAny _ _ (if ((-1 : Int) == 0) = true then _ else _) _ _ s from ?_))
  rw [if_neg (by decide)]
  have nope : ∀ {A : Around} {E : Value → Shared → Prop} {Q : Option Int → Shared → Prop}, Q none s → wpAny (model P w) A (Builtin.Slice.slicePartIndex .none) Q E s := fun q => slicePart_none q
  have places : Builtin.Slice.slicePlaces ((items.size : Int) - 1) (-1) (-1) = items.size := by
    unfold Builtin.Slice.slicePlaces
    rw [if_neg (by decide)]
    rw [show (-(-1) : Int) = 1 by decide, Int.ediv_one]
    split <;> omega
  refine wpAny_bind (nope (wpAny_bind (nope (wpAny_bind (wpAny_pure ?_)))))
  show wpAny _ _ (pure (((items.size : Int) - 1), (-1 : Int), Builtin.Slice.slicePlaces ((items.size : Int) - 1) (-1) (-1))) _ _ s
  rw [places]
  refine wpAny_pure ?_
  have notAll : ¬ (((((items.size : Int) - 1) == 0) && ((-1 : Int) == 1) && (items.size == items.size)) = true) := by simp
  dsimp only
  rw [if_neg notAll, back_pick]
  have size : items.toList.reverse.toArray.size ≤ sizeLine := by simpa using fits
  exact wpAny_bind (m := Builtin.Tuple.tupleExact _) (wpAny_newObj_type (wpAny_pure ⟨_, rfl, wpAny_pure h⟩) size)
/-- t[::-1] -/
def tRevT (K : PySem.W.Frag) (te : TE) : TE := fun σ H Q => te σ H fun x H1 => ∃ a xs, x = .ref a ∧ SqT K H1 a xs ∧ ∀ p, H1 p = none → Q (.ref p) (upd H1 p (.tup xs.reverse))
theorem pe_revT {e : Expr} {te : TE} {k : Nat} {p1 p2 p3 pos : Pos} (he : PE X e te) : PE X (.Subscript e (.Slice none none (some (.UnaryOp .USub (.Constant (.int 1) k p1) p2)) p3) pos) (tRevT X.K te) := by
  constructor
  intro pins s σ H Q I h
  have step : PO X (some (.UnaryOp .USub (.Constant (.int 1) k p1) p2)) (tPart (tUn (rU fun i => .int (-i)) (tC (.int 1)))) := po_some (pe_un un_neg pe_int)
  refine Subscript_ (thn (he.run pins s σ H _ I h) ?_)
  rintro v s1 ⟨x, H1, I1, r1, a, xs, rfl, hx, q⟩
  obtain rfl : v = .ref a := r1
  apply wpAny_Slice
  refine thn (po_none.run pins s1 σ H1 (fun o H2 => (o, H2) = (none, H1)) I1 rfl) ?_
  rintro vl s2 ⟨_, _, I2, pl, e⟩
  cases e
  refine thn (po_none.run pins s2 σ H1 (fun o H2 => (o, H2) = (none, H1)) I2 rfl) ?_
  rintro vu s3 ⟨_, _, I3, pu, e⟩
  cases e
  refine thn (step.run pins s3 σ H1 (fun o H2 => (o, H2) = (some (-1), H1)) I3 ⟨1, rfl, -1, rfl, rfl⟩) ?_
  rintro vs s4 ⟨_, _, I4, ps, e⟩
  cases e
  cases pl
  cases pu
  cases ps
  rename_i u
  have I5 : Inv X pins σ H1 { s4 with heap := s4.heap.push { cls := .type "slice", data := .fields #[.none, .none, .int (-1) u] } } := I4.kept (t' := s4.toks) fun _ _ z => Heap.get?_push_of_some _ z
  obtain ⟨its, r, ht, hz⟩ := I5.tuple hx
  have many : its.toArray.size ≤ sizeLine := by rw [List.size_toArray, ← r.length]; exact hz
  refine tail_any (ops := [.ref a, .ref s4.heap.objs.size]) ht.typeIs slot_tuple_getitem.lookup ?_ (by with_unfolding_all rfl)
  refine getItem_back ht (Heap.IsSliceOf.new _ _ _ _) many ?_
  exact ⟨.ref _, _, I5.laid (t' := s4.toks) (o := .tup xs.reverse) (fun _ _ z => Heap.get?_push_of_some _ z) (Nat.le_refl _) ⟨by rw [List.length_reverse]; exact hz, _, r.reverse, (show IsTup _ _ _ from ⟨_, Heap.get?_push_size _ rfl, rfl, 0, rfl⟩)⟩, rfl, q _ (I5.hok.fresh (Nat.le_refl _))⟩
end
end Sea

set_option Elab.async false
set_option linter.all false
set_option maxRecDepth 100000
set_option maxHeartbeats 4000000
/-! generators: if and for within the body -/
namespace Sea
open PySem PySem.Spec PyProof.Rows L2
section
variable {X : Cx} {pos : Pos}
/-- if c: a else: b, either may hand out -/
def tGIf (c : TT) (t u : TGn) : TGn := fun D ys σ H => c σ H fun b H1 => match b with
  | true => t D ys σ H1
  | false => u D ys σ H1
theorem gs_if {c : Expr} {a b : List Stmt} {tc : TT} {t u : TGn} (hc : PT X c tc) (ha : GSs X a t) (hb : GSs X b u) : GS X (.If c a b pos) (tGIf tc t u) := by
  constructor
  intro A S ip R n ys s0 code fs K J gd lv s σ H D g hn k ⟨acc, cc, r, I⟩ ht
  rw [exec_If]
  apply seg_bind_wrap
  apply wpAny_standAt
  apply seg_bind_wrap
  rw [g.over]
  refine wpAny_mono (hc.run _ s σ H _ I ht) ?_ fun x s1 hx => k.exc n s0 x s1 hx
  rintro b s1 ⟨H1, I1, q⟩
  match b, q with
  | true, q => exact ha.run A S ip R n ys s0 code fs K J gd lv s1 σ H1 D g hn k ⟨acc, cc, r, I1⟩ q
  | false, q => exact hb.run A S ip R n ys s0 code fs K J gd lv s1 σ H1 D g hn k ⟨acc, cc, r, I1⟩ q
/-- for x in e: body, the body may hand out -/
def tGFor (wi : TI) (g : TG) (tb : TGn) : TGn := fun D ys σ H => wi σ H fun J H1 => ∃ W : Nat → Nat → List V → L2.St → Hp → Prop, (∃ m, W 0 m ys σ H1) ∧ ∀ i m ys σ H, W i m ys σ H →
  (J.stop i H ∧ D.nx ys σ H) ∨ (J.go i H ∧ ∃ N : List V → L2.St → Hp → Prop, (∀ ys σ H, N ys σ H → ∃ m', m' < m ∧ W (i + 1) m' ys σ H) ∧ ∀ x H1, J.yld i H x H1 → g x σ H1 fun σ2 H2 => tb { D with nx := N, ct := N, bk := D.nx } ys σ2 H2)
/-- the iterator of such a loop: its objects stand apart from the consumer's list and are the heap's alone -/
structure Own (X : Cx) (S : Addr) (ip : List (Addr × Obj)) (fp : List Addr) : Prop where
  no : ∀ b ∈ fp, b ≠ S
  fp : ∀ b ∈ fp, b ≠ X.env.locals ∧ b ∉ X.fs ∧ (b ∈ X.ex ∨ X.s_0.heap.objs.size ≤ b) ∧ (∀ x c, X.env.cells.lookup x = some c → c ≠ b) ∧ ∀ p ∈ X.pn ++ ip, p.1 ≠ b
theorem Own.at {S : Addr} {ip : List (Addr × Obj)} {fp : List Addr} (o : Own X S ip fp) {H : Hp} (hn : ∀ b ∈ fp, H b = none) (oS : Obj) : ∀ b ∈ fp, FpOk X ((S, oS) :: ip) H b := by
  intro b hb
  obtain ⟨a1, a2, a3, a4, a5⟩ := o.fp b hb
  refine ⟨hn b hb, a1, a2, a3, a4, fun p hp => ?_⟩
  rcases List.mem_append.mp hp with z | z
  · exact a5 p (List.mem_append_left _ z)
  · rcases List.mem_cons.mp z with z | z
    · rw [z]
      exact (o.no b hb).symm
    · exact a5 p (List.mem_append_right _ z)
theorem Own.of {S : Addr} {oS : Obj} {ip : List (Addr × Obj)} {fp : List Addr} {H : Hp} (h : ∀ b ∈ fp, FpOk X ((S, oS) :: ip) H b) : Own X S ip fp where
  no b hb := ((h b hb).2.2.2.2.2 (S, oS) (List.mem_append_right _ List.mem_cons_self)).symm
  fp b hb := by
    obtain ⟨_, a1, a2, a3, a4, a5⟩ := h b hb
    refine ⟨a1, a2, a3, a4, fun p hp => a5 p ?_⟩
    rcases List.mem_append.mp hp with z | z
    · exact List.mem_append_left _ z
    · exact List.mem_append_right _ (List.mem_cons_of_mem _ z)
theorem gs_for {tg iter : Expr} {body : List Stmt} {wi : TI} {gt : TG} {tb : TGn} (hp : PassesOwn (model X.prog X.w) X.A X.env X.xe) (calm : X.calm = true) (hi : PI X tg iter wi) (hg : PG X tg gt) (hb : GSs X body tb)
    (hs : ∀ x, foldedSetIterable iter X.env x = pure x := by intro _; rfl) : GS X (.For tg iter body [] pos) (tGFor wi gt tb) := by
  constructor
  intro A S ip R n ys s0 code fs K J gd lv s σ H D g hn k ⟨acc, cc, r, I⟩ ht
  rw [exec_For]
  apply seg_bind_wrap
  apply wpAny_standAt
  apply seg_bind_wrap
  rw [g.over]
  refine wpAny_mono (hi.run _ s σ H _ I ht) ?_ fun x s1 hx => k.exc n s0 x s1 hx
  intro v s1 made
  apply seg_bind_wrap
  rw [hs v]
  apply wpAny_pure
  apply seg_bind_wrap
  apply wpAny_standAt
  apply seg_bind_wrap
  rw [g.over]
  apply wpAny_holding
  refine wpAny_mono made ?_ fun x s2 hx => k.exc n s0 x s2 hx
  rintro _ s2 ⟨it, fp, tn, Jt, H2, rfl, I2, T, st2, f2, W, ⟨m0, w0⟩, turn⟩
  have own := Own.of f2
  apply seg_call
  intro p
  have leave : ∀ (n : Nat) (s0 : Shared) (x : Value) (s : Shared), X.xe x s → Seg (model X.prog X.w) A R (GY X S) n s0 (.forLoop tg (.ref it) body [] X.env) ((do noteFrame x X.env; theTreesLotGoes x : Sem Unit).wrap (fun _ => .raise x) .raise id id)
      (.ret (fun r => ((match r with | .ok f => (.pure f : Sem Flow) | .error e => .raise e).onRaise (cameBack X.env)).wrap K J gd lv) none (gd false) (lv []) code p [] :: fs) s := by
    intro n s0 x s hx
    have gl := gc_loop (k := fun r => ((match r with | .ok f => (.pure f : Sem Flow) | .error e => .raise e).onRaise (cameBack X.env)).wrap K J gd lv) (c' := .forLoop tg (.ref it) body [] X.env) (l := lv []) (kp := []) (p := p) g rfl rfl
    apply seg_wrap
    rw [gl.over]
    apply wpAny_bind
    refine wpAny_mono (hp x s hx) (fun _ s1 back => wpAny_theTreesLotGoes ?_) fun y s1 back => ?_
    · exact seg_leaf (.error x) (seg_cameBack g k back)
    · exact seg_leaf (.error y) (seg_cameBack g k back)
  have gl := gc_loop (k := fun r => ((match r with | .ok f => (.pure f : Sem Flow) | .error e => .raise e).onRaise (cameBack X.env)).wrap K J gd lv) (c' := .forLoop tg (.ref it) body [] X.env) (l := lv []) (kp := []) (p := p) g rfl rfl
  have loop : ∀ (m n i : Nat) (ys : List V) (s0 s : Shared) (σ : L2.St) (H : Hp), n + ys.length = sizeLine → tn i s.heap → (∀ b ∈ fp, H b = none) → W i m ys σ H → GI X S ip ys σ H s →
      Seg (model X.prog X.w) A R (GY X S) n s0 (.forLoop tg (.ref it) body [] X.env) ((model X.prog X.w).den (.forLoop tg (.ref it) body [] X.env))
        (.ret (fun r => ((match r with | .ok f => (.pure f : Sem Flow) | .error e => .raise e).onRaise (cameBack X.env)).wrap K J gd lv) none (gd false) (lv []) code p [] :: fs) s := by
    intro m
    induction m using Nat.strongRecOn with
    | ind m ih =>
    rintro n i ys s0 s σ H hn st free w ⟨acc, cc, r, I⟩
    show Seg _ _ _ _ _ _ _ ((forTurn tg (.ref it) body [] X.env).onRaise (fun x => do noteFrame x X.env; theTreesLotGoes x)) _ s
    rw [Sem.onRaise_eq_wrap]
    unfold forTurn
    apply seg_bind_wrap
    apply wpAny_standAt
    apply seg_bind_wrap
    rw [gl.over]
    apply wpAny_onRaise
    have gone : ∀ (n : Nat) (s0 : Shared) (x : Value) (s : Shared), X.xe x s → Seg (model X.prog X.w) A R (GY X S) n s0 (.forLoop tg (.ref it) body [] X.env) ((do noteFrame x X.env; theTreesLotGoes x : Sem Unit).bind (fun _ => .raise x))
      (.ret (fun r => ((match r with | .ok f => (.pure f : Sem Flow) | .error e => .raise e).onRaise (cameBack X.env)).wrap K J gd lv) none (gd false) (lv []) code p [] :: fs) s := fun n s0 x s hx => by
      rw [Sem.bind_eq_wrap]
      exact leave n s0 x s hx
    rcases turn i m ys σ H w with ⟨stop, q⟩ | ⟨go, N, less, each⟩
    · refine wpAny_mono (T.done X rfl rfl rfl calm i _ s σ H X.xe I (own.at free _) st stop) ?_ fun x s hx => wpAny_standAt (gone n s0 x s hx)
      rintro _ s1 ⟨rfl, I1⟩
      show Seg _ _ _ _ _ _ _ (.pure (.again (.block [] X.env))) _ s1
      apply seg_again rfl
      show Seg _ _ _ _ _ _ _ (leafOf (.ok .next)) _ s1
      exact seg_leaf (.ok .next) (k.ok n ys s0 s1 .next hn ⟨σ, H, ⟨acc, cc, r, I1⟩, q⟩)
    · refine wpAny_mono (T.item X rfl rfl rfl calm i _ s σ H X.xe I (own.at free _) st go) ?_ fun x s hx => wpAny_standAt (gone n s0 x s hx)
      rintro _ s1 ⟨u, rfl, h4⟩
      apply seg_bind_wrap
      rw [gl.over]
      refine wpAny_mono h4 ?_ fun x s hx => gone n s0 x s hx
      rintro _ s2 ⟨x, H5, I5, r5, y5, st5, free5⟩
      have pinned := I5.pinned (own.at free5 _) (T.obj _ _ st5)
      apply seg_bind_wrap
      rw [gl.over]
      refine wpAny_mono (hg.run _ s2 σ H5 x u _ pinned r5 (each x H5 y5)) ?_ fun x s hx => gone n s0 x s hx
      rintro _ s3 ⟨σ6, H6, I6, q6⟩
      have again : ∀ (ys' : List V) (s' : Shared) (σ7 : L2.St) (H7 : Hp) (n' : Nat) (s0' : Shared), n' + ys'.length = sizeLine → GI X S (ip ++ pinsAt fp s2.heap) ys' σ7 H7 s' → N ys' σ7 H7 → Seg (model X.prog X.w) A R (GY X S) n' s0' (.forLoop tg (.ref it) body [] X.env) (.pure (.again (.forLoop tg (.ref it) body [] X.env)))
          (.ret (fun r => ((match r with | .ok f => (.pure f : Sem Flow) | .error e => .raise e).onRaise (cameBack X.env)).wrap K J gd lv) none (gd false) (lv []) code p [] :: fs) s' := by
        rintro ys' s' σ7 H7 n' s0' hn' ⟨acc', cc', r', I7⟩ n7
        obtain ⟨m', lt, w7⟩ := less ys' σ7 H7 n7
        have stay : ∀ b ∈ fp, ∀ o, s2.heap.get? b = some o → s'.heap.get? b = some o ∧ H7 b = none := fun b hb o e => by
          have := I7.pin (b, o) (List.mem_append_right _ (List.mem_cons_of_mem _ (List.mem_append_right _ (mem_pinsAt hb e))))
          exact ⟨this.1, this.2.1⟩
        refine seg_again rfl (ih m' lt n' (i + 1) ys' s0' s' σ7 H7 hn' (T.keep _ _ _ st5 fun b hb o e => (stay b hb o e).1) (fun b hb => ?_) w7 ⟨acc', cc', r', I7.unpinned (pins := (S, lstObj acc' cc') :: ip) (pl := pinsAt fp s2.heap)⟩)
        obtain ⟨o, e, _⟩ := T.obj _ _ st5 b hb
        exact (stay b hb o e).2
      have inner : GC X S (ip ++ pinsAt fp s2.heap) A (.forLoop tg (.ref it) body [] X.env) (.ret (fun r => ((match r with | .ok f => (.pure f : Sem Flow) | .error e => .raise e).onRaise (cameBack X.env)).wrap K J gd lv) none (gd false) (lv []) code p [] :: fs) id :=
        { gl with ip := fun p hp => (List.mem_append.mp hp).elim (g.ip p) fun z => own.no _ (of_pinsAt z).1 }
      have weaker : ∀ {ys' σ7 H7 s'}, GI X S (ip ++ pinsAt fp s2.heap) ys' σ7 H7 s' → GI X S ip ys' σ7 H7 s' := fun ⟨acc', cc', r', I7⟩ => ⟨acc', cc', r', I7.unpinned (pins := (S, lstObj acc' cc') :: ip) (pl := pinsAt fp s2.heap)⟩
      rw [Sem.bind_eq_wrap', Sem.wrap_wrap]
      refine hb.run A S (ip ++ pinsAt fp s2.heap) R n ys s0 _ _ _ _ _ _ s3 σ6 H6 { D with nx := N, ct := N, bk := D.nx } inner hn ⟨?_, ?_⟩ ⟨acc, cc, r, I6⟩ q6
      · intro n' ys' s0' s' f hn' end_
        match f, end_ with
        | .next, ⟨σ7, H7, J7, n7⟩ => exact again ys' s' σ7 H7 n' s0' hn' J7 n7
        | .cont, ⟨σ7, H7, J7, n7⟩ => exact again ys' s' σ7 H7 n' s0' hn' J7 n7
        | .brk, ⟨σ7, H7, J7, q7⟩ => exact seg_leaf (.ok .next) (k.ok n' ys' s0' s' .next hn' ⟨σ7, H7, weaker J7, q7⟩)
        | .ret v, ⟨x7, σ7, H7, J7, r7, q7⟩ => exact seg_leaf (.ok (.ret v)) (k.ok n' ys' s0' s' (.ret v) hn' ⟨x7, σ7, H7, weaker J7, r7, q7⟩)
      · exact fun n' s0' x s' hx => gone n' s0' x s' hx
  exact loop m0 n 0 ys s0 s2 σ H2 hn st2 (fun b hb => (f2 b hb).1) w0 ⟨acc, cc, r, I2⟩
end
end Sea

set_option Elab.async false
set_option linter.all false
set_option maxRecDepth 100000
set_option maxHeartbeats 4000000
/-! generators whose consumer keeps a frame of its own: between two items it writes there, and fills a list. The rules stand for two objects: S the list, C the frame -/
namespace Sea
open PySem PySem.Spec PyProof.Rows L2 GenW
/-- a frame's names -/
def FrO (o : Obj) : Prop := ∃ es ep, o.data = .dict es ep ∧ StrKeys es
theorem FrO.noCell {o : Obj} (h : FrO o) : ∀ v, o.data ≠ .cell v := fun v q => by
  obtain ⟨es, ep, e, _⟩ := h
  rw [e] at q
  cases q
theorem FrO.ns {o : Obj} {h : Heap} {C : Addr} (f : FrO o) (e : h.get? C = some o) : ∃ m, h.Ns C m := by
  obtain ⟨es, ep, e1, e2⟩ := f
  exact ⟨_, o, es, ep, e, e1, e2, fun _ => rfl⟩
theorem frO_ns {h : Heap} {C : Addr} {m : Str → Option Value} (n : h.Ns C m) : ∃ o, h.get? C = some o ∧ FrO o := by
  obtain ⟨o, es, ep, e, e1, e2, _⟩ := n
  exact ⟨o, e, es, ep, e1, e2⟩
structure Duo where
  S : Addr
  C : Addr
  ne : S ≠ C
def CIv (X : Cx) (Z : Duo) (ip : List (Addr × Obj)) (ys : List V) (σ : L2.St) (H : Hp) (s : Shared) : Prop :=
  ∃ (acc : Array Value) (c : Nat) (o : Obj), Vals ys acc.toList ∧ FrO o ∧ Inv X ((Z.S, lstObj acc c) :: (Z.C, o) :: ip) σ H s
/-- what the consumer does while the generator sleeps -/
def Meal (Z : Duo) (v : Value) (s s' : Shared) : Prop := ∃ (h : Heap) (o : Obj), (∀ b u, b ≠ Z.C → s.heap.get? b = some u → h.get? b = some u) ∧ h.get? Z.C = some o ∧ FrO o ∧ Slept Z.S v { s with heap := h } s'
/-- where the generator's code stands, seen from either object -/
structure CC (X : Cx) (Z : Duo) (ip : List (Addr × Obj)) (A : Around) (c : Code) (fs : List Frame) (gd : Bool → Bool) : Prop where
  s : GC X Z.S ip A c fs gd
  c : GC X Z.C ip A c fs gd
theorem CIv.gi {X : Cx} {Z : Duo} {ip : List (Addr × Obj)} {ys : List V} {σ : L2.St} {H : Hp} {s : Shared} (h : CIv X Z ip ys σ H s) : GI X Z.S ip ys σ H s := by
  obtain ⟨acc, c, o, r, _, I⟩ := h
  refine ⟨acc, c, r, I.pins_of fun p hp => I.pin p ?_⟩
  rcases List.mem_cons.mp hp with z | z
  · exact List.mem_append_right _ (z ▸ List.mem_cons_self)
  · exact List.mem_append_right _ (List.mem_cons_of_mem _ (List.mem_cons_of_mem _ z))
theorem CIv.at {X : Cx} {Z : Duo} {ip : List (Addr × Obj)} {ys : List V} {σ : L2.St} {H : Hp} {s : Shared} (h : CIv X Z ip ys σ H s) :
    ∃ o, FrO o ∧ s.heap.get? Z.C = some o ∧ H Z.C = none ∧ Z.C ≠ X.env.locals ∧ Z.C ∉ X.fs := by
  obtain ⟨acc, c, o, r, f, I⟩ := h
  obtain ⟨h1, h2, h3, h4, _⟩ := I.pin (Z.C, o) (List.mem_append_right _ (List.mem_cons_of_mem _ List.mem_cons_self))
  exact ⟨o, f, h1, h2, h3, h4⟩
theorem CIv.woken {X : Cx} {Z : Duo} {ip : List (Addr × Obj)} {ys : List V} {x : V} {v : Value} {σ : L2.St} {H : Hp} {s s' : Shared} {A : Around} {c : Code} {fs : List Frame} {gd : Bool → Bool}
    (h : CIv X Z ip ys σ H s) (g : CC X Z ip A c fs gd) (rv : RelV x v) (z : Meal Z v s s') : CIv X Z ip (ys ++ [x]) σ H s' := by
  obtain ⟨hp, o, kp, eo, fo, sl⟩ := z
  obtain ⟨_, _, _, c2, c3, c4⟩ := h.at
  have own : Z.C ∈ X.ex ∨ X.s_0.heap.objs.size ≤ Z.C := .inr g.c.apart.1
  have mid : GI X Z.S ip ys σ H { s with heap := hp, toks := s.toks } := by
    obtain ⟨acc, cc, r, I⟩ := h.gi
    refine ⟨acc, cc, r, I.turned (it := Z.C) kp c2 c3 own g.c.apart.2.2 fun p m => ?_⟩
    rcases List.mem_append.mp m with m | m
    · exact g.c.pn p m
    · rcases List.mem_cons.mp m with m | m
      · rw [m]
        exact Z.ne
      · exact g.c.ip p m
  obtain ⟨acc, cc, r, I⟩ := mid.woken g.s.pn g.s.ip g.s.apart rv sl
  refine ⟨acc, cc, o, r, fo, I.pins_of fun p m => ?_⟩
  rcases List.mem_cons.mp m with m | m
  · exact I.pin p (List.mem_append_right _ (m ▸ List.mem_cons_self))
  rcases List.mem_cons.mp m with m | m
  · rw [m]
    exact ⟨sl.keep _ _ (Ne.symm Z.ne) eo, c2, c3, c4, fo.noCell⟩
  · exact I.pin p (List.mem_append_right _ (List.mem_cons_of_mem _ m))
/-! ### the rules -/
def CY (X : Cx) (Z : Duo) : Protocol := fun n s0 v s kap => ∃ ys x ip σ H, n + 1 + ys.length = sizeLine ∧ RelV x v ∧ CIv X Z ip ys σ H s ∧ ∀ s', Meal Z v s s' → kap (.send .none) s'
def CEd (X : Cx) (Z : Duo) (ip : List (Addr × Obj)) (D : GEnds) (ys : List V) : Flow → Shared → Prop
  | .next, s => ∃ σ H, CIv X Z ip ys σ H s ∧ D.nx ys σ H
  | .brk, s => ∃ σ H, CIv X Z ip ys σ H s ∧ D.bk ys σ H
  | .cont, s => ∃ σ H, CIv X Z ip ys σ H s ∧ D.ct ys σ H
  | .ret u, s => ∃ v σ H, CIv X Z ip ys σ H s ∧ RelV v u ∧ D.rt ys v H
/-- a run of m (a statement, a suite) reads as t -/
def CRun (X : Cx) (m : Sem Flow) (t : TGn) : Prop := ∀ (A : Around) (Z : Duo) (ip : List (Addr × Obj)) (R : GenEnd) (c : Code) (fs : List Frame) (K : Flow → Sem PySem.Fin) (J : Value → Sem PySem.Fin) (gd : Bool → Bool) (lv : List Value → List Value) (D : GEnds), CC X Z ip A c fs gd →
  (∀ n ys s0 s f, n + ys.length = sizeLine → CEd X Z ip D ys f s → Seg (model X.prog X.w) A R (CY X Z) n s0 c (K f) fs s) → (∀ n s0 e s, X.xe e s → Seg (model X.prog X.w) A R (CY X Z) n s0 c (J e) fs s) →
  ∀ n ys s0 s σ H, n + ys.length = sizeLine → CIv X Z ip ys σ H s → t D ys σ H → Seg (model X.prog X.w) A R (CY X Z) n s0 c (m.wrap K J gd lv) fs s
section
variable {X : Cx} {st : Stmt} {rest : List Stmt} {pos : Pos}
theorem cs_ps {t : TS} (h : PS X st t) : CRun X (exec st X.env) (tPlain t) := by
  intro A Z ip R c fs K J gd lv D g ok exc n ys s0 s σ H hn ⟨acc, cc, o, r, fo, I⟩ ht
  refine seg_wrap ?_
  rw [g.s.over]
  refine wpAny_mono (h.run _ s σ H (D.at ys) I ht) (fun f s1 q => ok n ys s0 s1 f hn ?_) fun x s1 hx => exc n s0 x s1 hx
  match f, q with
  | .next, ⟨σ1, H1, J1, q1⟩ => exact ⟨σ1, H1, ⟨acc, cc, o, r, fo, J1⟩, q1⟩
  | .brk, ⟨σ1, H1, J1, q1⟩ => exact ⟨σ1, H1, ⟨acc, cc, o, r, fo, J1⟩, q1⟩
  | .cont, ⟨σ1, H1, J1, q1⟩ => exact ⟨σ1, H1, ⟨acc, cc, o, r, fo, J1⟩, q1⟩
  | .ret u, ⟨v, σ1, H1, J1, r1, q1⟩ => exact ⟨v, σ1, H1, ⟨acc, cc, o, r, fo, J1⟩, r1, q1⟩
theorem css_nil : CRun X (execs [] X.env) tG0 := fun _ _ _ _ _ _ _ _ _ _ _ _ ok _ n ys s0 s σ H hn I ht => seg_execs_nil (ok n ys s0 s .next hn ⟨σ, H, I, ht⟩)
theorem css_cons {t u : TGn} (a : CRun X (exec st X.env) t) (b : CRun X (execs rest X.env) u) : CRun X (execs (st :: rest) X.env) (tGThen t u) := by
  intro A Z ip R c fs K J gd lv D g ok exc n ys s0 s σ H hn I ht
  refine seg_execs_cons (a A Z ip R c fs _ J gd lv { D with nx := fun ys' σ' H' => u D ys' σ' H' } g (fun n1 ys1 s1 s2 f e q => ?_) exc n ys s0 s σ H hn I ht)
  match f, q with
  | .next, ⟨σ2, H2, I2, q2⟩ => exact b A Z ip R c fs K J gd lv D g ok exc n1 ys1 s1 s2 σ2 H2 e I2 q2
  | .brk, q => exact ok n1 ys1 s1 s2 .brk e q
  | .cont, q => exact ok n1 ys1 s1 s2 .cont e q
  | .ret u, q => exact ok n1 ys1 s1 s2 (.ret u) e q
theorem cs_yield {e : Expr} {yp : Pos} {te : TE} (he : PE X e te) (hco : X.env.scope.isCoroutine = false := by rfl) (hi : interactive X.env = false := by rfl) : CRun X (exec (.Expr (.Yield (some e) yp) pos) X.env) (tGYield te) := by
  intro A Z ip R c fs K J gd lv D g ok exc n ys s0 s σ H hn ⟨acc, cc, o, r, fo, I⟩ ⟨few, ht⟩
  cases n with
  | zero => omega
  | succ n =>
    refine seg_Expr_Yield g.s.split g.s.gd g.s.guard ?_ hco hi
    rw [g.s.over]
    refine wpAny_mono (he.run _ s σ H _ I ht) ?_ fun x s1 hx => exc _ s0 x s1 hx
    rintro v s1 ⟨x, H1, I1, rv, q⟩ kap hk
    have c1 : CIv X Z ip ys σ H1 s1 := ⟨acc, cc, o, r, fo, I1⟩
    exact ⟨ys, x, ip, σ, H1, hn, rv, c1, fun s2 z => hk .none s2 (ok n (ys ++ [x]) s2 s2 .next (by rw [List.length_append]; show n + (ys.length + 1) = _; omega) ⟨σ, H1, c1.woken g rv z, q⟩)⟩
theorem cs_if {c : Expr} {a b : List Stmt} {tc : TT} {t u : TGn} (hc : PT X c tc) (ha : CRun X (execs a X.env) t) (hb : CRun X (execs b X.env) u) : CRun X (exec (.If c a b pos) X.env) (tGIf tc t u) := by
  intro A Z ip R cd fs K J gd lv D g ok exc n ys s0 s σ H hn ⟨acc, cc, o, r, fo, I⟩ ht
  rw [exec_If]
  apply seg_bind_wrap
  apply wpAny_standAt
  apply seg_bind_wrap
  rw [g.s.over]
  refine wpAny_mono (hc.run _ s σ H _ I ht) ?_ fun x s1 hx => exc n s0 x s1 hx
  rintro (_ | _) s1 ⟨H1, I1, q⟩
  · exact hb A Z ip R cd fs K J gd lv D g ok exc n ys s0 s1 σ H1 hn ⟨acc, cc, o, r, fo, I1⟩ q
  · exact ha A Z ip R cd fs K J gd lv D g ok exc n ys s0 s1 σ H1 hn ⟨acc, cc, o, r, fo, I1⟩ q
end
end Sea

set_option Elab.async false
set_option linter.all false
set_option maxRecDepth 100000
set_option maxHeartbeats 4000000
namespace Sea
open PySem PySem.Spec PyProof.Rows L2 GenW
section
variable {X : Cx} {pos : Pos}
theorem own_duo {Z : Duo} {ip : List (Addr × Obj)} {fp : List Addr} {H H' : Hp} {oS oC oS' oC' : Obj} (h : ∀ b ∈ fp, FpOk X ((Z.S, oS) :: (Z.C, oC) :: ip) H b) (hn : ∀ b ∈ fp, H' b = none) : ∀ b ∈ fp, FpOk X ((Z.S, oS') :: (Z.C, oC') :: ip) H' b := by
  intro b hb
  obtain ⟨_, a1, a2, a3, a4, a5⟩ := h b hb
  refine ⟨hn b hb, a1, a2, a3, a4, fun p hp => ?_⟩
  rcases List.mem_append.mp hp with z | z
  · exact a5 p (List.mem_append_left _ z)
  · rcases List.mem_cons.mp z with z | z
    · rw [z]
      exact a5 (Z.S, oS) (List.mem_append_right _ List.mem_cons_self)
    rcases List.mem_cons.mp z with z | z
    · rw [z]
      exact a5 (Z.C, oC) (List.mem_append_right _ (List.mem_cons_of_mem _ List.mem_cons_self))
    · exact a5 p (List.mem_append_right _ (List.mem_cons_of_mem _ (List.mem_cons_of_mem _ z)))
theorem CC.loop {Z : Duo} {ip : List (Addr × Obj)} {A : Around} {c c' : Code} {fs : List Frame} {gd : Bool → Bool} {k : Result → Sem PySem.Fin} {l kp : List Value} {p : Pos} (g : CC X Z ip A c fs gd) (hw : c'.weight = 0) (hu : c'.cUnits = 0) : CC X Z ip A c' (.ret k none (gd false) l c p kp :: fs) id := ⟨gc_loop g.s hw hu, gc_loop g.c hw hu⟩
theorem cs_for {tg iter : Expr} {body : List Stmt} {wi : TI} {gt : TG} {tb : TGn} (hp : PassesOwn (model X.prog X.w) X.A X.env X.xe) (calm : X.calm = true) (hi : PI X tg iter wi) (hg : PG X tg gt) (hb : CRun X (execs body X.env) tb)
    (hs : ∀ x, foldedSetIterable iter X.env x = pure x := by intro _; rfl) : CRun X (exec (.For tg iter body [] pos) X.env) (tGFor wi gt tb) := by
  intro A Z ip R c fs K J gd lv D g ok exc n ys s0 s σ H hn ⟨acc, cc, o, r, fo, I⟩ ht
  rw [exec_For]
  apply seg_bind_wrap
  apply wpAny_standAt
  apply seg_bind_wrap
  rw [g.s.over]
  refine wpAny_mono (hi.run _ s σ H _ I ht) ?_ fun x s1 hx => exc n s0 x s1 hx
  intro v s1 made
  apply seg_bind_wrap
  rw [hs v]
  apply wpAny_pure
  apply seg_bind_wrap
  apply wpAny_standAt
  apply seg_bind_wrap
  rw [g.s.over]
  apply wpAny_holding
  refine wpAny_mono made ?_ fun x s2 hx => exc n s0 x s2 hx
  rintro _ s2 ⟨it, fp, tn, Jt, H2, rfl, I2, T, st2, f2, W, ⟨m0, w0⟩, turn⟩
  apply seg_call
  intro p
  have back : ∀ (n : Nat) (s0 : Shared) (e : Value) (s : Shared), cameBackBy (model X.prog X.w) X.A X.env X.xe e s → Seg (model X.prog X.w) A R (CY X Z) n s0 c (((Sem.raise e : Sem Flow).onRaise (cameBack X.env)).wrap K J gd lv) fs s := by
    intro n s0 e s h
    show Seg _ _ _ _ _ _ _ (((cameBack X.env e).bind fun _ => (Sem.raise e : Sem Flow)).wrap K J gd lv) _ _
    rw [Sem.bind_eq_wrap, Sem.wrap_wrap]
    apply seg_wrap
    rw [g.s.over]
    exact wpAny_mono h (fun _ s' hx => exc n s0 e s' hx) fun x s' hx => exc n s0 x s' hx
  have gl := g.loop (k := fun r => ((match r with | .ok f => (.pure f : Sem Flow) | .error e => .raise e).onRaise (cameBack X.env)).wrap K J gd lv) (c' := .forLoop tg (.ref it) body [] X.env) (l := lv []) (kp := []) (p := p) rfl rfl
  have leave : ∀ (n : Nat) (s0 : Shared) (x : Value) (s : Shared), X.xe x s → Seg (model X.prog X.w) A R (CY X Z) n s0 (.forLoop tg (.ref it) body [] X.env) ((do noteFrame x X.env; theTreesLotGoes x : Sem Unit).wrap (fun _ => .raise x) .raise id id)
      (.ret (fun r => ((match r with | .ok f => (.pure f : Sem Flow) | .error e => .raise e).onRaise (cameBack X.env)).wrap K J gd lv) none (gd false) (lv []) c p [] :: fs) s := by
    intro n s0 x s hx
    apply seg_wrap
    rw [gl.s.over]
    apply wpAny_bind
    refine wpAny_mono (hp x s hx) (fun _ s1 b => wpAny_theTreesLotGoes ?_) fun y s1 b => ?_
    · exact seg_leaf (.error x) (back _ _ _ _ b)
    · exact seg_leaf (.error y) (back _ _ _ _ b)
  have loop : ∀ (m n i : Nat) (ys : List V) (s0 s : Shared) (σ : L2.St) (H : Hp), n + ys.length = sizeLine → tn i s.heap → (∀ b ∈ fp, H b = none) → W i m ys σ H → CIv X Z ip ys σ H s →
      Seg (model X.prog X.w) A R (CY X Z) n s0 (.forLoop tg (.ref it) body [] X.env) ((model X.prog X.w).den (.forLoop tg (.ref it) body [] X.env))
        (.ret (fun r => ((match r with | .ok f => (.pure f : Sem Flow) | .error e => .raise e).onRaise (cameBack X.env)).wrap K J gd lv) none (gd false) (lv []) c p [] :: fs) s := by
    intro m
    induction m using Nat.strongRecOn with
    | ind m ih =>
    rintro n i ys s0 s σ H hn st free w ⟨acc, cc, o, r, fo, I⟩
    show Seg _ _ _ _ _ _ _ ((forTurn tg (.ref it) body [] X.env).onRaise (fun x => do noteFrame x X.env; theTreesLotGoes x)) _ s
    rw [Sem.onRaise_eq_wrap]
    unfold forTurn
    apply seg_bind_wrap
    apply wpAny_standAt
    apply seg_bind_wrap
    rw [gl.s.over]
    apply wpAny_onRaise
    have gone : ∀ (n : Nat) (s0 : Shared) (x : Value) (s : Shared), X.xe x s → Seg (model X.prog X.w) A R (CY X Z) n s0 (.forLoop tg (.ref it) body [] X.env) ((do noteFrame x X.env; theTreesLotGoes x : Sem Unit).bind (fun _ => .raise x))
      (.ret (fun r => ((match r with | .ok f => (.pure f : Sem Flow) | .error e => .raise e).onRaise (cameBack X.env)).wrap K J gd lv) none (gd false) (lv []) c p [] :: fs) s := fun n s0 x s hx => by
      rw [Sem.bind_eq_wrap]
      exact leave n s0 x s hx
    rcases turn i m ys σ H w with ⟨stop, q⟩ | ⟨go, N, less, each⟩
    · refine wpAny_mono (T.done X rfl rfl rfl calm i _ s σ H X.xe I (own_duo f2 free) st stop) ?_ fun x s hx => wpAny_standAt (gone n s0 x s hx)
      rintro _ s1 ⟨rfl, I1⟩
      show Seg _ _ _ _ _ _ _ (.pure (.again (.block [] X.env))) _ s1
      apply seg_again rfl
      show Seg _ _ _ _ _ _ _ (leafOf (.ok .next)) _ s1
      exact seg_leaf (.ok .next) (ok n ys s0 s1 .next hn ⟨σ, H, ⟨acc, cc, o, r, fo, I1⟩, q⟩)
    · refine wpAny_mono (T.item X rfl rfl rfl calm i _ s σ H X.xe I (own_duo f2 free) st go) ?_ fun x s hx => wpAny_standAt (gone n s0 x s hx)
      rintro _ s1 ⟨u, rfl, h4⟩
      apply seg_bind_wrap
      rw [gl.s.over]
      refine wpAny_mono h4 ?_ fun x s hx => gone n s0 x s hx
      rintro _ s2 ⟨x, H5, I5, r5, y5, st5, free5⟩
      have I5p := I5.pinned (own_duo f2 free5) (T.obj _ _ st5)
      apply seg_bind_wrap
      rw [gl.s.over]
      refine wpAny_mono (hg.run _ s2 σ H5 x u _ I5p r5 (each x H5 y5)) ?_ fun x s hx => gone n s0 x s hx
      rintro _ s3 ⟨σ6, H6, I6, q6⟩
      have lose : ∀ {ys' σ7 H7 s'}, CIv X Z (ip ++ pinsAt fp s2.heap) ys' σ7 H7 s' → CIv X Z ip ys' σ7 H7 s' := fun {ys' σ7 H7 s'} ⟨acc', cc', o', r', f', I7⟩ => ⟨acc', cc', o', r', f', I7.pins_of fun p hp => I7.pin p (by
        rcases List.mem_cons.mp hp with z | z
        · exact List.mem_append_right _ (z ▸ List.mem_cons_self)
        rcases List.mem_cons.mp z with z | z
        · exact List.mem_append_right _ (List.mem_cons_of_mem _ (z ▸ List.mem_cons_self))
        · exact List.mem_append_right _ (List.mem_cons_of_mem _ (List.mem_cons_of_mem _ (List.mem_append_left _ z))))⟩
      have again : ∀ (ys' : List V) (s' : Shared) (σ7 : L2.St) (H7 : Hp) (n' : Nat) (s0' : Shared), n' + ys'.length = sizeLine → CIv X Z (ip ++ pinsAt fp s2.heap) ys' σ7 H7 s' → N ys' σ7 H7 → Seg (model X.prog X.w) A R (CY X Z) n' s0' (.forLoop tg (.ref it) body [] X.env) (.pure (.again (.forLoop tg (.ref it) body [] X.env)))
          (.ret (fun r => ((match r with | .ok f => (.pure f : Sem Flow) | .error e => .raise e).onRaise (cameBack X.env)).wrap K J gd lv) none (gd false) (lv []) c p [] :: fs) s' := by
        intro ys' s' σ7 H7 n' s0' hn' c7 n7
        obtain ⟨m', lt, w7⟩ := less ys' σ7 H7 n7
        have stay : ∀ b ∈ fp, ∀ o, s2.heap.get? b = some o → s'.heap.get? b = some o ∧ H7 b = none := fun b hb o e => by
          obtain ⟨_, _, _, _, _, I7⟩ := c7
          have := I7.pin (b, o) (List.mem_append_right _ (List.mem_cons_of_mem _ (List.mem_cons_of_mem _ (List.mem_append_right _ (mem_pinsAt hb e)))))
          exact ⟨this.1, this.2.1⟩
        refine seg_again rfl (ih m' lt n' (i + 1) ys' s0' s' σ7 H7 hn' (T.keep _ _ _ st5 fun b hb o e => (stay b hb o e).1) (fun b hb => ?_) w7 (lose c7))
        obtain ⟨o, e, _⟩ := T.obj _ _ st5 b hb
        exact (stay b hb o e).2
      have apart : ∀ q ∈ pinsAt fp s2.heap, q.1 ≠ Z.S ∧ q.1 ≠ Z.C := fun q hq => by
        obtain ⟨_, _, _, _, _, a5⟩ := f2 q.1 (of_pinsAt hq).1
        exact ⟨(a5 (Z.S, _) (List.mem_append_right _ List.mem_cons_self)).symm, (a5 (Z.C, _) (List.mem_append_right _ (List.mem_cons_of_mem _ List.mem_cons_self))).symm⟩
      have inner : CC X Z (ip ++ pinsAt fp s2.heap) A (.forLoop tg (.ref it) body [] X.env) (.ret (fun r => ((match r with | .ok f => (.pure f : Sem Flow) | .error e => .raise e).onRaise (cameBack X.env)).wrap K J gd lv) none (gd false) (lv []) c p [] :: fs) id :=
        ⟨{ gl.s with ip := fun q hq => (List.mem_append.mp hq).elim (g.s.ip q) fun z => (apart q z).1 }, { gl.c with ip := fun q hq => (List.mem_append.mp hq).elim (g.c.ip q) fun z => (apart q z).2 }⟩
      rw [Sem.bind_eq_wrap', Sem.wrap_wrap]
      refine hb A Z (ip ++ pinsAt fp s2.heap) R _ _ _ _ _ _ { D with nx := N, ct := N, bk := D.nx } inner ?_ ?_ n ys s0 s3 σ6 H6 hn ⟨acc, cc, o, r, fo, I6⟩ q6
      · intro n' ys' s0' s' f hn' end_
        match f, end_ with
        | .next, ⟨σ7, H7, J7, n7⟩ => exact again ys' s' σ7 H7 n' s0' hn' J7 n7
        | .cont, ⟨σ7, H7, J7, n7⟩ => exact again ys' s' σ7 H7 n' s0' hn' J7 n7
        | .brk, ⟨σ7, H7, J7, q7⟩ => exact seg_leaf (.ok .next) (ok n' ys' s0' s' .next hn' ⟨σ7, H7, lose J7, q7⟩)
        | .ret v, ⟨x7, σ7, H7, J7, r7, q7⟩ => exact seg_leaf (.ok (.ret v)) (ok n' ys' s0' s' (.ret v) hn' ⟨x7, σ7, H7, lose J7, r7, q7⟩)
      · exact fun n' s0' x s' hx => gone n' s0' x s' hx
  exact loop m0 n 0 ys s0 s2 σ H2 hn st2 (fun b hb => (f2 b hb).1) w0 ⟨acc, cc, o, r, fo, I2⟩
end
end Sea

set_option Elab.async false
set_option linter.all false
set_option maxRecDepth 100000
set_option maxHeartbeats 4000000
/-! calls of generator defs whose items a list comprehension takes -/
namespace Sea
open PySem PySem.Spec PyProof.Rows L2 GenW
def COut (P : Program) (w : World) (outer : List Env) (H : Hp) (s : Shared) (Z : Duo) (Q : List V → Hp → Prop) : Nat → Shared → Shared → Prop := fun _ _ s1 =>
  ∃ H' ys acc c o, s1.os = s.os ∧ AllBare s1.gens ∧ Un (frs outer) [] H H' s.heap s1.heap ∧ HOk P w H' s1.heap ∧ H' Z.S = none ∧ H' Z.C = none ∧ s1.heap.get? Z.S = some (lstObj acc c) ∧ s1.heap.get? Z.C = some o ∧ FrO o ∧ Vals ys acc.toList ∧ ys.length ≤ sizeLine ∧ Q ys H'
abbrev COff (P : Program) (w : World) (outer : List Env) (H : Hp) (s : Shared) (Z : Duo) (Q : List V → Hp → Prop) (E : XK) : GenEnd := fun n s0 r s1 => ((r = .ok (.ret .none) ∨ r = .ok .next) ∧ COut P w outer H s Z Q n s0 s1) ∨ ∃ e, r = .error e ∧ CX P w outer H s E e s1
def CItem (s : Shared) (Z : Duo) (a : Addr) (g : Nat) : Protocol := fun n s0 v s1 kap =>
  s1.os = s.os ∧ AllBare s1.gens ∧ s1.heap.NoLimit ∧ s1.heap.IsGen a g ∧ (∃ acc c, s1.heap.get? Z.S = some (lstObj acc c) ∧ n + 1 + acc.size = sizeLine) ∧ (∃ o, s1.heap.get? Z.C = some o ∧ FrO o) ∧ ∀ s', Meal Z v s1 s' → kap (.send .none) s'
def CMade (P : Program) (w : World) (k : Nat) (outer : List Env) (H : Hp) (s : Shared) (Q : List V → Hp → Prop) (E : XK) (u : Value) (s' : Shared) : Prop :=
  ∃ (a : Addr) (g : Nat) (c : Code), u = .ref a ∧ s.heap.objs.size ≤ a ∧ a < s'.heap.objs.size ∧ s'.heap.IsGen a g ∧ s'.gens[g]? = some (.fresh c) ∧ s'.os = s.os ∧ AllBare s'.gens ∧ s'.heap.NoLimit ∧ (∀ b o, s.heap.get? b = some o → s'.heap.get? b = some o) ∧
    ∀ (A : Around) (Z : Duo) (s2 : Shared), Room k A → A.frames = some outer → s'.heap.objs.size ≤ Z.S → s'.heap.objs.size ≤ Z.C → (∀ b o, s'.heap.get? b = some o → s2.heap.get? b = some o) → (∃ c, s2.heap.get? Z.S = some (lstObj #[] c)) → (∃ o, s2.heap.get? Z.C = some o ∧ FrO o) → s2.os = s.os → AllBare s2.gens →
      Seg (model P w) A (COff P w outer H s Z Q E) (CItem s Z a g) sizeLine s2 c ((model P w).den c) [] s2
structure CFn (P : Program) (w : World) (K : PySem.W.Frag) (mg : Str → Option Value) (base : Heap) (k : Nat) (f : Addr) (fd : FuncData) (ps : List Str) (sp : SpG) : Prop where
  len : ∀ vs H Q E, sp vs H Q E → vs.length = ps.length
  run : ∀ (A : Around) (outer : List Env) (s : Shared) (H : Hp) (args : Args) (us : List Value) (vs : List V) (Q : List V → Hp → Prop) (E : XK), Room k A → Env0 P w K mg base A outer s H → BindsTo s fd args (ps.zip us) → Vals vs us → sp vs H Q E →
    codeAny (model P w) A (.call (.ref f) args) (fun r s' => match r with | .ok (.ret u) => CMade P w k outer H s Q E u s' | _ => False) s
section
variable {P : Program} {w : World} {K : PySem.W.Frag} {mg : Str → Option Value} {base : Heap} {k : Nat} {f : Addr} {name qual : Str} {params : Arguments} {body : List Stmt} {scope : Scope} {dV kV doc pm cdv ct oc : Value} {an od : Option Addr} {osl : Array (Option Value)} {N ps : List Str} {sp : SpG}
/-- the body's run, from the moment of its first item's call -/
theorem c_begin {A : Around} {outer : List Env} {s s1 s2 : Shared} {H : Hp} {vs : List V} {Q : List V → Hp → Prop} {E : XK} {go : Obj} {t : TGn} {Z : Duo} {tk : Nat}
    (I1 : Inv (gcxOf P w K mg base N qual scope f cdv A outer s H E []) [] (start N vs) H s1) (gd : ∀ v, go.data ≠ .cell v) (hgen : ∀ h : Heap, h.get? s1.heap.objs.size = some go → h.IsGen s1.heap.objs.size s1.gens.size)
    (ht : CRun (gcxOf P w K mg base N qual scope f cdv A outer s H E [(s1.heap.objs.size, go)]) (execs body (envOfC qual scope s.heap.objs.size f cdv)) t)
    (hq : t { nx := fun ys _ H' => Q ys H', rt := fun ys v H' => v = .non ∧ Q ys H' } [] (start N vs) H)
    (hS : s1.heap.objs.size < Z.S) (hC : s1.heap.objs.size < Z.C) (hk : ∀ b o, s1.heap.get? b = some o → s2.heap.get? b = some o) (eg : s2.heap.get? s1.heap.objs.size = some go) (eS : ∃ c, s2.heap.get? Z.S = some (lstObj #[] c)) (eC : ∃ o, s2.heap.get? Z.C = some o ∧ FrO o) (os : s2.os = s.os) (ba : AllBare s2.gens) :
    Seg (model P w) A (COff P w outer H s Z Q E) (CItem s Z s1.heap.objs.size s1.gens.size) sizeLine s2 (.func body (envOfC qual scope s.heap.objs.size f cdv)) ((model P w).den (.func body (envOfC qual scope s.heap.objs.size f cdv))) [] s2 := by
  have os1 : s1.os = s.os := I1.os
  have I2 : Inv (gcxOf P w K mg base N qual scope f cdv A outer s H E []) [] (start N vs) H s2 := I1.call' (ch := []) (os.trans os1.symm) (Un.kept hk) (I1.hok.kept hk) ba fun b z => by simp at z
  have new : ∀ {b : Addr}, s1.heap.objs.size ≤ b → FpOk (gcxOf P w K mg base N qual scope f cdv A outer s H E []) [] H b := fun h => I1.fpOk h (I1.hok.fresh h)
  obtain ⟨cS, eS⟩ := eS
  obtain ⟨oC, eC, fC⟩ := eC
  have pin : ∀ {b : Addr} {o : Obj}, s1.heap.objs.size ≤ b → s2.heap.get? b = some o → (∀ v, o.data ≠ .cell v) → s2.heap.get? b = some o ∧ H b = none ∧ b ≠ (envOfC qual scope s.heap.objs.size f cdv).locals ∧ b ∉ frs outer ∧ ∀ v, o.data ≠ .cell v := fun h e n => by
    obtain ⟨a1, a2, a3, _⟩ := new h
    exact ⟨e, a1, a2, a3, n⟩
  have lS : ∀ v, (lstObj #[] cS).data ≠ .cell v := fun v q => by cases q
  have J : CIv (gcxOf P w K mg base N qual scope f cdv A outer s H E [(s1.heap.objs.size, go)]) Z [] [] (start N vs) H s2 := by
    refine ⟨#[], cS, oC, .nil, fC, Inv.pinnedG I2 fun p hp => ?_⟩
    rcases List.mem_append.mp hp with z | z
    · rw [List.mem_singleton.mp z]
      exact pin (Nat.le_refl _) eg gd
    rcases List.mem_cons.mp z with z | z
    · rw [z]
      exact pin (Nat.le_of_lt hS) eS lS
    · rw [List.mem_singleton.mp z]
      exact pin (Nat.le_of_lt hC) eC fC.noCell
  have place : ∀ b, s1.heap.objs.size < b → GC (gcxOf P w K mg base N qual scope f cdv A outer s H E [(s1.heap.objs.size, go)]) b [] A (.func body (envOfC qual scope s.heap.objs.size f cdv)) [] id := fun b hb => by
    obtain ⟨_, a2, _, a4, a5, _⟩ := new (Nat.le_of_lt hb)
    refine ⟨fun p hp => ?_, fun p hp => (by simp at hp), ⟨a4.resolve_left fun z => by simp [gcxOf, cxOf] at z, a2, a5⟩, over_func, rfl, rfl, rfl⟩
    rw [List.mem_singleton.mp hp]
    exact Nat.ne_of_lt hb
  refine seg_func (seg_imp (R := fun n s0 r s' => match r with
      | .ok (.ret u) => ∃ ys v ip σ H', n + ys.length = sizeLine ∧ CIv (gcxOf P w K mg base N qual scope f cdv A outer s H E [(s1.heap.objs.size, go)]) Z ip ys σ H' s' ∧ RelV v u ∧ v = .non ∧ Q ys H'
      | .ok _ => False
      | .error e => CX P w outer H s E e s') (Y := CY (gcxOf P w K mg base N qual scope f cdv A outer s H E [(s1.heap.objs.size, go)]) Z) (fun n s0 r s' hR => ?_) (fun n s0 v s' kap kap' hkk hY => ?_) sizeLine ?_)
  · match r, hR with
    | .error e, hR => exact .inr ⟨e, rfl, hR⟩
    | .ok (.ret u), ⟨ys, v, ip, σ, H', hn, c, rv, ev, q⟩ =>
      subst ev
      obtain rfl : u = Value.none := rv
      obtain ⟨o, fo, co, c0, _⟩ := c.at
      obtain ⟨s0', _, _, acc, cc, ra, ea⟩ := c.gi.at
      obtain ⟨_, _, _, _, _, I⟩ := c
      exact .inl ⟨.inl rfl, H', ys, acc, cc, o, I.os, I.bare, I.base, I.hok, s0', c0, ea, co, fo, ra, by omega, q⟩
  · obtain ⟨ys, x, ip, σ, H', hn, _, c, hs⟩ := hY
    obtain ⟨o, fo, co, _⟩ := c.at
    obtain ⟨_, _, _, acc, cc, ra, ea⟩ := c.gi.at
    obtain ⟨_, _, _, _, _, I⟩ := c
    have sz : acc.size = ys.length := by
      have e1 := ra.length
      have e2 : acc.toList.length = acc.size := by simp
      omega
    exact ⟨I.os, I.bare, I.nolimit, hgen _ (I.pin (s1.heap.objs.size, go) (List.mem_append_left _ (List.mem_singleton.mpr rfl))).1, ⟨acc, cc, ea, by rw [sz]; exact hn⟩, ⟨o, co, fo⟩, fun s'' z => hkk _ _ (hs s'' z)⟩
  · refine ht A Z [] _ _ [] _ _ id id _ ⟨place _ hS, place _ hC⟩ (fun n ys s0 s' fl hn e => ?_) (fun n s0 e s' hx => ?_) sizeLine [] s2 s2 _ H (Nat.add_zero _) J hq
    · match fl, e with
      | .next, ⟨σ, H', c, q⟩ => exact seg_end (.ok (.ret .none)) ⟨ys, .non, [], σ, H', hn, c, rfl, rfl, q⟩
      | .ret u, ⟨v, σ, H', c, rv, ev, q⟩ => exact seg_end (.ok (.ret u)) ⟨ys, v, [], σ, H', hn, c, rv, ev, q⟩
      | .brk, ⟨_, _, _, q⟩ => exact q.elim
      | .cont, ⟨_, _, _, q⟩ => exact q.elim
    · refine seg_wrap ?_
      rw [over_func]
      refine wpAny_mono (show wpAny (model P w) (A.deeper (envOfC qual scope s.heap.objs.size f cdv)) (leaving (envOfC qual scope s.heap.objs.size f cdv) e) (fun _ s'' => CX P w outer H s E e s'' ∧ ∀ p ∈ [(s1.heap.objs.size, go)], s''.heap.get? p.1 = some p.2) (fun _ _ => False) s' from hx) (fun _ s'' q => ?_) fun _ s'' q => q.elim
      exact seg_end (.error e) q.1
theorem cfn_of (lk : K.lookup f = some ⟨oc, od, .func (PySem.W.fnOf name qual params body scope dV kV doc pm an cdv ct), osl⟩) (hcd : PySem.W.codeIn K cdv qual = true) (S : GScope N ps scope) (len : ∀ vs H Q E, sp vs H Q E → vs.length = ps.length)
    (hbody : ∀ (A : Around) (outer : List Env) (s : Shared) (H : Hp) (vs : List V) (Q : List V → Hp → Prop) (E : XK) (pn : List (Addr × Obj)), Room k (A.deeper (envOfC qual scope s.heap.objs.size f cdv)) → sp vs H Q E →
      ∃ t, CRun (gcxOf P w K mg base N qual scope f cdv A outer s H E pn) (execs body (envOfC qual scope s.heap.objs.size f cdv)) t ∧ t { nx := fun ys _ H' => Q ys H', rt := fun ys v H' => v = .non ∧ Q ys H' } [] (start N vs) H) :
    CFn P w K mg base (k + 1) f (PySem.W.fnOf name qual params body scope dV kV doc pm an cdv ct) ps sp := by
  refine ⟨len, fun A outer s H args us vs Q E hr e0 hb r hsp => ?_⟩
  have KX : K.In s.heap := e0.mod.kin.keeps fun b o e => (e0.bs b o e).1
  have lim : s.heap.NoLimit := e0.mod.nolimit.keeps fun b o e => (e0.bs b o e).1
  refine codeAny_call_generator hr.depth (KX _ _ lk) rfl S.co S.gen rfl (PySem.W.codeRec_of KX hcd) (hb _ _ _ _ (wpAny_newFunctionEnv_cells S.kind (fun ⟨n, v⟩ hy => ?_) fun env he s1 x => ?_))
  · rcases S.par n (List.of_mem_zip hy).1 with q | q
    · exact .inl q
    · exact .inr ⟨q, PySem.W.cellsFrom_some _ _ _ (.inl q)⟩
  subst he
  have lim1 : s1.heap.NoLimit := lim.keeps x.toInCall.keep
  have sz1 : s.heap.objs.size ≤ s1.heap.objs.size := Nat.le_of_lt x.toInCall.ns.lt
  have kp1 := x.toInCall.keep
  have made := fun (A' : Around) (hd : A'.handled = none) (e' : Env0 P w K mg base A' outer s H) => inv_startG (f := f) (cd := cdv) (qual := qual) (E := E) S hd e' (len _ _ _ _ hsp) r x
  have I0 := made A hr.hd e0
  have os1 : s1.os = s.os := I0.os
  refine ⟨lim1, ?_⟩
  generalize hgo : ({ cls := .type "generator", data := .fields #[.int s1.gens.size 0, .str _ s1.toks, .str _ (s1.toks + 1)] } : Obj) = go
  have g1 : go.cls = .type "generator" := by rw [← hgo]
  have gd : ∀ v, go.data ≠ .cell v := fun v q => by
    rw [← hgo] at q
    cases q
  have hgen : ∀ h : Heap, h.get? s1.heap.objs.size = some go → h.IsGen s1.heap.objs.size s1.gens.size := fun h e => by
    exact ⟨go, _, _, e, g1, congrArg Obj.data hgo.symm, congrArg Obj.slots hgo.symm⟩
  have put : ∀ h : Heap, (h.push go).get? h.objs.size = some go := fun h => by
    rw [← hgo]
    exact Heap.get?_push_size _ rfl
  have keep : ∀ b o, s1.heap.get? b = some o → (s1.heap.push go).get? b = some o := fun b o e => Heap.get?_push_of_some _ e
  refine ⟨s1.heap.objs.size, s1.gens.size, _, rfl, sz1, ?_, hgen _ (put _), Array.getElem?_push_size .., os1, AllBare.push I0.bare rfl, lim1.keeps keep, fun b o e => keep b o (kp1 b o e), ?_⟩
  · show _ < (s1.heap.push _).objs.size
    rw [Heap.size_push]
    exact Nat.lt_succ_self _
  intro Aw Z s2 hrw hfr hS hC hk2 eS eC os2 ba2
  obtain ⟨t, ht, hq⟩ := hbody Aw outer s H vs Q E [(s1.heap.objs.size, go)] (hrw.deeper _) hsp
  have up : ∀ b, (s1.heap.push go).objs.size ≤ b → s1.heap.objs.size < b := fun b h => by
    rw [Heap.size_push] at h
    exact h
  exact c_begin (tk := 0) (made Aw hrw.hd ⟨hfr, e0.mod, e0.bs, e0.bsz, e0.funs, e0.frf, e0.hok, e0.bare⟩) gd hgen ht hq (up _ hS) (up _ hC) (fun b o e => hk2 b o (keep b o e)) (hk2 _ _ (put _)) eS eC os2 ba2
end
end Sea

set_option Elab.async false
set_option linter.all false
set_option maxRecDepth 100000
set_option maxHeartbeats 4000000
/-! [x for x in f(..)], f a generator def -/
namespace Sea
open PySem PySem.Spec PyProof.Rows L2 GenW
section
variable {X : Cx} {k : Nat} {f : Addr} {fd : FuncData} {ps : List Str} {sp : SpG} {dvs : List V} {ds : List Value} {x : Str} {p pos pos' : Pos}
/-- an expression whose value is such a generator, none of whose turns raises -/
structure PCGen (X : Cx) (k : Nat) (e : Expr) (tg : TGen) : Prop where
  run : ∀ (pins : List (Addr × Obj)) (s : Shared) (σ : L2.St) (H : Hp) (cont : List V → Hp → Prop), Inv X pins σ H s → tg σ H cont → wpAny (model X.prog X.w) X.A (eval e X.env)
    (fun u s' => ∃ H1 sc, Inv X pins σ H1 sc ∧ CMade X.prog X.w k X.stack H1 sc cont (fun _ _ _ => False) u s') X.xe s
theorem pcgen_call {e : Expr} {es : List Expr} {t : TA} (F : CFn X.prog X.w X.K X.mg X.base k f fd ps sp) (hr : Room k X.A) (hg : Gl X x) (hm : X.mg x = some (.ref f)) (hk : PySem.W.keepIn X.K (.ref f) = true) (hb : Binds X.K fd ps ds) (hd : Vals dvs ds)
    (ha : PA X (e :: es) t) (hdb : (x == ("__debug__" : Str)) = false := by decide) (he : starEach (e :: es) X.env = (false, eval e X.env) :: starEach es X.env := by rfl) (hpl : (backTo pos' (starEach es X.env)).any (·.1) = false := by rfl) :
    PCGen X k (.Call (.Name x p) (e :: es) [] pos') (tCallG sp dvs (fun _ _ _ => False) t) := by
  refine ⟨fun pins s σ H cont I h => ?_⟩
  refine wpAny_Call_Name_kw (ld_glob I hg hm ?_ hdb)
  refine PySem.W.callWith_K (h₀ := X.base) I.ok.mod.kin hk (thn (ha.run pos' pins s σ H _ I h) fun us s1 ⟨vs, H1, I1, r, q⟩ => ⟨I1.kIn, ?_⟩) he hpl
  have r2 : Vals (vs ++ dvs) (us ++ ds) := r.append hd
  have hl : (us ++ ds).length = ps.length := r2.length ▸ F.len _ _ _ _ q
  refine wpAny_call (codeAny_mono (F.run X.A X.stack s1 H1 ⟨us, []⟩ (us ++ ds) (vs ++ dvs) cont _ hr I1.env0 (hb s1 us I1.kIn hl) r2 q) fun r s2 z => ?_)
  match r, z with
  | .ok (.ret u), z => exact ⟨H1, s1, I1, z⟩
end
section
variable {P : Program} {w : World} {outer : List Env} {H : Hp} {sc : Shared} {Q : List V → Hp → Prop} {A : Around} {R : Result → Shared → Prop} {Z : Duo} {a : Addr} {g : Nat} {y : Str} {py py2 pos : Pos} {e : Expr} {scope : Scope} {ce : Env}
theorem lcG_loop (hh : A.handled = none) (hd : A.depth < recursionLimit) (cL : ce.locals = Z.C) (cK : ce.scope.kind = .function) (cY : ce.kindOf y = some .local) (hdb : (y == ("__debug__" : Str)) = false) (hSa : Z.S ≠ a) (hCa : Z.C ≠ a) (hSs : Z.S ≠ cStatics) (hCs : Z.C ≠ cStatics)
    (hend : ∀ s' acc c o H' ys, s'.heap.get? Z.S = some (lstObj acc c) → s'.heap.get? Z.C = some o → FrO o → Vals ys acc.toList → ys.length ≤ sizeLine → s'.os = sc.os → AllBare s'.gens → Un (frs outer) [] H H' sc.heap s'.heap → HOk P w H' s'.heap → H' Z.S = none → H' Z.C = none → Q ys H' → R (.ok .next) s')
    (m : Nat) (s : Shared) (hg : s.heap.IsGen a g) (hl : s.heap.NoLimit) (go : ∃ gs, s.gens[g]? = some gs ∧ gs.Goes (model P w) A.in1 (COff P w outer H sc Z Q fun _ _ _ => False) (CItem sc Z a g) m (.send .none) (s.setGen g .running)) :
    codeAny (model P w) A (.compLoop (.ListComp (.Name y py) [⟨.Name y py2, e, [], 0⟩] scope pos) 0 (.ref a) (.ref Z.S) ce) R s := by
  refine compLoop_any (fun n s => s.heap.IsGen a g ∧ s.heap.NoLimit ∧ ∃ gs, s.gens[g]? = some gs ∧ gs.Goes (model P w) A.in1 (COff P w outer H sc Z Q fun _ _ _ => False) (CItem sc Z a g) n (.send .none) (s.setGen g .running)) ?_ m ⟨hg, hl, go⟩
  rintro n s ⟨hg, hl, gs, hgs, hgo⟩
  have hgl : g < s.gens.size := (Array.getElem?_eq_some_iff.mp hgs).1
  refine wpAny_gsz (n := g + 1) hgl (next_genG (F := COut P w outer H sc Z Q) (Er := fun e s1 => CX P w outer H sc (fun _ _ _ => False) e s1) hh hl hd hg hgs hgo (fun v s1 gs' hbare hv => ?_) (fun s1 hp h' hk => ?_) fun e s1 he => ?_)
  · intro hsz
    obtain ⟨os1, hb1, hl1, hg1, ⟨acc, c, hS1, many⟩, ⟨o, hC1, fC⟩, wake⟩ := hv
    have room : acc.size < sizeLine := by omega
    have gsz : g < s1.gens.size := by
      have q : (s1.setGen g gs').gens.size = s1.gens.size := setGen_size _ _ _
      have hsz' : g + 1 ≤ (s1.setGen g gs').gens.size := hsz
      omega
    show wpAny _ A (.pure ()) _ _ _
    apply wpAny_pure
    obtain ⟨m0, hn0⟩ := fC.ns hC1
    refine wpAny_assign_Name (wpAny_storeName_local (m := m0) cY (by rw [cL]; exact hn0) (fun h1 hn1 sb1 => ?_) (by rw [cK]; rfl))
    apply wpAny_tests_nil
    rw [if_pos rfl]
    refine wpAny_Name (wpAny_loadName_local (v := v) cK cY hn1 (by simp) ?_) hdb
    rw [cL] at hn1 sb1
    obtain ⟨o2, hC2, f2⟩ := frO_ns hn1
    have hS2 : h1.get? Z.S = some (lstObj acc c) := (sb1.2 _ Z.ne).trans hS1
    refine append_at hS2 (fun h2 sb2 hS3 => ?_) (Nat.le_of_lt room)
    have meal : ∀ G : Array GenState, AllBare G → ∀ tk, Meal Z v s1 { s1 with heap := h2, gens := G, toks := tk } := fun G hG tk => by
      refine ⟨h1, o2, fun b u hb q => (sb1.2 b hb).trans q, hC2, f2, ⟨rfl, hG, fun b u hb q => (sb2.2 b hb).trans q, fun acc' c' q => ?_⟩⟩
      have q : h1.get? Z.S = some (lstObj acc' c') := q
      rw [hS2] at q
      cases q
      exact ⟨_, hS3⟩
    have bare2 : AllBare ((s1.setGen g gs').setGen g .running).gens := allBare_setGen (allBare_setGen hb1 hbare) rfl
    have next := wake _ (meal _ bare2 (s1.toks + 1))
    have keep : ∀ b u, b ≠ Z.S → b ≠ Z.C → s1.heap.get? b = some u → h2.get? b = some u := fun b u hS hC q => (sb2.2 b hS).trans ((sb1.2 b hC).trans q)
    cases n with
    | zero => exact next.elim
    | succ n =>
      refine ⟨n, Nat.lt_succ_self n, ?_, ?_, gs', setGen_at gsz, next⟩
      · obtain ⟨o, nm, qn, ho, r⟩ := hg1
        exact ⟨o, nm, qn, keep a o hSa.symm hCa.symm ho, r⟩
      · obtain ⟨mc, hns, hnn⟩ := hl1
        exact ⟨mc, hns.at' fun o e => keep _ o hSs.symm hCs.symm e, hnn⟩
  · intro hsz
    obtain ⟨H', ys, acc, c, o, os1, hb1, un, hok, hSn, hCn, hS1, hC1, fC, hv, hle, hQ⟩ := hp
    exact hend _ acc c o H' ys (hk _ _ hS1) (hk _ _ hC1) fC hv hle os1 (allBare_setGen hb1 rfl) (un.trans (Un.kept hk)) (hok.kept hk) hSn hCn hQ
  · obtain ⟨_, _, _, _, _, _, _, _, _, _, _, _, no⟩ := he
    exact no.elim
end
section
variable {X : Cx} {k : Nat} {p pos pos' : Pos}
theorem pe_lcG {e : Expr} {tg : TGen} {y : Str} {py py2 : Pos} {scope : Scope} {own : List (Str × Nat)} (h : PCGen X k e tg) (hr : Room (k + 1) X.A) (ok : BlkOk X.N X.env.scope scope own) (hy : scope.names.lookup y = some .local) (hd : (y == ("__debug__" : Str)) = false := by decide)
    (hs : ∀ z, foldedSetIterable e X.env z = pure z := by intro _; rfl) : PE X (.ListComp (.Name y py) [⟨.Name y py2, e, [], 0⟩] scope pos) (tListG tg) := by
  refine ⟨fun pins s σ H Q I hq => ?_⟩
  rw [eval_ListComp]
  have cells : ∀ y ∈ scope.names, y.2 = .free → ∃ c, X.env.cells.lookup y.1 = some c := fun y hy e => (ok.free y hy e).elim (fun z => I.ok.has _ (.inl z)) fun z => I.ok.has _ (.inr z)
  refine wpAny_comprehension_free (use := none) rfl hs (closure_ok cells) ok.kind (fun y hy e => by rw [ok.uniq y hy, e]) (thn (h.run pins s σ H _ I hq) fun u s1 ⟨H1, sc, I1, a, g, c, eu, ha1, ha2, hg, hgs, hos, hb, hl, hkp, wake⟩ => ?_)
  subst eu
  refine wpAny_pyIter_gen hg (wpAny_newObj_type (newEnv_comp ?_) (by show 0 ≤ sizeLine; decide))
  generalize hs3 : ({ s1 with heap := s1.heap.push { cls := .type "list", data := .seq ([] : List Value).toArray } } : Shared) = s3
  have h3 : s3.heap = s1.heap.push { cls := .type "list", data := .seq ([] : List Value).toArray } := by rw [← hs3]
  have g3 : s3.gens = s1.gens := by rw [← hs3]
  have o3 : s3.os = s1.os := by rw [← hs3]
  have z3 : s3.heap.objs.size = s1.heap.objs.size + 1 := by rw [h3, Heap.size_push]
  show codeAny _ _ (.compStart (.ListComp (.Name y py) [⟨.Name y py2, e, [], 0⟩] scope pos) 0 (.ref a) (.ref s1.heap.objs.size) (compEnvC scope (cellsFrom (s3.heap.objs.size + 1) scope.names (cloFrom X.env.cells scope.names [])) s3.heap.objs.size X.env)) (compPost (model X.prog X.w) X.A X.xe none _ (.ref s1.heap.objs.size) s3.heap.objs.size) { s3 with heap := pushCells (s3.heap.push { cls := .type "dict", data := .dict #[] }) scope.names }
  generalize hce : compEnvC scope (cellsFrom (s3.heap.objs.size + 1) scope.names (cloFrom X.env.cells scope.names [])) s3.heap.objs.size X.env = ce
  have cL : ce.locals = s3.heap.objs.size := by rw [← hce]; rfl
  have cK : ce.scope.kind = .function := by rw [← hce]; exact ok.kind
  have cY : ce.kindOf y = some .local := by
    rw [← hce]
    exact lookup_relS_keep (by decide) hy
  have kp4 : ∀ b o, s1.heap.get? b = some o → (pushCells (s3.heap.push { cls := .type "dict", data := .dict #[] }) scope.names).get? b = some o := fun b o q => pushCells_keeps _ _ _ _ (Heap.get?_push_of_some _ (by rw [h3]; exact Heap.get?_push_of_some _ q))
  have eS4 : (pushCells (s3.heap.push { cls := .type "dict", data := .dict #[] }) scope.names).get? s1.heap.objs.size = some (lstObj #[] 0) := pushCells_keeps _ _ _ _ (Heap.get?_push_of_some _ (by rw [h3]; exact Heap.get?_push_size _ rfl))
  have eC4 : (pushCells (s3.heap.push { cls := .type "dict", data := .dict #[] }) scope.names).Ns s3.heap.objs.size (fun _ => none) := Heap.Ns.keeps (Heap.Ns.new ..) fun b o q => pushCells_keeps _ _ _ _ q
  have ne : s1.heap.objs.size ≠ s3.heap.objs.size := by omega
  have eC4' := frO_ns eC4
  have lt3 : s1.heap.objs.size < s3.heap.objs.size := by rw [z3]; exact Nat.lt_succ_self _
  have kin : cStatics < s1.heap.objs.size := let ⟨_, hn, _⟩ := hl; hn.lt
  have loop : codeAny (model X.prog X.w) X.A (.compLoop (.ListComp (.Name y py) [⟨.Name y py2, e, [], 0⟩] scope pos) 0 (.ref a) (.ref s1.heap.objs.size) ce) (compPost (model X.prog X.w) X.A X.xe none (EP X pins σ Q) (.ref s1.heap.objs.size) s3.heap.objs.size) { s3 with heap := pushCells (s3.heap.push { cls := .type "dict", data := .dict #[] }) scope.names } := by
    refine lcG_loop (Z := ⟨s1.heap.objs.size, s3.heap.objs.size, ne⟩) (P := X.prog) (w := X.w) (outer := X.stack) (H := H1) (sc := sc) (Q := fun out H2 => ∀ p, H2 p = none → Q (.ref p) (upd H2 p (.lst out))) (g := g) hr.hd hr.depth cL cK cY hd ?_ ?_ ?_ ?_ (fun s' acc c o H' ys q1 q2 q3 q4 q5 q6 q7 q8 q9 q10 q11 q12 => ?_) sizeLine _ (hg.keeps kp4) (hl.keeps kp4) ⟨.fresh c, ?_, rfl, ?_⟩
    · exact Nat.ne_of_gt ha2
    · exact Nat.ne_of_gt (Nat.lt_trans ha2 lt3)
    · exact Nat.ne_of_gt kin
    · exact Nat.ne_of_gt (Nat.lt_trans kin lt3)
    · obtain ⟨m, hm⟩ := q3.ns q2
      refine ⟨m, hm, fun h' sb => ?_⟩
      have low : sc.heap.objs.size ≤ s1.heap.objs.size := Nat.le_trans ha1 (Nat.le_of_lt ha2)
      have J := I1.drained low q5 q1 q4 .nil q6 q7 q8 q9 q10
      obtain ⟨f0, f1, f2, f3, f4, f5⟩ := I1.fpOk (H' := upd H' s1.heap.objs.size (.lst ys)) (Nat.le_trans low (Nat.le_of_lt lt3)) (by rw [upd_ne (Ne.symm ne)]; exact q11)
      exact ⟨.ref s1.heap.objs.size, _, J.turned (t' := s'.toks) (fun b o hb e => (sb.2 b hb).trans e) f0 f1 f3 f4 f5, rfl, q12 _ q10⟩
    · show s3.gens[g]? = _
      rw [g3]
      exact hgs
    · refine wake X.A.in1 ⟨s1.heap.objs.size, s3.heap.objs.size, ne⟩ _ hr.in1 I1.ok.frames (Nat.le_refl _) (Nat.le_of_lt lt3) kp4 ⟨0, eS4⟩ eC4' ?_ ?_
      · show s3.os = _
        rw [o3]
        exact hos
      · exact allBare_setGen (s := { s3 with heap := _ }) (by show AllBare s3.gens; rw [g3]; exact hb) rfl
  exact codeAny_compStart_list loop (wpAny_pyIter_gen (hg.keeps kp4) loop)
end
end Sea

set_option Elab.async false
set_option linter.all false
set_option maxRecDepth 100000
set_option maxHeartbeats 4000000
/-! one derivation for both readings of a generator def: list(f(..)) and [x for x in f(..)] -/
namespace Sea
open PySem PySem.Spec PyProof.Rows L2 GenW
section
variable {X : Cx} {pos : Pos}
def Bo (X : Cx) (st : Stmt) (t : TGn) : Prop := GS X st t ∧ CRun X (exec st X.env) t
def Bos (X : Cx) (b : List Stmt) (t : TGn) : Prop := GSs X b t ∧ CRun X (execs b X.env) t
theorem b_ps {st : Stmt} {t : TS} (h : PS X st t) : Bo X st (tPlain t) := ⟨gs_ps h, cs_ps h⟩
theorem bs_nil : Bos X [] tG0 := ⟨gss_nil, css_nil⟩
theorem bs_cons {st : Stmt} {rest : List Stmt} {t u : TGn} (a : Bo X st t) (b : Bos X rest u) : Bos X (st :: rest) (tGThen t u) := ⟨gss_cons a.1 b.1, css_cons a.2 b.2⟩
theorem b_yield {e : Expr} {yp : Pos} {te : TE} (he : PE X e te) (hco : X.env.scope.isCoroutine = false := by rfl) (hi : interactive X.env = false := by rfl) : Bo X (.Expr (.Yield (some e) yp) pos) (tGYield te) := ⟨gs_yield he hco hi, cs_yield he hco hi⟩
theorem b_if {c : Expr} {a b : List Stmt} {tc : TT} {t u : TGn} (hc : PT X c tc) (ha : Bos X a t) (hb : Bos X b u) : Bo X (.If c a b pos) (tGIf tc t u) := ⟨gs_if hc ha.1 hb.1, cs_if hc ha.2 hb.2⟩
theorem b_for {tg iter : Expr} {body : List Stmt} {wi : TI} {gt : TG} {tb : TGn} (hp : PassesOwn (model X.prog X.w) X.A X.env X.xe) (calm : X.calm = true) (hi : PI X tg iter wi) (hg : PG X tg gt) (hb : Bos X body tb)
    (hs : ∀ x, foldedSetIterable iter X.env x = pure x := by intro _; rfl) : Bo X (.For tg iter body [] pos) (tGFor wi gt tb) := ⟨gs_for hp calm hi hg hb.1 hs, cs_for hp calm hi hg hb.2 hs⟩
end
section
variable {P : Program} {w : World} {K : PySem.W.Frag} {mg : Str → Option Value} {base : Heap} {k : Nat} {f : Addr} {name qual : Str} {params : Arguments} {body : List Stmt} {scope : Scope} {dV kV doc pm cdv ct oc : Value} {an od : Option Addr} {osl : Array (Option Value)} {N ps : List Str} {sp : SpG}
theorem both_of (lk : K.lookup f = some ⟨oc, od, .func (PySem.W.fnOf name qual params body scope dV kV doc pm an cdv ct), osl⟩) (hcd : PySem.W.codeIn K cdv qual = true) (S : GScope N ps scope) (len : ∀ vs H Q E, sp vs H Q E → vs.length = ps.length)
    (hbody : ∀ (A : Around) (outer : List Env) (s : Shared) (H : Hp) (vs : List V) (Q : List V → Hp → Prop) (E : XK) (pn : List (Addr × Obj)), Room k (A.deeper (envOfC qual scope s.heap.objs.size f cdv)) → sp vs H Q E →
      ∃ t, Bos (gcxOf P w K mg base N qual scope f cdv A outer s H E pn) body t ∧ t { nx := fun ys _ H' => Q ys H', rt := fun ys v H' => v = .non ∧ Q ys H' } [] (start N vs) H) :
    GFn P w K mg base (k + 1) f (PySem.W.fnOf name qual params body scope dV kV doc pm an cdv ct) ps sp ∧ CFn P w K mg base (k + 1) f (PySem.W.fnOf name qual params body scope dV kV doc pm an cdv ct) ps sp :=
  ⟨gfn_of lk hcd S len fun A o s H vs Q E pn hr h => let ⟨t, b, q⟩ := hbody A o s H vs Q E pn hr h; ⟨t, b.1, q⟩, cfn_of lk hcd S len fun A o s H vs Q E pn hr h => let ⟨t, b, q⟩ := hbody A o s H vs Q E pn hr h; ⟨t, b.2, q⟩⟩
end
theorem gfor_rounds {I : It} {g : TG} {tb : TGn} {D : GEnds} {ys : List V} {σ : L2.St} {H : Hp} (n : Nat) (Pv : Nat → List V → L2.St → Hp → Prop) (start : Pv 0 ys σ H)
    (round : ∀ i ys σ H, i < n → Pv i ys σ H → I.go i H ∧ ∀ x H', I.yld i H x H' → g x σ H' fun σ2 H2 => tb { D with nx := Pv (i + 1), ct := Pv (i + 1), bk := D.nx } ys σ2 H2)
    (dry : ∀ ys σ H, Pv n ys σ H → I.stop n H ∧ D.nx ys σ H) :
    ∃ W : Nat → Nat → List V → L2.St → Hp → Prop, (∃ m, W 0 m ys σ H) ∧ ∀ i m ys σ H, W i m ys σ H →
      (I.stop i H ∧ D.nx ys σ H) ∨ (I.go i H ∧ ∃ N : List V → L2.St → Hp → Prop, (∀ ys σ H, N ys σ H → ∃ m', m' < m ∧ W (i + 1) m' ys σ H) ∧ ∀ x H', I.yld i H x H' → g x σ H' fun σ2 H2 => tb { D with nx := N, ct := N, bk := D.nx } ys σ2 H2) := by
  refine ⟨fun i m ys σ H => m + i = n ∧ Pv i ys σ H, ⟨n, rfl, start⟩, ?_⟩
  rintro i (_ | m) ys σ H ⟨e, p⟩
  · rw [Nat.zero_add] at e
    exact .inl (e ▸ dry ys σ H (e ▸ p))
  · have ⟨go, each⟩ := round i ys σ H (by omega) p
    exact .inr ⟨go, Pv (i + 1), fun _ _ _ z => ⟨m, Nat.lt_succ_self m, by omega, z⟩, each⟩
end Sea

set_option Elab.async false
set_option linter.all false
set_option maxRecDepth 100000
set_option maxHeartbeats 4000000
/-! xs[::c] of a list, c a written number -/
namespace Sea
open PySem PySem.Spec PyProof.Rows L2
def every {α : Type} (xs : List α) (d : α) (c : Nat) : List α := (List.range ((xs.length + c - 1) / c)).map fun k => xs.getD (c * k) d
theorem every_lt {n c k : Nat} (hc : 0 < c) (h : k < (n + c - 1) / c) : c * k < n := by
  have h1 : (k + 1) * c ≤ n + c - 1 := (Nat.le_div_iff_mul_le hc).mp h
  rw [Nat.add_mul, Nat.one_mul, Nat.mul_comm] at h1
  omega
theorem step_range {n c : Nat} (hc : 0 < c) : sliceRange 0 (n : Int) (c : Int) = (List.range ((n + c - 1) / c)).map (c * ·) := by
  unfold sliceRange
  have e : (if (c : Int) > 0 then (if (0 : Int) < (n : Int) then ((n : Int) - 0 + (c : Int) - 1) / (c : Int) else 0) else (if (0 : Int) > (n : Int) then (0 - (n : Int) - (c : Int) - 1) / (-(c : Int)) else 0)).toNat = (n + c - 1) / c := by
    rw [if_pos (by omega)]
    by_cases h : 0 < n
    · rw [if_pos (by omega), show (n : Int) - 0 + (c : Int) - 1 = ((n + c - 1 : Nat) : Int) by omega]
      rfl
    · rw [if_neg (by omega)]
      obtain rfl : n = 0 := by omega
      rw [Nat.zero_add, Nat.div_eq_of_lt (by omega)]
      rfl
  show (List.range _).map _ = _
  rw [e]
  refine List.map_congr_left fun k _ => ?_
  rw [show (0 : Int) + (c : Int) * (k : Int) = ((c * k : Nat) : Int) by rw [Int.zero_add]; rfl]
  rfl
theorem pick_step (its : List Value) {c : Nat} (hc : 0 < c) : slicePick its.toArray none none (some (c : Int)) = (every its .none c).toArray := by
  have b : sliceBounds none none (some (c : Int)) its.toArray.size = (0, (its.length : Int), (c : Int)) := by
    unfold sliceBounds
    have h : (c : Int) > 0 := by omega
    have n0 : c ≠ 0 := by omega
    simp [h, n0]
  unfold slicePick
  rw [b, step_range hc]
  unfold every
  congr 1
  rw [List.filterMap_map]
  have go : ∀ l : List Nat, (∀ k ∈ l, c * k < its.length) → l.filterMap ((fun x => its.toArray[x]?) ∘ fun x => c * x) = l.map fun k => its.getD (c * k) .none := by
    intro l
    induction l with
    | nil => exact fun _ => rfl
    | cons k l ih =>
      intro h
      have hk := h k List.mem_cons_self
      have e : ((fun x => its.toArray[x]?) ∘ fun x => c * x) k = some (its.getD (c * k) .none) := by
        show its.toArray[c * k]? = _
        rw [List.getElem?_toArray, List.getD_eq_getElem?_getD, List.getElem?_eq_getElem hk]
        rfl
      rw [List.filterMap_cons_some e, List.map_cons, ih fun j hj => h j (List.mem_cons_of_mem _ hj)]
  exact go _ fun k hk => every_lt hc (List.mem_range.mp hk)
theorem vals_every {xs : List V} {its : List Value} (r : Vals xs its) {c : Nat} (hc : 0 < c) : Vals (every xs .non c) (every its .none c) := by
  unfold every
  rw [r.length]
  have go : ∀ l : List Nat, (∀ k ∈ l, c * k < xs.length) → Vals (l.map fun k => xs.getD (c * k) .non) (l.map fun k => its.getD (c * k) .none) := by
    intro l
    induction l with
    | nil => exact fun _ => .nil
    | cons k l ih =>
      intro h
      have hk := h k List.mem_cons_self
      have e := List.getElem?_eq_getElem hk
      obtain ⟨u, hu, ru⟩ := r.get e
      refine .cons ?_ (ih fun j hj => h j (List.mem_cons_of_mem _ hj))
      show RelV (xs.getD (c * k) .non) (its.getD (c * k) .none)
      rw [List.getD_eq_getElem?_getD, List.getD_eq_getElem?_getD, e, hu]
      exact ru
  exact go _ fun k hk => every_lt hc (by rw [r.length]; exact List.mem_range.mp hk)
def tStepL (K : PySem.W.Frag) (c : Nat) (te : TE) : TE := fun σ H Q => te σ H fun x H1 => ∃ a xs, x = .ref a ∧ SqL K H1 a xs ∧ ∀ p, H1 p = none → Q (.ref p) (upd H1 p (.lst (every xs .non c)))
theorem pe_stepL {X : Cx} {e : Expr} {te : TE} {k c : Nat} {p1 p3 pos : Pos} (he : PE X e te) (hc : 0 < c) (hd : PE X (.Constant (.int (c : Int)) k p1) (tC (.int (c : Int)))) : PE X (.Subscript e (.Slice none none (some (.Constant (.int (c : Int)) k p1)) p3) pos) (tStepL X.K c te) := by
  constructor
  intro pins s σ H Q I h
  have step : PO X (some (.Constant (.int (c : Int)) k p1)) (tPart (tC (.int (c : Int)))) := po_some hd
  refine Subscript_ (thn (he.run pins s σ H _ I h) ?_)
  rintro v s1 ⟨x, H1, I1, r1, a, xs, rfl, hx, q⟩
  obtain rfl : v = .ref a := r1
  apply wpAny_Slice
  refine thn (po_none.run pins s1 σ H1 (fun o H2 => (o, H2) = (none, H1)) I1 rfl) ?_
  rintro vl s2 ⟨_, _, I2, pl, e⟩
  cases e
  refine thn (po_none.run pins s2 σ H1 (fun o H2 => (o, H2) = (none, H1)) I2 rfl) ?_
  rintro vu s3 ⟨_, _, I3, pu, e⟩
  cases e
  refine thn (step.run pins s3 σ H1 (fun o H2 => (o, H2) = (some (c : Int), H1)) I3 ⟨_, rfl, rfl⟩) ?_
  rintro vs s4 ⟨_, _, I4, ps, e⟩
  cases e
  have I5 : Inv X pins σ H1 { s4 with heap := s4.heap.push { cls := .type "slice", data := .fields #[vl, vu, vs] } } := I4.kept (t' := s4.toks) fun _ _ z => Heap.get?_push_of_some _ z
  obtain ⟨its, r, ht, hz⟩ := I5.list hx
  have hlen := r.length
  refine tail_any (ops := [.ref a, .ref s4.heap.objs.size]) ht.isList.typeIs (PySem.slot_list_getitem.lookup) ?_ (by with_unfolding_all rfl)
  refine wpAny_getItem_list_slice ht.isList (Heap.IsSliceOf.new _ vl vu vs) pl pu ps (by intro z; injection z with z; omega) ?_ (by rw [List.size_toArray]; omega)
  rw [pick_step its hc]
  have many : (every xs .non c).length ≤ xs.length := by
    unfold every
    rw [List.length_map, List.length_range]
    rcases Nat.eq_zero_or_pos xs.length with z | z
    · rw [z, Nat.zero_add, Nat.div_eq_of_lt (by omega)]
      exact Nat.le_refl _
    · refine (Nat.div_le_iff_le_mul_add_pred hc).mpr ?_
      have : xs.length ≤ c * xs.length := Nat.le_mul_of_pos_left _ hc
      omega
  refine ⟨.ref _, _, I5.laid (t' := s4.toks) (o := .lst (every xs .non c)) (fun _ _ z => Heap.get?_push_of_some _ z) (Nat.le_refl _) ?_, rfl, q _ (I5.hok.fresh (Nat.le_refl _))⟩
  exact ⟨Nat.le_trans many hz, _, 0, vals_every r hc, Heap.get?_push_size _ rfl⟩
end Sea

set_option Elab.async false
set_option linter.all false
set_option maxRecDepth 100000
set_option maxHeartbeats 4000000
namespace Sea
open PySem PySem.Spec PyProof.Rows L2 LamX NdefX ClX Evl StX
def top (i : Nat) : Stmt := PySem.Challenge.pw_seasonpass_k41_whole_buyers_day_by_day.main.body.getD i (.Pass ⟨0, 0, 0, 0⟩)
abbrev sStart : Stmt := top 32
abbrev sDrawn : Stmt := top 33
/-! ### draws, second kind: the state keeps the script, a place, a number of its own, the rest of a large cell -/
def Ds (K : PySem.W.Frag) (H : Hp) (h c : Addr) : Prop := ∃ (p m r : Int) (ns : List Int), 0 ≤ p ∧ H h = some (.lst [.ref c, .int p, .int m, .int r]) ∧ SqL K H c (ns.map V.int) ∧ ns.length ≤ 63
/-- all kept but one -/
def Kh (h : Addr) (H H' : Hp) : Prop := ∀ b o, H b = some o → b ≠ h → H' b = some o
theorem Kh.refl {h : Addr} {H : Hp} : Kh h H H := fun _ _ e _ => e
theorem Kh.trans {h : Addr} {H H1 H2 : Hp} (a : Kh h H H1) (b : Kh h H1 H2) : Kh h H H2 := fun x o e n => b x o (a x o e n) n
theorem Kh.same {h : Addr} {H H' : Hp} (s : Same H H') : Kh h H H' := fun b o e _ => s b o e
theorem Kh.at {h : Addr} {H : Hp} {o : HO} : Kh h H (upd H h o) := fun b x e n => by
  rw [upd_ne n]
  exact e
/-- the script is read on, whatever is written to the state -/
theorem scr_keep {K : PySem.W.Frag} {H H' : Hp} {h c : Addr} {p m r : Int} {ns : List Int} (e : H h = some (.lst [.ref c, .int p, .int m, .int r])) (s : SqL K H c (ns.map V.int)) (k : Kh h H H') : SqL K H' c (ns.map V.int) := by
  rcases s with s | s
  · have ne : c ≠ h := by
      rintro rfl
      rcases s with s | ⟨o, s⟩
      · rw [e] at s
        match ns, s with
        | [], s => cases s
        | n :: r, s => cases s
      · rw [e] at s
        cases s
    rcases s with s | ⟨o, s⟩
    · exact .inl (.inl (k _ _ s ne))
    · exact .inl (.inr ⟨o, k _ _ s ne⟩)
  · exact .inr s
theorem Ds.same {K : PySem.W.Frag} {H H' : Hp} {h c : Addr} (d : Ds K H h c) (s : Same H H') : Ds K H' h c := by
  obtain ⟨p, m, r, ns, h0, e1, e2, l⟩ := d
  exact ⟨p, m, r, ns, h0, s _ _ e1, ex_l s e2, l⟩
theorem Ds.tk {K : PySem.W.Frag} {H H' : Hp} {h c : Addr} (d : Ds K H h c) (k : Kh h H H') : TK K H H' := by
  obtain ⟨p, m, r, ns, _, e1, _, _⟩ := d
  refine .but (fun b => b = h) (fun b o e n => k b o e n) fun b xs z => ?_
  rw [z]
  exact Rd.lst_no e1
theorem Ds.nh {K : PySem.W.Frag} {H : Hp} {h c b : Addr} (d : Ds K H h c) (n : H b = none) : b ≠ h := by
  obtain ⟨p, m, r, ns, _, e1, _, _⟩ := d
  rintro rfl
  rw [e1] at n
  cases n
theorem Ds.new {K : PySem.W.Frag} {H : Hp} {h c a : Addr} {o : HO} (d : Ds K H h c) (n : H a = none) : Ds K (upd H a o) h c := d.same (same_new n)
/-- a list of one's own is written, made behind the heap H0: the draws stand -/
theorem Ds.put {K : PySem.W.Frag} {H0 H : Hp} {h c l : Addr} {o : HO} (d0 : Ds K H0 h c) (k : Kh h H0 (upd H l o)) (d : Ds K H h c) (n : l ≠ h) : Ds K (upd H l o) h c := by
  obtain ⟨_, _, _, ns, _, e1, e2, l2⟩ := d0
  obtain ⟨p, m, r, _, p0, f1, _, _⟩ := d
  exact ⟨p, m, r, ns, p0, by rw [upd_ne n.symm]; exact f1, scr_keep e1 e2 k, l2⟩
theorem scStart : FnScope ["_law_script", "_law_mixed", "_law_cell"] ["_law_script"] (defScope sStart) := ⟨rfl, rfl, rfl, by decide +kernel, rfl, by decide +kernel, by decide +kernel⟩
theorem scDrawn : FnScope ["_law_state", "_law_count", "_law_result", "_law_cell"] ["_law_state", "_law_count"] (defScope sDrawn) := ⟨rfl, rfl, rfl, by decide +kernel, rfl, by decide +kernel, by decide +kernel⟩
def spStart (K : PySem.W.Frag) : Sp := fun vs H Q _ => ∃ (a : Addr) (ns : List Int), vs = [.ref a] ∧ SqL K H a (ns.map V.int) ∧ ns.length ≤ 63 ∧ ∀ (h : Addr) (H' : Hp), Same H H' → H h = none → Ds K H' h a → Q (.ref h) H'
def spDrawn (K : PySem.W.Frag) : Sp := fun vs H Q _ => ∃ (h c : Addr) (lim : Int), vs = [.ref h, .int lim] ∧ 0 < lim ∧ lim.natAbs.log2 < 9000 ∧ Ds K H h c ∧ ∀ (v : Int) (H' : Hp), 0 ≤ v → v < lim → Ds K H' h c → Kh h H H' → Q (.int v) H'
section
variable {P : Program} {w : World} {K : PySem.W.Frag} {mg : Str → Option Value} {base : Heap}
theorem ok_start {f : Addr} {fd : FuncData} {k : Nat} (F : Fun K "_law_start" "_law_start" sStart f fd) : FnOk P w K mg base CX0 (k + 1) f fd ["_law_script"] (spStart K) := by
  refine F.ok scStart (fun vs H Q E h => ?_) (fun cdv A outer s H vs Q E hr h => ?_)
  · obtain ⟨a, ns, rfl, _⟩ := h
    rfl
  · obtain ⟨a, ns, rfl, hS, hlen, q⟩ := h
    refine ⟨_, pss_cons (ps_set (i := 1) scStart.nd rfl (.inl rfl) pe_int) (pss_cons (ps_for PassesOwn.never rfl (pi_list (pv 0)) (pg_name (i := 2) scStart.nd rfl (.inl rfl))
        (pss_one (ps_set (i := 1) scStart.nd rfl (.inl rfl) (pe_op op_modN (pe_op op_add (pe_op op_add (pe_op op_mul (pv 1) pe_int) (pv 2)) pe_int) pe_int))))
      (pss_one (ps_ret (pe_lst (pa_cons (pv 0) (pa_cons pe_int (pa_cons (pv 1) (pa_cons pe_int pa_nil)))))))), ?_⟩
    refine ⟨_, rfl, a, rfl, ⟨_, hS⟩, for_list (K := K) (a := a) (xs := ns.map V.int) (fun i σ H' => ∃ (m : Int) (v : Option V), σ = [some (.ref a), some (.int m), v] ∧ H' = H)
      ⟨1, none, rfl, rfl⟩ (fun i σ H' _ ⟨_, _, _, e⟩ => by rw [e]; exact hS) ?_ ?_⟩
    · rintro i y σ H' hi ⟨m, v, rfl, rfl⟩
      obtain ⟨u, rfl⟩ : ∃ u, y = V.int u := by
        rw [List.getElem?_map] at hi
        cases e : ns[i]? with
        | none => rw [e] at hi; cases hi
        | some u => rw [e] at hi; exact ⟨u, (Option.some.inj hi).symm⟩
      refine ⟨_, rfl, _, _, rfl, rfl, .inr ⟨by decide, by decide⟩, _, rfl, _, _, rfl, rfl, _, _, rfl, rfl, _, _, rfl, rfl, (by show (2147483647 : Int) ≠ 0; decide), ?_⟩
      exact ⟨_, _, rfl, rfl⟩
    · rintro σ H' ⟨m, v, rfl, rfl⟩
      refine ⟨_, rfl, _, rfl, Nat.le_of_lt (small1000 (show 4 ≤ 1000 by decide)), fun l nl => ?_⟩
      exact q l _ (same_new nl) nl ⟨0, m, 0, ns, Int.le_refl 0, upd_same, ex_l (Ex.new nl) hS, hlen⟩
theorem ok_drawn {f : Addr} {fd : FuncData} {k : Nat} (F : Fun K "_law_drawn" "_law_drawn" sDrawn f fd) (mN : mg "len" = none) : FnOk P w K mg base CX0 (k + 1) f fd ["_law_state", "_law_count"] (spDrawn K) := by
  refine F.ok scDrawn (fun vs H Q E h => ?_) (fun cdv A outer s H vs Q E hr h => ?_)
  · obtain ⟨h, c, lim, rfl, _⟩ := h
    rfl
  · obtain ⟨h, c, lim, rfl, l0, l1, ⟨p, m, r, ns, p0, e1, e2, hlen⟩, q⟩ := h
    refine ⟨_, pss_cons (ps_if (pt_cmpR op_gt (pe_ixl (pv 0) pe_int) pe_int (nomark _))
          (pss_cons (ps_set (i := 2) scDrawn.nd rfl (.inl rfl) (pe_op op_modN (pe_ixl (pv 0) pe_int) (pv 1)))
          (pss_cons (ps_asg (pe_op op_fdivW (pe_ixl (pv 0) pe_int) (pv 1)) (pg_sub (pv 0) pe_int set_list))
            (pss_one (ps_ret (pv 2))))) pss_nil)
      (pss_cons (ps_asg (pe_op op_add (pe_ixl (pv 0) pe_int) pe_int) (pg_sub (pv 0) pe_int set_list))
      (pss_cons (ps_if (pt_cmpR L2.op_le (pe_ixl (pv 0) pe_int) (pe_callB call_len_seq (by rfl) mN PySem.boot_len (pa_cons (pe_ixl (pv 0) pe_int) pa_nil)) (nomark _))
          (pss_cons (ps_set (i := 3) scDrawn.nd rfl (.inl rfl) (pe_ixl (pe_ixl (pv 0) pe_int) (pe_op op_sub (pe_ixl (pv 0) pe_int) pe_int)))
          (pss_cons (ps_asg (pe_ifExp (pt_cmpR op_ge (pv 3) (pe_op op_pow pe_int pe_int) (nomark _)) (pe_op op_fdivW (pv 3) (pv 1)) pe_int) (pg_sub (pv 0) pe_int set_list))
            (pss_one (ps_ret (pe_op op_modN (pv 3) (pv 1)))))) pss_nil)
      (pss_cons (ps_asg (pe_op op_modN (pe_op op_add (pe_op op_mul (pe_ixl (pv 0) pe_int) pe_int) pe_int) pe_int) (pg_sub (pv 0) pe_int set_list))
      (pss_one (ps_ret (pe_op op_modN (pe_op op_fdivN (pe_ixl (pv 0) pe_int) pe_int) (pv 1))))))), ?_⟩
    have n0 : lim ≠ 0 := Int.ne_of_gt l0
    have done : ∀ (v m' r' p' : Int) (H' : Hp), 0 ≤ p' → H' h = some (.lst [.ref c, .int p', .int m', .int r']) → Kh h H H' → Q (.int (v.fmod lim)) H' := fun v m' r' p' H' hp' e k =>
      q _ _ (Int.fmod_nonneg_of_pos _ l0) (Int.fmod_lt_of_pos _ l0) ⟨p', m', r', ns, hp', e, scr_keep e1 e2 k, hlen⟩ k
    refine ⟨_, rfl, h, _, 3, _, rfl, rfl, SqL.of e1, rfl, _, _, rfl, rfl, _, rfl, ?_⟩
    refine ite2 (fun hgt => ?_) (fun _ => ?_)
    · refine ⟨_, rfl, h, _, 3, _, rfl, rfl, SqL.of e1, rfl, _, rfl, _, _, rfl, rfl, n0, ?_⟩
      refine ⟨_, rfl, h, _, 3, _, rfl, rfl, SqL.of e1, rfl, _, rfl, _, _, rfl, rfl, ⟨l0, l1⟩, ?_⟩
      refine ⟨_, rfl, h, _, 3, 3, rfl, rfl, e1, rfl, ?_⟩
      refine ⟨_, rfl, ?_⟩
      exact done r m _ p _ p0 upd_same Kh.at
    · refine ⟨_, rfl, h, _, 1, _, rfl, rfl, SqL.of e1, rfl, _, _, rfl, rfl, ?_⟩
      refine ⟨_, rfl, h, _, 1, 1, rfl, rfl, e1, rfl, ?_⟩
      have f1 : upd H h (.lst [V.ref c, .int (p + 1), .int m, .int r]) h = some (.lst [V.ref c, .int (p + 1), .int m, .int r]) := upd_same
      have f2 : SqL K (upd H h (.lst [V.ref c, .int (p + 1), .int m, .int r])) c (ns.map V.int) := scr_keep e1 e2 Kh.at
      refine ⟨_, rfl, h, _, 1, _, rfl, rfl, SqL.of f1, rfl, ?_⟩
      refine ⟨_, rfl, h, _, 0, _, rfl, rfl, SqL.of f1, rfl, c, _, rfl, .inl (f2), _, _, rfl, rfl, _, rfl, ?_⟩
      refine ite2 (fun hle => ?_) (fun _ => ?_)
      · have hle := of_decide_eq_true hle
        rw [List.length_map] at hle
        obtain ⟨j, rfl⟩ := Int.eq_ofNat_of_zero_le p0
        have hj : j < ns.length := by omega
        have hat : atI (ns.map V.int) ((j : Int) + 1 - 1) = some (.int ns[j]) := by
          rw [Int.add_sub_cancel]
          refine at_nat (by rw [List.length_map]; exact hj) ?_
          rw [List.getElem?_map, List.getElem?_eq_getElem hj]
          rfl
        refine ⟨_, rfl, h, _, 0, _, rfl, rfl, SqL.of f1, rfl, _, rfl, h, _, 1, _, rfl, rfl, SqL.of f1, rfl, _, _, rfl, rfl, c, _, _, _, rfl, rfl, f2, hat, ?_⟩
        refine ⟨_, rfl, _, _, rfl, rfl, ⟨by decide, by decide, by decide⟩, _, _, rfl, rfl, _, rfl, ?_⟩
        refine ite2 (fun _ => ?_) (fun _ => ?_)
        · refine ⟨_, rfl, _, rfl, _, _, rfl, rfl, ⟨l0, l1⟩, ?_⟩
          refine ⟨_, rfl, h, _, 3, 3, rfl, rfl, f1, rfl, ?_⟩
          refine ⟨_, rfl, _, rfl, _, _, rfl, rfl, n0, ?_⟩
          exact done _ _ _ _ _ (by omega) upd_same (Kh.at.trans Kh.at)
        · refine ⟨_, rfl, h, _, 3, 3, rfl, rfl, f1, rfl, ?_⟩
          refine ⟨_, rfl, _, rfl, _, _, rfl, rfl, n0, ?_⟩
          exact done _ _ _ _ _ (by omega) upd_same (Kh.at.trans Kh.at)
      · refine ⟨_, rfl, h, _, 2, _, rfl, rfl, SqL.of f1, rfl, _, _, rfl, rfl, .inr ⟨by decide, by decide⟩, _, _, rfl, rfl, _, _, rfl, rfl, (by show (2147483647 : Int) ≠ 0; decide), ?_⟩
        refine ⟨_, rfl, h, _, 2, 2, rfl, rfl, f1, rfl, ?_⟩
        refine ⟨_, rfl, h, _, 2, _, rfl, rfl, SqL.of upd_same, rfl, _, _, rfl, rfl, ⟨by decide, by decide⟩, _, rfl, _, _, rfl, rfl, n0, ?_⟩
        exact done _ _ _ _ _ (by omega) upd_same (Kh.at.trans Kh.at)
end
end Sea

set_option Elab.async false
set_option linter.all false
set_option maxRecDepth 100000
set_option maxHeartbeats 4000000
namespace Sea
open PySem PySem.Spec PyProof.Rows L2 LamX NdefX ClX Evl StX
def PrV (K : PySem.W.Frag) (H : Hp) (v : V) (x : Int × Int) : Prop := ∃ b, v = .ref b ∧ SqT K H b [.int x.1, .int x.2]
inductive PsV (K : PySem.W.Frag) (H : Hp) : List V → List (Int × Int) → Prop
  | nil : PsV K H [] []
  | cons {v : V} {x : Int × Int} {vs : List V} {L : List (Int × Int)} : PrV K H v x → PsV K H vs L → PsV K H (v :: vs) (x :: L)
theorem PrV.tk {K : PySem.W.Frag} {H H' : Hp} {v : V} {x : Int × Int} (t : TK K H H') (h : PrV K H v x) : PrV K H' v x := by
  obtain ⟨b, e, h⟩ := h
  exact ⟨b, e, t _ _ h⟩
theorem PsV.tk {K : PySem.W.Frag} {H H' : Hp} {vs : List V} {L : List (Int × Int)} (t : TK K H H') (h : PsV K H vs L) : PsV K H' vs L := by
  induction h with
  | nil => exact .nil
  | cons a _ ih => exact .cons (a.tk t) ih
theorem PsV.len {K : PySem.W.Frag} {H : Hp} {vs : List V} {L : List (Int × Int)} (h : PsV K H vs L) : vs.length = L.length := by
  induction h with
  | nil => rfl
  | cons _ _ ih => rw [List.length_cons, List.length_cons, ih]
theorem PsV.get {K : PySem.W.Frag} {H : Hp} {vs : List V} {L : List (Int × Int)} (h : PsV K H vs L) : ∀ {i : Nat} {v : V}, vs[i]? = some v → ∃ x, L[i]? = some x ∧ PrV K H v x := by
  induction h with
  | nil =>
    intro i v e
    simp at e
  | @cons v0 x0 vs0 L0 a _ ih =>
    intro i v e
    cases i with
    | zero =>
      have e' : v0 = v := by simpa using e
      exact ⟨x0, by simp, e' ▸ a⟩
    | succ j => simpa using ih (i := j) (v := v) (by simpa using e)
theorem PsV.app {K : PySem.W.Frag} {H : Hp} {vs ws : List V} {L M : List (Int × Int)} (h : PsV K H vs L) (g : PsV K H ws M) : PsV K H (vs ++ ws) (L ++ M) := by
  induction h with
  | nil => exact g
  | cons a _ ih => exact .cons a ih
theorem PsV.take {K : PySem.W.Frag} {H : Hp} {vs : List V} {L : List (Int × Int)} (h : PsV K H vs L) : ∀ n, PsV K H (vs.take n) (L.take n) := by
  induction h with
  | nil =>
    intro n
    simp
    exact .nil
  | cons a _ ih =>
    intro n
    cases n with
    | zero => exact .nil
    | succ m => exact .cons a (ih m)
theorem PsV.drop {K : PySem.W.Frag} {H : Hp} {vs : List V} {L : List (Int × Int)} (h : PsV K H vs L) : ∀ n, PsV K H (vs.drop n) (L.drop n) := by
  induction h with
  | nil =>
    intro n
    simp
    exact .nil
  | cons a b ih =>
    intro n
    cases n with
    | zero => exact .cons a b
    | succ m => exact ih m
def psD (L : List (Int × Int)) : PyData := .tuple (L.map fun x => .tuple [.int x.1, .int x.2])
theorem PsV.dp {K : PySem.W.Frag} {H : Hp} {vs : List V} {L : List (Int × Int)} (h : PsV K H vs L) : DpAll K H vs (L.map fun x => .tuple [.int x.1, .int x.2]) := by
  induction h with
  | nil => exact .nil
  | cons a _ ih =>
    obtain ⟨b, rfl, hb⟩ := a
    exact .cons (.tup hb (.cons (.int _) (.cons (.int _) .nil))) ih
/-- a tuple of passes at v -/
def PsA (K : PySem.W.Frag) (H : Hp) (v : V) (L : List (Int × Int)) : Prop := ∃ a vs, v = .ref a ∧ SqT K H a vs ∧ PsV K H vs L
theorem PsA.tk {K : PySem.W.Frag} {H H' : Hp} {v : V} {L : List (Int × Int)} (t : TK K H H') (h : PsA K H v L) : PsA K H' v L := by
  obtain ⟨a, vs, e, h1, h2⟩ := h
  exact ⟨a, vs, e, t _ _ h1, h2.tk t⟩
theorem PsA.dp {K : PySem.W.Frag} {H : Hp} {v : V} {L : List (Int × Int)} (h : PsA K H v L) : Dp K H v (psD L) := by
  obtain ⟨a, vs, rfl, h1, h2⟩ := h
  exact .tup h1 h2.dp
theorem psD_lay : ∀ L : List (Int × Int), PyData.canLayAll0 (L.map fun x => PyData.tuple [.int x.1, .int x.2]) = true
  | [] => rfl
  | x :: L => by
    show ((true && (true && true)) && PyData.canLayAll0 (L.map fun x => PyData.tuple [.int x.1, .int x.2])) = true
    rw [psD_lay L]
    rfl
theorem psD_eqv : ∀ L M : List (Int × Int), PyData.eqvAll (L.map fun x => .tuple [.int x.1, .int x.2]) (M.map fun x => .tuple [.int x.1, .int x.2]) = decide (L = M)
  | [], [] => rfl
  | [], _ :: _ => rfl
  | _ :: _, [] => rfl
  | x :: L, y :: M => by
    show (((x.1 == y.1) && ((x.2 == y.2) && true)) && PyData.eqvAll (L.map fun x => .tuple [.int x.1, .int x.2]) (M.map fun x => .tuple [.int x.1, .int x.2])) = _
    rw [psD_eqv L M, Bool.eq_iff_iff]
    obtain ⟨x1, x2⟩ := x
    obtain ⟨y1, y2⟩ := y
    simp
theorem psD_eq (L M : List (Int × Int)) : PyData.eqv (psD L) (psD M) = decide (L = M) := psD_eqv L M
abbrev sIT : Stmt := inClass (top 3) 0
abbrev sInit : Stmt := inClass (top 8) 3
abbrev sPasses : Stmt := inClass (top 8) 5
abbrev sValid : Stmt := top 9
theorem scIT : FnScope ["self", "index"] ["self", "index"] (defScope sIT) := ⟨rfl, rfl, rfl, by decide +kernel, rfl, by decide +kernel, by decide +kernel⟩
theorem scInit : FnScope ["self", "passes", "index", "length", "price", "is_good"] ["self", "passes"] (defScope sInit) := ⟨rfl, rfl, rfl, by decide +kernel, rfl, by decide +kernel, by decide +kernel⟩
theorem scValid : FnScope ["tariff", "index"] ["tariff", "index"] (defScope sValid) := ⟨rfl, rfl, rfl, by decide +kernel, rfl, by decide +kernel, by decide +kernel⟩
/-- the text's facts -/
structure TX (K : PySem.W.Frag) (mg : Str → Option Value) (C cI cU cP fI : Addr) (mc mp : Value) : Prop where
  cl : Cls K C
  no : NoAttr K C "offers"
  gC : mg "Tariff" = some (.ref C)
  cr : CRead K C mc
  v1 : ∃ u, CVal K C mc "MAX_LENGTH" (.int 28) u
  v2 : ∃ u, CVal K C mc "MAX_PRICE" (.int 1000000) u
  v3 : ∃ u, CVal K C mc "MAX_PASSES" (.int 6) u
  mE : mg "enumerate" = none
  mN : mg "len" = none
  mT : mg "tuple" = none
  xI : OexC K cI
  nI : PySem.W.findIn K (.ref cI) "index" = some none
  gI : mg "InvalidTariff" = some (.ref cI)
  iI : PySem.W.findIn K (.ref cI) "__init__" = some (some (.ref fI))
  tI : PySem.W.typeIn K (.ref fI) = some (.type "function")
  pI : PIn K mg "PassError" cP mp
  qU : PySem.W.excIn K cU [.type "ValueError", .type "Exception", .type "BaseException", .type "object"] "ValueError.__new__" = true
  gU : mg "UnknownPass" = some (.ref cU)
  kU : PySem.W.keepIn K (.ref cU) = true
  sU : PySem.W.subIn K (.ref cU) (.type "BaseException") = some true
  yU : PySem.W.typeIn K (.ref cU) = some (.type "type")
section
variable {P : Program} {w : World} {K : PySem.W.Frag} {mg : Str → Option Value} {base : Heap} {C cI cU cP fI : Addr} {mc mp : Value}
theorem ok_IT {k : Nat} {fd : FuncData} (F : Fun K "__init__" "InvalidTariff.__init__" sIT fI fd) (T : TX K mg C cI cU cP fI mc mp) : FnOk P w K mg base CX0 (k + 1) fI fd ["self", "index"] (spX1 K "index") := by
  refine F.ok scIT (fun vs H Q E h => ?_) (fun cdv A outer s H vs Q E hr h => ?_)
  · obtain ⟨a, C', y, rfl, _⟩ := h
    rfl
  · obtain ⟨a, C', y, rfl, hx, hf, ha, q⟩ := h
    refine ⟨_, pss_cons (ps_expr (pe_pinit (by rfl) T.pI.gB T.pI.rd T.pI.ga T.pI.at_ (pa_cons (pv 0) (pa_cons pe_str pa_nil)))) (pss_one (ps_ost (pv 0) (pv 1))), ?_⟩
    refine ⟨_, rfl, a, C', _, rfl, by decide, hx, ha, _, rfl, _, rfl, a, C', rfl, hx, hf, .inl ⟨ha, fun dx h1 h2 => q dx h1 h2⟩⟩
theorem kb_IT {fd : FuncData} (F : Fun K "__init__" "InvalidTariff.__init__" sIT fI fd) : KBn K fd ["self", "index"] 1 ["index"] (fun us ws => us ++ ws) (fun vs zs => vs ++ zs) := by
  obtain ⟨oc, od, kV, doc, pm, an, cdv, ct, osl, rfl, lk, hcd⟩ := F.ex
  refine ⟨fun s us ws _ h1 h2 => ?_, fun a b => a.append b⟩
  match us, ws, h1, h2 with
  | [u], [x], _, _ => exact .of_eq rfl
end
theorem scPasses : FnScope ["self"] ["self"] (defScope sPasses) := ⟨rfl, rfl, rfl, by decide +kernel, rfl, by decide +kernel, by decide +kernel⟩
/-- a tariff at a, its tuple of passes at p -/
def Tar (K : PySem.W.Frag) (C : Addr) (H : Hp) (a p : Addr) (L : List (Int × Int)) : Prop := (∃ dx, H a = some (.ins C dx [("offers", .ref p)])) ∧ PsA K H (.ref p) L
theorem Tar.len_eq {K : PySem.W.Frag} {C : Addr} {H : Hp} {a p : Addr} {L : List (Int × Int)} (t : Tar K C H a p L) : ∃ vs, SqT K H p vs ∧ vs.length = L.length ∧ PsV K H vs L := by
  obtain ⟨_, q, vs, e, h1, h2⟩ := t
  cases e
  exact ⟨vs, h1, h2.len, h2⟩
/-- the getter of passes -/
structure TP (K : PySem.W.Frag) (C fP pP : Addr) (fdP : FuncData) : Prop where
  pr : PropOf K C "passes" pP fP
  fu : Fun K "passes" "Tariff.passes" sPasses fP fdP
section
variable {P : Program} {w : World} {K : PySem.W.Frag} {mg : Str → Option Value} {base : Heap} {C cI cU cP fI fP pP : Addr} {mc mp : Value} {fdP : FuncData}
theorem ok_passes (F : Fun K "passes" "Tariff.passes" sPasses fP fdP) (c : Cls K C) (n : NoAttr K C "offers") {k : Nat} : FnOk P w K mg base CX0 (k + 1) fP fdP ["self"] (getSp C "offers") := by
  obtain ⟨oc, od, kV, doc, pm, an, cdv, ct, osl, rfl, lk, hcd⟩ := F.ex
  exact fn_getter lk hcd scPasses rfl rfl c n
theorem b_passes (F : Fun K "passes" "Tariff.passes" sPasses fP fdP) : Binds K fdP ["self"] [] := F.binds (ps := ["self"]) fun _ _ _ _ _ _ us hl => match us, hl with | [_], _ => rfl
/-- e.passes, e a tariff -/
theorem pe_passes {X : Cx} {e : Expr} {te : TE} {pos : Pos} (T : TP X.K C fP pP fdP) (c : Cls X.K C) (n : NoAttr X.K C "offers") (hr : Room 2 X.A) (he : PE X e te) (hab : attributeBase e "passes" X.env (eval e X.env) = eval e X.env := by rfl) :
    PE X (.Attribute e "passes" pos) (tProp C (getSp C "offers") [] E0 te) :=
  pe_prop he c T.pr (ok_passes (k := 0) T.fu c n) hr (b_passes T.fu) .nil pass0 hab
def spValid (K : PySem.W.Frag) (C cU : Addr) : Sp := fun vs H Q E => ∃ (a p : Addr) (i : Int) (L : List (Int × Int)), vs = [.ref a, .int i] ∧ Tar K C H a p L ∧ (0 ≤ i ∧ i < L.length → Q .non H) ∧ (¬ (0 ≤ i ∧ i < L.length) → E (.ref cU) none H)
theorem ok_valid {f : Addr} {fd : FuncData} {k : Nat} (F : Fun K "validate_pass" "validate_pass" sValid f fd) (T : TX K mg C cI cU cP fI mc mp) (TQ : TP K C fP pP fdP) : FnOk P w K mg base (L2.CX P w) (k + 3) f fd ["tariff", "index"] (spValid K C cU) := by
  refine F.okX scValid (fun vs H Q E h => ?_) (fun cdv A outer s H vs Q E hr h => ?_)
  · obtain ⟨a, p, i, L, rfl, _⟩ := h
    rfl
  · obtain ⟨a, p, i, L, rfl, ht, q1, q2⟩ := h
    refine ⟨_, pss_one (ps_if (pt_not (pt_chain op_le op_lt pe_int (pv 1) (pe_callB call_len_seq (by rfl) T.mN PySem.boot_len (pa_cons (pe_passes TQ T.cl T.no (hr.mono (by omega)) (pv 0)) pa_nil))))
      (pss_one (ps_raise rfl (takes_of rfl rfl rfl rfl) (pmk_own PySem.F.excBase_ValueError T.qU T.gU T.kU (raises_own T.sU T.yU) (by rfl)))) pss_nil), ?_⟩
    obtain ⟨vs, h1, hl, _⟩ := ht.len_eq
    obtain ⟨⟨dx, ha⟩, _⟩ := ht
    refine ⟨_, rfl, _, _, rfl, rfl, _, rfl, ?_⟩
    refine ite2 (fun h0 => ?_) (fun h0 => ?_)
    · have g0 : (0 : Int) ≤ i := of_decide_eq_true h0
      refine ⟨.ref a, rfl, a, dx, _, rfl, ha, a, dx, _, .ref p, rfl, ha, rfl, p, vs, rfl, .inr h1, _, _, rfl, rfl, _, rfl, ?_⟩
      refine ite2 (fun hb => ?_) (fun hb => ?_)
      · refine q2 fun hc => ?_
        have h2 : i < ((vs.length : Nat) : Int) := by
          rw [hl]
          exact hc.2
        rw [decide_eq_true h2] at hb
        cases hb
      · refine q1 ⟨g0, ?_⟩
        rw [← hl]
        by_cases h2 : i < ((vs.length : Nat) : Int)
        · exact h2
        · rw [decide_eq_false h2] at hb
          exact absurd rfl hb
    · refine ⟨_, rfl, q2 fun hc => ?_⟩
      rw [decide_eq_true hc.1] at h0
      exact h0 rfl
end
/-! ### what is wrong with passes -/
def okP (x : Int × Int) : Bool := (decide (1 ≤ x.1) && decide (x.1 ≤ 28)) && (decide (1 ≤ x.2) && decide (x.2 ≤ 1000000))
def badI (i : Nat) (x : Int × Int) : Bool := decide (V.int ((i : Nat) : Int) = V.int 6) || !okP x
def fb : Nat → List (Int × Int) → Option Nat
  | _, [] => none
  | i, x :: r => if badI i x = true then some i else fb (i + 1) r
def bad (L : List (Int × Int)) : Option Nat := if L = [] then some 0 else fb 0 L
theorem fb_all : ∀ (L : List (Int × Int)) (k : Nat), (∀ j x, L[j]? = some x → badI (k + j) x = false) → fb k L = none
  | [], _, _ => rfl
  | x :: r, k, h => by
    have h0 := h 0 x rfl
    unfold fb
    rw [if_neg (by rw [show badI k x = false from h0]; decide)]
    refine fb_all r (k + 1) fun j y hy => ?_
    have := h (j + 1) y (by simpa using hy)
    rwa [show k + (j + 1) = k + 1 + j by omega] at this
theorem fb_at : ∀ (L : List (Int × Int)) (k i : Nat) (x : Int × Int), L[i]? = some x → badI (k + i) x = true → (∀ j y, j < i → L[j]? = some y → badI (k + j) y = false) → fb k L = some (k + i)
  | [], _, i, _, h, _, _ => by simp at h
  | y :: r, k, 0, x, h, hb, _ => by
    obtain rfl : y = x := by simpa using h
    unfold fb
    rw [if_pos (show badI k y = true from hb)]
    rfl
  | y :: r, k, i + 1, x, h, hb, hn => by
    unfold fb
    rw [if_neg (by rw [show badI k y = false from hn 0 y (Nat.succ_pos _) rfl]; decide)]
    rw [fb_at r (k + 1) i x (by simpa using h) (by rwa [show k + 1 + i = k + (i + 1) by omega]) (fun j z hj hz => by
      have := hn (j + 1) z (by omega) (by simpa using hz)
      rwa [show k + (j + 1) = k + 1 + j by omega] at this)]
    rw [show k + 1 + i = k + (i + 1) by omega]
section
variable {P : Program} {w : World} {K : PySem.W.Frag} {mg : Str → Option Value} {base : Heap} {C cI cU cP fI fP pP : Addr} {mc mp : Value} {fdP fdI : FuncData}
theorem psD_dep : ∀ L : List (Int × Int), PyData.depthAll (L.map fun x => PyData.tuple [.int x.1, .int x.2]) ≤ 1
  | [] => Nat.zero_le _
  | x :: L => by
    show max (max 0 (max 0 0) + 1) (PyData.depthAll (L.map fun x => PyData.tuple [.int x.1, .int x.2])) ≤ 1
    have := psD_dep L
    omega
theorem psD_sh (L : List (Int × Int)) : SeqAt.shaped (psD L) = true := by
  show (PyData.canLayAll0 (L.map fun x => PyData.tuple [.int x.1, .int x.2]) && decide (PyData.depthAll (L.map fun x => PyData.tuple [.int x.1, .int x.2]) + 1 ≤ 64)) = true
  rw [psD_lay, decide_eq_true (by have := psD_dep L; omega)]
  rfl
/-- Tariff.__init__ at the tuple p -/
def spInit (K : PySem.W.Frag) (C cI : Addr) : Sp := fun vs H Q E => ∃ (a p dx : Addr) (L : List (Int × Int)), vs = [.ref a, .ref p] ∧ H a = some (.ins C dx []) ∧ PsA K H (.ref p) L ∧ L.length ≤ 1000 ∧
  (bad L = none → ∀ H', (∀ b o, H b = some o → b ≠ a → H' b = some o) → H' a = some (.ins C dx [("offers", .ref p)]) → Q .non H') ∧
  (∀ i d H', bad L = some i → Same H H' → H' d = some (.xd [("index", .int i)]) → E (.ref cI) (some d) H')
theorem ok_init_body {k : Nat} {X : Cx} (hX : X.K = K) (FI : Fun K "__init__" "InvalidTariff.__init__" sIT fI fdI) (T : TX K mg C cI cU cP fI mc mp) {f : Addr} {cdv : Value} {A : Around} {outer : List Env} {s : Shared} {H : Hp} {vs : List V} {Q : VK} {E : XK}
    (hr : Room (k + 3) (A.deeper (envOfC "Tariff.__init__" (defScope sInit) s.heap.objs.size f cdv))) (h : spInit K C cI vs H Q E) :
    ∃ t, PSs (cxOf (L2.CX P w) P w K mg base ["self", "passes", "index", "length", "price", "is_good"] "Tariff.__init__" (defScope sInit) f cdv A outer s H E) (defBody sInit) t ∧ t { nx := fun _ H' => Q .non H', rt := Q } (start ["self", "passes", "index", "length", "price", "is_good"] vs) H := by
  obtain ⟨a, p, dx, L, rfl, ha, hL, hlen, q1, q2⟩ := h
  have GI : FnOk P w K mg base CX0 1 fI fdI ["self", "index"] (spX1 K "index") := ok_IT FI T
  have kb := kb_IT FI
  refine ⟨_, pss_cons (ps_if (pt_cmpR (op_eqD hr.units) (pv 1) (pe_tup pa_nil) (nomark _)) (pss_one (ps_raise rfl (takes_of rfl rfl rfl rfl) (pmk_kw T.xI T.iI T.tI GI (hr.mono (by omega)) kb pass0 (by rfl) T.gI (pk_cons pe_int pk_nil)))) pss_nil)
    (pss_cons (ps_for (passes_of rfl) rfl (pi_enumT (by rfl) T.mE (pa_cons (pv 1) pa_nil)) (pg_tup rfl (pgs_cons (pg_name (i := 2) scInit.nd rfl (.inl rfl)) (pgs_cons (pg_tup rfl (pgs_cons (pg_name (i := 3) scInit.nd rfl (.inl rfl)) (pgs_cons (pg_name (i := 4) scInit.nd rfl (.inl rfl)) pgs_nil))) pgs_nil)))
      (pss_cons (ps_set (i := 5) scInit.nd rfl (.inl rfl) (pe_and (pe_chain op_le op_le pe_int (pv 3) (pe_clc (by rfl) T.gC T.cr T.v1)) (pe_one (pe_chain op_le op_le pe_int (pv 4) (pe_clc (by rfl) T.gC T.cr T.v2)))))
        (pss_one (ps_if (PW.pt (pw_or (pt_cmpR op_eq (pv 2) (pe_clc (by rfl) T.gC T.cr T.v3) (nomark _)) (pw_or1 (pt_not (pt_val (pv 5))))))
          (pss_one (ps_raise rfl (takes_of rfl rfl rfl rfl) (pmk_kw T.xI T.iI T.tI GI (hr.mono (by omega)) kb pass0 (by rfl) T.gI (pk_cons (pv 2) pk_nil)))) pss_nil))))
    (pss_one (ps_fld (pv 0) (pv 1) rfl))), ?_⟩
  have hps := hL
  obtain ⟨_, vs, e, h1, h2⟩ := hL
  cases e
  have hlen2 := h2.len
  refine ⟨.ref p, rfl, Nat.zero_le _, fun z nz => ?_⟩
  have s0 : Same H (upd H z (.tup [])) := same_new nz
  refine ⟨psD L, psD [], (hps.tk (.same s0)).dp, .tup (xs := []) (.of upd_same) .nil, psD_sh L, psD_sh [], _, rfl, ?_⟩
  refine ite2 (fun hb => ?_) (fun hb => ?_)
  · have eL : L = [] := by
      rw [psD_eq] at hb
      exact of_decide_eq_true hb
    refine mk1_in T.xI T.nI fun d hd => q2 0 d _ ?_ (s0.trans (same_new hd)) upd_same
    unfold bad
    rw [if_pos eL]
  have nL : L ≠ [] := fun z => by
    rw [psD_eq, decide_eq_true z] at hb
    exact hb rfl
  refine ⟨_, rfl, p, vs, rfl, (TK.same s0) _ _ h1, for_rounds (I := IteT K p vs) vs.length (fun i σ H' => ∃ v2 v3 v4 v5, σ = [some (.ref a), some (.ref p), v2, v3, v4, v5] ∧ Same H H' ∧ ∀ j x, j < i → L[j]? = some x → badI j x = false)
    ⟨none, none, none, none, rfl, s0, fun j x hj => absurd hj (Nat.not_lt_zero _)⟩ ?_ ?_⟩
  · rintro i σ H' hi ⟨v2, v3, v4, v5, rfl, sm, hall⟩
    have hvs : SqT K H' p vs := (TK.same sm) _ _ h1
    refine ⟨⟨hi, hvs⟩, ?_⟩
    rintro y HT ⟨x, TT, hx, nT, rfl, rfl⟩
    obtain ⟨⟨l, pr⟩, hLi, b, rfl, hb2⟩ := h2.get hx
    have sT : Same H' (upd H' TT (.tup [.int (i : Nat), .ref b])) := same_new nT
    have hb3 : SqT K (upd H' TT (.tup [.int (i : Nat), .ref b])) b [.int l, .int pr] := (TK.same (sm.trans sT)) _ _ hb2
    have hi6 : i < 1000 := by
      have := (List.getElem?_eq_some_iff.mp hLi).1
      omega
    refine ⟨TT, _, rfl, .of upd_same, rfl, _, _, rfl, _, _, rfl, b, _, rfl, hb3, rfl, _, _, rfl, _, _, rfl, rfl, rfl, ?_⟩
    refine q_asg (v := .bl (okP (l, pr))) (ev_andV (ev_chainI (p := fun i j => decide (i ≤ j)) (q := fun i j => decide (i ≤ j)) ev_c (ev_var rfl) ev_c) fun _ => ev_chainI (p := fun i j => decide (i ≤ j)) (q := fun i j => decide (i ≤ j)) ev_c (ev_var rfl) ev_c) fun H2 e2 => ?_
    refine s_if (b := badI i (l, pr)) (et_or (et_test (ev_op (ev_var rfl) ev_c (rv_eq rfl))) fun _ => et_not (et_B (ev_var rfl))) (fun hb3 H3 e3 => ?_) (fun hb3 H3 e3 => ?_)
    · refine ⟨_, rfl, mk1_in T.xI T.nI fun d hd => q2 i d _ ?_ (((sm.trans sT).trans (e2.trans e3)).trans (same_new hd)) upd_same⟩
      unfold bad
      rw [if_neg nL]
      have := fb_at L 0 i (l, pr) hLi (by rw [Nat.zero_add]; exact hb3) (fun j y hj hy => by
        rw [Nat.zero_add]
        exact hall j y hj hy)
      rwa [Nat.zero_add] at this
    · refine ⟨_, _, _, _, rfl, (sm.trans sT).trans (e2.trans e3), fun j x hj hxx => ?_⟩
      by_cases hji : j < i
      · exact hall j x hji hxx
      · obtain rfl : j = i := by omega
        rw [Option.some.inj (hxx.symm.trans hLi)]
        exact hb3
  · rintro σ H' ⟨v2, v3, v4, v5, rfl, sm, hall⟩
    refine ⟨⟨rfl, (TK.same sm) _ _ h1⟩, ?_⟩
    refine ⟨_, rfl, _, rfl, a, C, dx, [], rfl, sm _ _ ha, T.cl, T.no, by decide, ?_⟩
    refine q1 ?_ _ (fun b o e n => ?_) upd_same
    · unfold bad
      rw [if_neg nL]
      refine fb_all L 0 fun j x hx => ?_
      rw [Nat.zero_add]
      refine hall j x ?_ hx
      rw [hlen2]
      exact (List.getElem?_eq_some_iff.mp hx).1
    · rw [upd_ne n]
      exact sm _ _ e
end
structure TMk (K : PySem.W.Frag) (C fI fT : Addr) (fdI fdT : FuncData) : Prop where
  mkf : Mk K C fT
  fT : Fun K "__init__" "Tariff.__init__" sInit fT fdT
  fI : Fun K "__init__" "InvalidTariff.__init__" sIT fI fdI
/-- Tariff(..) of the passes vs -/
def spMk (K : PySem.W.Frag) (C cI : Addr) : Sp := fun vs H Q E => ∃ L : List (Int × Int), PsV K H vs L ∧ L.length ≤ 1000 ∧ (bad L = none → ∀ a p H', Same H H' → H a = none → Tar K C H' a p L → Q (.ref a) H') ∧
  (∀ i d H', bad L = some i → Same H H' → H' d = some (.xd [("index", .int (i : Nat))]) → E (.ref cI) (some d) H')
section
variable {P : Program} {w : World} {K : PySem.W.Frag} {mg : Str → Option Value} {base : Heap} {C cI cU cP fI fT fP pP : Addr} {mc mp : Value} {fdP fdI fdT : FuncData}
theorem ok_init (T : TX K mg C cI cU cP fI mc mp) (I : TMk K C fI fT fdI fdT) : FnR P w K mg base (L2.CX P w) 4 fT (fun vs H Q E => ∃ ws rest, vs = ws ++ rest ∧ ws.length = ["self"].length ∧ rest.length ≤ sizeLine ∧ ∀ p, H p = Option.none → spInit K C cI (ws ++ [V.ref p]) (upd H p (.tup rest)) Q E) := by
  obtain ⟨oc, od, kV, doc, pm, an, cdv, ct, osl, rfl, lk, hcd⟩ := I.fT.ex
  refine fn_star (ps := ["self"]) (pv := "passes") lk hcd scInit cxUp (fun us rest hl => ?_) fun A outer s H vs Q E hr h => ok_init_body (X := cxOf (L2.CX P w) P w K mg base ["self"] "Tariff.__init__" (defScope sInit) fT cdv A outer s H E) rfl I.fI T hr h
  match us, hl with
  | [u], _ =>
    unfold bindArgs
    have e : ∀ b : Bool, (b && (defArgs sInit).vararg.isNone) = false := fun b => by
      rw [show (defArgs sInit).vararg.isNone = false from rfl, Bool.and_false]
    show _ = _
    simp only [PySem.W.fnOf, e]
    rfl
theorem mk_in {vs : List V} {H : Hp} {Q : VK} {E : XK} (h : spMk K C cI vs H Q E) : ∀ x dx, H x = Option.none → H dx = Option.none → dx ≠ x → (fun vs H Q E => ∃ ws rest, vs = ws ++ rest ∧ ws.length = ["self"].length ∧ rest.length ≤ sizeLine ∧ ∀ p, H p = Option.none → spInit K C cI (ws ++ [V.ref p]) (upd H p (.tup rest)) Q E)
    (V.ref x :: vs) (upd (upd H dx (.own x)) x (.ins C dx [])) (fun v H2 => v = .non ∧ Q (.ref x) H2) E := by
  obtain ⟨L, hL, hlen, q1, q2⟩ := h
  intro x dx nx ndx nex
  have s0 : Same H (upd (upd H dx (.own x)) x (.ins C dx [])) := fun b o e => by
    rw [upd_ne (ne_of_none e nx), upd_ne (ne_of_none e ndx)]
    exact e
  refine ⟨[.ref x], vs, rfl, rfl, Nat.le_of_lt (small1000 (by rw [hL.len]; exact hlen)), fun p np => ?_⟩
  have npx : x ≠ p := fun e => by
    rw [← e, upd_same] at np
    cases np
  have s1 := s0.trans (same_new (o := .tup vs) np)
  have hp : SqT K (upd (upd (upd H dx (.own x)) x (.ins C dx [])) p (.tup vs)) p vs := .of upd_same
  refine ⟨x, p, dx, L, rfl, by rw [upd_ne npx, upd_same], ⟨p, vs, rfl, hp, hL.tk (.same s1)⟩, hlen, fun hb H' hk hx => ⟨rfl, q1 hb x p H' (fun b o e => hk b o (s1 b o e) (ne_of_none e nx)) nx ⟨⟨dx, hx⟩, p, vs, rfl, ?_, (hL.tk (.same s1)).tk ?_⟩⟩, fun i d H' hb sm hd => q2 i d H' hb (s1.trans sm) hd⟩
  · exact .of (hk _ _ upd_same npx.symm)
  · exact .but (fun b => b = x) (fun b o e n => hk b o e n) fun b xs z => by
      rw [z]
      refine Rd.ins_no (C := C) (dx := dx) (fs := []) ?_
      rw [upd_ne npx, upd_same]
section
variable {X : Cx} {e : Expr} {es : List Expr} {te : TE} {t : TA} {E : XK} {p pos spos : Pos}
theorem pe_tar (T : TX X.K X.mg C cI cU cP fI mc mp) (I : TMk X.K C fI fT fdI fdT) (hr : Room 5 X.A) (hx : Passes (L2.CX X.prog X.w) X E) (hg : Gl X "Tariff") (ha : PA X (e :: es) t)
    (he : starEach (e :: es) X.env = (false, eval e X.env) :: starEach es X.env := by rfl) (hpl : (backTo pos (starEach es X.env)).any (·.1) = false := by rfl) :
    PE X (.Call (.Name "Tariff" p) (e :: es) [] pos) (fun σ H Q => t σ H fun vs H1 => spMk X.K C cI vs H1 Q E) := by
  refine ⟨fun pins s σ H Q J h => ?_⟩
  refine wpAny_Call_Name_kw (ld_glob J hg T.gC ?_ (by decide))
  exact PySem.W.callWith_K (h₀ := X.base) J.ok.mod.kin I.mkf.kp (thn (ha.run pos pins s σ H _ J h) fun us s1 ⟨vs, H1, I1, r, q⟩ => ⟨I1.kIn, run_makeR I.mkf (ok_init T I) hr hx I1 r (mk_in q)⟩) he hpl
theorem pe_tarS (T : TX X.K X.mg C cI cU cP fI mc mp) (I : TMk X.K C fI fT fdI fdT) (hr : Room 5 X.A) (hx : Passes (L2.CX X.prog X.w) X E) (hg : Gl X "Tariff") (he : PE X e te)
    (hst : starEach [.Starred e spos] X.env = [(true, eval e X.env)] := by rfl) :
    PE X (.Call (.Name "Tariff" p) [.Starred e spos] [] pos) (fun σ H Q => te σ H fun y H1 => ∃ a xs, y = V.ref a ∧ SqT X.K H1 a xs ∧ spMk X.K C cI xs H1 Q E) := by
  refine ⟨fun pins s σ H Q J h => ?_⟩
  refine wpAny_Call_Name_kw (ld_glob J hg T.gC ?_ (by decide))
  refine PySem.W.callWith_S (h₀ := X.base) J.ok.mod.kin I.mkf.kp (thn (he.run pins s σ H _ J h) fun v s1 hh => ?_) hst
  obtain ⟨y, H1, I1, ry, a, xs, ey, hxs, q⟩ := hh
  subst ey
  obtain rfl : v = Value.ref a := ry
  exact star_any I1 (.inl hxs) fun us s2 I2 rv => ⟨I2.kIn, run_makeR I.mkf (ok_init T I) hr hx I2 rv (mk_in q)⟩
end
end
end Sea

set_option Elab.async false
set_option linter.all false
set_option maxRecDepth 100000
set_option maxHeartbeats 4000000
namespace Sea
open PySem PySem.Spec PyProof.Rows L2 LamX NdefX ClX Evl StX
abbrev sIV : Stmt := inClass (top 4) 0
abbrev sVN : Stmt := top 21
theorem scIV : FnScope ["self", "part", "index"] ["self", "part", "index"] (defScope sIV) := ⟨rfl, rfl, rfl, by decide +kernel, rfl, by decide +kernel, by decide +kernel⟩
theorem scVN : FnScope ["part", "numbers", "largest", "most", "index", "number"] ["part", "numbers", "largest", "most"] (defScope sVN) := ⟨rfl, rfl, rfl, by decide +kernel, rfl, by decide +kernel, by decide +kernel⟩
/-- errors of the package, as the travel's code raises them -/
structure TEv (K : PySem.W.Frag) (mg : Str → Option Value) (cV cP fV : Addr) (fdV : FuncData) (mp : Value) : Prop where
  xV : OexC K cV
  nP : PySem.W.findIn K (.ref cV) "part" = some none
  nI : PySem.W.findIn K (.ref cV) "index" = some none
  gV : mg "InvalidTravel" = some (.ref cV)
  iV : PySem.W.findIn K (.ref cV) "__init__" = some (some (.ref fV))
  tV : PySem.W.typeIn K (.ref fV) = some (.type "function")
  fu : Fun K "__init__" "InvalidTravel.__init__" sIV fV fdV
  pI : PIn K mg "PassError" cP mp
/-- a tuple of whole numbers -/
def TiA (K : PySem.W.Frag) (H : Hp) (v : V) (ns : List Int) : Prop := ∃ a, v = .ref a ∧ SqT K H a (ns.map V.int)
theorem TiA.tk {K : PySem.W.Frag} {H H' : Hp} {v : V} {ns : List Int} (t : TK K H H') (h : TiA K H v ns) : TiA K H' v ns := by
  obtain ⟨a, e, h⟩ := h
  exact ⟨a, e, t _ _ h⟩
theorem mk2_in {K : PySem.W.Frag} {H1 : Hp} {Q : XK} {f g : Str} {y z : V} {c : Addr} (T : OexC K c) (n : PySem.W.findIn K (.ref c) f = some none) (n2 : PySem.W.findIn K (.ref c) g = some none) (h : ∀ d, H1 d = none → Q (.ref c) (some d) (upd H1 d (.xd [(g, z), (f, y)]))) :
    [y, z].length = 2 ∧ ∀ a, H1 a = none → spX2 K f g ([.ref a] ++ [y, z]) (upd H1 a (exo a c none)) (fun v H2 => v = .non ∧ ∃ (d : Addr) (fs : List (Str × V)), H2 a = some (exo a c (some d)) ∧ H2 d = some (exd d fs) ∧ H1 d = none ∧ Q (.ref c) (some d) (upd (del H2 a) d (.xd fs))) (fun _ _ _ => False) := by
  refine ⟨rfl, fun a ha => ⟨a, c, y, z, rfl, T, n, n2, upd_same, fun dx h1 h2 => ?_⟩⟩
  rw [upd_ne h2] at h1
  refine ⟨rfl, dx, _, by rw [upd_ne h2.symm, upd_same], upd_same, h1, ?_⟩
  have e : upd (del (upd (upd (upd (upd H1 a (exo a c none)) dx (exd dx [(f, y)])) a (exo a c (some dx))) dx (exd dx [(g, z), (f, y)])) a) dx (.xd [(g, z), (f, y)]) = upd H1 dx (.xd [(g, z), (f, y)]) := by
    funext b
    by_cases hb : b = dx
    · subst hb
      rw [upd_same, upd_same]
    · rw [upd_ne hb, upd_ne hb]
      by_cases hba : b = a
      · subst hba
        rw [del_same, ha]
      · rw [del_ne hba, upd_ne hb, upd_ne hba, upd_ne hb, upd_ne hba]
  rw [e]
  exact h dx h1
/-- the first of 0 .. n - 1 of which p holds -/
def first (p : Nat → Bool) (n : Nat) : Option Nat := (List.range n).find? p
theorem first_succ (p : Nat → Bool) (n : Nat) : first p (n + 1) = (first p n).or (if p n = true then some n else none) := by
  unfold first
  rw [List.range_succ, List.find?_append, List.find?_cons]
  cases p n <;> rfl
theorem first_none {p : Nat → Bool} : ∀ {n : Nat}, (∀ j, j < n → p j = false) → first p n = none
  | 0, _ => rfl
  | n + 1, h => by
    rw [first_succ, first_none fun j hj => h j (by omega), h n (by omega)]
    rfl
theorem first_at {p : Nat → Bool} {i : Nat} (hp : p i = true) (hb : ∀ j, j < i → p j = false) : ∀ {n : Nat}, i < n → first p n = some i
  | 0, h => absurd h (Nat.not_lt_zero _)
  | n + 1, h => by
    rw [first_succ]
    by_cases e : i < n
    · rw [first_at hp hb e]
      rfl
    · obtain rfl : i = n := by omega
      rw [first_none hb, hp]
      rfl
/-- what is wrong with the i-th number -/
def nbad (ns : List Int) (lg mo : Int) (i : Nat) : Bool := decide (V.int ((i : Nat) : Int) = V.int mo) || (!(decide (0 ≤ ns.getD i 0) && decide (ns.getD i 0 ≤ lg)) || (decide ((0 : Int) < (i : Nat)) && decide (ns.getD i 0 ≤ ns.getD (i - 1) 0)))
def vbad (ns : List Int) (lg mo : Int) : Option Nat := first (nbad ns lg mo) ns.length
def spVN (K : PySem.W.Frag) (cV : Addr) : Sp := fun vs H Q E => ∃ (pt : Str) (v : V) (ns : List Int) (lg mo : Int), vs = [.str pt, v, .int lg, .int mo] ∧ TiA K H v ns ∧ ns.length ≤ 1000 ∧ (vbad ns lg mo = none → ∀ H', Same H H' → Q .non H') ∧
  (∀ i d H', vbad ns lg mo = some i → Same H H' → H' d = some (.xd [("index", .int (i : Nat)), ("part", .str pt)]) → E (.ref cV) (some d) H')
section
variable {P : Program} {w : World} {K : PySem.W.Frag} {mg : Str → Option Value} {base : Heap} {cV cN cP fV : Addr} {fdV : FuncData} {mp : Value}
theorem ok_IV {k : Nat} (T : TEv K mg cV cP fV fdV mp) : FnOk P w K mg base CX0 (k + 1) fV fdV ["self", "part", "index"] (spX2 K "part" "index") := by
  refine T.fu.ok scIV (fun vs H Q E h => ?_) (fun cdv A outer s H vs Q E hr h => ?_)
  · obtain ⟨a, C', y, z, rfl, _⟩ := h
    rfl
  · obtain ⟨a, C', y, z, rfl, hx, hf, hg, ha, q⟩ := h
    refine ⟨_, pss_cons (ps_expr (pe_pinit (by rfl) T.pI.gB T.pI.rd T.pI.ga T.pI.at_ (pa_cons (pv 0) (pa_cons pe_str pa_nil)))) (pss_cons (ps_ost (pv 0) (pv 1)) (pss_one (ps_ost (pv 0) (pv 2)))), ?_⟩
    refine ⟨_, rfl, a, C', _, rfl, show 1 ≤ 1000 by decide, hx, ha, _, rfl, _, rfl, a, C', rfl, hx, hf, .inl ⟨ha, fun dx h1 h2 => ⟨_, rfl, _, rfl, a, C', rfl, hx, hg, .inr ⟨dx, [("part", y)], upd_same, by rw [upd_ne h2, upd_same], show 1 ≤ 900 by decide, ?_⟩⟩⟩⟩
    exact q dx h1 h2
theorem kb_IV (T : TEv K mg cV cP fV fdV mp) : KBn K fdV ["self", "part", "index"] 1 ["part", "index"] (fun us ws => us ++ ws) (fun vs zs => vs ++ zs) := by
  obtain ⟨oc, od, kV, doc, pm, an, cdv, ct, osl, rfl, lk, hcd⟩ := T.fu.ex
  refine ⟨fun s us ws _ h1 h2 => ?_, fun a b => a.append b⟩
  match us, ws, h1, h2 with
  | [u], [x, y], _, _ => exact .of_eq rfl
theorem ok_vn {f : Addr} {fd : FuncData} {k : Nat} (F : Fun K "validate_numbers" "validate_numbers" sVN f fd) (T : TEv K mg cV cP fV fdV mp) (mE : mg "enumerate" = none) : FnOk P w K mg base (L2.CX P w) (k + 4) f fd ["part", "numbers", "largest", "most"] (spVN K cV) := by
  have GI : FnOk P w K mg base CX0 1 fV fdV ["self", "part", "index"] (spX2 K "part" "index") := ok_IV T
  have kb := kb_IV T
  refine F.okX scVN (fun vs H Q E h => ?_) (fun cdv A outer s H vs Q E hr h => ?_)
  · obtain ⟨pt, v, ns, lg, mo, rfl, _⟩ := h
    rfl
  · obtain ⟨pt, v, ns, lg, mo, rfl, ⟨p, rfl, hp⟩, hlen, q1, q2⟩ := h
    refine ⟨_, pss_one (ps_for (passes_of rfl) rfl (pi_enumT (by rfl) mE (pa_cons (pv 1) pa_nil)) (pg_tup rfl (pgs_cons (pg_name (i := 4) scVN.nd rfl (.inl rfl)) (pgs_cons (pg_name (i := 5) scVN.nd rfl (.inl rfl)) pgs_nil)))
      (pss_one (ps_if (PW.pt (pw_or (pt_cmpR op_eq (pv 4) (pv 3) (nomark _)) (pw_or (pt_not (pt_chain op_le op_le pe_int (pv 5) (pv 2))) (pw_or1 (PW.pt (pw_and (pt_cmpR op_gt (pv 4) pe_int (nomark _)) (pw_and1 (pt_cmpR op_le (pv 5) (pe_ixt (pv 1) (pe_op op_sub (pv 4) pe_int)) (nomark _)))))))))
        (pss_one (ps_raise rfl (takes_of rfl rfl rfl rfl) (pmk_kw T.xV T.iV T.tV GI (hr.mono (by omega)) kb pass0 (by rfl) T.gV (pk_cons (pv 0) (pk_cons (pv 4) pk_nil))))) pss_nil))), ?_⟩
    have hll : (ns.map V.int).length = ns.length := List.length_map ..
    refine ⟨_, rfl, p, _, rfl, hp, for_rounds (I := IteT K p (ns.map V.int)) (ns.map V.int).length (fun i σ H' => ∃ v4 v5, σ = [some (.str pt), some (.ref p), some (.int lg), some (.int mo), v4, v5] ∧ Same H H' ∧ ∀ j, j < i → nbad ns lg mo j = false)
      ⟨none, none, rfl, Same.refl H, fun j hj => absurd hj (Nat.not_lt_zero _)⟩ ?_ ?_⟩
    · rintro i σ H' hi ⟨v4, v5, rfl, sm, hall⟩
      refine ⟨⟨hi, (TK.same sm) _ _ hp⟩, ?_⟩
      rintro y HT ⟨x, TT, hx, nT, rfl, rfl⟩
      rw [hll] at hi
      obtain rfl : x = .int ns[i] := by
        rw [List.getElem?_map, List.getElem?_eq_getElem hi] at hx
        exact (Option.some.inj hx).symm
      have sT : Same H' (upd H' TT (.tup [.int (i : Nat), .int ns[i]])) := same_new nT
      have hp2 := (TK.same (sm.trans sT)) _ _ hp
      have gi : ns.getD i 0 = ns[i] := by rw [List.getD_eq_getElem?_getD, List.getElem?_eq_getElem hi]; rfl
      refine ⟨TT, _, rfl, .of upd_same, rfl, _, _, rfl, _, _, rfl, rfl, ?_⟩
      refine s_when (b := nbad ns lg mo i) ?_ (fun hb H2 e2 => ?_) (fun hb H2 e2 => ⟨_, _, rfl, (sm.trans sT).trans e2, fun j hj => ?_⟩)
      · unfold nbad
        rw [gi]
        refine et_or (et_test (ev_op (ev_var rfl) (ev_var rfl) (rv_eq rfl))) fun _ => et_or (et_not (et_test (ev_chainI (p := fun i j => decide (i ≤ j)) (q := fun i j => decide (i ≤ j)) ev_c (ev_var rfl) (ev_var rfl)))) fun _ => et_and (et_test (ev_op (ev_var rfl) ev_c rv_I0)) fun h0 => ?_
        have h0' : 0 < i := by
          have := of_decide_eq_true h0
          omega
        have hi1 : i - 1 < ns.length := by omega
        have g1 : ns.getD (i - 1) 0 = ns[i - 1] := by rw [List.getD_eq_getElem?_getD, List.getElem?_eq_getElem hi1]; rfl
        rw [g1]
        have ha : atI (ns.map V.int) (((i : Nat) : Int) - 1) = some (.int ns[i - 1]) := by
          rw [show ((i : Nat) : Int) - 1 = ((i - 1 : Nat) : Int) by omega]
          refine at_nat (by rw [hll]; exact hi1) ?_
          rw [List.getElem?_map, List.getElem?_eq_getElem hi1]
          rfl
        exact et_test (ev_op (ev_var rfl) (ev_op (ev_var rfl) (ev_op (ev_var rfl) ev_c rv_I0) (rv_ixT hp2 ha)) rv_I0)
      · refine ⟨_, rfl, _, rfl, mk2_in T.xV T.nP T.nI fun d hd => q2 i d _ ?_ (((sm.trans sT).trans e2).trans (same_new hd)) upd_same⟩
        exact first_at hb hall hi
      · by_cases hji : j < i
        · exact hall j hji
        · obtain rfl : j = i := by omega
          exact hb
    · rintro σ H' ⟨v4, v5, rfl, sm, hall⟩
      refine ⟨⟨rfl, (TK.same sm) _ _ hp⟩, ?_⟩
      rw [hll] at hall
      exact q1 (first_none hall) H' sm
end
def Good (ns : List Int) (lg : Int) : Prop := ∀ j, j < ns.length → 0 ≤ ns.getD j 0 ∧ ns.getD j 0 ≤ lg ∧ (0 < j → ns.getD (j - 1) 0 < ns.getD j 0)
theorem Good.mono {ns : List Int} {l m : Int} (h : Good ns l) (e : l ≤ m) : Good ns m := fun j hj => ⟨(h j hj).1, Int.le_trans (h j hj).2.1 e, (h j hj).2.2⟩
theorem getD_app1 {ns : List Int} {x : Int} {j : Nat} (h : j < ns.length) : (ns ++ [x]).getD j 0 = ns.getD j 0 := by
  rw [List.getD_eq_getElem?_getD, List.getD_eq_getElem?_getD, List.getElem?_append_left h]
theorem getD_app2 {ns : List Int} {x : Int} : (ns ++ [x]).getD ns.length 0 = x := by
  rw [List.getD_eq_getElem?_getD, List.getElem?_append_right (Nat.le_refl _), Nat.sub_self]
  rfl
theorem Good.snoc {ns : List Int} {x : Int} (h : Good ns (x - 1)) (h0 : 0 ≤ x) : Good (ns ++ [x]) x := fun j hj => by
  rw [List.length_append, List.length_singleton] at hj
  by_cases e : j < ns.length
  · rw [getD_app1 e]
    obtain ⟨a, b, c⟩ := h j e
    refine ⟨a, by omega, fun hp => ?_⟩
    rw [getD_app1 (by omega)]
    exact c hp
  · obtain rfl : j = ns.length := by omega
    rw [getD_app2]
    refine ⟨h0, Int.le_refl _, fun hp => ?_⟩
    rw [getD_app1 (by omega)]
    have := (h (ns.length - 1) (by omega)).2.1
    omega
theorem vbad_good {ns : List Int} {lg mo : Int} (h : Good ns lg) (hl : (ns.length : Int) ≤ mo) : vbad ns lg mo = none := first_none fun j hj => by
  obtain ⟨a, b, c⟩ := h j hj
  unfold nbad
  rw [decide_eq_true a, decide_eq_true b, show decide (V.int ((j : Nat) : Int) = V.int mo) = false from by rw [dec_int]; simp; omega]
  by_cases hp : 0 < j
  · have := c hp
    rw [show decide (ns.getD j 0 ≤ ns.getD (j - 1) 0) = false from decide_eq_false (by omega)]
    simp
  · rw [show decide ((0 : Int) < (j : Nat)) = false from decide_eq_false (by omega)]
    rfl
abbrev sTvI : Stmt := inClass (top 22) 0
theorem scTvI : FnScope ["self", "length", "days", "exceptions"] ["self", "length", "days", "exceptions"] (defScope sTvI) := ⟨rfl, rfl, rfl, by decide +kernel, rfl, by decide +kernel, by decide +kernel⟩
/-- what is wrong with a travel -/
def tbad (ln : Int) (ds os : List Int) : Option (Str × Nat) :=
  if 1 ≤ ln ∧ ln ≤ 14 then (match vbad ds (ln - 1) 14 with
    | some i => some ("days", i)
    | none => match vbad os 1000000000000000000 6 with
      | some i => some ("exceptions", i)
      | none => none) else some ("length", 0)
/-- the travel's class and its constants -/
structure TTv (K : PySem.W.Frag) (mg : Str → Option Value) (C fVN : Addr) (dVN : FuncData) : Prop where
  cl : Cls K C
  nS : NoAttr K C "size"
  nP : NoAttr K C "pattern"
  nO : NoAttr K C "odd_days"
  gC : mg "Travel" = some (.ref C)
  mR : ∃ u, mg "MAX_ROUND" = some u ∧ RelV (.int 14) u
  mX : ∃ u, mg "MAX_EXCEPTIONS" = some u ∧ RelV (.int 6) u
  mD : ∃ u, mg "MAX_DAYS" = some u ∧ RelV (.int 1000000000000000000) u
  mE : mg "enumerate" = none
  gVN : mg "validate_numbers" = some (.ref fVN)
  kVN : PySem.W.keepIn K (.ref fVN) = true
  uVN : Fun K "validate_numbers" "validate_numbers" sVN fVN dVN
theorem TTv.bVN {K : PySem.W.Frag} {mg : Str → Option Value} {C fVN : Addr} {dVN : FuncData} (T : TTv K mg C fVN dVN) : Binds K dVN ["part", "numbers", "largest", "most"] [] := T.uVN.binds (ps := ["part", "numbers", "largest", "most"]) fun _ _ _ _ _ _ us hl => match us, hl with | [_, _, _, _], _ => rfl
theorem putF_len (f : Str) (v : V) : ∀ fs : List (Str × V), (putF f v fs).length ≤ fs.length + 1
  | [] => Nat.le_refl _
  | (g, u) :: r => by
    show (if g = f then (g, v) :: r else (g, u) :: putF f v r).length ≤ r.length + 1 + 1
    by_cases e : g = f
    · rw [if_pos e]
      exact Nat.le_succ _
    · rw [if_neg e]
      exact Nat.succ_le_succ (putF_len f v r)
/-- the fields of a travel -/
abbrev tvF (ln : Int) (d o : V) : List (Str × V) := putF "odd_days" o (putF "pattern" d (putF "size" (.int ln) []))
def spTvI (K : PySem.W.Frag) (C cV : Addr) : Sp := fun vs H Q E => ∃ (a dx : Addr) (ln : Int) (d o : V) (ds os : List Int), vs = [.ref a, .int ln, d, o] ∧ H a = some (.ins C dx []) ∧ TiA K H d ds ∧ TiA K H o os ∧ ds.length ≤ 1000 ∧ os.length ≤ 1000 ∧
  (tbad ln ds os = none → ∀ H', (∀ b o, H b = some o → b ≠ a → H' b = some o) → H' a = some (.ins C dx (tvF ln d o)) → Q .non H') ∧
  (∀ pt i dd H', tbad ln ds os = some (pt, i) → Same H H' → H' dd = some (.xd [("index", .int (i : Nat)), ("part", .str pt)]) → E (.ref cV) (some dd) H')
section
variable {P : Program} {w : World} {K : PySem.W.Frag} {mg : Str → Option Value} {base : Heap} {cV cP fV C fVN : Addr} {fdV dVN : FuncData} {mp : Value}
theorem ok_tvI {f : Addr} {fd : FuncData} (F : Fun K "__init__" "Travel.__init__" sTvI f fd) (T : TEv K mg cV cP fV fdV mp) (W : TTv K mg C fVN dVN) : FnOk P w K mg base (L2.CX P w) 5 f fd ["self", "length", "days", "exceptions"] (spTvI K C cV) := by
  have GI : FnOk P w K mg base CX0 1 fV fdV ["self", "part", "index"] (spX2 K "part" "index") := ok_IV T
  have kb := kb_IV T
  refine F.okX scTvI (fun vs H Q E h => ?_) (fun cdv A outer s H vs Q E hr h => ?_)
  · obtain ⟨a, dx, ln, d, o, ds, os, rfl, _⟩ := h
    rfl
  · obtain ⟨a, dx, ln, d, o, ds, os, rfl, ha, hd, ho, ld, lo, q1, q2⟩ := h
    have PX : Passes (L2.CX P w) (cxOf (L2.CX P w) P w K mg base ["self", "length", "days", "exceptions"] "Travel.__init__" (defScope sTvI) f cdv A outer s H E) E := passes_call (takes_of rfl rfl rfl rfl) (fun _ _ _ _ h => h)
    have G : FnOk P w K mg base (L2.CX P w) 4 fVN dVN ["part", "numbers", "largest", "most"] (spVN K cV) := ok_vn (k := 0) W.uVN T W.mE
    refine ⟨_, pss_cons (ps_if (pt_not (pt_chain op_le op_le pe_int (pv 1) (C8.pe_gc (by rfl) W.mR))) (pss_one (ps_raise rfl (takes_of rfl rfl rfl rfl) (pmk_kw T.xV T.iV T.tV GI (hr.mono (by omega)) kb pass0 (by rfl) T.gV (pk_cons pe_str (pk_cons pe_int pk_nil))))) pss_nil)
      (pss_cons (ps_expr (pe_call (E := E) G hr (by rfl) W.gVN W.kVN W.bVN .nil PX (pa_cons pe_str (pa_cons (pv 2) (pa_cons (pe_op op_sub (pv 1) pe_int) (pa_cons (C8.pe_gc (by rfl) W.mR) pa_nil))))))
      (pss_cons (ps_expr (pe_call (E := E) G hr (by rfl) W.gVN W.kVN W.bVN .nil PX (pa_cons pe_str (pa_cons (pv 3) (pa_cons (C8.pe_gc (by rfl) W.mD) (pa_cons (C8.pe_gc (by rfl) W.mX) pa_nil))))))
      (pss_cons (ps_fld (pv 0) (pv 1) rfl) (pss_cons (ps_fld (pv 0) (pv 2) rfl) (pss_one (ps_fld (pv 0) (pv 3) rfl)))))), ?_⟩
    refine q_when (b := !(decide (1 ≤ ln) && decide (ln ≤ 14))) (et_not (et_test (ev_chainI (p := fun i j => decide (i ≤ j)) (q := fun i j => decide (i ≤ j)) ev_c (ev_var rfl) ev_c))) (fun hb H1 e1 => ?_) (fun hb H1 e1 => ?_)
    · refine mk2_in T.xV T.nP T.nI fun dd hdd => q2 "length" 0 dd _ ?_ (Same.trans e1 (same_new hdd)) upd_same
      unfold tbad
      rw [if_neg fun hc => by
        rw [decide_eq_true hc.1, decide_eq_true hc.2] at hb
        cases hb]
    · have hc : 1 ≤ ln ∧ ln ≤ 14 := by
        have : (decide (1 ≤ ln) && decide (ln ≤ 14)) = true := by
          cases h : (decide (1 ≤ ln) && decide (ln ≤ 14)) with
          | true => rfl
          | false =>
            rw [h] at hb
            cases hb
        rw [Bool.and_eq_true] at this
        exact ⟨of_decide_eq_true this.1, of_decide_eq_true this.2⟩
      have hd1 := hd.tk (.same e1)
      refine ⟨_, rfl, _, rfl, _, _, rfl, rfl, "days", d, ds, ln - 1, 14, rfl, hd1, ld, fun hv H2 s2 => ?_, fun i dd H2 hv s2 hx => q2 "days" i dd H2 ?_ (Same.trans e1 s2) hx⟩
      · have ho2 := (ho.tk (.same e1)).tk (.same s2)
        refine ⟨_, rfl, "exceptions", o, os, 1000000000000000000, 6, rfl, ho2, lo, fun hv2 H3 s3 => ?_, fun i dd H3 hv2 s3 hx => q2 "exceptions" i dd H3 ?_ (Same.trans (Same.trans e1 s2) s3) hx⟩
        · have ha3 := s3 _ _ (s2 _ _ (e1 _ _ ha))
          refine ⟨_, rfl, _, rfl, a, C, dx, [], rfl, ha3, W.cl, W.nS, by decide, ?_⟩
          refine ⟨_, rfl, _, rfl, a, C, dx, _, rfl, upd_same, W.cl, W.nP, (show 1 < 1000 by decide), ?_⟩
          refine ⟨_, rfl, _, rfl, a, C, dx, _, rfl, upd_same, W.cl, W.nO, Nat.lt_of_le_of_lt (putF_len _ _ _) (show 2 < 1000 by decide), ?_⟩
          refine q1 ?_ _ (fun b x e n => ?_) upd_same
          · unfold tbad
            rw [if_pos hc, hv, hv2]
          · rw [upd_ne n, upd_ne n, upd_ne n]
            exact s3 _ _ (s2 _ _ (e1 _ _ e))
        · unfold tbad
          rw [if_pos hc, hv, hv2]
      · unfold tbad
        rw [if_pos hc, hv]
end
theorem tvF_size (ln : Int) (d o : V) : (tvF ln d o).lookup ("size" : Str) = some (.int ln) := by
  unfold tvF
  rw [lookup_putF, if_neg (by decide +kernel), lookup_putF, if_neg (by decide +kernel), lookup_putF, if_pos rfl]
theorem tvF_pat (ln : Int) (d o : V) : (tvF ln d o).lookup ("pattern" : Str) = some d := by
  unfold tvF
  rw [lookup_putF, if_neg (by decide +kernel), lookup_putF, if_pos rfl]
theorem tvF_odd (ln : Int) (d o : V) : (tvF ln d o).lookup ("odd_days" : Str) = some o := by
  unfold tvF
  rw [lookup_putF, if_pos rfl]
theorem tvF_no (ln : Int) (d o : V) {m : Str} (h1 : ¬ m = "odd_days") (h2 : ¬ m = "pattern") (h3 : ¬ m = "size") : (tvF ln d o).lookup m = none := by
  unfold tvF
  rw [lookup_putF, if_neg h1, lookup_putF, if_neg h2, lookup_putF, if_neg h3]
  rfl
def Tv (K : PySem.W.Frag) (C : Addr) (H : Hp) (a : Addr) (ln : Int) (d o : V) (ds os : List Int) : Prop := (∃ dx, H a = some (.ins C dx (tvF ln d o))) ∧ TiA K H d ds ∧ TiA K H o os
theorem Tv.same {K : PySem.W.Frag} {C : Addr} {H H' : Hp} {a : Addr} {ln : Int} {d o : V} {ds os : List Int} (t : Tv K C H a ln d o ds os) (s : Same H H') : Tv K C H' a ln d o ds os := by
  obtain ⟨⟨dx, h⟩, h1, h2⟩ := t
  exact ⟨⟨dx, s _ _ h⟩, h1.tk (.same s), h2.tk (.same s)⟩
abbrev sRl : Stmt := inClass (top 22) 1
abbrev sRd : Stmt := inClass (top 22) 2
abbrev sEx : Stmt := inClass (top 22) 3
theorem scRl : FnScope ["self"] ["self"] (defScope sRl) := ⟨rfl, rfl, rfl, by decide +kernel, rfl, by decide +kernel, by decide +kernel⟩
theorem scRd : FnScope ["self"] ["self"] (defScope sRd) := ⟨rfl, rfl, rfl, by decide +kernel, rfl, by decide +kernel, by decide +kernel⟩
theorem scEx : FnScope ["self"] ["self"] (defScope sEx) := ⟨rfl, rfl, rfl, by decide +kernel, rfl, by decide +kernel, by decide +kernel⟩
/-! ### the getters -/
structure TPr (K : PySem.W.Frag) (C fRl pRl fRd pRd fEx pEx : Addr) (dRl dRd dEx : FuncData) : Prop where
  pL : PropOf K C "round_length" pRl fRl
  uL : Fun K "round_length" "Travel.round_length" sRl fRl dRl
  pD : PropOf K C "round_days" pRd fRd
  uD : Fun K "round_days" "Travel.round_days" sRd fRd dRd
  pE : PropOf K C "exceptions" pEx fEx
  uE : Fun K "exceptions" "Travel.exceptions" sEx fEx dEx
section
variable {X : Cx} {C fRl pRl fRd pRd fEx pEx fVN : Addr} {dRl dRd dEx dVN : FuncData} {e : Expr} {te : TE} {pos : Pos}
theorem pe_rl (T : TPr X.K C fRl pRl fRd pRd fEx pEx dRl dRd dEx) (W : TTv X.K X.mg C fVN dVN) (hr : Room 2 X.A) (he : PE X e te) (hab : attributeBase e "round_length" X.env (eval e X.env) = eval e X.env := by rfl) : PE X (.Attribute e "round_length" pos) (tProp C (getSp C "size") [] E0 te) := by
  obtain ⟨oc, od, kV, doc, pm, an, cdv, ct, osl, rfl, lk, hcd⟩ := T.uL.ex
  exact pe_prop he W.cl T.pL (fn_getter (k := 0) lk hcd scRl rfl rfl W.cl W.nS) hr (T.uL.binds (ps := ["self"]) fun _ _ _ _ _ _ us hl => match us, hl with | [_], _ => rfl) .nil pass0 hab
theorem pe_rd (T : TPr X.K C fRl pRl fRd pRd fEx pEx dRl dRd dEx) (W : TTv X.K X.mg C fVN dVN) (hr : Room 2 X.A) (he : PE X e te) (hab : attributeBase e "round_days" X.env (eval e X.env) = eval e X.env := by rfl) : PE X (.Attribute e "round_days" pos) (tProp C (getSp C "pattern") [] E0 te) := by
  obtain ⟨oc, od, kV, doc, pm, an, cdv, ct, osl, rfl, lk, hcd⟩ := T.uD.ex
  exact pe_prop he W.cl T.pD (fn_getter (k := 0) lk hcd scRd rfl rfl W.cl W.nP) hr (T.uD.binds (ps := ["self"]) fun _ _ _ _ _ _ us hl => match us, hl with | [_], _ => rfl) .nil pass0 hab
theorem pe_ex (T : TPr X.K C fRl pRl fRd pRd fEx pEx dRl dRd dEx) (W : TTv X.K X.mg C fVN dVN) (hr : Room 2 X.A) (he : PE X e te) (hab : attributeBase e "exceptions" X.env (eval e X.env) = eval e X.env := by rfl) : PE X (.Attribute e "exceptions" pos) (tProp C (getSp C "odd_days") [] E0 te) := by
  obtain ⟨oc, od, kV, doc, pm, an, cdv, ct, osl, rfl, lk, hcd⟩ := T.uE.ex
  exact pe_prop he W.cl T.pE (fn_getter (k := 0) lk hcd scEx rfl rfl W.cl W.nO) hr (T.uE.binds (ps := ["self"]) fun _ _ _ _ _ _ us hl => match us, hl with | [_], _ => rfl) .nil pass0 hab
end
end Sea

set_option Elab.async false
set_option linter.all false
set_option maxRecDepth 100000
set_option maxHeartbeats 4000000
namespace Sea
open PySem PySem.Spec PyProof.Rows L2 LamX NdefX ClX Evl StX
structure TDn (K : PySem.W.Frag) (mg : Str → Option Value) (fD : Addr) (fdD : FuncData) : Prop where
  g : mg "_law_drawn" = some (.ref fD)
  kp : PySem.W.keepIn K (.ref fD) = true
  fu : Fun K "_law_drawn" "_law_drawn" sDrawn fD fdD
  mN : mg "len" = none
theorem TDn.b {K : PySem.W.Frag} {mg : Str → Option Value} {fD : Addr} {fdD : FuncData} (T : TDn K mg fD fdD) : Binds K fdD ["_law_state", "_law_count"] [] := T.fu.binds (ps := ["_law_state", "_law_count"]) fun _ _ _ _ _ _ us hl => match us, hl with | [_, _], _ => rfl
section
variable {X : Cx} {a b : Expr} {ta tb : TE} {p pos : Pos} {fD : Addr} {fdD : FuncData}
/-- _law_drawn(a, b) -/
theorem pe_dr {K : PySem.W.Frag} (T : TDn K X.mg fD fdD) (hr : Room 1 X.A) (hg : Gl X "_law_drawn") (ha : PE X a ta) (hb : PE X b tb) (he : starEach (a :: [b]) X.env = (false, eval a X.env) :: starEach [b] X.env := by rfl) (he2 : starEach (b :: []) X.env = (false, eval b X.env) :: starEach [] X.env := by rfl) (hpl : (backTo pos (starEach [b] X.env)).any (·.1) = false := by rfl) (hK : X.K = K := by rfl) :
    PE X (.Call (.Name "_law_drawn" p) [a, b] [] pos) (tCall (spDrawn K) [] E0 (tCons ta (tCons tb tNil))) := by
  subst hK
  exact pe_call (ok_drawn (k := 0) T.fu T.mN) hr hg T.g T.kp T.b .nil pass0 (pa_cons ha (pa_cons hb pa_nil he2) he) (by decide) he hpl
end
/-! ### expressions that draw -/
def EvS (K : PySem.W.Frag) (te : TE) (σ : L2.St) (H : Hp) (h c : Addr) (P : Int → Prop) : Prop := ∀ H1, Kh h H H1 → Ds K H1 h c → ∀ Q : VK, (∀ v H2, P v → Ds K H2 h c → Kh h H1 H2 → Q (.int v) H2) → te σ H1 Q
section
variable {K : PySem.W.Frag} {te ta tb tl : TE} {σ : L2.St} {H : Hp} {h c : Addr} {P P1 P2 : Int → Prop}
theorem es_of {k : Int} (e : ∀ H1, Kh h H H1 → Ev te σ H1 (.int k)) : EvS K te σ H h c (fun v => v = k) := fun H1 k1 d Q q => e H1 k1 H1 (Ex.refl _) _ fun H2 e2 => q k H2 rfl (d.same e2) (Kh.same e2)
theorem es_c {k : Int} : EvS K (tC (.int k)) σ H h c (fun v => v = k) := es_of fun _ _ => ev_c
theorem es_var {i : Nat} {k : Int} (hs : σ[i]? = some (some (.int k))) : EvS K (tVar i) σ H h c (fun v => v = k) := es_of fun _ _ => ev_var hs
theorem EvS.imp (e : EvS K te σ H h c P1) (i : ∀ v, P1 v → P2 v) : EvS K te σ H h c P2 := fun H1 k1 d Q q => e H1 k1 d Q fun v H2 hv => q v H2 (i v hv)
theorem EvS.later {H' : Hp} (e : EvS K te σ H h c P) (k : Kh h H H') : EvS K te σ H' h c P := fun H1 k1 d Q q => e H1 (k.trans k1) d Q q
theorem es_add (ea : EvS K ta σ H h c P1) (eb : EvS K tb σ H h c P2) : EvS K (tOp rAd ta tb) σ H h c (fun v => ∃ x y, P1 x ∧ P2 y ∧ v = x + y) := fun H1 k1 d Q q =>
  ea H1 k1 d _ fun x H2 px d2 k2 => eb H2 (k1.trans k2) d2 _ fun y H3 py d3 k3 => ⟨x, y, rfl, rfl, q _ H3 ⟨x, y, px, py, rfl⟩ d3 (k2.trans k3)⟩
theorem es_dr {i : Nat} (hs : σ[i]? = some (some (.ref h))) (eb : EvS K tb σ H h c P1) (ok : ∀ m, P1 m → 0 < m ∧ m.natAbs.log2 < 9000 ∧ ∀ v, 0 ≤ v → v < m → P v) : EvS K (tCall (spDrawn K) [] E0 (tCons (tVar i) (tCons tb tNil))) σ H h c P := fun H1 k1 d Q q =>
  ⟨_, hs, eb H1 k1 d _ fun m H2 pm d2 k2 => ⟨h, c, m, rfl, (ok m pm).1, (ok m pm).2.1, d2, fun v H3 v0 v1 d3 k3 => q v H3 ((ok m pm).2.2 v v0 v1) d3 (k2.trans k3)⟩⟩
theorem es_pick {xs : List Int} (el : ∀ H1, EvL tl σ H1 (xs.map V.int)) (eb : EvS K tb σ H h c (fun v => 0 ≤ v ∧ v < xs.length)) : EvS K (tOp (rIxL K) tl tb) σ H h c (fun v => v ∈ xs) := fun H1 k1 d Q q =>
  el H1 H1 (Ex.refl _) _ fun p H2 np e2 hp => eb H2 (k1.trans (Kh.same e2)) (d.same e2) _ fun v H3 hv d3 k3 => by
    obtain ⟨j, rfl⟩ := Int.eq_ofNat_of_zero_le hv.1
    have hj : j < xs.length := by omega
    have at_ : (xs.map V.int)[j]? = some (.int xs[j]) := by
      rw [List.getElem?_map, List.getElem?_eq_getElem hj]
      rfl
    exact ⟨p, _, _, _, rfl, rfl, .of (k3 _ _ hp ((d.nh np))), at_nat (by rw [List.length_map]; exact hj) at_, q _ H3 (List.getElem_mem hj) d3 ((Kh.same e2).trans k3)⟩
/-- a draw below a number of a small table, itself drawn -/
theorem es_tab {i : Nat} {a b d : Int} (hs : σ[i]? = some (some (.ref h))) (el : ∀ H1, EvL tl σ H1 ([a, b, d].map V.int)) (ok : ∀ m, m = a ∨ m = b ∨ m = d → 0 < m ∧ m.natAbs.log2 < 9000 ∧ ∀ v, 0 ≤ v → v < m → P v) :
    EvS K (tCall (spDrawn K) [] E0 (tCons (tVar i) (tCons (tOp (rIxL K) tl (tCall (spDrawn K) [] E0 (tCons (tVar i) (tCons (tC (.int 3)) tNil)))) tNil))) σ H h c P :=
  es_dr hs (es_pick el (es_dr hs es_c fun m e => by
    subst e
    exact ⟨by decide, by decide +kernel, fun v v0 v1 => ⟨v0, v1⟩⟩)) fun m hm => ok m (by simpa using hm)
end
abbrev sPas : Stmt := top 36
abbrev NPa : List Str := ["_law_state", "_law_most", "_law_result", "_law_k", "_law_length"]
theorem scPas : FnScope NPa ["_law_state", "_law_most"] (defScope sPas) := ⟨rfl, rfl, rfl, by decide +kernel, rfl, by decide +kernel, by decide +kernel⟩
def spPas (K : PySem.W.Frag) : Sp := fun vs H Q _ => ∃ (h c : Addr) (m : Int), vs = [.ref h, .int m] ∧ 0 < m ∧ m ≤ 100 ∧ Ds K H h c ∧
  ∀ l vs L H', Ds K H' h c → Kh h H H' → H l = none → H' l = some (.lst vs) → PsV K H' vs L → 1 ≤ L.length → (L.length : Int) ≤ m → (∀ x ∈ L, okP x = true) → Q (.ref l) H'
section
variable {P : Program} {w : World} {K : PySem.W.Frag} {mg : Str → Option Value} {base : Heap} {fD : Addr} {fdD : FuncData}
theorem ok_pas {f : Addr} {fd : FuncData} {k : Nat} (F : Fun K "_law_passes" "_law_passes" sPas f fd) (T : TDn K mg fD fdD) (mR : mg "range" = none) : FnOk P w K mg base CX0 (k + 2) f fd ["_law_state", "_law_most"] (spPas K) := by
  refine F.ok scPas (fun vs H Q E h => ?_) (fun cdv A outer s H vs Q E hr h => ?_)
  · obtain ⟨h, c, m, rfl, _⟩ := h
    rfl
  · obtain ⟨h, c, m, rfl, m0, m1, d, q⟩ := h
    have h1 := hr.mono (show 1 ≤ k + 1 by omega)
    refine ⟨_, pss_cons (ps_set (i := 2) scPas.nd rfl (.inl rfl) (pe_lst pa_nil))
      (pss_cons (ps_for PassesOwn.never rfl (pi_range1 (by rfl) mR (pa_cons (pe_op op_add pe_int (pe_dr T h1 (by rfl) (pv 0) (pv 1))) pa_nil)) (pg_name (i := 3) scPas.nd rfl (.inl rfl))
        (pss_cons (ps_set (i := 4) scPas.nd rfl (.inl rfl) (pe_op op_add pe_int (pe_dr T h1 (by rfl) (pv 0) (pe_ixl (pe_lst (pa_cons pe_int (pa_cons pe_int (pa_cons pe_int pa_nil)))) (pe_dr T h1 (by rfl) (pv 0) pe_int)))))
        (pss_one (ps_expr (pe_bm PySem.F.plainAttrs_list PySem.F.slot_list_append PySem.F.type_list_append mt_append (pv 2) (pa_cons (pe_tup (pa_cons (pv 4) (pa_cons (pe_op op_add pe_int (pe_dr T h1 (by rfl) (pv 0) (pe_ixl (pe_lst (pa_cons pe_int (pa_cons pe_int (pa_cons (pe_op op_pow pe_int pe_int) pa_nil)))) (pe_dr T h1 (by rfl) (pv 0) pe_int)))) pa_nil))) pa_nil))))))
      (pss_one (ps_ret (pv 2)))), ?_⟩
    refine q_asgL (el_lst ea_nil (by decide)) fun l H1 nl e1 hl => ?_
    have d1 := d.same e1
    have nlh : l ≠ h := d.nh nl
    have eN : EvS K (tOp rAd (tC (.int 1)) (tCall (spDrawn K) [] E0 (tCons (tVar 0) (tCons (tVar 1) tNil)))) [some (.ref h), some (.int m), some (.ref l), none, none] H1 h c (fun v => 1 ≤ v ∧ v ≤ m) :=
      (es_add es_c (es_dr (P := fun v => 0 ≤ v ∧ v < m) rfl (es_var rfl) fun x e => by
        subst e
        exact ⟨m0, Nat.lt_of_le_of_lt (Nat.log2_le_self _) (by omega), fun v v0 v1 => ⟨v0, v1⟩⟩)).imp fun v ⟨x, y, hx, hy, e⟩ => by omega
    refine eN H1 Kh.refl d1 _ fun n H2 hn d2 k2 => ⟨n, rfl, by omega, by omega, for_range (lo := 0) (n := n.toNat) (fun i σ' H' => (∃ v3 v4 vs L, σ' = [some (.ref h), some (.int m), some (.ref l), v3, v4] ∧ H' l = some (.lst vs) ∧ PsV K H' vs L ∧ L.length = i ∧ (∀ x ∈ L, okP x = true)) ∧ Ds K H' h c ∧ Kh h H H') ?_ ?_ ?_⟩
    · exact ⟨⟨none, none, [], [], rfl, k2 _ _ hl nlh, .nil, rfl, fun x hx => nomatch hx⟩, d2, (Kh.same e1).trans k2⟩
    · rintro i σ' H' hi ⟨⟨v3, v4, vs, L, rfl, hl', hps, hL, good⟩, d', kk⟩
      have eA : EvS K (tOp rAd (tC (.int 1)) (tCall (spDrawn K) [] E0 (tCons (tVar 0) (tCons (tOp (rIxL K) (tLst (tCons (tC (.int 4)) (tCons (tC (.int 10)) (tCons (tC (.int 28)) tNil)))) (tCall (spDrawn K) [] E0 (tCons (tVar 0) (tCons (tC (.int 3)) tNil)))) tNil)))) [some (.ref h), some (.int m), some (.ref l), some (.int (0 + (i : Int))), v4] H' h c (fun v => 1 ≤ v ∧ v ≤ 28) :=
        (es_add es_c (es_tab (a := 4) (b := 10) (d := 28) (P := fun v => 0 ≤ v ∧ v < 28) rfl (fun _ => el_lst (ea_cons ev_c (ea_cons ev_c (ea_cons ev_c ea_nil))) (show 3 ≤ 100000 by decide)) fun x e => ⟨by omega, by rcases e with rfl | rfl | rfl <;> decide +kernel, fun v v0 v1 => ⟨v0, by omega⟩⟩)).imp fun v ⟨x, y, hx, hy, e⟩ => by omega
      refine eA H' Kh.refl d' _ fun ln H3 hln d3 k3 => ?_
      refine ⟨_, rfl, .inl ⟨rfl, vs, .of (k3 _ _ hl' nlh)⟩, _, rfl, ?_⟩
      have eB : EvS K (tOp rAd (tC (.int 1)) (tCall (spDrawn K) [] E0 (tCons (tVar 0) (tCons (tOp (rIxL K) (tLst (tCons (tC (.int 5)) (tCons (tC (.int 30)) (tCons (tOp rPw (tC (.int 10)) (tC (.int 6))) tNil)))) (tCall (spDrawn K) [] E0 (tCons (tVar 0) (tCons (tC (.int 3)) tNil)))) tNil)))) [some (.ref h), some (.int m), some (.ref l), some (.int (0 + (i : Int))), some (.int ln)] H3 h c (fun v => 1 ≤ v ∧ v ≤ 1000000) :=
        (es_add es_c (es_tab (a := 5) (b := 30) (d := 1000000) (P := fun v => 0 ≤ v ∧ v < 1000000) rfl (fun _ => el_lst (ea_cons ev_c (ea_cons ev_c (ea_cons (ev_pw ev_c ev_c ⟨by decide, by decide, by decide⟩) ea_nil))) (show 3 ≤ 100000 by decide)) fun x e => ⟨by omega, by rcases e with rfl | rfl | rfl <;> decide +kernel, fun v v0 v1 => ⟨v0, by omega⟩⟩)).imp fun v ⟨x, y, hx, hy, e⟩ => by omega
      refine eB H3 Kh.refl d3 _ fun pr H4 hpr d4 k4 => ⟨Nat.le_of_lt (small1000 (show 2 ≤ 1000 by decide)), fun p np => ?_⟩
      have hl4 : H4 l = some (.lst vs) := k4 _ _ (k3 _ _ hl' nlh) nlh
      have hl5 : upd H4 p (.tup [.int ln, .int pr]) l = some (.lst vs) := by
        rw [upd_ne (ne_of_none hl4 np)]
        exact hl4
      have len : vs.length = L.length := hps.len
      refine ⟨l, vs, .ref p, rfl, rfl, hl5, small1000 (by omega), ?_⟩
      have pl : p ≠ l := (ne_of_none hl4 np).symm
      have ph : p ≠ h := d4.nh np
      have k6 : TK K (upd H4 p (.tup [.int ln, .int pr])) (upd (upd H4 p (.tup [.int ln, .int pr])) l (.lst (vs ++ [.ref p]))) := .but (fun b => b = l) (fun b o e n => by rw [upd_ne n]; exact e) fun b xs z => by
        rw [z]
        exact Rd.lst_no hl5
      have kall : Kh h H (upd (upd H4 p (.tup [.int ln, .int pr])) l (.lst (vs ++ [.ref p]))) := fun b o e n => by
        rw [upd_ne (ne_of_none e nl)]
        exact same_new np _ _ (k4 _ _ (k3 _ _ (kk _ _ e n) n) n)
      refine ⟨⟨_, _, vs ++ [.ref p], L ++ [(ln, pr)], rfl, upd_same, PsV.app (((hps.tk (d'.tk (k3.trans k4))).tk (TK.new np)).tk k6) (.cons ⟨p, rfl, .of (by rw [upd_ne pl, upd_same])⟩ .nil), by rw [List.length_append, hL]; rfl, fun x hx => ?_⟩, d.put kall (d4.new np) nlh, kall⟩
      · rcases List.mem_append.mp hx with hx | hx
        · exact good x hx
        · rw [List.mem_singleton.mp hx]
          unfold okP
          rw [decide_eq_true hln.1, decide_eq_true hln.2, decide_eq_true hpr.1, decide_eq_true hpr.2]
          rfl
    · rintro σ' H' ⟨⟨v3, v4, vs, L, rfl, hl', hps, hL, good⟩, d', kk⟩
      exact ⟨_, rfl, q l vs L H' d' kk nl hl' hps (by omega) (by omega) good⟩
end
end Sea

set_option Elab.async false
set_option linter.all false
set_option maxRecDepth 100000
set_option maxHeartbeats 4000000
namespace Sea
open PySem PySem.Spec PyProof.Rows L2 LamX NdefX ClX Evl StX
abbrev sDay : Stmt := top 38
abbrev NDy : List Str := ["_law_state", "_law_length", "_law_dense", "_law_day"]
theorem scDay : FnScope NDy ["_law_state"] (defScope sDay) := ⟨rfl, rfl, rfl, by decide +kernel, rfl, by decide +kernel, by decide +kernel⟩
/-- a pair of a round's length and its travel days -/
def PtA (K : PySem.W.Frag) (H : Hp) (v : V) (ln : Int) (ds : List Int) : Prop := ∃ a d, v = .ref a ∧ SqT K H a [.int ln, d] ∧ TiA K H d ds
def spDay (K : PySem.W.Frag) : Sp := fun vs H Q _ => ∃ (h c : Addr), vs = [.ref h] ∧ Ds K H h c ∧ ∀ (v : V) (ln : Int) (ds : List Int) (H' : Hp), PtA K H' v ln ds → 1 ≤ ln → ln ≤ 14 → Good ds (ln - 1) → (ds.length : Int) ≤ ln → Ds K H' h c → Kh h H H' → Q v H'
section
variable {P : Program} {w : World} {K : PySem.W.Frag} {mg : Str → Option Value} {base : Heap} {fD : Addr} {fdD : FuncData}
theorem ok_day {f : Addr} {fd : FuncData} {k : Nat} (F : Fun K "_law_days" "_law_days" sDay f fd) (T : TDn K mg fD fdD) (mR : mg "range" = none) (mT : mg "tuple" = none) : FnOk P w K mg base CX0 (k + 2) f fd ["_law_state"] (spDay K) := by
  refine F.ok scDay (fun vs H Q E h => ?_) (fun cdv A outer s H vs Q E hr h => ?_)
  · obtain ⟨h, c, rfl, _⟩ := h
    rfl
  · obtain ⟨h, c, rfl, d, q⟩ := h
    have h1 := hr.mono (show 1 ≤ k + 1 by omega)
    have ltb : ∀ {n : Nat}, n ≤ 1000 → n ≤ sizeLine := fun h => Nat.le_of_lt (small1000 h)
    refine ⟨_, pss_cons (ps_asg (pe_tup (pa_cons (pe_op op_add pe_int (pe_dr T h1 (by rfl) (pv 0) pe_int)) (pa_cons (pe_op op_add pe_int (pe_dr T h1 (by rfl) (pv 0) pe_int)) pa_nil))) (pg_tup rfl (pgs_cons (pg_name (i := 1) scDay.nd rfl (.inl rfl)) (pgs_cons (pg_name (i := 2) scDay.nd rfl (.inr rfl)) pgs_nil))))
      (pss_one (ps_ret (pe_tup (pa_cons (pv 1) (pa_cons (pe_callTy call_tuple_of (by rfl) mT (by rfl) (pa_cons (pe_lc (own := [("_law_day", 3)]) (g := gName 3) (by rfl) scDay.nd (pi_range1 (by rfl) mR (pa_cons (pv 1) pa_nil))
        (blkOk_by (own := [("_law_day", 3)]) (N := NDy) (sc := defScope sDay) (by decide +kernel)) (fun _ _ _ _ _ => pg_name (i := 3) scDay.nd rfl (Or.inl rfl))
        (fun _ _ _ _ _ => pts_one (pt_cmpR L2.op_le (pe_dr T h1 (by rfl) (pv 0) pe_int) (pv 2) (nomark _))) (fun _ _ _ _ _ => pv 3)) pa_nil)) pa_nil))))), ?_⟩
    have one : ∀ {σ : L2.St} {H0 : Hp} {m : Int}, 0 < m → m ≤ 100 → σ[0]? = some (some (.ref h)) → EvS K (tOp rAd (tC (.int 1)) (tCall (spDrawn K) [] E0 (tCons (tVar 0) (tCons (tC (.int m)) tNil)))) σ H0 h c (fun v => 1 ≤ v ∧ v ≤ m) := fun {σ H0 m} m0 m1 hs =>
      (es_add es_c (es_dr (P := fun v => 0 ≤ v ∧ v < m) hs es_c fun x e => by
        subst e
        exact ⟨m0, Nat.lt_of_le_of_lt (Nat.log2_le_self _) (by omega), fun v v0 v1 => ⟨v0, v1⟩⟩)).imp fun v ⟨x, y, hx, hy, e⟩ => by omega
    refine one (m := 14) (by decide) (by decide) rfl H Kh.refl d _ fun ln H1 hl d1 k1 => one (m := 4) (by decide) (by decide) rfl H1 Kh.refl d1 _ fun de H2' hd d2' k2' => ⟨ltb (show 2 ≤ 1000 by decide), fun tp ntp => ⟨tp, _, rfl, .of upd_same, rfl, _, _, rfl, _, _, rfl, rfl, ?_⟩⟩
    generalize hH2 : upd H2' tp (.tup [.int ln, .int de]) = H2
    have d2 : Ds K H2 h c := hH2 ▸ d2'.new ntp
    have k2 : Kh h H1 H2 := hH2 ▸ k2'.trans (Kh.same (same_new ntp))
    refine ⟨_, rfl, _, rfl, ln, rfl, by omega, by omega, fun D nD => ?_⟩
    have n1 := d2.nh nD
    refine lc_range (lo := 0) (n := ln.toNat) (fun i H' => ∃ ds : List Int, Ds K H' h c ∧ Kh h H2 H' ∧ H' D = some (.lst (ds.map V.int)) ∧ Good ds ((i : Nat) - 1) ∧ ds.length ≤ i) ⟨[], d2.new nD, Kh.same (same_new nD), upd_same, fun j hj => absurd hj (Nat.not_lt_zero _), Nat.le_refl _⟩ ?_ ?_
    · rintro i H' hi ⟨ds, d3, k3, hD, hg, hlen⟩
      refine ⟨rfl, _, rfl, h, c, 5, rfl, by decide, by decide +kernel, d3, fun y H4 y0 y1 d4 k4 => ⟨_, rfl, _, _, rfl, rfl, _, rfl, ?_⟩⟩
      have hD4 := k4 _ _ hD n1
      refine ite2 (fun _ => ?_) (fun _ => ⟨ds, d4, k3.trans k4, hD4, hg.mono (by omega), by omega⟩)
      have kall : ∀ o, Kh h H2 (upd H4 D o) := fun _ b o e n => by
        rw [upd_ne (ne_of_none e nD)]
        exact (k3.trans k4) b o e n
      refine ⟨_, rfl, _, hD4, by rw [List.length_map]; exact small1000 (by omega), ds ++ [((i : Nat) : Int)], d2.put (kall _) d4 n1, kall _, ?_, ?_, ?_⟩
      · rw [upd_same, List.map_append, Int.zero_add]
        rfl
      · rw [show (((i + 1 : Nat) : Int)) - 1 = (i : Int) by omega]
        exact hg.snoc (by omega)
      · rw [List.length_append, List.length_singleton]
        omega
    · rintro H' ⟨ds, d3, k3, hD, hg, hlen⟩
      refine ⟨D, _, rfl, .inl ⟨.of hD, fun l nl => ⟨ltb (show 2 ≤ 1000 by decide), fun r nr => ?_⟩⟩⟩
      have nlr : l ≠ r := fun z => by
        rw [← z, upd_same] at nr
        cases nr
      refine q _ ln ds _ ⟨r, .ref l, rfl, .of upd_same, l, rfl, .of ?_⟩ (by omega) (by omega) (hg.mono (by omega)) (by omega) ((d3.new nl).new nr) ((((k1.trans k2).trans k3).trans (Kh.same (same_new nl))).trans (Kh.same (same_new nr)))
      rw [upd_ne nlr, upd_same]
end
end Sea

set_option Elab.async false
set_option linter.all false
set_option maxRecDepth 100000
set_option maxHeartbeats 4000000
namespace Sea
open PySem PySem.Spec PyProof.Rows L2 LamX NdefX ClX Evl StX
abbrev sTar : Stmt := top 37
theorem scTar : FnScope ["_law_passes_here"] ["_law_passes_here"] (defScope sTar) := ⟨rfl, rfl, rfl, by decide +kernel, rfl, by decide +kernel, by decide +kernel⟩
theorem bad_ok {L : List (Int × Int)} (h1 : 1 ≤ L.length) (h2 : L.length ≤ 6) (h : ∀ x ∈ L, okP x = true) : bad L = none := by
  unfold bad
  rw [if_neg fun e => by rw [e] at h1; cases h1]
  refine fb_all L 0 fun j x hx => ?_
  have hj := (List.getElem?_eq_some_iff.mp hx).1
  unfold badI
  rw [h x (List.mem_of_getElem? hx), dec_int, beq_eq_false_iff_ne.mpr (by omega)]
  rfl
def spTar (K : PySem.W.Frag) (C : Addr) : Sp := fun vs H Q _ => ∃ (l : Addr) (ws : List V) (L : List (Int × Int)), vs = [.ref l] ∧ H l = some (.lst ws) ∧ PsV K H ws L ∧ 1 ≤ L.length ∧ L.length ≤ 3 ∧ (∀ x ∈ L, okP x = true) ∧
  ∀ a p H', Same H H' → H a = none → Tar K C H' a p L → Q (.ref a) H'
section
variable {P : Program} {w : World} {K : PySem.W.Frag} {mg : Str → Option Value} {base : Heap} {C cI cU cP fI fT : Addr} {mc mp : Value} {fdI fdT : FuncData}
theorem ok_tar {f : Addr} {fd : FuncData} (F : Fun K "_law_tariff" "_law_tariff" sTar f fd) (X1 : TX K mg C cI cU cP fI mc mp) (I : TMk K C fI fT fdI fdT) : FnOk P w K mg base (L2.CX P w) 6 f fd ["_law_passes_here"] (spTar K C) := by
  refine F.okX scTar (fun vs H Q E h => ?_) (fun cdv A outer s H vs Q E hr h => ?_)
  · obtain ⟨l, ws, L, rfl, _⟩ := h
    rfl
  · obtain ⟨l, ws, L, rfl, hl, hps, l1, l3, good, q⟩ := h
    have PX : Passes (L2.CX P w) (cxOf (L2.CX P w) P w K mg base ["_law_passes_here"] "_law_tariff" (defScope sTar) f cdv A outer s H E) E := passes_call (takes_of rfl rfl rfl rfl) (fun _ _ _ _ h => h)
    refine ⟨_, pss_cons (ps_if (pt_cmpR op_eq (pe_callB call_len_seq (by rfl) X1.mN PySem.boot_len (pa_cons (pv 0) pa_nil)) pe_int (nomark _)) (pss_one (ps_ret (pe_tar X1 I hr PX (by rfl) (pa_cons (pe_ixl (pv 0) pe_int) pa_nil)))) pss_nil)
      (pss_cons (ps_if (pt_cmpR op_eq (pe_callB call_len_seq (by rfl) X1.mN PySem.boot_len (pa_cons (pv 0) pa_nil)) pe_int (nomark _)) (pss_one (ps_ret (pe_tar X1 I hr PX (by rfl) (pa_cons (pe_ixl (pv 0) pe_int) (pa_cons (pe_ixl (pv 0) pe_int) pa_nil))))) pss_nil)
      (pss_one (ps_ret (pe_tar X1 I hr PX (by rfl) (pa_cons (pe_ixl (pv 0) pe_int) (pa_cons (pe_ixl (pv 0) pe_int) (pa_cons (pe_ixl (pv 0) pe_int) pa_nil))))))), ?_⟩
    have hb : bad L = none := bad_ok l1 (by omega) good
    have fin : ∀ H' : Hp, Ex H H' → spMk K C cI ws H' Q E := fun _ e => ⟨L, hps.tk (.same e), by omega, fun _ a p H2 sm na t => q a p H2 (Same.trans e sm) (fresh_back e na) t, fun i d H2 hb2 => by rw [hb] at hb2; cases hb2⟩
    have hlen := hps.len
    have eT : ∀ (H' : Hp) (n : Nat), Ex H H' → EvT (tTest (tOp rEq (tCB (rLenS K) (tCons (tVar 0) tNil)) (tC (.int (n : Int))))) [some (.ref l)] H' (decide (V.int (ws.length : Nat) = V.int (n : Int))) := fun _ n e => et_test (ev_op (ev_len (ev_var rfl) (sq_of (e _ _ hl))) ev_c (rv_eq rfl))
    match ws, hl, hlen, fin, eT with
    | [x], hl, hlen, fin, eT =>
      refine q_when (b := decide (V.int (1 : Nat) = V.int 1)) (eT _ 1 (Ex.refl _)) (fun _ H1 e1 => ?_) (fun h => by simp at h)
      exact ⟨_, rfl, l, _, 0, x, rfl, rfl, sq_of (e1 _ _ hl), rfl, fin _ e1⟩
    | [x, y], hl, hlen, fin, eT =>
      refine q_when (b := decide (V.int (2 : Nat) = V.int 1)) (eT _ 1 (Ex.refl _)) (fun h => by simp at h) (fun _ H1 e1 => ?_)
      refine q_when (b := decide (V.int (2 : Nat) = V.int 2)) (eT _ 2 e1) (fun _ H2 e2 => ?_) (fun h => by simp at h)
      exact ⟨_, rfl, l, _, 0, x, rfl, rfl, sq_of (e2 _ _ (e1 _ _ hl)), rfl, _, rfl, l, _, 1, y, rfl, rfl, sq_of (e2 _ _ (e1 _ _ hl)), rfl, fin _ (e1.trans e2)⟩
    | [x, y, z], hl, hlen, fin, eT =>
      refine q_when (b := decide (V.int (3 : Nat) = V.int 1)) (eT _ 1 (Ex.refl _)) (fun h => by simp at h) (fun _ H1 e1 => ?_)
      refine q_when (b := decide (V.int (3 : Nat) = V.int 2)) (eT _ 2 e1) (fun h => by simp at h) (fun _ H2 e2 => ?_)
      have h2 := sq_of (K := K) (e2 _ _ (e1 _ _ hl))
      exact ⟨_, rfl, l, _, 0, x, rfl, rfl, h2, rfl, _, rfl, l, _, 1, y, rfl, rfl, h2, rfl, _, rfl, l, _, 2, z, rfl, rfl, h2, rfl, fin _ (e1.trans e2)⟩
    | [], hl, hlen, _, _ => rw [← hlen] at l1; cases l1
    | _ :: _ :: _ :: _ :: _, hl, hlen, _, _ => simp at hlen; omega
end
end Sea

set_option Elab.async false
set_option linter.all false
set_option maxRecDepth 100000
set_option maxHeartbeats 4000000
namespace Sea
open PySem PySem.Spec PyProof.Rows L2 LamX NdefX ClX Evl StX
abbrev sLengths : Stmt := inClass (top 8) 6
abbrev sPrices : Stmt := inClass (top 8) 7
theorem scLengths : FnScope ["self", "length", "price"] ["self"] (defScope sLengths) := ⟨rfl, rfl, rfl, by decide +kernel, rfl, by decide +kernel, by decide +kernel⟩
theorem scPrices : FnScope ["self", "length", "price"] ["self"] (defScope sPrices) := ⟨rfl, rfl, rfl, by decide +kernel, rfl, by decide +kernel, by decide +kernel⟩
/-- a new tuple of one number of each pass -/
def spCol (K : PySem.W.Frag) (C : Addr) (f : Int × Int → Int) : Sp := fun vs H Q _ => ∃ (a p : Addr) (L : List (Int × Int)), vs = [.ref a] ∧ Tar K C H a p L ∧ L.length ≤ 1000 ∧ ∀ q H', Same H H' → H' q = some (.tup (L.map fun x => .int (f x))) → Q (.ref q) H'
section
variable {P : Program} {w : World} {K : PySem.W.Frag} {mg : Str → Option Value} {base : Heap} {C cI cU cP fI fT fP pP : Addr} {mc mp : Value} {fdP fdI fdT : FuncData}
theorem ok_lengths {f : Addr} {fd : FuncData} {k : Nat} (F : Fun K "lengths" "Tariff.lengths" sLengths f fd) (T : TX K mg C cI cU cP fI mc mp) : FnOk P w K mg base CX0 (k + 1) f fd ["self"] (spCol K C Prod.fst) := by
  refine F.ok scLengths (fun vs H Q E h => ?_) (fun cdv A outer s H vs Q E hr h => ?_)
  · obtain ⟨a, p, L, rfl, _⟩ := h
    rfl
  · obtain ⟨a, p, L, rfl, ht, hlen, q⟩ := h
    refine ⟨_, pss_one (ps_ret (pe_callTy call_tuple_of (by rfl) T.mT (by rfl) (pa_cons (pe_lc (own := [("length", 1), ("price", 2)]) (g := gTup K 2 (gCons (gName 1) (gCons (gName 2) gNil))) (by rfl) scLengths.nd (pi_tup (pe_fld (pv 0) rfl))
      (blkOk_by (own := [("length", 1), ("price", 2)]) (N := ["self", "length", "price"]) (sc := defScope sLengths) (by decide +kernel))
      (fun _ _ _ _ _ => pg_tup rfl (pgs_cons (pg_name (i := 1) scLengths.nd rfl (Or.inl rfl)) (pgs_cons (pg_name (i := 2) scLengths.nd rfl (Or.inl rfl)) pgs_nil))) (fun _ _ _ _ _ => pts_nil) (fun _ _ _ _ _ => pv 1)) pa_nil))), ?_⟩
    obtain ⟨vs, h1, hl, hv⟩ := ht.len_eq
    obtain ⟨⟨dx, ha⟩, _⟩ := ht
    refine ⟨_, rfl, a, C, dx, _, _, rfl, ha, T.cl, T.no, rfl, p, rfl, ?_⟩
    refine ⟨⟨vs, h1⟩, fun D nD => ?_⟩
    have nDb : ∀ {b : Addr} {o : HO}, H b = some o → b ≠ D := fun e => ne_of_none e nD
    refine lc_tup (K := K) (a := p) (xs := vs) (fun i H' => Same H H' ∧ H' D = some (.lst ((L.take i).map fun x => V.int x.1))) ⟨same_new nD, upd_same⟩ (fun i H' _ z => (TK.same z.1) _ _ h1) ?_ ?_
    · rintro i x H' hx ⟨sm, hD⟩
      obtain ⟨⟨l, pr⟩, hLi, b, rfl, hb⟩ := hv.get hx
      refine ⟨b, _, rfl, (TK.same sm) _ _ hb, rfl, _, _, rfl, _, _, rfl, rfl, rfl, ?_⟩
      refine iteT (B := True) ?_
      refine ⟨_, rfl, _, hD, ?_, ?_, ?_⟩
      · rw [List.length_map, List.length_take]
        exact Nat.lt_of_le_of_lt (Nat.min_le_right _ _) (small1000 hlen)
      · intro c o e
        rw [upd_ne (nDb e)]
        exact sm _ _ e
      · rw [upd_same, take_snoc hLi, List.map_append]
        rfl
    · rintro H' ⟨sm, hD⟩
      refine ⟨D, _, rfl, .inl ⟨.of hD, fun l nl => q l _ (sm.trans (same_new nl)) ?_⟩⟩
      rw [upd_same, hl, List.take_length]
theorem ok_prices {f : Addr} {fd : FuncData} {k : Nat} (F : Fun K "prices" "Tariff.prices" sPrices f fd) (T : TX K mg C cI cU cP fI mc mp) : FnOk P w K mg base CX0 (k + 1) f fd ["self"] (spCol K C Prod.snd) := by
  refine F.ok scPrices (fun vs H Q E h => ?_) (fun cdv A outer s H vs Q E hr h => ?_)
  · obtain ⟨a, p, L, rfl, _⟩ := h
    rfl
  · obtain ⟨a, p, L, rfl, ht, hlen, q⟩ := h
    refine ⟨_, pss_one (ps_ret (pe_callTy call_tuple_of (by rfl) T.mT (by rfl) (pa_cons (pe_lc (own := [("length", 1), ("price", 2)]) (g := gTup K 2 (gCons (gName 1) (gCons (gName 2) gNil))) (by rfl) scPrices.nd (pi_tup (pe_fld (pv 0) rfl))
      (blkOk_by (own := [("length", 1), ("price", 2)]) (N := ["self", "length", "price"]) (sc := defScope sPrices) (by decide +kernel))
      (fun _ _ _ _ _ => pg_tup rfl (pgs_cons (pg_name (i := 1) scPrices.nd rfl (Or.inl rfl)) (pgs_cons (pg_name (i := 2) scPrices.nd rfl (Or.inl rfl)) pgs_nil))) (fun _ _ _ _ _ => pts_nil) (fun _ _ _ _ _ => pv 2)) pa_nil))), ?_⟩
    obtain ⟨vs, h1, hl, hv⟩ := ht.len_eq
    obtain ⟨⟨dx, ha⟩, _⟩ := ht
    refine ⟨_, rfl, a, C, dx, _, _, rfl, ha, T.cl, T.no, rfl, p, rfl, ?_⟩
    refine ⟨⟨vs, h1⟩, fun D nD => ?_⟩
    have nDb : ∀ {b : Addr} {o : HO}, H b = some o → b ≠ D := fun e => ne_of_none e nD
    refine lc_tup (K := K) (a := p) (xs := vs) (fun i H' => Same H H' ∧ H' D = some (.lst ((L.take i).map fun x => V.int x.2))) ⟨same_new nD, upd_same⟩ (fun i H' _ z => (TK.same z.1) _ _ h1) ?_ ?_
    · rintro i x H' hx ⟨sm, hD⟩
      obtain ⟨⟨l, pr⟩, hLi, b, rfl, hb⟩ := hv.get hx
      refine ⟨b, _, rfl, (TK.same sm) _ _ hb, rfl, _, _, rfl, _, _, rfl, rfl, rfl, ?_⟩
      refine iteT (B := True) ?_
      refine ⟨_, rfl, _, hD, ?_, ?_, ?_⟩
      · rw [List.length_map, List.length_take]
        exact Nat.lt_of_le_of_lt (Nat.min_le_right _ _) (small1000 hlen)
      · intro c o e
        rw [upd_ne (nDb e)]
        exact sm _ _ e
      · rw [upd_same, take_snoc hLi, List.map_append]
        rfl
    · rintro H' ⟨sm, hD⟩
      refine ⟨D, _, rfl, .inl ⟨.of hD, fun l nl => q l _ (sm.trans (same_new nl)) ?_⟩⟩
      rw [upd_same, hl, List.take_length]
end
end Sea

set_option Elab.async false
set_option linter.all false
set_option maxRecDepth 100000
set_option maxHeartbeats 4000000
namespace Sea
open PySem PySem.Spec PyProof.Rows L2 LamX NdefX ClX Evl StX
/-! ### a, *b = a list -/
def gStar (K : PySem.W.Frag) (t : TGs) : TG := fun v σ H Q => ∃ (a : Addr) (x : V) (xs : List V), v = .ref a ∧ SqL K H a (x :: xs) ∧ ∀ p, H p = none → t [x, .ref p] σ (upd H p (.lst xs)) Q
/-- what a, *b takes from a list: the first item, a new list of the others -/
theorem star_items {prog : Program} {w : World} {A : Around} {E : Value → Shared → Prop} {s : Shared} {l : Addr} {u : Value} {us : List Value} {Q : List Value → Shared → Prop}
    (hh : A.handled = none) (hl : s.heap.IsList l (u :: us).toArray) (hz : us.length < sizeLine)
    (h : ∀ (h1 : Heap) (tk : Tok), (∀ b o, s.heap.get? b = some o → h1.get? b = some o) → Q [u, .ref h1.objs.size] { s with heap := h1.push { cls := .type "list", data := .seq us.toArray }, toks := tk }) :
    wpAny (model prog w) A (unpackItems (.ref l) 2 (some 1)) Q E s := by
  have below : l < s.heap.objs.size := match hl with | ⟨_, e, _⟩ => Heap.lt_size e
  have apart : l ≠ s.heap.objs.size := Nat.ne_of_lt below
  have can : wpAny (model prog w) A (notIterableAtAll (.ref l)) (fun b s' => b = false ∧ s' = s) E s := by
    unfold notIterableAtAll
    exact wpAny_bind (wpAny_specialOf hl.typeIs slot_list_iter.lookup (wpAny_pure ⟨rfl, rfl⟩))
  unfold unpackItems
  refine wpAny_bind (thn can fun b s' z => ?_)
  obtain ⟨rfl, rfl⟩ := z
  refine wpAny_bind (wpAny_holding (wpAny_pyIter_list hl ?_))
  refine wpAny_bind (wpAny_holding (PySem.W.kun_draw apart 1 0 _ _ ⟨_, Heap.get?_push_size _ rfl, rfl, rfl⟩ (hl.push _) (by simp) fun g it1 same1 => ?_))
  have lg : g.IsList l (u :: us).toArray := (hl.push _).extBut same1.extBut apart
  have old : ∀ b o, s'.heap.get? b = some o → b ≠ s'.heap.objs.size ∧ g.get? b = some o := fun b o e =>
    have n : b ≠ s'.heap.objs.size := Nat.ne_of_lt (Heap.lt_size e)
    ⟨n, same1.extBut b o n (Heap.get?_push_of_some _ e)⟩
  have itIn : s'.heap.objs.size < g.objs.size := match it1 with | ⟨_, e, _⟩ => Heap.lt_size e
  have W := Walks.list (prog := prog) (w := w) (A := A.in1) hh s'.heap.objs.size l apart (u :: us).toArray
  refine wpAny_bind (wpAny_holding (wpAny_collect_iter (s := { s' with heap := g }) (T := "list_iterator") (.inr (.inr (.inl rfl))) (PySem.W.kun_shift W (show 1 ≤ (u :: us).toArray.size by simp)).toS (fun j v st => st.1.typeIs) ⟨it1, lg⟩
    (fun b hb => ?_) (List.mem_cons_self ..) (fun z acc mv got => ?_) (by simp; omega)))
  · rcases List.mem_cons.mp hb with rfl | hb
    · exact itIn
    · rw [List.mem_singleton.mp hb]
      exact match lg with | ⟨_, e, _⟩ => Heap.lt_size e
  · obtain ⟨g2, ga, dr, tk, os2⟩ := z
    obtain ⟨kept, same2, same3, same4, same5⟩ := mv
    cases same2
    cases same3
    cases same4
    have ea : acc.toList = us := PySem.W.kun_acc (items := (u :: us).toArray) (k := 1) (by simp) got
    rw [ea]
    refine wpAny_bind (wpAny_newList (wpAny_pure ?_) (by simp; omega))
    have q := h g2 tk (fun b o e => kept b o (by simpa using (old b o e).1) (old b o e).2)
    simp
    exact q
section
variable {X : Cx} {pos : Pos}
theorem pgs_starN {x : Str} {px p : Pos} {es : List Expr} {t : TGs} (h : PGs X (.Name x px :: es) t) : PGs X (.Starred (.Name x px) p :: es) t := ⟨h.run⟩
theorem pg_star {es : List Expr} {k : Nat} {t : TGs} (hc : X.calm = true) (h : PGs X es t)
    (hn : (assignEach es X.env).length = 2 := by rfl) (hst : (assignEach es X.env).findIdx? (·.1) = some 1 := by rfl) : PG X (.Tuple es k pos) (gStar X.K t) := ⟨by
  rintro pins s σ H v u Q I r ⟨a, x, xs, rfl, hq, hw⟩
  cases r
  obtain ⟨its, rv, ⟨o, n, e1, e2, e3, e4⟩, hz⟩ := I.list hq
  cases rv with
  | cons r0 rs =>
    rw [PyProof.Rows.assign_Tuple]
    refine wpAny_bind (wpAny_standAt ?_)
    unfold unpack
    rw [hn, hst]
    refine wpAny_bind (wpAny_holding (star_items (I.ok.hd hc) ⟨o, e1, e2, n, e4⟩ (by rw [List.length_cons] at hz; rw [← rs.length]; omega) fun h1 tk keep => ?_))
    have I1 : Inv X pins σ H { s with heap := h1, toks := tk } := I.kept (t' := tk) keep
    have hp := I1.hok.fresh (Nat.le_refl _)
    refine h.run pins _ σ _ [x, .ref h1.objs.size] _ Q (I1.laid (o := .lst xs) (t' := tk) (fun b o e => Heap.get?_push_of_some _ e) (Nat.le_refl _) ⟨?_, _, 0, rs, Heap.get?_push_size _ rfl⟩) (.cons r0 (.cons rfl .nil)) (hw _ hp)
    rw [List.length_cons] at hz
    omega⟩
end
end Sea

set_option Elab.async false
set_option linter.all false
set_option maxRecDepth 100000
set_option maxHeartbeats 4000000
/-! texts: what the layer's lemmas on evaluation lack, no program in sight -/
namespace Sea
open PySem PySem.Spec PyProof.Rows L2 LamX NdefX ClX Evl StX
section
variable {K : PySem.W.Frag} {te ta tb : TE} {t : TT} {σ : L2.St} {H : Hp}
theorem given_all (n : Nat) (v : Nat → V) : given n (fun _ => true) v = (List.range n).map v := by
  unfold given
  rw [List.filter_eq_self.mpr fun _ _ => rfl]
/-- a comprehension over a text -/
theorem el_lcSt {z : Str} {j : Nat} {vs : List Nat} (f : Nat → Bool) (v : Nat → V) (h : Ev te σ H (.str z)) (hz : z.length ≤ 40000) (hw : ∀ x, wipe ((wipe σ vs).set j (some x)) vs = wipe σ vs)
    (ht : ∀ i c H1, Ex H H1 → z.cps[i]? = some c → EvT t ((wipe σ vs).set j (some (.str ⟨#[c]⟩))) H1 (f i)) (he : ∀ i c H1, Ex H H1 → z.cps[i]? = some c → f i = true → Ev tb ((wipe σ vs).set j (some (.str ⟨#[c]⟩))) H1 (v i)) :
    EvL (tLc (iStr te) (gName j) t tb vs) σ H (given z.cps.size f v) := fun H0 e Q q => h H0 e _ fun H1 e1 => ⟨z, rfl, fun Dl hD =>
  lc_it walk_str (Cw H1 f v Dl) ⟨hD, Ex.new hD, upd_same⟩ (fun _ _ _ _ => trivial) (fun i x G G' hi p y => by
    obtain ⟨rfl, c, hc, rfl⟩ := y
    exact ⟨hw _, cw_turn p (Nat.lt_of_lt_of_le hi (Nat.le_trans (show z.cps.size ≤ 40000 from hz) (by decide))) (ht i c H1 (e.trans e1) hc) (fun hf => he i c H1 (e.trans e1) hc hf)⟩) (fun H' p => q Dl H' (fresh_back e1 p.1) (e1.trans p.2.1) p.2.2)⟩
theorem ev_allL {bs : List Bool} (h : EvL te σ H (bs.map V.bl)) : Ev (tCB (rAll K) (tCons te tNil)) σ H (.bl (bs.all id)) := fun H1 e Q q =>
  h H1 e _ fun p H2 _ e2 hx => ⟨p, bs, rfl, sq_of hx, q H2 e2⟩
theorem ev_lenZ {z : Str} (h : Ev te σ H (.str z)) (hz : z.length ≤ 100000) : Ev (tCB (fun xs H Q => ∃ z, xs = [.str z] ∧ z.length ≤ sizeLine ∧ Q (.int z.length) H) (tCons te tNil)) σ H (.int (z.length : Int)) := fun H1 e Q q =>
  h H1 e _ fun H2 e2 => ⟨z, rfl, sz_of hz, q H2 e2⟩
theorem ev_inSign {c : Nat} {z : Str} (h : Ev ta σ H (.str ⟨#[c]⟩)) (g : Ev tb σ H (.str z)) : Ev (tOp (fun x y H Q => ∃ (c : Nat) (z : Str), x = .str ⟨#[c]⟩ ∧ y = .str z ∧ Q (.bl (decide (c ∈ z.cps.toList))) H) ta tb) σ H (.bl (decide (c ∈ z.cps.toList))) :=
  ev_op h g fun H1 _ Q q => ⟨c, z, rfl, rfl, q H1 (Ex.refl _)⟩
theorem ev_intS {z : Str} {n : Int} (h : Ev te σ H (.str z)) (hn : PySem.intText? z = some n) (hz : z.length ≤ 640) : Ev (tCB (fun xs H Q => ∃ a n, xs = [.str a] ∧ PySem.intText? a = some n ∧ a.length ≤ 640 ∧ Q (.int n) H) (tCons te tNil)) σ H (.int n) := fun H1 e Q q =>
  h H1 e _ fun H2 e2 => ⟨z, n, rfl, hn, hz, q H2 e2⟩
theorem ev_strI {i : Int} (h : Ev te σ H (.int i)) (hi : i.natAbs.log2 < 1920) : Ev (tCB (fun xs H Q => ∃ i, xs = [.int i] ∧ i.natAbs.log2 < 1920 ∧ Q (.str (toString i)) H) (tCons te tNil)) σ H (.str (toString i)) := fun H1 e Q q =>
  h H1 e _ fun H2 e2 => ⟨i, rfl, hi, q H2 e2⟩
end
section
variable {K : PySem.W.Frag} {te ta tb tl : TE} {t : TT} {tr : TA} {σ : L2.St} {H : Hp}
theorem el_lcTup {K : PySem.W.Frag} {σ : L2.St} {H : Hp} {a : Addr} {xs : List V} {tl te : TE} {t : TT} {j : Nat} {vs : List Nat} (f : Nat → Bool) (v : Nat → V) (h : Ev tl σ H (.ref a)) (hx : SqT K H a xs) (hz : xs.length ≤ 40000) (hw : ∀ x, wipe ((wipe σ vs).set j (some x)) vs = wipe σ vs)
    (ht : ∀ (i : Nat) (x : V) H1, Ex H H1 → xs[i]? = some x → EvT t ((wipe σ vs).set j (some x)) H1 (f i)) (he : ∀ (i : Nat) (x : V) H1, Ex H H1 → xs[i]? = some x → f i = true → Ev te ((wipe σ vs).set j (some x)) H1 (v i)) : EvL (tLc (iTup K tl) (gName j) t te vs) σ H (given xs.length f v) := by
  rintro H0 e Q q
  refine h H0 e _ fun H1 e1 => ?_
  have stays : ∀ {H2}, Ex H1 H2 → SqT K H2 a xs := fun e2 => ex_t (e.trans (e1.trans e2)) hx
  refine ⟨a, rfl, ⟨xs, stays (Ex.refl _)⟩, fun D new => ?_⟩
  refine lc_tup (xs := xs) (Cw H1 f v D) ⟨new, Ex.new new, upd_same⟩ (fun _ _ _ w => stays w.2.1) ?_ fun H2 w => q D H2 (fresh_back e1 w.1) (e1.trans w.2.1) w.2.2
  intro i x H2 at_ w
  have few := (List.getElem?_eq_some_iff.mp at_).1
  exact ⟨hw x, cw_turn w (by omega) (ht i x H1 (e.trans e1) at_) (he i x H1 (e.trans e1) at_)⟩
/-- a list that is walked, or a tuple -/
def iSeq (K : PySem.W.Frag) (te : TE) : TI := fun σ H R => iList K te σ H R ∨ iTup K te σ H R
theorem pi_seq {X : Cx} {tg l : Expr} (hl : PE X l tl) : PI X tg l (iSeq X.K tl) := ⟨fun pins s σ H R I h => h.elim ((pi_list hl).run pins s σ H R I) ((pi_tup hl).run pins s σ H R I)⟩
theorem el_lcSeq {a : Addr} {xs : List V} {j : Nat} {vs : List Nat} (f : Nat → Bool) (v : Nat → V) (h : Ev tl σ H (.ref a)) (hx : SqL K H a xs ∨ SqT K H a xs) (hz : xs.length ≤ 40000) (hw : ∀ x, wipe ((wipe σ vs).set j (some x)) vs = wipe σ vs)
    (ht : ∀ (i : Nat) (x : V) H1, Ex H H1 → xs[i]? = some x → EvT t ((wipe σ vs).set j (some x)) H1 (f i)) (he : ∀ (i : Nat) (x : V) H1, Ex H H1 → xs[i]? = some x → f i = true → Ev te ((wipe σ vs).set j (some x)) H1 (v i)) :
    EvL (tLc (iSeq K tl) (gName j) t te vs) σ H (given xs.length f v) := fun H1 e Q q => hx.elim (fun hx => .inl (el_lcL f v h hx hz hw ht he H1 e Q q)) (fun hx => .inr (el_lcTup f v h hx hz hw ht he H1 e Q q))
theorem eu_tupL {p : Addr} {xs : List V} (h : Ev te σ H (.ref p)) (hx : H p = some (.lst xs)) : EvU (tCB (fun xs H Q => ∃ p ys, xs = [.ref p] ∧ ((SqL K H p ys ∧ ∀ l, H l = none → Q (.ref l) (upd H l (.tup ys))) ∨ (SqT K H p ys ∧ Q (.ref p) H))) (tCons te tNil)) σ H xs := fun H1 e Q q =>
  h H1 e _ fun H2 e2 => ⟨p, xs, rfl, .inl ⟨sq_of (e2 _ _ (e _ _ hx)), fun l nl => q l _ (fresh_back e2 nl) (e2.trans (Ex.new nl)) upd_same⟩⟩
theorem et_isV {i : Nat} {v : V} (hs : σ[i]? = some (some v)) : EvT (tTest (tOp (fun x y H Q => y = .non ∧ Q (.bl (decide (x = .non))) H) (tVar i) (tC .non))) σ H (decide (v = .non)) := et_isN hs
theorem ea_star {xs ys : List V} (h : EvL tl σ H xs) (hr : EvA tr σ H ys) : EvA (tStar K tl tr) σ H (xs ++ ys) := fun H1 e Q q =>
  h H1 e _ fun p H2 _ e2 hx => ⟨p, xs, rfl, .inr (sq_of hx), hr H2 (e.trans e2) _ fun H3 e3 => q H3 (e2.trans e3)⟩
theorem ea_star1 {xs : List V} (h : EvL tl σ H xs) : EvA (tStar K tl tNil) σ H xs := by
  have z := ea_star (K := K) h (ea_nil (σ := σ) (H := H))
  rw [List.append_nil] at z
  exact z
theorem sum_le {ys : List Str} {m : Nat} (h : ∀ y ∈ ys, y.length ≤ m) : (ys.map (·.length)).sum ≤ ys.length * m := by
  induction ys with
  | nil => simp
  | cons y r ih =>
    rw [List.map_cons, List.sum_cons, List.length_cons, Nat.succ_mul]
    have h1 := h y (List.mem_cons_self ..)
    have h2 := ih fun z hz => h z (List.mem_cons_of_mem _ hz)
    omega
theorem ev_join {sp : Str} {ys : List Str} (h : Ev ta σ H (.str sp)) (g : EvL tb σ H (ys.map V.str)) (hz : (ys.map (·.length)).sum + ys.length * sp.length ≤ 16777216) :
    Ev (tM1 (fun x xs H Q => ∃ a p, ∃ ys : List Str, x = .str a ∧ xs = [.ref p] ∧ (SqL K H p (ys.map V.str) ∨ SqT K H p (ys.map V.str)) ∧ (ys.map (·.length)).sum + ys.length * a.length ≤ 16777216 ∧ Q (.str (Txt.join a ys)) H) ta tb) σ H (.str (Txt.join sp ys)) := fun H1 e Q q =>
  h H1 e _ fun H2 e2 => ⟨⟨sp, rfl⟩, g H2 (e.trans e2) _ fun p H3 _ e3 hx => ⟨sp, p, ys, rfl, rfl, .inl (sq_of hx), hz, q H3 (e2.trans e3)⟩⟩
/-- a split into a new list -/
theorem el_split {z sp : Str} (h : Ev ta σ H (.str z)) (g : Ev tb σ H (.str sp)) (hs : (sp.length == 0) = false) (hz : z.length ≤ 100000) :
    EvL (tM1 (fun x xs H Q => ∃ a b, x = .str a ∧ xs = [.str b] ∧ (b.length == 0) = false ∧ a.length + 2 ≤ sizeLine ∧ rNewStrs (Txt.split a b) H Q) ta tb) σ H ((Txt.split z sp).map V.str) := fun H1 e Q q =>
  h H1 e _ fun H2 e2 => ⟨⟨z, rfl⟩, g H2 (e.trans e2) _ fun H3 e3 => ⟨z, sp, rfl, rfl, hs, Nat.le_trans (Nat.add_le_add_right hz 2) (by decide), fun p hp => q p _ (fresh_back (e2.trans e3) hp) ((e2.trans e3).trans (Ex.new hp)) upd_same⟩⟩
end
theorem map_getD {α β : Type} (f : α → β) (d : α) (xs : List α) : (List.range xs.length).map (fun i => f (xs.getD i d)) = xs.map f := by
  refine List.ext_getElem? fun i => ?_
  rw [List.getElem?_map, List.getElem?_map]
  by_cases h : i < xs.length
  · rw [List.getElem?_range h, List.getElem?_eq_getElem h]
    show some (f (xs.getD i d)) = some (f xs[i])
    rw [List.getD_eq_getElem?_getD, List.getElem?_eq_getElem h]
    rfl
  · rw [List.getElem?_eq_none (by rw [List.length_range]; omega), List.getElem?_eq_none (by omega)]
    rfl
theorem map_at {α β : Type} {f : α → β} {xs : List α} {i : Nat} {y : β} (h : (xs.map f)[i]? = some y) : ∃ x, xs[i]? = some x ∧ y = f x := by
  rw [List.getElem?_map] at h
  cases e : xs[i]? with
  | none => rw [e] at h; cases h
  | some x => rw [e] at h; exact ⟨x, rfl, (Option.some.inj h).symm⟩
theorem el_is {te : TE} {σ : L2.St} {H : Hp} {xs ys : List V} (h : EvL te σ H xs) (e : xs = ys) : EvL te σ H ys := e ▸ h
theorem et_yes {σ : L2.St} {H : Hp} : EvT (fun _ H Q => Q true H) σ H true := fun H1 _ Q q => q H1 (Ex.refl _)
theorem sgn_eq (c d : Nat) : decide (V.str ⟨#[c]⟩ = V.str ⟨#[d]⟩) = decide (c = d) := by
  by_cases h : c = d
  · rw [h, decide_eq_true rfl, decide_eq_true rfl]
  · rw [decide_eq_false h, decide_eq_false fun e => h (by simpa using e)]
/-- a sign of a number -/
def digC (c : Nat) : Bool := decide (c ∈ ("0123456789" : Str).cps.toList)
theorem digC_iff {c : Nat} (h : digC c = true) : 48 ≤ c ∧ c ≤ 57 := by
  have m : c ∈ ("0123456789" : Str).cps.toList := of_decide_eq_true h
  have e : ("0123456789" : Str).cps.toList = [48, 49, 50, 51, 52, 53, 54, 55, 56, 57] := by decide +kernel
  rw [e] at m
  simp at m
  omega
/-- a word that is no number -/
def badW (z : Str) : Bool := decide (V.str z = V.str "") || (!(((List.range z.cps.size).map fun i => digC (z.cps.getD i 0)).all id) || (decide ((1 : Int) < (z.length : Int)) && decide (z.cps.getD 0 0 = 48)))
def valW (z : Str) : Int := (PySem.intText? z).getD 0
theorem badW_val {z : Str} (h : badW z = false) (hz : z.length ≤ 640) : PySem.intText? z = some (valW z) ∧ 0 ≤ valW z := by
  unfold badW at h
  rw [Bool.or_eq_false_iff, Bool.or_eq_false_iff, Bool.not_eq_false'] at h
  obtain ⟨h1, h2, _⟩ := h
  have dig : NumText.AllDigits z.cps.toList := fun c hc => by
    obtain ⟨i, hi, rfl⟩ := List.mem_iff_getElem.mp hc
    rw [Array.length_toList] at hi
    have := List.all_eq_true.mp h2 (digC (z.cps.getD i 0)) (List.mem_map.mpr ⟨i, List.mem_range.mpr hi, rfl⟩)
    have := digC_iff this
    simpa [Array.getD, hi] using this
  have ne : z.cps.toList ≠ [] := fun e => by
    have : z = "" := by
      cases z with
      | mk a =>
        have : a = #[] := by simpa using e
        rw [this]
        rfl
    rw [this] at h1
    simp at h1
  have e := intText_digits dig ne (Nat.le_trans hz (by decide))
  unfold valW
  rw [e]
  exact ⟨rfl, Int.natCast_nonneg _⟩
def numsW (ws : List Str) : Option (List Int) := if ws.all (fun z => !badW z) = true then some (ws.map valW) else none
end Sea

set_option Elab.async false
set_option linter.all false
set_option maxRecDepth 100000
set_option maxHeartbeats 4000000
namespace Sea
open PySem PySem.Spec PyProof.Rows L2 LamX NdefX ClX Evl StX
abbrev sVC : Stmt := top 10
theorem scVC : FnScope ["count", "smallest", "largest"] ["count", "smallest", "largest"] (defScope sVC) := ⟨rfl, rfl, rfl, by decide +kernel, rfl, by decide +kernel, by decide +kernel⟩
/-- InvalidCount as the code raises it -/
structure TNc (K : PySem.W.Frag) (mg : Str → Option Value) (cN : Addr) : Prop where
  qN : PySem.W.excIn K cN [.type "ValueError", .type "Exception", .type "BaseException", .type "object"] "ValueError.__new__" = true
  gN : mg "InvalidCount" = some (.ref cN)
  kN : PySem.W.keepIn K (.ref cN) = true
  sN : PySem.W.subIn K (.ref cN) (.type "BaseException") = some true
  yN : PySem.W.typeIn K (.ref cN) = some (.type "type")
def spVC (cN : Addr) : Sp := fun vs H Q E => ∃ c x l : Int, vs = [.int c, .int x, .int l] ∧ (x ≤ c ∧ c ≤ l → ∀ H', Same H H' → Q .non H') ∧ (¬ (x ≤ c ∧ c ≤ l) → ∀ H', Same H H' → E (.ref cN) none H')
abbrev sOut : Stmt := top 35
abbrev NOu : List Str := ["_law_work", "_law_e"]
theorem scOut : FnScope NOu ["_law_work"] (defScope sOut) := ⟨rfl, rfl, rfl, by decide +kernel, rfl, by decide +kernel, by decide +kernel⟩
structure TOu (K : PySem.W.Frag) (mg : Str → Option Value) (cN cV cU : Addr) : Prop where
  gN : mg "InvalidCount" = some (.ref cN)
  NN : PySem.W.exmOne K (.ref cN) (.ref cN) = some true
  VN : PySem.W.exmOne K (.ref cV) (.ref cN) = some false
  UN : PySem.W.exmOne K (.ref cU) (.ref cN) = some false
  gV : mg "InvalidTravel" = some (.ref cV)
  gU : mg "UnknownPass" = some (.ref cU)
  fV : XfC K cV
  nV : PySem.W.findIn K (.ref cV) "index" = some none
  pV : PySem.W.findIn K (.ref cV) "part" = some none
  VV : PySem.W.exmOne K (.ref cV) (.ref cV) = some true
  UV : PySem.W.exmOne K (.ref cU) (.ref cV) = some false
  UU : PySem.W.exmOne K (.ref cU) (.ref cU) = some true
/-- what _law_outcome answers: of a thunk that gives a value, the value; of one that raises, a tuple -/
def spOut (cN cV cU : Addr) : (Hp → VK → XK → Prop) → Hp → VK → XK → Prop := fun tl H Q _ => tl H Q fun cls d H1 =>
  (cls = .ref cN ∧ ∀ r H', Same H1 H' → H' r = some (.tup [.str "InvalidCount"]) → Q (.ref r) H') ∨
  (cls = .ref cU ∧ ∀ r H', Same H1 H' → H' r = some (.tup [.str "UnknownPass"]) → Q (.ref r) H') ∨
  (cls = .ref cV ∧ ∃ (dx : Addr) (p : Str) (i : Int), d = some dx ∧ H1 dx = some (.xd [("index", .int i), ("part", .str p)]) ∧ ∀ r H', Same H1 H' → H' r = some (.tup [.str "InvalidTravel", .str p, .int i]) → Q (.ref r) H')
section
variable {P : Program} {w : World} {K : PySem.W.Frag} {mg : Str → Option Value} {base : Heap} {cN cV cU : Addr}
theorem ok_vc {f : Addr} {fd : FuncData} {k : Nat} (F : Fun K "validate_count" "validate_count" sVC f fd) (T : TNc K mg cN) : FnOk P w K mg base (L2.CX P w) (k + 1) f fd ["count", "smallest", "largest"] (spVC cN) := by
  refine F.okX scVC (fun vs H Q E h => ?_) (fun cdv A outer s H vs Q E hr h => ?_)
  · obtain ⟨c, x, l, rfl, _⟩ := h
    rfl
  · obtain ⟨c, x, l, rfl, q1, q2⟩ := h
    refine ⟨_, pss_one (ps_if (pt_not (pt_chain op_le op_le (pv 1) (pv 0) (pv 2))) (pss_one (ps_raise rfl (takes_of rfl rfl rfl rfl) (pmk_own PySem.F.excBase_ValueError T.qN T.gN T.kN (raises_own T.sN T.yN) (by rfl)))) pss_nil), ?_⟩
    refine s_when (b := !(decide (x ≤ c) && decide (c ≤ l))) (et_not (et_test (ev_chainI (p := fun i j => decide (i ≤ j)) (q := fun i j => decide (i ≤ j)) (ev_var rfl) (ev_var rfl) (ev_var rfl)))) (fun hb H1 e1 => q2 (fun hc => ?_) H1 e1) (fun hb H1 e1 => q1 ?_ H1 e1)
    · rw [decide_eq_true hc.1, decide_eq_true hc.2] at hb
      cases hb
    · have : (decide (x ≤ c) && decide (c ≤ l)) = true := by
        cases h : (decide (x ≤ c) && decide (c ≤ l)) with
        | true => rfl
        | false =>
          rw [h] at hb
          cases hb
      rw [Bool.and_eq_true] at this
      exact ⟨of_decide_eq_true this.1, of_decide_eq_true this.2⟩
theorem ok_out {f : Addr} {fd : FuncData} {j k : Nat} (F : Fun K "_law_outcome" "_law_outcome" sOut f fd) (T : TOu K mg cN cV cU) (hjk : j ≤ k) : FnS P w K mg base CX0 (L2.CX P w) (k + 1) j f (spOut cN cV cU) := by
  intro A outer s H fl tl Q E hr e0 hT h
  obtain ⟨oc, od, kV, doc, pm, an, cdv, ct, osl, rfl, lk, hcd⟩ := F.ex
  refine run_ofS (N := NOu) (ps := ["_law_work"]) (us := [.ref fl]) (vs := [.ref fl]) (k := k) lk hcd scOut hr e0 (.of_eq rfl) (.cons rfl .nil) rfl fun hr' => ?_
  refine ⟨_, pss_one (ps_try_cls (X := (cxOf CX0 P w K mg base NOu "_law_outcome" (defScope sOut) f cdv A outer s H E)) (W := fun _ _ _ _ => False) rfl rfl L2.takes0
      (fun U pn xe tk hp => pss_one (ps_ret (show PE ((cxOf CX0 P w K mg base NOu "_law_outcome" (defScope sOut) f cdv A outer s H E).tr pn xe) _ (tActM (cxOf CX0 P w K mg base NOu "_law_outcome" (defScope sOut) f cdv A outer s H E) j 0 fun σ => WE U σ) from
        pe_actM (X := (cxOf CX0 P w K mg base NOu "_law_outcome" (defScope sOut) f cdv A outer s H E).tr pn xe) (j := j) (i := 0) (E := fun σ => WE U σ) (hr'.mono hjk) rfl (fun σ => passAt tk σ) rfl (.inl rfl))))
      (.cons (.bare ⟨by rfl, by decide, .inl T.gN⟩ (fun a oe cls d pn hz hf => pss_one (ps_ret (pe_tup (pa_cons pe_str pa_nil)))))
      (.cons (.named (i := 1) scOut.nd rfl rfl ⟨by rfl, by decide, .inl T.gV⟩ (fun a oe cls d pn hz hf => pss_one (ps_ret (pe_tup (pa_cons pe_str (pa_cons (pe_xf (X := (cxOf CX0 P w K mg base NOu "_law_outcome" (defScope sOut) f cdv A outer s H E)) (pn := pn) K rfl hz hf (pv 1)) (pa_cons (pe_xf (X := (cxOf CX0 P w K mg base NOu "_law_outcome" (defScope sOut) f cdv A outer s H E)) (pn := pn) K rfl hz hf (pv 1)) pa_nil)))))))
      (.cons (.bare ⟨by rfl, by decide, .inl T.gU⟩ (fun a oe cls d pn hz hf => pss_one (ps_ret (pe_tup (pa_cons pe_str pa_nil))))) .nil)))), ?_⟩
  refine ⟨fl, tl, _, _, rfl, rfl, hT, h, fun v H1 q => q, fun cls d H1 hc => ?_⟩
  rcases hc with ⟨rfl, q⟩ | ⟨rfl, q⟩ | ⟨rfl, dx, p, i, rfl, hx, q⟩
  · refine ⟨true, T.NN, fun a na => ?_⟩
    exact ⟨Nat.le_of_lt (small1000 (show 1 ≤ 1000 by decide)), fun r nr => q r _ (same_new nr) upd_same⟩
  · refine ⟨false, T.UN, false, T.UV, true, T.UU, fun a na => ?_⟩
    exact ⟨Nat.le_of_lt (small1000 (show 1 ≤ 1000 by decide)), fun r nr => q r _ (same_new nr) upd_same⟩
  · refine ⟨false, T.VN, true, T.VV, fun a na => ?_⟩
    exact ⟨cV, rfl, T.fV, T.pV, .ref a, rfl, rfl, rfl, dx, _, _, rfl, hx, rfl, cV, rfl, T.fV, T.nV, .ref a, rfl, rfl, rfl, dx, _, _, rfl, hx, rfl, Nat.le_of_lt (small1000 (show 3 ≤ 1000 by decide)), fun r nr => q r _ (same_new nr) upd_same⟩
end
end Sea

set_option Elab.async false
set_option linter.all false
set_option maxRecDepth 100000
set_option maxHeartbeats 4000000
/-! the simulation in plain words, for any buyer -/
namespace Sea
open PySem PySem.Spec PyProof.Rows L2 LamX NdefX ClX Evl StX
/-- a buyer: its first memory, its choice (the pass, the memory), how a memory ages -/
structure By where
  beg : List Int
  ch : List Int → Int × List Int
  gr : List Int → List Int
  tag : List Int := []
structure Par where
  ln : Int
  ds : List Int
  L : List (Int × Int)
  b : By
abbrev Q3 := Int × List Int × Int
def max0 (k : Int) : Int := if k > 0 then k else 0
def goes (g : Par) (d : Nat) : Bool := inV (.int ((d : Int).fmod g.ln)) (g.ds.map V.int)
def pas (L : List (Int × Int)) (i : Int) : Int × Int := (atI L i).getD (1, 1)
/-- ahead of a day's ageing -/
def pre (g : Par) (d : Nat) (s : Q3) : Q3 := if s.1 = 0 ∧ goes g d = true then ((pas g.L (g.b.ch s.2.1).1).1, (g.b.ch s.2.1).2, s.2.2 + (pas g.L (g.b.ch s.2.1).1).2) else s
def stp (g : Par) (d : Nat) (s : Q3) : Q3 := (max0 ((pre g d s).1 - 1), g.b.gr (pre g d s).2.1, (pre g d s).2.2)
def sim (g : Par) : Nat → Q3
  | 0 => (0, g.b.beg, 0)
  | d + 1 => stp g d (sim g d)
def key (g : Par) (d : Nat) : NK := ((d : Int).fmod g.ln, (sim g d).1, (sim g d).2.1)
def InP (L : List (Int × Int)) (i : Int) : Prop := 0 ≤ i ∧ i < L.length
theorem InP.at {L : List (Int × Int)} {i : Int} (h : InP L i) : ∃ x, atI L i = some x ∧ x ∈ L := by
  obtain ⟨h0, h1⟩ := h
  obtain ⟨n, rfl⟩ := Int.eq_ofNat_of_zero_le h0
  have hn : n < L.length := by omega
  exact ⟨L[n], at_nat hn (List.getElem?_eq_getElem hn), List.getElem_mem hn⟩
theorem InP.pas {L : List (Int × Int)} {i : Int} (h : InP L i) : atI L i = some (Sea.pas L i) ∧ Sea.pas L i ∈ L := by
  obtain ⟨x, e, hx⟩ := h.at
  unfold Sea.pas
  rw [e]
  exact ⟨rfl, hx⟩
def PassOk (z : Int × Int) : Prop := 1 ≤ z.1 ∧ z.1 ≤ 28 ∧ 1 ≤ z.2 ∧ z.2 ≤ 1000000
/-- what holds of all memories -/
structure By.Ok (b : By) (L : List (Int × Int)) (I : List Int → Prop) : Prop where
  beg : I b.beg
  ch : ∀ m, I m → InP L (b.ch m).1 ∧ I (b.gr (b.ch m).2)
  gr : ∀ m, I m → I (b.gr m)
  len : ∀ m, I m → m.length ≤ 800 ∧ (b.ch m).2.length ≤ 800
structure Par.Ok (g : Par) (I : List Int → Prop) : Prop where
  l1 : 1 ≤ g.ln
  l2 : g.ln ≤ 14
  ok : ∀ z ∈ g.L, PassOk z
  b : g.b.Ok g.L I
theorem max0_le {k n : Int} (h : k ≤ n) (h0 : 0 ≤ n) : 0 ≤ max0 k ∧ max0 k ≤ n := by
  unfold max0
  split <;> omega
theorem pre_yes {g : Par} {d : Nat} {s : Q3} (h : s.1 = 0 ∧ goes g d = true) : pre g d s = ((pas g.L (g.b.ch s.2.1).1).1, (g.b.ch s.2.1).2, s.2.2 + (pas g.L (g.b.ch s.2.1).1).2) := if_pos h
theorem pre_no {g : Par} {d : Nat} {s : Q3} (h : ¬ (s.1 = 0 ∧ goes g d = true)) : pre g d s = s := if_neg h
theorem sim_ok {g : Par} {I : List Int → Prop} (o : g.Ok I) : ∀ d, I (sim g d).2.1 ∧ 0 ≤ (sim g d).1 ∧ (sim g d).1 ≤ 27
  | 0 => ⟨o.b.beg, show (0 : Int) ≤ 0 by decide, show (0 : Int) ≤ 27 by decide⟩
  | d + 1 => by
    obtain ⟨h1, h2, h3⟩ := sim_ok o d
    show I (stp g d (sim g d)).2.1 ∧ 0 ≤ (stp g d (sim g d)).1 ∧ (stp g d (sim g d)).1 ≤ 27
    unfold stp
    by_cases c : (sim g d).1 = 0 ∧ goes g d = true
    · rw [pre_yes c]
      obtain ⟨i1, i2⟩ := o.b.ch _ h1
      have p := o.ok _ i1.pas.2
      exact ⟨i2, max0_le (by have := p.2.1; omega) (by decide)⟩
    · rw [pre_no c]
      exact ⟨o.b.gr _ h1, max0_le (by omega) (by decide)⟩
theorem pre_len {g : Par} {I : List Int → Prop} (o : g.Ok I) (d : Nat) : (pre g d (sim g d)).2.1.length ≤ 800 := by
  have h := (sim_ok o d).1
  by_cases c : (sim g d).1 = 0 ∧ goes g d = true
  · rw [pre_yes c]
    exact (o.b.len _ h).2
  · rw [pre_no c]
    exact (o.b.len _ h).1
theorem stp_up {g : Par} {I : List Int → Prop} (o : g.Ok I) (d : Nat) : (sim g d).2.2 ≤ (sim g (d + 1)).2.2 ∧ (sim g (d + 1)).2.2 ≤ (sim g d).2.2 + 1000000 := by
  show (sim g d).2.2 ≤ (pre g d (sim g d)).2.2 ∧ (pre g d (sim g d)).2.2 ≤ (sim g d).2.2 + 1000000
  by_cases c : (sim g d).1 = 0 ∧ goes g d = true
  · rw [pre_yes c]
    have p := o.ok _ (o.b.ch _ (sim_ok o d).1).1.pas.2
    have p3 := p.2.2.1
    have p4 := p.2.2.2
    exact ⟨by show _ ≤ (sim g d).2.2 + _; omega, by show (sim g d).2.2 + _ ≤ _; omega⟩
  · rw [pre_no c]
    omega
theorem sim_up {g : Par} {I : List Int → Prop} (o : g.Ok I) (d : Nat) : ∀ n, (sim g d).2.2 ≤ (sim g (d + n)).2.2
  | 0 => Int.le_refl _
  | n + 1 => Int.le_trans (sim_up o d n) (stp_up o (d + n)).1
/-- no key of the first d days stands twice -/
def Fresh (g : Par) (d : Nat) : Prop := ∀ i j, i < j → j < d → key g i ≠ key g j
def IsRep (g : Par) (d j : Nat) : Prop := Fresh g d ∧ j < d ∧ key g j = key g d
/-! ### behind the first repetition -/
theorem goes_eq {g : Par} {i j : Nat} (h : (i : Int).fmod g.ln = (j : Int).fmod g.ln) : goes g i = goes g j := by
  unfold goes
  rw [h]
theorem mod_succ {i j : Nat} {n : Int} (h0 : 0 < n) (h : (i : Int).fmod n = (j : Int).fmod n) : ((i + 1 : Nat) : Int).fmod n = ((j + 1 : Nat) : Int).fmod n := by
  have e : ∀ k : Nat, ((k + 1 : Nat) : Int).fmod n = ((k : Int).fmod n + 1).fmod n := fun k => by
    rw [show ((k + 1 : Nat) : Int) = (k : Int) + 1 by omega, Int.fmod_eq_emod_of_nonneg _ (Int.le_of_lt h0), Int.fmod_eq_emod_of_nonneg _ (Int.le_of_lt h0), Int.fmod_eq_emod_of_nonneg _ (Int.le_of_lt h0), Int.emod_add_emod]
  rw [e i, e j, h]
/-- like days go on alike; what they spend more is the same -/
theorem key_next {g : Par} {I : List Int → Prop} (o : g.Ok I) {i j : Nat} (h : key g i = key g j) : key g (i + 1) = key g (j + 1) ∧ (sim g (i + 1)).2.2 - (sim g i).2.2 = (sim g (j + 1)).2.2 - (sim g j).2.2 := by
  have l1 := o.l1
  injection h with e1 h
  injection h with e2 e3
  have eg := goes_eq e1
  have a : ∀ k, sim g (k + 1) = stp g k (sim g k) := fun _ => rfl
  unfold key
  rw [a i, a j]
  unfold stp
  by_cases c : (sim g i).1 = 0 ∧ goes g i = true
  · have c' : (sim g j).1 = 0 ∧ goes g j = true := by rw [← e2, ← eg]; exact c
    rw [pre_yes c, pre_yes c', e3, mod_succ (by omega) e1]
    exact ⟨rfl, by show (sim g i).2.2 + _ - (sim g i).2.2 = (sim g j).2.2 + _ - (sim g j).2.2; omega⟩
  · have c' : ¬ ((sim g j).1 = 0 ∧ goes g j = true) := by rw [← e2, ← eg]; exact c
    rw [pre_no c, pre_no c', e2, e3, mod_succ (by omega) e1]
    exact ⟨rfl, by show (sim g i).2.2 - (sim g i).2.2 = (sim g j).2.2 - (sim g j).2.2; omega⟩
theorem key_far {g : Par} {I : List Int → Prop} (o : g.Ok I) {i j : Nat} (h : key g i = key g j) : ∀ n, key g (i + n) = key g (j + n) ∧ (sim g (i + n)).2.2 - (sim g i).2.2 = (sim g (j + n)).2.2 - (sim g j).2.2
  | 0 => ⟨h, by show (sim g i).2.2 - _ = (sim g j).2.2 - _; omega⟩
  | n + 1 => by
    obtain ⟨k1, k2⟩ := key_far o h n
    obtain ⟨k3, k4⟩ := key_next o k1
    exact ⟨k3, by show (sim g (i + n + 1)).2.2 - _ = (sim g (j + n + 1)).2.2 - _; omega⟩
end Sea

set_option Elab.async false
set_option linter.all false
set_option maxRecDepth 100000
set_option maxHeartbeats 4000000
/-! a buyer of any of the classes, as Spending takes it -/
namespace Sea
open PySem PySem.Spec PyProof.Rows L2 LamX NdefX ClX Evl StX
/-- all that stood is kept but a -/
def KA (a : Addr) (H H' : Hp) : Prop := ∀ b o, H b = some o → b ≠ a → H' b = some o
/-- «the buyer at b has the passes L and does what .. says» -/
abbrev BuyP := Hp → Addr → List (Int × Int) → By → Prop
def spBegK (K : PySem.W.Frag) (B : BuyP) : Sp := fun vs H Q _ => ∃ (a : Addr) (L : List (Int × Int)) (b : By), vs = [.ref a] ∧ B H a L b ∧ ∀ v H', Same H H' → TiA K H' v b.beg → Q v H'
def spChK (K : PySem.W.Frag) (B : BuyP) (I : By → List Int → Prop) : Sp := fun vs H Q _ => ∃ (a : Addr) (L : List (Int × Int)) (b : By) (v : V) (m : List Int), vs = [.ref a, v] ∧ B H a L b ∧ L.length ≤ 1000 ∧ TiA K H v m ∧ I b m ∧ b.Ok L (I b) ∧
  ∀ (r : Addr) (v' : V) H', Same H H' → SqT K H' r [.int (b.ch m).1, v'] → TiA K H' v' (b.ch m).2 → Q (.ref r) H'
def spGrK (K : PySem.W.Frag) (B : BuyP) : Sp := fun vs H Q _ => ∃ (a : Addr) (L : List (Int × Int)) (b : By) (v : V) (m : List Int), vs = [.ref a, v] ∧ B H a L b ∧ L.length ≤ 1000 ∧ TiA K H v m ∧ m.length ≤ 900 ∧ ∀ (v' : V) H', Same H H' → TiA K H' v' (b.gr m) → Q v' H'
structure Kind (P : Program) (w : World) (K : PySem.W.Frag) (mg : Str → Option Value) (base : Heap) (C D : Addr) where
  B : BuyP
  I : By → List Int → Prop
  pT : Addr
  fT : Addr
  fB : Addr
  fC : Addr
  fG : Addr
  dT : FuncData
  dB : FuncData
  dC : FuncData
  dG : FuncData
  cl : Cls K D
  prT : PropOf K D "tariff" pT fT
  oT : FnOk P w K mg base CX0 1 fT dT ["self"] (getSp D "offer")
  bT : Binds K dT ["self"] []
  mB : Meth K D "beginning" fB
  oB : FnOk P w K mg base CX0 3 fB dB ["self"] (spBegK K B)
  bB : Binds K dB ["self"] []
  mC : Meth K D "choose" fC
  oC : FnOk P w K mg base CX0 3 fC dC ["self", "memory"] (spChK K B I)
  bC : Binds K dC ["self", "memory"] []
  mG : Meth K D "grow_older" fG
  oG : FnOk P w K mg base CX0 3 fG dG ["self", "memory"] (spGrK K B)
  bG : Binds K dG ["self", "memory"] []
  at_ : ∀ {H a L b}, B H a L b → ∃ dx fs t p, H a = some (.ins D dx fs) ∧ fs ≠ [] ∧ fs.lookup ("offer" : Str) = some (V.ref t) ∧ fs.lookup ("beginning" : Str) = none ∧ fs.lookup ("choose" : Str) = none ∧ fs.lookup ("grow_older" : Str) = none ∧ Tar K C H t p L
  move : ∀ {H H' a L b z S dx}, B H a L b → H z = some (.ins S dx []) → KA z H H' → B H' a L b
  same : ∀ {H H' a L b}, B H a L b → Same H H' → B H' a L b
end Sea

set_option Elab.async false
set_option linter.all false
set_option maxRecDepth 100000
set_option maxHeartbeats 4000000
namespace Sea
open PySem PySem.Spec PyProof.Rows L2 LamX NdefX ClX Evl StX
abbrev sSpI : Stmt := inClass (top 26) 0
abbrev NSp : List Str := ["self", "buyer", "travel", "day", "left", "memory", "seen", "total", "index", "price"]
theorem scSpI : FnScope NSp ["self", "buyer", "travel"] (defScope sSpI) := ⟨rfl, rfl, rfl, by decide +kernel, rfl, by decide +kernel, by decide +kernel⟩
/-- (e).f = v as one of several targets -/
def gAt (K : PySem.W.Frag) (ta : TE) (f : Str) : TG := fun v σ H Q => ta σ H fun x H1 => ∃ a C dx fs, x = .ref a ∧ H1 a = some (.ins C dx fs) ∧ Cls K C ∧ NoAttr K C f ∧ fs.length < 1000 ∧ Q σ (upd H1 a (.ins C dx (putF f v fs)))
theorem pg_at {X : Cx} {o : Expr} {ta : TE} {f : Str} {pos : Pos} (ho : PE X o ta) : PG X (.Attribute o f pos) (gAt X.K ta f) := by
  refine ⟨fun pins s σ H v u Q I r h => ?_⟩
  rw [assign_Attribute]
  refine wpAny_bind (wpAny_holding (thn (ho.run pins s σ H _ I h) fun ov s1 ⟨x, H1, I1, rx, a, C, dx, fs, ex, ea, c, n, l, q⟩ => ?_))
  subst ex
  obtain rfl : ov = Value.ref a := rx
  refine wpAny_bind (wpAny_standAt (wpAny_bind (wpAny_holding (setattr_ok I1 ea c n l r fun s3 I3 => ?_))))
  exact wpAny_release ⟨σ, _, I3, q⟩
theorem ev_int1 {te : TE} {σ : L2.St} {H : Hp} {n : Int} (h : Ev te σ H (.int n)) : Ev (tCB (fun xs H Q => (∃ n, xs = [V.int n] ∧ Q (.int n) H) ∨ ∃ b : Bool, xs = [V.bl b] ∧ Q (.int (if b then 1 else 0)) H) (tCons te tNil)) σ H (.int n) := fun H1 e Q q => h H1 e _ fun H2 e2 => .inl ⟨n, rfl, q H2 e2⟩
/-- the class Spending -/
structure TSg (K : PySem.W.Frag) (mg : Str → Option Value) (S : Addr) : Prop where
  cl : Cls K S
  nT : NoAttr K S "totals"
  nB : NoAttr K S "bought"
  nS : NoAttr K S "start"
  nP : NoAttr K S "period"
  nG : NoAttr K S "gain"
  gS : mg "Spending" = some (.ref S)
  mI : mg "int" = none
  mX : mg "max" = none
/-- its fields at the end -/
abbrev spF (tl bd : Addr) (a b c : Int) : List (Str × V) := putF "gain" (.int c) (putF "period" (.int b) (putF "start" (.int a) (putF "bought" (.ref bd) (putF "totals" (.ref tl) []))))
end Sea

set_option Elab.async false
set_option linter.all false
set_option maxRecDepth 100000
set_option maxHeartbeats 4000000
/-! the loop of Spending: its states -/
namespace Sea
open PySem PySem.Spec PyProof.Rows L2 LamX NdefX ClX Evl StX
theorem KA.same {a : Addr} {H H1 H2 : Hp} (k : KA a H H1) (s : Same H1 H2) : KA a H H2 := fun b o e n => s _ _ (k b o e n)
theorem KA.put {a z : Addr} {H H1 : Hp} {o : HO} (k : KA a H H1) (n : H z = none ∨ z = a) : KA a H (upd H1 z o) := fun b u e nb => by
  rw [upd_ne ?_]
  · exact k b u e nb
  · rintro rfl
    rcases n with n | n
    · rw [e] at n
      cases n
    · exact nb n
section
variable {K : PySem.W.Frag} {C D S CV : Addr} {H H' : Hp} {a dx : Addr}
theorem KA.tk (k : KA a H H') (ha : H a = some (.ins S dx [])) : TK K H H' := .but (fun b => b = a) (fun b o e n => k b o e n) fun b xs z => by
  rw [z]
  exact Rd.ins_no ha
theorem ins_apart {b C' dx' : Addr} {fs : List (Str × V)} (ha : H a = some (.ins S dx [])) (hb : H b = some (.ins C' dx' fs)) (n : fs ≠ []) : b ≠ a := by
  rintro rfl
  rw [ha] at hb
  injection hb with hb
  injection hb with _ _ hb
  exact n hb.symm
theorem KA.tar {t p : Addr} {L : List (Int × Int)} (k : KA a H H') (ha : H a = some (.ins S dx [])) (h : Tar K C H t p L) : Tar K C H' t p L := by
  obtain ⟨⟨d1, h1⟩, h2⟩ := h
  exact ⟨⟨d1, k _ _ h1 (ins_apart ha h1 (by simp))⟩, h2.tk (k.tk ha)⟩
theorem KA.tv {b : Addr} {ln : Int} {d o : V} {ds os : List Int} (k : KA a H H') (ha : H a = some (.ins S dx [])) (h : Tv K CV H b ln d o ds os) : Tv K CV H' b ln d o ds os := by
  obtain ⟨⟨d1, h1⟩, h2, h3⟩ := h
  exact ⟨⟨d1, k _ _ h1 (ins_apart ha h1 fun z => by have : (tvF ln d o).length = 3 := rfl; rw [z] at this; cases this)⟩, h2.tk (k.tk ha), h3.tk (k.tk ha)⟩
end
theorem tk_lst {K : PySem.W.Frag} {H : Hp} {z : Addr} {xs : List V} {o : HO} (e : H z = some (.lst xs)) : TK K H (upd H z o) := .but (fun b => b = z) (fun b u q n => by rw [upd_ne n]; exact q) fun b ys q => by
  rw [q]
  exact Rd.lst_no e
theorem tk_ins {K : PySem.W.Frag} {H : Hp} {z C dx : Addr} {fs : List (Str × V)} {o : HO} (e : H z = some (.ins C dx fs)) : TK K H (upd H z o) := .but (fun b => b = z) (fun b u q n => by rw [upd_ne n]; exact q) fun b ys q => by
  rw [q]
  exact Rd.ins_no e
theorem tk_dk {K : PySem.W.Frag} {H : Hp} {z : Addr} {kvs : List (Key × V)} {o : HO} (e : H z = some (.dK kvs)) : TK K H (upd H z o) := .but (fun b => b = z) (fun b u q n => by rw [upd_ne n]; exact q) fun b ys q => by
  rw [q]
  rintro (h | ⟨o, h⟩)
  · rw [e] at h
    cases h
  · rw [e] at h
    cases h
theorem tk_nd {P : Program} {w : World} {K : PySem.W.Frag} {H : Hp} {z : Addr} {ks : List NE} {o : HO} (e : H z = some (NdO P w z ks)) : TK K H (upd H z o) := .but (fun b => b = z) (fun b u q n => by rw [upd_ne n]; exact q) fun b ys q => by
  rw [q]
  exact nd_no (K := K) e ys
/-! ### readings -/
theorem eqv_nil (os : List Int) : PyData.eqv (.tuple (os.map PyData.int)) (.tuple []) = decide (os = []) := by
  cases os with
  | nil => rfl
  | cons a r => rfl
theorem ints_shT (ns : List Int) : SeqAt.shaped (.tuple (ns.map PyData.int)) = true := ints_sh ns
section
variable {K : PySem.W.Frag} {σ : L2.St} {H : Hp} {C : Addr}
theorem ev_prop {i : Nat} {a dx : Addr} {fs : List (Str × V)} {f : Str} {v : V} (hs : σ[i]? = some (some (.ref a))) (ha : H a = some (.ins C dx fs)) (hf : fs.lookup f = some v) : Ev (tProp C (getSp C f) [] E0 (tVar i)) σ H v := fun H1 e Q q =>
  ⟨_, hs, a, dx, fs, rfl, e _ _ ha, a, dx, fs, v, rfl, e _ _ ha, hf, q H1 (Ex.refl _)⟩
theorem tv_get {a : Addr} {ln : Int} {d o v : V} {ds os : List Int} {fn : Str} {i : Nat} (hs : σ[i]? = some (some (.ref a))) (t : Tv K C H a ln d o ds os) (hl : (tvF ln d o).lookup fn = some v) : Ev (tProp C (getSp C fn) [] E0 (tVar i)) σ H v := by
  obtain ⟨⟨dx, ha⟩, _⟩ := t
  exact ev_prop hs ha hl
end
abbrev tInt (te : TE) : TE := tCB (fun xs H Q => (∃ n, xs = [V.int n] ∧ Q (.int n) H) ∨ ∃ b : Bool, xs = [V.bl b] ∧ Q (.int (if b then 1 else 0)) H) (tCons te tNil)
section
variable {K : PySem.W.Frag} {σ : L2.St} {H : Hp} {CV tv : Addr} {dv ov : V} {os : List Int} {g : Par}
/-- int(day) % travel.round_length -/
theorem mod_run {d : Nat} (o : 1 ≤ g.ln) (h2 : σ[2]? = some (some (.ref tv))) (h3 : σ[3]? = some (some (.int d))) (ht : Tv K CV H tv g.ln dv ov g.ds os) : Ev (tOp (rI (fun _ j => j ≠ 0) fun i j => .int (i.fmod j)) (tInt (tVar 3)) (tProp CV (getSp CV "size") [] E0 (tVar 2))) σ H (.int ((d : Int).fmod g.ln)) :=
  ev_op (ev_int1 (ev_var h3)) (tv_get h2 ht (tvF_size ..)) (rv_I (C := fun _ j => j ≠ 0) (g := fun i j => .int (i.fmod j)) (i := (d : Int)) (j := g.ln) (by omega))
theorem key_run {d : Nat} {l : Int} {vm : V} {m : List Int} (o : 1 ≤ g.ln) (h2 : σ[2]? = some (some (.ref tv))) (h3 : σ[3]? = some (some (.int d))) (h4 : σ[4]? = some (some (.int l))) (h5 : σ[5]? = some (some vm)) (ht : Tv K CV H tv g.ln dv ov g.ds os) (hm : TiA K H vm m) :
    EvD (tTup (tCons (tOp (rI (fun _ j => j ≠ 0) fun i j => .int (i.fmod j)) (tInt (tVar 3)) (tProp CV (getSp CV "size") [] E0 (tVar 2))) (tCons (tVar 4) (tCons (tVar 5) tNil)))) σ H fun v H' => KeyAt K H' v ((d : Int).fmod g.ln, l, m) := fun H1 e Q q =>
  mod_run o h2 h3 ht H1 e _ fun H2 e2 => by
    obtain ⟨pm, rfl, hm⟩ := hm
    refine ⟨_, h4, _, h5, Nat.le_of_lt (small1000 (show 3 ≤ 1000 by decide)), fun r nr => q (.ref r) _ (e2.trans (same_new nr)) ⟨r, pm, rfl, .of upd_same, ?_⟩⟩
    exact (TK.new nr) _ _ (ex_t (e.trans e2) hm)
end
/-! ### the dict of the days that were seen -/
def SeenIs (g : Par) (d : Nat) (ks : List NE) : Prop := ks.map (fun p => (p.1, p.2.2)) = (List.range d).map fun k => (key g k, (k : Int))
theorem fnd_map (ks : List NE) (k : NK) : fnd ks k = ((ks.map fun p => (p.1, p.2.2)).find? fun p => decide (p.1 = k)).map (·.2) := by
  unfold fnd
  induction ks with
  | nil => rfl
  | cons p r ih =>
    rw [List.map_cons, List.find?_cons, List.find?_cons]
    by_cases e : p.1 = k
    · rw [decide_eq_true e]
      rfl
    · rw [decide_eq_false e]
      exact ih
theorem SeenIs.len {g : Par} {d : Nat} {ks : List NE} (h : SeenIs g d ks) : ks.length = d := by
  have := congrArg List.length h
  rw [List.length_map, List.length_map, List.length_range] at this
  exact this
theorem SeenIs.some {g : Par} {d : Nat} {ks : List NE} {k : NK} {n : Int} (h : SeenIs g d ks) (e : fnd ks k = some n) : ∃ j, j < d ∧ n = (j : Int) ∧ key g j = k := by
  rw [fnd_map, show ks.map (fun p => (p.1, p.2.2)) = _ from h] at e
  obtain ⟨p, hp, rfl⟩ := Option.map_eq_some_iff.mp e
  have h1 := List.find?_some hp
  obtain ⟨j, hj, rfl⟩ := List.mem_map.mp (List.mem_of_find?_eq_some hp)
  exact ⟨j, List.mem_range.mp hj, rfl, of_decide_eq_true h1⟩
theorem SeenIs.none {g : Par} {d : Nat} {ks : List NE} {k : NK} (h : SeenIs g d ks) (e : fnd ks k = none) : ∀ j, j < d → key g j ≠ k := fun j hj z => by
  rw [fnd_map, show ks.map (fun p => (p.1, p.2.2)) = _ from h, Option.map_eq_none_iff, List.find?_eq_none] at e
  exact e (key g j, (j : Int)) (List.mem_map.mpr ⟨j, List.mem_range.mpr hj, rfl⟩) (decide_eq_true z)
theorem SeenIs.snoc {g : Par} {d : Nat} {ks : List NE} {b : Addr} (h : SeenIs g d ks) : SeenIs g (d + 1) (ks ++ [(key g d, b, (d : Int))]) := by
  unfold SeenIs at *
  rw [List.map_append, h, List.range_succ, List.map_append]
  rfl
theorem Fresh.snoc {g : Par} {d : Nat} (h : Fresh g d) (n : ∀ j, j < d → key g j ≠ key g d) : Fresh g (d + 1) := fun i j hi hj => by
  by_cases e : j < d
  · exact h i j hi e
  · obtain rfl : j = d := by omega
    exact n i hi
/-! ### totals -/
def tots (g : Par) (d : Nat) : List V := (List.range (d + 1)).map fun k => V.int (sim g k).2.2
theorem tots_len (g : Par) (d : Nat) : (tots g d).length = d + 1 := by
  unfold tots
  rw [List.length_map, List.length_range]
theorem tots_at (g : Par) {d k : Nat} (h : k ≤ d) : atI (tots g d) (k : Int) = some (.int (sim g k).2.2) := by
  refine at_nat (by rw [tots_len]; omega) ?_
  unfold tots
  rw [List.getElem?_map, List.getElem?_range (by omega)]
  rfl
theorem tots_last (g : Par) (d : Nat) : atI (tots g d) (-1) = some (.int (sim g d).2.2) := by
  unfold atI
  rw [tots_len]
  have e : ixN (d + 1) (-1) = some d := by
    unfold ixN
    rw [if_neg (by decide), if_pos (by omega)]
    congr 1
    omega
  rw [e]
  show (tots g d)[d]? = _
  unfold tots
  rw [List.getElem?_map, List.getElem?_range (by omega)]
  rfl
theorem tots_snoc (g : Par) (d : Nat) : tots g (d + 1) = tots g d ++ [.int (sim g (d + 1)).2.2] := by
  unfold tots
  rw [List.range_succ, List.map_append]
  rfl
/-- what is bought on a day -/
def bat (g : Par) (d : Nat) : Option Int := if (sim g d).1 = 0 ∧ goes g d = true then some (g.b.ch (sim g d).2.1).1 else none
def Bought (g : Par) (d : Nat) (kvs : List (Key × V)) : Prop := ∀ k : Nat, valV kvs (.inl (k : Int)) = if k < d then (bat g k).map V.int else none
theorem Bought.none {g : Par} {d : Nat} {kvs : List (Key × V)} (h : Bought g d kvs) (n : bat g d = Option.none) : Bought g (d + 1) kvs := fun k => by
  rw [h k]
  by_cases e : k < d
  · rw [if_pos e, if_pos (by omega)]
  · rw [if_neg e]
    by_cases e2 : k < d + 1
    · obtain rfl : k = d := by omega
      rw [if_pos e2, n]
      rfl
    · rw [if_neg e2]
theorem Bought.put {g : Par} {d : Nat} {kvs : List (Key × V)} {i : Int} (h : Bought g d kvs) (n : bat g d = some i) : Bought g (d + 1) (putK kvs (.inl (d : Int)) (.int i)) := fun k => by
  rw [valV_put, h k]
  by_cases e : k = d
  · subst e
    rw [if_pos rfl, if_pos (Nat.lt_succ_self k), n]
    rfl
  · rw [if_neg (fun z => e (by injection z with z; omega))]
    by_cases e2 : k < d
    · rw [if_pos e2, if_pos (by omega)]
    · rw [if_neg e2, if_neg (by omega)]
end Sea

set_option Elab.async false
set_option linter.all false
set_option maxRecDepth 100000
set_option maxHeartbeats 4000000
namespace Sea
open PySem PySem.Spec PyProof.Rows L2 LamX NdefX ClX Evl StX
/-- what the loop stands on: the heap H0 ahead of it, the new objects -/
structure Lp (P : Program) (w : World) (K : PySem.W.Frag) (g : Par) (S a dx tl bd sd : Addr) (H0 : Hp) (d : Nat) (vm : V) (kvs : List (Key × V)) (ks : List NE) (H : Hp) : Prop where
  me : TiA K H vm (sim g d).2.1
  ka : KA a H0 H
  ia : H a = some (.ins S dx (putF "bought" (.ref bd) (putF "totals" (.ref tl) [])))
  it : H tl = some (.lst (tots g d))
  ib : H bd = some (.dK kvs)
  lb : kvs.length ≤ d
  bo : Bought g d kvs
  is : H sd = some (NdO P w sd ks)
  ki : KeysIn K H ks
  si : SeenIs g d ks
  fr : Fresh g d
theorem Lp.same {P : Program} {w : World} {K : PySem.W.Frag} {g : Par} {S a dx tl bd sd : Addr} {H0 : Hp} {d : Nat} {vm : V} {kvs : List (Key × V)} {ks : List NE} {H H' : Hp} (l : Lp P w K g S a dx tl bd sd H0 d vm kvs ks H) (s : Same H H') : Lp P w K g S a dx tl bd sd H0 d vm kvs ks H' :=
  ⟨l.me.tk (.same s), l.ka.same s, s _ _ l.ia, s _ _ l.it, s _ _ l.ib, l.lb, l.bo, s _ _ l.is, l.ki.tk (.same s), l.si, l.fr⟩
theorem flat_ints (ns : List Int) : (ns.map V.int).all flatV = true := by
  rw [List.all_map]
  exact List.all_eq_true.mpr fun _ _ => rfl
theorem rd_test {r : R2} {ta tb : TE} {σ : L2.St} {H : Hp} {Q : Bool → Hp → Prop} {P : V → Hp → Prop} (h : EvD ta σ H P) (k : ∀ v H1, Ex H H1 → P v H1 → tb σ H1 fun y H2 => r v y H2 fun x H' => ∃ k, x = .bl k ∧ Q k H') : tTest (tOp r ta tb) σ H Q := h H (Ex.refl _) _ k
/-- .. within a day, behind the choice -/
structure Mp (P : Program) (w : World) (K : PySem.W.Frag) (g : Par) (S a dx tl bd sd : Addr) (H0 : Hp) (d : Nat) (vm : V) (kvs : List (Key × V)) (ks : List NE) (H : Hp) : Prop where
  me : TiA K H vm (pre g d (sim g d)).2.1
  ka : KA a H0 H
  ia : H a = some (.ins S dx (putF "bought" (.ref bd) (putF "totals" (.ref tl) [])))
  it : H tl = some (.lst (tots g d))
  ib : H bd = some (.dK kvs)
  lb : kvs.length ≤ d + 1
  bo : Bought g (d + 1) kvs
  is : H sd = some (NdO P w sd ks)
  ki : KeysIn K H ks
theorem Mp.same {P : Program} {w : World} {K : PySem.W.Frag} {g : Par} {S a dx tl bd sd : Addr} {H0 : Hp} {d : Nat} {vm : V} {kvs : List (Key × V)} {ks : List NE} {H H' : Hp} (l : Mp P w K g S a dx tl bd sd H0 d vm kvs ks H) (s : Same H H') : Mp P w K g S a dx tl bd sd H0 d vm kvs ks H' :=
  ⟨l.me.tk (.same s), l.ka.same s, s _ _ l.ia, s _ _ l.it, s _ _ l.ib, l.lb, l.bo, s _ _ l.is, l.ki.tk (.same s)⟩
theorem PsV.atI {K : PySem.W.Frag} {H : Hp} {vs : List V} {L : List (Int × Int)} (h : PsV K H vs L) {i : Int} {x : Int × Int} (e : L2.atI L i = some x) : ∃ v, L2.atI vs i = some v ∧ PrV K H v x := by
  unfold L2.atI at e ⊢
  rw [h.len]
  cases ei : ixN L.length i with
  | none =>
    rw [ei] at e
    cases e
  | some j =>
    rw [ei] at e
    have e : L[j]? = some x := e
    have hj : j < vs.length := by
      rw [h.len]
      exact (List.getElem?_eq_some_iff.mp e).1
    obtain ⟨y, hy, hp⟩ := h.get (List.getElem?_eq_getElem hj)
    rw [e] at hy
    cases hy
    exact ⟨_, List.getElem?_eq_getElem hj, hp⟩
/-- what Spending has found: the first day that comes back, the totals, the purchases -/
structure Found (g : Par) (S : Addr) (H : Hp) (a : Addr) (dx tl bd : Addr) (d k : Nat) (kvs : List (Key × V)) : Prop where
  rep : IsRep g d k
  few : d ≤ 12000000
  ia : H a = some (.ins S dx (spF tl bd k ((d : Int) - k) ((sim g d).2.2 - (sim g k).2.2)))
  it : H tl = some (.lst (tots g d))
  ib : H bd = some (.dK kvs)
  bo : Bought g d kvs
def spSpI (K : PySem.W.Frag) (S CV cV : Addr) (B : BuyP) (I : By → List Int → Prop) : Sp := fun vs H Q E => ∃ (a b tv dx : Addr) (dv ov : V) (os : List Int) (g : Par), vs = [.ref a, .ref b, .ref tv] ∧ H a = some (.ins S dx []) ∧ B H b g.L g.b ∧ g.L.length ≤ 1000 ∧
  Tv K CV H tv g.ln dv ov g.ds os ∧ os.length ≤ 1000 ∧ g.Ok (I g.b) ∧ (∀ d, Fresh g d → d ≤ 12000000) ∧
  (os = [] → ∀ tl bd d k kvs H', (∀ b o, H b = some o → b ≠ a → H' b = some o) → Found g S H' a dx tl bd d k kvs → Q .non H') ∧
  (os ≠ [] → ∀ dd H', Same H H' → H' dd = some (.xd [("index", .int 0), ("part", .str "exceptions")]) → E (.ref cV) (some dd) H')
section
variable {P : Program} {w : World} {K : PySem.W.Frag} {mg : Str → Option Value} {base : Heap}
variable {C D S CV cV cI cU cP cN fV fI fP pP fVN fRl pRl fRd pRd fEx pEx : Addr} {mc mp md : Value} {fdV fdP dVN dRl dRd dEx : FuncData}
theorem ok_spI {f : Addr} {fd : FuncData} (F : Fun K "__init__" "Spending.__init__" sSpI f fd) (SP : TSg K mg S) (T : TX K mg C cI cU cP fI mc mp) (TQ : TP K C fP pP fdP) (N : Kind P w K mg base C D)
    (TV : TTv K mg CV fVN dVN) (R : TPr K CV fRl pRl fRd pRd fEx pEx dRl dRd dEx) (EV : TEv K mg cV cP fV fdV mp) : FnOk P w K mg base (L2.CX P w) 5 f fd ["self", "buyer", "travel"] (spSpI K S CV cV N.B N.I) := by
  have GI : FnOk P w K mg base CX0 1 fV fdV ["self", "part", "index"] (spX2 K "part" "index") := ok_IV EV
  have kb := kb_IV EV
  refine F.okX scSpI (fun vs H Q E h => ?_) (fun cdv A outer s H vs Q E hr h => ?_)
  · obtain ⟨a, b, tv, dx, dv, ov, os, g, rfl, _⟩ := h
    rfl
  · obtain ⟨a, b, tv, dx, dv, ov, os, g, rfl, ha, hb, hL, ht, hos, ok, fewH, q1, q2⟩ := h
    have h2 := hr.mono (show 2 ≤ 4 by omega)
    have hu : (A.deeper (envOfC "Spending.__init__" (defScope sSpI) s.heap.objs.size f cdv)).units + 9 < cLine := Nat.lt_of_le_of_lt (Nat.add_le_add_left (by decide : 9 ≤ 64) _) hr.units
    have hu1 : (A.deeper (envOfC "Spending.__init__" (defScope sSpI) s.heap.objs.size f cdv)).units + 1 < cLine := Nat.lt_of_le_of_lt (Nat.add_le_add_left (by decide : 1 ≤ 64) _) hr.units
    refine ⟨_, pss_cut (ps_if (pt_cmpR (op_neD hr.units) (pe_ex R TV h2 (pv 2)) (pe_tup pa_nil) (nomark _)) (pss_one (ps_raise rfl (takes_of rfl rfl rfl rfl) (pmk_kw EV.xV EV.iV EV.tV GI (hr.mono (by omega)) kb pass0 (by rfl) EV.gV (pk_cons pe_str (pk_cons pe_int pk_nil))))) pss_nil)
      (pss_cons (ps_asg (pe_tup (pa_cons (pe_lst (pa_cons pe_int pa_nil)) (pa_cons pe_dnewK pa_nil))) (pg_tup rfl (pgs_cons (pg_at (pv 0)) (pgs_cons (pg_at (pv 0)) pgs_nil))))
      (pss_cons (ps_par3 (i := 3) (j := 4) (l := 5) rfl scSpI.nd rfl rfl rfl (by decide) (by decide) (by decide) rfl rfl rfl (pa_cons pe_int (pa_cons pe_int (pa_cons (pe_meth0 (pv 1) N.cl N.mB N.oB (hr.mono (by omega)) N.bB .nil pass0) pa_nil))) (by rfl))
      (pss_cons (ps_set (i := 6) scSpI.nd rfl (.inl rfl) pe_nd)
      (pss_cut (ps_while (passes_of rfl) (pt_cmpR (op_ndNot hu) (pe_tup (pa_cons (pe_op op_modN (pe_callTy call_int1 (by rfl) SP.mI (by rfl) (pa_cons (pv 3) pa_nil)) (pe_rl R TV h2 (pv 2))) (pa_cons (pv 4) (pa_cons (pv 5) pa_nil)))) (pv 6) (by rfl))
        (pss_cons (ps_asg (pv 3) (pg_sub (pv 6) (pe_tup (pa_cons (pe_op op_modN (pe_callTy call_int1 (by rfl) SP.mI (by rfl) (pa_cons (pv 3) pa_nil)) (pe_rl R TV h2 (pv 2))) (pa_cons (pv 4) (pa_cons (pv 5) pa_nil)))) (set_nd hu)))
        (pss_cons (ps_set (i := 7) scSpI.nd rfl (.inl rfl) (pe_ixl (pe_fld (pv 0) rfl) (pe_un un_neg pe_int)))
        (pss_cut (ps_if (PW.pt (pw_and (pt_cmpR op_eq (pv 4) pe_int (nomark _)) (pw_and1 (pt_cmpR op_in_seq (pe_op op_modN (pe_callTy call_int1 (by rfl) SP.mI (by rfl) (pa_cons (pv 3) pa_nil)) (pe_rl R TV h2 (pv 2))) (pe_rd R TV h2 (pv 2)) (by rfl)))))
          (pss_cons (ps_asg (pe_meth (pv 1) N.cl N.mC N.oC (hr.mono (by omega)) N.bC .nil pass0 (pa_cons (pv 5) pa_nil)) (pg_tup rfl (pgs_cons (pg_name (i := 8) scSpI.nd rfl (.inl rfl)) (pgs_cons (pg_name (i := 5) scSpI.nd rfl (.inl rfl)) pgs_nil))))
          (pss_cons (ps_asg (pe_ixt (pe_passes TQ T.cl T.no h2 (pe_prop (pv 1) N.cl N.prT N.oT h2 N.bT .nil pass0 rfl)) (pv 8)) (pg_tup rfl (pgs_cons (pg_name (i := 4) scSpI.nd rfl (.inl rfl)) (pgs_cons (pg_name (i := 9) scSpI.nd rfl (.inl rfl)) pgs_nil))))
          (pss_cons (ps_asg (pv 8) (pg_sub (pe_fld (pv 0) rfl) (pv 3) (set_dict hu1)))
          (pss_one (ps_aug (i := 7) scSpI.nd rfl (.inl rfl) (pv 9) ip_add))))) pss_nil)
        (pss_cons (ps_expr (pe_bm PySem.F.plainAttrs_list PySem.F.slot_list_append PySem.F.type_list_append mt_append (pe_fld (pv 0) rfl) (pa_cons (pv 7) pa_nil)))
        (pss_cons (ps_par (i := 4) (j := 5) rfl scSpI.nd rfl rfl (by decide) rfl rfl (pa_cons (pe_callB (call_max2 rfl) (by rfl) SP.mX (by decide +kernel) (pa_cons pe_int (pa_cons (pe_op op_sub (pv 4) pe_int) pa_nil))) (pa_cons (pe_meth (pv 1) N.cl N.mG N.oG (hr.mono (by omega)) N.bG .nil pass0 (pa_cons (pv 5) pa_nil)) pa_nil)) (by rfl))
        (pss_one (ps_aug (i := 3) scSpI.nd rfl (.inl rfl) pe_int ip_add))))))))
      (pss_cons (ps_fld (pv 0) (pe_ndIx hu (pv 6) (pe_tup (pa_cons (pe_op op_modN (pe_callTy call_int1 (by rfl) SP.mI (by rfl) (pa_cons (pv 3) pa_nil)) (pe_rl R TV h2 (pv 2))) (pa_cons (pv 4) (pa_cons (pv 5) pa_nil)))) (fun _ _ => rfl)) rfl)
      (pss_cons (ps_fld (pv 0) (pe_op op_sub (pv 3) (pe_fld (pv 0) rfl)) rfl)
      (pss_one (ps_fld (pv 0) (pe_op op_sub (pe_ixl (pe_fld (pv 0) rfl) (pv 3)) (pe_ixl (pe_fld (pv 0) rfl) (pe_fld (pv 0) rfl))) rfl)))))))), ?_⟩
    have s1000 : ∀ {n : Nat}, n ≤ 1000 → n ≤ sizeLine := fun h => Nat.le_of_lt (small1000 h)
    obtain ⟨⟨dxt, hti⟩, ⟨pd, rfl, hpd⟩, ⟨po, rfl, hpo⟩⟩ := id ht
    refine ⟨fun σ H' => σ = [some (.ref a), some (.ref b), some (.ref tv), none, none, none, none, none, none, none] ∧ Same H H' ∧ os = [], ?_, ?_⟩
    · refine s_when (b := !decide (os = [])) (et_is (et_neD (edp_ev (tv_get rfl ht (tvF_odd ..)) fun H2 x2 => .tup (ex_t x2 hpo) (intsDp os)) (edp_tup eda_nil (by decide)) (ints_shT os) (by decide +kernel)) (by rw [eqv_nil])) (fun hb' H1 e1 => ?_) (fun hb' H1 e1 => ⟨rfl, e1, by simpa using hb'⟩)
      exact mk2_in EV.xV EV.nP EV.nI fun dd hd => q2 (by simpa using hb') dd _ (e1.trans (same_new hd)) upd_same
    rintro σ H1 ⟨rfl, s1, os0⟩
    have ha1 := s1 _ _ ha
    refine ⟨s1000 (show 1 ≤ 1000 by decide), fun tl ntl bd nbd => ⟨s1000 (show 2 ≤ 1000 by decide), fun tp ntp => ⟨tp, _, rfl, .of upd_same, rfl, _, _, rfl, ?_⟩⟩⟩
    have sa : Same H1 (upd (upd (upd H1 tl (.lst [.int 0])) bd (.dK [])) tp (.tup [.ref tl, .ref bd])) := ((same_new ntl).trans (same_new nbd)).trans (same_new ntp)
    refine ⟨_, rfl, a, S, dx, [], rfl, sa _ _ ha1, SP.cl, SP.nT, by decide, _, _, rfl, ⟨_, rfl, a, S, dx, _, rfl, upd_same, SP.cl, SP.nB, show 1 < 1000 by decide, rfl, ?_⟩⟩
    have nta : tl ≠ a := fun z => by rw [z, ha1] at ntl; cases ntl
    have nba : bd ≠ a := fun z => by rw [z, (same_new ntl) _ _ ha1] at nbd; cases nbd
    have nbt : bd ≠ tl := fun z => by rw [z, upd_same] at nbd; cases nbd
    have tt : (upd (upd H1 tl (.lst [.int 0])) bd (.dK [])) tl = some (.lst [.int 0]) := by rw [upd_ne nbt.symm, upd_same]
    generalize hH2 : upd (upd (upd (upd (upd H1 tl (.lst [.int 0])) bd (.dK [])) tp (.tup [.ref tl, .ref bd])) a (.ins S dx (putF "totals" (.ref tl) []))) a (.ins S dx (putF "bought" (.ref bd) (putF "totals" (.ref tl) []))) = H2
    have k2 : KA a H H2 := by
      rw [← hH2]
      refine KA.put (KA.put (KA.same (H1 := H1) (fun b o e n => s1 _ _ e) sa) (.inr rfl)) (.inr rfl)
    have a2 : H2 a = some (.ins S dx (putF "bought" (.ref bd) (putF "totals" (.ref tl) []))) := by rw [← hH2, upd_same]
    have t2 : H2 tl = some (.lst [.int 0]) := by
      rw [← hH2, upd_ne nta, upd_ne nta]
      exact (same_new ntp) _ _ tt
    have b2 : H2 bd = some (.dK []) := by
      rw [← hH2, upd_ne nba, upd_ne nba]
      exact (same_new ntp) _ _ upd_same
    have nt0 : H tl = none := fresh_back s1 ntl
    have nb0 : H bd = none := fresh_back (s1.trans (same_new ntl)) nbd
    have hb2 := N.move hb ha k2
    obtain ⟨dxb, fsb, tb, pb, hbi, _, _, lkB, _, _, _⟩ := N.at_ hb2
    refine ⟨_, rfl, b, dxb, _, rfl, hbi, lkB, b, g.L, g.b, rfl, hb2, fun vm H3 s3 hm => ⟨_, _, _, rfl, fun sd nsd => ?_⟩⟩
    have ns0 : H sd = none := by
      cases e : H sd with
      | none => rfl
      | some o =>
        by_cases z : sd = a
        · rw [z, s3 _ _ a2] at nsd
          cases nsd
        · rw [s3 _ _ (k2 _ _ e z)] at nsd
          cases nsd
    have L0 : Lp P w K g S a dx tl bd sd H 0 vm [] [] (upd H3 sd (NdO P w sd [])) := by
      have s4 := s3.trans (same_new (o := NdO P w sd []) nsd)
      exact ⟨hm.tk (TK.new nsd), k2.same s4, s4 _ _ a2, s4 _ _ t2, s4 _ _ b2, Nat.le_refl _, (fun k => rfl), upd_same, (fun p hp => nomatch hp), rfl, fun i j _ hj => absurd hj (Nat.not_lt_zero _)⟩
    refine ⟨fun σ' H' => ∃ (d : Nat) (vm : V) (v7 v8 v9 : Option V) (kvs : List (Key × V)) (ks : List NE) (n : Int), σ' = [some (.ref a), some (.ref b), some (.ref tv), some (.int d), some (.int (sim g d).1), some vm, some (.ref sd), v7, v8, v9] ∧ Lp P w K g S a dx tl bd sd H d vm kvs ks H' ∧ fnd ks (key g d) = some n, ?_, ?_⟩
    · refine ⟨fun n σ' H' => ∃ (d : Nat) (vm : V) (v7 v8 v9 : Option V) (kvs : List (Key × V)) (ks : List NE), n + d = 12000001 ∧ σ' = [some (.ref a), some (.ref b), some (.ref tv), some (.int d), some (.int (sim g d).1), some vm, some (.ref sd), v7, v8, v9] ∧ Lp P w K g S a dx tl bd sd H d vm kvs ks H', ⟨12000001, 0, _, _, _, _, _, _, rfl, rfl, L0⟩, ?_⟩
      rintro n σ' H' ⟨d, vm, v7, v8, v9, kvs, ks, hn, rfl, lp⟩
      refine rd_test (key_run (σ := [some (.ref a), some (.ref b), some (.ref tv), some (.int d), some (.int (sim g d).1), some vm, some (.ref sd), v7, v8, v9]) (g := g) ok.l1 rfl rfl rfl rfl (lp.ka.tv ha ht) lp.me) fun v H5 e5 hkey => ?_
      have l5 := lp.same e5
      refine ⟨_, rfl, sd, ks, key g d, rfl, l5.is, l5.ki, hkey, ⟨_, rfl, ?_⟩⟩
      refine ite2 (fun hb' => ?_) (fun hb' => ?_)
      rotate_left
      · cases hf : fnd ks (key g d) with
        | none =>
          rw [hf] at hb'
          exact absurd rfl hb'
        | some n => exact ⟨d, vm, v7, v8, v9, kvs, ks, n, rfl, l5, hf⟩
      have hf : fnd ks (key g d) = none := by
        cases hf : fnd ks (key g d) with
        | none => rfl
        | some n =>
          rw [hf] at hb'
          cases hb'
      have fr1 := l5.fr.snoc (l5.si.none hf)
      have few := fewH _ fr1
      have fits : ∀ {n : Nat}, n ≤ 12000010 → n < sizeLine := fun h => by
        rw [sizeLine_eq]
        omega
      refine ⟨fun σ2 H2 => ∃ m', m' < n ∧ ∃ (d : Nat) (vm : V) (v7 v8 v9 : Option V) (kvs : List (Key × V)) (ks : List NE), m' + d = 12000001 ∧ σ2 = [some (.ref a), some (.ref b), some (.ref tv), some (.int d), some (.int (sim g d).1), some vm, some (.ref sd), v7, v8, v9] ∧ Lp P w K g S a dx tl bd sd H d vm kvs ks H2, fun σ2 H2 h => h, ?_⟩
      refine ⟨_, rfl, _, rfl, ?_⟩
      refine (key_run (σ := [some (.ref a), some (.ref b), some (.ref tv), some (.int d), some (.int (sim g d).1), some vm, some (.ref sd), v7, v8, v9]) (g := g) ok.l1 rfl rfl rfl rfl (l5.ka.tv ha ht) l5.me) H5 (Ex.refl _) _ fun v2 H6 e6 hk2 => ?_
      have l6 := l5.same e6
      obtain ⟨r, rfl⟩ : ∃ r, v2 = .ref r := let ⟨b, _, e, _⟩ := hk2; ⟨b, e⟩
      refine ⟨sd, ks, key g d, r, (d : Int), rfl, rfl, rfl, l6.is, l6.ki, hk2, hf, fits (by rw [l6.si.len]; omega), ?_⟩
      have nst : tl ≠ sd := ne_of l6.it l6.is (fun z => nomatch z)
      have nsb : bd ≠ sd := ne_of l6.ib l6.is (fun z => nomatch z)
      have nsa : a ≠ sd := ne_of l6.ia l6.is (fun z => nomatch z)
      skip
      have tk6 : TK K H6 (upd H6 sd (NdO P w sd (ks ++ [(key g d, r, (d : Int))]))) := tk_nd l6.is
      have m7 : ∀ {vm' : V}, TiA K H6 vm' (sim g d).2.1 → TiA K (upd H6 sd (NdO P w sd (ks ++ [(key g d, r, (d : Int))]))) vm' (sim g d).2.1 := fun h => h.tk tk6
      have ka7 : KA a H (upd H6 sd (NdO P w sd (ks ++ [(key g d, r, (d : Int))]))) := l6.ka.put (.inl ns0)
      have ia7 : (upd H6 sd (NdO P w sd (ks ++ [(key g d, r, (d : Int))]))) a = some (.ins S dx (putF "bought" (.ref bd) (putF "totals" (.ref tl) []))) := by
        rw [upd_ne nsa]
        exact l6.ia
      have it7 : (upd H6 sd (NdO P w sd (ks ++ [(key g d, r, (d : Int))]))) tl = some (.lst (tots g d)) := by
        rw [upd_ne nst]
        exact l6.it
      have ib7 : (upd H6 sd (NdO P w sd (ks ++ [(key g d, r, (d : Int))]))) bd = some (.dK kvs) := by
        rw [upd_ne nsb]
        exact l6.ib
      have ki7 : KeysIn K (upd H6 sd (NdO P w sd (ks ++ [(key g d, r, (d : Int))]))) (ks ++ [(key g d, r, (d : Int))]) := (l6.ki.snoc hk2).tk tk6
      have is7 : (upd H6 sd (NdO P w sd (ks ++ [(key g d, r, (d : Int))]))) sd = some (NdO P w sd (ks ++ [(key g d, r, (d : Int))])) := upd_same
      have me7 := m7 l6.me
      have lb7 := l6.lb
      refine ⟨_, rfl, a, S, dx, _, _, rfl, ia7, SP.cl, SP.nT, rfl, ⟨1, rfl, tl, tots g d, -1, _, rfl, rfl, .inl (.inl it7), tots_last g d, ?_⟩⟩
      refine ⟨fun σ' H' => ∃ (vm' : V) (v8' v9' : Option V) (kvs' : List (Key × V)), σ' = [some (.ref a), some (.ref b), some (.ref tv), some (.int d), some (.int (pre g d (sim g d)).1), some vm', some (.ref sd), some (.int (pre g d (sim g d)).2.2), v8', v9'] ∧ Mp P w K g S a dx tl bd sd H d vm' kvs' (ks ++ [(key g d, r, (d : Int))]) H', ?_, ?_⟩
      · refine s_when (b := decide (V.int (sim g d).1 = V.int 0) && goes g d) (et_and (et_test (ev_op (ev_var rfl) ev_c (rv_eq rfl))) fun _ => et_test (ev_op (mod_run (σ := [some (.ref a), some (.ref b), some (.ref tv), some (.int d), some (.int (sim g d).1), some vm, some (.ref sd), some (.int (sim g d).2.2), v8, v9]) (g := g) (d := d) ok.l1 rfl rfl (ka7.tv ha ht)) (tv_get rfl (ka7.tv ha ht) (tvF_pat ..)) (rv_isT ((ka7.tk ha) _ _ hpd) rfl (flat_ints _)))) (fun hc H8 e8 => ?_) (fun hc H8 e8 => ?_)
        · have hc' : (sim g d).1 = 0 ∧ goes g d = true := by
            rw [Bool.and_eq_true] at hc
            have := of_decide_eq_true hc.1
            exact ⟨by injection this, hc.2⟩
          have hin := (ok.b.ch _ (sim_ok ok d).1).1
          have hz := hin.pas.1
          have hpre := pre_yes hc'
          have k8 : KA a H H8 := KA.same ka7 e8
          have hb8 := N.move hb ha k8
          obtain ⟨dxb8, fsb8, tb8, pb8, hbi8, _, _, _, lkC8, _, _⟩ := N.at_ hb8
          refine ⟨_, rfl, b, dxb8, _, rfl, hbi8, lkC8, _, rfl, ⟨b, g.L, g.b, vm, (sim g d).2.1, rfl, hb8, hL, me7.tk (.same e8), (sim_ok ok d).1, ok.b, fun r2 v' H9 s9 hr2 hv => ⟨r2, _, rfl, hr2, rfl, _, _, rfl, _, _, rfl, rfl, ?_⟩⟩⟩
          have k9 : KA a H H9 := KA.same k8 s9
          have hb9 := N.move hb ha k9
          obtain ⟨dxb9, fsb9, t9, p9, hbi9, _, lko9, _, _, _, tar9⟩ := N.at_ hb9
          obtain ⟨⟨dxt9, hti9⟩, htp9⟩ := id tar9
          obtain ⟨pvs, hpv, _, hps⟩ := tar9.len_eq
          obtain ⟨_, hat, q, rfl, hq⟩ := hps.atI hz
          refine ⟨_, rfl, b, dxb9, _, rfl, hbi9, b, dxb9, _, .ref t9, rfl, hbi9, lko9, t9, dxt9, _, rfl, hti9, t9, dxt9, _, .ref p9, rfl, hti9, rfl, _, rfl, ⟨p9, pvs, _, .ref q, rfl, rfl, hpv, hat, ⟨q, _, rfl, hq, rfl, _, _, rfl, _, _, rfl, rfl, ?_⟩⟩⟩
          have s79 := e8.trans s9
          have ib9 := s79 _ _ ib7
          refine ⟨_, rfl, _, rfl, a, S, dx, _, _, rfl, s79 _ _ ia7, SP.cl, SP.nB, rfl, _, rfl, bd, _, rfl, DPut.k (k := .inl (d : Int)) ib9 (fits (by omega)), ?_⟩
          refine ⟨_, rfl, _, rfl, _, _, rfl, rfl, ?_⟩
          have nba9 : a ≠ bd := ne_of (s79 _ _ ia7) ib9 (fun z => nomatch z)
          have nbt9 : tl ≠ bd := ne_of (s79 _ _ it7) ib9 (fun z => nomatch z)
          have nbs9 : sd ≠ bd := ne_of (s79 _ _ is7) ib9 (fun z => nomatch z)
          refine ⟨v', some (.int (g.b.ch (sim g d).2.1).1), some (.int (pas g.L (g.b.ch (sim g d).2.1).1).2), putK kvs (.inl (d : Int)) (.int (g.b.ch (sim g d).2.1).1), ?_, Mp.mk (by rw [hpre]; exact hv.tk (tk_dk ib9)) (k9.put (.inl nb0)) (by rw [upd_ne nba9]; exact s79 _ _ ia7) (by rw [upd_ne nbt9]; exact s79 _ _ it7) upd_same (by have := length_putK kvs (.inl (d : Int)) (V.int (g.b.ch (sim g d).2.1).1); omega) (l6.bo.put (by unfold bat; rw [if_pos hc'])) (by rw [upd_ne nbs9]; exact s79 _ _ is7) ((ki7.tk (.same s79)).tk (tk_dk ib9))⟩
          rw [hpre]
          rfl
        · have pe : pre g d (sim g d) = sim g d := by
            unfold pre
            rw [if_neg fun z => by rw [z.1, z.2] at hc; cases hc]
          rw [pe]
          exact ⟨vm, v8, v9, kvs, rfl, (Mp.mk (by rw [pe]; exact me7) ka7 ia7 it7 ib7 (by omega) (l6.bo.none (by unfold bat; rw [if_neg fun z => by rw [z.1, z.2] at hc; cases hc])) is7 ki7 : Mp P w K g S a dx tl bd sd H d vm kvs _ _).same e8⟩
      rintro σ' H9 ⟨vm', v8', v9', kvs', rfl, mp⟩
      refine ⟨_, rfl, a, S, dx, _, _, rfl, mp.ia, SP.cl, SP.nT, rfl, .inl ⟨rfl, _, .of mp.it⟩, _, rfl, tl, tots g d, _, rfl, rfl, mp.it, fits (by rw [tots_len]; omega), ?_⟩
      have nta : a ≠ tl := ne_of mp.ia mp.it (fun z => nomatch z)
      have ntb : bd ≠ tl := ne_of mp.ib mp.it (fun z => nomatch z)
      have nts : sd ≠ tl := ne_of mp.is mp.it (fun z => nomatch z)
      have tkl : TK K H9 (upd H9 tl (.lst (tots g d ++ [.int (pre g d (sim g d)).2.2]))) := tk_lst mp.it
      have ka10 : KA a H (upd H9 tl (.lst (tots g d ++ [.int (pre g d (sim g d)).2.2]))) := mp.ka.put (.inl nt0)
      have hb10 := N.move hb ha ka10
      obtain ⟨dxb10, fsb10, tb10, pb10, hbi10, _, _, _, _, lkG10, _⟩ := N.at_ hb10
      have pl := pre_len ok d
      have me10 := mp.me.tk tkl
      refine ⟨_, rfl, _, _, rfl, rfl, _, _, rfl, _, rfl, b, dxb10, _, rfl, hbi10, lkG10, _, rfl, ⟨b, g.L, g.b, vm', (pre g d (sim g d)).2.1, rfl, hb10, hL, me10, by omega, fun v' H11 s11 hv => ⟨_, _, rfl, ?_⟩⟩⟩
      refine ⟨_, rfl, _, _, rfl, rfl, ?_⟩
      have e1 : sim g (d + 1) = (max0 ((pre g d (sim g d)).1 - 1), g.b.gr (pre g d (sim g d)).2.1, (pre g d (sim g d)).2.2) := rfl
      refine ⟨12000001 - (d + 1), by omega, d + 1, v', some (.int (pre g d (sim g d)).2.2), v8', v9', kvs', _, by omega, ?_, ⟨by rw [e1]; exact hv, ka10.same s11, s11 _ _ (by rw [upd_ne nta]; exact mp.ia), ?_, s11 _ _ (by rw [upd_ne ntb]; exact mp.ib), mp.lb, mp.bo, s11 _ _ (by rw [upd_ne nts]; exact mp.is), (mp.ki.tk tkl).tk (.same s11), l6.si.snoc, fr1⟩⟩
      · rw [e1]
        rfl
      · rw [tots_snoc, e1]
        exact s11 _ _ upd_same
    rintro σ' H' ⟨d, vm, v7, v8, v9, kvs, ks, n, rfl, lp, hf⟩
    obtain ⟨k, hk, rfl, hkk⟩ := lp.si.some hf
    have few := fewH _ lp.fr
    refine ⟨_, rfl, ?_⟩
    refine (key_run (σ := [some (.ref a), some (.ref b), some (.ref tv), some (.int d), some (.int (sim g d).1), some vm, some (.ref sd), v7, v8, v9]) (g := g) ok.l1 rfl rfl rfl rfl (lp.ka.tv ha ht) lp.me) H' (Ex.refl _) _ fun v H5 e5 hkey => ?_
    have l5 := lp.same e5
    refine ⟨sd, ks, key g d, (k : Int), rfl, l5.is, l5.ki, hkey, hf, ⟨_, rfl, a, S, dx, _, rfl, l5.ia, SP.cl, SP.nS, Nat.lt_of_le_of_lt (putF_len _ _ _) (show 1 + 1 < 1000 by decide), ?_⟩⟩
    have nta : tl ≠ a := ne_of l5.it l5.ia (fun z => nomatch z)
    refine ⟨_, rfl, _, rfl, a, S, dx, _, _, rfl, upd_same, SP.cl, SP.nS, rfl, _, _, rfl, rfl, ⟨_, rfl, a, S, dx, _, rfl, upd_same, SP.cl, SP.nP, Nat.lt_of_le_of_lt (putF_len _ _ _) (Nat.succ_lt_succ (Nat.lt_of_le_of_lt (putF_len _ _ _) (show 1 + 1 < 999 by decide))), ?_⟩⟩
    rw [upd_upd]
    have t6 : ∀ o, (upd H5 a o) tl = some (.lst (tots g d)) := fun o => by
      rw [upd_ne nta]
      exact l5.it
    refine ⟨_, rfl, a, S, dx, _, _, rfl, upd_same, SP.cl, SP.nT, rfl, ⟨_, rfl, tl, tots g d, (d : Int), _, rfl, rfl, .inl (.inl (t6 _)), tots_at g (Nat.le_refl d), ?_⟩⟩
    refine ⟨_, rfl, a, S, dx, _, _, rfl, upd_same, SP.cl, SP.nT, rfl, ⟨_, rfl, a, S, dx, _, _, rfl, upd_same, SP.cl, SP.nS, rfl, tl, tots g d, (k : Int), _, rfl, rfl, .inl (.inl (t6 _)), tots_at g (Nat.le_of_lt hk), _, _, rfl, rfl, ?_⟩⟩
    refine ⟨_, rfl, a, S, dx, _, rfl, upd_same, SP.cl, SP.nG, Nat.lt_of_le_of_lt (putF_len _ _ _) (Nat.succ_lt_succ (Nat.lt_of_le_of_lt (putF_len _ _ _) (Nat.succ_lt_succ (Nat.lt_of_le_of_lt (putF_len _ _ _) (show 1 + 1 < 998 by decide))))), ?_⟩
    rw [upd_upd]
    exact q1 os0 tl bd d k kvs _ (fun b o e n => by rw [upd_ne n]; exact l5.ka _ _ e n) ⟨⟨lp.fr, hk, hkk⟩, few, upd_same, by rw [upd_ne nta]; exact l5.it, by rw [upd_ne (ne_of l5.ib l5.ia (fun z => nomatch z))]; exact l5.ib, lp.bo⟩
end
end Sea

set_option Elab.async false
set_option linter.all false
set_option maxRecDepth 100000
set_option maxHeartbeats 4000000
namespace Sea
open PySem PySem.Spec PyProof.Rows L2 LamX NdefX ClX Evl StX
/-- m days behind the first day that comes back, t rounds later -/
theorem far_turns {g : Par} {I : List Int → Prop} (o : g.Ok I) {d k : Nat} (r : IsRep g d k) (m : Nat) : ∀ t : Nat, key g (k + m + t * (d - k)) = key g (k + m) ∧ (sim g (k + m + t * (d - k))).2.2 = (sim g (k + m)).2.2 + (t : Int) * ((sim g d).2.2 - (sim g k).2.2)
  | 0 => by
    rw [Nat.zero_mul, Nat.add_zero]
    exact ⟨rfl, by rw [show ((0 : Nat) : Int) = 0 from rfl, Int.zero_mul, Int.add_zero]⟩
  | t + 1 => by
    obtain ⟨h1, h2⟩ := far_turns o r m t
    obtain ⟨k1, k2⟩ := key_far o r.2.2 (m + t * (d - k))
    have lt := r.2.1
    have e : k + m + (t + 1) * (d - k) = d + (m + t * (d - k)) := by
      rw [Nat.succ_mul]
      omega
    have e2 : k + m + t * (d - k) = k + (m + t * (d - k)) := by omega
    rw [e2] at h1 h2
    rw [e]
    refine ⟨k1.symm.trans h1, ?_⟩
    have : ((t + 1 : Nat) : Int) * ((sim g d).2.2 - (sim g k).2.2) = (t : Int) * ((sim g d).2.2 - (sim g k).2.2) + ((sim g d).2.2 - (sim g k).2.2) := by
      rw [show ((t + 1 : Nat) : Int) = (t : Int) + 1 by omega, Int.add_mul, Int.one_mul]
    omega
/-- the day that n is like, and how many rounds lie between -/
def lkT (d k n : Nat) : Nat := if n < k then 0 else (n - k) / (d - k)
def lkD (d k n : Nat) : Nat := n - lkT d k n * (d - k)
theorem like_day {g : Par} {I : List Int → Prop} (o : g.Ok I) {d k : Nat} (r : IsRep g d k) (n : Nat) : lkT d k n * (d - k) ≤ n ∧ lkD d k n < d ∧ key g n = key g (lkD d k n) ∧ (sim g n).2.2 = (sim g (lkD d k n)).2.2 + (lkT d k n : Int) * ((sim g d).2.2 - (sim g k).2.2) := by
  have lt := r.2.1
  unfold lkD lkT
  by_cases h : n < k
  · rw [if_pos h, Nat.zero_mul]
    exact ⟨Nat.zero_le _, by omega, rfl, by rw [show ((0 : Nat) : Int) = 0 from rfl, Int.zero_mul, Int.add_zero]; rfl⟩
  · rw [if_neg h]
    have p : 0 < d - k := by omega
    have e := Nat.mod_add_div (n - k) (d - k)
    have b := Nat.mod_lt (n - k) p
    rw [Nat.mul_comm] at e
    obtain ⟨h1, h2⟩ := far_turns o r ((n - k) % (d - k)) ((n - k) / (d - k))
    have e1 : k + (n - k) % (d - k) + (n - k) / (d - k) * (d - k) = n := by omega
    rw [e1] at h1 h2
    have e2 : n - (n - k) / (d - k) * (d - k) = k + (n - k) % (d - k) := by omega
    rw [e2]
    exact ⟨by omega, by omega, h1, h2⟩
abbrev sSd : Stmt := inClass (top 26) 1
abbrev sTa : Stmt := inClass (top 26) 2
theorem scSd : FnScope ["self", "day", "turns"] ["self", "day"] (defScope sSd) := ⟨rfl, rfl, rfl, by decide +kernel, rfl, by decide +kernel, by decide +kernel⟩
theorem scTa : FnScope ["self", "count", "day", "turns"] ["self", "count"] (defScope sTa) := ⟨rfl, rfl, rfl, by decide +kernel, rfl, by decide +kernel, by decide +kernel⟩
theorem Found.same {g : Par} {S : Addr} {H H' : Hp} {a dx tl bd : Addr} {d k : Nat} {kvs : List (Key × V)} (f : Found g S H a dx tl bd d k kvs) (s : Same H H') : Found g S H' a dx tl bd d k kvs := ⟨f.rep, f.few, s _ _ f.ia, s _ _ f.it, s _ _ f.ib, f.bo⟩
def spSd (S : Addr) : Sp := fun vs H Q _ => ∃ (g : Par) (a dx tl bd : Addr) (d k n : Nat) (kvs : List (Key × V)), vs = [.ref a, .int n] ∧ Found g S H a dx tl bd d k kvs ∧ ∀ r H', Same H H' → H' r = some (.tup [.int (lkD d k n), .int (lkT d k n)]) → Q (.ref r) H'
section
variable {P : Program} {w : World} {K : PySem.W.Frag} {mg : Str → Option Value} {base : Heap} {S : Addr}
theorem ok_sd {f : Addr} {fd : FuncData} {j : Nat} (F : Fun K "same_day" "Spending.same_day" sSd f fd) (SP : TSg K mg S) : FnOk P w K mg base CX0 (j + 1) f fd ["self", "day"] (spSd S) := by
  refine F.ok scSd (fun vs H Q E h => ?_) (fun cdv A outer s H vs Q E hr h => ?_)
  · obtain ⟨g, a, dx, tl, bd, d, k, n, kvs, rfl, _⟩ := h
    rfl
  · obtain ⟨g, a, dx, tl, bd, d, k, n, kvs, rfl, fo, q⟩ := h
    refine ⟨_, pss_cons (ps_set (i := 2) scSd.nd rfl (.inl rfl) (pe_op op_fdivW (pe_callB (call_max2 rfl) (by rfl) SP.mX (by decide +kernel) (pa_cons pe_int (pa_cons (pe_op op_sub (pv 1) (pe_fld (pv 0) rfl)) pa_nil))) (pe_fld (pv 0) rfl)))
      (pss_one (ps_ret (pe_tup (pa_cons (pe_op op_sub (pv 1) (pe_op op_mul (pv 2) (pe_fld (pv 0) rfl))) (pa_cons (pv 2) pa_nil))))), ?_⟩
    have lt := fo.rep.2.1
    have few := fo.few
    have p0 : (0 : Int) < (d : Int) - k := by omega
    have p1 : ((d : Int) - k).natAbs.log2 < 9000 := Nat.lt_trans ((Nat.log2_lt (show ((d : Int) - k).natAbs ≠ 0 by omega)).mpr (show _ < 2 ^ 24 by omega)) (show 24 < 9000 by decide)
    refine ⟨_, rfl, _, rfl, a, S, dx, _, _, rfl, fo.ia, SP.cl, SP.nS, rfl, _, _, rfl, rfl, _, _, rfl, _, rfl, a, S, dx, _, _, rfl, fo.ia, SP.cl, SP.nP, rfl, _, _, rfl, rfl, ⟨p0, p1⟩, ?_⟩
    have eT : (if (n : Int) - (k : Int) > 0 then (n : Int) - (k : Int) else 0) / ((d : Int) - k) = (lkT d k n : Int) := by
      unfold lkT
      by_cases h : n < k
      · rw [if_neg (by omega), if_pos h, Int.zero_ediv]
        rfl
      · rw [if_neg h]
        have e : (if (n : Int) - (k : Int) > 0 then (n : Int) - (k : Int) else 0) = ((n - k : Nat) : Int) := by
          split <;> omega
        rw [e, show (d : Int) - k = ((d - k : Nat) : Int) by omega]
        rfl
    have le : lkT d k n * (d - k) ≤ n := by
      unfold lkT
      split
      · rw [Nat.zero_mul]
        exact Nat.zero_le _
      · exact Nat.le_trans (Nat.div_mul_le_self _ _) (Nat.sub_le _ _)
    have eD : (n : Int) - (lkT d k n : Int) * ((d : Int) - k) = (lkD d k n : Int) := by
      have e : ((d - k : Nat) : Int) = (d : Int) - k := by omega
      unfold lkD
      rw [← e, ← Int.natCast_mul]
      omega
    refine ⟨_, rfl, _, rfl, _, rfl, a, S, dx, _, _, rfl, fo.ia, SP.cl, SP.nP, rfl, _, _, rfl, rfl, .inr ⟨by omega, by omega⟩, _, _, rfl, rfl, _, rfl, Nat.le_of_lt (small1000 (show 2 ≤ 1000 by decide)), fun r nr => q r _ (same_new nr) ?_⟩
    rw [upd_same, ← eD, ← eT]
end
end Sea

set_option Elab.async false
set_option linter.all false
set_option maxRecDepth 100000
set_option maxHeartbeats 4000000
namespace Sea
open PySem PySem.Spec PyProof.Rows L2 LamX NdefX ClX Evl StX
def spTa (S : Addr) : Sp := fun vs H Q _ => ∃ (g : Par) (I : List Int → Prop) (a dx tl bd : Addr) (d k n : Nat) (kvs : List (Key × V)), vs = [.ref a, .int n] ∧ g.Ok I ∧ n ≤ 1000000000000000000 ∧ Found g S H a dx tl bd d k kvs ∧ ∀ H', Same H H' → Q (.int (sim g n).2.2) H'
section
variable {P : Program} {w : World} {K : PySem.W.Frag} {mg : Str → Option Value} {base : Heap} {S fSd : Addr} {dSd : FuncData}
theorem ok_ta {f : Addr} {fd : FuncData} {j : Nat} (F : Fun K "total_after" "Spending.total_after" sTa f fd) (SP : TSg K mg S) (M : Meth K S "same_day" fSd) (U : Fun K "same_day" "Spending.same_day" sSd fSd dSd) : FnOk P w K mg base CX0 (j + 2) f fd ["self", "count"] (spTa S) := by
  refine F.ok scTa (fun vs H Q E h => ?_) (fun cdv A outer s H vs Q E hr h => ?_)
  · obtain ⟨g, I, a, dx, tl, bd, d, k, n, kvs, rfl, _⟩ := h
    rfl
  · obtain ⟨g, I, a, dx, tl, bd, d, k, n, kvs, rfl, ok, n18, fo, q⟩ := h
    refine ⟨_, pss_cons (ps_asg (pe_meth (pv 0) SP.cl M (ok_sd (j := 0) U SP) (hr.mono (by omega)) (U.binds (ps := ["self", "day"]) fun _ _ _ _ _ _ us hl => match us, hl with | [_, _], _ => rfl) .nil pass0 (pa_cons (pv 1) pa_nil)) (pg_tup rfl (pgs_cons (pg_name (i := 2) scTa.nd rfl (.inl rfl)) (pgs_cons (pg_name (i := 3) scTa.nd rfl (.inl rfl)) pgs_nil))))
      (pss_one (ps_ret (pe_op op_add (pe_ixl (pe_fld (pv 0) rfl) (pv 2)) (pe_op op_mul (pv 3) (pe_fld (pv 0) rfl))))), ?_⟩
    obtain ⟨h1, h2, h3, h4⟩ := like_day ok fo.rep n
    have tle : lkT d k n ≤ n := by
      unfold lkT
      split
      · exact Nat.zero_le _
      · exact Nat.le_trans (Nat.div_le_self _ _) (Nat.sub_le _ _)
    refine ⟨_, rfl, a, dx, _, rfl, fo.ia, rfl, _, rfl, ⟨g, a, dx, tl, bd, d, k, n, kvs, rfl, fo, fun r H1 s1 hr1 => ⟨r, _, rfl, .of hr1, rfl, _, _, rfl, _, _, rfl, rfl, ?_⟩⟩⟩
    have fo1 := fo.same s1
    refine ⟨_, rfl, a, S, dx, _, _, rfl, fo1.ia, SP.cl, SP.nT, rfl, _, rfl, tl, tots g d, ((lkD d k n : Nat) : Int), _, rfl, rfl, .inl (.inl fo1.it), tots_at g (Nat.le_of_lt h2), _, rfl, _, rfl, a, S, dx, _, _, rfl, fo1.ia, SP.cl, SP.nG, rfl, _, _, rfl, rfl, .inl ⟨by omega, by omega⟩, _, _, rfl, rfl, ?_⟩
    have := q H1 s1
    rw [h4] at this
    exact this
end
end Sea

set_option Elab.async false
set_option linter.all false
set_option maxRecDepth 100000
set_option maxHeartbeats 4000000
namespace Sea
open PySem PySem.Spec PyProof.Rows L2 LamX NdefX ClX Evl StX
abbrev sSpd : Stmt := top 27
theorem scSpd : FnScope ["buyer", "travel", "count", "spending"] ["buyer", "travel", "count"] (defScope sSpd) := ⟨rfl, rfl, rfl, by decide +kernel, rfl, by decide +kernel, by decide +kernel⟩
/-- a buyer and its travel -/
structure Deal (K : PySem.W.Frag) (CV : Addr) (B : BuyP) (I : By → List Int → Prop) (g : Par) (os : List Int) (H : Hp) (b tv : Addr) : Prop where
  bu : B H b g.L g.b
  lL : g.L.length ≤ 1000
  tv : ∃ dv ov, Tv K CV H tv g.ln dv ov g.ds os
  lo : os.length ≤ 1000
  ok : g.Ok (I g.b)
  few : ∀ d, Fresh g d → d ≤ 12000000
/-- Spending and its methods -/
structure TSd (K : PySem.W.Frag) (mg : Str → Option Value) (S fSI fSd fTa fVC cN : Addr) (dSI dSd dTa dVC : FuncData) : Prop where
  mkS : Mk K S fSI
  uSI : Fun K "__init__" "Spending.__init__" sSpI fSI dSI
  mSd : Meth K S "same_day" fSd
  uSd : Fun K "same_day" "Spending.same_day" sSd fSd dSd
  mTa : Meth K S "total_after" fTa
  uTa : Fun K "total_after" "Spending.total_after" sTa fTa dTa
  gVC : mg "validate_count" = some (.ref fVC)
  kVC : PySem.W.keepIn K (.ref fVC) = true
  uVC : Fun K "validate_count" "validate_count" sVC fVC dVC
  nc : TNc K mg cN
  mD : ∃ u, mg "MAX_DAYS" = some u ∧ RelV (.int 1000000000000000000) u
/-- Spending(b, tv): what a caller shows -/
theorem mkS_in {K : PySem.W.Frag} {P : Program} {w : World} {mg : Str → Option Value} {base : Heap} {C D S CV cV : Addr} (N : Kind P w K mg base C D) {b tv x dx : Addr} {g : Par} {os : List Int} {H : Hp} {Q : VK} {E : XK} (dl : Deal K CV N.B N.I g os H b tv) (nx : H x = none) (ndx : H dx = none)
    (q1 : os = [] → ∀ tl bd d k kvs H', Same H H' → Found g S H' x dx tl bd d k kvs → Q .non H') (q2 : os ≠ [] → ∀ dd H', Same H H' → H' dd = some (.xd [("index", .int 0), ("part", .str "exceptions")]) → E (.ref cV) (some dd) H') :
    spSpI K S CV cV N.B N.I [V.ref x, .ref b, .ref tv] (upd (upd H dx (.own x)) x (.ins S dx [])) Q E := by
  have s0 : Same H (upd (upd H dx (.own x)) x (.ins S dx [])) := fun b u e => by
    rw [upd_ne (ne_of_none e nx), upd_ne (ne_of_none e ndx)]
    exact e
  obtain ⟨dv, ov, htv⟩ := dl.tv
  refine ⟨x, b, tv, dx, dv, ov, os, g, rfl, upd_same, N.same dl.bu s0, dl.lL, htv.same s0, dl.lo, dl.ok, dl.few, fun o tl bd d k kvs H' ka fo => ?_, fun o dd H' sm hd => q2 o dd H' (Same.trans s0 sm) hd⟩
  exact q1 o tl bd d k kvs H' (fun c u e => ka _ _ (s0 _ _ e) (ne_of_none e nx)) fo
def spSpd (K : PySem.W.Frag) (CV cV cN : Addr) (B : BuyP) (I : By → List Int → Prop) : Sp := fun vs H Q E => ∃ (b tv : Addr) (c : Int) (g : Par) (os : List Int), vs = [.ref b, .ref tv, .int c] ∧ Deal K CV B I g os H b tv ∧
  (os = [] → 0 ≤ c ∧ c ≤ 1000000000000000000 → ∀ H', Same H H' → Q (.int (sim g c.toNat).2.2) H') ∧ (os = [] → ¬ (0 ≤ c ∧ c ≤ 1000000000000000000) → ∀ H', Same H H' → E (.ref cN) none H') ∧
  (os ≠ [] → ∀ dd H', Same H H' → H' dd = some (.xd [("index", .int 0), ("part", .str "exceptions")]) → E (.ref cV) (some dd) H')
section
variable {P : Program} {w : World} {K : PySem.W.Frag} {mg : Str → Option Value} {base : Heap} {C D S CV cV cI cU cP cN fV fI fP pP fVN fRl pRl fRd pRd fEx pEx fSI fSd fTa fVC : Addr} {mc mp : Value} {fdV fdP dVN dRl dRd dEx dSI dSd dTa dVC : FuncData}
theorem ok_spd {f : Addr} {fd : FuncData} (F : Fun K "spend" "spend" sSpd f fd) (SP : TSg K mg S) (T : TX K mg C cI cU cP fI mc mp) (TQ : TP K C fP pP fdP) (N : Kind P w K mg base C D)
    (TV : TTv K mg CV fVN dVN) (R : TPr K CV fRl pRl fRd pRd fEx pEx dRl dRd dEx) (EV : TEv K mg cV cP fV fdV mp) (Y : TSd K mg S fSI fSd fTa fVC cN dSI dSd dTa dVC) : FnOk P w K mg base (L2.CX P w) 7 f fd ["buyer", "travel", "count"] (spSpd K CV cV cN N.B N.I) := by
  have G1 : FnOk P w K mg base (L2.CX P w) 5 fSI dSI ["self", "buyer", "travel"] (spSpI K S CV cV N.B N.I) := ok_spI Y.uSI SP T TQ N TV R EV
  have b1 : Binds K dSI ["self", "buyer", "travel"] [] := Y.uSI.binds (ps := ["self", "buyer", "travel"]) fun _ _ _ _ _ _ us hl => match us, hl with | [_, _, _], _ => rfl
  have b2 : Binds K dVC ["count", "smallest", "largest"] [] := Y.uVC.binds (ps := ["count", "smallest", "largest"]) fun _ _ _ _ _ _ us hl => match us, hl with | [_, _, _], _ => rfl
  have b3 : Binds K dTa ["self", "count"] [] := Y.uTa.binds (ps := ["self", "count"]) fun _ _ _ _ _ _ us hl => match us, hl with | [_, _], _ => rfl
  refine F.okX scSpd (fun vs H Q E h => ?_) (fun cdv A outer s H vs Q E hr h => ?_)
  · obtain ⟨b, tv, c, g, os, rfl, _⟩ := h
    rfl
  · obtain ⟨b, tv, c, g, os, rfl, dl, q1, q2, q3⟩ := h
    have PX : Passes (L2.CX P w) (cxOf (L2.CX P w) P w K mg base ["buyer", "travel", "count", "spending"] "spend" (defScope sSpd) f cdv A outer s H E) E := passes_call (takes_of rfl rfl rfl rfl) (fun _ _ _ _ h => h)
    refine ⟨_, pss_cons (ps_set (i := 3) scSpd.nd rfl (.inl rfl) (pe_make (E := E) Y.mkS G1 hr (by rfl) SP.gS b1 .nil PX (pa_cons (pv 0) (pa_cons (pv 1) pa_nil))))
      (pss_cons (ps_expr (pe_call (E := E) (ok_vc (k := 0) Y.uVC Y.nc) (hr.mono (by omega)) (by rfl) Y.gVC Y.kVC b2 .nil PX (pa_cons (pv 2) (pa_cons pe_int (pa_cons (C8.pe_gc (by rfl) Y.mD) pa_nil)))))
      (pss_one (ps_ret (pe_meth (pv 3) SP.cl Y.mTa (ok_ta (j := 0) Y.uTa SP Y.mSd Y.uSd) (hr.mono (by omega)) b3 .nil pass0 (pa_cons (pv 2) pa_nil))))), ?_⟩
    refine ⟨_, rfl, _, rfl, fun a dxa nx ndx _ => ?_⟩
    refine mkS_in N dl nx ndx (fun o tl bd d k kvs H1 s1 fo => ⟨rfl, ?_⟩) q3
    refine ⟨_, rfl, c, 0, 1000000000000000000, rfl, fun hc H2 s2 => ?_, fun hc H2 s2 => q2 o hc H2 (Same.trans s1 s2)⟩
    have fo2 := fo.same s2
    obtain ⟨n, hn⟩ := Int.eq_ofNat_of_zero_le hc.1
    have hn' : c = (n : Int) := hn
    subst hn'
    refine ⟨_, rfl, a, dxa, _, rfl, fo2.ia, rfl, _, rfl, ⟨g, N.I g.b, a, dxa, tl, bd, d, k, n, kvs, rfl, dl.ok, by omega, fo2, fun H3 s3 => ?_⟩⟩
    exact q1 o hc H3 (Same.trans (Same.trans s1 s2) s3)
end
end Sea

set_option Elab.async false
set_option linter.all false
set_option maxRecDepth 100000
set_option maxHeartbeats 4000000
namespace Sea
open PySem PySem.Spec PyProof.Rows L2 LamX NdefX ClX Evl StX
abbrev sPu : Stmt := top 28
abbrev NPu : List Str := ["buyer", "travel", "first", "last", "spending", "day", "like"]
theorem scPu : GScope NPu ["buyer", "travel", "first", "last"] (defScope sPu) := ⟨rfl, rfl, rfl, by decide +kernel, rfl, by decide +kernel, by decide +kernel⟩
/-- the purchases of n days from fi on -/
def pus (g : Par) (fi n : Nat) : List (Int × Int) := (List.range n).filterMap fun i => (bat g (fi + i)).map fun j => (((fi + i : Nat) : Int), j)
theorem pus_succ (g : Par) (fi n : Nat) : pus g fi (n + 1) = pus g fi n ++ (match bat g (fi + n) with
    | some j => [(((fi + n : Nat) : Int), j)]
    | none => []) := by
  unfold pus
  rw [List.range_succ, List.filterMap_append]
  congr 1
  cases e : bat g (fi + n) with
  | none => rw [List.filterMap_cons_none (by rw [e]; rfl)]; rfl
  | some j => rw [List.filterMap_cons_some (by rw [e]; rfl)]; rfl
theorem pus_len (g : Par) (fi n : Nat) : (pus g fi n).length ≤ n := Nat.le_trans (List.length_filterMap_le ..) (Nat.le_of_eq List.length_range)
theorem bat_like {g : Par} {i j : Nat} (h : key g i = key g j) : bat g i = bat g j := by
  injection h with e1 h
  injection h with e2 e3
  unfold bat
  rw [goes_eq e1, e2, e3]
def puOk (fi la : Int) : Prop := (0 ≤ fi ∧ fi ≤ 1000000000000000000) ∧ fi ≤ la ∧ la ≤ (if fi + 10000 - 1 < 1000000000000000000 then fi + 10000 - 1 else 1000000000000000000)
def spPu (K : PySem.W.Frag) (CV cV cN : Addr) (B : BuyP) (I : By → List Int → Prop) : SpG := fun vs H Q E => ∃ (b tv : Addr) (fi la : Int) (g : Par) (os : List Int), vs = [.ref b, .ref tv, .int fi, .int la] ∧ Deal K CV B I g os H b tv ∧
  (os = [] → puOk fi la → ∀ ys H', Same H H' → PsV K H' ys (pus g fi.toNat (la + 1 - fi).toNat) → Q ys H') ∧ (os = [] → ¬ puOk fi la → ∀ H', Same H H' → E (.ref cN) none H') ∧
  (os ≠ [] → ∀ dd H', Same H H' → H' dd = some (.xd [("index", .int 0), ("part", .str "exceptions")]) → E (.ref cV) (some dd) H')
structure TPu (K : PySem.W.Frag) (mg : Str → Option Value) : Prop where
  mY : ∃ u, mg "MAX_YIELDED" = some u ∧ RelV (.int 10000) u
  mM : mg "min" = none
  mR : mg "range" = none
theorem fits1 {n : Nat} (h : n ≤ 10000) : n < sizeLine := by rw [sizeLine_eq]; omega
section
variable {P : Program} {w : World} {K : PySem.W.Frag} {mg : Str → Option Value} {base : Heap} {C D S CV cV cI cU cP cN fV fI fP pP fVN fRl pRl fRd pRd fEx pEx fSI fSd fTa fVC : Addr} {mc mp : Value} {fdV fdP dVN dRl dRd dEx dSI dSd dTa dVC : FuncData}
theorem ok_pu {f : Addr} {fd : FuncData} (F : Fun K "purchases_of" "purchases_of" sPu f fd) (SP : TSg K mg S) (T : TX K mg C cI cU cP fI mc mp) (TQ : TP K C fP pP fdP) (N : Kind P w K mg base C D)
    (TV : TTv K mg CV fVN dVN) (R : TPr K CV fRl pRl fRd pRd fEx pEx dRl dRd dEx) (EV : TEv K mg cV cP fV fdV mp) (Y : TSd K mg S fSI fSd fTa fVC cN dSI dSd dTa dVC) (Z : TPu K mg) :
    GFn P w K mg base 7 f fd ["buyer", "travel", "first", "last"] (spPu K CV cV cN N.B N.I) ∧ CFn P w K mg base 7 f fd ["buyer", "travel", "first", "last"] (spPu K CV cV cN N.B N.I) := by
  have G1 : FnOk P w K mg base (L2.CX P w) 5 fSI dSI ["self", "buyer", "travel"] (spSpI K S CV cV N.B N.I) := ok_spI Y.uSI SP T TQ N TV R EV
  have b1 : Binds K dSI ["self", "buyer", "travel"] [] := Y.uSI.binds (ps := ["self", "buyer", "travel"]) fun _ _ _ _ _ _ us hl => match us, hl with | [_, _, _], _ => rfl
  have b2 : Binds K dVC ["count", "smallest", "largest"] [] := Y.uVC.binds (ps := ["count", "smallest", "largest"]) fun _ _ _ _ _ _ us hl => match us, hl with | [_, _, _], _ => rfl
  have b3 : Binds K dSd ["self", "day"] [] := Y.uSd.binds (ps := ["self", "day"]) fun _ _ _ _ _ _ us hl => match us, hl with | [_, _], _ => rfl
  obtain ⟨oc, od, kV, doc, pm, an, cdv, ct, osl, rfl, lk, hcd⟩ := F.ex
  refine both_of (N := NPu) lk hcd scPu ?_ fun A outer s H vs Q E pn hr h => ?_
  · rintro vs H Q E ⟨b, tv, fi, la, g, os, rfl, _⟩
    rfl
  · obtain ⟨b, tv, fi, la, g, os, rfl, dl, q1, q2, q3⟩ := h
    have hu1 : (A.deeper (envOfC "purchases_of" (defScope sPu) s.heap.objs.size f cdv)).units + 1 < cLine := Nat.lt_of_le_of_lt (Nat.add_le_add_left (by decide : 1 ≤ 64) _) hr.units
    refine ⟨_, bs_cons (b_ps (ps_set (i := 4) scPu.nd rfl (.inl rfl) (pe_make (E := E) Y.mkS G1 hr (by rfl) SP.gS b1 .nil (passes_call takes_gcx (fun _ _ _ _ h => h)) (pa_cons (pv 0) (pa_cons (pv 1) pa_nil)))))
      (bs_cons (b_ps (ps_expr (pe_call (E := E) (ok_vc (k := 0) Y.uVC Y.nc) (hr.mono (by omega)) (by rfl) Y.gVC Y.kVC b2 .nil (passes_call takes_gcx (fun _ _ _ _ h => h)) (pa_cons (pv 2) (pa_cons pe_int (pa_cons (C8.pe_gc (by rfl) Y.mD) pa_nil))))))
      (bs_cons (b_ps (ps_expr (pe_call (E := E) (ok_vc (k := 0) Y.uVC Y.nc) (hr.mono (by omega)) (by rfl) Y.gVC Y.kVC b2 .nil (passes_call takes_gcx (fun _ _ _ _ h => h)) (pa_cons (pv 3) (pa_cons (pv 2) (pa_cons (pe_callB (call_min2 rfl) (by rfl) Z.mM (by decide +kernel) (pa_cons (C8.pe_gc (by rfl) Y.mD) (pa_cons (pe_op op_sub (pe_op op_add (pv 2) (C8.pe_gc (by rfl) Z.mY)) pe_int) pa_nil))) pa_nil))))))
      (bs_cons (b_for owns_gcx rfl (pi_range2 (by rfl) Z.mR (pa_cons (pv 2) (pa_cons (pe_op op_add (pv 3) pe_int) pa_nil))) (pg_name (i := 5) scPu.nd rfl (.inl rfl))
        (bs_cons (b_ps (ps_set (i := 6) scPu.nd rfl (.inl rfl) (pe_ixt (pe_meth (pv 4) SP.cl Y.mSd (ok_sd (j := 0) Y.uSd SP) (hr.mono (by omega)) b3 .nil pass0 (pa_cons (pv 5) pa_nil)) pe_int)))
        (bs_cons (b_if (pt_cmp (pc_din hu1 (pv 6) (pe_fld (pv 4) rfl))) (bs_cons (b_yield (pe_tup (pa_cons (pv 5) (pa_cons (pe_dget hu1 (pe_fld (pv 4) rfl) (pv 6) (fun _ _ => rfl)) pa_nil)))) bs_nil) bs_nil) bs_nil))) bs_nil))), ?_⟩
    refine ⟨_, rfl, _, rfl, fun a dxa nx ndx _ => ?_⟩
    refine mkS_in N dl nx ndx (fun o tl bd d k kvs H1 s1 fo => ⟨rfl, ?_⟩) q3
    refine ⟨_, rfl, fi, 0, 1000000000000000000, rfl, fun hb H2 s2 => ?_, fun nb H2 s2 => q2 o (fun z => nb z.1) H2 (Same.trans s1 s2)⟩
    refine ⟨_, rfl, _, rfl, _, rfl, _, _, rfl, rfl, _, _, rfl, rfl, _, _, rfl, la, fi, _, rfl, fun hb2 H3 s3 => ?_, fun nb H3 s3 => q2 o (fun z => nb z.2) H3 (Same.trans (Same.trans s1 s2) s3)⟩
    have ok : puOk fi la := ⟨hb, hb2⟩
    have la1 : la ≤ 1000000000000000000 := by
      have := ok.2.2
      split at this <;> omega
    have many : (la + 1 - fi).toNat ≤ 10000 := by
      have := ok.2.2
      split at this <;> omega
    have s03 := Same.trans (Same.trans s1 s2) s3
    have fo3 := (fo.same s2).same s3
    obtain ⟨n0, hn0⟩ := Int.eq_ofNat_of_zero_le hb.1
    have hn0' : fi = (n0 : Int) := hn0
    subst hn0'
    refine ⟨_, rfl, _, rfl, _, _, rfl, rfl, _, la + 1, rfl, ⟨by omega, by omega, by omega, by omega⟩, ?_⟩
    refine gfor_rounds (I := Itr (n0 : Int) (la + 1 - (n0 : Int)).toNat) (la + 1 - (n0 : Int)).toNat (fun i ys σ H' => PsV K H' ys (pus g n0 i) ∧ (∃ v5 v6, σ = [some (.ref b), some (.ref tv), some (.int n0), some (.int la), some (.ref a), v5, v6]) ∧ Same H3 H') ⟨.nil, ⟨none, none, rfl⟩, Same.refl _⟩ ?_ ?_
    · rintro i ys σ H4 hi ⟨py, ⟨v5, v6, rfl⟩, sm⟩
      refine ⟨hi, ?_⟩
      rintro x H5 ⟨rfl, rfl⟩
      have e0 : (n0 : Int) + (i : Int) = ((n0 + i : Nat) : Int) := by omega
      rw [e0]
      have f5 := fo3.same sm
      refine ⟨_, rfl, a, dxa, _, rfl, f5.ia, rfl, _, rfl, ⟨g, a, dxa, tl, bd, d, k, n0 + i, kvs, rfl, f5, fun r H6 s6 hr6 => ?_⟩⟩
      obtain ⟨_, lt, keq, _⟩ := like_day dl.ok fo.rep (n0 + i)
      have f6 := f5.same s6
      have s36 := Same.trans sm s6
      have bo6 := f6.bo (lkD d k (n0 + i))
      rw [if_pos lt, ← bat_like keq] at bo6
      refine ⟨r, _, 0, _, rfl, rfl, .of hr6, rfl, ?_⟩
      refine ⟨_, rfl, _, rfl, a, S, dxa, _, _, rfl, f6.ia, SP.cl, SP.nB, rfl, bd, _, rfl, .k (k := .inl ((lkD d k (n0 + i) : Nat) : Int)) f6.ib, _, rfl, ?_⟩
      rw [bo6]
      cases e : bat g (n0 + i) with
      | none =>
        refine ⟨?_, ⟨_, _, rfl⟩, s36⟩
        rw [pus_succ, e]
        show PsV K H6 ys (pus g n0 i ++ [])
        rw [List.append_nil]
        exact PsV.tk (.same s6) py
      | some j =>
        rw [e] at bo6
        refine ⟨?_, _, rfl, _, rfl, a, S, dxa, _, _, rfl, f6.ia, SP.cl, SP.nB, rfl, _, rfl, bd, .int j, rfl, ?_, Nat.le_of_lt (small1000 (show 2 ≤ 1000 by decide)), fun z nz => ⟨?_, ⟨_, _, rfl⟩, Same.trans s36 (same_new nz)⟩⟩
        · rw [py.len]
          exact fits1 (Nat.le_trans (pus_len ..) (by omega))
        · have := DGet.k (k := .inl ((lkD d k (n0 + i) : Nat) : Int)) f6.ib
          rw [bo6] at this
          exact this
        · rw [pus_succ, e]
          exact ((PsV.tk (.same s6) py).tk (TK.new nz)).app (.cons ⟨z, rfl, .of upd_same⟩ .nil)
    · rintro ys σ H4 ⟨py, _, sm⟩
      exact ⟨Nat.le_refl _, q1 o ok ys H4 (Same.trans s03 sm) py⟩
end
end Sea

set_option Elab.async false
set_option linter.all false
set_option maxRecDepth 100000
set_option maxHeartbeats 4000000
/-! how buyers are made -/
namespace Sea
open PySem PySem.Spec PyProof.Rows L2 LamX NdefX ClX Evl StX
abbrev sByI : Stmt := inClass (top 12) 1
abbrev sByT : Stmt := inClass (top 12) 2
abbrev sByB : Stmt := inClass (top 12) 3
abbrev sByG : Stmt := inClass (top 12) 5
abbrev sFxI : Stmt := inClass (top 13) 1
abbrev sFxC : Stmt := inClass (top 13) 2
abbrev sTnI : Stmt := inClass (top 14) 1
abbrev sTnB : Stmt := inClass (top 14) 2
abbrev sTnC : Stmt := inClass (top 14) 3
abbrev sSwI : Stmt := inClass (top 15) 2
abbrev sSwC : Stmt := inClass (top 15) 3
abbrev sSwG : Stmt := inClass (top 15) 4
theorem scByI : FnScope ["self", "tariff"] ["self", "tariff"] (defScope sByI) := ⟨rfl, rfl, rfl, by decide +kernel, rfl, by decide +kernel, by decide +kernel⟩
abbrev NFx : List Str := ["self", "tariff", "index", "__class__"]
theorem scFxI : NScope NFx ["self", "tariff", "index"] ["__class__"] (defScope sFxI) := nscope_by (by decide +kernel)
abbrev NTn : List Str := ["self", "tariff", "indexes", "__class__", "index"]
theorem scTnI : NScope NTn ((["self", "tariff"] : List Str) ++ (["indexes"] : List Str)) ["__class__"] (defScope sTnI) := nscope_by (by decide +kernel)
abbrev NSw : List Str := ["self", "tariff", "short", "long", "limit", "__class__"]
theorem scSwI : NScope NSw ["self", "tariff", "short", "long", "limit"] ["__class__"] (defScope sSwI) := nscope_by (by decide +kernel)
abbrev fxF (t : Addr) (i : Int) : List (Str × V) := putF "favorite" (.int i) (putF "offer" (.ref t) [])
abbrev tnF (t : Addr) (sq : V) : List (Str × V) := putF "sequence" sq (putF "offer" (.ref t) [])
abbrev swF (t : Addr) (i j lim : Int) : List (Str × V) := putF "limit" (.int lim) (putF "long" (.int j) (putF "short" (.int i) (putF "offer" (.ref t) [])))
def spByI (K : PySem.W.Frag) (D : Addr) : Sp := fun vs H Q _ => ∃ (a dx : Addr) (v : V), vs = [.ref a, v] ∧ H a = some (.ins D dx []) ∧ Q .non (upd H a (.ins D dx (putF "offer" v [])))
/-- the two checks -/
structure TVl (K : PySem.W.Frag) (mg : Str → Option Value) (fVP fVC cN : Addr) (dVP dVC : FuncData) : Prop where
  gVP : mg "validate_pass" = some (.ref fVP)
  kVP : PySem.W.keepIn K (.ref fVP) = true
  uVP : Fun K "validate_pass" "validate_pass" sValid fVP dVP
  gVC : mg "validate_count" = some (.ref fVC)
  kVC : PySem.W.keepIn K (.ref fVC) = true
  uVC : Fun K "validate_count" "validate_count" sVC fVC dVC
  nc : TNc K mg cN
section
variable {K : PySem.W.Frag} {C D : Addr} {H H1 H' : Hp} {a dx t p : Addr} {L : List (Int × Int)} {v : V}
theorem ka_off (ha : H a = some (.ins D dx [])) {fs : List (Str × V)} : KA a H (upd H a (.ins D dx fs)) := fun b o e n => by
  rw [upd_ne n]
  exact e
theorem KA.trans {H2 : Hp} (k : KA a H H1) (l : KA a H1 H2) : KA a H H2 := fun b o e n => l b o (k b o e n) n
end
theorem et_eqD {K : PySem.W.Frag} {σ : L2.St} {H : Hp} {te tf : TE} {d e : PyData} (h1 : EvDp K te σ H d) (h2 : EvDp K tf σ H e) (s1 : SeqAt.shaped d = true) (s2 : SeqAt.shaped e = true) : EvT (tTest (tOp (rEqD K) te tf)) σ H (PyData.eqv d e) := fun H1 a Q q =>
  h1 H1 a _ fun v H2 e2 hv => h2 H2 (a.trans e2) _ fun u H3 e3 hu => ⟨d, e, dp_ex e3 hv, hu, s1, s2, _, rfl, q H3 (e2.trans e3)⟩
section
variable {P : Program} {w : World} {K : PySem.W.Frag} {mg : Str → Option Value} {base : Heap} {C D cI cU cP cN fI fP pP fVP fVC cc cda fBy : Addr} {mc mp md : Value} {fdP dVP dVC dBy : FuncData}
theorem ok_byI (F : Fun K "__init__" "Buyer.__init__" sByI fBy dBy) (cl : Cls K D) (nO : NoAttr K D "offer") {k : Nat} : FnOk P w K mg base CX0 (k + 1) fBy dBy ["self", "tariff"] (spByI K D) := by
  refine F.ok scByI (fun vs H Q E h => ?_) (fun cdv A outer s H vs Q E hr h => ?_)
  · obtain ⟨a, dx, v, rfl, _⟩ := h
    rfl
  · obtain ⟨a, dx, v, rfl, ha, q⟩ := h
    refine ⟨_, pss_one (ps_fld (pv 0) (pv 1) rfl), ?_⟩
    exact ⟨_, rfl, _, rfl, a, D, dx, [], rfl, ha, cl, nO, by decide, q⟩
def spFxI (K : PySem.W.Frag) (C D cU : Addr) : Sp := fun vs H Q E => ∃ (a dx t p : Addr) (L : List (Int × Int)) (i : Int), vs = [.ref a, .ref t, .int i] ∧ H a = some (.ins D dx []) ∧ Tar K C H t p L ∧
  (InP L i → ∀ H', KA a H H' → H' a = some (.ins D dx (fxF t i)) → Q .non H') ∧ (¬ InP L i → ∀ H', KA a H H' → E (.ref cU) none H')
theorem ok_fxI {f : Addr} {fd : FuncData} (F : FunC K "__init__" "FixedBuyer.__init__" sFxI cc cda f fd) (SU : SupT P K mg D cc cda fBy "__init__") (FB : Fun K "__init__" "Buyer.__init__" sByI fBy dBy)
    (T : TX K mg C cI cU cP fI mc mp) (TQ : TP K C fP pP fdP) (W : TVl K mg fVP fVC cN dVP dVC) (cl : Cls K D) (nO : NoAttr K D "offer") (nF : NoAttr K D "favorite") : FnOk P w K mg base (L2.CX P w) 5 f fd ["self", "tariff", "index"] (spFxI K C D cU) := by
  have GB : FnR P w K mg base CX0 4 fBy (fun vs H Q E => spByI K D (vs ++ []) H Q E) := (ok_byI (k := 3) FB cl nO).raw (FB.binds (ps := ["self", "tariff"]) fun _ _ _ _ _ _ us hl => match us, hl with | [_, _], _ => rfl) .nil
  have GV : FnOk P w K mg base (L2.CX P w) 3 fVP dVP ["tariff", "index"] (spValid K C cU) := ok_valid (k := 0) W.uVP T TQ
  have bVP : Binds K dVP ["tariff", "index"] [] := W.uVP.binds (ps := ["tariff", "index"]) fun _ _ _ _ _ _ us hl => match us, hl with | [_, _], _ => rfl
  refine fn_sup F scFxI SU GB rfl ⟨_, rfl, rfl, rfl⟩ rfl rfl (fun vs H Q E h => ?_) (fun _ => rfl) (fun _ => rfl) (fun _ => rfl) (fun _ => rfl) (fun A outer s H vs Q E hr h => ?_)
  · obtain ⟨a, dx, t, p, L, i, rfl, _⟩ := h
    rfl
  · obtain ⟨a, dx, t, p, L, i, rfl, ha, ht, q1, q2⟩ := h
    have PX : Passes (L2.CX P w) (ncx (L2.CX P w) P w K mg base NFx (supF "__init__" "FixedBuyer.__init__" sFxI cc cda) f A outer s H E) E := passes_call (takes_of rfl rfl rfl rfl) (fun _ _ _ _ h => h)
    refine ⟨_, _, pa_cons (pv 1) pa_nil, pss_cons (ps_expr (pe_call (E := E) GV (hr.mono (by omega)) (by rfl) W.gVP W.kVP bVP .nil PX (pa_cons (pv 1) (pa_cons (pv 2) pa_nil))))
      (pss_one (ps_fld (pv 0) (pv 2) rfl)), a, dx, [], rfl, ha, ?_⟩
    have k1 : KA a H (upd H a (.ins D dx (putF "offer" (.ref t) []))) := ka_off ha
    refine ⟨_, rfl, a, dx, .ref t, rfl, ha, ?_⟩
    refine ⟨_, rfl, _, rfl, t, p, i, L, rfl, k1.tar ha ht, fun hi => ?_, fun h => q2 h _ k1⟩
    refine ⟨_, rfl, _, rfl, a, D, dx, _, rfl, upd_same, cl, nF, show 1 < 1000 by decide, ?_⟩
    exact q1 hi _ (k1.put (.inr rfl)) upd_same
def spSwI (K : PySem.W.Frag) (C D cU cN : Addr) : Sp := fun vs H Q E => ∃ (a dx t p : Addr) (L : List (Int × Int)) (i j lim : Int), vs = [.ref a, .ref t, .int i, .int j, .int lim] ∧ H a = some (.ins D dx []) ∧ Tar K C H t p L ∧
  (InP L i → InP L j → 0 ≤ lim ∧ lim ≤ 1000000000 → ∀ H', KA a H H' → H' a = some (.ins D dx (swF t i j lim)) → Q .non H') ∧ (¬ (InP L i ∧ InP L j) → ∀ H', KA a H H' → E (.ref cU) none H') ∧
  (InP L i → InP L j → ¬ (0 ≤ lim ∧ lim ≤ 1000000000) → ∀ H', KA a H H' → E (.ref cN) none H')
theorem ok_swI {f : Addr} {fd : FuncData} (F : FunC K "__init__" "SwitchBuyer.__init__" sSwI cc cda f fd) (SU : SupT P K mg D cc cda fBy "__init__") (FB : Fun K "__init__" "Buyer.__init__" sByI fBy dBy)
    (T : TX K mg C cI cU cP fI mc mp) (TQ : TP K C fP pP fdP) (W : TVl K mg fVP fVC cN dVP dVC) (cl : Cls K D) (nO : NoAttr K D "offer") (nS : NoAttr K D "short") (nL : NoAttr K D "long") (nM : NoAttr K D "limit")
    (gD : mg "SwitchBuyer" = some (.ref D)) (cr : CRead K D md) (vM : ∃ u, CVal K D md "MAX_LIMIT" (.int 1000000000) u) : FnOk P w K mg base (L2.CX P w) 5 f fd ["self", "tariff", "short", "long", "limit"] (spSwI K C D cU cN) := by
  have GB : FnR P w K mg base CX0 4 fBy (fun vs H Q E => spByI K D (vs ++ []) H Q E) := (ok_byI (k := 3) FB cl nO).raw (FB.binds (ps := ["self", "tariff"]) fun _ _ _ _ _ _ us hl => match us, hl with | [_, _], _ => rfl) .nil
  have GV : FnOk P w K mg base (L2.CX P w) 3 fVP dVP ["tariff", "index"] (spValid K C cU) := ok_valid (k := 0) W.uVP T TQ
  have GC : FnOk P w K mg base (L2.CX P w) 1 fVC dVC ["count", "smallest", "largest"] (spVC cN) := ok_vc (k := 0) W.uVC W.nc
  have bVP : Binds K dVP ["tariff", "index"] [] := W.uVP.binds (ps := ["tariff", "index"]) fun _ _ _ _ _ _ us hl => match us, hl with | [_, _], _ => rfl
  have bVC : Binds K dVC ["count", "smallest", "largest"] [] := W.uVC.binds (ps := ["count", "smallest", "largest"]) fun _ _ _ _ _ _ us hl => match us, hl with | [_, _, _], _ => rfl
  refine fn_sup F scSwI SU GB rfl ⟨_, rfl, rfl, rfl⟩ rfl rfl (fun vs H Q E h => ?_) (fun _ => rfl) (fun _ => rfl) (fun _ => rfl) (fun _ => rfl) (fun A outer s H vs Q E hr h => ?_)
  · obtain ⟨a, dx, t, p, L, i, j, lim, rfl, _⟩ := h
    rfl
  · obtain ⟨a, dx, t, p, L, i, j, lim, rfl, ha, ht, q1, q2, q3⟩ := h
    have PX : Passes (L2.CX P w) (ncx (L2.CX P w) P w K mg base NSw (supF "__init__" "SwitchBuyer.__init__" sSwI cc cda) f A outer s H E) E := passes_call (takes_of rfl rfl rfl rfl) (fun _ _ _ _ h => h)
    refine ⟨_, _, pa_cons (pv 1) pa_nil, pss_cons (ps_expr (pe_call (E := E) GV (hr.mono (by omega)) (by rfl) W.gVP W.kVP bVP .nil PX (pa_cons (pv 1) (pa_cons (pv 2) pa_nil))))
      (pss_cons (ps_expr (pe_call (E := E) GV (hr.mono (by omega)) (by rfl) W.gVP W.kVP bVP .nil PX (pa_cons (pv 1) (pa_cons (pv 3) pa_nil))))
      (pss_cons (ps_expr (pe_call (E := E) GC (hr.mono (by omega)) (by rfl) W.gVC W.kVC bVC .nil PX (pa_cons (pv 4) (pa_cons pe_int (pa_cons (pe_clc (by rfl) gD cr vM) pa_nil)))))
      (pss_cons (ps_fld (pv 0) (pv 2) rfl) (pss_cons (ps_fld (pv 0) (pv 3) rfl) (pss_one (ps_fld (pv 0) (pv 4) rfl)))))), a, dx, [], rfl, ha, ?_⟩
    have k1 : KA a H (upd H a (.ins D dx (putF "offer" (.ref t) []))) := ka_off ha
    have tar := k1.tar ha ht
    refine ⟨_, rfl, a, dx, .ref t, rfl, ha, ?_⟩
    refine ⟨_, rfl, _, rfl, t, p, i, L, rfl, tar, fun hi => ?_, fun h => q2 (fun z => h z.1) _ k1⟩
    refine ⟨_, rfl, _, rfl, t, p, j, L, rfl, tar, fun hj => ?_, fun h => q2 (fun z => h z.2) _ k1⟩
    refine ⟨_, rfl, lim, 0, 1000000000, rfl, fun hl H1 s1 => ?_, fun h H1 s1 => q3 hi hj h _ (k1.same s1)⟩
    have a1 : H1 a = some (.ins D dx (putF "offer" (.ref t) [])) := s1 _ _ upd_same
    refine ⟨_, rfl, _, rfl, a, D, dx, _, rfl, a1, cl, nS, show 1 < 1000 by decide, ?_⟩
    refine ⟨_, rfl, _, rfl, a, D, dx, _, rfl, upd_same, cl, nL, Nat.lt_of_le_of_lt (putF_len _ _ _) (show 1 + 1 < 1000 by decide), ?_⟩
    refine ⟨_, rfl, _, rfl, a, D, dx, _, rfl, upd_same, cl, nM, Nat.lt_of_le_of_lt (Nat.le_trans (putF_len _ _ _) (Nat.succ_le_succ (putF_len _ _ _))) (show 1 + 1 + 1 < 1000 by decide), ?_⟩
    exact q1 hi hj hl _ ((((k1.same s1).put (.inr rfl)).put (.inr rfl)).put (.inr rfl)) upd_same
/-- *indexes: a tuple at sq -/
def spTnI (K : PySem.W.Frag) (C D cU cN : Addr) : Sp := fun vs H Q E => ∃ (a dx t p sq : Addr) (L : List (Int × Int)) (is : List Int), vs = [.ref a, .ref t, .ref sq] ∧ H a = some (.ins D dx []) ∧ Tar K C H t p L ∧ SqT K H sq (is.map V.int) ∧ is.length ≤ 1000 ∧
  (is ≠ [] → (∀ i ∈ is, InP L i) → ∀ H', KA a H H' → H' a = some (.ins D dx (tnF t (.ref sq))) → Q .non H') ∧ (is = [] → ∀ H', KA a H H' → E (.ref cN) none H') ∧ ((∃ i ∈ is, ¬ InP L i) → ∀ H', KA a H H' → E (.ref cU) none H')
theorem ok_tnI {f : Addr} {fd : FuncData} (F : FunC K "__init__" "TurnBuyer.__init__" sTnI cc cda f fd) (SU : SupT P K mg D cc cda fBy "__init__") (FB : Fun K "__init__" "Buyer.__init__" sByI fBy dBy)
    (T : TX K mg C cI cU cP fI mc mp) (TQ : TP K C fP pP fdP) (W : TVl K mg fVP fVC cN dVP dVC) (cl : Cls K D) (nO : NoAttr K D "offer") (nF : NoAttr K D "sequence") :
    FnR P w K mg base (L2.CX P w) 5 f (fun vs H Q E => ∃ ws rest, vs = ws ++ rest ∧ ws.length = ["self", "tariff"].length ∧ rest.length ≤ sizeLine ∧ ∀ p, H p = Option.none → spTnI K C D cU cN (ws ++ [V.ref p]) (upd H p (.tup rest)) Q E) := by
  have GB : FnR P w K mg base CX0 4 fBy (fun vs H Q E => spByI K D (vs ++ []) H Q E) := (ok_byI (k := 3) FB cl nO).raw (FB.binds (ps := ["self", "tariff"]) fun _ _ _ _ _ _ us hl => match us, hl with | [_, _], _ => rfl) .nil
  have GV : FnOk P w K mg base (L2.CX P w) 3 fVP dVP ["tariff", "index"] (spValid K C cU) := ok_valid (k := 0) W.uVP T TQ
  have bVP : Binds K dVP ["tariff", "index"] [] := W.uVP.binds (ps := ["tariff", "index"]) fun _ _ _ _ _ _ us hl => match us, hl with | [_, _], _ => rfl
  refine fn_supS F scTnI SU GB rfl ⟨_, rfl, rfl, rfl⟩ rfl rfl (fun us rest hl => ?_) (fun vs H Q E h => ?_) (fun _ => rfl) (fun _ => rfl) (fun _ => rfl) (fun _ => rfl) (fun A outer s H vs Q E hr h => ?_)
  · obtain ⟨oc, od, kV, doc, pm, an, ct, osl, rfl, lk⟩ := F.ex
    match us, hl with
    | [u, v], _ =>
      unfold bindArgs
      have e : ∀ b : Bool, (b && (defArgs sTnI).vararg.isNone) = false := fun b => by
        rw [show (defArgs sTnI).vararg.isNone = false from rfl, Bool.and_false]
      show _ = _
      simp only [PySem.W.fnX, e]
      rfl
  · obtain ⟨a, dx, t, p, sq, L, is, rfl, _⟩ := h
    rfl
  · obtain ⟨a, dx, t, p, sq, L, is, rfl, ha, ht, hs, hl, q1, q2, q3⟩ := h
    have PX : Passes (L2.CX P w) (ncx (L2.CX P w) P w K mg base NTn (supF "__init__" "TurnBuyer.__init__" sTnI cc cda) f A outer s H E) E := passes_call (takes_of rfl rfl rfl rfl) (fun _ _ _ _ h => h)
    refine ⟨_, _, pa_cons (pv 1) pa_nil, pss_cons (ps_if (pt_cmpR (op_eqD hr.units) (pv 2) (pe_tup pa_nil) (nomark _)) (pss_one (ps_raise rfl (takes_of rfl rfl rfl rfl) (pmk_own PySem.F.excBase_ValueError W.nc.qN W.nc.gN W.nc.kN (raises_own W.nc.sN W.nc.yN) (by rfl)))) pss_nil)
      (pss_cons (ps_for (passes_of rfl) rfl (pi_tup (pv 2)) (pg_name (i := 4) scTnI.nd rfl (.inl rfl)) (pss_one (ps_expr (pe_call (E := E) GV (hr.mono (by omega)) (by rfl) W.gVP W.kVP bVP .nil PX (pa_cons (pv 1) (pa_cons (pv 4) pa_nil))))))
      (pss_one (ps_fld (pv 0) (pv 2) rfl))), a, dx, [], rfl, ha, ?_⟩
    have k1 : KA a H (upd H a (.ins D dx (putF "offer" (.ref t) []))) := ka_off ha
    refine ⟨_, rfl, a, dx, .ref t, rfl, ha, ?_⟩
    have sq1 : SqT K (upd H a (.ins D dx (putF "offer" (.ref t) []))) sq (is.map V.int) := (k1.tk ha) _ _ hs
    refine s_when (b := decide (is = [])) (et_is (et_eqD (K := K) (edp_ev (v := .ref sq) (ev_var rfl) fun H2 x2 => .tup (ex_t x2 sq1) (intsDp is)) (edp_tup eda_nil (by decide)) (ints_shT is) (by decide +kernel)) (eqv_nil is)) (fun hb H1 e1 => q2 (of_decide_eq_true hb) H1 (k1.same e1)) (fun hb H1 e1 => ?_)
    have nil := of_decide_eq_false hb
    have sq2 := ex_t e1 sq1
    refine ⟨_, rfl, sq, rfl, ⟨_, sq2⟩, for_rounds (I := Itt K sq) is.length (fun i σ H' => (∃ v4, σ = [some (.ref a), some (.ref t), some (.ref sq), none, v4]) ∧ Same H1 H' ∧ ∀ j z, j < i → is[j]? = some z → InP L z) ⟨⟨none, rfl⟩, Same.refl _, fun j z hj => absurd hj (Nat.not_lt_zero _)⟩ ?_ ?_⟩
    · rintro i σ H' hi ⟨⟨v4, rfl⟩, sm, hall⟩
      have sq3 := (TK.same (K := K) sm) _ _ sq2
      have hx : is[i]? = some is[i] := List.getElem?_eq_getElem hi
      have hx2 : (is.map V.int)[i]? = some (.int is[i]) := by rw [List.getElem?_map, hx]; rfl
      refine ⟨⟨_, _, sq3, hx2⟩, ?_⟩
      rintro x H2 ⟨rfl, at_⟩
      have ex := at_ _ sq3
      rw [hx2] at ex
      cases ex
      have k2 := (k1.same e1).same sm
      refine ⟨_, rfl, _, rfl, t, p, is[i], L, rfl, k2.tar ha ht, fun ok => ⟨⟨_, rfl⟩, sm, fun j z hj hz => ?_⟩, fun no => q3 ⟨is[i], List.getElem_mem hi, no⟩ _ k2⟩
      by_cases hji : j < i
      · exact hall j z hji hz
      · obtain rfl : j = i := by omega
        rw [hx] at hz
        cases hz
        exact ok
    · rintro σ H' ⟨⟨v4, rfl⟩, sm, hall⟩
      have k2 := (k1.same e1).same sm
      refine ⟨⟨_, (TK.same (K := K) sm) _ _ sq2, by rw [List.length_map]; exact Nat.le_refl _⟩, ?_⟩
      have a2 : H' a = some (.ins D dx (putF "offer" (.ref t) [])) := sm _ _ (e1 _ _ upd_same)
      refine ⟨_, rfl, _, rfl, a, D, dx, _, rfl, a2, cl, nF, show 1 < 1000 by decide, ?_⟩
      refine q1 nil (fun z hz => ?_) _ (k2.put (.inr rfl)) upd_same
      obtain ⟨j, hj, rfl⟩ := List.getElem_of_mem hz
      exact hall j _ hj (List.getElem?_eq_getElem hj)
end
end Sea

set_option Elab.async false
set_option linter.all false
set_option maxRecDepth 100000
set_option maxHeartbeats 4000000
/-! the buyers' methods; the three kinds -/
namespace Sea
open PySem PySem.Spec PyProof.Rows L2 LamX NdefX ClX Evl StX
theorem scByT : FnScope ["self"] ["self"] (defScope sByT) := ⟨rfl, rfl, rfl, by decide +kernel, rfl, by decide +kernel, by decide +kernel⟩
theorem scByB : FnScope ["self"] ["self"] (defScope sByB) := ⟨rfl, rfl, rfl, by decide +kernel, rfl, by decide +kernel, by decide +kernel⟩
theorem scByG : FnScope ["self", "memory"] ["self", "memory"] (defScope sByG) := ⟨rfl, rfl, rfl, by decide +kernel, rfl, by decide +kernel, by decide +kernel⟩
theorem scFxC : FnScope ["self", "memory"] ["self", "memory"] (defScope sFxC) := ⟨rfl, rfl, rfl, by decide +kernel, rfl, by decide +kernel, by decide +kernel⟩
theorem scTnB : FnScope ["self"] ["self"] (defScope sTnB) := ⟨rfl, rfl, rfl, by decide +kernel, rfl, by decide +kernel, by decide +kernel⟩
theorem scTnC : FnScope ["self", "memory", "turn"] ["self", "memory"] (defScope sTnC) := ⟨rfl, rfl, rfl, by decide +kernel, rfl, by decide +kernel, by decide +kernel⟩
theorem scSwC : FnScope ["self", "memory"] ["self", "memory"] (defScope sSwC) := ⟨rfl, rfl, rfl, by decide +kernel, rfl, by decide +kernel, by decide +kernel⟩
theorem scSwG : FnScope ["self", "memory", "age"] ["self", "memory"] (defScope sSwG) := ⟨rfl, rfl, rfl, by decide +kernel, rfl, by decide +kernel, by decide +kernel⟩
/-! ### what they do, in plain words -/
def byFix (i : Int) : By := ⟨[], fun m => (i, m), id, []⟩
def byTurn (is : List Int) : By := ⟨[0], fun m => ((atI is (m.headD 0)).getD 0, [(m.headD 0 + 1).fmod is.length]), id, is⟩
def chM (ps lim : Int) (m : List Int) : Option (List Int) := if lim < ((m.length : Int) + 1) * ps then none else some (m ++ [0])
def grM (ll : Int) (m : List Int) : List Int := (m.filter fun x => decide (x + 1 < ll)).map (· + 1)
def chI (i j ps lim : Int) (m : List Int) : Int × List Int := match chM ps lim m with
  | none => (j, [])
  | some m' => (i, m')
def bySw (L : List (Int × Int)) (i j lim : Int) : By := ⟨[], chI i j (pas L i).2 lim, grM (pas L j).1, []⟩
/-! ### the objects -/
def FixB (K : PySem.W.Frag) (C D : Addr) : BuyP := fun H a L b => ∃ (t p : Addr) (i : Int), (∃ dx, H a = some (.ins D dx (fxF t i))) ∧ Tar K C H t p L ∧ InP L i ∧ b = byFix i
def TurnB (K : PySem.W.Frag) (C D : Addr) : BuyP := fun H a L b => ∃ (t p sq : Addr) (is : List Int), (∃ dx, H a = some (.ins D dx (tnF t (.ref sq)))) ∧ Tar K C H t p L ∧ SqT K H sq (is.map V.int) ∧ is ≠ [] ∧ is.length ≤ 1000 ∧ (∀ i ∈ is, InP L i) ∧ b = byTurn is
def SwB (K : PySem.W.Frag) (C D : Addr) : BuyP := fun H a L b => ∃ (t p : Addr) (i j lim : Int), (∃ dx, H a = some (.ins D dx (swF t i j lim))) ∧ Tar K C H t p L ∧ InP L i ∧ InP L j ∧ b = bySw L i j lim
theorem Tar.same {K : PySem.W.Frag} {C : Addr} {H H' : Hp} {a p : Addr} {L : List (Int × Int)} (t : Tar K C H a p L) (s : Same H H') : Tar K C H' a p L := by
  obtain ⟨⟨dx, h⟩, h2⟩ := t
  exact ⟨⟨dx, s _ _ h⟩, h2.tk (.same s)⟩
section
variable {K : PySem.W.Frag} {C D : Addr} {H H' : Hp} {a z S dx : Addr} {L : List (Int × Int)} {b : By}
theorem FixB.same (h : FixB K C D H a L b) (s : Same H H') : FixB K C D H' a L b := by
  obtain ⟨t, p, i, ⟨dx, h1⟩, h2, h3⟩ := h
  exact ⟨t, p, i, ⟨dx, s _ _ h1⟩, h2.same s, h3⟩
theorem TurnB.same (h : TurnB K C D H a L b) (s : Same H H') : TurnB K C D H' a L b := by
  obtain ⟨t, p, sq, is, ⟨dx, h1⟩, h2, h3, h4⟩ := h
  exact ⟨t, p, sq, is, ⟨dx, s _ _ h1⟩, h2.same s, (TK.same s) _ _ h3, h4⟩
theorem SwB.same (h : SwB K C D H a L b) (s : Same H H') : SwB K C D H' a L b := by
  obtain ⟨t, p, i, j, lim, ⟨dx, h1⟩, h2, h3⟩ := h
  exact ⟨t, p, i, j, lim, ⟨dx, s _ _ h1⟩, h2.same s, h3⟩
theorem FixB.move (h : FixB K C D H a L b) (hz : H z = some (.ins S dx [])) (k : KA z H H') : FixB K C D H' a L b := by
  obtain ⟨t, p, i, ⟨d1, h1⟩, h2, h3⟩ := h
  exact ⟨t, p, i, ⟨d1, k _ _ h1 (ins_apart hz h1 (fun q => by have e : (fxF t i).length = 2 := rfl; rw [q] at e; cases e))⟩, k.tar hz h2, h3⟩
theorem TurnB.move (h : TurnB K C D H a L b) (hz : H z = some (.ins S dx [])) (k : KA z H H') : TurnB K C D H' a L b := by
  obtain ⟨t, p, sq, is, ⟨d1, h1⟩, h2, h3, h4⟩ := h
  exact ⟨t, p, sq, is, ⟨d1, k _ _ h1 (ins_apart hz h1 (fun q => by have e : (tnF t (.ref sq)).length = 2 := rfl; rw [q] at e; cases e))⟩, k.tar hz h2, (k.tk hz) _ _ h3, h4⟩
theorem SwB.move (h : SwB K C D H a L b) (hz : H z = some (.ins S dx [])) (k : KA z H H') : SwB K C D H' a L b := by
  obtain ⟨t, p, i, j, lim, ⟨d1, h1⟩, h2, h3⟩ := h
  exact ⟨t, p, i, j, lim, ⟨d1, k _ _ h1 (ins_apart hz h1 (fun q => by have e : (swF t i j lim).length = 4 := rfl; rw [q] at e; cases e))⟩, k.tar hz h2, h3⟩
end
/-! ### what holds of memories -/
def IFix : By → List Int → Prop := fun _ m => m = []
def ITurn (is : List Int) : List Int → Prop := fun m => ∃ k : Nat, m = [(k : Int)] ∧ k < is.length
/-- a memory: ages, the older ahead -/
def MOk (ll : Int) (m : List Int) : Prop := m.Pairwise (· > ·) ∧ ∀ z ∈ m, 1 ≤ z ∧ z < ll
theorem grM_ok {ll : Int} {m : List Int} (h : m.Pairwise (· > ·)) (h0 : ∀ z ∈ m, 0 ≤ z) : MOk ll (grM ll m) := by
  unfold grM
  refine ⟨List.pairwise_map.mpr ((h.filter _).imp fun h => by omega), fun z hz => ?_⟩
  obtain ⟨a, ha, rfl⟩ := List.mem_map.mp hz
  obtain ⟨h1, h2⟩ := List.mem_filter.mp ha
  have := of_decide_eq_true h2
  have := h0 a h1
  omega
theorem snoc_ok {ll : Int} {m : List Int} (h : MOk ll m) : (m ++ [0]).Pairwise (· > ·) ∧ ∀ z ∈ m ++ [0], 0 ≤ z := by
  refine ⟨List.pairwise_append.mpr ⟨h.1, List.pairwise_singleton .., fun a ha b hb => ?_⟩, fun z hz => ?_⟩
  · rw [List.mem_singleton.mp hb]
    have := (h.2 a ha).1
    omega
  · rcases List.mem_append.mp hz with hz | hz
    · have := (h.2 z hz).1
      omega
    · rw [List.mem_singleton.mp hz]
      decide
theorem MOk.up {l l' : Int} {m : List Int} (h : MOk l m) (e : l ≤ l') : MOk l' m := ⟨h.1, fun z hz => ⟨(h.2 z hz).1, Int.lt_of_lt_of_le (h.2 z hz).2 e⟩⟩
theorem mok_len : ∀ (n : Nat) (m : List Int), m.Pairwise (· > ·) → (∀ z ∈ m, 1 ≤ z ∧ z ≤ n) → m.length ≤ n
  | _, [], _, _ => Nat.zero_le _
  | 0, z :: r, _, h => by
    have := h z List.mem_cons_self
    omega
  | n + 1, z :: r, hp, h => by
    have hz := h z List.mem_cons_self
    obtain ⟨p1, p2⟩ := List.pairwise_cons.mp hp
    have := mok_len n r p2 fun u hu => by
      have := p1 u hu
      have := h u (List.mem_cons_of_mem _ hu)
      omega
    rw [List.length_cons]
    omega
theorem MOk.len28 {m : List Int} (h : MOk 28 m) : m.length ≤ 27 := mok_len 27 m h.1 fun z hz => by
  have := h.2 z hz
  omega
theorem chI_snd (i j ps lim : Int) (m : List Int) : (chI i j ps lim m).2 = [] ∨ (chI i j ps lim m).2 = m ++ [0] := by
  unfold chI chM
  by_cases h : lim < ((m.length : Int) + 1) * ps
  · rw [if_pos h]
    exact .inl rfl
  · rw [if_neg h]
    exact .inr rfl
theorem chI_fst (i j ps lim : Int) (m : List Int) : (chI i j ps lim m).1 = i ∨ (chI i j ps lim m).1 = j := by
  unfold chI chM
  by_cases h : lim < ((m.length : Int) + 1) * ps
  · rw [if_pos h]
    exact .inr rfl
  · rw [if_neg h]
    exact .inl rfl
theorem fix_ok {L : List (Int × Int)} {i : Int} (h : InP L i) : (byFix i).Ok L (IFix (byFix i)) := ⟨rfl, fun m hm => ⟨h, hm⟩, fun m hm => hm, fun m hm => by
  have hm : m = [] := hm
  subst hm
  exact ⟨Nat.zero_le _, Nat.zero_le _⟩⟩
theorem turn_ok {L : List (Int × Int)} {is : List Int} (h : ∀ i ∈ is, InP L i) (n : is ≠ []) : (byTurn is).Ok L (ITurn is) := by
  have pos : 0 < is.length := List.length_pos_iff.mpr n
  refine ⟨⟨0, rfl, pos⟩, ?_, fun m hm => hm, ?_⟩
  · rintro m ⟨k, rfl, hk⟩
    have at_ : atI is (k : Int) = some is[k] := at_nat hk (List.getElem?_eq_getElem hk)
    refine ⟨?_, ((k + 1) % is.length), ?_, Nat.mod_lt _ pos⟩
    · show InP L ((atI is (k : Int)).getD 0)
      rw [at_]
      exact h _ (List.getElem_mem hk)
    · show [((k : Int) + 1).fmod is.length] = _
      rw [Int.fmod_eq_emod_of_nonneg _ (by omega)]
      rfl
  · rintro m ⟨k, rfl, hk⟩
    exact ⟨show 1 ≤ 800 by decide, show 1 ≤ 800 by decide⟩
theorem sw_ok {L : List (Int × Int)} {i j lim : Int} (hi : InP L i) (hj : InP L j) (hl : (pas L j).1 ≤ 28) : (bySw L i j lim).Ok L (MOk 28) := by
  have gr : ∀ m : List Int, m.Pairwise (· > ·) → (∀ z ∈ m, 0 ≤ z) → MOk 28 (grM (pas L j).1 m) := fun m h1 h2 => (grM_ok h1 h2).up hl
  refine ⟨⟨.nil, fun z hz => nomatch hz⟩, fun m hm => ⟨?_, ?_⟩, fun m hm => gr m hm.1 fun z hz => by have := (hm.2 z hz).1; omega, fun m hm => ⟨by have := hm.len28; omega, ?_⟩⟩
  · show InP L (chI i j (pas L i).2 lim m).1
    rcases chI_fst i j (pas L i).2 lim m with e | e
    · rw [e]; exact hi
    · rw [e]; exact hj
  · show MOk 28 (grM (pas L j).1 (chI i j (pas L i).2 lim m).2)
    rcases chI_snd i j (pas L i).2 lim m with e | e
    · rw [e]; exact gr [] .nil fun z hz => nomatch hz
    · rw [e]
      obtain ⟨h1, h2⟩ := snoc_ok hm
      exact gr _ h1 h2
  · show (chI i j (pas L i).2 lim m).2.length ≤ 800
    have := hm.len28
    rcases chI_snd i j (pas L i).2 lim m with e | e
    · rw [e]; exact Nat.zero_le _
    · rw [e, List.length_append]
      show m.length + 1 ≤ 800
      omega
end Sea

set_option Elab.async false
set_option linter.all false
set_option maxRecDepth 100000
set_option maxHeartbeats 4000000
/-! the buyers' methods -/
namespace Sea
open PySem PySem.Spec PyProof.Rows L2 LamX NdefX ClX Evl StX
/-- the properties lengths and prices -/
structure TLp (K : PySem.W.Frag) (C fL pL fR pR : Addr) (dL dR : FuncData) : Prop where
  pL : PropOf K C "lengths" pL fL
  uL : Fun K "lengths" "Tariff.lengths" sLengths fL dL
  pR : PropOf K C "prices" pR fR
  uR : Fun K "prices" "Tariff.prices" sPrices fR dR
section
variable {X : Cx} {C cI cU cP fI fL pL fR pR : Addr} {mc mp : Value} {dL dR : FuncData} {e : Expr} {te : TE} {pos : Pos}
theorem pe_lens (K : PySem.W.Frag) (hK : X.K = K) (T : TLp K C fL pL fR pR dL dR) (TT : TX K X.mg C cI cU cP fI mc mp) (hr : Room 2 X.A) (he : PE X e te) (hab : attributeBase e "lengths" X.env (eval e X.env) = eval e X.env := by rfl) : PE X (.Attribute e "lengths" pos) (tProp C (spCol K C Prod.fst) [] E0 te) := by
  subst hK
  exact pe_prop he TT.cl T.pL (ok_lengths (k := 0) T.uL TT) hr (T.uL.binds (ps := ["self"]) fun _ _ _ _ _ _ us hl => match us, hl with | [_], _ => rfl) .nil pass0 hab
theorem pe_pris (K : PySem.W.Frag) (hK : X.K = K) (T : TLp K C fL pL fR pR dL dR) (TT : TX K X.mg C cI cU cP fI mc mp) (hr : Room 2 X.A) (he : PE X e te) (hab : attributeBase e "prices" X.env (eval e X.env) = eval e X.env := by rfl) : PE X (.Attribute e "prices" pos) (tProp C (spCol K C Prod.snd) [] E0 te) := by
  subst hK
  exact pe_prop he TT.cl T.pR (ok_prices (k := 0) T.uR TT) hr (T.uR.binds (ps := ["self"]) fun _ _ _ _ _ _ us hl => match us, hl with | [_], _ => rfl) .nil pass0 hab
end
theorem pe_fldK {X : Cx} {e : Expr} {ta : TE} {f : Str} {pos : Pos} (K : PySem.W.Frag) (hK : X.K = K) (he : PE X e ta) (hb : attributeBase e f X.env (eval e X.env) = eval e X.env) : PE X (.Attribute e f pos) (tFld K ta f) := hK ▸ pe_fld he hb
section
variable {K : PySem.W.Frag} {C D : Addr} {σ : L2.St} {H : Hp}
/-- e.lengths or e.prices, at i -/
theorem ev_col {te ti : TE} {t p : Addr} {L : List (Int × Int)} {i : Int} {x : Int × Int} {f : Int × Int → Int} (h : Ev te σ H (.ref t)) (ht : Tar K C H t p L) (hL : L.length ≤ 1000) (hi : Ev ti σ H (.int i)) (hx : atI L i = some x) :
    Ev (tOp (rIxT K) (tProp C (spCol K C f) [] E0 te) ti) σ H (.int (f x)) := fun H1 e Q q =>
  h H1 e _ fun H2 e2 => by
    obtain ⟨⟨dx, hd⟩, hp⟩ := ht.same (e.trans e2)
    refine ⟨t, dx, _, rfl, hd, t, p, L, rfl, ⟨⟨dx, hd⟩, hp⟩, hL, fun r H3 s3 hr => ?_⟩
    refine hi H3 (e.trans (e2.trans s3)) _ fun H4 e4 => ⟨r, _, i, _, rfl, rfl, .of (e4 _ _ hr), ?_, q H4 (e2.trans (Ex.trans s3 e4))⟩
    unfold atI at hx ⊢
    rw [List.length_map]
    cases e : ixN L.length i with
    | none =>
      rw [e] at hx
      cases hx
    | some j =>
      rw [e] at hx
      show (L.map fun x => V.int (f x))[j]? = _
      rw [List.getElem?_map, show L[j]? = some x from hx]
      rfl
theorem swF_o (t : Addr) (i j lim : Int) : (swF t i j lim).lookup ("offer" : Str) = some (.ref t) := rfl
theorem swF_s (t : Addr) (i j lim : Int) : (swF t i j lim).lookup ("short" : Str) = some (.int i) := rfl
theorem swF_l (t : Addr) (i j lim : Int) : (swF t i j lim).lookup ("long" : Str) = some (.int j) := rfl
theorem swF_m (t : Addr) (i j lim : Int) : (swF t i j lim).lookup ("limit" : Str) = some (.int lim) := rfl
/-- self.f -/
theorem ev_own {k : Nat} {a dx : Addr} {fs : List (Str × V)} {f : Str} {v : V} (ha : H a = some (.ins D dx fs)) (c : Cls K D) (n : NoAttr K D f) (hs : σ[k]? = some (some (.ref a))) (h : fs.lookup f = some v) : Ev (tFld K (tVar k) f) σ H v := fun H1 e Q q =>
  ⟨.ref a, hs, a, D, dx, _, v, rfl, e _ _ ha, c, n, h, q H1 (Ex.refl H1)⟩
end
theorem eu_ofL {K : PySem.W.Frag} {σ : L2.St} {H : Hp} {te : TE} {xs : List V} (h : EvL te σ H xs) : EvU (tCB (fun xs H Q => ∃ p ys, xs = [.ref p] ∧ ((SqL K H p ys ∧ ∀ l, H l = none → Q (.ref l) (upd H l (.tup ys))) ∨ (SqT K H p ys ∧ Q (.ref p) H))) (tCons te tNil)) σ H xs := fun H1 e Q q =>
  h H1 e _ fun p H2 np e2 hp => ⟨p, xs, rfl, .inl ⟨.of hp, fun l nl => q l _ (fresh_back e2 nl) (e2.trans (Ex.new nl)) upd_same⟩⟩
theorem given_map (os : List Int) (f : Int → Bool) (g : Int → Int) : ∀ n, n ≤ os.length → given n (fun i => f (os.getD i 0)) (fun i => .int (g (os.getD i 0))) = (((os.take n).filter f).map g).map V.int
  | 0, _ => rfl
  | n + 1, h => by
    have at_ : os[n]? = some os[n] := List.getElem?_eq_getElem (by omega)
    have gd : os.getD n 0 = os[n] := by rw [List.getD_eq_getElem?_getD, at_]; rfl
    rw [take_snoc at_, List.filter_append, List.map_append, List.map_append, ← given_map os f g n (by omega)]
    cases e : f os[n] with
    | true => rw [given_yes (by rw [gd, e]), gd, List.filter_cons_of_pos e]; rfl
    | false => rw [given_no (by rw [gd, e]), List.filter_cons_of_neg (by rw [e]; decide), List.filter_nil, List.map_nil, List.map_nil, List.append_nil]
theorem ev_lenE {K : PySem.W.Frag} {σ : L2.St} {H : Hp} {te : TE} {p : Addr} {xs : List V} (h : Ev te σ H (.ref p)) (hx : SqT K H p xs) : Ev (tCB (fun xs H Q => ∃ p ys, xs = [V.ref p] ∧ (SqL K H p ys ∨ SqT K H p ys) ∧ Q (.int ys.length) H) (tCons te tNil)) σ H (.int (xs.length : Int)) := fun H1 e Q q =>
  h H1 e _ fun H2 e2 => ⟨p, xs, rfl, .inr ((TK.same (e.trans e2)) _ _ hx), q H2 e2⟩
/-- the names that instances of the classes hold -/
structure TNm (K : PySem.W.Frag) (mg : Str → Option Value) (DF DT DS : Addr) : Prop where
  cF : Cls K DF
  cT : Cls K DT
  cS : Cls K DS
  fO : NoAttr K DF "offer"
  tO : NoAttr K DT "offer"
  sO : NoAttr K DS "offer"
  fF : NoAttr K DF "favorite"
  tS : NoAttr K DT "sequence"
  sS : NoAttr K DS "short"
  sL : NoAttr K DS "long"
  sM : NoAttr K DS "limit"
  mI : mg "int" = none
section
variable {P : Program} {w : World} {K : PySem.W.Frag} {mg : Str → Option Value} {base : Heap} {C D DF DT DS cI cU cP cN fI fP pP fVP fVC fL pL fR pR : Addr} {mc mp md : Value} {fdP dVP dVC dL dR : FuncData}
/-- () -/
theorem ok_beg {f : Addr} {fd : FuncData} {k : Nat} {B : BuyP} (F : Fun K "beginning" "Buyer.beginning" sByB f fd) (hB : ∀ {H a L b}, B H a L b → b.beg = []) : FnOk P w K mg base CX0 (k + 1) f fd ["self"] (spBegK K B) := by
  refine F.ok scByB (fun vs H Q E h => ?_) (fun cdv A outer s H vs Q E hr h => ?_)
  · obtain ⟨a, L, b, rfl, _⟩ := h
    rfl
  · obtain ⟨a, L, b, rfl, hb, q⟩ := h
    refine ⟨_, pss_one (ps_ret (pe_tup pa_nil)), ?_⟩
    refine ⟨Nat.zero_le _, fun r nr => q (.ref r) _ (same_new nr) ?_⟩
    rw [hB hb]
    exact ⟨r, rfl, .of upd_same⟩
theorem ok_stay {f : Addr} {fd : FuncData} {k : Nat} {B : BuyP} (F : Fun K "grow_older" "Buyer.grow_older" sByG f fd) (hB : ∀ {H a L b}, B H a L b → b.gr = id) : FnOk P w K mg base CX0 (k + 1) f fd ["self", "memory"] (spGrK K B) := by
  refine F.ok scByG (fun vs H Q E h => ?_) (fun cdv A outer s H vs Q E hr h => ?_)
  · obtain ⟨a, L, b, v, m, rfl, _⟩ := h
    rfl
  · obtain ⟨a, L, b, v, m, rfl, hb, _, hm, _, q⟩ := h
    refine ⟨_, pss_one (ps_ret (pv 1)), ?_⟩
    refine ⟨_, rfl, q v H (Same.refl H) ?_⟩
    rw [hB hb]
    exact hm
theorem ok_byT {fT : Addr} {dT : FuncData} (F : Fun K "tariff" "Buyer.tariff" sByT fT dT) (c : Cls K D) (n : NoAttr K D "offer") {k : Nat} : FnOk P w K mg base CX0 (k + 1) fT dT ["self"] (getSp D "offer") := by
  obtain ⟨oc, od, kV, doc, pm, an, cdv, ct, osl, rfl, lk, hcd⟩ := F.ex
  exact fn_getter lk hcd scByT rfl rfl c n
theorem ok_fxC {f : Addr} {fd : FuncData} {k : Nat} (F : Fun K "choose" "FixedBuyer.choose" sFxC f fd) (W : TNm K mg DF DT DS) : FnOk P w K mg base CX0 (k + 1) f fd ["self", "memory"] (spChK K (FixB K C DF) IFix) := by
  refine F.ok scFxC (fun vs H Q E h => ?_) (fun cdv A outer s H vs Q E hr h => ?_)
  · obtain ⟨a, L, b, v, m, rfl, _⟩ := h
    rfl
  · obtain ⟨a, L, b, v, m, rfl, ⟨t, p, i, ⟨dx, ha⟩, ht, hi, rfl⟩, _, hm, _, _, q⟩ := h
    refine ⟨_, pss_one (ps_ret (pe_tup (pa_cons (pe_fld (pv 0) rfl) (pa_cons (pv 1) pa_nil)))), ?_⟩
    refine ⟨_, rfl, a, DF, dx, _, _, rfl, ha, W.cF, W.fF, rfl, _, rfl, Nat.le_of_lt (small1000 (show 2 ≤ 1000 by decide)), fun r nr => q r v _ (same_new nr) (.of upd_same) (hm.tk (TK.new nr))⟩
theorem ok_tnB {f : Addr} {fd : FuncData} {k : Nat} (F : Fun K "beginning" "TurnBuyer.beginning" sTnB f fd) : FnOk P w K mg base CX0 (k + 1) f fd ["self"] (spBegK K (TurnB K C D)) := by
  refine F.ok scTnB (fun vs H Q E h => ?_) (fun cdv A outer s H vs Q E hr h => ?_)
  · obtain ⟨a, L, b, rfl, _⟩ := h
    rfl
  · obtain ⟨a, L, b, rfl, ⟨t, p, sq, is, _, _, _, _, _, _, rfl⟩, q⟩ := h
    refine ⟨_, pss_one (ps_ret (pe_tup (pa_cons pe_int pa_nil))), ?_⟩
    exact ⟨Nat.le_of_lt (small1000 (show 1 ≤ 1000 by decide)), fun r nr => q (.ref r) _ (same_new nr) ⟨r, rfl, .of upd_same⟩⟩
abbrev ITn : By → List Int → Prop := fun b m => ITurn b.tag m
theorem ok_tnC {f : Addr} {fd : FuncData} {k : Nat} (F : Fun K "choose" "TurnBuyer.choose" sTnC f fd) (T : TX K mg C cI cU cP fI mc mp) (W : TNm K mg DF DT DS) : FnOk P w K mg base CX0 (k + 1) f fd ["self", "memory"] (spChK K (TurnB K C DT) ITn) := by
  refine F.ok scTnC (fun vs H Q E h => ?_) (fun cdv A outer s H vs Q E hr h => ?_)
  · obtain ⟨a, L, b, v, m, rfl, _⟩ := h
    rfl
  · obtain ⟨a, L, b, v, m, rfl, ⟨t, p, sq, is, ⟨dx, ha⟩, ht, hs, n0, n1, hi, rfl⟩, _, ⟨pm, rfl, hm⟩, ⟨j, rfl, hj⟩, _, q⟩ := h
    have hj : j < is.length := hj
    refine ⟨_, pss_cons (ps_set (i := 2) scTnC.nd rfl (.inl rfl) (pe_ixt (pv 1) pe_int))
      (pss_one (ps_ret (pe_tup (pa_cons (pe_ixt (pe_fld (pv 0) rfl) (pv 2)) (pa_cons (pe_tup (pa_cons (pe_op op_modN (pe_callTy call_int1 (by rfl) W.mI (by rfl) (pa_cons (pe_op op_add (pv 2) pe_int) pa_nil)) (pe_callB call_len_seq (by rfl) T.mN PySem.boot_len (pa_cons (pe_fld (pv 0) rfl) pa_nil))) pa_nil)) pa_nil))))), ?_⟩
    have at_ : atI is (j : Int) = some is[j] := at_nat hj (List.getElem?_eq_getElem hj)
    have at2 : atI (is.map V.int) (j : Int) = some (.int is[j]) := at_nat (by rw [List.length_map]; exact hj) (by rw [List.getElem?_map, List.getElem?_eq_getElem hj]; rfl)
    have eA : (byTurn is).ch [(j : Int)] = (is[j], [((j : Int) + 1).fmod is.length]) := by
      show ((atI is (j : Int)).getD 0, _) = _
      rw [at_]
      rfl
    have s1k : ∀ {n : Nat}, n ≤ 1000 → n ≤ sizeLine := fun h => Nat.le_of_lt (small1000 h)
    refine q_asg (v := .int (j : Int)) (ev_op (ev_var rfl) ev_c (rv_ixT hm rfl)) fun H1 e1 => ?_
    have s1 : Same H H1 := e1
    unfold tRet tTup tCons
    refine (ev_op (ev_own (s1 _ _ ha) W.cT W.tS rfl rfl) (ev_var rfl) (rv_ixT ((TK.same s1) _ _ hs) at2) : Ev _ [some (.ref a), some (.ref pm), some (.int (j : Int))] H1 (.int is[j])) H1 (Ex.refl H1) _ fun H2 e2 => ?_
    have s2 := Same.trans s1 e2
    refine (ev_op (ev_int1 (ev_op (ev_var rfl) ev_c rv_I0)) (ev_is (ev_lenE (ev_own (s2 _ _ ha) W.cT W.tS rfl rfl) ((TK.same s2) _ _ hs)) (by rw [List.length_map])) (rv_I (C := fun _ j => j ≠ 0) (g := fun i j => .int (i.fmod j)) (i := (j : Int) + 1) (j := (is.length : Int)) (by omega)) : Ev _ [some (.ref a), some (.ref pm), some (.int (j : Int))] H2 (.int (((j : Int) + 1).fmod is.length))) H2 (Ex.refl H2) _ fun H3 e3 => ?_
    have s3 := Same.trans s2 e3
    refine ⟨s1k (show 1 ≤ 1000 by decide), fun z nz => ⟨s1k (show 2 ≤ 1000 by decide), fun r nr => ?_⟩⟩
    refine q r (.ref z) _ (Same.trans (Same.trans s3 (same_new nz)) (same_new nr)) ?_ ?_
    · rw [eA]
      exact .of upd_same
    · rw [eA]
      exact ⟨z, rfl, .of (same_new nr _ _ upd_same)⟩
theorem ok_swC {f : Addr} {fd : FuncData} (F : Fun K "choose" "SwitchBuyer.choose" sSwC f fd) (T : TX K mg C cI cU cP fI mc mp) (LP : TLp K C fL pL fR pR dL dR) (W : TNm K mg DF DT DS) : FnOk P w K mg base CX0 3 f fd ["self", "memory"] (spChK K (SwB K C DS) fun _ => MOk 28) := by
  refine F.ok scSwC (fun vs H Q E h => ?_) (fun cdv A outer s H vs Q E hr h => ?_)
  · obtain ⟨a, L, b, v, m, rfl, _⟩ := h
    rfl
  · obtain ⟨a, L, b, v, m, rfl, ⟨t, p, i, j, lim, ⟨dx, ha⟩, ht, hi, hj, rfl⟩, hL, hm, hI, hOk, q⟩ := h
    have l9 : m.length ≤ 800 := (hOk.len m hI).1
    have hx := hi.pas.1
    have q : ∀ (r : Addr) (v' : V) H', Same H H' → SqT K H' r [.int (chI i j (pas L i).2 lim m).1, v'] → TiA K H' v' (chI i j (pas L i).2 lim m).2 → Q (.ref r) H' := q
    generalize pas L i = x at hx q
    refine ⟨_, pss_cons (ps_if (pt_cmpR op_gt (pe_op op_mul (pe_op op_add (pe_callB call_len_seq (by rfl) T.mN PySem.boot_len (pa_cons (pv 1) pa_nil)) pe_int) (pe_ixt (pe_pris K rfl LP T hr (pe_fld (pv 0) rfl)) (pe_fld (pv 0) rfl))) (pe_fld (pv 0) rfl) (nomark _))
        (pss_one (ps_ret (pe_tup (pa_cons (pe_fld (pv 0) rfl) (pa_cons (pe_tup pa_nil) pa_nil))))) pss_nil)
      (pss_one (ps_ret (pe_tup (pa_cons (pe_fld (pv 0) rfl) (pa_cons (pe_op op_catA (pv 1) (pe_tup (pa_cons pe_int pa_nil))) pa_nil))))), ?_⟩
    obtain ⟨pm, rfl, hm⟩ := hm
    have hlen : (m.map V.int).length = m.length := List.length_map ..
    have ch : (chI i j x.2 lim m) = if lim < ((m.length : Int) + 1) * x.2 then (j, []) else (i, m ++ [0]) := by
      unfold chI chM
      by_cases h : lim < ((m.length : Int) + 1) * x.2
      · rw [if_pos h, if_pos h]
      · rw [if_neg h, if_neg h]
    refine q_when (b := decide (lim < ((m.length : Int) + 1) * x.2)) (et_test (ev_op (ev_op (ev_op (ev_is (ev_lenT rfl hm) (by rw [hlen])) ev_c rv_I0) (ev_col (ev_own ha W.cS W.sO rfl (swF_o ..)) ht hL (ev_own ha W.cS W.sS rfl (swF_s ..)) hx) (rv_I (.inl ⟨by omega, by omega⟩))) (ev_own ha W.cS W.sM rfl (swF_m ..)) (rv_I0 (g := fun i j => .bl (decide (j < i)))))) (fun hc H1 e1 => ?_) (fun hc H1 e1 => ?_)
    · rw [if_pos (of_decide_eq_true hc)] at ch
      unfold tRet tTup tCons
      refine (ev_own (k := 0) (σ := [some (.ref a), some (.ref pm)]) ha W.cS W.sL rfl (swF_l t i j lim)) H1 e1 _ fun H2 e2 => ?_
      refine ⟨Nat.zero_le _, fun z nz => ⟨Nat.le_of_lt (small1000 (show 2 ≤ 1000 by decide)), fun r nr => ?_⟩⟩
      refine q r (.ref z) _ (((e1.trans e2).trans (same_new nz)).trans (same_new nr)) ?_ ⟨z, ?_⟩
      · rw [ch]
        exact .of upd_same
      · rw [ch]
        exact ⟨rfl, .of (same_new nr _ _ upd_same)⟩
    · rw [if_neg (of_decide_eq_false hc)] at ch
      unfold tRet tTup tCons
      refine (ev_own (k := 0) (σ := [some (.ref a), some (.ref pm)]) ha W.cS W.sS rfl (swF_s t i j lim)) H1 e1 _ fun H2 e2 => ?_
      refine ⟨.ref pm, rfl, Nat.le_of_lt (small1000 (show 1 ≤ 1000 by decide)), fun y ny => ?_⟩
      have s2 : Same H (upd H2 y (.tup [.int 0])) := (e1.trans e2).trans (same_new ny)
      have hm2 := (TK.same s2) _ _ hm
      have fin : ∀ (z : Addr) (H3 : Hp), Same H H3 → SqT K H3 z ((m ++ [0]).map V.int) → ∀ r, H3 r = none → Q (V.ref r) (upd H3 r (.tup [V.int i, V.ref z])) := fun z H3 s3 hz r nr => by
        refine q r (V.ref z) _ (s3.trans (same_new nr)) ?_ ⟨z, ?_⟩
        · rw [ch]
          exact .of upd_same
        · rw [ch]
          exact ⟨rfl, (TK.new nr) _ _ hz⟩
      have l2 : 2 ≤ sizeLine := Nat.le_of_lt (small1000 (show 2 ≤ 1000 by decide))
      refine ⟨pm, y, _, _, rfl, rfl, hm2, .of upd_same, Nat.le_of_lt (small1000 ?_), fun he => ?_, fun _ he => absurd he (by simp), fun _ _ z nz => ?_⟩
      · rw [hlen]
        show m.length + 1 ≤ 1000
        omega
      · refine ⟨l2, fin y _ s2 ?_⟩
        have : m = [] := by
          cases m with
          | nil => rfl
          | cons _ _ => cases he
        rw [this]
        exact .of upd_same
      · refine ⟨l2, fin z _ (s2.trans (same_new nz)) ?_⟩
        rw [List.map_append]
        exact .of upd_same
theorem ok_swG {f : Addr} {fd : FuncData} (F : Fun K "grow_older" "SwitchBuyer.grow_older" sSwG f fd) (T : TX K mg C cI cU cP fI mc mp) (LP : TLp K C fL pL fR pR dL dR) (W : TNm K mg DF DT DS) : FnOk P w K mg base CX0 3 f fd ["self", "memory"] (spGrK K (SwB K C DS)) := by
  refine F.ok scSwG (fun vs H Q E h => ?_) (fun cdv A outer s H vs Q E hr h => ?_)
  · obtain ⟨a, L, b, v, m, rfl, _⟩ := h
    rfl
  · obtain ⟨a, L, b, v, m, rfl, ⟨t, p, i, j, lim, ⟨dx, ha⟩, ht, hi, hj, rfl⟩, hL, hm, l9, q⟩ := h
    have hx := hj.pas.1
    have q : ∀ (v' : V) H', Same H H' → TiA K H' v' (grM (pas L j).1 m) → Q v' H' := q
    generalize pas L j = x at hx q
    refine ⟨_, pss_one (ps_ret (pe_callTy call_tuple_of (by rfl) T.mT (by rfl) (pa_cons (pe_lc (own := [("age", 2)]) (g := gName 2) (by rfl) scSwG.nd (pi_tup (pv 1)) (blkOk_by (own := [("age", 2)]) (N := ["self", "memory", "age"]) (sc := defScope sSwG) (by decide +kernel))
        (fun _ _ _ _ _ => pg_name (i := 2) scSwG.nd rfl (Or.inl rfl))
        (fun _ _ _ hrb _ => pts_one (pt_cmpR op_lt (pe_op op_add (pv 2) pe_int) (pe_ixtK K rfl (pe_lens K rfl LP T hr (pe_fldK K rfl (pv 0) rfl)) (pe_fldK K rfl (pv 0) rfl)) (nomark _))) (fun _ _ _ _ _ => pe_op op_add (pv 2) pe_int)) pa_nil))), ?_⟩
    obtain ⟨pm, rfl, hm⟩ := hm
    have hlen : (m.map V.int).length = m.length := List.length_map ..
    have item : ∀ (i : Nat) (y : V), (m.map V.int)[i]? = some y → y = .int (m.getD i 0) := fun i y hy => by
      rw [List.getElem?_map] at hy
      cases hi : m[i]? with
      | none =>
        rw [hi] at hy
        cases hy
      | some z =>
        rw [hi] at hy
        cases hy
        rw [List.getD_eq_getElem?_getD, hi]
        rfl
    refine s_retU (eu_ofL (el_lcTup (K := K) (j := 2) (vs := [2]) (fun i => decide (m.getD i 0 + 1 < x.1)) (fun i => .int (m.getD i 0 + 1)) (ev_var rfl) hm (by rw [hlen]; omega) (fun _ => rfl) (fun n y H1 e1 hy => ?_) (fun n y H1 e1 hy _ => ?_))) (fun r H1 _ e1 h1 => ?_)
    · rw [item n y hy]
      have t1 := ht.same e1
      exact et_test (ev_op (ev_op (ev_var rfl) ev_c rv_I0) (ev_col (ev_own (e1 _ _ ha) W.cS W.sO rfl (swF_o ..)) t1 hL (ev_own (e1 _ _ ha) W.cS W.sL rfl (swF_l ..)) hx) (rv_I0 (g := fun i j => .bl (decide (i < j)))))
    · rw [item n y hy]
      exact ev_op (ev_var rfl) ev_c rv_I0
    · rw [hlen, given_map m (fun z => decide (z + 1 < x.1)) (· + 1) m.length (Nat.le_refl _), List.take_length] at h1
      exact q (.ref r) H1 e1 ⟨r, rfl, .of h1⟩

end
end Sea

set_option Elab.async false
set_option linter.all false
set_option maxRecDepth 100000
set_option maxHeartbeats 4000000
/-! that every simulation of the law comes back in time -/
namespace Sea
open PySem PySem.Spec PyProof.Rows L2 LamX NdefX ClX Evl StX
def mems : Nat → Nat → List (List Int)
  | 0, _ => [[]]
  | _ + 1, 0 => [[]]
  | n + 1, k + 1 => mems n (k + 1) ++ (mems n k).map fun m => ((n : Int) + 1) :: m
def cnt : Nat → Nat → Nat
  | 0, _ => 1
  | _ + 1, 0 => 1
  | n + 1, k + 1 => cnt n (k + 1) + cnt n k
theorem mems_len : ∀ n k, (mems n k).length = cnt n k
  | 0, _ => by unfold mems cnt; rfl
  | _ + 1, 0 => by unfold mems cnt; rfl
  | n + 1, k + 1 => by
    unfold mems cnt
    rw [List.length_append, List.length_map, mems_len n (k + 1), mems_len n k]
theorem cnt_27 : cnt 27 6 = 397594 := by decide +kernel
theorem in_mems : ∀ (n k : Nat) (m : List Int), m.Pairwise (· > ·) → (∀ z ∈ m, 1 ≤ z ∧ z ≤ n) → m.length ≤ k → m ∈ mems n k
  | 0, _, [], _, _, _ => by unfold mems; exact List.mem_singleton.mpr rfl
  | 0, _, z :: r, _, h, _ => by
    have := h z List.mem_cons_self
    omega
  | n + 1, 0, [], _, _, _ => by unfold mems; exact List.mem_singleton.mpr rfl
  | n + 1, 0, z :: r, _, _, h => by
    rw [List.length_cons] at h
    omega
  | n + 1, k + 1, [], _, _, _ => by
    unfold mems
    exact List.mem_append_left _ (in_mems n (k + 1) [] .nil (fun z hz => nomatch hz) (Nat.zero_le _))
  | n + 1, k + 1, z :: r, hp, h, hk => by
    have hz := h z List.mem_cons_self
    obtain ⟨p1, p2⟩ := List.pairwise_cons.mp hp
    have small : ∀ u ∈ r, 1 ≤ u ∧ u < z := fun u hu => ⟨(h u (List.mem_cons_of_mem _ hu)).1, p1 u hu⟩
    unfold mems
    by_cases e : z = (n : Int) + 1
    · subst e
      rw [List.length_cons] at hk
      exact List.mem_append_right _ (List.mem_map.mpr ⟨r, in_mems n k r p2 (fun u hu => by have := small u hu; omega) (by omega), rfl⟩)
    · refine List.mem_append_left _ (in_mems n (k + 1) (z :: r) hp (fun u hu => ?_) hk)
      rcases List.mem_cons.mp hu with rfl | hu
      · omega
      · have := small u hu
        omega
theorem nodup_len {α : Type} [DecidableEq α] : ∀ (l m : List α), l.Nodup → (∀ x ∈ l, x ∈ m) → l.length ≤ m.length
  | [], _, _, _ => Nat.zero_le _
  | a :: r, m, hn, h => by
    obtain ⟨n1, n2⟩ := List.nodup_cons.mp hn
    have ha := h a List.mem_cons_self
    have := nodup_len r (m.erase a) n2 fun x hx => (List.mem_erase_of_ne (fun e => n1 (by rw [← e]; exact hx))).mpr (h x (List.mem_cons_of_mem _ hx))
    rw [List.length_erase_of_mem ha] at this
    have : 0 < m.length := List.length_pos_of_mem ha
    rw [List.length_cons]
    omega
theorem flat_len {α β : Type} {f : α → List β} {k : Nat} (h : ∀ a, (f a).length = k) : ∀ l : List α, (l.flatMap f).length = l.length * k
  | [] => by simp
  | a :: r => by
    rw [List.flatMap_cons, List.length_append, h, flat_len h r, List.length_cons, Nat.succ_mul]
    omega
/-- few states, few days -/
theorem few_of {g : Par} {I : List Int → Prop} (o : g.Ok I) (sts : List (Int × List Int)) (n : Nat) (hn : 14 * sts.length ≤ n) (h : ∀ d, ((sim g d).1, (sim g d).2.1) ∈ sts) {d : Nat} (f : Fresh g d) : d ≤ n := by
  have univ : ((List.range 14).flatMap fun (p : Nat) => sts.map fun s => (((p : Int), s.1, s.2) : NK)).length = 14 * sts.length := by
    rw [flat_len (k := sts.length) fun p => List.length_map .., List.length_range]
  have := nodup_len ((List.range d).map (key g)) ((List.range 14).flatMap fun (p : Nat) => sts.map fun s => (((p : Int), s.1, s.2) : NK)) ?_ fun x hx => ?_
  · rw [List.length_map, List.length_range, univ] at this
    omega
  · exact List.pairwise_map.mpr (List.pairwise_lt_range.imp_of_mem fun {i j} _ hj h1 => f i j h1 (List.mem_range.mp hj))
  · obtain ⟨i, _, rfl⟩ := List.mem_map.mp hx
    have f0 := Int.fmod_nonneg_of_pos (i : Int) (show 0 < g.ln by have := o.l1; omega)
    have f1 := Int.fmod_lt_of_pos (i : Int) (show 0 < g.ln by have := o.l1; omega)
    obtain ⟨p, hp⟩ := Int.eq_ofNat_of_zero_le f0
    refine List.mem_flatMap.mpr ⟨p, List.mem_range.mpr (by have := o.l2; omega), List.mem_map.mpr ⟨_, h i, ?_⟩⟩
    unfold key
    rw [hp]
def lefts : List Int := (List.range 28).map fun (l : Nat) => (l : Int)
theorem in_lefts {l : Int} (h0 : 0 ≤ l) (h1 : l ≤ 27) : l ∈ lefts := by
  obtain ⟨n, rfl⟩ := Int.eq_ofNat_of_zero_le h0
  exact List.mem_map.mpr ⟨n, List.mem_range.mpr (by omega), rfl⟩
theorem fix_few {g : Par} {i : Int} (e : g.b = byFix i) (o : g.Ok (IFix g.b)) {d : Nat} (f : Fresh g d) : d ≤ 12000000 := by
  refine few_of o (lefts.map fun l => (l, [])) 12000000 (by decide +kernel) (fun d => ?_) f
  obtain ⟨h1, h2, h3⟩ := sim_ok o d
  have h1 : (sim g d).2.1 = [] := h1
  rw [h1]
  exact List.mem_map.mpr ⟨_, in_lefts h2 h3, rfl⟩
theorem turn_few {g : Par} {i j : Int} (e : g.b = byTurn [i, j]) (o : g.Ok (ITn g.b)) {d : Nat} (f : Fresh g d) : d ≤ 12000000 := by
  refine few_of o (lefts.map (fun l => (l, [0])) ++ lefts.map fun l => (l, [1])) 12000000 (by decide +kernel) (fun d => ?_) f
  obtain ⟨⟨k, h1, h4⟩, h2, h3⟩ := sim_ok o d
  rw [e] at h4
  have h4 : k < 2 := h4
  rw [h1]
  match k, h4 with
  | 0, _ => exact List.mem_append_left _ (List.mem_map.mpr ⟨_, in_lefts h2 h3, rfl⟩)
  | 1, _ => exact List.mem_append_right _ (List.mem_map.mpr ⟨_, in_lefts h2 h3, rfl⟩)
/-! ### a buyer with limits -/
/-- while a short pass lasts, its age says how long it still does -/
def SwOk (x1 : Int) (l : Int) (m : List Int) : Prop := m.length ≤ 6 ∧ (0 < l → m = [] ∨ ∃ r, m = r ++ [x1 - l])
theorem grM_snoc {ll : Int} (r : List Int) (z : Int) : grM ll (r ++ [z]) = grM ll r ++ (if z + 1 < ll then [z + 1] else []) := by
  unfold grM
  rw [List.filter_append, List.map_append]
  by_cases h : z + 1 < ll
  · rw [if_pos h, List.filter_cons_of_pos (p := fun x => decide (x + 1 < ll)) (by exact decide_eq_true h)]
    rfl
  · rw [if_neg h, List.filter_cons_of_neg (p := fun x => decide (x + 1 < ll)) (by rw [decide_eq_false h]; decide)]
    rfl
theorem grM_nil {ll : Int} {r : List Int} (h : ∀ u ∈ r, ll ≤ u + 1) : grM ll r = [] := by
  unfold grM
  rw [List.filter_eq_nil_iff.mpr fun u hu => ?_]
  · rfl
  · have := h u hu
    rw [decide_eq_false (by omega)]
    decide
theorem grM_len {ll : Int} (m : List Int) : (grM ll m).length ≤ m.length := by
  unfold grM
  rw [List.length_map]
  exact List.length_filter_le ..
/-- the youngest age, a day later -/
theorem grM_last {ll z : Int} {r : List Int} (h : (r ++ [z]).Pairwise (· > ·)) : grM ll (r ++ [z]) = [] ∨ ∃ r', grM ll (r ++ [z]) = r' ++ [z + 1] := by
  rw [grM_snoc]
  by_cases c : z + 1 < ll
  · rw [if_pos c]
    exact .inr ⟨_, rfl⟩
  · rw [if_neg c, List.append_nil]
    obtain ⟨_, _, h3⟩ := List.pairwise_append.mp h
    exact .inl (grM_nil fun u hu => by
      have := h3 u hu z (List.mem_singleton.mpr rfl)
      omega)
theorem chI_len {i j ps lim : Int} {m : List Int} (h0 : 0 < ps) (hl : lim ≤ 6 * ps) (hm : m.length ≤ 6) : (chI i j ps lim m).2.length ≤ 6 := by
  unfold chI chM
  by_cases h : lim < ((m.length : Int) + 1) * ps
  · rw [if_pos h]
    exact Nat.zero_le _
  · rw [if_neg h]
    show (m ++ [0]).length ≤ 6
    rw [List.length_append]
    show m.length + 1 ≤ 6
    have h2 : ((m.length : Int) + 1) * ps ≤ 6 * ps := by omega
    have := Int.le_of_mul_le_mul_right h2 h0
    omega
theorem sw_inv {g : Par} {i j lim : Int} (e : g.b = bySw g.L i j lim) (o : g.Ok (MOk 28)) (hi : InP g.L i) (hl : lim ≤ 6 * (pas g.L i).2) : ∀ d, SwOk (pas g.L i).1 (sim g d).1 (sim g d).2.1
  | 0 => by
    show SwOk _ 0 g.b.beg
    rw [e]
    exact ⟨Nat.zero_le _, fun h => absurd h (by decide)⟩
  | d + 1 => by
    obtain ⟨i1, i2⟩ := sw_inv e o hi hl d
    obtain ⟨h1, h2, h3⟩ := sim_ok o d
    have pi := o.ok _ hi.pas.2
    have pos : 0 < (pas g.L i).2 := by have := pi.2.2.1; omega
    show SwOk _ (stp g d (sim g d)).1 (stp g d (sim g d)).2.1
    unfold stp
    by_cases c : (sim g d).1 = 0 ∧ goes g d = true
    · rw [pre_yes c]
      have eg : g.b.gr = grM (pas g.L j).1 := by rw [e]; rfl
      have ec : g.b.ch (sim g d).2.1 = chI i j (pas g.L i).2 lim (sim g d).2.1 := by rw [e]; rfl
      rw [eg, ec]
      refine ⟨Nat.le_trans (grM_len _) (chI_len pos hl i1), fun hp => ?_⟩
      have hp : 0 < max0 ((pas g.L (chI i j (pas g.L i).2 lim (sim g d).2.1).1).1 - 1) := hp
      show grM (pas g.L j).1 (chI i j (pas g.L i).2 lim (sim g d).2.1).2 = [] ∨ ∃ r, grM (pas g.L j).1 (chI i j (pas g.L i).2 lim (sim g d).2.1).2 = r ++ [(pas g.L i).1 - max0 ((pas g.L (chI i j (pas g.L i).2 lim (sim g d).2.1).1).1 - 1)]
      unfold chI chM at hp ⊢
      by_cases hc : lim < (((sim g d).2.1.length : Int) + 1) * (pas g.L i).2
      · rw [if_pos hc]
        exact .inl rfl
      · rw [if_neg hc] at hp ⊢
        have hp : 0 < max0 ((pas g.L i).1 - 1) := hp
        have e1 : (pas g.L i).1 - max0 ((pas g.L i).1 - 1) = 0 + 1 := by
          unfold max0 at hp ⊢
          split at hp <;> split <;> omega
        show grM (pas g.L j).1 ((sim g d).2.1 ++ [0]) = [] ∨ ∃ r, grM (pas g.L j).1 ((sim g d).2.1 ++ [0]) = r ++ [(pas g.L i).1 - max0 ((pas g.L i).1 - 1)]
        rw [e1]
        exact grM_last (snoc_ok h1).1
    · rw [pre_no c]
      have eg : g.b.gr = grM (pas g.L j).1 := by rw [e]; rfl
      rw [eg]
      refine ⟨Nat.le_trans (grM_len _) i1, fun hp => ?_⟩
      have hp : 0 < max0 ((sim g d).1 - 1) := hp
      have l1 : max0 ((sim g d).1 - 1) = (sim g d).1 - 1 ∧ 0 < (sim g d).1 := by
        unfold max0 at hp ⊢
        split at hp <;> split <;> omega
      show grM (pas g.L j).1 (sim g d).2.1 = [] ∨ ∃ r, grM (pas g.L j).1 (sim g d).2.1 = r ++ [(pas g.L i).1 - max0 ((sim g d).1 - 1)]
      rw [l1.1]
      rcases i2 l1.2 with z | ⟨r, z⟩
      · rw [z]
        exact .inl rfl
      · have h1 := h1.1
        rw [z] at h1 ⊢
        have := grM_last (ll := (pas g.L j).1) h1
        rw [show (pas g.L i).1 - (sim g d).1 + 1 = (pas g.L i).1 - ((sim g d).1 - 1) by omega] at this
        exact this
theorem sw_few {g : Par} {i j lim : Int} (e : g.b = bySw g.L i j lim) (o : g.Ok (MOk 28)) (hi : InP g.L i) (hl : lim ≤ 6 * (pas g.L i).2) {d : Nat} (f : Fresh g d) : d ≤ 12000000 := by
  refine few_of o ((mems 27 6).map (fun m => ((0 : Int), m)) ++ (lefts.map (fun l => (l, [])) ++ (mems 27 6).map fun m => ((pas g.L i).1 - m.getLastD 0, m))) 12000000 ?_ (fun d => ?_) f
  · rw [List.length_append, List.length_append, List.length_map, List.length_map, List.length_map, mems_len, cnt_27]
    have : lefts.length = 28 := by decide +kernel
    rw [this]
    omega
  · obtain ⟨i1, i2⟩ := sw_inv e o hi hl d
    obtain ⟨h1, h2, h3⟩ := sim_ok o d
    have mem : (sim g d).2.1 ∈ mems 27 6 := in_mems 27 6 _ h1.1 (fun z hz => by have := h1.2 z hz; omega) i1
    by_cases z : (sim g d).1 = 0
    · rw [z]
      exact List.mem_append_left _ (List.mem_map.mpr ⟨_, mem, rfl⟩)
    · rcases i2 (by omega) with y | ⟨r, y⟩
      · rw [y]
        exact List.mem_append_right _ (List.mem_append_left _ (List.mem_map.mpr ⟨_, in_lefts h2 h3, rfl⟩))
      · refine List.mem_append_right _ (List.mem_append_right _ (List.mem_map.mpr ⟨_, mem, ?_⟩))
        rw [y, List.getLastD_concat]
        congr 1
        omega
end Sea

set_option Elab.async false
set_option linter.all false
set_option maxRecDepth 100000
set_option maxHeartbeats 4000000
/-! spend and purchases_of for a buyer of any of the three kinds -/
namespace Sea
open PySem PySem.Spec PyProof.Rows L2 LamX NdefX ClX Evl StX
/-- a class's members by their places -/
structure TKd (K : PySem.W.Frag) (D pT fT fB fC fG : Addr) (dT dB dC dG : FuncData) (stB stC stG : Stmt) (qB qC qG : Str) : Prop where
  pr : PropOf K D "tariff" pT fT
  uT : Fun K "tariff" "Buyer.tariff" sByT fT dT
  mB : Meth K D "beginning" fB
  uB : Fun K "beginning" qB stB fB dB
  mC : Meth K D "choose" fC
  uC : Fun K "choose" qC stC fC dC
  mG : Meth K D "grow_older" fG
  uG : Fun K "grow_older" qG stG fG dG
abbrev TKf (K : PySem.W.Frag) (D pT fT fB fC fG : Addr) (dT dB dC dG : FuncData) : Prop := TKd K D pT fT fB fC fG dT dB dC dG sByB sFxC sByG "Buyer.beginning" "FixedBuyer.choose" "Buyer.grow_older"
abbrev TKt (K : PySem.W.Frag) (D pT fT fB fC fG : Addr) (dT dB dC dG : FuncData) : Prop := TKd K D pT fT fB fC fG dT dB dC dG sTnB sTnC sByG "TurnBuyer.beginning" "TurnBuyer.choose" "Buyer.grow_older"
abbrev TKs (K : PySem.W.Frag) (D pT fT fB fC fG : Addr) (dT dB dC dG : FuncData) : Prop := TKd K D pT fT fB fC fG dT dB dC dG sByB sSwC sSwG "Buyer.beginning" "SwitchBuyer.choose" "SwitchBuyer.grow_older"
section
variable {P : Program} {w : World} {K : PySem.W.Frag} {mg : Str → Option Value} {base : Heap} {C DF DT DS cI cU cP fI fL pL fR pR pT fT fB fC fG : Addr} {mc mp : Value} {dL dR dT dB dC dG : FuncData}
theorem b1 {x q : Str} {st : Stmt} {f : Addr} {fd : FuncData} (F : Fun K x q st f fd) (h : ∀ (kV doc pm : Value) (an : Option Addr) (cdv ct : Value) (us : List Value), us.length = (["self"] : List Str).length → bindArgs (PySem.W.fnOf x q (defArgs st) (defBody st) (defScope st) .none kV doc pm an cdv ct) ⟨us, []⟩ = pure ((["self"] : List Str).zip us)) : Binds K fd ["self"] [] := F.binds h
def kFix (R : TKf K DF pT fT fB fC fG dT dB dC dG) (W : TNm K mg DF DT DS) : Kind P w K mg base C DF where
  B := FixB K C DF
  I := IFix
  pT := pT
  fT := fT
  fB := fB
  fC := fC
  fG := fG
  dT := dT
  dB := dB
  dC := dC
  dG := dG
  cl := W.cF
  prT := R.pr
  oT := ok_byT (k := 0) R.uT W.cF W.fO
  bT := R.uT.binds fun _ _ _ _ _ _ us hl => match us, hl with | [_], _ => rfl
  mB := R.mB
  oB := ok_beg (k := 2) R.uB fun h => by
    obtain ⟨_, _, _, _, _, _, rfl⟩ := h
    rfl
  bB := R.uB.binds fun _ _ _ _ _ _ us hl => match us, hl with | [_], _ => rfl
  mC := R.mC
  oC := ok_fxC (k := 2) R.uC W
  bC := R.uC.binds fun _ _ _ _ _ _ us hl => match us, hl with | [_, _], _ => rfl
  mG := R.mG
  oG := ok_stay (k := 2) R.uG fun h => by
    obtain ⟨_, _, _, _, _, _, rfl⟩ := h
    rfl
  bG := R.uG.binds fun _ _ _ _ _ _ us hl => match us, hl with | [_, _], _ => rfl
  at_ := fun h => by
    obtain ⟨t, p, i, ⟨dx, h1⟩, h2, _⟩ := h
    exact ⟨dx, _, t, p, h1, (fun q => by have e : (fxF t i).length = 2 := rfl; rw [q] at e; cases e), rfl, rfl, rfl, rfl, h2⟩
  move := fun h hz k => FixB.move h hz k
  same := fun h s => FixB.same h s
def kTurn (R : TKt K DT pT fT fB fC fG dT dB dC dG) (T : TX K mg C cI cU cP fI mc mp) (W : TNm K mg DF DT DS) : Kind P w K mg base C DT where
  B := TurnB K C DT
  I := ITn
  pT := pT
  fT := fT
  fB := fB
  fC := fC
  fG := fG
  dT := dT
  dB := dB
  dC := dC
  dG := dG
  cl := W.cT
  prT := R.pr
  oT := ok_byT (k := 0) R.uT W.cT W.tO
  bT := R.uT.binds fun _ _ _ _ _ _ us hl => match us, hl with | [_], _ => rfl
  mB := R.mB
  oB := ok_tnB (k := 2) R.uB
  bB := R.uB.binds fun _ _ _ _ _ _ us hl => match us, hl with | [_], _ => rfl
  mC := R.mC
  oC := ok_tnC (k := 2) R.uC T W
  bC := R.uC.binds fun _ _ _ _ _ _ us hl => match us, hl with | [_, _], _ => rfl
  mG := R.mG
  oG := ok_stay (k := 2) R.uG fun h => by
    obtain ⟨_, _, _, _, _, _, _, _, _, _, rfl⟩ := h
    rfl
  bG := R.uG.binds fun _ _ _ _ _ _ us hl => match us, hl with | [_, _], _ => rfl
  at_ := fun h => by
    obtain ⟨t, p, sq, is, ⟨dx, h1⟩, h2, _⟩ := h
    exact ⟨dx, _, t, p, h1, (fun q => by have e : (tnF t (.ref sq)).length = 2 := rfl; rw [q] at e; cases e), rfl, rfl, rfl, rfl, h2⟩
  move := fun h hz k => TurnB.move h hz k
  same := fun h s => TurnB.same h s
def kSw (R : TKs K DS pT fT fB fC fG dT dB dC dG) (T : TX K mg C cI cU cP fI mc mp) (LP : TLp K C fL pL fR pR dL dR) (W : TNm K mg DF DT DS) : Kind P w K mg base C DS where
  B := SwB K C DS
  I := fun _ => MOk 28
  pT := pT
  fT := fT
  fB := fB
  fC := fC
  fG := fG
  dT := dT
  dB := dB
  dC := dC
  dG := dG
  cl := W.cS
  prT := R.pr
  oT := ok_byT (k := 0) R.uT W.cS W.sO
  bT := R.uT.binds fun _ _ _ _ _ _ us hl => match us, hl with | [_], _ => rfl
  mB := R.mB
  oB := ok_beg (k := 2) R.uB fun h => by
    obtain ⟨_, _, _, _, _, _, _, _, _, rfl⟩ := h
    rfl
  bB := R.uB.binds fun _ _ _ _ _ _ us hl => match us, hl with | [_], _ => rfl
  mC := R.mC
  oC := ok_swC R.uC T LP W
  bC := R.uC.binds fun _ _ _ _ _ _ us hl => match us, hl with | [_, _], _ => rfl
  mG := R.mG
  oG := ok_swG R.uG T LP W
  bG := R.uG.binds fun _ _ _ _ _ _ us hl => match us, hl with | [_, _], _ => rfl
  at_ := fun h => by
    obtain ⟨t, p, i, j, lim, ⟨dx, h1⟩, h2, _⟩ := h
    exact ⟨dx, _, t, p, h1, (fun q => by have e : (swF t i j lim).length = 4 := rfl; rw [q] at e; cases e), rfl, rfl, rfl, rfl, h2⟩
  move := fun h hz k => SwB.move h hz k
  same := fun h s => SwB.same h s
/-- a deal with a buyer of any of the three -/
def Deal3 (K : PySem.W.Frag) (C CV DF DT DS : Addr) (g : Par) (os : List Int) (H : Hp) (b tv : Addr) : Prop := Deal K CV (FixB K C DF) IFix g os H b tv ∨ Deal K CV (TurnB K C DT) ITn g os H b tv ∨ Deal K CV (SwB K C DS) (fun _ => MOk 28) g os H b tv
def spSp3 (K : PySem.W.Frag) (C CV DF DT DS cV cN : Addr) : Sp := fun vs H Q E => ∃ (b tv : Addr) (c : Int) (g : Par) (os : List Int), vs = [.ref b, .ref tv, .int c] ∧ Deal3 K C CV DF DT DS g os H b tv ∧
  (os = [] → 0 ≤ c ∧ c ≤ 1000000000000000000 → ∀ H', Same H H' → Q (.int (sim g c.toNat).2.2) H') ∧ (os = [] → ¬ (0 ≤ c ∧ c ≤ 1000000000000000000) → ∀ H', Same H H' → E (.ref cN) none H') ∧
  (os ≠ [] → ∀ dd H', Same H H' → H' dd = some (.xd [("index", .int 0), ("part", .str "exceptions")]) → E (.ref cV) (some dd) H')
def spPu3 (K : PySem.W.Frag) (C CV DF DT DS cV cN : Addr) : SpG := fun vs H Q E => ∃ (b tv : Addr) (fi la : Int) (g : Par) (os : List Int), vs = [.ref b, .ref tv, .int fi, .int la] ∧ Deal3 K C CV DF DT DS g os H b tv ∧
  (os = [] → puOk fi la → ∀ ys H', Same H H' → PsV K H' ys (pus g fi.toNat (la + 1 - fi).toNat) → Q ys H') ∧ (os = [] → ¬ puOk fi la → ∀ H', Same H H' → E (.ref cN) none H') ∧
  (os ≠ [] → ∀ dd H', Same H H' → H' dd = some (.xd [("index", .int 0), ("part", .str "exceptions")]) → E (.ref cV) (some dd) H')
/-- spent_per_round of a travel with exceptions -/
def spSr3 (K : PySem.W.Frag) (C CV DF DT DS cV : Addr) : Sp := fun vs H Q E => ∃ (b tv : Addr) (g : Par) (os : List Int), vs = [.ref b, .ref tv] ∧ Deal3 K C CV DF DT DS g os H b tv ∧ os ≠ [] ∧ ∀ dd H', Same H H' → H' dd = some (.xd [("index", .int 0), ("part", .str "exceptions")]) → E (.ref cV) (some dd) H'
end
theorem fn_or {CX : CXT} {P : Program} {w : World} {K : PySem.W.Frag} {mg : Str → Option Value} {base : Heap} {k : Nat} {f : Addr} {fd : FuncData} {ps : List Str} {s1 s2 : Sp} (F1 : FnOk P w K mg base CX k f fd ps s1) (F2 : FnOk P w K mg base CX k f fd ps s2) : FnOk P w K mg base CX k f fd ps fun vs H Q E => s1 vs H Q E ∨ s2 vs H Q E :=
  ⟨fun vs H Q E h => h.elim (F1.len _ _ _ _) (F2.len _ _ _ _), fun A outer s H args us vs Q E hr e0 hb r h => h.elim (F1.run A outer s H args us vs Q E hr e0 hb r) (F2.run A outer s H args us vs Q E hr e0 hb r)⟩
theorem fn_imp {CX : CXT} {P : Program} {w : World} {K : PySem.W.Frag} {mg : Str → Option Value} {base : Heap} {k : Nat} {f : Addr} {fd : FuncData} {ps : List Str} {s1 s2 : Sp} (F1 : FnOk P w K mg base CX k f fd ps s1) (i : ∀ vs H Q E, s2 vs H Q E → s1 vs H Q E) : FnOk P w K mg base CX k f fd ps s2 :=
  ⟨fun vs H Q E h => F1.len _ _ _ _ (i _ _ _ _ h), fun A outer s H args us vs Q E hr e0 hb r h => F1.run A outer s H args us vs Q E hr e0 hb r (i _ _ _ _ h)⟩
theorem gfn_or {P : Program} {w : World} {K : PySem.W.Frag} {mg : Str → Option Value} {base : Heap} {k : Nat} {f : Addr} {fd : FuncData} {ps : List Str} {s1 s2 s3 s4 : SpG} (i : ∀ vs H Q E, s4 vs H Q E → s1 vs H Q E ∨ s2 vs H Q E ∨ s3 vs H Q E)
    (F1 : GFn P w K mg base k f fd ps s1 ∧ CFn P w K mg base k f fd ps s1) (F2 : GFn P w K mg base k f fd ps s2 ∧ CFn P w K mg base k f fd ps s2) (F3 : GFn P w K mg base k f fd ps s3 ∧ CFn P w K mg base k f fd ps s3) : GFn P w K mg base k f fd ps s4 ∧ CFn P w K mg base k f fd ps s4 := by
  refine ⟨⟨fun vs H Q E h => ?_, fun A outer s H args us vs Q E hr e0 hb r h => ?_⟩, ⟨fun vs H Q E h => ?_, fun A outer s H args us vs Q E hr e0 hb r h => ?_⟩⟩
  · rcases i _ _ _ _ h with h | h | h
    · exact F1.1.len _ _ _ _ h
    · exact F2.1.len _ _ _ _ h
    · exact F3.1.len _ _ _ _ h
  · rcases i _ _ _ _ h with h | h | h
    · exact F1.1.run A outer s H args us vs Q E hr e0 hb r h
    · exact F2.1.run A outer s H args us vs Q E hr e0 hb r h
    · exact F3.1.run A outer s H args us vs Q E hr e0 hb r h
  · rcases i _ _ _ _ h with h | h | h
    · exact F1.2.len _ _ _ _ h
    · exact F2.2.len _ _ _ _ h
    · exact F3.2.len _ _ _ _ h
  · rcases i _ _ _ _ h with h | h | h
    · exact F1.2.run A outer s H args us vs Q E hr e0 hb r h
    · exact F2.2.run A outer s H args us vs Q E hr e0 hb r h
    · exact F3.2.run A outer s H args us vs Q E hr e0 hb r h
abbrev sSr : Stmt := top 30
theorem scSr : FnScope ["buyer", "travel", "spending"] ["buyer", "travel"] (defScope sSr) := ⟨rfl, rfl, rfl, by decide +kernel, rfl, by decide +kernel, by decide +kernel⟩
def spSrE (K : PySem.W.Frag) (CV cV : Addr) (B : BuyP) (I : By → List Int → Prop) : Sp := fun vs H Q E => ∃ (b tv : Addr) (g : Par) (os : List Int), vs = [.ref b, .ref tv] ∧ Deal K CV B I g os H b tv ∧ os ≠ [] ∧ ∀ dd H', Same H H' → H' dd = some (.xd [("index", .int 0), ("part", .str "exceptions")]) → E (.ref cV) (some dd) H'
abbrev sFr : Stmt := top 29
structure TFr (K : PySem.W.Frag) (mg : Str → Option Value) (fFr : Addr) (dFr : FuncData) : Prop where
  gFr : mg "fraction" = some (.ref fFr)
  kFr : PySem.W.keepIn K (.ref fFr) = true
  uFr : Fun K "fraction" "fraction" sFr fFr dFr
section
variable {P : Program} {w : World} {K : PySem.W.Frag} {mg : Str → Option Value} {base : Heap} {C D S CV cV cI cU cP cN fV fI fP pP fVN fRl pRl fRd pRd fEx pEx fSI fSd fTa fVC fFr : Addr} {mc mp : Value} {fdV fdP dVN dRl dRd dEx dSI dSd dTa dVC dFr : FuncData}
theorem ok_srE {f : Addr} {fd : FuncData} (F : Fun K "spent_per_round" "spent_per_round" sSr f fd) (SP : TSg K mg S) (T : TX K mg C cI cU cP fI mc mp) (TQ : TP K C fP pP fdP) (N : Kind P w K mg base C D)
    (TV : TTv K mg CV fVN dVN) (R : TPr K CV fRl pRl fRd pRd fEx pEx dRl dRd dEx) (EV : TEv K mg cV cP fV fdV mp) (Y : TSd K mg S fSI fSd fTa fVC cN dSI dSd dTa dVC) (Z : TFr K mg fFr dFr) : FnOk P w K mg base (L2.CX P w) 7 f fd ["buyer", "travel"] (spSrE K CV cV N.B N.I) := by
  have G1 : FnOk P w K mg base (L2.CX P w) 5 fSI dSI ["self", "buyer", "travel"] (spSpI K S CV cV N.B N.I) := ok_spI Y.uSI SP T TQ N TV R EV
  have bb1 : Binds K dSI ["self", "buyer", "travel"] [] := Y.uSI.binds (ps := ["self", "buyer", "travel"]) fun _ _ _ _ _ _ us hl => match us, hl with | [_, _, _], _ => rfl
  have bb2 : Binds K dFr ["numerator", "denominator"] [] := Z.uFr.binds (ps := ["numerator", "denominator"]) fun _ _ _ _ _ _ us hl => match us, hl with | [_, _], _ => rfl
  have GF : FnOk P w K mg base CX0 1 fFr dFr ["numerator", "denominator"] (fun _ _ _ _ => False) := ⟨fun _ _ _ _ h => h.elim, fun _ _ _ _ _ _ _ _ _ _ _ _ _ h => h.elim⟩
  refine F.okX scSr (fun vs H Q E h => ?_) (fun cdv A outer s H vs Q E hr h => ?_)
  · obtain ⟨b, tv, g, os, rfl, _⟩ := h
    rfl
  · obtain ⟨b, tv, g, os, rfl, dl, hn, q⟩ := h
    have PX : Passes (L2.CX P w) (cxOf (L2.CX P w) P w K mg base ["buyer", "travel", "spending"] "spent_per_round" (defScope sSr) f cdv A outer s H E) E := passes_call (takes_of rfl rfl rfl rfl) (fun _ _ _ _ h => h)
    refine ⟨_, pss_cons (ps_set (i := 2) scSr.nd rfl (.inl rfl) (pe_make (E := E) Y.mkS G1 hr (by rfl) SP.gS bb1 .nil PX (pa_cons (pv 0) (pa_cons (pv 1) pa_nil))))
      (pss_one (ps_ret (pe_call (E := E0) GF (hr.mono (by omega)) (by rfl) Z.gFr Z.kFr bb2 .nil pass0 (pa_cons (pe_op op_mul (pe_fld (pv 2) rfl) (pe_rl R TV (hr.mono (by omega)) (pv 1))) (pa_cons (pe_fld (pv 2) rfl) pa_nil))))), ?_⟩
    refine ⟨_, rfl, _, rfl, fun a dxa nx ndx _ => ?_⟩
    exact mkS_in N dl nx ndx (fun o => absurd o hn) fun _ => q
/-- all that spending and buyers are made of -/
structure TB3 (P : Program) (w : World) (K : PySem.W.Frag) (mg : Str → Option Value) (base : Heap) (C CV DF DT DS : Addr) where
  nF : Kind P w K mg base C DF
  nT : Kind P w K mg base C DT
  nS : Kind P w K mg base C DS
  hF : nF.B = FixB K C DF ∧ nF.I = IFix
  hT : nT.B = TurnB K C DT ∧ nT.I = ITn
  hS : nS.B = SwB K C DS ∧ nS.I = fun _ => MOk 28
theorem ok_sp3 {DF DT DS : Addr} {f : Addr} {fd : FuncData} (M : TB3 P w K mg base C CV DF DT DS) (F : Fun K "spend" "spend" sSpd f fd) (SP : TSg K mg S) (T : TX K mg C cI cU cP fI mc mp) (TQ : TP K C fP pP fdP)
    (TV : TTv K mg CV fVN dVN) (R : TPr K CV fRl pRl fRd pRd fEx pEx dRl dRd dEx) (EV : TEv K mg cV cP fV fdV mp) (Y : TSd K mg S fSI fSd fTa fVC cN dSI dSd dTa dVC) : FnOk P w K mg base (L2.CX P w) 7 f fd ["buyer", "travel", "count"] (spSp3 K C CV DF DT DS cV cN) := by
  refine fn_imp (fn_or (ok_spd F SP T TQ M.nF TV R EV Y) (fn_or (ok_spd F SP T TQ M.nT TV R EV Y) (ok_spd F SP T TQ M.nS TV R EV Y))) fun vs H Q E h => ?_
  obtain ⟨b, tv, c, g, os, e, dl, q⟩ := h
  rw [M.hF.1, M.hF.2, M.hT.1, M.hT.2, M.hS.1, M.hS.2]
  rcases dl with dl | dl | dl
  · exact .inl ⟨b, tv, c, g, os, e, dl, q⟩
  · exact .inr (.inl ⟨b, tv, c, g, os, e, dl, q⟩)
  · exact .inr (.inr ⟨b, tv, c, g, os, e, dl, q⟩)
theorem ok_sr3 {DF DT DS : Addr} {f : Addr} {fd : FuncData} (M : TB3 P w K mg base C CV DF DT DS) (F : Fun K "spent_per_round" "spent_per_round" sSr f fd) (SP : TSg K mg S) (T : TX K mg C cI cU cP fI mc mp) (TQ : TP K C fP pP fdP)
    (TV : TTv K mg CV fVN dVN) (R : TPr K CV fRl pRl fRd pRd fEx pEx dRl dRd dEx) (EV : TEv K mg cV cP fV fdV mp) (Y : TSd K mg S fSI fSd fTa fVC cN dSI dSd dTa dVC) (Z : TFr K mg fFr dFr) : FnOk P w K mg base (L2.CX P w) 7 f fd ["buyer", "travel"] (spSr3 K C CV DF DT DS cV) := by
  refine fn_imp (fn_or (ok_srE F SP T TQ M.nF TV R EV Y Z) (fn_or (ok_srE F SP T TQ M.nT TV R EV Y Z) (ok_srE F SP T TQ M.nS TV R EV Y Z))) fun vs H Q E h => ?_
  obtain ⟨b, tv, g, os, e, dl, q⟩ := h
  rw [M.hF.1, M.hF.2, M.hT.1, M.hT.2, M.hS.1, M.hS.2]
  rcases dl with dl | dl | dl
  · exact .inl ⟨b, tv, g, os, e, dl, q⟩
  · exact .inr (.inl ⟨b, tv, g, os, e, dl, q⟩)
  · exact .inr (.inr ⟨b, tv, g, os, e, dl, q⟩)
theorem ok_pu3 {DF DT DS : Addr} {f : Addr} {fd : FuncData} (M : TB3 P w K mg base C CV DF DT DS) (F : Fun K "purchases_of" "purchases_of" sPu f fd) (SP : TSg K mg S) (T : TX K mg C cI cU cP fI mc mp) (TQ : TP K C fP pP fdP)
    (TV : TTv K mg CV fVN dVN) (R : TPr K CV fRl pRl fRd pRd fEx pEx dRl dRd dEx) (EV : TEv K mg cV cP fV fdV mp) (Y : TSd K mg S fSI fSd fTa fVC cN dSI dSd dTa dVC) (Z : TPu K mg) :
    GFn P w K mg base 7 f fd ["buyer", "travel", "first", "last"] (spPu3 K C CV DF DT DS cV cN) ∧ CFn P w K mg base 7 f fd ["buyer", "travel", "first", "last"] (spPu3 K C CV DF DT DS cV cN) := by
  refine gfn_or (fun vs H Q E h => ?_) (ok_pu F SP T TQ M.nF TV R EV Y Z) (ok_pu F SP T TQ M.nT TV R EV Y Z) (ok_pu F SP T TQ M.nS TV R EV Y Z)
  obtain ⟨b, tv, fi, la, g, os, e, dl, q⟩ := h
  rw [M.hF.1, M.hF.2, M.hT.1, M.hT.2, M.hS.1, M.hS.2]
  rcases dl with dl | dl | dl
  · exact .inl ⟨b, tv, fi, la, g, os, e, dl, q⟩
  · exact .inr (.inl ⟨b, tv, fi, la, g, os, e, dl, q⟩)
  · exact .inr (.inr ⟨b, tv, fi, la, g, os, e, dl, q⟩)
end
end Sea

set_option Elab.async false
set_option linter.all false
set_option maxRecDepth 100000
set_option maxHeartbeats 4000000
/-! habits, and buyers made of them -/
namespace Sea
open PySem PySem.Spec PyProof.Rows L2 LamX NdefX ClX Evl StX
inductive Hab where
  | fix (i : Int)
  | turn (i j : Int)
  | sw (i j lim : Int)
def habL : Hab → List V
  | .fix i => [.str "fixed", .int i]
  | .turn i j => [.str "turn", .int i, .int j]
  | .sw i j l => [.str "switch", .int i, .int j, .int l]
def HbA (K : PySem.W.Frag) (H : Hp) (v : V) (hb : Hab) : Prop := ∃ a, v = .ref a ∧ SqT K H a (habL hb)
theorem HbA.tk {K : PySem.W.Frag} {H H' : Hp} {v : V} {hb : Hab} (t : TK K H H') (h : HbA K H v hb) : HbA K H' v hb := by
  obtain ⟨a, e, q⟩ := h
  exact ⟨a, e, t _ _ q⟩
/-- its indexes are below n, its limit in range -/
def HabIn (n : Int) : Hab → Prop
  | .fix i => 0 ≤ i ∧ i < n
  | .turn i j => (0 ≤ i ∧ i < n) ∧ 0 ≤ j ∧ j < n
  | .sw i j l => ((0 ≤ i ∧ i < n) ∧ 0 ≤ j ∧ j < n) ∧ 0 ≤ l ∧ l ≤ 1000000000
abbrev sHab : Stmt := top 39
abbrev NHb : List Str := ["_law_state", "_law_count", "_law_kind", "_law_one", "_law_other"]
theorem scHab : FnScope NHb ["_law_state", "_law_count"] (defScope sHab) := ⟨rfl, rfl, rfl, by decide +kernel, rfl, by decide +kernel, by decide +kernel⟩
def spHab (K : PySem.W.Frag) : Sp := fun vs H Q _ => ∃ (h c : Addr) (n : Int), vs = [.ref h, .int n] ∧ 0 < n ∧ n ≤ 100 ∧ Ds K H h c ∧ ∀ v hb H', HbA K H' v hb → HabIn n hb → Ds K H' h c → Kh h H H' → Q v H'
section
variable {P : Program} {w : World} {K : PySem.W.Frag} {mg : Str → Option Value} {base : Heap} {fD : Addr} {fdD : FuncData}
theorem ok_hab {f : Addr} {fd : FuncData} {k : Nat} (F : Fun K "_law_habit" "_law_habit" sHab f fd) (T : TDn K mg fD fdD) : FnOk P w K mg base CX0 (k + 2) f fd ["_law_state", "_law_count"] (spHab K) := by
  refine F.ok scHab (fun vs H Q E h => ?_) (fun cdv A outer s H vs Q E hr h => ?_)
  · obtain ⟨h, c, n, rfl, _⟩ := h
    rfl
  · obtain ⟨h, c, n, rfl, n0, n1, d, q⟩ := h
    have h1 := hr.mono (show 1 ≤ k + 1 by omega)
    have ltb : ∀ {n : Nat}, n ≤ 1000 → n ≤ sizeLine := fun h => Nat.le_of_lt (small1000 h)
    refine ⟨_, pss_cons (ps_par3 (i := 2) (j := 3) (l := 4) rfl scHab.nd rfl rfl rfl (by decide) (by decide) (by decide) rfl rfl rfl (pa_cons (pe_dr T h1 (by rfl) (pv 0) pe_int) (pa_cons (pe_dr T h1 (by rfl) (pv 0) (pv 1)) (pa_cons (pe_dr T h1 (by rfl) (pv 0) (pv 1)) pa_nil))) (by rfl))
      (pss_cons (ps_if (pt_cmpR op_eq (pv 2) pe_int (nomark _)) (pss_one (ps_ret (pe_tup (pa_cons pe_str (pa_cons (pv 3) pa_nil))))) pss_nil)
      (pss_cons (ps_if (pt_cmpR op_eq (pv 2) pe_int (nomark _)) (pss_one (ps_ret (pe_tup (pa_cons pe_str (pa_cons (pv 3) (pa_cons (pv 4) pa_nil)))))) pss_nil)
      (pss_one (ps_ret (pe_tup (pa_cons pe_str (pa_cons (pv 3) (pa_cons (pv 4) (pa_cons (pe_dr T h1 (by rfl) (pv 0) (pe_ixl (pe_lst (pa_cons pe_int (pa_cons pe_int (pa_cons (pe_op op_pow pe_int pe_int) pa_nil)))) (pe_dr T h1 (by rfl) (pv 0) pe_int))) pa_nil))))))))), ?_⟩
    have dr : ∀ {σ : L2.St} {H0 : Hp} {m : Int} {te : TE}, EvS K te σ H0 h c (fun v => v = m) → 0 < m → m ≤ 100 → σ[0]? = some (some (.ref h)) → EvS K (tCall (spDrawn K) [] E0 (tCons (tVar 0) (tCons te tNil))) σ H0 h c (fun v => 0 ≤ v ∧ v < m) := fun {σ H0 m te} e m0 m1 hs =>
      es_dr (P := fun v => 0 ≤ v ∧ v < m) hs e fun x e => by
        subst e
        exact ⟨m0, Nat.lt_of_le_of_lt (Nat.log2_le_self _) (by omega), fun v v0 v1 => ⟨v0, v1⟩⟩
    refine dr (m := 3) es_c (by decide) (by decide) rfl H Kh.refl d _ fun kd H1 hkd d1 k1 => dr (m := n) (es_var rfl) n0 n1 rfl H1 Kh.refl d1 _ fun a H2 ha d2 k2 => dr (m := n) (es_var rfl) n0 n1 rfl H2 Kh.refl d2 _ fun b H3 hb d3 k3 => ⟨_, _, _, rfl, ?_⟩
    have k123 := (k1.trans k2).trans k3
    refine q_when (b := decide (V.int kd = V.int 0)) (et_test (ev_op (ev_var rfl) ev_c (rv_eq rfl))) (fun _ H4 e4 => ?_) (fun _ H4 e4 => ?_)
    · refine ⟨_, rfl, ltb (show 2 ≤ 1000 by decide), fun r nr => ?_⟩
      exact q (.ref r) (.fix a) _ ⟨r, rfl, .of upd_same⟩ ha ((d3.same e4).new nr) ((k123.trans (Kh.same e4)).trans (Kh.same (same_new nr)))
    refine q_when (b := decide (V.int kd = V.int 1)) (et_test (ev_op (ev_var rfl) ev_c (rv_eq rfl))) (fun _ H5 e5 => ?_) (fun _ H5 e5 => ?_)
    · refine ⟨_, rfl, _, rfl, ltb (show 3 ≤ 1000 by decide), fun r nr => ?_⟩
      exact q (.ref r) (.turn a b) _ ⟨r, rfl, .of upd_same⟩ ⟨ha, hb⟩ (((d3.same e4).same e5).new nr) (((k123.trans (Kh.same e4)).trans (Kh.same e5)).trans (Kh.same (same_new nr)))
    · refine ⟨_, rfl, _, rfl, ?_⟩
      have d5 := (d3.same e4).same e5
      have eB : EvS K (tCall (spDrawn K) [] E0 (tCons (tVar 0) (tCons (tOp (rIxL K) (tLst (tCons (tC (.int 20)) (tCons (tC (.int 120)) (tCons (tOp rPw (tC (.int 10)) (tC (.int 6))) tNil)))) (tCall (spDrawn K) [] E0 (tCons (tVar 0) (tCons (tC (.int 3)) tNil)))) tNil))) [some (.ref h), some (.int n), some (.int kd), some (.int a), some (.int b)] H5 h c (fun v => 0 ≤ v ∧ v < 1000000) :=
        es_tab (a := 20) (b := 120) (d := 1000000) (P := fun v => 0 ≤ v ∧ v < 1000000) rfl (fun _ => el_lst (ea_cons ev_c (ea_cons ev_c (ea_cons (ev_pw ev_c ev_c ⟨by decide, by decide, by decide⟩) ea_nil))) (show 3 ≤ 100000 by decide)) fun x e => ⟨by omega, by rcases e with rfl | rfl | rfl <;> decide +kernel, fun v v0 v1 => ⟨v0, by omega⟩⟩
      refine eB H5 Kh.refl d5 _ fun l H6 hl d6 k6 => ⟨ltb (show 4 ≤ 1000 by decide), fun r nr => ?_⟩
      exact q (.ref r) (.sw a b l) _ ⟨r, rfl, .of upd_same⟩ ⟨⟨ha, hb⟩, hl.1, by have := hl.2; omega⟩ (d6.new nr) ((((k123.trans (Kh.same e4)).trans (Kh.same e5)).trans k6).trans (Kh.same (same_new nr)))
end
end Sea

set_option Elab.async false
set_option linter.all false
set_option maxRecDepth 100000
set_option maxHeartbeats 4000000
namespace Sea
open PySem PySem.Spec PyProof.Rows L2 LamX NdefX ClX Evl StX
section
variable {K : PySem.W.Frag} {C D cU cN : Addr} {H : Hp} {Q : VK} {E : XK} {t p x dx : Addr} {L : List (Int × Int)}
theorem born_ins (nx : H x = none) (ndx : H dx = none) : Same H (upd (upd H dx (.own x)) x (.ins D dx [])) := fun b u e => by
  rw [upd_ne (ne_of_none e nx), upd_ne (ne_of_none e ndx)]
  exact e
theorem KA.back {H1 H2 : Hp} (k : KA x H1 H2) (s : Same H H1) (nx : H x = none) : Same H H2 := fun b u e => k b u (s b u e) (ne_of_none e nx)
theorem fx_mk {i : Int} (ht : Tar K C H t p L) (nx : H x = none) (ndx : H dx = none) (q1 : InP L i → ∀ H', Same H H' → FixB K C D H' x L (byFix i) → H' x = some (.ins D dx (fxF t i)) → Q .non H') (q2 : ¬ InP L i → ∀ H', Same H H' → E (.ref cU) none H') :
    spFxI K C D cU [V.ref x, .ref t, .int i] (upd (upd H dx (.own x)) x (.ins D dx [])) Q E := by
  have s0 := born_ins (D := D) nx ndx
  refine ⟨x, dx, t, p, L, i, rfl, upd_same, ht.same s0, fun hi H' k e => ?_, fun hi H' k => q2 hi H' (k.back s0 nx)⟩
  exact q1 hi H' (k.back s0 nx) ⟨t, p, i, ⟨dx, e⟩, ht.same (k.back s0 nx), hi, rfl⟩ e
theorem sw_mk {i j lim : Int} (ht : Tar K C H t p L) (nx : H x = none) (ndx : H dx = none) (q1 : InP L i → InP L j → 0 ≤ lim ∧ lim ≤ 1000000000 → ∀ H', Same H H' → SwB K C D H' x L (bySw L i j lim) → H' x = some (.ins D dx (swF t i j lim)) → Q .non H')
    (q2 : ¬ (InP L i ∧ InP L j) → ∀ H', Same H H' → E (.ref cU) none H') (q3 : InP L i → InP L j → ¬ (0 ≤ lim ∧ lim ≤ 1000000000) → ∀ H', Same H H' → E (.ref cN) none H') :
    spSwI K C D cU cN [V.ref x, .ref t, .int i, .int j, .int lim] (upd (upd H dx (.own x)) x (.ins D dx [])) Q E := by
  have s0 := born_ins (D := D) nx ndx
  refine ⟨x, dx, t, p, L, i, j, lim, rfl, upd_same, ht.same s0, fun hi hj hl H' k e => ?_, fun hi H' k => q2 hi H' (k.back s0 nx), fun hi hj hl H' k => q3 hi hj hl H' (k.back s0 nx)⟩
  exact q1 hi hj hl H' (k.back s0 nx) ⟨t, p, i, j, lim, ⟨dx, e⟩, ht.same (k.back s0 nx), hi, hj, rfl⟩ e
theorem tn_mk {is : List Int} (hl : is.length ≤ 1000) (ht : Tar K C H t p L) (nx : H x = none) (ndx : H dx = none) (q1 : is ≠ [] → (∀ i ∈ is, InP L i) → ∀ sq H', Same H H' → TurnB K C D H' x L (byTurn is) → H' x = some (.ins D dx (tnF t (.ref sq))) → Q .non H')
    (q2 : is = [] → ∀ H', Same H H' → E (.ref cN) none H') (q3 : (∃ i ∈ is, ¬ InP L i) → ∀ H', Same H H' → E (.ref cU) none H') :
    (fun vs H Q E => ∃ ws rest, vs = ws ++ rest ∧ ws.length = (["self", "tariff"] : List Str).length ∧ rest.length ≤ sizeLine ∧ ∀ p, H p = Option.none → spTnI K C D cU cN (ws ++ [V.ref p]) (upd H p (.tup rest)) Q E) (V.ref x :: V.ref t :: is.map V.int) (upd (upd H dx (.own x)) x (.ins D dx [])) Q E := by
  have s0 := born_ins (D := D) nx ndx
  refine ⟨[.ref x, .ref t], is.map V.int, rfl, rfl, Nat.le_of_lt (small1000 (by rw [List.length_map]; exact hl)), fun sq nsq => ?_⟩
  have s1 : Same H (upd (upd (upd H dx (.own x)) x (.ins D dx [])) sq (.tup (is.map V.int))) := s0.trans (same_new nsq)
  have hx : (upd (upd (upd H dx (.own x)) x (.ins D dx [])) sq (.tup (is.map V.int))) x = some (.ins D dx []) := same_new nsq _ _ upd_same
  refine ⟨x, dx, t, p, sq, L, is, rfl, hx, ht.same s1, .of upd_same, hl, fun n0 hi H' k e => ?_, fun n0 H' k => q2 n0 H' (k.back s1 nx), fun n0 H' k => q3 n0 H' (k.back s1 nx)⟩
  have sm := k.back s1 nx
  exact q1 n0 hi sq H' sm ⟨t, p, sq, is, ⟨dx, e⟩, ht.same sm, (k.tk hx) _ _ (.of upd_same), n0, hl, hi, rfl⟩ e
end
/-- the classes, as they are made -/
structure TMb (P : Program) (K : PySem.W.Frag) (mg : Str → Option Value) (DF DT DS fFx fTn fSw fBy : Addr) (dFx dTn dSw dBy : FuncData) (md : Value) : Prop where
  mkF : Mk K DF fFx
  mkT : Mk K DT fTn
  mkS : Mk K DS fSw
  gF : mg "FixedBuyer" = some (.ref DF)
  gT : mg "TurnBuyer" = some (.ref DT)
  gS : mg "SwitchBuyer" = some (.ref DS)
  uF : ∃ cc cda, FunC K "__init__" "FixedBuyer.__init__" sFxI cc cda fFx dFx ∧ SupT P K mg DF cc cda fBy "__init__"
  uT : ∃ cc cda, FunC K "__init__" "TurnBuyer.__init__" sTnI cc cda fTn dTn ∧ SupT P K mg DT cc cda fBy "__init__"
  uS : ∃ cc cda, FunC K "__init__" "SwitchBuyer.__init__" sSwI cc cda fSw dSw ∧ SupT P K mg DS cc cda fBy "__init__"
  uB : Fun K "__init__" "Buyer.__init__" sByI fBy dBy
  cr : CRead K DS md
  vM : ∃ u, CVal K DS md "MAX_LIMIT" (.int 1000000000) u
theorem kb_sw {K : PySem.W.Frag} {cc cda f : Addr} {fd : FuncData} (F : FunC K "__init__" "SwitchBuyer.__init__" sSwI cc cda f fd) : KBn K fd ["self", "tariff", "short", "long", "limit"] 4 ["limit"] (fun us ws => us ++ ws) (fun vs zs => vs ++ zs) := by
  obtain ⟨oc, od, kV, doc, pm, an, ct, osl, rfl, lk⟩ := F.ex
  refine ⟨fun s us ws _ h1 h2 => ?_, fun a b => a.append b⟩
  match us, ws, h1, h2 with
  | [u, v, x, z], [y], _, _ => exact .of_eq rfl
theorem b_fx {K : PySem.W.Frag} {cc cda f : Addr} {fd : FuncData} (F : FunC K "__init__" "FixedBuyer.__init__" sFxI cc cda f fd) : Binds K fd ["self", "tariff", "index"] [] := by
  obtain ⟨oc, od, kV, doc, pm, an, ct, osl, rfl, lk⟩ := F.ex
  exact .all fun us hl => match us, hl with | [_, _, _], _ => rfl
abbrev sBuy : Stmt := top 40
theorem scBuy : FnScope ["_law_tariff_here", "_law_habit_here"] ["_law_tariff_here", "_law_habit_here"] (defScope sBuy) := ⟨rfl, rfl, rfl, by decide +kernel, rfl, by decide +kernel, by decide +kernel⟩
/-- the buyer with a habit, as it stands: its class, its tariff -/
def BuyAt (K : PySem.W.Frag) (C DF DT DS : Addr) (H : Hp) (a t : Addr) (L : List (Int × Int)) : Hab → Prop
  | .fix i => FixB K C DF H a L (byFix i) ∧ ∃ dx, H a = some (.ins DF dx (fxF t i))
  | .turn i j => TurnB K C DT H a L (byTurn [i, j]) ∧ ∃ dx sq, H a = some (.ins DT dx (tnF t (.ref sq)))
  | .sw i j l => SwB K C DS H a L (bySw L i j l) ∧ ∃ dx, H a = some (.ins DS dx (swF t i j l))
theorem BuyAt.same {K : PySem.W.Frag} {C DF DT DS : Addr} {H H' : Hp} {a t : Addr} {L : List (Int × Int)} : ∀ {hb : Hab}, BuyAt K C DF DT DS H a t L hb → Same H H' → BuyAt K C DF DT DS H' a t L hb
  | .fix _, ⟨h, dx, e⟩, s => ⟨h.same s, dx, s _ _ e⟩
  | .turn _ _, ⟨h, dx, sq, e⟩, s => ⟨h.same s, dx, sq, s _ _ e⟩
  | .sw _ _ _, ⟨h, dx, e⟩, s => ⟨h.same s, dx, s _ _ e⟩
def spBuy (K : PySem.W.Frag) (C DF DT DS : Addr) : Sp := fun vs H Q _ => ∃ (t p : Addr) (v : V) (L : List (Int × Int)) (hb : Hab), vs = [.ref t, v] ∧ Tar K C H t p L ∧ HbA K H v hb ∧ HabIn L.length hb ∧ ∀ a H', Same H H' → BuyAt K C DF DT DS H' a t L hb → Q (.ref a) H'
section
variable {P : Program} {w : World} {K : PySem.W.Frag} {mg : Str → Option Value} {base : Heap} {C cI cU cP cN fI fP pP fVP fVC DF DT DS fFx fTn fSw fBy : Addr} {mc mp md : Value} {fdP dVP dVC dFx dTn dSw dBy : FuncData}
theorem ok_buy {f : Addr} {fd : FuncData} (F : Fun K "_law_buyer" "_law_buyer" sBuy f fd) (M : TMb P K mg DF DT DS fFx fTn fSw fBy dFx dTn dSw dBy md) (T : TX K mg C cI cU cP fI mc mp) (TQ : TP K C fP pP fdP) (W : TVl K mg fVP fVC cN dVP dVC) (Z : TNm K mg DF DT DS) :
    FnOk P w K mg base CX0 7 f fd ["_law_tariff_here", "_law_habit_here"] (spBuy K C DF DT DS) := by
  obtain ⟨c1, d1, uF, sF⟩ := M.uF
  obtain ⟨c2, d2, uT, sT⟩ := M.uT
  obtain ⟨c3, d3, uS, sS⟩ := M.uS
  refine F.ok scBuy (fun vs H Q E h => ?_) (fun cdv A outer s H vs Q E hr h => ?_)
  · obtain ⟨t, p, v, L, hb, rfl, _⟩ := h
    rfl
  · obtain ⟨t, p, v, L, hb, rfl, ht, ⟨a, rfl, ha⟩, hin, q⟩ := h
    refine ⟨_, pss_cons (ps_if (pt_cmpR op_eq (pe_ixt (pv 1) pe_int) pe_str (nomark _)) (pss_one (ps_ret (pe_make (E := E0) M.mkF (ok_fxI uF sF M.uB T TQ W Z.cF Z.fO Z.fF) hr (by rfl) M.gF (b_fx uF) .nil passL (pa_cons (pv 0) (pa_cons (pe_ixt (pv 1) pe_int) pa_nil))))) pss_nil)
      (pss_cons (ps_if (pt_cmpR op_eq (pe_ixt (pv 1) pe_int) pe_str (nomark _)) (pss_one (ps_ret (pe_makeR (E := E0) M.mkT (ok_tnI uT sT M.uB T TQ W Z.cT Z.tO Z.tS) hr (by rfl) M.gT passL (pa_cons (pv 0) (pa_cons (pe_ixt (pv 1) pe_int) (pa_cons (pe_ixt (pv 1) pe_int) pa_nil)))))) pss_nil)
      (pss_one (ps_ret (pe_makeK (E := E0) M.mkS (ok_swI uS sS M.uB T TQ W Z.cS Z.sO Z.sS Z.sL Z.sM M.gS M.cr M.vM) hr (by rfl) M.gS (kb_sw uS) passL (pa_cons (pv 0) (pa_cons (pe_ixt (pv 1) pe_int) (pa_cons (pe_ixt (pv 1) pe_int) pa_nil))) (pk_cons (pe_ixt (pv 1) pe_int) pk_nil))))), ?_⟩
    have h0 : ∀ {H1 : Hp} {k : Str}, Ex H H1 → (habL hb)[0]? = some (.str k) → ∀ k2 : Str, EvT (tTest (tOp rEq (tOp (rIxT K) (tVar 1) (tC (.int 0))) (tC (.str k2)))) [some (.ref t), some (.ref a)] H1 (decide (V.str k = V.str k2)) := fun {H1 k} e hk k2 => et_test (ev_op (ev_op (ev_var rfl) ev_c (rv_ixT (ex_t e ha) (at_nat (i := 0) (List.getElem?_eq_some_iff.mp hk).1 hk))) ev_c (rv_eq rfl))
    have ix : ∀ {H1 : Hp} {k : Nat} {z : V}, Ex H H1 → (habL hb)[k]? = some z → Ev (tOp (rIxT K) (tVar 1) (tC (.int (k : Int)))) [some (.ref t), some (.ref a)] H1 z := fun {H1 k z} e hk => ev_op (ev_var rfl) ev_c (rv_ixT (ex_t e ha) (at_nat (List.getElem?_eq_some_iff.mp hk).1 hk))
    cases hb with
    | fix i =>
      refine q_when (b := decide (V.str "fixed" = V.str "fixed")) (h0 (Ex.refl _) rfl "fixed") (fun _ H1 e1 => ?_) (fun z => absurd z (by decide +kernel))
      refine ⟨_, rfl, ix (k := 1) e1 rfl H1 (Ex.refl _) _ fun H2 e2 => fun x dx nx ndx _ => ?_⟩
      have s2 := Same.trans e1 e2
      refine fx_mk (ht.same s2) nx ndx (fun _ H3 s3 b e => ⟨rfl, q x H3 (Same.trans s2 s3) ⟨b, dx, e⟩⟩) (fun n => absurd hin n)
    | turn i j =>
      refine q_when (b := decide (V.str "turn" = V.str "fixed")) (h0 (Ex.refl _) rfl "fixed") (fun z => absurd z (by decide +kernel)) (fun _ H1 e1 => ?_)
      refine q_when (b := decide (V.str "turn" = V.str "turn")) (h0 e1 rfl "turn") (fun _ H2 e2 => ?_) (fun z => absurd z (by decide +kernel))
      have s2 := Same.trans e1 e2
      refine ⟨_, rfl, ix (k := 1) s2 rfl H2 (Ex.refl _) _ fun H3 e3 => ix (k := 2) (Same.trans s2 e3) rfl H3 (Ex.refl _) _ fun H4 e4 => fun x dx nx ndx _ => ?_⟩
      have s4 := Same.trans (Same.trans s2 e3) e4
      refine tn_mk (is := [i, j]) (show 2 ≤ 1000 by decide) (ht.same s4) nx ndx (fun _ _ sq H5 s5 b e => ⟨rfl, q x H5 (Same.trans s4 s5) ⟨b, dx, sq, e⟩⟩) (fun n => nomatch n) (fun ⟨z, hz, n⟩ => ?_)
      rcases List.mem_cons.mp hz with rfl | hz
      · exact absurd hin.1 n
      · rw [List.mem_singleton.mp hz] at n
        exact absurd hin.2 n
    | sw i j l =>
      refine q_when (b := decide (V.str "switch" = V.str "fixed")) (h0 (Ex.refl _) rfl "fixed") (fun z => absurd z (by decide +kernel)) (fun _ H1 e1 => ?_)
      refine q_when (b := decide (V.str "switch" = V.str "turn")) (h0 e1 rfl "turn") (fun z => absurd z (by decide +kernel)) (fun _ H2 e2 => ?_)
      have s2 := Same.trans e1 e2
      refine ⟨_, rfl, ix (k := 1) s2 rfl H2 (Ex.refl _) _ fun H3 e3 => ix (k := 2) (Same.trans s2 e3) rfl H3 (Ex.refl _) _ fun H4 e4 => ix (k := 3) (Same.trans (Same.trans s2 e3) e4) rfl H4 (Ex.refl _) _ fun H5 e5 => ⟨rfl, rfl, fun x dx nx ndx _ => ?_⟩⟩
      have s5 := Same.trans (Same.trans (Same.trans s2 e3) e4) e5
      exact sw_mk (ht.same s5) nx ndx (fun _ _ _ H6 s6 b e => ⟨rfl, q x H6 (Same.trans s5 s6) ⟨b, dx, e⟩⟩) (fun n => absurd hin.1 n) (fun _ _ n => absurd hin.2 n)
end
end Sea

set_option Elab.async false
set_option linter.all false
set_option maxRecDepth 100000
set_option maxHeartbeats 4000000
/-! the law's own simulation, in plain words -/
namespace Sea
open PySem PySem.Spec PyProof.Rows L2 LamX NdefX ClX Evl StX
/-- a purchase as the law notes it: the day, the index, whether the long pass was bought by a buyer with limits -/
abbrev Row := Int × Int × Bool
def byOf (L : List (Int × Int)) : Hab → By
  | .fix i => byFix i
  | .turn i j => byTurn [i, j]
  | .sw i j l => bySw L i j l
def flg (L : List (Int × Int)) : Hab → List Int → Bool
  | .sw i _ l, m => decide (l < ((m.length : Int) + 1) * (pas L i).2)
  | _, _ => false
def rows (g : Par) (fl : List Int → Bool) (n : Nat) : List Row := (List.range n).filterMap fun d => (bat g d).map fun i => ((d : Int), i, fl (sim g d).2.1)
section
variable {g : Par} {fl : List Int → Bool}
theorem rows_none {d : Nat} (h : bat g d = none) : rows g fl (d + 1) = rows g fl d := by
  unfold rows
  rw [List.range_succ, List.filterMap_append, List.filterMap_cons_none (by rw [h]; rfl)]
  exact List.append_nil _
theorem rows_some {d : Nat} {i : Int} (h : bat g d = some i) : rows g fl (d + 1) = rows g fl d ++ [((d : Int), i, fl (sim g d).2.1)] := by
  unfold rows
  rw [List.range_succ, List.filterMap_append, List.filterMap_cons_some (by rw [h]; rfl)]
  rfl
theorem bat_yes {d : Nat} (h : (sim g d).1 = 0 ∧ goes g d = true) : bat g d = some (g.b.ch (sim g d).2.1).1 := if_pos h
theorem bat_no {d : Nat} (h : ¬ ((sim g d).1 = 0 ∧ goes g d = true)) : bat g d = none := if_neg h
theorem rows_len (n : Nat) : (rows g fl n).length ≤ n := Nat.le_trans (List.length_filterMap_le ..) (Nat.le_of_eq List.length_range)
/-- the days of purchases go up -/
theorem rows_day : ∀ (d k : Nat) (r : Row), (rows g fl d)[k]? = some r → r.1 + (((rows g fl d).length - k : Nat) : Int) ≤ (d : Int)
  | 0, k, r, h => by
    have : (rows g fl 0)[k]? = none := rfl
    rw [this] at h
    cases h
  | d + 1, k, r, h => by
    cases e : bat g d with
    | none =>
      rw [rows_none e] at h ⊢
      have := rows_day d k r h
      omega
    | some i =>
      rw [rows_some e] at h ⊢
      rw [List.length_append, List.length_singleton]
      by_cases hk : k < (rows g fl d).length
      · rw [List.getElem?_append_left hk] at h
        have := rows_day d k r h
        omega
      · rw [List.getElem?_append_right (by omega)] at h
        have e0 : k - (rows g fl d).length = 0 := by
          have := (List.getElem?_eq_some_iff.mp h).1
          rw [List.length_singleton] at this
          omega
        rw [e0] at h
        cases h
        show (d : Int) + (((rows g fl d).length + 1 - k : Nat) : Int) ≤ ((d + 1 : Nat) : Int)
        omega
/-- until when the pass lasts -/
def unt (g : Par) : Nat → Int
  | 0 => 0
  | d + 1 => match bat g d with
    | some i => d + (pas g.L i).1
    | none => unt g d
theorem unt_ok : ∀ d, (sim g d).1 = max0 (unt g d - d)
  | 0 => rfl
  | d + 1 => by
    have ih := unt_ok d
    show max0 ((pre g d (sim g d)).1 - 1) = max0 ((match bat g d with
      | some i => (d : Int) + (pas g.L i).1
      | none => unt g d) - ((d + 1 : Nat) : Int))
    by_cases c : (sim g d).1 = 0 ∧ goes g d = true
    · rw [pre_yes c, bat_yes c]
      show max0 ((pas g.L (g.b.ch (sim g d).2.1).1).1 - 1) = max0 ((d : Int) + (pas g.L (g.b.ch (sim g d).2.1).1).1 - ((d + 1 : Nat) : Int))
      congr 1
      omega
    · rw [pre_no c, bat_no c, ih]
      show max0 (max0 (unt g d - d) - 1) = max0 (unt g d - ((d + 1 : Nat) : Int))
      unfold max0
      split <;> split <;> split <;> omega
theorem unt_free {d : Nat} : (sim g d).1 = 0 ↔ unt g d ≤ d := by
  rw [unt_ok d]
  unfold max0
  split <;> omega
end
/-! ### the memory, as the rows tell it -/
def memR (d y : Int) : List Row → List Int
  | [] => []
  | r :: rest => if (r :: rest).all (fun x => !x.2.2) = true ∧ d - r.1 < y then (d - r.1) :: memR d y rest else memR d y rest
theorem memR_yes {d y : Int} {r : Row} {rest : List Row} (h : (r :: rest).all (fun x => !x.2.2) = true ∧ d - r.1 < y) : memR d y (r :: rest) = (d - r.1) :: memR d y rest := if_pos h
theorem memR_no {d y : Int} {r : Row} {rest : List Row} (h : ¬ ((r :: rest).all (fun x => !x.2.2) = true ∧ d - r.1 < y)) : memR d y (r :: rest) = memR d y rest := if_neg h
theorem grM_cons {ll z : Int} {m : List Int} : grM ll (z :: m) = (if z + 1 < ll then [z + 1] else []) ++ grM ll m := by
  unfold grM
  by_cases h : z + 1 < ll
  · rw [if_pos h, List.filter_cons_of_pos (p := fun x => decide (x + 1 < ll)) (by exact decide_eq_true h)]
    rfl
  · rw [if_neg h, List.filter_cons_of_neg (p := fun x => decide (x + 1 < ll)) (by rw [decide_eq_false h]; decide)]
    rfl
theorem memR_age {d y : Int} : ∀ rs, memR (d + 1) y rs = grM y (memR d y rs)
  | [] => rfl
  | r :: rest => by
    have ih := memR_age (d := d) (y := y) rest
    by_cases a : (r :: rest).all (fun x => !x.2.2) = true
    · by_cases h : d - r.1 < y
      · rw [memR_yes ⟨a, h⟩, grM_cons]
        by_cases h2 : d + 1 - r.1 < y
        · rw [memR_yes ⟨a, h2⟩, if_pos (by omega), ih]
          show _ = (d - r.1 + 1) :: _
          congr 1
          omega
        · rw [memR_no fun z => h2 z.2, if_neg (by omega), ih]
          rfl
      · rw [memR_no fun z => h z.2, memR_no fun z => h (by omega), ih]
    · rw [memR_no fun z => a z.1, memR_no fun z => a z.1, ih]
theorem memR_short {d y : Int} {i : Int} (h : 0 < y) : ∀ rs, memR d y (rs ++ [(d, i, false)]) = memR d y rs ++ [0]
  | [] => by
    rw [List.nil_append, memR_yes ⟨rfl, by show d - d < y; omega⟩]
    show (d - d) :: [] = [0]
    rw [Int.sub_self]
  | r :: rest => by
    have ih := memR_short (d := d) (i := i) h rest
    have e : (r :: (rest ++ [(d, i, false)])).all (fun x => !x.2.2) = (r :: rest).all (fun x => !x.2.2) := by
      rw [List.all_cons, List.all_cons, List.all_append]
      simp
    rw [List.cons_append]
    by_cases c : (r :: rest).all (fun x => !x.2.2) = true ∧ d - r.1 < y
    · rw [memR_yes c, memR_yes (by rw [e]; exact c), ih]
      rfl
    · rw [memR_no c, memR_no (by rw [e]; exact c), ih]
theorem memR_long {d y : Int} {i : Int} : ∀ rs, memR d y (rs ++ [(d, i, true)]) = []
  | [] => by
    rw [List.nil_append, memR_no (fun h => by cases h.1)]
    rfl
  | r :: rest => by
    rw [List.cons_append, memR_no fun h => ?_, memR_long rest]
    have := h.1
    rw [List.all_cons, List.all_append] at this
    simp at this
theorem memR_old {d y : Int} {back : List Row} : ∀ front : List Row, (∀ r ∈ front, y ≤ d - r.1) → memR d y (front ++ back) = memR d y back
  | [], _ => rfl
  | r :: rest, h => by
    have := h r List.mem_cons_self
    rw [List.cons_append, memR_no fun z => by have := z.2; omega]
    exact memR_old rest fun x hx => h x (List.mem_cons_of_mem _ hx)
section
variable {g : Par} {i j l : Int}
theorem chI_flg (L : List (Int × Int)) (i j l : Int) (m : List Int) : (bySw L i j l).ch m = if flg L (.sw i j l) m = true then (j, []) else (i, m ++ [0]) := by
  show chI i j (pas L i).2 l m = _
  unfold chI chM flg
  by_cases h : l < ((m.length : Int) + 1) * (pas L i).2
  · rw [if_pos h, if_pos (decide_eq_true h)]
  · rw [if_neg h, if_neg (show ¬ decide (l < ((m.length : Int) + 1) * (pas L i).2) = true from fun z => h (of_decide_eq_true z))]
theorem sw_mem (e : g.b = bySw g.L i j l) (y0 : 0 < (pas g.L j).1) : ∀ d, (sim g d).2.1 = memR d (pas g.L j).1 (rows g (flg g.L (.sw i j l)) d)
  | 0 => by
    show g.b.beg = _
    rw [e]
    rfl
  | d + 1 => by
    have ih := sw_mem e y0 d
    have eg : g.b.gr = grM (pas g.L j).1 := by rw [e]; rfl
    show g.b.gr (pre g d (sim g d)).2.1 = _
    rw [eg, show ((d + 1 : Nat) : Int) = (d : Int) + 1 by omega, memR_age]
    by_cases c : (sim g d).1 = 0 ∧ goes g d = true
    · rw [pre_yes c, rows_some (bat_yes c)]
      show grM _ (g.b.ch (sim g d).2.1).2 = _
      have ec : g.b.ch (sim g d).2.1 = if flg g.L (.sw i j l) (sim g d).2.1 = true then (j, []) else (i, (sim g d).2.1 ++ [0]) := by
        rw [e]
        exact chI_flg g.L i j l _
      cases hf : flg g.L (.sw i j l) (sim g d).2.1 with
      | true =>
        rw [memR_long, ec, if_pos hf]
      | false =>
        rw [memR_short y0, ec, if_neg (by rw [hf]; decide), ← ih]
    · rw [pre_no c, rows_none (bat_no c), ← ih]
/-- the last 28 rows tell as much as all of them -/
theorem memR_28 {fl : List Int → Bool} {d : Nat} {y : Int} (h : y ≤ 28) : memR d y ((rows g fl d).drop ((rows g fl d).length - 28)) = memR d y (rows g fl d) := by
  conv => rhs; rw [← List.take_append_drop ((rows g fl d).length - 28) (rows g fl d)]
  rw [memR_old]
  intro r hr
  obtain ⟨k, hk, e⟩ := List.getElem_of_mem hr
  have hk2 : k < (rows g fl d).length - 28 := by
    rw [List.length_take] at hk
    omega
  have at_ : (rows g fl d)[k]? = some r := by
    rw [List.getElem_take] at e
    rw [List.getElem?_eq_getElem (by omega), e]
  have := rows_day d k r at_
  omega
theorem turn_mem (e : g.b = byTurn [i, j]) (fl : List Int → Bool) : ∀ d, (sim g d).2.1 = [(((rows g fl d).length % 2 : Nat) : Int)]
  | 0 => by
    show g.b.beg = _
    rw [e]
    rfl
  | d + 1 => by
    have ih := turn_mem e fl d
    have eg : g.b.gr = id := by rw [e]; rfl
    show g.b.gr (pre g d (sim g d)).2.1 = _
    rw [eg]
    show (pre g d (sim g d)).2.1 = _
    by_cases c : (sim g d).1 = 0 ∧ goes g d = true
    · rw [pre_yes c, rows_some (bat_yes c), List.length_append, List.length_singleton]
      show (g.b.ch (sim g d).2.1).2 = _
      rw [e, ih]
      show [((((rows g fl d).length % 2 : Nat) : Int) + 1).fmod 2] = _
      rw [Int.fmod_eq_emod_of_nonneg _ (by decide)]
      congr 1
      omega
    · rw [pre_no c, rows_none (bat_no c)]
      exact ih
theorem fix_mem (e : g.b = byFix i) : ∀ d, (sim g d).2.1 = []
  | 0 => by
    show g.b.beg = _
    rw [e]
    rfl
  | d + 1 => by
    have ih := fix_mem e d
    have eg : g.b.gr = id := by rw [e]; rfl
    show g.b.gr (pre g d (sim g d)).2.1 = _
    rw [eg]
    show (pre g d (sim g d)).2.1 = _
    by_cases c : (sim g d).1 = 0 ∧ goes g d = true
    · rw [pre_yes c]
      show (g.b.ch (sim g d).2.1).2 = _
      rw [e]
      exact ih
    · rw [pre_no c]
      exact ih
/-- what the law expects of purchases_of -/
theorem rows_pus {fl : List Int → Bool} {fi la : Nat} (h : fi ≤ la) : ∀ n, ((rows g fl n).filter fun r => decide ((fi : Int) ≤ r.1) && decide (r.1 ≤ (la : Int))).map (fun r => (r.1, r.2.1)) = pus g fi (min n (la + 1) - fi)
  | 0 => by
    rw [Nat.zero_min, Nat.zero_sub]
    rfl
  | n + 1 => by
    have ih := rows_pus (fl := fl) h n
    have key : ∀ i, bat g n = some i → ((rows g fl (n + 1)).filter fun r => decide ((fi : Int) ≤ r.1) && decide (r.1 ≤ (la : Int))).map (fun r => (r.1, r.2.1)) = pus g fi (min n (la + 1) - fi) ++ (if fi ≤ n ∧ n ≤ la then [((n : Int), i)] else []) := fun i e => by
      rw [rows_some e, List.filter_append, List.map_append, ih]
      congr 1
      by_cases c : fi ≤ n ∧ n ≤ la
      · rw [if_pos c, List.filter_cons_of_pos (by show (decide ((fi : Int) ≤ (n : Int)) && decide ((n : Int) ≤ (la : Int))) = true; rw [decide_eq_true (by omega), decide_eq_true (by omega)]; rfl)]
        rfl
      · rw [if_neg c, List.filter_cons_of_neg (by
          show ¬ (decide ((fi : Int) ≤ (n : Int)) && decide ((n : Int) ≤ (la : Int))) = true
          rw [Bool.and_eq_true, decide_eq_true_eq, decide_eq_true_eq]
          omega)]
        rfl
    by_cases c : fi ≤ n ∧ n ≤ la
    · have e1 : min (n + 1) (la + 1) - fi = (n - fi) + 1 := by omega
      have e2 : min n (la + 1) - fi = n - fi := by omega
      rw [e1, pus_succ, show fi + (n - fi) = n by omega]
      cases e : bat g n with
      | none =>
        rw [rows_none e, ih, e2]
        exact (List.append_nil _).symm
      | some i => rw [key i e, if_pos c, e2]
    · have e1 : min (n + 1) (la + 1) - fi = min n (la + 1) - fi := by omega
      rw [e1]
      cases e : bat g n with
      | none => rw [rows_none e, ih]
      | some i => rw [key i e, if_neg c, List.append_nil]
end
end Sea

set_option Elab.async false
set_option linter.all false
set_option maxRecDepth 100000
set_option maxHeartbeats 4000000
/-! _law_is_long -/
namespace Sea
open PySem PySem.Spec PyProof.Rows L2 LamX NdefX ClX Evl StX
def RwV (K : PySem.W.Frag) (H : Hp) (v : V) (r : Row) : Prop := ∃ a, v = .ref a ∧ SqT K H a [.int r.1, .int r.2.1, .bl r.2.2]
inductive RwsV (K : PySem.W.Frag) (H : Hp) : List V → List Row → Prop
  | nil : RwsV K H [] []
  | cons {v : V} {x : Row} {vs : List V} {L : List Row} : RwV K H v x → RwsV K H vs L → RwsV K H (v :: vs) (x :: L)
def rwD (r : Row) : PyData := .tuple [.int r.1, .int r.2.1, .bool r.2.2]
section
variable {K : PySem.W.Frag} {H H' : Hp} {vs ws : List V} {L M : List Row}
theorem RwV.tk {v : V} {r : Row} (t : TK K H H') (h : RwV K H v r) : RwV K H' v r := by
  obtain ⟨a, e, q⟩ := h
  exact ⟨a, e, t _ _ q⟩
theorem RwsV.tk (t : TK K H H') (h : RwsV K H vs L) : RwsV K H' vs L := by
  induction h with
  | nil => exact .nil
  | cons a _ ih => exact .cons (a.tk t) ih
theorem RwsV.len (h : RwsV K H vs L) : vs.length = L.length := by
  induction h with
  | nil => rfl
  | cons _ _ ih => rw [List.length_cons, List.length_cons, ih]
theorem RwsV.app (h : RwsV K H vs L) (g : RwsV K H ws M) : RwsV K H (vs ++ ws) (L ++ M) := by
  induction h with
  | nil => exact g
  | cons a _ ih => exact .cons a ih
theorem RwsV.get (h : RwsV K H vs L) : ∀ {i : Nat} {v : V}, vs[i]? = some v → ∃ r, L[i]? = some r ∧ RwV K H v r := by
  induction h with
  | nil =>
    intro i v e
    cases e
  | cons a _ ih =>
    intro i v e
    cases i with
    | zero =>
      cases e
      exact ⟨_, rfl, a⟩
    | succ i => exact ih e
theorem RwsV.drop (h : RwsV K H vs L) : ∀ n, RwsV K H (vs.drop n) (L.drop n) := by
  induction h with
  | nil =>
    intro n
    rw [List.drop_nil, List.drop_nil]
    exact .nil
  | cons a b ih =>
    intro n
    cases n with
    | zero => exact .cons a b
    | succ n => exact ih n
theorem RwsV.dp (h : RwsV K H vs L) : DpAll K H vs (L.map rwD) := by
  induction h with
  | nil => exact .nil
  | cons a _ ih =>
    obtain ⟨b, rfl, q⟩ := a
    exact .cons (.tup q (.cons (.int _) (.cons (.int _) (.cons (.bl _) .nil)))) ih
/-- those of the long pass -/
theorem RwsV.given (h : RwsV K H vs L) : ∀ n, n ≤ vs.length → RwsV K H (Evl.given n (fun i => (L.getD i (0, 0, false)).2.2) (fun i => vs.getD i .non)) ((L.take n).filter (·.2.2))
  | 0, _ => .nil
  | n + 1, hn => by
    have hl := h.len
    have at_ : vs[n]? = some vs[n] := List.getElem?_eq_getElem (by omega)
    obtain ⟨r, hr, hv⟩ := h.get at_
    have gd : vs.getD n .non = vs[n] := by rw [List.getD_eq_getElem?_getD, at_]; rfl
    have gr : L.getD n (0, 0, false) = r := by rw [List.getD_eq_getElem?_getD, hr]; rfl
    have tk : L.take (n + 1) = L.take n ++ [r] := take_snoc hr
    have ih := h.given n (by omega)
    rw [tk, List.filter_append]
    cases e : r.2.2 with
    | true =>
      rw [given_yes (by rw [gr, e]), gd, List.filter_cons_of_pos (p := fun x : Row => x.2.2) e]
      exact ih.app (.cons hv .nil)
    | false =>
      rw [given_no (by rw [gr, e]), List.filter_cons_of_neg (p := fun x : Row => x.2.2) (by rw [e]; decide), List.filter_nil, List.append_nil]
      exact ih
end
theorem rwD_lay : ∀ L : List Row, PyData.canLayAll0 (L.map rwD) = true
  | [] => rfl
  | x :: L => by
    show (PyData.canLay0 (rwD x) && PyData.canLayAll0 (L.map rwD)) = true
    rw [rwD_lay L]
    rfl
theorem rwD_dep : ∀ L : List Row, PyData.depthAll (L.map rwD) ≤ 1
  | [] => by decide
  | x :: L => by
    have := rwD_dep L
    show max (PyData.depth (rwD x)) (PyData.depthAll (L.map rwD)) ≤ 1
    have e : PyData.depth (rwD x) = 1 := rfl
    omega
theorem rwD_sh (L : List Row) : SeqAt.shaped (.list (L.map rwD)) = true := by
  show (PyData.canLayAll0 (L.map rwD) && decide (PyData.depthAll (L.map rwD) + 1 ≤ 64)) = true
  rw [rwD_lay, decide_eq_true (by have := rwD_dep L; omega)]
  rfl
theorem eqv_nilL (ds : List PyData) : PyData.eqv (.list ds) (.list []) = decide (ds = []) := by
  cases ds with
  | nil => rfl
  | cons a r => rfl
theorem memR_len (d y : Int) : ∀ rs, (memR d y rs).length ≤ rs.length
  | [] => Nat.le_refl _
  | r :: rest => by
    have := memR_len d y rest
    by_cases c : (r :: rest).all (fun x => !x.2.2) = true ∧ d - r.1 < y
    · rw [memR_yes c, List.length_cons, List.length_cons]
      omega
    · rw [memR_no c, List.length_cons]
      omega
abbrev sLong : Stmt := top 43
abbrev NLg : List Str := ["_law_passes_here", "_law_habit_here", "_law_bought", "_law_day", "_law_small", "_law_great", "_law_most", "_law_recent", "_law_count", "_law_k", "_law_later", "_law_row"]
theorem scLong : FnScope NLg ["_law_passes_here", "_law_habit_here", "_law_bought", "_law_day"] (defScope sLong) := ⟨rfl, rfl, rfl, by decide +kernel, rfl, by decide +kernel, by decide +kernel⟩
def spLong (K : PySem.W.Frag) : Sp := fun vs H Q _ => ∃ (l B : Addr) (hv : V) (d : Int) (ws bs : List V) (L : List (Int × Int)) (i j lim : Int) (rs : List Row), vs = [.ref l, hv, .ref B, .int d] ∧ H l = some (.lst ws) ∧ PsV K H ws L ∧ (∀ z ∈ L, PassOk z) ∧ HbA K H hv (.sw i j lim) ∧ InP L i ∧ InP L j ∧
  H B = some (.lst bs) ∧ RwsV K H bs rs ∧ rs.length ≤ 10000 ∧ ∀ H', Same H H' → Q (.bl (decide (lim < (((memR d (pas L j).1 (rs.drop (rs.length - 28))).length : Int) + 1) * (pas L i).2))) H'
section
variable {P : Program} {w : World} {K : PySem.W.Frag} {mg : Str → Option Value} {base : Heap}
structure TLw (K : PySem.W.Frag) (mg : Str → Option Value) : Prop where
  mN : mg "len" = none
  mR : mg "range" = none
  mX : mg "max" = none
  mI : mg "int" = none
theorem ok_long {f : Addr} {fd : FuncData} {k : Nat} (F : Fun K "_law_is_long" "_law_is_long" sLong f fd) (T : TLw K mg) : FnOk P w K mg base CX0 (k + 1) f fd ["_law_passes_here", "_law_habit_here", "_law_bought", "_law_day"] (spLong K) := by
  refine F.ok scLong (fun vs H Q E h => ?_) (fun cdv A outer s H vs Q E hr h => ?_)
  · obtain ⟨l, B, hv, d, ws, bs, L, i, j, lim, rs, rfl, _⟩ := h
    rfl
  · obtain ⟨l, B, hv, d, ws, bs, L, i, j, lim, rs, rfl, hl, hps, hok, ⟨ha, rfl, hh⟩, hi, hj, hB, hrs, few, q⟩ := h
    have hu := hr.units
    refine ⟨_, pss_cons (ps_asg (pe_slice sl_tup (pv 1) (po_some pe_int) po_none) (pg_tup rfl (pgs_cons (pg_name (i := 4) scLong.nd rfl (.inl rfl)) (pgs_cons (pg_name (i := 5) scLong.nd rfl (.inl rfl)) (pgs_cons (pg_name (i := 6) scLong.nd rfl (.inl rfl)) pgs_nil)))))
      (pss_cons (ps_par (i := 7) (j := 8) rfl scLong.nd rfl rfl (by decide) rfl rfl (pa_cons (pe_slice sl_list (pv 2) (po_some (pe_callB (call_max2 rfl) (by rfl) T.mX (by decide +kernel) (pa_cons pe_int (pa_cons (pe_op op_sub (pe_callB call_len_seq (by rfl) T.mN PySem.boot_len (pa_cons (pv 2) pa_nil)) pe_int) pa_nil)))) po_none) (pa_cons pe_int pa_nil)) (by rfl))
      (pss_cons (ps_for PassesOwn.never rfl (pi_range1 (by rfl) T.mR (pa_cons (pe_callB call_len_seq (by rfl) T.mN PySem.boot_len (pa_cons (pv 7) pa_nil)) pa_nil)) (pg_name (i := 9) scLong.nd rfl (.inl rfl))
        (pss_cons (ps_setLc (i := 10) (own := [("_law_row", 11)]) (g := gName 11) (by rfl) scLong.nd rfl rfl (by rfl) (pi_list (pe_slice sl_list (pv 7) (po_some (pv 9)) po_none)) (blkOk_by (own := [("_law_row", 11)]) (N := NLg) (sc := defScope sLong) (by decide +kernel))
          (fun _ _ _ _ _ => pg_name (i := 11) scLong.nd rfl (Or.inl rfl)) (fun _ _ _ _ _ => pts_one (pt_val (pe_ixtK K rfl (pv 11) pe_int))) (fun _ _ _ _ _ => pv 11))
        (pss_one (ps_if (PW.pt (pw_and (pt_cmpR (op_eqD hu) (pv 10) (pe_lst pa_nil) (nomark _)) (pw_and1 (pt_cmpR op_gt (pe_ixt (pe_ixl (pv 7) (pv 9)) pe_int) (pe_op op_sub (pv 3) (pe_ixt (pe_ixl (pv 0) (pv 5)) pe_int)) (nomark _)))))
          (pss_one (ps_set (i := 8) scLong.nd rfl (.inl rfl) (pe_op op_add (pv 8) pe_int))) pss_nil))))
      (pss_one (ps_ret (pe_cmpR op_gt (pe_op op_mul (pe_op op_add (pv 8) pe_int) (pe_ixt (pe_ixl (pv 0) (pv 4)) pe_int)) (pv 6) (nomark _)))))), ?_⟩
    refine ⟨_, rfl, 1, rfl, ha, _, rfl, hh, (by show ¬ (HT.sIx 4 0 (some 1) = 0 ∧ HT.sIx 4 4 none = 4); decide +kernel), fun p np => ⟨p, [.int i, .int j, .int lim], rfl, .of upd_same, rfl, _, _, rfl, _, _, rfl, _, _, rfl, rfl, ?_⟩⟩
    have s1 : Same H (upd H p (.tup (cutV (habL (.sw i j lim)) (some 1) none))) := same_new np
    generalize (upd H p (.tup (cutV (habL (.sw i j lim)) (some 1) none))) = H1 at s1
    have hB1 := s1 _ _ hB
    have hlen := hrs.len
    have eLo : (if (bs.length : Int) - 28 > 0 then (bs.length : Int) - 28 else 0) = ((bs.length - 28 : Nat) : Int) := by
      split <;> omega
    refine (el_sl (K := K) (lo := some (if (bs.length : Int) - 28 > 0 then (bs.length : Int) - 28 else 0)) (hi := none) (ev_var rfl) (eo_some (ev_max2 ev_c (ev_op (ev_len (ev_var rfl) (sq_of hB1)) ev_c rv_I0))) eo_none (sq_of hB1) : EvL _ [some (.ref l), some (.ref ha), some (.ref B), some (.int d), some (.int i), some (.int j), some (.int lim), none, none, none, none, none] H1 _) H1 (Ex.refl H1) _ fun R H2 nR e2 hR => ⟨_, _, rfl, ?_⟩
    rw [eLo] at hR
    have cut : cutV bs (some ((bs.length - 28 : Nat) : Int)) none = bs.drop (bs.length - 28) := by
      unfold cutV
      rw [HT.sIx_nat, HT.sIx_none, Nat.min_eq_left (by omega), List.take_of_length_le (by rw [List.length_drop]; exact Nat.le_refl _)]
    rw [cut] at hR
    have s2 : Same H H2 := Same.trans s1 e2
    have hrs2 : RwsV K H2 (bs.drop (bs.length - 28)) (rs.drop (rs.length - 28)) := by
      rw [hlen]
      exact (hrs.tk (.same s2)).drop _
    have b2 : (bs.drop (bs.length - 28)).length ≤ 10000 := by
      rw [List.length_drop]
      omega
    revert hrs2 hR b2 q
    generalize rs.drop (rs.length - 28) = rs2
    generalize bs.drop (bs.length - 28) = bs2
    intro q hR hrs2 b2
    have l2 := hrs2.len
    have px : ∀ {σ : L2.St} {H' : Hp} {n : Nat} {z : Int} {c : Int} {f : Int × Int → Int}, Same H H' → σ[0]? = some (some (.ref l)) → σ[n]? = some (some (.int z)) → InP L z → (∀ x : Int × Int, atI [V.int x.1, V.int x.2] c = some (.int (f x))) → Ev (tOp (rIxT K) (tOp (rIxL K) (tVar 0) (tVar n)) (tC (.int c))) σ H' (.int (f (pas L z))) := fun {σ H' n z c f} sm h0 hn hz hc => by
      obtain ⟨v, hv, b, rfl, hb⟩ := (hps.tk (.same sm)).atI hz.pas.1
      exact ev_op (ev_op (ev_var h0) (ev_var hn) (rv_ixL (.inl (.inl (sm _ _ hl))) hv)) ev_c (rv_ixT hb (hc _))
    refine s_forR1 (n := (bs2.length : Int)) (ea_cons (ev_len (ev_var rfl) (sq_of hR)) ea_nil) ⟨by omega, by omega⟩ (fun k σ H' => ∃ (v9 v10 : Option V) (c : Nat), σ = [some (.ref l), some (.ref ha), some (.ref B), some (.int d), some (.int i), some (.int j), some (.int lim), some (.ref R), some (.int (c : Int)), v9, v10, none] ∧ c + (memR d (pas L j).1 (rs2.drop k)).length = (memR d (pas L j).1 rs2).length ∧ Same H2 H') (fun H3 e3 => ⟨none, none, 0, rfl, by rw [List.drop_zero, Nat.zero_add], e3⟩) ?_ ?_
    · rintro k σ H3 hk ⟨v9, v10, c, rfl, hc, s3⟩
      have hk : k < bs2.length := by omega
      have hR3 := s3 _ _ hR
      have hrs3 := hrs2.tk (.same s3)
      have hdr := hrs3.drop k
      obtain ⟨r, hr, hv⟩ := hrs3.get (List.getElem?_eq_getElem hk)
      have hcons : rs2.drop k = r :: rs2.drop (k + 1) := by
        have hk2 : k < rs2.length := by omega
        rw [List.drop_eq_getElem_cons hk2]
        rw [List.getElem?_eq_getElem hk2] at hr
        injection hr with hr
        rw [hr]
      have eS : EvL (tSl (rSlL K) (tVar 7) (tPart (tVar 9)) tNoPart) [some (.ref l), some (.ref ha), some (.ref B), some (.int d), some (.int i), some (.int j), some (.int lim), some (.ref R), some (.int (c : Int)), some (.int (k : Int)), v10, none] H3 (bs2.drop k) := by
        rw [← cutP_from bs2 k]
        exact el_sl (ev_var rfl) (eo_some (ev_var rfl)) eo_none (sq_of hR3)
      have rowAt : ∀ (n : Nat) (x : V), (bs2.drop k)[n]? = some x → ∃ b r, x = .ref b ∧ (rs2.drop k).getD n (0, 0, false) = r ∧ SqT K H3 b [.int r.1, .int r.2.1, .bl r.2.2] ∧ (bs2.drop k).getD n .non = x := fun n x hx => by
        obtain ⟨r, hr, b, rfl, hb⟩ := hdr.get hx
        exact ⟨b, r, rfl, by rw [List.getD_eq_getElem?_getD, hr]; rfl, hb, by rw [List.getD_eq_getElem?_getD, hx]; rfl⟩
      refine q_asgL (el_lcNL (K := K) (j := 11) (vs := [11]) (fun n => ((rs2.drop k).getD n (0, 0, false)).2.2) (fun n => (bs2.drop k).getD n .non) eS (by rw [List.length_drop]; omega) (fun _ => rfl) (fun n x H4 e4 hx => ?_) (fun n x H4 e4 hx _ => ?_)) fun Lt H4 nL e4 hLt => ?_
      · obtain ⟨b, r', rfl, er, hb, _⟩ := rowAt n x hx
        rw [er]
        exact et_B (ev_op (ev_var rfl) ev_c (rv_ixT (ex_t e4 hb) rfl))
      · obtain ⟨b, r', rfl, er, hb, ev⟩ := rowAt n x hx
        rw [ev]
        exact ev_var rfl
      have hgv := (hdr.given (bs2.drop k).length (Nat.le_refl _)).tk (.same e4)
      rw [List.take_of_length_le (by rw [hdr.len]; exact Nat.le_refl _)] at hgv
      have s4 := Same.trans s3 e4
      have s04 := Same.trans s2 s4
      obtain ⟨rb, hrb, hrq⟩ := hv
      have hbk : bs2[k]? = some (.ref rb) := by rw [← hrb]; exact List.getElem?_eq_getElem hk
      have none_eq : ∀ xs : List Row, decide ((xs.filter (·.2.2)).map rwD = []) = xs.all (fun x => !x.2.2) := fun xs => by
        rw [Bool.eq_iff_iff, decide_eq_true_eq, List.map_eq_nil_iff, List.filter_eq_nil_iff, List.all_eq_true]
        exact forall_congr' fun x => forall_congr' fun _ => by cases x.2.2 <;> simp
      refine s_when (b := (rs2.drop k).all (fun x => !x.2.2) && decide (d - (pas L j).1 < r.1)) (et_and (et_is (et_eqD (K := K) (edp_ev (v := .ref Lt) (ev_var rfl) fun H5 e5 => .lst (.inl (.inl (e5 _ _ hLt))) ((hgv.tk (.same e5)).dp)) (edp_lst eda_nil (by decide)) (rwD_sh _) (by decide +kernel)) (by rw [eqv_nilL, none_eq])) (fun _ => et_test (ev_op (ev_op (ev_op (ev_var rfl) (ev_var rfl) (rv_ixL (.inl (.inl (e4 _ _ hR3))) (at_nat hk hbk))) ev_c (rv_ixT (ex_t e4 hrq) rfl)) (ev_op (ev_var rfl) (px (n := 5) (f := Prod.fst) (c := 0) s04 rfl rfl hj fun x => rfl) rv_I0) (rv_I0 (g := fun i j => .bl (decide (j < i))))))) (fun hb H5 e5 => ?_) (fun hb H5 e5 => ?_)
      · rw [Bool.and_eq_true, decide_eq_true_eq] at hb
        refine s_asg (ev_op (ev_var rfl) ev_c rv_I0) fun H6 e6 => ⟨_, _, c + 1, rfl, ?_, Same.trans (Same.trans s4 e5) e6⟩
        rw [hcons, memR_yes ⟨by rw [← hcons]; exact hb.1, by have := hb.2; omega⟩, List.length_cons] at hc
        omega
      · refine ⟨_, _, c, rfl, ?_, Same.trans s4 e5⟩
        rw [hcons, memR_no fun z => ?_] at hc
        · exact hc
        · rw [← hcons] at z
          rw [z.1, decide_eq_true (by have := z.2; omega)] at hb
          cases hb
    · rintro σ H3 ⟨v9, v10, c, rfl, hc, s3⟩
      have e0 : ((bs2.length : Int)).toNat = rs2.length := by omega
      rw [e0, List.drop_length] at hc
      have hc : c = (memR d (pas L j).1 rs2).length := hc
      have pi := hok _ hi.pas.2
      rw [← hc] at q
      have cb : c ≤ 10000 := by
        have := memR_len d (pas L j).1 rs2
        omega
      exact s_ret (ev_op (ev_op (ev_op (ev_var rfl) ev_c rv_I0) (px (n := 4) (f := Prod.snd) (c := 1) (Same.trans s2 s3) rfl rfl hi fun x => rfl) (rv_I (.inl ⟨by omega, by omega⟩))) (ev_var rfl) (rv_I0 (g := fun i j => .bl (decide (j < i))))) fun H4 e4 => q H4 (Same.trans (Same.trans s2 s3) e4)
end
end Sea

set_option Elab.async false
set_option linter.all false
set_option maxRecDepth 100000
set_option maxHeartbeats 4000000
/-! _law_chosen, _law_simulated -/
namespace Sea
open PySem PySem.Spec PyProof.Rows L2 LamX NdefX ClX Evl StX
abbrev sCho : Stmt := top 41
theorem scCho : FnScope ["_law_passes_here", "_law_habit_here", "_law_bought", "_law_day"] ["_law_passes_here", "_law_habit_here", "_law_bought", "_law_day"] (defScope sCho) := ⟨rfl, rfl, rfl, by decide +kernel, rfl, by decide +kernel, by decide +kernel⟩
/-- too much was spent on short passes, as the law sees it -/
def lgI (L : List (Int × Int)) (i j lim d : Int) (rs : List Row) : Bool := decide (lim < (((memR d (pas L j).1 (rs.drop (rs.length - 28))).length : Int) + 1) * (pas L i).2)
def choI (L : List (Int × Int)) (d : Int) (rs : List Row) : Hab → Int
  | .fix i => i
  | .turn i j => if rs.length % 2 = 0 then i else j
  | .sw i j lim => if lgI L i j lim d rs = true then j else i
def spCho (K : PySem.W.Frag) : Sp := fun vs H Q _ => ∃ (l B : Addr) (hv : V) (d : Int) (ws bs : List V) (L : List (Int × Int)) (hb : Hab) (rs : List Row), vs = [.ref l, hv, .ref B, .int d] ∧ H l = some (.lst ws) ∧ PsV K H ws L ∧ (∀ z ∈ L, PassOk z) ∧ HbA K H hv hb ∧ HabIn L.length hb ∧
  H B = some (.lst bs) ∧ RwsV K H bs rs ∧ rs.length ≤ 10000 ∧ ∀ H', Same H H' → Q (.int (choI L d rs hb)) H'
structure TCh (K : PySem.W.Frag) (mg : Str → Option Value) (fLg fCh : Addr) (dLg dCh : FuncData) : Prop where
  w : TLw K mg
  gLg : mg "_law_is_long" = some (.ref fLg)
  kLg : PySem.W.keepIn K (.ref fLg) = true
  uLg : Fun K "_law_is_long" "_law_is_long" sLong fLg dLg
  gCh : mg "_law_chosen" = some (.ref fCh)
  kCh : PySem.W.keepIn K (.ref fCh) = true
  uCh : Fun K "_law_chosen" "_law_chosen" sCho fCh dCh
theorem TCh.bLg {K : PySem.W.Frag} {mg : Str → Option Value} {fLg fCh : Addr} {dLg dCh : FuncData} (T : TCh K mg fLg fCh dLg dCh) : Binds K dLg ["_law_passes_here", "_law_habit_here", "_law_bought", "_law_day"] [] := T.uLg.binds (ps := ["_law_passes_here", "_law_habit_here", "_law_bought", "_law_day"]) fun _ _ _ _ _ _ us hl => match us, hl with | [_, _, _, _], _ => rfl
theorem TCh.bCh {K : PySem.W.Frag} {mg : Str → Option Value} {fLg fCh : Addr} {dLg dCh : FuncData} (T : TCh K mg fLg fCh dLg dCh) : Binds K dCh ["_law_passes_here", "_law_habit_here", "_law_bought", "_law_day"] [] := T.uCh.binds (ps := ["_law_passes_here", "_law_habit_here", "_law_bought", "_law_day"]) fun _ _ _ _ _ _ us hl => match us, hl with | [_, _, _, _], _ => rfl
section
variable {P : Program} {w : World} {K : PySem.W.Frag} {mg : Str → Option Value} {base : Heap} {fLg fCh : Addr} {dLg dCh : FuncData}
theorem ok_cho {k : Nat} (T : TCh K mg fLg fCh dLg dCh) : FnOk P w K mg base CX0 (k + 2) fCh dCh ["_law_passes_here", "_law_habit_here", "_law_bought", "_law_day"] (spCho K) := by
  refine T.uCh.ok scCho (fun vs H Q E h => ?_) (fun cdv A outer s H vs Q E hr h => ?_)
  · obtain ⟨l, B, hv, d, ws, bs, L, hb, rs, rfl, _⟩ := h
    rfl
  · obtain ⟨l, B, hv, d, ws, bs, L, hb, rs, rfl, hl, hps, hok, ⟨a, rfl, ha⟩, hin, hB, hrs, few, q⟩ := h
    have h1 := hr.mono (show 1 ≤ k + 1 by omega)
    refine ⟨_, pss_cons (ps_if (pt_cmpR op_eq (pe_ixt (pv 1) pe_int) pe_str (nomark _)) (pss_one (ps_ret (pe_ixt (pv 1) pe_int))) pss_nil)
      (pss_cons (ps_if (pt_cmpR op_eq (pe_ixt (pv 1) pe_int) pe_str (nomark _)) (pss_one (ps_ret (pe_ixt (pv 1) (pe_op op_add pe_int (pe_op op_modN (pe_callB call_len_seq (by rfl) T.w.mN PySem.boot_len (pa_cons (pv 2) pa_nil)) pe_int))))) pss_nil)
      (pss_one (ps_ret (pe_ixt (pv 1) (pe_op op_add pe_int (pe_callTy call_int1 (by rfl) T.w.mI (by rfl) (pa_cons (pe_call (E := E0) (ok_long (k := 0) T.uLg T.w) h1 (by rfl) T.gLg T.kLg T.bLg .nil pass0 (pa_cons (pv 0) (pa_cons (pv 1) (pa_cons (pv 2) (pa_cons (pv 3) pa_nil))))) pa_nil))))))), ?_⟩
    have h0 : ∀ {H1 : Hp} {k : Str}, Ex H H1 → (habL hb)[0]? = some (.str k) → ∀ k2 : Str, EvT (tTest (tOp rEq (tOp (rIxT K) (tVar 1) (tC (.int 0))) (tC (.str k2)))) [some (.ref l), some (.ref a), some (.ref B), some (.int d)] H1 (decide (V.str k = V.str k2)) := fun {H1 k} e hk k2 => et_test (ev_op (ev_op (ev_var rfl) ev_c (rv_ixT (ex_t e ha) (at_nat (i := 0) (List.getElem?_eq_some_iff.mp hk).1 hk))) ev_c (rv_eq rfl))
    have hlen := hrs.len
    cases hb with
    | fix i =>
      refine q_when (b := decide (V.str "fixed" = V.str "fixed")) (h0 (Ex.refl _) rfl "fixed") (fun _ H1 e1 => ?_) (fun z => absurd z (by decide +kernel))
      exact s_ret (v := .int i) (ev_op (ev_var rfl) ev_c (rv_ixT (ex_t e1 ha) rfl)) fun H2 e2 => q H2 (Same.trans e1 e2)
    | turn i j =>
      refine q_when (b := decide (V.str "turn" = V.str "fixed")) (h0 (Ex.refl _) rfl "fixed") (fun z => absurd z (by decide +kernel)) (fun _ H1 e1 => ?_)
      refine q_when (b := decide (V.str "turn" = V.str "turn")) (h0 e1 rfl "turn") (fun _ H2 e2 => ?_) (fun z => absurd z (by decide +kernel))
      have s2 := Same.trans e1 e2
      have m2 : (bs.length : Int).fmod 2 = ((rs.length % 2 : Nat) : Int) := by
        rw [Int.fmod_eq_emod_of_nonneg _ (by decide), hlen]
        rfl
      have at_ : atI (habL (.turn i j)) (1 + (bs.length : Int).fmod 2) = some (.int (choI L d rs (.turn i j))) := by
        rw [m2]
        show _ = some (V.int (if rs.length % 2 = 0 then i else j))
        rcases Nat.mod_two_eq_zero_or_one rs.length with z | z
        · rw [z, if_pos rfl]
          rfl
        · rw [z, if_neg (by decide)]
          rfl
      exact s_ret (ev_op (ev_var rfl) (ev_op ev_c (ev_op (ev_len (ev_var rfl) (sq_of (s2 _ _ hB))) ev_c (rv_I (C := fun _ j => j ≠ 0) (g := fun i j => .int (i.fmod j)) (i := (bs.length : Int)) (j := 2) (by decide))) rv_I0) (rv_ixT (ex_t s2 ha) at_)) fun H3 e3 => q H3 (Same.trans s2 e3)
    | sw i j lim =>
      refine q_when (b := decide (V.str "switch" = V.str "fixed")) (h0 (Ex.refl _) rfl "fixed") (fun z => absurd z (by decide +kernel)) (fun _ H1 e1 => ?_)
      refine q_when (b := decide (V.str "switch" = V.str "turn")) (h0 e1 rfl "turn") (fun z => absurd z (by decide +kernel)) (fun _ H2 e2 => ?_)
      have s2 := Same.trans e1 e2
      refine ⟨_, rfl, _, rfl, _, rfl, _, rfl, _, rfl, l, B, .ref a, d, ws, bs, L, i, j, lim, rs, rfl, s2 _ _ hl, hps.tk (.same s2), hok, ⟨a, rfl, ex_t s2 ha⟩, hin.1.1, hin.1.2, s2 _ _ hB, hrs.tk (.same s2), few, fun H3 s3 => ?_⟩
      have s3' := Same.trans s2 s3
      refine .inr ⟨_, rfl, _, _, rfl, rfl, ?_⟩
      refine ⟨a, _, _, _, rfl, rfl, ex_t s3' ha, ?_, q H3 s3'⟩
      show atI (habL (.sw i j lim)) (1 + if lgI L i j lim d rs = true then 1 else 0) = some (V.int (if lgI L i j lim d rs = true then j else i))
      cases lgI L i j lim d rs <;> rfl
end
/-- what holds of the memories of a buyer with a habit -/
def IHab : Hab → List Int → Prop
  | .fix i => IFix (byFix i)
  | .turn i j => ITurn [i, j]
  | .sw _ _ _ => MOk 28
theorem hab_ok {L : List (Int × Int)} {hb : Hab} (hok : ∀ z ∈ L, PassOk z) (h : HabIn L.length hb) : (byOf L hb).Ok L (IHab hb) := by
  cases hb with
  | fix i => exact fix_ok h
  | turn i j => exact turn_ok (fun z hz => by
      rcases List.mem_cons.mp hz with rfl | hz
      · exact h.1
      · rw [List.mem_singleton.mp hz]
        exact h.2) (by simp)
  | sw i j lim => exact sw_ok h.1.1 h.1.2 (hok _ (show InP L j from h.1.2).pas.2).2.1
theorem cho_eq {g : Par} {hb : Hab} (e : g.b = byOf g.L hb) (hok : ∀ z ∈ g.L, PassOk z) (h : HabIn g.L.length hb) (d : Nat) : choI g.L d (rows g (flg g.L hb) d) hb = (g.b.ch (sim g d).2.1).1 := by
  cases hb with
  | fix i =>
    rw [e]
    rfl
  | turn i j =>
    rw [turn_mem e (flg g.L (.turn i j)) d, e]
    show (if (rows g (flg g.L (.turn i j)) d).length % 2 = 0 then i else j) = (atI [i, j] (((rows g (flg g.L (.turn i j)) d).length % 2 : Nat) : Int)).getD 0
    rcases Nat.mod_two_eq_zero_or_one (rows g (flg g.L (.turn i j)) d).length with z | z
    · rw [z]
      rfl
    · rw [z]
      rfl
  | sw i j lim =>
    have y := hok _ (show InP g.L j from h.1.2).pas.2
    have hm := sw_mem e (by have := y.1; omega) d
    rw [e]
    show (if lgI g.L i j lim d (rows g (flg g.L (.sw i j lim)) d) = true then j else i) = ((bySw g.L i j lim).ch (sim g d).2.1).1
    rw [chI_flg]
    have : lgI g.L i j lim d (rows g (flg g.L (.sw i j lim)) d) = flg g.L (.sw i j lim) (sim g d).2.1 := by
      show decide (lim < (((memR d (pas g.L j).1 ((rows g (flg g.L (.sw i j lim)) d).drop ((rows g (flg g.L (.sw i j lim)) d).length - 28))).length : Int) + 1) * (pas g.L i).2) = decide (lim < (((sim g d).2.1.length : Int) + 1) * (pas g.L i).2)
      rw [memR_28 y.2.1, ← hm]
    rw [this]
    cases flg g.L (.sw i j lim) (sim g d).2.1 <;> rfl
theorem lg_eq {g : Par} {i j lim : Int} (e : g.b = byOf g.L (.sw i j lim)) (hok : ∀ z ∈ g.L, PassOk z) (h : HabIn g.L.length (.sw i j lim)) (d : Nat) : lgI g.L i j lim d (rows g (flg g.L (.sw i j lim)) d) = flg g.L (.sw i j lim) (sim g d).2.1 := by
  have y := hok _ (show InP g.L j from h.1.2).pas.2
  have hm := sw_mem e (by have := y.1; omega) d
  show decide (lim < (((memR d (pas g.L j).1 ((rows g (flg g.L (.sw i j lim)) d).drop ((rows g (flg g.L (.sw i j lim)) d).length - 28))).length : Int) + 1) * (pas g.L i).2) = decide (lim < (((sim g d).2.1.length : Int) + 1) * (pas g.L i).2)
  rw [memR_28 y.2.1, ← hm]
abbrev sSim : Stmt := top 42
abbrev NSm : List Str := ["_law_passes_here", "_law_habit_here", "_law_length", "_law_days_here", "_law_last", "_law_totals", "_law_bought", "_law_until", "_law_day", "_law_total", "_law_index", "_law_is_long_here"]
theorem scSim : FnScope NSm ["_law_passes_here", "_law_habit_here", "_law_length", "_law_days_here", "_law_last"] (defScope sSim) := ⟨rfl, rfl, rfl, by decide +kernel, rfl, by decide +kernel, by decide +kernel⟩
def spSim (K : PySem.W.Frag) : Sp := fun vs H Q _ => ∃ (l : Addr) (hv dv : V) (n : Nat) (ws : List V) (hb : Hab) (g : Par), vs = [.ref l, hv, .int g.ln, dv, .int n] ∧ H l = some (.lst ws) ∧ PsV K H ws g.L ∧ (∀ z ∈ g.L, PassOk z) ∧ HbA K H hv hb ∧ HabIn g.L.length hb ∧ g.b = byOf g.L hb ∧ 1 ≤ g.ln ∧ g.ln ≤ 14 ∧ TiA K H dv g.ds ∧ n ≤ 2000 ∧
  ∀ r T B bs H', Same H H' → H' r = some (.tup [.ref T, .ref B]) → H' T = some (.lst (tots g n)) → H' B = some (.lst bs) → RwsV K H' bs (rows g (flg g.L hb) n) → Q (.ref r) H'
/-- the loop's state -/
structure Sm (K : PySem.W.Frag) (g : Par) (hb : Hab) (H0 : Hp) (TT B : Addr) (k : Nat) (bs : List V) (H : Hp) : Prop where
  ka : Same H0 H
  it : H TT = some (.lst (tots g k))
  ib : H B = some (.lst bs)
  rw : RwsV K H bs (rows g (flg g.L hb) k)
theorem Sm.same {K : PySem.W.Frag} {g : Par} {hb : Hab} {H0 H H' : Hp} {TT B : Addr} {k : Nat} {bs : List V} (s : Sm K g hb H0 TT B k bs H) (e : Same H H') : Sm K g hb H0 TT B k bs H' := ⟨Same.trans s.ka e, e _ _ s.it, e _ _ s.ib, s.rw.tk (.same e)⟩
section
variable {P : Program} {w : World} {K : PySem.W.Frag} {mg : Str → Option Value} {base : Heap} {fLg fCh : Addr} {dLg dCh : FuncData}
theorem ok_sim {f : Addr} {fd : FuncData} {k : Nat} (F : Fun K "_law_simulated" "_law_simulated" sSim f fd) (T : TCh K mg fLg fCh dLg dCh) : FnOk P w K mg base CX0 (k + 3) f fd ["_law_passes_here", "_law_habit_here", "_law_length", "_law_days_here", "_law_last"] (spSim K) := by
  refine F.ok scSim (fun vs H Q E h => ?_) (fun cdv A outer s H vs Q E hr h => ?_)
  · obtain ⟨l, hv, dv, n, ws, hb, g, rfl, _⟩ := h
    rfl
  · obtain ⟨l, hv, dv, n, ws, hb, g, rfl, hl, hps, hok, ⟨a, rfl, ha⟩, hin, eb, l1, l2, ⟨pd, rfl, hd⟩, n2, q⟩ := h
    have h1 := hr.mono (show 1 ≤ k + 2 by omega)
    have h2 := hr.mono (show 2 ≤ k + 2 by omega)
    refine ⟨_, pss_cons (ps_par3 (i := 5) (j := 6) (l := 7) rfl scSim.nd rfl rfl rfl (by decide) (by decide) (by decide) rfl rfl rfl (pa_cons (pe_lst (pa_cons pe_int pa_nil)) (pa_cons (pe_lst pa_nil) (pa_cons pe_int pa_nil))) (by rfl))
      (pss_cons (ps_for PassesOwn.never rfl (pi_range1 (by rfl) T.w.mR (pa_cons (pv 4) pa_nil)) (pg_name (i := 8) scSim.nd rfl (.inl rfl))
        (pss_cons (ps_set (i := 9) scSim.nd rfl (.inl rfl) (pe_ixl (pv 5) (pe_op op_sub pe_int pe_int)))
        (pss_cut (ps_if (PW.pt (pw_and (pt_cmpR op_in_seq (pe_op op_modN (pv 8) (pv 2)) (pv 3) (by rfl)) (pw_and1 (pt_cmpR op_ge (pv 8) (pv 7) (nomark _)))))
          (pss_cons (ps_set (i := 10) scSim.nd rfl (.inl rfl) (pe_call (E := E0) (ok_cho (k := 0) T) h2 (by rfl) T.gCh T.kCh T.bCh .nil pass0 (pa_cons (pv 0) (pa_cons (pv 1) (pa_cons (pv 6) (pa_cons (pv 8) pa_nil))))))
          (pss_cons (ps_set (i := 11) scSim.nd rfl (.inl rfl) (pe_and (pe_cmpR op_eq (pe_ixt (pv 1) pe_int) pe_str (nomark _)) (pe_one (pe_call (E := E0) (ok_long (k := 0) T.uLg T.w) h1 (by rfl) T.gLg T.kLg T.bLg .nil pass0 (pa_cons (pv 0) (pa_cons (pv 1) (pa_cons (pv 6) (pa_cons (pv 8) pa_nil))))))))
          (pss_cons (ps_expr (pe_bm PySem.F.plainAttrs_list PySem.F.slot_list_append PySem.F.type_list_append mt_append (pv 6) (pa_cons (pe_tup (pa_cons (pv 8) (pa_cons (pv 10) (pa_cons (pv 11) pa_nil)))) pa_nil)))
          (pss_cons (ps_set (i := 9) scSim.nd rfl (.inl rfl) (pe_op op_add (pv 9) (pe_ixt (pe_ixl (pv 0) (pv 10)) pe_int)))
          (pss_one (ps_set (i := 7) scSim.nd rfl (.inl rfl) (pe_op op_add (pv 8) (pe_ixt (pe_ixl (pv 0) (pv 10)) pe_int)))))))) pss_nil)
        (pss_one (ps_expr (pe_bm PySem.F.plainAttrs_list PySem.F.slot_list_append PySem.F.type_list_append mt_append (pv 5) (pa_cons (pv 9) pa_nil)))))))
      (pss_one (ps_ret (pe_tup (pa_cons (pv 5) (pa_cons (pv 6) pa_nil)))))), ?_⟩
    have lt : ∀ {n : Nat}, n ≤ 1000 → n ≤ sizeLine := fun h => Nat.le_of_lt (small1000 h)
    refine ⟨lt (show 1 ≤ 1000 by decide), fun TT nT => ⟨Nat.zero_le _, fun B nB => ⟨_, _, _, rfl, ?_⟩⟩⟩
    have nTB : TT ≠ B := fun z => by rw [← z, upd_same] at nB; cases nB
    have nB0 : H B = none := fresh_back (same_new nT) nB
    have o : g.Ok (IHab hb) := ⟨l1, l2, hok, by rw [eb]; exact hab_ok hok hin⟩
    generalize hH1 : upd (upd H TT (.lst [.int 0])) B (.lst []) = H1
    have s01 : Same H H1 := by
      rw [← hH1]
      exact (same_new nT).trans (same_new nB)
    have S0 : Sm K g hb H TT B 0 [] H1 := ⟨s01, by rw [← hH1, upd_ne nTB, upd_same]; rfl, by rw [← hH1, upd_same], .nil⟩
    refine s_forR1 (n := (n : Int)) (ea_cons (ev_var rfl) ea_nil) ⟨by omega, by omega⟩ (fun k σ H' => ∃ (v8 v9 v10 v11 : Option V) (bs : List V), σ = [some (.ref l), some (.ref a), some (.int g.ln), some (.ref pd), some (.int n), some (.ref TT), some (.ref B), some (.int (unt g k)), v8, v9, v10, v11] ∧ Sm K g hb H TT B k bs H') (fun H2 e2 => ⟨none, none, none, none, [], rfl, S0.same e2⟩) ?_ ?_
    · rintro k σ H2 hk ⟨v8, v9, v10, v11, bs, rfl, S⟩
      have hk : k < n := by omega
      refine q_asg (ev_op (ev_var rfl) (ev_op ev_c ev_c rv_I0) (rv_ixL (.inl (.inl S.it)) (tots_last g k))) fun H3 e3 => ?_
      have S3 := S.same e3
      have hrl := S3.rw.len
      have few := rows_len (g := g) (fl := flg g.L hb) k
      refine ⟨fun σ' H' => ∃ (v10 v11 : Option V) (bs : List V), σ' = [some (.ref l), some (.ref a), some (.int g.ln), some (.ref pd), some (.int n), some (.ref TT), some (.ref B), some (.int (unt g (k + 1))), some (.int k), some (.int (sim g (k + 1)).2.2), v10, v11] ∧ Same H H' ∧ H' TT = some (.lst (tots g k)) ∧ H' B = some (.lst bs) ∧ RwsV K H' bs (rows g (flg g.L hb) (k + 1)), ?_, ?_⟩
      · refine s_when (b := goes g k && decide (unt g k ≤ k)) (et_and (et_test (ev_op (ev_op (ev_var rfl) (ev_var rfl) (rv_I (C := fun _ j => j ≠ 0) (g := fun i j => .int (i.fmod j)) (i := (k : Int)) (j := g.ln) (by omega))) (ev_var rfl) (rv_isT (ex_t (S3.ka) hd) rfl (flat_ints _)))) fun _ => et_test (ev_op (ev_var rfl) (ev_var rfl) (rv_I0 (g := fun i j => .bl (decide (j ≤ i)))))) (fun hc H4 e4 => ?_) (fun hc H4 e4 => ?_)
        · have c : (sim g k).1 = 0 ∧ goes g k = true := by
            rw [Bool.and_eq_true, decide_eq_true_eq] at hc
            exact ⟨unt_free.mpr hc.2, hc.1⟩
          have S4 := S3.same e4
          have hidx : InP g.L (g.b.ch (sim g k).2.1).1 := (o.b.ch _ (sim_ok o k).1).1
          refine ⟨_, rfl, _, rfl, _, rfl, _, rfl, l, B, .ref a, (k : Int), ws, bs, g.L, hb, rows g (flg g.L hb) k, rfl, S4.ka _ _ hl, hps.tk (.same S4.ka), hok, ⟨a, rfl, ex_t S4.ka ha⟩, hin, S4.ib, S4.rw, by omega, fun H5 e5 => ?_⟩
          rw [cho_eq eb hok hin k]
          have S5 := S4.same e5
          have eL : Ev (tAndV (tOp rEq (tOp (rIxT K) (tVar 1) (tC (.int 0))) (tC (.str "switch"))) (tCall (spLong K) [] E0 (tCons (tVar 0) (tCons (tVar 1) (tCons (tVar 6) (tCons (tVar 8) tNil)))))) [some (.ref l), some (.ref a), some (.int g.ln), some (.ref pd), some (.int n), some (.ref TT), some (.ref B), some (.int (unt g k)), some (.int (k : Int)), some (.int (sim g k).2.2), some (.int (g.b.ch (sim g k).2.1).1), v11] H5 (.bl (flg g.L hb (sim g k).2.1)) := by
            cases hb with
            | fix i => exact ev_is (ev_andV (a := decide (V.str "fixed" = V.str "switch")) (b := false) (ev_op (ev_op (ev_var rfl) ev_c (rv_ixT (ex_t S5.ka ha) rfl)) ev_c (rv_eq rfl)) (fun h => absurd (of_decide_eq_true h) (by decide +kernel))) (by rw [Bool.and_false]; rfl)
            | turn i j => exact ev_is (ev_andV (a := decide (V.str "turn" = V.str "switch")) (b := false) (ev_op (ev_op (ev_var rfl) ev_c (rv_ixT (ex_t S5.ka ha) rfl)) ev_c (rv_eq rfl)) (fun h => absurd (of_decide_eq_true h) (by decide +kernel))) (by rw [Bool.and_false]; rfl)
            | sw i j lim =>
              refine ev_is (ev_andV (a := decide (V.str "switch" = V.str "switch")) (b := lgI g.L i j lim k (rows g (flg g.L (.sw i j lim)) k)) (ev_op (ev_op (ev_var rfl) ev_c (rv_ixT (ex_t S5.ka ha) rfl)) ev_c (rv_eq rfl)) (fun _ => fun H6 e6 Q6 q6 => ?_)) (by rw [lg_eq eb hok hin k, decide_eq_true rfl]; rfl)
              have S6 := S5.same e6
              exact ⟨_, rfl, _, rfl, _, rfl, _, rfl, l, B, .ref a, (k : Int), ws, bs, g.L, i, j, lim, rows g (flg g.L (.sw i j lim)) k, rfl, S6.ka _ _ hl, hps.tk (.same S6.ka), hok, ⟨a, rfl, ex_t S6.ka ha⟩, hin.1.1, hin.1.2, S6.ib, S6.rw, by omega, fun H7 e7 => q6 H7 e7⟩
          refine q_asg eL fun H6 e6 => ?_
          have S6 := S5.same e6
          refine ⟨_, rfl, .inl ⟨rfl, bs, .of S6.ib⟩, _, rfl, _, rfl, _, rfl, lt (show 3 ≤ 1000 by decide), fun p np => ?_⟩
          have S7 := S6.same (same_new (o := .tup [.int (k : Int), .int (g.b.ch (sim g k).2.1).1, .bl (flg g.L hb (sim g k).2.1)]) np)
          have np7 : SqT K (upd H6 p (.tup [.int (k : Int), .int (g.b.ch (sim g k).2.1).1, .bl (flg g.L hb (sim g k).2.1)])) p [.int (k : Int), .int (g.b.ch (sim g k).2.1).1, .bl (flg g.L hb (sim g k).2.1)] := .of upd_same
          revert S7 np7
          generalize upd H6 p (.tup [.int (k : Int), .int (g.b.ch (sim g k).2.1).1, .bl (flg g.L hb (sim g k).2.1)]) = H7
          intro S7 np7
          refine ⟨B, bs, .ref p, rfl, rfl, S7.ib, fits1 (by omega), ?_⟩
          have s8 : Same H (upd H7 B (.lst (bs ++ [.ref p]))) := fun b u e => by
            rw [upd_ne (ne_of_none e nB0)]
            exact S7.ka b u e
          have it8 : (upd H7 B (.lst (bs ++ [.ref p]))) TT = some (.lst (tots g k)) := by
            rw [upd_ne nTB]
            exact S7.it
          have rw8 : RwsV K (upd H7 B (.lst (bs ++ [.ref p]))) (bs ++ [.ref p]) (rows g (flg g.L hb) (k + 1)) := by
            rw [rows_some (bat_yes c)]
            exact (S7.rw.app (.cons ⟨p, rfl, np7⟩ .nil)).tk (tk_lst S7.ib)
          have px : ∀ {σ : L2.St} {H' : Hp} {z c : Int} {f : Int × Int → Int}, Same H H' → σ[0]? = some (some (.ref l)) → σ[10]? = some (some (.int z)) → InP g.L z → (∀ x : Int × Int, atI [V.int x.1, V.int x.2] c = some (.int (f x))) → Ev (tOp (rIxT K) (tOp (rIxL K) (tVar 0) (tVar 10)) (tC (.int c))) σ H' (.int (f (pas g.L z))) := fun {σ H' z c f} sm h0 hn hz hc => by
            obtain ⟨v, hv, b, rfl, hb⟩ := (hps.tk (.same sm)).atI hz.pas.1
            exact ev_op (ev_op (ev_var h0) (ev_var hn) (rv_ixL (.inl (.inl (sm _ _ hl))) hv)) ev_c (rv_ixT hb (hc _))
          refine q_asg (ev_op (ev_var rfl) (px (f := Prod.snd) (c := 1) s8 rfl rfl hidx fun x => rfl) rv_I0) fun H9 e9 => ?_
          refine s_asg (ev_op (ev_var rfl) (px (f := Prod.fst) (c := 0) (Same.trans s8 e9) rfl rfl hidx fun x => rfl) rv_I0) fun H10 e10 => ?_
          have s910 := Same.trans e9 e10
          have eu : unt g (k + 1) = (k : Int) + (pas g.L (g.b.ch (sim g k).2.1).1).1 := by
            show (match bat g k with
              | some i => (k : Int) + (pas g.L i).1
              | none => unt g k) = _
            rw [bat_yes c]
          have es : (sim g (k + 1)).2.2 = (sim g k).2.2 + (pas g.L (g.b.ch (sim g k).2.1).1).2 := by
            show (pre g k (sim g k)).2.2 = _
            rw [pre_yes c]
          rw [eu, es]
          exact ⟨_, _, bs ++ [.ref p], rfl, Same.trans s8 s910, s910 _ _ it8, s910 _ _ upd_same, rw8.tk (.same s910)⟩
        · have c : ¬ ((sim g k).1 = 0 ∧ goes g k = true) := fun z => by
            rw [z.2, decide_eq_true (unt_free.mp z.1)] at hc
            cases hc
          have S4 := S3.same e4
          have eu : unt g (k + 1) = unt g k := by
            show (match bat g k with
              | some i => (k : Int) + (pas g.L i).1
              | none => unt g k) = unt g k
            rw [bat_no c]
          have es : (sim g (k + 1)).2.2 = (sim g k).2.2 := by
            show (pre g k (sim g k)).2.2 = _
            rw [pre_no c]
          rw [eu, es, rows_none (bat_no c)]
          exact ⟨_, _, bs, rfl, S4.ka, S4.it, S4.ib, S4.rw⟩
      · rintro σ H4 ⟨v10, v11, bs, rfl, s4, it, ib, rw4⟩
        refine ⟨_, rfl, .inl ⟨rfl, _, .of it⟩, _, rfl, TT, tots g k, _, rfl, rfl, it, ?_, ?_⟩
        · rw [tots_len]
          exact fits1 (by omega)
        · refine ⟨_, _, _, _, bs, rfl, ⟨fun b u e => ?_, ?_, ?_, ?_⟩⟩
          · rw [upd_ne (ne_of_none e nT)]
            exact s4 b u e
          · rw [upd_same, tots_snoc]
          · rw [upd_ne nTB.symm]
            exact ib
          · exact rw4.tk (tk_lst it)
    · rintro σ H2 ⟨v8, v9, v10, v11, bs, rfl, S⟩
      have S : Sm K g hb H TT B n bs H2 := S
      refine ⟨_, rfl, _, rfl, lt (show 2 ≤ 1000 by decide), fun r nr => ?_⟩
      have S5 := S.same (same_new (o := .tup [.ref TT, .ref B]) nr)
      exact q r TT B bs _ S5.ka upd_same S5.it S5.ib S5.rw
end
end Sea

set_option Elab.async false
set_option linter.all false
set_option maxRecDepth 100000
set_option maxHeartbeats 4000000
/-! expressions that give tuples and lists of ints -/
namespace Sea
open PySem PySem.Spec PyProof.Rows L2 LamX NdefX ClX Evl StX
def LiA (K : PySem.W.Frag) (H : Hp) (v : V) (ns : List Int) : Prop := ∃ a, v = .ref a ∧ SqL K H a (ns.map V.int)
def rTupO (K : PySem.W.Frag) : List V → Hp → VK → Prop := fun xs H Q => ∃ p ys, xs = [V.ref p] ∧ ((SqL K H p ys ∧ ∀ l, H l = none → Q (.ref l) (upd H l (.tup ys))) ∨ (SqT K H p ys ∧ Q (.ref p) H))
section
variable {K : PySem.W.Frag} {w : World} {σ : L2.St} {H : Hp} {ta tb te tx : TE} {ns ms : List Int}
theorem ei_var {i : Nat} {v : V} (hs : σ[i]? = some (some v)) (h : TiA K H v ns) : EvD (tVar i) σ H fun v H => TiA K H v ns := fun H1 e Q q => ⟨v, hs, q v H1 (Ex.refl _) (h.tk (.same e))⟩
theorem ei_ev {v : V} (h : Ev te σ H v) (hv : TiA K H v ns) : EvD te σ H fun v H => TiA K H v ns := ed_of h fun _ e => hv.tk (.same e)
theorem ei_cat (h1 : EvD ta σ H fun v H => TiA K H v ns) (h2 : EvD tb σ H fun v H => TiA K H v ms) (few : ns.length + ms.length ≤ 1000) : EvD (tOp (rCatA K) ta tb) σ H fun v H => TiA K H v (ns ++ ms) := by
  intro H1 e Q q
  refine h1 H1 e _ fun v H2 e2 hv => h2 H2 (e.trans e2) _ fun u H3 e3 hu => ?_
  obtain ⟨a, rfl, ha⟩ := hv.tk (.same e3)
  obtain ⟨b, rfl, hb⟩ := hu
  have e13 := e2.trans e3
  refine ⟨a, b, _, _, rfl, rfl, ha, hb, Nat.le_of_lt (small1000 (by rw [List.length_map, List.length_map]; exact few)), fun z => q _ _ e13 ⟨b, rfl, ?_⟩, fun _ z => q _ _ e13 ⟨a, rfl, ?_⟩, fun _ _ p np => q _ _ (e13.trans (Ex.new np)) ⟨p, rfl, .of (by rw [upd_same, List.map_append])⟩⟩
  · rw [List.map_append, z]
    exact hb
  · rw [List.map_append, z, List.append_nil]
    exact ha
theorem ei_one {x : Int} (h : Ev tx σ H (.int x)) : EvD (tTup (tCons tx tNil)) σ H fun v H => TiA K H v [x] := fun H1 e Q q =>
  h H1 e _ fun H2 e2 => ⟨Nat.le_of_lt (small1000 (show 1 ≤ 1000 by decide)), fun p np => q _ _ (e2.trans (Ex.new np)) ⟨p, rfl, .of upd_same⟩⟩
theorem ei_tupL (h : EvD te σ H fun v H => LiA K H v ns) : EvD (tCB (rTupO K) (tCons te tNil)) σ H fun v H => TiA K H v ns := by
  intro H1 e Q q
  refine h H1 e _ fun v H2 e2 hv => ?_
  obtain ⟨a, rfl, ha⟩ := hv
  exact ⟨a, _, rfl, .inl ⟨ha, fun l nl => q _ _ (e2.trans (Ex.new nl)) ⟨l, rfl, .of upd_same⟩⟩⟩
theorem ei_lst (h : EvL te σ H (ns.map V.int)) : EvD te σ H fun v H => LiA K H v ns := fun H1 e Q q => h H1 e _ fun p H2 np e2 hp => q _ _ e2 ⟨p, rfl, .of hp⟩
theorem ei_sortT (h : EvD te σ H fun v H => TiA K H v ns) (few : ns.length ≤ 1000) : EvD (tCB (rSortedT K) (tCons te tNil)) σ H fun v H => ∃ ms : List Int, ms.Perm ns ∧ ms.Pairwise (· ≤ ·) ∧ LiA K H v ms := by
  intro H1 e Q q
  refine h H1 e _ fun v H2 e2 hv => ?_
  obtain ⟨a, rfl, ha⟩ := hv
  exact ⟨a, ns, rfl, ha, few, fun ms p perm rising np => q _ _ (e2.trans (Ex.new np)) ⟨ms, perm, rising, p, rfl, .of upd_same⟩⟩
theorem ei_sortL (h : EvD te σ H fun v H => LiA K H v ns) : EvD (tCB (rSortedI K) (tCons te tNil)) σ H fun v H => ∃ ms : List Int, ms.Perm ns ∧ ms.Pairwise (· ≤ ·) ∧ LiA K H v ms := by
  intro H1 e Q q
  refine h H1 e _ fun v H2 e2 hv => ?_
  obtain ⟨a, rfl, ha⟩ := hv
  exact ⟨a, ns, rfl, ha, fun ms p perm rising np => q _ _ (e2.trans (Ex.new np)) ⟨ms, perm, rising, p, rfl, .of upd_same⟩⟩
/-- sorted(set(l)) -/
theorem ei_uniq (h : EvD te σ H fun v H => LiA K H v ns) (few : ns.length < 64) : EvD (tCB (rSortedSet w) (tCons (tCB (rSetL K w) (tCons te tNil)) tNil)) σ H fun v H => ∃ ms : List Int, ms.Pairwise (· < ·) ∧ (∀ k, k ∈ ms ↔ k ∈ ns) ∧ ms.length ≤ ns.length ∧ LiA K H v ms := by
  intro H1 e Q q
  refine h H1 e _ fun v H2 e2 hv => ?_
  obtain ⟨a, rfl, ha⟩ := hv
  refine ⟨a, ns, rfl, ha, by omega, fun s c ns' le => ⟨s, _, c, rfl, upd_same, by omega, fun ms p rising mem len np => ?_⟩⟩
  exact q _ _ ((e2.trans (Ex.new ns')).trans (Ex.new np)) ⟨ms, rising, fun k => by rw [mem k, decide_eq_true_eq], by omega, p, rfl, .of upd_same⟩
theorem ei_imp {P P' : V → Hp → Prop} (h : EvD te σ H P) (i : ∀ v H, P v H → P' v H) : EvD te σ H P' := fun H1 e Q q => h H1 e Q fun v H2 e2 p => q v H2 e2 (i v H2 p)
/-- tuple(e), e a list of ints of which something holds -/
theorem ei_tupP {R : List Int → Prop} (h : EvD te σ H fun v H => ∃ ms, R ms ∧ LiA K H v ms) : EvD (tCB (rTupO K) (tCons te tNil)) σ H fun v H => ∃ ms, R ms ∧ TiA K H v ms := by
  intro H1 e Q q
  refine h H1 e _ fun v H2 e2 hv => ?_
  obtain ⟨ms, r, a, rfl, ha⟩ := hv
  exact ⟨a, _, rfl, .inl ⟨ha, fun l nl => q _ _ (e2.trans (Ex.new nl)) ⟨ms, r, l, rfl, .of upd_same⟩⟩⟩
theorem ei_lenT (h : EvD te σ H fun v H => TiA K H v ns) : Ev (tCB (fun xs H Q => ∃ p ys, xs = [V.ref p] ∧ (SqL K H p ys ∨ SqT K H p ys) ∧ Q (.int ys.length) H) (tCons te tNil)) σ H (.int (ns.length : Nat)) := by
  intro H1 e Q q
  refine h H1 e _ fun v H2 e2 hv => ?_
  obtain ⟨a, rfl, ha⟩ := hv
  have z := q H2 e2
  rw [← List.length_map (f := V.int)] at z
  exact ⟨a, _, rfl, .inr ha, z⟩
end
end Sea

set_option Elab.async false
set_option linter.all false
set_option maxRecDepth 100000
set_option maxHeartbeats 4000000
namespace Sea
open PySem PySem.Spec PyProof.Rows L2 LamX NdefX ClX Evl StX
abbrev sWx : Stmt := inClass (top 22) 8
theorem scWx : FnScope ["self", "day", "changed", "other"] ["self", "day"] (defScope sWx) := ⟨rfl, rfl, rfl, by decide +kernel, rfl, by decide +kernel, by decide +kernel⟩
theorem kb_tvI {K : PySem.W.Frag} {f : Addr} {fd : FuncData} (F : Fun K "__init__" "Travel.__init__" sTvI f fd) : KBn K fd ["self", "length", "days", "exceptions"] 3 ["exceptions"] (fun us ws => us ++ ws) (fun vs zs => vs ++ zs) := by
  obtain ⟨oc, od, kV, doc, pm, an, cdv, ct, osl, rfl, lk, hcd⟩ := F.ex
  refine ⟨fun s us ws _ h1 h2 => ?_, fun a b => a.append b⟩
  match us, ws, h1, h2 with
  | [u, v, x], [y], _, _ => exact .of_eq rfl
/-- a travel is made -/
theorem tv_new {K : PySem.W.Frag} {C cV : Addr} {H : Hp} {Q : VK} {E : XK} {ln : Int} {d o : V} {ds os : List Int} {x dx : Addr} (hd : TiA K H d ds) (ho : TiA K H o os) (ld : ds.length ≤ 1000) (lo : os.length ≤ 1000) (hb : tbad ln ds os = none) (nx : H x = none) (ndx : H dx = none)
    (q : ∀ H', Same H H' → Tv K C H' x ln d o ds os → Q .non H') : spTvI K C cV [V.ref x, .int ln, d, o] (upd (upd H dx (.own x)) x (.ins C dx [])) Q E := by
  have s0 : Same H (upd (upd H dx (.own x)) x (.ins C dx [])) := fun b u e => by
    rw [upd_ne (ne_of_none e nx), upd_ne (ne_of_none e ndx)]
    exact e
  refine ⟨x, dx, ln, d, o, ds, os, rfl, upd_same, hd.tk (.same s0), ho.tk (.same s0), ld, lo, fun _ H' keep at_ => ?_, fun pt i dd H' e => ?_⟩
  · have sm : Same H H' := fun b u e => keep b u (s0 b u e) (ne_of_none e nx)
    exact q H' sm ⟨⟨dx, at_⟩, hd.tk (.same sm), ho.tk (.same sm)⟩
  · rw [hb] at e
    cases e
theorem tbad_ok {ln : Int} {ds os : List Int} (l1 : 1 ≤ ln) (l2 : ln ≤ 14) (g : Good ds (ln - 1)) (n : (ds.length : Int) ≤ ln) (h : Good os 1000000000000000000) (m : os.length ≤ 6) : tbad ln ds os = none := by
  unfold tbad
  rw [if_pos ⟨l1, l2⟩, vbad_good g (by omega), vbad_good h (by omega)]
theorem good_nil {l : Int} : Good [] l := fun j hj => absurd hj (Nat.not_lt_zero _)
theorem good_three : Good [3] 1000000000000000000 := fun j hj => by
  match j, hj with
  | 0, _ => exact ⟨by decide, by decide, fun h => absurd h (Nat.lt_irrefl _)⟩
/-- with_exception(3) of a travel without exceptions -/
def spWx (K : PySem.W.Frag) (C : Addr) : Sp := fun vs H Q _ => ∃ (a : Addr) (ln : Int) (d o : V) (ds : List Int), vs = [.ref a, .int 3] ∧ Tv K C H a ln d o ds [] ∧ 1 ≤ ln ∧ ln ≤ 14 ∧ Good ds (ln - 1) ∧ (ds.length : Int) ≤ ln ∧
  ∀ a' o' H', Same H H' → Tv K C H' a' ln d o' ds [3] → Q (.ref a') H'
section
variable {P : Program} {w : World} {K : PySem.W.Frag} {mg : Str → Option Value} {base : Heap} {cV cN cP fV C fVN fVC fT : Addr} {fdV dVN dVC dT : FuncData} {mp : Value}
theorem ok_wx {f : Addr} {fd : FuncData} (F : Fun K "with_exception" "Travel.with_exception" sWx f fd) (T : TEv K mg cV cP fV fdV mp) (W : TTv K mg C fVN dVN) (NC : TNc K mg cN) (gVC : mg "validate_count" = some (.ref fVC)) (kVC : PySem.W.keepIn K (.ref fVC) = true) (uVC : Fun K "validate_count" "validate_count" sVC fVC dVC)
    (mT : mg "tuple" = none) (mS : mg "sorted" = none) (mN : mg "len" = none) (MK : Mk K C fT) (I : Fun K "__init__" "Travel.__init__" sTvI fT dT) :
    FnOk P w K mg base (L2.CX P w) 7 f fd ["self", "day"] (spWx K C) := by
  have GI : FnOk P w K mg base CX0 1 fV fdV ["self", "part", "index"] (spX2 K "part" "index") := ok_IV T
  have kb := kb_IV T
  have bVC : Binds K dVC ["count", "smallest", "largest"] [] := uVC.binds (ps := ["count", "smallest", "largest"]) fun _ _ _ _ _ _ us hl => match us, hl with | [_, _, _], _ => rfl
  refine F.okX scWx (fun vs H Q E h => ?_) (fun cdv A outer s H vs Q E hr h => ?_)
  · obtain ⟨a, ln, d, o, ds, rfl, _⟩ := h
    rfl
  · obtain ⟨a, ln, d, o, ds, rfl, ht, l1, l2, gd, nd, q1⟩ := h
    have PX : Passes (L2.CX P w) (cxOf (L2.CX P w) P w K mg base ["self", "day", "changed", "other"] "Travel.with_exception" (defScope sWx) f cdv A outer s H E) E := passes_call (takes_of rfl rfl rfl rfl) (fun _ _ _ _ h => h)
    refine ⟨_, pss_cons (ps_expr (pe_call (E := E) (ok_vc (k := 0) uVC NC) (hr.mono (by omega)) (by rfl) gVC kVC bVC .nil PX (pa_cons (pv 1) (pa_cons pe_int (pa_cons (C8.pe_gc (by rfl) W.mD) pa_nil)))))
      (pss_cut (ps_if (pt_cmpR op_in_seq (pv 1) (pe_fld (pv 0) rfl) (by rfl))
          (pss_one (ps_set (i := 2) scWx.nd rfl (.inl rfl) (pe_callTy call_tuple_of (by rfl) mT (by rfl) (pa_cons (pe_lc (own := [("other", 3)]) (g := gName 3) (by rfl) scWx.nd (pi_tup (pe_fld (pv 0) rfl)) (blkOk_by (own := [("other", 3)]) (N := ["self", "day", "changed", "other"]) (sc := defScope sWx) (by decide +kernel))
            (fun _ _ _ _ _ => pg_name (i := 3) scWx.nd rfl (Or.inl rfl)) (fun _ _ _ _ _ => pts_one (pt_cmpR op_ne (pv 3) (pv 1) (nomark _))) (fun _ _ _ _ _ => pv 3)) pa_nil))))
          (pss_one (ps_set (i := 2) scWx.nd rfl (.inl rfl) (pe_callTy call_tuple_of (by rfl) mT (by rfl) (pa_cons (pe_callB cr_sortedT (by rfl) mS (by decide +kernel) (pa_cons (pe_op op_catA (pe_fld (pv 0) rfl) (pe_tup (pa_cons (pv 1) pa_nil))) pa_nil)) pa_nil)))))
      (pss_cons (ps_if (pt_cmpR op_gt (pe_callB call_len_seq (by rfl) mN PySem.boot_len (pa_cons (pv 2) pa_nil)) (C8.pe_gc (by rfl) W.mX) (nomark _)) (pss_one (ps_raise rfl (takes_of rfl rfl rfl rfl) (pmk_kw T.xV T.iV T.tV GI (hr.mono (by omega)) kb pass0 (by rfl) T.gV (pk_cons pe_str (pk_cons (C8.pe_gc (by rfl) W.mX) pk_nil))))) pss_nil)
      (pss_one (ps_ret (pe_makeK (E := E) MK (ok_tvI I T W) hr (by rfl) W.gC (kb_tvI I) PX (pa_cons (pe_fld (pv 0) rfl) (pa_cons (pe_fld (pv 0) rfl) pa_nil)) (pk_cons (pv 2) pk_nil)))))), ?_⟩
    refine ⟨_, rfl, 3, 0, 1000000000000000000, rfl, fun _ H1 s1 => ?_, fun nb H1 s1 => absurd (by decide) nb⟩
    have t1 := ht.same s1
    obtain ⟨⟨dx, ha⟩, hdd, po, rfl, ho⟩ := id t1
    have ev_odd : ∀ {σ : L2.St} {H2 : Hp}, Same H1 H2 → σ[0]? = some (some (.ref a)) → Ev (tFld K (tVar 0) "odd_days") σ H2 (.ref po) := fun {σ H2} s2 hs H3 e Q q => ⟨.ref a, hs, a, C, dx, _, _, rfl, e _ _ (s2 _ _ ha), W.cl, W.nO, tvF_odd .., q H3 (Ex.refl _)⟩
    refine ⟨fun σ H' => ∃ v : V, σ = ([some (.ref a), some (.int 3), some v, none] : L2.St) ∧ TiA K H' v [3] ∧ Same H1 H', ?_, ?_⟩
    · refine s_if (b := inV (.int 3) (([] : List Int).map V.int)) (et_test (ev_op (ev_var rfl) (ev_odd (Same.refl _) rfl) (rv_isT ho rfl (flat_ints [])))) (fun hin H2 e2 => by cases hin) (fun hno H2 e2 => ?_)
      have ho2 : TiA K H2 (.ref po) [] := ⟨po, rfl, ex_t e2 ho⟩
      have eS := ei_tupP (R := fun ms => ms.Perm ([] ++ [3]) ∧ ms.Pairwise (· ≤ ·)) (ei_imp (ei_sortT (K := K) (ei_cat (σ := ([some (.ref a), some (.int 3), none, none] : L2.St)) (ta := tFld K (tVar 0) "odd_days") (tb := tTup (tCons (tVar 1) tNil)) (ei_ev (ev_odd e2 rfl) ho2) (ei_one (x := 3) (ev_var rfl)) (show 0 + 1 ≤ 1000 by decide)) (show 1 ≤ 1000 by decide)) fun v H ⟨ms, p1, p2, p3⟩ => ⟨ms, ⟨p1, p2⟩, p3⟩)
      refine eS H2 (Ex.refl _) _ fun v H3 e3 ⟨ms, ⟨perm, rising⟩, hv⟩ => ⟨v, rfl, ?_, Same.trans e2 e3⟩
      rw [show ms = [3] from List.perm_singleton.mp perm] at hv
      exact hv
    rintro σ H2 ⟨v, rfl, hv, s2⟩
    refine q_when (b := decide (((([3] : List Int).length : Nat) : Int) > 6)) (et_test (ev_op (ei_lenT (ei_var rfl hv)) ev_c rv_I0)) (fun hm H3 e3 => absurd hm (by decide)) (fun hm H3 e3 => ?_)
    have t3 := (t1.same s2).same e3
    obtain ⟨dx3, ha3⟩ := t3.1
    refine ⟨_, rfl, a, C, dx3, _, _, rfl, ha3, W.cl, W.nS, tvF_size _ _ _, _, rfl, a, C, dx3, _, _, rfl, ha3, W.cl, W.nP, tvF_pat _ _ _, _, rfl, rfl, rfl, fun x dx nx ndx _ => ?_⟩
    exact tv_new t3.2.1 (hv.tk (.same e3)) (by omega) (show 1 ≤ 1000 by decide) (tbad_ok l1 l2 gd nd good_three (show 1 ≤ 6 by decide)) nx ndx fun H' sm tv => ⟨rfl, q1 x v H' (Same.trans (Same.trans (Same.trans s1 s2) e3) sm) tv⟩
end
end Sea

set_option Elab.async false
set_option linter.all false
set_option maxRecDepth 100000
set_option maxHeartbeats 4000000
namespace Sea
open PySem PySem.Spec PyProof.Rows L2 LamX NdefX ClX Evl StX
abbrev sSm : Stmt := top 34
theorem scSm : FnScope ["_law_result", "_law_expected", "_law_k"] ["_law_result", "_law_expected"] (defScope sSm) := ⟨rfl, rfl, rfl, by decide +kernel, rfl, by decide +kernel, by decide +kernel⟩
/-- whole numbers and texts in lists and tuples -/
inductive SmD : Nat → PyData → Prop
  | int (n : Nat) (i : Int) : SmD n (.int i)
  | str (n : Nat) (z : Str) : SmD n (.str z)
  | lst {n : Nat} {ds : List PyData} (h : ∀ (i : Nat) (d : PyData), ds[i]? = some d → SmD n d) (hl : ds.length ≤ 1000) : SmD (n + 1) (.list ds)
  | tup {n : Nat} {ds : List PyData} (h : ∀ (i : Nat) (d : PyData), ds[i]? = some d → SmD n d) (hl : ds.length ≤ 1000) : SmD (n + 1) (.tuple ds)
def spSm (K : PySem.W.Frag) (n : Nat) : Sp := fun vs H Q _ => ∃ (m : Nat) (x y : V) (d : PyData), m < n ∧ vs = [x, y] ∧ Dp K H x d ∧ Dp K H y d ∧ SmD m d ∧ ∀ H', Same H H' → Q (.bl true) H'
structure TSm (K : PySem.W.Frag) (mg : Str → Option Value) (fA : Addr) (fdA : FuncData) : Prop where
  g : mg "_law_same" = some (.ref fA)
  kp : PySem.W.keepIn K (.ref fA) = true
  fu : Fun K "_law_same" "_law_same" sSm fA fdA
  mI : mg "isinstance" = none
  mN : mg "len" = none
  mR : mg "range" = none
  m_list : mg "list" = none
  m_tuple : mg "tuple" = none
  m_int : mg "int" = none
  m_bool : mg "bool" = none
theorem ka_str {K : PySem.W.Frag} : PySem.W.kitAny K (.type "str") [.type "tuple", .type "list"] = some false := kitAny_cons (b := false) (kit_ty (by decide +kernel)) (fun _ => kitAny_cons (b := false) (kit_ty (by decide +kernel)) (fun _ => rfl) (fun z => by cases z)) (fun z => by cases z)
section
variable {P : Program} {w : World} {K : PySem.W.Frag} {mg : Str → Option Value} {base : Heap} {fA : Addr} {fdA : FuncData}
theorem ok_sm (T : TSm K mg fA fdA) : ∀ n, FnOk P w K mg base CX0 n fA fdA ["_law_result", "_law_expected"] (spSm K n)
  | 0 => ⟨fun vs H Q E h => by obtain ⟨m, _, _, _, hm, _⟩ := h; exact absurd hm (Nat.not_lt_zero _), by
      intros
      rename_i h
      obtain ⟨m, _, _, _, hm, _⟩ := h
      exact absurd hm (Nat.not_lt_zero _)⟩
  | n + 1 => by
    have ih := ok_sm T n
    have bA : Binds K fdA ["_law_result", "_law_expected"] [] := T.fu.binds (ps := ["_law_result", "_law_expected"]) fun _ _ _ _ _ _ us hl => match us, hl with | [_, _], _ => rfl
    refine T.fu.ok scSm (fun vs H Q E h => ?_) (fun cdv A outer s H vs Q E hr h => ?_)
    · obtain ⟨m, x, y, d, hm, rfl, _⟩ := h
      rfl
    · obtain ⟨m, x, y, d, hm, rfl, h1, h2, hd, q⟩ := h
      have hu := hr.units
      refine ⟨_, pss_cons (ps_if (pt_val (pe_callB call_isiT (by rfl) T.mI PyProof.Rows.boot_isinstance (pa_cons (pv 1) (pa_cons (pe_tup (pa_cons (pe_bltn (v := .ty "tuple") (by rfl) T.m_tuple (by decide +kernel) rfl) (pa_cons (pe_bltn (v := .ty "list") (by rfl) T.m_list (by decide +kernel) rfl) pa_nil))) pa_nil)))) (pss_cons (ps_if (PW.pt (pw_or (pt_not (pt_val (pe_callB call_isiT (by rfl) T.mI PyProof.Rows.boot_isinstance (pa_cons (pv 0) (pa_cons (pe_tup (pa_cons (pe_bltn (v := .ty "tuple") (by rfl) T.m_tuple (by decide +kernel) rfl) (pa_cons (pe_bltn (v := .ty "list") (by rfl) T.m_list (by decide +kernel) rfl) pa_nil))) pa_nil))))) (pw_or1 (pt_cmpR op_ne (pe_callB call_isi (by rfl) T.mI PyProof.Rows.boot_isinstance (pa_cons (pv 0) (pa_cons (pe_bltn (v := .ty "list") (by rfl) T.m_list (by decide +kernel) rfl) pa_nil))) (pe_callB call_isi (by rfl) T.mI PyProof.Rows.boot_isinstance (pa_cons (pv 1) (pa_cons (pe_bltn (v := .ty "list") (by rfl) T.m_list (by decide +kernel) rfl) pa_nil))) (nomark _))))) pss_never pss_nil)
        (pss_cons (ps_if (pt_cmpR op_ne (pe_callB call_len_seq (by rfl) T.mN PySem.boot_len (pa_cons (pv 0) pa_nil)) (pe_callB call_len_seq (by rfl) T.mN PySem.boot_len (pa_cons (pv 1) pa_nil)) (nomark _)) pss_never pss_nil)
        (pss_one (ps_ret (pe_cmpR (op_eqD hu) (pe_lc (X := (cxOf CX0 P w K mg base ["_law_result", "_law_expected", "_law_k"] "_law_same" (defScope sSm) fA cdv A outer s H E).nox) (own := [("_law_k", 2)]) (g := gName 2) (by rfl) scSm.nd (pi_range1 (by rfl) T.mR (pa_cons (pe_callB call_len_seq (by rfl) T.mN PySem.boot_len (pa_cons (pv 1) pa_nil)) pa_nil))
          (blkOk_by (own := [("_law_k", 2)]) (N := ["_law_result", "_law_expected", "_law_k"]) (sc := defScope sSm) (by decide +kernel)) (fun _ _ _ _ _ => pg_name (i := 2) scSm.nd rfl (Or.inl rfl))
          (fun _ _ _ _ _ => pts_one (pt_not (pt_val (pe_call (E := E0) ih hr (by rfl) T.g T.kp bA .nil pass0 (pa_cons (pe_ixsK K rfl (pv 0) (pv 2)) (pa_cons (pe_ixsK K rfl (pv 1) (pv 2)) pa_nil)))))) (fun _ _ _ _ _ => pv 2)) (pe_lst pa_nil) (nomark _)))))) pss_nil)
      (pss_cons (ps_if (pt_cmpR op_ne (pe_callB call_isi (by rfl) T.mI PyProof.Rows.boot_isinstance (pa_cons (pv 0) (pa_cons (pe_bltn (v := .ty "bool") (by rfl) T.m_bool (by decide +kernel) rfl) pa_nil))) (pe_callB call_isi (by rfl) T.mI PyProof.Rows.boot_isinstance (pa_cons (pv 1) (pa_cons (pe_bltn (v := .ty "bool") (by rfl) T.m_bool (by decide +kernel) rfl) pa_nil))) (nomark _)) pss_never pss_nil)
      (pss_one (ps_ret (pe_and (pe_cmpR op_eq (pe_callB call_isi (by rfl) T.mI PyProof.Rows.boot_isinstance (pa_cons (pv 0) (pa_cons (pe_bltn (v := .ty "int") (by rfl) T.m_int (by decide +kernel) rfl) pa_nil))) (pe_callB call_isi (by rfl) T.mI PyProof.Rows.boot_isinstance (pa_cons (pv 1) (pa_cons (pe_bltn (v := .ty "int") (by rfl) T.m_int (by decide +kernel) rfl) pa_nil))) (nomark _)) (pe_one (pe_cmpR op_eq (pv 0) (pv 1) (nomark _))))))), ?_⟩
      dsimp only
      cases hd with
      | int m i =>
        cases h1
        cases h2
        refine q_when (b := false) (et_B (ev_isiT rfl (fun H2 _ => .base (.int i)) ka_int)) (fun z => by cases z) fun _ H2 e2 => ?_
        refine q_when (b := false) (et_is (et_test (ev_op (ev_isi (b := false) rfl (fun H3 _ => .base (.int i)) (kit_ty (by decide +kernel))) (ev_isi (b := false) rfl (fun H3 _ => .base (.int i)) (kit_ty (by decide +kernel))) (rv_ne rfl))) (by decide +kernel)) (fun z => by cases z) fun _ H3 e3 => ?_
        refine s_ret (v := .bl true) (ev_is (ev_andV (ev_op (ev_isi (b := true) rfl (fun H3 _ => .base (.int i)) (kit_ty (by decide +kernel))) (ev_isi (b := true) rfl (fun H3 _ => .base (.int i)) (kit_ty (by decide +kernel))) (rv_eq rfl)) fun _ => ev_op (ev_var rfl) (ev_var rfl) (rv_eq rfl)) ?_) fun H4 e4 => q H4 ((Same.trans e2 e3).trans e4)
        simp
      | str m i =>
        cases h1
        cases h2
        refine q_when (b := false) (et_B (ev_isiT rfl (fun H2 _ => .base (.str i)) ka_str)) (fun z => by cases z) fun _ H2 e2 => ?_
        refine q_when (b := false) (et_is (et_test (ev_op (ev_isi (b := false) rfl (fun H3 _ => .base (.str i)) (kit_ty (by decide +kernel))) (ev_isi (b := false) rfl (fun H3 _ => .base (.str i)) (kit_ty (by decide +kernel))) (rv_ne rfl))) (by decide +kernel)) (fun z => by cases z) fun _ H3 e3 => ?_
        refine s_ret (v := .bl true) (ev_is (ev_andV (ev_op (ev_isi (b := false) rfl (fun H3 _ => .base (.str i)) (kit_ty (by decide +kernel))) (ev_isi (b := false) rfl (fun H3 _ => .base (.str i)) (kit_ty (by decide +kernel))) (rv_eq rfl)) fun _ => ev_op (ev_var rfl) (ev_var rfl) (rv_eq rfl)) ?_) fun H4 e4 => q H4 ((Same.trans e2 e3).trans e4)
        simp
      | @lst m ds hds hl =>
        cases h1 with
        | @lst a xs _ ha hxs =>
        cases h2 with
        | @lst b ys _ hb hys =>
        have lx := dps_len hxs
        have ly := dps_len hys
        have tx : ∀ H1, Ex H H1 → TyX K H1 (.ref a) (.type "list") := fun H1 e => tyx_lst (ex_l e ha)
        have tyy : ∀ H1, Ex H H1 → TyX K H1 (.ref b) (.type "list") := fun H1 e => tyx_lst (ex_l e hb)
        refine q_when (b := true) (et_B (ev_isiT rfl tyy ka_list)) (fun _ H2 e12 => ?_) (fun z => by cases z)
        refine q_when (b := false) (et_is (et_or (a := false) (b := false) (et_is (et_not (et_B (ev_isiT rfl (fun H3 e3 => tx H3 (e12.trans e3)) ka_list))) rfl) fun _ => et_is (et_test (ev_op (ev_isi (b := true) rfl (fun H3 e3 => tx H3 (e12.trans e3)) (kit_ty (by decide +kernel))) (ev_isi (b := true) rfl (fun H3 e3 => tyy H3 (e12.trans e3)) (kit_ty (by decide +kernel))) (rv_ne rfl))) (by decide +kernel)) rfl) (fun z => by cases z) fun _ H3 e3 => ?_
        have e13 := e12.trans e3
        refine q_when (b := false) (et_is (et_test (ev_op (ev_lenS rfl (.inl (ex_l e13 ha))) (ev_lenS rfl (.inl (ex_l e13 hb))) (rv_ne rfl))) (by rw [lx, ly]; simp)) (fun z => by cases z) fun _ H4 e4 => ?_
        have e14 := e13.trans e4
        refine s_ret (v := .bl true) (ev_is (ev_opLL (xs := []) (ys := []) ?_ (el_lst ea_nil (by decide)) (fun p r H5 hp hr5 e5 => rv_eqD (d := .list []) (e := .list []) (fun H6 e6 => .lst (.of (e6 _ _ hp)) .nil) (fun H6 e6 => .lst (.of (e6 _ _ hr5)) .nil) rfl rfl)) rfl) fun H5 e5 => q H5 (Same.trans e14 e5)
        have eL := el_lcR1 (n := ((ys.length : Nat) : Int)) (fun _ => false) (fun k => V.int (k : Nat)) (σ := L2.start ["_law_result", "_law_expected", "_law_k"] [.ref a, .ref b]) (H := H4) (j := 2) (vs := [2]) (t := tNot (tB (tCall (spSm K n) [] E0 (tCons (tOp (rIx K) (tVar 0) (tVar 2)) (tCons (tOp (rIx K) (tVar 1) (tVar 2)) tNil))))) (te := tVar 2)
          (ta := tCons (tCB (fun xs H Q => ∃ p ys, xs = [V.ref p] ∧ (SqL K H p ys ∨ SqT K H p ys) ∧ Q (.int ys.length) H) (tCons (tVar 1) tNil)) tNil) (ea_cons (ev_lenS rfl (.inl (ex_l e14 hb))) ea_nil) ⟨by omega, by omega⟩ (fun x => rfl) (fun i H5 e5 hi => ?_) (fun i H5 e5 hi _ => ev_var rfl)
        · rw [given_none] at eL
          exact eL
        · have hi2 : i < ds.length := by omega
          obtain ⟨v, d1, gv, gd, dv⟩ := dps_get hxs hi2
          obtain ⟨u, d2, gu, gd2, du⟩ := dps_get hys hi2
          obtain rfl : d1 = d2 := Option.some.inj (gd.symm.trans gd2)
          have e15 := e14.trans e5
          have av : atI xs ((i : Nat) : Int) = some v := at_nat (by rw [lx]; exact hi2) gv
          have au : atI ys ((i : Nat) : Int) = some u := at_nat (by rw [ly]; exact hi2) gu
          refine et_is (et_not (et_B (ev_call (vs := [v, u]) (z := .bl true) (ea_cons (ev_op (ev_var rfl) (ev_var rfl) (fun H6 e6 Q6 q6 => .inl (rv_ixL (ex_l e15 ha) av H6 e6 Q6 q6))) (ea_cons (ev_op (ev_var rfl) (ev_var rfl) (fun H6 e6 Q6 q6 => .inl (rv_ixL (ex_l e15 hb) au H6 e6 Q6 q6))) ea_nil)) ?_))) rfl
          exact fun H6 e6 Q6 q6 E6 => ⟨m, v, u, d1, by omega, rfl, dp_ex (e15.trans e6) dv, dp_ex (e15.trans e6) du, hds i d1 gd, fun H7 s7 => q6 H7 s7⟩
      | @tup m ds hds hl =>
        cases h1 with
        | @tup a xs _ ha hxs =>
        cases h2 with
        | @tup b ys _ hb hys =>
        have lx := dps_len hxs
        have ly := dps_len hys
        have tx : ∀ H1, Ex H H1 → TyX K H1 (.ref a) (.type "tuple") := fun H1 e => tyx_tup (ex_t e ha)
        have tyy : ∀ H1, Ex H H1 → TyX K H1 (.ref b) (.type "tuple") := fun H1 e => tyx_tup (ex_t e hb)
        refine q_when (b := true) (et_B (ev_isiT rfl tyy ka_tuple)) (fun _ H2 e12 => ?_) (fun z => by cases z)
        refine q_when (b := false) (et_is (et_or (a := false) (b := false) (et_is (et_not (et_B (ev_isiT rfl (fun H3 e3 => tx H3 (e12.trans e3)) ka_tuple))) rfl) fun _ => et_is (et_test (ev_op (ev_isi (b := false) rfl (fun H3 e3 => tx H3 (e12.trans e3)) (kit_ty (by decide +kernel))) (ev_isi (b := false) rfl (fun H3 e3 => tyy H3 (e12.trans e3)) (kit_ty (by decide +kernel))) (rv_ne rfl))) (by decide +kernel)) rfl) (fun z => by cases z) fun _ H3 e3 => ?_
        have e13 := e12.trans e3
        refine q_when (b := false) (et_is (et_test (ev_op (ev_lenS rfl (.inr (ex_t e13 ha))) (ev_lenS rfl (.inr (ex_t e13 hb))) (rv_ne rfl))) (by rw [lx, ly]; simp)) (fun z => by cases z) fun _ H4 e4 => ?_
        have e14 := e13.trans e4
        refine s_ret (v := .bl true) (ev_is (ev_opLL (xs := []) (ys := []) ?_ (el_lst ea_nil (by decide)) (fun p r H5 hp hr5 e5 => rv_eqD (d := .list []) (e := .list []) (fun H6 e6 => .lst (.of (e6 _ _ hp)) .nil) (fun H6 e6 => .lst (.of (e6 _ _ hr5)) .nil) rfl rfl)) rfl) fun H5 e5 => q H5 (Same.trans e14 e5)
        have eL := el_lcR1 (n := ((ys.length : Nat) : Int)) (fun _ => false) (fun k => V.int (k : Nat)) (σ := L2.start ["_law_result", "_law_expected", "_law_k"] [.ref a, .ref b]) (H := H4) (j := 2) (vs := [2]) (t := tNot (tB (tCall (spSm K n) [] E0 (tCons (tOp (rIx K) (tVar 0) (tVar 2)) (tCons (tOp (rIx K) (tVar 1) (tVar 2)) tNil))))) (te := tVar 2)
          (ta := tCons (tCB (fun xs H Q => ∃ p ys, xs = [V.ref p] ∧ (SqL K H p ys ∨ SqT K H p ys) ∧ Q (.int ys.length) H) (tCons (tVar 1) tNil)) tNil) (ea_cons (ev_lenS rfl (.inr (ex_t e14 hb))) ea_nil) ⟨by omega, by omega⟩ (fun x => rfl) (fun i H5 e5 hi => ?_) (fun i H5 e5 hi _ => ev_var rfl)
        · rw [given_none] at eL
          exact eL
        · have hi2 : i < ds.length := by omega
          obtain ⟨v, d1, gv, gd, dv⟩ := dps_get hxs hi2
          obtain ⟨u, d2, gu, gd2, du⟩ := dps_get hys hi2
          obtain rfl : d1 = d2 := Option.some.inj (gd.symm.trans gd2)
          have e15 := e14.trans e5
          have av : atI xs ((i : Nat) : Int) = some v := at_nat (by rw [lx]; exact hi2) gv
          have au : atI ys ((i : Nat) : Int) = some u := at_nat (by rw [ly]; exact hi2) gu
          refine et_is (et_not (et_B (ev_call (vs := [v, u]) (z := .bl true) (ea_cons (ev_op (ev_var rfl) (ev_var rfl) (fun H6 e6 Q6 q6 => .inr (.inl (rv_ixT (ex_t e15 ha) av H6 e6 Q6 q6)))) (ea_cons (ev_op (ev_var rfl) (ev_var rfl) (fun H6 e6 Q6 q6 => .inr (.inl (rv_ixT (ex_t e15 hb) au H6 e6 Q6 q6)))) ea_nil)) ?_))) rfl
          exact fun H6 e6 Q6 q6 E6 => ⟨m, v, u, d1, by omega, rfl, dp_ex (e15.trans e6) dv, dp_ex (e15.trans e6) du, hds i d1 gd, fun H7 s7 => q6 H7 s7⟩
end
end Sea

set_option Elab.async false
set_option linter.all false
set_option maxRecDepth 100000
set_option maxHeartbeats 4000000
namespace Sea
open PySem PySem.Spec PyProof.Rows L2 LamX NdefX ClX Evl StX
abbrev sRf : Stmt := top 44
abbrev sLaw : Stmt := top 45
/-- all that the law leans on -/
structure Gd (P : Program) (K : PySem.W.Frag) (mg : Str → Option Value) where
  C : Addr
  CV : Addr
  DB : Addr
  DF : Addr
  DT : Addr
  DS : Addr
  S : Addr
  cP : Addr
  cI : Addr
  cV : Addr
  cU : Addr
  cN : Addr
  fI : Addr
  fV : Addr
  fT : Addr
  fTv : Addr
  fVN : Addr
  fVP : Addr
  fVC : Addr
  fP : Addr
  pP : Addr
  fL : Addr
  pL : Addr
  fR : Addr
  pR : Addr
  fRl : Addr
  pRl : Addr
  fRd : Addr
  pRd : Addr
  fEx : Addr
  pEx : Addr
  fWx : Addr
  pT1 : Addr
  fT1 : Addr
  fB1 : Addr
  fC1 : Addr
  fG1 : Addr
  pT2 : Addr
  fT2 : Addr
  fB2 : Addr
  fC2 : Addr
  fG2 : Addr
  pT3 : Addr
  fT3 : Addr
  fB3 : Addr
  fC3 : Addr
  fG3 : Addr
  fFx : Addr
  fTn : Addr
  fSw : Addr
  fBy : Addr
  fSI : Addr
  fSd : Addr
  fTa : Addr
  fSp : Addr
  fPu : Addr
  fFr : Addr
  fSr : Addr
  fSt : Addr
  fD : Addr
  fSm : Addr
  fOu : Addr
  fPas : Addr
  fTar : Addr
  fDay : Addr
  fHab : Addr
  fBuy : Addr
  fCh : Addr
  fSim : Addr
  fLg : Addr
  fRf : Addr
  eT : Addr
  Pt : Addr
  mc : Value
  mp : Value
  md : Value
  dI : FuncData
  dV : FuncData
  dT : FuncData
  dTv : FuncData
  dVN : FuncData
  dVP : FuncData
  dVC : FuncData
  dP : FuncData
  dL : FuncData
  dR : FuncData
  dRl : FuncData
  dRd : FuncData
  dEx : FuncData
  dWx : FuncData
  dT1 : FuncData
  dB1 : FuncData
  dC1 : FuncData
  dG1 : FuncData
  dT2 : FuncData
  dB2 : FuncData
  dC2 : FuncData
  dG2 : FuncData
  dT3 : FuncData
  dB3 : FuncData
  dC3 : FuncData
  dG3 : FuncData
  dFx : FuncData
  dTn : FuncData
  dSw : FuncData
  dBy : FuncData
  dSI : FuncData
  dSd : FuncData
  dTa : FuncData
  dSp : FuncData
  dPu : FuncData
  dFr : FuncData
  dSr : FuncData
  dSt : FuncData
  dD : FuncData
  dSm : FuncData
  dOu : FuncData
  dPas : FuncData
  dTar : FuncData
  dDay : FuncData
  dHab : FuncData
  dBuy : FuncData
  dCh : FuncData
  dSim : FuncData
  dLg : FuncData
  dRf : FuncData
  X : TX K mg C cI cU cP fI mc mp
  I : TMk K C fI fT dI dT
  Q : TP K C fP pP dP
  LP : TLp K C fL pL fR pR dL dR
  EV : TEv K mg cV cP fV dV mp
  W : TTv K mg CV fVN dVN
  mkV : Mk K CV fTv
  uTv : Fun K "__init__" "Travel.__init__" sTvI fTv dTv
  kTv : FunD K "__init__" "Travel.__init__" (defArgs sTvI) (defBody sTvI) (defScope sTvI) [] [("exceptions", V.ref eT)] fTv dTv
  eTv : ∃ (o : Obj) (n : Nat), K.lookup eT = some o ∧ o.cls = .type "tuple" ∧ o.data = .seq #[] n
  R : TPr K CV fRl pRl fRd pRd fEx pEx dRl dRd dEx
  mWx : Meth K CV "with_exception" fWx
  uWx : Fun K "with_exception" "Travel.with_exception" sWx fWx dWx
  DN : TDn K mg fD dD
  VL : TVl K mg fVP fVC cN dVP dVC
  NM : TNm K mg DF DT DS
  K1 : TKf K DF pT1 fT1 fB1 fC1 fG1 dT1 dB1 dC1 dG1
  K2 : TKt K DT pT2 fT2 fB2 fC2 fG2 dT2 dB2 dC2 dG2
  K3 : TKs K DS pT3 fT3 fB3 fC3 fG3 dT3 dB3 dC3 dG3
  MB : TMb P K mg DF DT DS fFx fTn fSw fBy dFx dTn dSw dBy md
  SP : TSg K mg S
  SD : TSd K mg S fSI fSd fTa fVC cN dSI dSd dTa dVC
  PU : TPu K mg
  FR : TFr K mg fFr dFr
  OU : TOu K mg cN cV cU
  CH : TCh K mg fLg fCh dLg dCh
  SM : TSm K mg fSm dSm
  nsN : PySem.W.subIn K (.ref cN) (.type "StopIteration") = some false
  nsV : PySem.W.subIn K (.ref cV) (.type "StopIteration") = some false
  gSp : mg "spend" = some (.ref fSp)
  kSp : PySem.W.keepIn K (.ref fSp) = true
  uSp : Fun K "spend" "spend" sSpd fSp dSp
  gPu : mg "purchases_of" = some (.ref fPu)
  kPu : PySem.W.keepIn K (.ref fPu) = true
  uPu : Fun K "purchases_of" "purchases_of" sPu fPu dPu
  gSr : mg "spent_per_round" = some (.ref fSr)
  kSr : PySem.W.keepIn K (.ref fSr) = true
  uSr : Fun K "spent_per_round" "spent_per_round" sSr fSr dSr
  gSt : mg "_law_start" = some (.ref fSt)
  kSt : PySem.W.keepIn K (.ref fSt) = true
  uSt : Fun K "_law_start" "_law_start" sStart fSt dSt
  gOu : mg "_law_outcome" = some (.ref fOu)
  kOu : PySem.W.keepIn K (.ref fOu) = true
  uOu : Fun K "_law_outcome" "_law_outcome" sOut fOu dOu
  gPas : mg "_law_passes" = some (.ref fPas)
  kPas : PySem.W.keepIn K (.ref fPas) = true
  uPas : Fun K "_law_passes" "_law_passes" sPas fPas dPas
  gTar : mg "_law_tariff" = some (.ref fTar)
  kTar : PySem.W.keepIn K (.ref fTar) = true
  uTar : Fun K "_law_tariff" "_law_tariff" sTar fTar dTar
  gDay : mg "_law_days" = some (.ref fDay)
  kDay : PySem.W.keepIn K (.ref fDay) = true
  uDay : Fun K "_law_days" "_law_days" sDay fDay dDay
  gHab : mg "_law_habit" = some (.ref fHab)
  kHab : PySem.W.keepIn K (.ref fHab) = true
  uHab : Fun K "_law_habit" "_law_habit" sHab fHab dHab
  gBuy : mg "_law_buyer" = some (.ref fBuy)
  kBuy : PySem.W.keepIn K (.ref fBuy) = true
  uBuy : Fun K "_law_buyer" "_law_buyer" sBuy fBuy dBuy
  gSim : mg "_law_simulated" = some (.ref fSim)
  kSim : PySem.W.keepIn K (.ref fSim) = true
  uSim : Fun K "_law_simulated" "_law_simulated" sSim fSim dSim
  gRf : mg "_law_refused" = some (.ref fRf)
  kRf : PySem.W.keepIn K (.ref fRf) = true
  uRf : Fun K "_law_refused" "_law_refused" sRf fRf dRf
  m_range : mg "range" = none
  m_tuple : mg "tuple" = none
  m_sorted : mg "sorted" = none
  m_list : mg "list" = none
  m_len : mg "len" = none
section
variable {P : Program} {K : PySem.W.Frag} {mg : Str → Option Value}
theorem Gd.bSp (G : Gd P K mg) : Binds K G.dSp ["buyer", "travel", "count"] [] := G.uSp.binds (ps := ["buyer", "travel", "count"]) fun _ _ _ _ _ _ us hl => match us, hl with | [_, _, _], _ => rfl
theorem Gd.bPu (G : Gd P K mg) : Binds K G.dPu ["buyer", "travel", "first", "last"] [] := G.uPu.binds (ps := ["buyer", "travel", "first", "last"]) fun _ _ _ _ _ _ us hl => match us, hl with | [_, _, _, _], _ => rfl
theorem Gd.bSr (G : Gd P K mg) : Binds K G.dSr ["buyer", "travel"] [] := G.uSr.binds (ps := ["buyer", "travel"]) fun _ _ _ _ _ _ us hl => match us, hl with | [_, _], _ => rfl
theorem Gd.bSt (G : Gd P K mg) : Binds K G.dSt ["_law_script"] [] := G.uSt.binds (ps := ["_law_script"]) fun _ _ _ _ _ _ us hl => match us, hl with | [_], _ => rfl
theorem Gd.bPas (G : Gd P K mg) : Binds K G.dPas ["_law_state", "_law_most"] [] := G.uPas.binds (ps := ["_law_state", "_law_most"]) fun _ _ _ _ _ _ us hl => match us, hl with | [_, _], _ => rfl
theorem Gd.bTar (G : Gd P K mg) : Binds K G.dTar ["_law_passes_here"] [] := G.uTar.binds (ps := ["_law_passes_here"]) fun _ _ _ _ _ _ us hl => match us, hl with | [_], _ => rfl
theorem Gd.bDay (G : Gd P K mg) : Binds K G.dDay ["_law_state"] [] := G.uDay.binds (ps := ["_law_state"]) fun _ _ _ _ _ _ us hl => match us, hl with | [_], _ => rfl
theorem Gd.bHab (G : Gd P K mg) : Binds K G.dHab ["_law_state", "_law_count"] [] := G.uHab.binds (ps := ["_law_state", "_law_count"]) fun _ _ _ _ _ _ us hl => match us, hl with | [_, _], _ => rfl
theorem Gd.bBuy (G : Gd P K mg) : Binds K G.dBuy ["_law_tariff_here", "_law_habit_here"] [] := G.uBuy.binds (ps := ["_law_tariff_here", "_law_habit_here"]) fun _ _ _ _ _ _ us hl => match us, hl with | [_, _], _ => rfl
theorem Gd.bSim (G : Gd P K mg) : Binds K G.dSim ["_law_passes_here", "_law_habit_here", "_law_length", "_law_days_here", "_law_last"] [] := G.uSim.binds (ps := ["_law_passes_here", "_law_habit_here", "_law_length", "_law_days_here", "_law_last"]) fun _ _ _ _ _ _ us hl => match us, hl with | [_, _, _, _, _], _ => rfl
theorem Gd.bRf (G : Gd P K mg) : Binds K G.dRf ["_law_tariff_here", "_law_buyer_here", "_law_travel", "_law_count"] [] := G.uRf.binds (ps := ["_law_tariff_here", "_law_buyer_here", "_law_travel", "_law_count"]) fun _ _ _ _ _ _ us hl => match us, hl with | [_, _, _, _], _ => rfl
end
section
variable {P : Program} {w : World} {K : PySem.W.Frag} {mg : Str → Option Value} {base : Heap}
/-- Travel(a, b): the exceptions lack -/
theorem Gd.bTv0 (G : Gd P K mg) : ∃ ds, Vals [V.ref G.eT] ds ∧ Binds K G.dTv ["self", "length", "days", "exceptions"] ds :=
  G.kTv.binds0 (ps := ["self", "length", "days", "exceptions"]) 3 (by simp) rfl fun D doc pm an cdv ct us ks l1 l2 => match us, ks, l1, l2 with
    | [u, v, x], [y], _, _ => ⟨_, _, _, _, _, _, rfl, rfl, rfl⟩
theorem Gd.nil (G : Gd P K mg) (H : Hp) : TiA K H (.ref G.eT) [] := by
  obtain ⟨o, n, h1, h2, h3⟩ := G.eTv
  exact ⟨_, rfl, .inr ⟨o, #[], n, h1, h2, h3, Nat.zero_le _, .nil⟩⟩
def Gd.M (G : Gd P K mg) : TB3 P w K mg base G.C G.CV G.DF G.DT G.DS := ⟨kFix G.K1 G.NM, kTurn G.K2 G.X G.NM, kSw G.K3 G.X G.LP G.NM, ⟨rfl, rfl⟩, ⟨rfl, rfl⟩, ⟨rfl, rfl⟩⟩
theorem g_sp (G : Gd P K mg) : FnOk P w K mg base (L2.CX P w) 7 G.fSp G.dSp ["buyer", "travel", "count"] (spSp3 K G.C G.CV G.DF G.DT G.DS G.cV G.cN) := ok_sp3 G.M G.uSp G.SP G.X G.Q G.W G.R G.EV G.SD
theorem g_sr (G : Gd P K mg) : FnOk P w K mg base (L2.CX P w) 7 G.fSr G.dSr ["buyer", "travel"] (spSr3 K G.C G.CV G.DF G.DT G.DS G.cV) := ok_sr3 G.M G.uSr G.SP G.X G.Q G.W G.R G.EV G.SD G.FR
theorem g_pu (G : Gd P K mg) : GFn P w K mg base 7 G.fPu G.dPu ["buyer", "travel", "first", "last"] (spPu3 K G.C G.CV G.DF G.DT G.DS G.cV G.cN) ∧ CFn P w K mg base 7 G.fPu G.dPu ["buyer", "travel", "first", "last"] (spPu3 K G.C G.CV G.DF G.DT G.DS G.cV G.cN) := ok_pu3 G.M G.uPu G.SP G.X G.Q G.W G.R G.EV G.SD G.PU
end
/-! ### lambdas by their places -/
def mkF (q : Str) (e : Expr) (cl : List (Str × Addr)) (c : Addr) (dV : Value) : LF := ⟨q, lamP e, lamB e, lamS e, cl, c, dV⟩
theorem dv_none {q : Str} {e : Expr} {cl : List (Str × Addr)} {c : Addr} {H : Hp} : DvOk (mkF q e cl c .none) H := fun t z => by
  have z' : Value.none = Value.ref t := z
  cases z'
def qRf : Str := (envOfC "_law_refused" (defScope sRf) 0 0 .none).qual ++ "<lambda>"
abbrev Gd.tb {P : Program} {K : PySem.W.Frag} {mg : Str → Option Value} (G : Gd P K mg) : List (Addr × Str) := [(G.Pt, qRf)]
abbrev rfB (i : Nat) : Stmt := (defBody sRf).getD i noS
def binR : Expr → Expr
  | .BinOp _ _ r _ => r
  | _ => noE
abbrev lam0 : Expr := lisI 0 (asgE (rfB 0))
theorem sc0 : NScope ["_law_tariff_here", "_law_count"] [] ["_law_tariff_here", "_law_count"] (lamS lam0) := nscope_by (by decide +kernel)
abbrev lam1 : Expr := lisI 1 (asgE (rfB 0))
theorem sc1 : NScope ["_law_a", "_law_tariff_here", "_law_count"] ["_law_a"] ["_law_tariff_here", "_law_count"] (lamS lam1) := nscope_by (by decide +kernel)
abbrev lam2 : Expr := lisI 0 (binR (asgE (rfB 1)))
theorem sc2 : NScope ["_law_b", "_law_tariff_here"] ["_law_b"] ["_law_tariff_here"] (lamS lam2) := nscope_by (by decide +kernel)
abbrev lam3 : Expr := lisI 1 (binR (asgE (rfB 1)))
theorem sc3 : NScope ["_law_c", "_law_tariff_here", "_law_count"] ["_law_c"] ["_law_tariff_here", "_law_count"] (lamS lam3) := nscope_by (by decide +kernel)
abbrev lam4 : Expr := callA (asgE (rfB 2))
theorem sc4 : NScope ["_law_e", "_law_tariff_here", "_law_count"] ["_law_e"] ["_law_tariff_here", "_law_count"] (lamS lam4) := nscope_by (by decide +kernel)
abbrev lam5 : Expr := callA (asgE (rfB 3))
theorem sc5 : NScope ["_law_f", "_law_tariff_here", "_law_count"] ["_law_f"] ["_law_tariff_here", "_law_count"] (lamS lam5) := nscope_by (by decide +kernel)
abbrev lam6 : Expr := lisI 0 (asgE (rfB 5))
theorem sc6 : NScope ["_law_tariff_here"] [] ["_law_tariff_here"] (lamS lam6) := nscope_by (by decide +kernel)
abbrev lam7 : Expr := lisI 1 (asgE (rfB 5))
theorem sc7 : NScope ["_law_a", "_law_tariff_here"] ["_law_a"] ["_law_tariff_here"] (lamS lam7) := nscope_by (by decide +kernel)
abbrev lam8 : Expr := lisI 0 (binR (asgE (rfB 6)))
theorem sc8 : NScope ["_law_b", "_law_tariff_here"] ["_law_b"] ["_law_tariff_here"] (lamS lam8) := nscope_by (by decide +kernel)
abbrev lam9 : Expr := lisI 1 (binR (asgE (rfB 6)))
theorem sc9 : NScope ["_law_c", "_law_buyer_here", "_law_travel"] ["_law_c"] ["_law_buyer_here", "_law_travel"] (lamS lam9) := nscope_by (by decide +kernel)
abbrev lam10 : Expr := callA (asgE (rfB 7))
theorem sc10 : NScope ["_law_e", "_law_buyer_here", "_law_travel"] ["_law_e"] ["_law_buyer_here", "_law_travel"] (lamS lam10) := nscope_by (by decide +kernel)
abbrev lam11 : Expr := callA (asgE (rfB 8))
theorem sc11 : NScope ["_law_f", "_law_buyer_here", "_law_travel"] ["_law_f"] ["_law_buyer_here", "_law_travel"] (lamS lam11) := nscope_by (by decide +kernel)
abbrev lam12 : Expr := callA (asgE (rfB 9))
theorem sc12 : NScope ["_law_g", "_law_buyer_here", "_law_travel"] ["_law_g"] ["_law_buyer_here", "_law_travel"] (lamS lam12) := nscope_by (by decide +kernel)
abbrev lam13 : Expr := lisI 0 (asgE (rfB 12))
theorem sc13 : NScope ["_law_buyer_here", "_law_odd"] [] ["_law_buyer_here", "_law_odd"] (lamS lam13) := nscope_by (by decide +kernel)
abbrev lam14 : Expr := lisI 1 (asgE (rfB 12))
theorem sc14 : NScope ["_law_a", "_law_buyer_here", "_law_odd"] ["_law_a"] ["_law_buyer_here", "_law_odd"] (lamS lam14) := nscope_by (by decide +kernel)
abbrev lam15 : Expr := callA (asgE (rfB 13))
theorem sc15 : NScope ["_law_b", "_law_buyer_here", "_law_odd"] ["_law_b"] ["_law_buyer_here", "_law_odd"] (lamS lam15) := nscope_by (by decide +kernel)
end Sea

set_option Elab.async false
set_option linter.all false
set_option maxRecDepth 100000
set_option maxHeartbeats 4000000
/-! what the lambdas of _law_refused promise -/
namespace Sea
open PySem PySem.Spec PyProof.Rows L2 LamX NdefX ClX Evl StX
def tsU2 (K : PySem.W.Frag) (C : Addr) (cls : Value) : TSp := fun ws H Q E => ∃ (t p : Addr) (L : List (Int × Int)) (n : Int), ws = [some (.ref t), some (.int n)] ∧ Tar K C H t p L ∧ n = L.length ∧ 1 ≤ L.length ∧ ∀ H', Same H H' → E cls none H'
def tsU1 (K : PySem.W.Frag) (C : Addr) (cls : Value) : TSp := fun ws H Q E => ∃ (t p : Addr) (L : List (Int × Int)), ws = [some (.ref t)] ∧ Tar K C H t p L ∧ 1 ≤ L.length ∧ ∀ H', Same H H' → E cls none H'
def tsNB (K : PySem.W.Frag) (C CV DF DT DS : Addr) (cls : Value) : TSp := fun ws H Q E => ∃ (b tv : Addr) (g : Par), ws = [some (.ref b), some (.ref tv)] ∧ Deal3 K C CV DF DT DS g [] H b tv ∧ ∀ H', Same H H' → E cls none H'
def tsVO (K : PySem.W.Frag) (C CV DF DT DS : Addr) (cls : Value) : TSp := fun ws H Q E => ∃ (b tv : Addr) (g : Par) (os : List Int), ws = [some (.ref b), some (.ref tv)] ∧ Deal3 K C CV DF DT DS g os H b tv ∧ os ≠ [] ∧ ∀ dd H', Same H H' → H' dd = some (.xd [("index", .int 0), ("part", .str "exceptions")]) → E cls (some dd) H'
/-- only the two leave -/
abbrev onlyNV (cN cV : Addr) (E : XK) : XK := fun cls d H => E cls d H ∧ (cls = .ref cN ∨ cls = .ref cV)
theorem noStopNV {K : PySem.W.Frag} {cN cV : Addr} {E : XK} (h1 : PySem.W.subIn K (.ref cN) (.type "StopIteration") = some false) (h2 : PySem.W.subIn K (.ref cV) (.type "StopIteration") = some false) : NoStop K (onlyNV cN cV E) := fun cls d H ⟨_, e⟩ => by
  rcases e with e | e
  · rw [e]; exact h1
  · rw [e]; exact h2
theorem puOk_54 : ¬ puOk 5 4 := fun ⟨_, a, _⟩ => absurd a (by decide)
theorem puOk_0m : ¬ puOk 0 10000 := fun ⟨_, _, a⟩ => by
  rw [if_pos (by decide)] at a
  exact absurd a (by decide)
theorem nin_neg {L : List (Int × Int)} : ¬ InP L (0 - 1) := fun h => absurd h.1 (by decide)
theorem nin_len {L : List (Int × Int)} : ¬ InP L (L.length : Int) := fun h => absurd h.2 (Int.lt_irrefl _)
theorem in_zero {L : List (Int × Int)} (h : 1 ≤ L.length) : InP L 0 := ⟨Int.le_refl 0, by omega⟩
theorem Deal.same {K : PySem.W.Frag} {CV : Addr} {B : BuyP} {I : By → List Int → Prop} {g : Par} {os : List Int} {H H' : Hp} {b tv : Addr} (d : Deal K CV B I g os H b tv) (s : Same H H') (hB : ∀ {a L y}, B H a L y → B H' a L y) : Deal K CV B I g os H' b tv :=
  ⟨hB d.bu, d.lL, let ⟨dv, ov, h⟩ := d.tv; ⟨dv, ov, h.same s⟩, d.lo, d.ok, d.few⟩
theorem Deal3.same {K : PySem.W.Frag} {C CV DF DT DS : Addr} {g : Par} {os : List Int} {H H' : Hp} {b tv : Addr} (d : Deal3 K C CV DF DT DS g os H b tv) (s : Same H H') : Deal3 K C CV DF DT DS g os H' b tv := by
  rcases d with d | d | d
  · exact .inl (d.same s fun h => h.same s)
  · exact .inr (.inl (d.same s fun h => h.same s))
  · exact .inr (.inr (d.same s fun h => h.same s))
theorem pw18 : (10 : Int) ^ (18 : Int).toNat = 1000000000000000000 := by decide +kernel
section
variable {P : Program} {w : World} {K : PySem.W.Frag} {mg : Str → Option Value} {base : Heap} {f c t : Addr} {cl : List (Str × Addr)}
theorem g_fx (G : Gd P K mg) : FnOk P w K mg base (L2.CX P w) 5 G.fFx G.dFx ["self", "tariff", "index"] (spFxI K G.C G.DF G.cU) := by
  obtain ⟨_, _, u, s⟩ := G.MB.uF
  exact ok_fxI u s G.MB.uB G.X G.Q G.VL G.NM.cF G.NM.fO G.NM.fF
theorem g_sw (G : Gd P K mg) : FnOk P w K mg base (L2.CX P w) 5 G.fSw G.dSw ["self", "tariff", "short", "long", "limit"] (spSwI K G.C G.DS G.cU G.cN) := by
  obtain ⟨_, _, u, s⟩ := G.MB.uS
  exact ok_swI u s G.MB.uB G.X G.Q G.VL G.NM.cS G.NM.sO G.NM.sS G.NM.sL G.NM.sM G.MB.gS G.MB.cr G.MB.vM
theorem g_tn (G : Gd P K mg) : FnR P w K mg base (L2.CX P w) 5 G.fTn (fun vs H Q E => ∃ ws rest, vs = ws ++ rest ∧ ws.length = (["self", "tariff"] : List Str).length ∧ rest.length ≤ sizeLine ∧ ∀ p, H p = Option.none → spTnI K G.C G.DT G.cU G.cN (ws ++ [V.ref p]) (upd H p (.tup rest)) Q E) := by
  obtain ⟨_, _, u, s⟩ := G.MB.uT
  exact ok_tnI u s G.MB.uB G.X G.Q G.VL G.NM.cT G.NM.tO G.NM.tS
theorem gb_fx (G : Gd P K mg) : Binds K G.dFx ["self", "tariff", "index"] [] := by
  obtain ⟨_, _, u, _⟩ := G.MB.uF
  exact b_fx u
theorem gk_sw (G : Gd P K mg) : KBn K G.dSw ["self", "tariff", "short", "long", "limit"] 4 ["limit"] (fun us ws => us ++ ws) (fun vs zs => vs ++ zs) := by
  obtain ⟨_, _, u, _⟩ := G.MB.uS
  exact kb_sw u
theorem lok0 (G : Gd P K mg) : LOk P w K mg base (L2.CX P w) 11 f (mkF qRf lam0 cl c .none) ["_law_tariff_here", "_law_count"] (tsU2 K G.C (.ref G.cU)) := by
  refine lok_of0 (k := 10) sc0 (fun _ _ _ => rfl) fun A outer s H ws Q E hr hl h => ?_
  obtain ⟨t', p, L, n, rfl, ht, rfl, l1, q⟩ := h
  exact ⟨_, pe_make (E := E) G.MB.mkF (g_fx G) (hr.mono (by decide)) (by rfl) G.MB.gF (gb_fx G) .nil (passes_call (takes_of rfl rfl rfl rfl) (fun _ _ _ _ h => h)) (pa_cons (pv 0) (pa_cons (pv 1) pa_nil)), ⟨_, rfl, _, rfl, fun x dx nx ndx _ => fx_mk ht nx ndx (fun hi => absurd hi nin_len) (fun _ H' s => q H' s)⟩⟩
theorem lok1 (G : Gd P K mg) : LOk P w K mg base (L2.CX P w) 11 f (mkF qRf lam1 cl c (.ref t)) ["_law_tariff_here", "_law_count"] (tsU2 K G.C (.ref G.cU)) := by
  refine lok_ofD (k := 10) (a := "_law_a") (t := t) sc1 rfl (fun _ _ _ => ⟨_, rfl, fun _ => rfl⟩) fun A outer s H ws Q E d hr hl h => ?_
  obtain ⟨t', p, L, n, rfl, ht, rfl, l1, q⟩ := h
  exact ⟨_, pe_makeR (E := E) G.MB.mkT (g_tn G) (hr.mono (by decide)) (by rfl) G.MB.gT (passes_call (takes_of rfl rfl rfl rfl) (fun _ _ _ _ h => h)) (pa_cons (pv 1) (pa_cons pe_int (pa_cons (pv 2) pa_nil))), ⟨_, rfl, _, rfl, fun x dx nx ndx _ => tn_mk (is := [0, (L.length : Int)]) (show 2 ≤ 1000 by decide) ht nx ndx (fun _ hi => absurd (hi _ (List.mem_cons_of_mem _ List.mem_cons_self)) nin_len) (fun n => nomatch n) (fun _ H' s => q H' s)⟩⟩
theorem lok2 (G : Gd P K mg) : LOk P w K mg base (L2.CX P w) 11 f (mkF qRf lam2 cl c (.ref t)) ["_law_tariff_here"] (tsU1 K G.C (.ref G.cU)) := by
  refine lok_ofD (k := 10) (a := "_law_b") (t := t) sc2 rfl (fun _ _ _ => ⟨_, rfl, fun _ => rfl⟩) fun A outer s H ws Q E d hr hl h => ?_
  obtain ⟨t', p, L, rfl, ht, l1, q⟩ := h
  exact ⟨_, pe_make (E := E) G.MB.mkF (g_fx G) (hr.mono (by decide)) (by rfl) G.MB.gF (gb_fx G) .nil (passes_call (takes_of rfl rfl rfl rfl) (fun _ _ _ _ h => h)) (pa_cons (pv 1) (pa_cons (pe_op op_sub pe_int pe_int) pa_nil)), ⟨_, rfl, _, _, rfl, rfl, fun x dx nx ndx _ => fx_mk ht nx ndx (fun hi => absurd hi nin_neg) (fun _ H' s => q H' s)⟩⟩
theorem lok3 (G : Gd P K mg) : LOk P w K mg base (L2.CX P w) 11 f (mkF qRf lam3 cl c (.ref t)) ["_law_tariff_here", "_law_count"] (tsU2 K G.C (.ref G.cU)) := by
  refine lok_ofD (k := 10) (a := "_law_c") (t := t) sc3 rfl (fun _ _ _ => ⟨_, rfl, fun _ => rfl⟩) fun A outer s H ws Q E d hr hl h => ?_
  obtain ⟨t', p, L, n, rfl, ht, rfl, l1, q⟩ := h
  exact ⟨_, pe_makeK (E := E) G.MB.mkS (g_sw G) (hr.mono (by decide)) (by rfl) G.MB.gS (gk_sw G) (passes_call (takes_of rfl rfl rfl rfl) (fun _ _ _ _ h => h)) (pa_cons (pv 1) (pa_cons pe_int (pa_cons (pv 2) pa_nil))) (pk_cons pe_int pk_nil), ⟨_, rfl, _, rfl, rfl, rfl, fun x dx nx ndx _ => sw_mk ht nx ndx (fun _ hj => absurd hj nin_len) (fun _ H' s => q H' s) (fun _ hj => absurd hj nin_len)⟩⟩
theorem lok4 (G : Gd P K mg) : LOk P w K mg base (L2.CX P w) 11 f (mkF qRf lam4 cl c (.ref t)) ["_law_tariff_here", "_law_count"] (tsU2 K G.C (.ref G.cU)) := by
  refine lok_ofD (k := 10) (a := "_law_e") (t := t) sc4 rfl (fun _ _ _ => ⟨_, rfl, fun _ => rfl⟩) fun A outer s H ws Q E d hr hl h => ?_
  obtain ⟨t', p, L, n, rfl, ht, rfl, l1, q⟩ := h
  exact ⟨_, pe_makeK (E := E) G.MB.mkS (g_sw G) (hr.mono (by decide)) (by rfl) G.MB.gS (gk_sw G) (passes_call (takes_of rfl rfl rfl rfl) (fun _ _ _ _ h => h)) (pa_cons (pv 1) (pa_cons (pv 2) (pa_cons pe_int pa_nil))) (pk_cons (pe_op op_sub pe_int pe_int) pk_nil), ⟨_, rfl, _, rfl, _, _, rfl, rfl, rfl, rfl, fun x dx nx ndx _ => sw_mk ht nx ndx (fun hi => absurd hi nin_len) (fun _ H' s => q H' s) (fun hi => absurd hi nin_len)⟩⟩
theorem lok5 (G : Gd P K mg) : LOk P w K mg base (L2.CX P w) 11 f (mkF qRf lam5 cl c (.ref t)) ["_law_tariff_here", "_law_count"] (tsU2 K G.C (.ref G.cU)) := by
  refine lok_ofD (k := 10) (a := "_law_f") (t := t) sc5 rfl (fun _ _ _ => ⟨_, rfl, fun _ => rfl⟩) fun A outer s H ws Q E d hr hl h => ?_
  obtain ⟨t', p, L, n, rfl, ht, rfl, l1, q⟩ := h
  exact ⟨_, pe_makeR (E := E) G.MB.mkT (g_tn G) (hr.mono (by decide)) (by rfl) G.MB.gT (passes_call (takes_of rfl rfl rfl rfl) (fun _ _ _ _ h => h)) (pa_cons (pv 1) (pa_cons pe_int (pa_cons pe_int (pa_cons pe_int (pa_cons (pv 2) pa_nil))))), ⟨_, rfl, _, rfl, fun x dx nx ndx _ => tn_mk (is := [0, 0, 0, (L.length : Int)]) (show 4 ≤ 1000 by decide) ht nx ndx (fun _ hi => absurd (hi _ (List.mem_cons_of_mem _ (List.mem_cons_of_mem _ (List.mem_cons_of_mem _ List.mem_cons_self)))) nin_len) (fun n => nomatch n) (fun _ H' s => q H' s)⟩⟩
theorem lok6 (G : Gd P K mg) : LOk P w K mg base (L2.CX P w) 11 f (mkF qRf lam6 cl c .none) ["_law_tariff_here"] (tsU1 K G.C (.ref G.cN)) := by
  refine lok_of0 (k := 10) sc6 (fun _ _ _ => rfl) fun A outer s H ws Q E hr hl h => ?_
  obtain ⟨t', p, L, rfl, ht, l1, q⟩ := h
  exact ⟨_, pe_makeR (E := E) G.MB.mkT (g_tn G) (hr.mono (by decide)) (by rfl) G.MB.gT (passes_call (takes_of rfl rfl rfl rfl) (fun _ _ _ _ h => h)) (pa_cons (pv 0) pa_nil), ⟨_, rfl, fun x dx nx ndx _ => tn_mk (is := []) (Nat.zero_le _) ht nx ndx (fun n => absurd rfl n) (fun _ H' s => q H' s) (fun ⟨_, hz, _⟩ => nomatch hz)⟩⟩
theorem lok7 (G : Gd P K mg) : LOk P w K mg base (L2.CX P w) 11 f (mkF qRf lam7 cl c (.ref t)) ["_law_tariff_here"] (tsU1 K G.C (.ref G.cN)) := by
  refine lok_ofD (k := 10) (a := "_law_a") (t := t) sc7 rfl (fun _ _ _ => ⟨_, rfl, fun _ => rfl⟩) fun A outer s H ws Q E d hr hl h => ?_
  obtain ⟨t', p, L, rfl, ht, l1, q⟩ := h
  exact ⟨_, pe_makeK (E := E) G.MB.mkS (g_sw G) (hr.mono (by decide)) (by rfl) G.MB.gS (gk_sw G) (passes_call (takes_of rfl rfl rfl rfl) (fun _ _ _ _ h => h)) (pa_cons (pv 1) (pa_cons pe_int (pa_cons pe_int pa_nil))) (pk_cons (pe_op op_sub pe_int pe_int) pk_nil), ⟨_, rfl, _, _, rfl, rfl, rfl, rfl, fun x dx nx ndx _ => sw_mk ht nx ndx (fun _ _ hl => absurd hl.1 (by decide)) (fun n => absurd ⟨in_zero l1, in_zero l1⟩ n) (fun _ _ _ H' s => q H' s)⟩⟩
theorem lok8 (G : Gd P K mg) : LOk P w K mg base (L2.CX P w) 11 f (mkF qRf lam8 cl c (.ref t)) ["_law_tariff_here"] (tsU1 K G.C (.ref G.cN)) := by
  refine lok_ofD (k := 10) (a := "_law_b") (t := t) sc8 rfl (fun _ _ _ => ⟨_, rfl, fun _ => rfl⟩) fun A outer s H ws Q E d hr hl h => ?_
  obtain ⟨t', p, L, rfl, ht, l1, q⟩ := h
  refine ⟨_, pe_makeK (E := E) G.MB.mkS (g_sw G) (hr.mono (by decide)) (by rfl) G.MB.gS (gk_sw G) (passes_call (takes_of rfl rfl rfl rfl) (fun _ _ _ _ h => h)) (pa_cons (pv 1) (pa_cons pe_int (pa_cons pe_int pa_nil))) (pk_cons (pe_op op_add (pe_op op_pow pe_int pe_int) pe_int) pk_nil), ?_⟩
  refine ⟨_, rfl, ?_⟩
  refine (ev_is (σ := _) (ev_op (ev_pw ev_c ev_c ⟨by decide, by decide, by decide⟩) ev_c rv_I0) rfl : Ev _ (startF ["_law_b", "_law_tariff_here"] [V.int d] [some (.ref t')]) H (.int 1000000001)) H (Ex.refl H) _ fun H2 e2 => ⟨rfl, rfl, fun x dx nx ndx _ => ?_⟩
  exact sw_mk (ht.same e2) nx ndx (fun _ _ hl => absurd hl.2 (by decide)) (fun n => absurd ⟨in_zero l1, in_zero l1⟩ n) (fun _ _ _ H' s => q H' (Same.trans e2 s))
theorem lok9 (G : Gd P K mg) : LOk P w K mg base (L2.CX P w) 11 f (mkF qRf lam9 cl c (.ref t)) ["_law_buyer_here", "_law_travel"] (tsNB K G.C G.CV G.DF G.DT G.DS (.ref G.cN)) := by
  refine lok_ofD (k := 10) (a := "_law_c") (t := t) sc9 rfl (fun _ _ _ => ⟨_, rfl, fun _ => rfl⟩) fun A outer s H ws Q E d hr hl h => ?_
  obtain ⟨b, tv, g, rfl, dl, q⟩ := h
  exact ⟨_, pe_call (E := E) (g_sp G) (hr.mono (by decide)) (by rfl) G.gSp G.kSp G.bSp .nil (passes_call (takes_of rfl rfl rfl rfl) (fun _ _ _ _ h => h)) (pa_cons (pv 1) (pa_cons (pv 2) (pa_cons (pe_op op_sub pe_int pe_int) pa_nil))), ⟨_, rfl, _, rfl, _, _, rfl, rfl, b, tv, 0 - 1, g, [], rfl, dl, fun _ hc => absurd hc.1 (by decide), fun _ _ H' s => q H' s, fun n => absurd rfl n⟩⟩
theorem lok10 (G : Gd P K mg) : LOk P w K mg base (L2.CX P w) 11 f (mkF qRf lam10 cl c (.ref t)) ["_law_buyer_here", "_law_travel"] (tsNB K G.C G.CV G.DF G.DT G.DS (.ref G.cN)) := by
  refine lok_ofD (k := 10) (a := "_law_e") (t := t) sc10 rfl (fun _ _ _ => ⟨_, rfl, fun _ => rfl⟩) fun A outer s H ws Q E d hr hl h => ?_
  obtain ⟨b, tv, g, rfl, dl, q⟩ := h
  refine ⟨_, pe_call (E := E) (g_sp G) (hr.mono (by decide)) (by rfl) G.gSp G.kSp G.bSp .nil (passes_call (takes_of rfl rfl rfl rfl) (fun _ _ _ _ h => h)) (pa_cons (pv 1) (pa_cons (pv 2) (pa_cons (pe_op op_add (pe_op op_pow pe_int pe_int) pe_int) pa_nil))), ?_⟩
  refine ⟨_, rfl, _, rfl, ?_⟩
  refine (ev_is (ev_op (ev_pw ev_c ev_c ⟨by decide, by decide, by decide⟩) ev_c rv_I0) (by rw [pw18]; rfl) : Ev _ (startF ["_law_e", "_law_buyer_here", "_law_travel"] [V.int d] [some (.ref b), some (.ref tv)]) H (.int 1000000000000000001)) H (Ex.refl H) _ fun H2 e2 => ?_
  exact ⟨b, tv, 1000000000000000001, g, [], rfl, dl.same e2, fun _ hc => absurd hc.2 (by decide), fun _ _ H' s => q H' (Same.trans e2 s), fun n => absurd rfl n⟩
theorem lok11 (G : Gd P K mg) : LOk P w K mg base (L2.CX P w) 11 f (mkF qRf lam11 cl c (.ref t)) ["_law_buyer_here", "_law_travel"] (tsNB K G.C G.CV G.DF G.DT G.DS (.ref G.cN)) := by
  refine lok_ofD (k := 10) (a := "_law_f") (t := t) sc11 rfl (fun _ _ _ => ⟨_, rfl, fun _ => rfl⟩) fun A outer s H ws Q E d hr hl h => ?_
  obtain ⟨b, tv, g, rfl, dl, q⟩ := h
  exact ⟨_, pe_listG (E := onlyNV G.cN G.cV E) (pgen_call (E := onlyNV G.cN G.cV E) (g_pu G).1 (hr.mono (by decide)) (by rfl) G.gPu G.kPu G.bPu .nil (pa_cons (pv 1) (pa_cons (pv 2) (pa_cons pe_int (pa_cons pe_int pa_nil))))) (passes_call (takes_of rfl rfl rfl rfl) (fun _ _ _ _ h => h.1)) (noStopNV G.nsN G.nsV) hr (by rfl) G.m_list (by rfl), ⟨_, rfl, _, rfl, b, tv, 5, 4, g, [], rfl, dl, fun _ ok => absurd ok puOk_54, fun _ _ H' s => ⟨q H' s, .inl rfl⟩, fun n => absurd rfl n⟩⟩
theorem lok12 (G : Gd P K mg) : LOk P w K mg base (L2.CX P w) 11 f (mkF qRf lam12 cl c (.ref t)) ["_law_buyer_here", "_law_travel"] (tsNB K G.C G.CV G.DF G.DT G.DS (.ref G.cN)) := by
  refine lok_ofD (k := 10) (a := "_law_g") (t := t) sc12 rfl (fun _ _ _ => ⟨_, rfl, fun _ => rfl⟩) fun A outer s H ws Q E d hr hl h => ?_
  obtain ⟨b, tv, g, rfl, dl, q⟩ := h
  exact ⟨_, pe_listG (E := onlyNV G.cN G.cV E) (pgen_call (E := onlyNV G.cN G.cV E) (g_pu G).1 (hr.mono (by decide)) (by rfl) G.gPu G.kPu G.bPu .nil (pa_cons (pv 1) (pa_cons (pv 2) (pa_cons pe_int (pa_cons pe_int pa_nil))))) (passes_call (takes_of rfl rfl rfl rfl) (fun _ _ _ _ h => h.1)) (noStopNV G.nsN G.nsV) hr (by rfl) G.m_list (by rfl), ⟨_, rfl, _, rfl, b, tv, 0, 10000, g, [], rfl, dl, fun _ ok => absurd ok puOk_0m, fun _ _ H' s => ⟨q H' s, .inl rfl⟩, fun n => absurd rfl n⟩⟩
theorem lok13 (G : Gd P K mg) : LOk P w K mg base (L2.CX P w) 11 f (mkF qRf lam13 cl c .none) ["_law_buyer_here", "_law_odd"] (tsVO K G.C G.CV G.DF G.DT G.DS (.ref G.cV)) := by
  refine lok_of0 (k := 10) sc13 (fun _ _ _ => rfl) fun A outer s H ws Q E hr hl h => ?_
  obtain ⟨b, tv, g, os, rfl, dl, ho, q⟩ := h
  exact ⟨_, pe_call (E := E) (g_sp G) (hr.mono (by decide)) (by rfl) G.gSp G.kSp G.bSp .nil (passes_call (takes_of rfl rfl rfl rfl) (fun _ _ _ _ h => h)) (pa_cons (pv 0) (pa_cons (pv 1) (pa_cons (pe_op op_sub pe_int pe_int) pa_nil))), ⟨_, rfl, _, rfl, _, _, rfl, rfl, b, tv, 0 - 1, g, os, rfl, dl, fun e => absurd e ho, fun e => absurd e ho, fun _ dd H' s hd => q dd H' s hd⟩⟩
theorem lok14 (G : Gd P K mg) : LOk P w K mg base (L2.CX P w) 11 f (mkF qRf lam14 cl c (.ref t)) ["_law_buyer_here", "_law_odd"] (tsVO K G.C G.CV G.DF G.DT G.DS (.ref G.cV)) := by
  refine lok_ofD (k := 10) (a := "_law_a") (t := t) sc14 rfl (fun _ _ _ => ⟨_, rfl, fun _ => rfl⟩) fun A outer s H ws Q E d hr hl h => ?_
  obtain ⟨b, tv, g, os, rfl, dl, ho, q⟩ := h
  exact ⟨_, pe_call (E := E) (g_sr G) (hr.mono (by decide)) (by rfl) G.gSr G.kSr G.bSr .nil (passes_call (takes_of rfl rfl rfl rfl) (fun _ _ _ _ h => h)) (pa_cons (pv 1) (pa_cons (pv 2) pa_nil)), ⟨_, rfl, _, rfl, b, tv, g, os, rfl, dl, ho, fun dd H' s hd => q dd H' s hd⟩⟩
theorem lok15 (G : Gd P K mg) : LOk P w K mg base (L2.CX P w) 11 f (mkF qRf lam15 cl c (.ref t)) ["_law_buyer_here", "_law_odd"] (tsVO K G.C G.CV G.DF G.DT G.DS (.ref G.cV)) := by
  refine lok_ofD (k := 10) (a := "_law_b") (t := t) sc15 rfl (fun _ _ _ => ⟨_, rfl, fun _ => rfl⟩) fun A outer s H ws Q E d hr hl h => ?_
  obtain ⟨b, tv, g, os, rfl, dl, ho, q⟩ := h
  exact ⟨_, pe_listG (E := onlyNV G.cN G.cV E) (pgen_call (E := onlyNV G.cN G.cV E) (g_pu G).1 (hr.mono (by decide)) (by rfl) G.gPu G.kPu G.bPu .nil (pa_cons (pv 1) (pa_cons (pv 2) (pa_cons pe_int (pa_cons pe_int pa_nil))))) (passes_call (takes_of rfl rfl rfl rfl) (fun _ _ _ _ h => h.1)) (noStopNV G.nsN G.nsV) hr (by rfl) G.m_list (by rfl), ⟨_, rfl, _, rfl, b, tv, 1, 0, g, os, rfl, dl, fun e => absurd e ho, fun e => absurd e ho, fun _ dd H' s hd => ⟨q dd H' s hd, .inr rfl⟩⟩⟩
end
end Sea

set_option Elab.async false
set_option linter.all false
set_option maxRecDepth 100000
set_option maxHeartbeats 4000000
/-! lists of lambdas that raise, all of them called -/
namespace Sea
open PySem PySem.Spec PyProof.Rows L2 LamX NdefX ClX Evl StX
/-- kept: all but tables and lists -/
def KN (H H' : Hp) : Prop := ∀ b o, H b = some o → (∀ ps, o ≠ .tbl ps) → (∀ xs, o ≠ .lst xs) → H' b = some o
theorem KN.refl (H : Hp) : KN H H := fun _ _ e _ _ => e
theorem KN.trans {H H1 H2 : Hp} (a : KN H H1) (b : KN H1 H2) : KN H H2 := fun x o e n m => b x o (a x o e n m) n m
theorem KN.ex {H H' : Hp} (e : Ex H H') : KN H H' := fun b o h _ _ => e b o h
theorem KN.extN {H H' : Hp} (e : ExtN H H') : KN H H' := fun b o h n _ => e b o h n
theorem KN.but {H : Hp} {D : Addr} {xs ys : List V} (h : H D = some (.lst xs)) : KN H (upd H D (.lst ys)) := fun b o e _ m => by
  rw [upd_ne (fun z => by rw [z, h] at e; cases e; exact m _ rfl)]
  exact e
theorem KN.tk {K : PySem.W.Frag} {H H' : Hp} (k : KN H H') : TK K H H' := fun a xs h => by
  rcases h with (h | ⟨o, h⟩) | h
  · exact .inl (.inl (k _ _ h (fun ps z => by cases z) (fun ys z => by cases z)))
  · exact .inl (.inr ⟨o, k _ _ h (fun ps z => by cases z) (fun ys z => by cases z)⟩)
  · exact .inr h
theorem KN.ins {H H' : Hp} (k : KN H H') {a C dx : Addr} {fs : List (Str × V)} (h : H a = some (.ins C dx fs)) : H' a = some (.ins C dx fs) := k _ _ h (fun ps z => by cases z) (fun ys z => by cases z)
section
variable {K : PySem.W.Frag} {C CV D DF DT DS : Addr} {H H' : Hp} {a b tv t p : Addr} {L : List (Int × Int)} {y : By} {g : Par} {os : List Int}
theorem Tar.kn (h : Tar K C H t p L) (k : KN H H') : Tar K C H' t p L := by
  obtain ⟨⟨dx, h1⟩, h2⟩ := h
  exact ⟨⟨dx, k.ins h1⟩, h2.tk k.tk⟩
theorem Tv.kn {ln : Int} {dv ov : V} {ds : List Int} (h : Tv K CV H a ln dv ov ds os) (k : KN H H') : Tv K CV H' a ln dv ov ds os := by
  obtain ⟨⟨dx, h1⟩, h2, h3⟩ := h
  exact ⟨⟨dx, k.ins h1⟩, h2.tk k.tk, h3.tk k.tk⟩
theorem FixB.kn (h : FixB K C D H a L y) (k : KN H H') : FixB K C D H' a L y := by
  obtain ⟨t, p, i, ⟨dx, h1⟩, h2, h3⟩ := h
  exact ⟨t, p, i, ⟨dx, k.ins h1⟩, h2.kn k, h3⟩
theorem TurnB.kn (h : TurnB K C D H a L y) (k : KN H H') : TurnB K C D H' a L y := by
  obtain ⟨t, p, sq, is, ⟨dx, h1⟩, h2, h3, h4⟩ := h
  exact ⟨t, p, sq, is, ⟨dx, k.ins h1⟩, h2.kn k, k.tk _ _ h3, h4⟩
theorem SwB.kn (h : SwB K C D H a L y) (k : KN H H') : SwB K C D H' a L y := by
  obtain ⟨t, p, i, j, lim, ⟨dx, h1⟩, h2, h3⟩ := h
  exact ⟨t, p, i, j, lim, ⟨dx, k.ins h1⟩, h2.kn k, h3⟩
theorem Deal.kn {B : BuyP} {I : By → List Int → Prop} (d : Deal K CV B I g os H b tv) (k : KN H H') (hB : ∀ {a L y}, B H a L y → B H' a L y) : Deal K CV B I g os H' b tv :=
  ⟨hB d.bu, d.lL, let ⟨dv, ov, h⟩ := d.tv; ⟨dv, ov, h.kn k⟩, d.lo, d.ok, d.few⟩
theorem Deal3.kn (d : Deal3 K C CV DF DT DS g os H b tv) (k : KN H H') : Deal3 K C CV DF DT DS g os H' b tv := by
  rcases d with d | d | d
  · exact .inl (d.kn k fun h => h.kn k)
  · exact .inr (.inl (d.kn k fun h => h.kn k))
  · exact .inr (.inr (d.kn k fun h => h.kn k))
end
/-- the lambda F stands at f, with its code object and its defaults -/
structure LamHere (H : Hp) (f : Addr) (F : LF) : Prop where
  f : H f = some (LamO f F)
  c : H F.c = some (CodeO F.c F.qual)
  d : DvOk F H
theorem lam_nt {f : Addr} {F : LF} (ps : Array Value) : LamO f F ≠ .tbl ps := fun z => by
  unfold LamO Stands at z
  cases z
theorem lam_nl {f : Addr} {F : LF} (xs : List V) : LamO f F ≠ .lst xs := fun z => by
  unfold LamO Stands at z
  cases z
theorem code_nt {c : Addr} {q : Str} (ps : Array Value) : CodeO c q ≠ .tbl ps := fun z => by
  unfold CodeO at z
  cases z
theorem code_nl {c : Addr} {q : Str} (xs : List V) : CodeO c q ≠ .lst xs := fun z => by
  unfold CodeO at z
  cases z
theorem LamHere.kn {H H' : Hp} {f : Addr} {F : LF} (l : LamHere H f F) (k : KN H H') : LamHere H' f F :=
  ⟨k _ _ l.f lam_nt lam_nl, k _ _ l.c code_nt code_nl, fun t ht => let ⟨d, h⟩ := l.d t ht; ⟨d, k _ _ h (fun ps z => by cases z) (fun xs z => by cases z)⟩⟩
structure Ready (X : Cx) (j : Nat) (fr : List Str) (js : List Nat) (lsp : TSp) (F : LF) : Prop where
  ok : ∀ f, LOk X.prog X.w X.K X.mg X.base (L2.CX X.prog X.w) j f F fr lsp
  cp : X.Ok → Caps X F.cl fr js
def EvLam (te : TE) (σ : L2.St) (T : List (Addr × Str)) (R : LF → Prop) : Prop := ∀ (H : Hp) (Q : VK), Tabs T H → (∀ f F H1, ExtN H H1 → Tabs T H1 → H f = none → R F → LamHere H1 f F → Q (.ref f) H1) → te σ H Q
section
variable {X : Cx} {T : List (Addr × Str)} {σ : L2.St} {j : Nat} {fr : List Str} {js : List Nat} {lsp : TSp}
theorem evlam_V {mk : Addr → LF} (dv : ∀ c, (mk c).dV = .none) (cc : ∀ c, (mk c).c = c) (R : ∀ c, Ready X j fr js lsp (mk c)) : EvLam (tLamV T mk) σ T (Ready X j fr js lsp) := fun H Q hT q => by
  refine ⟨hT, fun f c H1 e T1 nf hf hc => q f (mk c) H1 e T1 nf (R c) ⟨hf, by rw [cc c]; exact hc, fun t z => ?_⟩⟩
  rw [dv c] at z
  cases z
theorem evlam_D {i : Int} {mk : Addr → Addr → LF} (dv : ∀ c t, (mk c t).dV = .ref t) (cc : ∀ c t, (mk c t).c = c) (R : ∀ c t, Ready X j fr js lsp (mk c t)) : EvLam (tLamD T i mk) σ T (Ready X j fr js lsp) := fun H Q hT q => by
  refine ⟨hT, fun f c t H1 e T1 nf nt ht hf hc => q f (mk c t) H1 e T1 nf (R c t) ⟨hf, by rw [cc c t]; exact hc, fun t' z => ?_⟩⟩
  rw [dv c t] at z
  cases z
  exact ⟨i, ht⟩
end
/-! ### thunks whose outcome is out -/
def Ans (X : Cx) (j : Nat) (cN cV cU : Addr) (sl : L2.St → Prop) (out : List V) (H : Hp) (v : V) : Prop := ∃ (f : Addr) (F : LF) (fr : List Str) (js : List Nat) (lsp : TSp) (ws : List (Option V)), v = .ref f ∧ Ready X j fr js lsp F ∧ LamHere H f F ∧ (∀ σ, sl σ → js.map (slotAt σ) = ws) ∧
  ∀ (H' : Hp) (Q : VK) (E : XK), KN H H' → (∀ r H2, Same H' H2 → H2 r = some (.tup out) → Q (.ref r) H2) → spOut cN cV cU (lsp ws) H' Q E
section
variable {X : Cx} {j : Nat} {cN cV cU : Addr} {sl : L2.St → Prop} {out : List V} {σ : L2.St} {T : List (Addr × Str)} {H0 : Hp}
theorem Ans.kn {H H' : Hp} {v : V} (h : Ans X j cN cV cU sl out H v) (k : KN H H') : Ans X j cN cV cU sl out H' v := by
  obtain ⟨f, F, fr, js, lsp, ws, e, r, l, s, q⟩ := h
  exact ⟨f, F, fr, js, lsp, ws, e, r, l.kn k, s, fun H2 Q E k2 => q H2 Q E (k.trans k2)⟩
/-- [_law_outcome(call) for call in works] -/
theorem gAll_ans (hs : sl σ) {a : Addr} {xs : List V} {Q : VK} : ∀ (r acc : List V) (H : Hp), SqL X.K H a xs → (∀ v ∈ r, Ans X j cN cV cU sl out H v) → (∀ v ∈ acc, ∃ p, v = .ref p ∧ H p = some (.tup out)) →
    (∀ (us : List V) (H' : Hp), Ex H H' → us.length = acc.length + r.length → (∀ v ∈ us, ∃ p, v = .ref p ∧ H' p = some (.tup out)) → ∀ D, H' D = none → Q (.ref D) (upd H' D (.lst us))) →
    gAll X (L2.CX X.prog X.w) j (spOut cN cV cU) σ a xs Q r acc H
  | [], acc, H, h, _, c, q => ⟨h, q acc H (Ex.refl _) rfl c⟩
  | v :: r, acc, H, h, t, c, q => by
    obtain ⟨f, F, fr, js, lsp, ws, rfl, R, l, hw, raise⟩ := t v List.mem_cons_self
    refine ⟨h, f, F, fr, js, lsp, rfl, R.ok f, l.f, l.c, l.d, R.cp, ?_⟩
    rw [hw σ hs]
    refine raise H _ _ (KN.refl _) fun p H2 s2 hp => ?_
    have e : Ex H H2 := s2
    refine gAll_ans hs r (acc ++ [.ref p]) H2 (ex_l e h) (fun u hu => (t u (List.mem_cons_of_mem _ hu)).kn (.ex e)) (fun u hu => ?_) fun us H3 e3 len all => q us H3 (e.trans e3) (by rw [len, List.length_append, List.length_singleton, List.length_cons]; omega) all
    rcases List.mem_append.mp hu with z | z
    · obtain ⟨p', e', h'⟩ := c u z
      exact ⟨p', e', e _ _ h'⟩
    · exact ⟨p, List.mem_singleton.mp z, hp⟩
theorem outDp {K : PySem.W.Frag} {H : Hp} {od : List PyData} : ∀ {us : List V}, (∀ v ∈ us, ∃ p, v = .ref p ∧ H p = some (.tup out)) → DpAll K H out od → DpAll K H us (List.replicate us.length (.tuple od))
  | [], _, _ => .nil
  | v :: us, h, d => by
    obtain ⟨p, rfl, hp⟩ := h v List.mem_cons_self
    exact .cons (.tup (.of hp) d) (outDp (fun u hu => h u (List.mem_cons_of_mem _ hu)) d)
theorem lct_dp {od : List PyData} {H : Hp} {D : Addr} {xs : List V} {i : Nat} (hs : sl σ) (hv : σ[i]? = some (some (.ref D))) (hD : H D = some (.lst xs)) (few : xs.length ≤ 1000) (ha : ∀ v ∈ xs, Ans X j cN cV cU sl out H v) (hd : ∀ H', DpAll X.K H' out od) :
    EvDp X.K (tLcT X (L2.CX X.prog X.w) j (spOut cN cV cU) (tVar i)) σ H (.list (List.replicate xs.length (.tuple od))) := fun H1 e Q q => by
  refine ⟨_, hv, D, xs, rfl, few, gAll_ans hs xs [] H1 (.of (e _ _ hD)) (fun v hv => (ha v hv).kn (.ex e)) (fun v hv => nomatch hv) fun us H2 e2 len all D' nD' => ?_⟩
  have e3 : Ex H2 (upd H2 D' (.lst us)) := Ex.new nD'
  have len : us.length = xs.length := by rw [len]; exact Nat.zero_add _
  refine q _ _ (e2.trans e3) (.lst (.of upd_same) ?_)
  rw [← len]
  exact outDp (fun v hv => let ⟨p, e', h'⟩ := all v hv; ⟨p, e', e3 _ _ h'⟩) (hd _)
theorem rep_all {K : PySem.W.Frag} {H : Hp} {v : V} {od : PyData} (h : Dp K H v od) : ∀ n : Nat, DpAll K H (List.replicate ((n : Int)).toNat [v]).flatten (List.replicate n od)
  | 0 => .nil
  | n + 1 => by
    have := rep_all h n
    rw [Int.toNat_natCast] at this ⊢
    rw [List.replicate_succ, List.flatten_cons, List.replicate_succ]
    exact .cons h this
/-- [t] * n, t a new tuple -/
theorem rep_dp {K : PySem.W.Frag} {H : Hp} {tt : TE} {od : PyData} {n : Nat} (h : EvDp K tt σ H od) (hn : n ≤ 100) : EvDp K (tOp rRep (tLst (tCons tt tNil)) (tC (.int (n : Int)))) σ H (.list (List.replicate n od)) := fun H1 e Q q =>
  h H1 e _ fun v H2 e2 hv => ⟨Nat.le_of_lt (small1000 (show 1 ≤ 1000 by decide)), fun p np => ⟨p, _, [v], rfl, rfl, upd_same, by omega, by omega, by rw [sizeLine_eq]; simp; omega, fun p2 np2 => by
    have e3 : Ex H2 (upd (upd H2 p (.lst [v])) p2 (.lst (List.replicate ((n : Int)).toNat [v]).flatten)) := (Ex.new np).trans (Ex.new np2)
    refine q _ _ (e2.trans e3) (.lst (.of upd_same) ?_)
    exact rep_all (dp_ex e3 hv) n⟩⟩
/-! ### the list of works -/
/-- what a new list is apart from -/
def Fr (H0 : Hp) (D : Addr) : Prop := ∀ b o, H0 b = some o → (∀ ps, o ≠ .tbl ps) → b ≠ D
theorem fr_of {H H1 : Hp} {D : Addr} (e : ExtN H0 H) (n : H D = none) : Fr H0 D := fun b o h m => ne_of_none (e b o h m) n
structure Wk (X : Cx) (j : Nat) (cN cV cU : Addr) (sl : L2.St → Prop) (out : List V) (T : List (Addr × Str)) (H0 : Hp) (D : Addr) (xs : List V) (H : Hp) : Prop where
  e : ExtN H0 H
  T : Tabs T H
  fr : Fr H0 D
  hD : H D = some (.lst xs)
  an : ∀ v ∈ xs, Ans X j cN cV cU sl out H v
/-- what a lambda's making gives -/
def Mks (X : Cx) (j : Nat) (cN cV cU : Addr) (sl : L2.St → Prop) (out : List V) (T : List (Addr × Str)) (H0 : Hp) (tl : TE) (σ : L2.St) : Prop := ∃ R : LF → Prop, EvLam tl σ T R ∧ ∀ f F H', ExtN H0 H' → R F → LamHere H' f F → Ans X j cN cV cU sl out H' (.ref f)
variable {t1 t2 : TE}
/-- [lambda, lambda] -/
theorem wk_two {H : Hp} {Q : VK} (m1 : Mks X j cN cV cU sl out T H0 t1 σ) (m2 : Mks X j cN cV cU sl out T H0 t2 σ) (e : ExtN H0 H) (hT : Tabs T H) (q : ∀ D xs H', ExtN H H' → xs.length = 2 → Wk X j cN cV cU sl out T H0 D xs H' → Q (.ref D) H') : tLst (tCons t1 (tCons t2 tNil)) σ H Q := by
  obtain ⟨R1, h1, a1⟩ := m1
  obtain ⟨R2, h2, a2⟩ := m2
  refine h1 H _ hT fun f F H1 e1 T1 _ r1 l1 => h2 H1 _ T1 fun g G H2 e2 T2 _ r2 l2 => ⟨Nat.le_of_lt (small1000 (show 2 ≤ 1000 by decide)), fun D nD => ?_⟩
  have e3 : ExtN H2 (upd H2 D (.lst [.ref f, .ref g])) := extN_new nD
  have e02 := (e.trans e1).trans e2
  refine q D _ _ ((e1.trans e2).trans e3) rfl ⟨e02.trans e3, tabs_keep T2 nD, fr_of (H1 := H2) e02 nD, upd_same, fun v hv => ?_⟩
  rcases List.mem_cons.mp hv with rfl | hv
  · exact (a1 f F H1 (e.trans e1) r1 l1).kn ((KN.extN e2).trans (.extN e3))
  · rw [List.mem_singleton.mp hv]
    exact (a2 g G H2 e02 r2 l2).kn (.extN e3)
/-- works + [lambda, lambda] -/
theorem wk_cat {H : Hp} {Q : VK} {i : Nat} {D : Addr} {xs : List V} (hv : σ[i]? = some (some (.ref D))) (W : Wk X j cN cV cU sl out T H0 D xs H) (few : xs.length ≤ 100) (m1 : Mks X j cN cV cU sl out T H0 t1 σ) (m2 : Mks X j cN cV cU sl out T H0 t2 σ)
    (q : ∀ D' ys H', ys.length = xs.length + 2 → Wk X j cN cV cU sl out T H0 D' ys H' → Q (.ref D') H') : tOp rCat (tVar i) (tLst (tCons t1 (tCons t2 tNil))) σ H Q := by
  refine ⟨_, hv, wk_two m1 m2 W.e W.T fun D2 zs H' e2 len W2 => ?_⟩
  refine ⟨D, D2, xs, zs, rfl, rfl, e2 _ _ W.hD (fun ps z => by cases z), W2.hD, by rw [sizeLine_eq]; omega, fun p np => ?_⟩
  refine q p (xs ++ zs) _ (by rw [List.length_append, len]) ⟨W2.e.trans (extN_new np), tabs_keep W2.T np, fr_of (H1 := H') W2.e np, upd_same, fun v hv => ?_⟩
  rcases List.mem_append.mp hv with hv | hv
  · exact (W.an v hv).kn ((KN.extN e2).trans (.extN (extN_new np)))
  · exact (W2.an v hv).kn (.extN (extN_new np))
/-- works.append(lambda) -/
theorem wk_app {H : Hp} {Dd : Ends} {i : Nat} {D : Addr} {xs : List V} (hv : σ[i]? = some (some (.ref D))) (W : Wk X j cN cV cU sl out T H0 D xs H) (few : xs.length ≤ 100) (m1 : Mks X j cN cV cU sl out T H0 t1 σ)
    (q : ∀ ys H', ys.length = xs.length + 1 → Wk X j cN cV cU sl out T H0 D ys H' → Dd.nx σ H') : tDrop (tBM X.K "list" rAppend (tVar i) (tCons t1 tNil)) Dd σ H := by
  obtain ⟨R1, h1, a1⟩ := m1
  refine ⟨_, hv, .inl ⟨rfl, xs, .of W.hD⟩, h1 H _ W.T fun f F H1 e1 T1 _ r1 l1 => ?_⟩
  have hD1 := e1 _ _ W.hD (fun ps z => by cases z)
  refine ⟨D, xs, .ref f, rfl, rfl, hD1, fits1 (by omega), ?_⟩
  have e01 := W.e.trans e1
  refine q (xs ++ [.ref f]) _ (by rw [List.length_append]; rfl) ⟨fun b o h m => ?_, tabs_but T1 fun b u h m => ?_, W.fr, upd_same, fun v hv => ?_⟩
  · rw [upd_ne (W.fr b o h m)]
    exact e01 b o h m
  · rw [upd_ne (fun z => by rw [z, hD1] at h; cases h; exact m.1 _ rfl)]
    exact h
  · rcases List.mem_append.mp hv with hv | hv
    · exact (W.an v hv).kn ((KN.extN e1).trans (.but hD1))
    · rw [List.mem_singleton.mp hv]
      exact (a1 f F H1 e01 r1 l1).kn (.but hD1)
end
end Sea

set_option Elab.async false
set_option linter.all false
set_option maxRecDepth 100000
set_option maxHeartbeats 4000000
/-! _law_refused -/
namespace Sea
open PySem PySem.Spec PyProof.Rows L2 LamX NdefX ClX Evl StX
abbrev NRf : List Str := ["_law_tariff_here", "_law_buyer_here", "_law_travel", "_law_count", "_law_works", "_law_odd", "_law_work"]
theorem scRf : FnScope NRf ["_law_tariff_here", "_law_buyer_here", "_law_travel", "_law_count"] (defScope sRf) := ⟨rfl, rfl, rfl, by decide +kernel, rfl, by decide +kernel, by decide +kernel⟩
theorem hf0 : ∀ y ∈ (lamS lam0).names, y.2 = .free → (defScope sRf).names.lookup y.1 = some .cell ∨ (defScope sRf).names.lookup y.1 = some .free := by decide +kernel
theorem hr0 : ∀ y ∈ (["_law_tariff_here", "_law_count"] : List Str), (y, NameKind.free) ∈ (lamS lam0).names := by decide +kernel
theorem hf1 : ∀ y ∈ (lamS lam1).names, y.2 = .free → (defScope sRf).names.lookup y.1 = some .cell ∨ (defScope sRf).names.lookup y.1 = some .free := by decide +kernel
theorem hr1 : ∀ y ∈ (["_law_tariff_here", "_law_count"] : List Str), (y, NameKind.free) ∈ (lamS lam1).names := by decide +kernel
theorem hf2 : ∀ y ∈ (lamS lam2).names, y.2 = .free → (defScope sRf).names.lookup y.1 = some .cell ∨ (defScope sRf).names.lookup y.1 = some .free := by decide +kernel
theorem hr2 : ∀ y ∈ (["_law_tariff_here"] : List Str), (y, NameKind.free) ∈ (lamS lam2).names := by decide +kernel
theorem hf3 : ∀ y ∈ (lamS lam3).names, y.2 = .free → (defScope sRf).names.lookup y.1 = some .cell ∨ (defScope sRf).names.lookup y.1 = some .free := by decide +kernel
theorem hr3 : ∀ y ∈ (["_law_tariff_here", "_law_count"] : List Str), (y, NameKind.free) ∈ (lamS lam3).names := by decide +kernel
theorem hf4 : ∀ y ∈ (lamS lam4).names, y.2 = .free → (defScope sRf).names.lookup y.1 = some .cell ∨ (defScope sRf).names.lookup y.1 = some .free := by decide +kernel
theorem hr4 : ∀ y ∈ (["_law_tariff_here", "_law_count"] : List Str), (y, NameKind.free) ∈ (lamS lam4).names := by decide +kernel
theorem hf5 : ∀ y ∈ (lamS lam5).names, y.2 = .free → (defScope sRf).names.lookup y.1 = some .cell ∨ (defScope sRf).names.lookup y.1 = some .free := by decide +kernel
theorem hr5 : ∀ y ∈ (["_law_tariff_here", "_law_count"] : List Str), (y, NameKind.free) ∈ (lamS lam5).names := by decide +kernel
theorem hf6 : ∀ y ∈ (lamS lam6).names, y.2 = .free → (defScope sRf).names.lookup y.1 = some .cell ∨ (defScope sRf).names.lookup y.1 = some .free := by decide +kernel
theorem hr6 : ∀ y ∈ (["_law_tariff_here"] : List Str), (y, NameKind.free) ∈ (lamS lam6).names := by decide +kernel
theorem hf7 : ∀ y ∈ (lamS lam7).names, y.2 = .free → (defScope sRf).names.lookup y.1 = some .cell ∨ (defScope sRf).names.lookup y.1 = some .free := by decide +kernel
theorem hr7 : ∀ y ∈ (["_law_tariff_here"] : List Str), (y, NameKind.free) ∈ (lamS lam7).names := by decide +kernel
theorem hf8 : ∀ y ∈ (lamS lam8).names, y.2 = .free → (defScope sRf).names.lookup y.1 = some .cell ∨ (defScope sRf).names.lookup y.1 = some .free := by decide +kernel
theorem hr8 : ∀ y ∈ (["_law_tariff_here"] : List Str), (y, NameKind.free) ∈ (lamS lam8).names := by decide +kernel
theorem hf9 : ∀ y ∈ (lamS lam9).names, y.2 = .free → (defScope sRf).names.lookup y.1 = some .cell ∨ (defScope sRf).names.lookup y.1 = some .free := by decide +kernel
theorem hr9 : ∀ y ∈ (["_law_buyer_here", "_law_travel"] : List Str), (y, NameKind.free) ∈ (lamS lam9).names := by decide +kernel
theorem hf10 : ∀ y ∈ (lamS lam10).names, y.2 = .free → (defScope sRf).names.lookup y.1 = some .cell ∨ (defScope sRf).names.lookup y.1 = some .free := by decide +kernel
theorem hr10 : ∀ y ∈ (["_law_buyer_here", "_law_travel"] : List Str), (y, NameKind.free) ∈ (lamS lam10).names := by decide +kernel
theorem hf11 : ∀ y ∈ (lamS lam11).names, y.2 = .free → (defScope sRf).names.lookup y.1 = some .cell ∨ (defScope sRf).names.lookup y.1 = some .free := by decide +kernel
theorem hr11 : ∀ y ∈ (["_law_buyer_here", "_law_travel"] : List Str), (y, NameKind.free) ∈ (lamS lam11).names := by decide +kernel
theorem hf12 : ∀ y ∈ (lamS lam12).names, y.2 = .free → (defScope sRf).names.lookup y.1 = some .cell ∨ (defScope sRf).names.lookup y.1 = some .free := by decide +kernel
theorem hr12 : ∀ y ∈ (["_law_buyer_here", "_law_travel"] : List Str), (y, NameKind.free) ∈ (lamS lam12).names := by decide +kernel
theorem hf13 : ∀ y ∈ (lamS lam13).names, y.2 = .free → (defScope sRf).names.lookup y.1 = some .cell ∨ (defScope sRf).names.lookup y.1 = some .free := by decide +kernel
theorem hr13 : ∀ y ∈ (["_law_buyer_here", "_law_odd"] : List Str), (y, NameKind.free) ∈ (lamS lam13).names := by decide +kernel
theorem hf14 : ∀ y ∈ (lamS lam14).names, y.2 = .free → (defScope sRf).names.lookup y.1 = some .cell ∨ (defScope sRf).names.lookup y.1 = some .free := by decide +kernel
theorem hr14 : ∀ y ∈ (["_law_buyer_here", "_law_odd"] : List Str), (y, NameKind.free) ∈ (lamS lam14).names := by decide +kernel
theorem hf15 : ∀ y ∈ (lamS lam15).names, y.2 = .free → (defScope sRf).names.lookup y.1 = some .cell ∨ (defScope sRf).names.lookup y.1 = some .free := by decide +kernel
theorem hr15 : ∀ y ∈ (["_law_buyer_here", "_law_odd"] : List Str), (y, NameKind.free) ∈ (lamS lam15).names := by decide +kernel
abbrev Srf (t b tv : Addr) (n : Int) (w od : Option V) : L2.St := [some (.ref t), some (.ref b), some (.ref tv), some (.int n), w, od, none]
def sl0 (t b tv : Addr) (n : Int) (od : Option V) : L2.St → Prop := fun σ => ∃ w, σ = Srf t b tv n w od
section
variable {X : Cx} {C CV DF DT DS cN cV cU t b tv p : Addr} {n : Int} {od : Option V} {L : List (Int × Int)} {H0 : Hp} {g : Par} {fr : List Str} {os : List Int}
theorem an_U2 (ht : Tar X.K C H0 t p L) (l1 : 1 ≤ L.length) (hn : n = L.length) : ∀ f F H', ExtN H0 H' → Ready X 11 fr [0, 3] (tsU2 X.K C (.ref cU)) F → LamHere H' f F → Ans X 11 cN cV cU (sl0 t b tv n od) [.str "UnknownPass"] H' (.ref f) := fun f F H' e r l =>
  ⟨f, F, fr, [0, 3], _, [some (.ref t), some (.int n)], rfl, r, l, fun σ ⟨w, h⟩ => by rw [h]; rfl, fun H2 Q E k q => ⟨t, p, L, n, rfl, (ht.kn (.extN e)).kn k, hn, l1, fun H3 s => .inr (.inl ⟨rfl, fun r H4 s4 h4 => q r H4 (Same.trans s s4) h4⟩)⟩⟩
theorem an_U1 (ht : Tar X.K C H0 t p L) (l1 : 1 ≤ L.length) : ∀ f F H', ExtN H0 H' → Ready X 11 fr [0] (tsU1 X.K C (.ref cU)) F → LamHere H' f F → Ans X 11 cN cV cU (sl0 t b tv n od) [.str "UnknownPass"] H' (.ref f) := fun f F H' e r l =>
  ⟨f, F, fr, [0], _, [some (.ref t)], rfl, r, l, fun σ ⟨w, h⟩ => by rw [h]; rfl, fun H2 Q E k q => ⟨t, p, L, rfl, (ht.kn (.extN e)).kn k, l1, fun H3 s => .inr (.inl ⟨rfl, fun r H4 s4 h4 => q r H4 (Same.trans s s4) h4⟩)⟩⟩
theorem an_N1 (ht : Tar X.K C H0 t p L) (l1 : 1 ≤ L.length) : ∀ f F H', ExtN H0 H' → Ready X 11 fr [0] (tsU1 X.K C (.ref cN)) F → LamHere H' f F → Ans X 11 cN cV cU (sl0 t b tv n od) [.str "InvalidCount"] H' (.ref f) := fun f F H' e r l =>
  ⟨f, F, fr, [0], _, [some (.ref t)], rfl, r, l, fun σ ⟨w, h⟩ => by rw [h]; rfl, fun H2 Q E k q => ⟨t, p, L, rfl, (ht.kn (.extN e)).kn k, l1, fun H3 s => .inl ⟨rfl, fun r H4 s4 h4 => q r H4 (Same.trans s s4) h4⟩⟩⟩
theorem an_NB (dl : Deal3 X.K C CV DF DT DS g [] H0 b tv) : ∀ f F H', ExtN H0 H' → Ready X 11 fr [1, 2] (tsNB X.K C CV DF DT DS (.ref cN)) F → LamHere H' f F → Ans X 11 cN cV cU (sl0 t b tv n od) [.str "InvalidCount"] H' (.ref f) := fun f F H' e r l =>
  ⟨f, F, fr, [1, 2], _, [some (.ref b), some (.ref tv)], rfl, r, l, fun σ ⟨w, h⟩ => by rw [h]; rfl, fun H2 Q E k q => ⟨b, tv, g, rfl, (dl.kn (.extN e)).kn k, fun H3 s => .inl ⟨rfl, fun r H4 s4 h4 => q r H4 (Same.trans s s4) h4⟩⟩⟩
theorem an_VO {o : Addr} (dl : Deal3 X.K C CV DF DT DS g os H0 b o) (ho : os ≠ []) : ∀ f F H', ExtN H0 H' → Ready X 11 fr [1, 5] (tsVO X.K C CV DF DT DS (.ref cV)) F → LamHere H' f F → Ans X 11 cN cV cU (sl0 t b tv n (some (.ref o))) [.str "InvalidTravel", .str "exceptions", .int 0] H' (.ref f) := fun f F H' e r l =>
  ⟨f, F, fr, [1, 5], _, [some (.ref b), some (.ref o)], rfl, r, l, fun σ ⟨w, h⟩ => by rw [h]; rfl, fun H2 Q E k q => ⟨b, o, g, os, rfl, (dl.kn (.extN e)).kn k, ho, fun dd H3 s hd => .inr (.inr ⟨rfl, dd, "exceptions", 0, rfl, hd, fun r H4 s4 h4 => q r H4 (Same.trans s s4) h4⟩)⟩⟩
end
def spRf (K : PySem.W.Frag) (C CV DF DT DS : Addr) (T : List (Addr × Str)) : Sp := fun vs H Q _ => ∃ (t b tv p : Addr) (n : Int) (L : List (Int × Int)) (g : Par), vs = [.ref t, .ref b, .ref tv, .int n] ∧ Tar K C H t p L ∧ n = L.length ∧ 1 ≤ L.length ∧ Deal3 K C CV DF DT DS g [] H b tv ∧ Good g.ds (g.ln - 1) ∧ (g.ds.length : Int) ≤ g.ln ∧ Tabs T H ∧
  ∀ H', ExtN H H' → Tabs T H' → Q (.bl true) H'
theorem Deal3.tv {K : PySem.W.Frag} {C CV DF DT DS : Addr} {g : Par} {os : List Int} {H : Hp} {b tv : Addr} (d : Deal3 K C CV DF DT DS g os H b tv) : (∃ dv ov, Tv K CV H tv g.ln dv ov g.ds os) ∧ 1 ≤ g.ln ∧ g.ln ≤ 14 := by
  rcases d with d | d | d <;> exact ⟨d.tv, d.ok.l1, d.ok.l2⟩
theorem Deal3.odd {K : PySem.W.Frag} {C CV DF DT DS : Addr} {g : Par} {os ms : List Int} {H : Hp} {b tv o : Addr} {dv ov : V} (d : Deal3 K C CV DF DT DS g os H b tv) (h : Tv K CV H o g.ln dv ov g.ds ms) (hm : ms.length ≤ 1000) : Deal3 K C CV DF DT DS g ms H b o := by
  rcases d with d | d | d
  · exact .inl ⟨d.bu, d.lL, ⟨_, _, h⟩, hm, d.ok, d.few⟩
  · exact .inr (.inl ⟨d.bu, d.lL, ⟨_, _, h⟩, hm, d.ok, d.few⟩)
  · exact .inr (.inr ⟨d.bu, d.lL, ⟨_, _, h⟩, hm, d.ok, d.few⟩)
theorem ev_eqD2 {K : PySem.W.Frag} {σ : L2.St} {H : Hp} {te tf : TE} {d e : PyData} (h1 : EvDp K te σ H d) (h2 : EvDp K tf σ H e) (s1 : SeqAt.shaped d = true) (s2 : SeqAt.shaped e = true) : Ev (tOp (rEqD K) te tf) σ H (.bl (PyData.eqv d e)) := fun H1 a Q q =>
  h1 H1 a _ fun v H2 e2 hv => h2 H2 (a.trans e2) _ fun u H3 e3 hu => ⟨d, e, dp_ex e3 hv, hu, s1, s2, q H3 (e2.trans e3)⟩
section
variable {P : Program} {w : World} {K : PySem.W.Frag} {mg : Str → Option Value} {base : Heap}
theorem ok_rf {f cc : Addr} {oc kV doc pm ct : Value} {od an : Option Addr} {osl : Array (Option Value)} (G : Gd P K mg) (lk : K.lookup f = some ⟨oc, od, .func (PySem.W.fnOf "_law_refused" "_law_refused" (defArgs sRf) (defBody sRf) (defScope sRf) .none kV doc pm an (.ref cc) ct), osl⟩)
    (hcd : PySem.W.codeIn K (.ref cc) "_law_refused" = true) (TB : TabB base mg cc G.Pt) : FnOk P w K mg base CX0 13 f (PySem.W.fnOf "_law_refused" "_law_refused" (defArgs sRf) (defBody sRf) (defScope sRf) .none kV doc pm an (.ref cc) ct) ["_law_tariff_here", "_law_buyer_here", "_law_travel", "_law_count"] (spRf K G.C G.CV G.DF G.DT G.DS G.tb) := by
  have hTm : (G.Pt, qRf) ∈ G.tb := List.mem_singleton.mpr rfl
  have hTu : ∀ p ∈ G.tb, p.1 = G.Pt → p.2 = qRf := fun p hp _ => by rw [List.mem_singleton.mp hp]
  refine fn_of (N := NRf) lk hcd scRf (fun vs H Q E h => ?_) (fun A outer s H vs Q E hr h => ?_)
  · obtain ⟨t, b, tv, p, n, L, g, rfl, _⟩ := h
    rfl
  · have hu := hr.units
    have h7 := hr.mono (show 7 ≤ 12 by decide)
    have h12 := hr.mono (show 12 ≤ 12 by decide)
    have bWx : Binds K G.dWx ["self", "day"] [] := G.uWx.binds (ps := ["self", "day"]) fun _ _ _ _ _ _ us hl => match us, hl with | [_, _], _ => rfl
    suffices hh : ∃ t, PSs (cxOf CX0 P w K mg base NRf "_law_refused" (defScope sRf) f (.ref cc) A outer s H E).nox (defBody sRf) t ∧ t { nx := fun _ H' => Q .non H', rt := Q } (start NRf vs) H by
      obtain ⟨t, ht, hq⟩ := hh
      exact ⟨t, ht.nox, hq⟩
    refine ⟨_, pss_cut (ps_set (i := 4) scRf.nd rfl (.inl rfl) (pe_lst (pa_cons (pe_lamV (T := G.tb) TB rfl hTm hTu hf0) (pa_cons (pe_lamD (T := G.tb) TB rfl hTm hTu hf1 rfl rfl) pa_nil))))
      (pss_cut (ps_set (i := 4) scRf.nd rfl (.inl rfl) (pe_op op_cat (pv 4) (pe_lst (pa_cons (pe_lamD (T := G.tb) TB rfl hTm hTu hf2 rfl rfl) (pa_cons (pe_lamD (T := G.tb) TB rfl hTm hTu hf3 rfl rfl) pa_nil)))))
      (pss_cut (ps_expr (pe_bm PySem.F.plainAttrs_list PySem.F.slot_list_append PySem.F.type_list_append mt_append (pv 4) (pa_cons (pe_lamD (T := G.tb) TB rfl hTm hTu hf4 rfl rfl) pa_nil)))
      (pss_cut (ps_expr (pe_bm PySem.F.plainAttrs_list PySem.F.slot_list_append PySem.F.type_list_append mt_append (pv 4) (pa_cons (pe_lamD (T := G.tb) TB rfl hTm hTu hf5 rfl rfl) pa_nil)))
      (pss_cut (ps_if (pt_cmpR (op_neD hu) (pe_lcT (i := 6) (ok_out G.uOu G.OU (Nat.le_refl 11)) rfl rfl scRf.nd rfl (plainBlk_by (by decide +kernel)) rfl rfl G.gOu G.kOu h12 (pv 4)) (pe_op op_rep (pe_lst (pa_cons (pe_tup (pa_cons pe_str pa_nil)) pa_nil)) pe_int) (nomark _)) (pss_one (ps_ret pe_bl)) pss_nil)
      (pss_cut (ps_set (i := 4) scRf.nd rfl (.inl rfl) (pe_lst (pa_cons (pe_lamV (T := G.tb) TB rfl hTm hTu hf6) (pa_cons (pe_lamD (T := G.tb) TB rfl hTm hTu hf7 rfl rfl) pa_nil))))
      (pss_cut (ps_set (i := 4) scRf.nd rfl (.inl rfl) (pe_op op_cat (pv 4) (pe_lst (pa_cons (pe_lamD (T := G.tb) TB rfl hTm hTu hf8 rfl rfl) (pa_cons (pe_lamD (T := G.tb) TB rfl hTm hTu hf9 rfl rfl) pa_nil)))))
      (pss_cut (ps_expr (pe_bm PySem.F.plainAttrs_list PySem.F.slot_list_append PySem.F.type_list_append mt_append (pv 4) (pa_cons (pe_lamD (T := G.tb) TB rfl hTm hTu hf10 rfl rfl) pa_nil)))
      (pss_cut (ps_expr (pe_bm PySem.F.plainAttrs_list PySem.F.slot_list_append PySem.F.type_list_append mt_append (pv 4) (pa_cons (pe_lamD (T := G.tb) TB rfl hTm hTu hf11 rfl rfl) pa_nil)))
      (pss_cut (ps_expr (pe_bm PySem.F.plainAttrs_list PySem.F.slot_list_append PySem.F.type_list_append mt_append (pv 4) (pa_cons (pe_lamD (T := G.tb) TB rfl hTm hTu hf12 rfl rfl) pa_nil)))
      (pss_cut (ps_if (pt_cmpR (op_neD hu) (pe_lcT (i := 6) (ok_out G.uOu G.OU (Nat.le_refl 11)) rfl rfl scRf.nd rfl (plainBlk_by (by decide +kernel)) rfl rfl G.gOu G.kOu h12 (pv 4)) (pe_op op_rep (pe_lst (pa_cons (pe_tup (pa_cons pe_str pa_nil)) pa_nil)) pe_int) (nomark _)) (pss_one (ps_ret pe_bl)) pss_nil)
      (pss_cut (ps_set (i := 5) scRf.nd rfl (.inr rfl) (pe_meth (pv 2) G.W.cl G.mWx (ok_wx G.uWx G.EV G.W G.VL.nc G.VL.gVC G.VL.kVC G.VL.uVC G.m_tuple G.m_sorted G.m_len G.mkV G.uTv) h7 bWx .nil (E := E0) passL (pa_cons pe_int pa_nil)))
      (pss_cut (ps_set (i := 4) scRf.nd rfl (.inl rfl) (pe_lst (pa_cons (pe_lamV (T := G.tb) TB rfl hTm hTu hf13) (pa_cons (pe_lamD (T := G.tb) TB rfl hTm hTu hf14 rfl rfl) pa_nil))))
      (pss_cut (ps_expr (pe_bm PySem.F.plainAttrs_list PySem.F.slot_list_append PySem.F.type_list_append mt_append (pv 4) (pa_cons (pe_lamD (T := G.tb) TB rfl hTm hTu hf15 rfl rfl) pa_nil)))
      (pss_one (ps_ret (pe_cmpR (op_eqD hu) (pe_lcT (i := 6) (ok_out G.uOu G.OU (Nat.le_refl 11)) rfl rfl scRf.nd rfl (plainBlk_by (by decide +kernel)) rfl rfl G.gOu G.kOu h12 (pv 4)) (pe_op op_rep (pe_lst (pa_cons (pe_tup (pa_cons pe_str (pa_cons pe_str (pa_cons pe_int pa_nil)))) pa_nil)) pe_int) (nomark _))))))))))))))))), ?_⟩
    obtain ⟨t, b, tv, p, n, L, g, rfl, ht, hn, l1, dl, gd, nd, hT, q⟩ := h
    refine ⟨fun σ H' => ∃ D xs, σ = Srf t b tv n (some (.ref D)) none ∧ xs.length = 2 ∧ Wk (cxOf CX0 P w K mg base NRf "_law_refused" (defScope sRf) f (.ref cc) A outer s H E).nox 11 G.cN G.cV G.cU (sl0 t b tv n none) [.str "UnknownPass"] G.tb H D xs H', ?_, ?_⟩
    · exact wk_two ⟨_, evlam_V (X := (cxOf CX0 P w K mg base NRf "_law_refused" (defScope sRf) f (.ref cc) A outer s H E).nox) (j := 11) (fr := ["_law_tariff_here", "_law_count"]) (js := [0, 3]) (lsp := tsU2 K G.C (.ref G.cU)) (fun _ => rfl) (fun _ => rfl) fun c' => ⟨fun f' => lok0 G, fun ok => Caps.made ok hf0 hr0 rfl⟩, an_U2 ht l1 hn⟩ ⟨_, evlam_D (X := (cxOf CX0 P w K mg base NRf "_law_refused" (defScope sRf) f (.ref cc) A outer s H E).nox) (j := 11) (fr := ["_law_tariff_here", "_law_count"]) (js := [0, 3]) (lsp := tsU2 K G.C (.ref G.cU)) (fun _ _ => rfl) (fun _ _ => rfl) fun c' t' => ⟨fun f' => lok1 G, fun ok => Caps.made ok hf1 hr1 rfl⟩, an_U2 ht l1 hn⟩ (fun _ _ e _ => e) hT fun D xs H' _ len W => ⟨D, xs, rfl, len, W⟩
    rintro σ H1 ⟨D, xs, rfl, len, W⟩
    refine ⟨fun σ H' => ∃ D xs, σ = Srf t b tv n (some (.ref D)) none ∧ xs.length = 4 ∧ Wk (cxOf CX0 P w K mg base NRf "_law_refused" (defScope sRf) f (.ref cc) A outer s H E).nox 11 G.cN G.cV G.cU (sl0 t b tv n none) [.str "UnknownPass"] G.tb H D xs H', ?_, ?_⟩
    · exact wk_cat rfl W (by omega) ⟨_, evlam_D (X := (cxOf CX0 P w K mg base NRf "_law_refused" (defScope sRf) f (.ref cc) A outer s H E).nox) (j := 11) (fr := ["_law_tariff_here"]) (js := [0]) (lsp := tsU1 K G.C (.ref G.cU)) (fun _ _ => rfl) (fun _ _ => rfl) fun c' t' => ⟨fun f' => lok2 G, fun ok => Caps.made ok hf2 hr2 rfl⟩, an_U1 ht l1⟩ ⟨_, evlam_D (X := (cxOf CX0 P w K mg base NRf "_law_refused" (defScope sRf) f (.ref cc) A outer s H E).nox) (j := 11) (fr := ["_law_tariff_here", "_law_count"]) (js := [0, 3]) (lsp := tsU2 K G.C (.ref G.cU)) (fun _ _ => rfl) (fun _ _ => rfl) fun c' t' => ⟨fun f' => lok3 G, fun ok => Caps.made ok hf3 hr3 rfl⟩, an_U2 ht l1 hn⟩ fun D xs H' len W => ⟨D, xs, rfl, by omega, W⟩
    clear W len
    rintro σ H1 ⟨D, xs, rfl, len, W⟩
    refine ⟨fun σ H' => ∃ D xs, σ = Srf t b tv n (some (.ref D)) none ∧ xs.length = 5 ∧ Wk (cxOf CX0 P w K mg base NRf "_law_refused" (defScope sRf) f (.ref cc) A outer s H E).nox 11 G.cN G.cV G.cU (sl0 t b tv n none) [.str "UnknownPass"] G.tb H D xs H', ?_, ?_⟩
    · exact wk_app (X := (cxOf CX0 P w K mg base NRf "_law_refused" (defScope sRf) f (.ref cc) A outer s H E).nox) rfl W (by omega) ⟨_, evlam_D (X := (cxOf CX0 P w K mg base NRf "_law_refused" (defScope sRf) f (.ref cc) A outer s H E).nox) (j := 11) (fr := ["_law_tariff_here", "_law_count"]) (js := [0, 3]) (lsp := tsU2 K G.C (.ref G.cU)) (fun _ _ => rfl) (fun _ _ => rfl) fun c' t' => ⟨fun f' => lok4 G, fun ok => Caps.made ok hf4 hr4 rfl⟩, an_U2 ht l1 hn⟩ fun xs H' len W => ⟨D, xs, rfl, by omega, W⟩
    clear W len
    rintro σ H1 ⟨D, xs, rfl, len, W⟩
    refine ⟨fun σ H' => ∃ D xs, σ = Srf t b tv n (some (.ref D)) none ∧ xs.length = 6 ∧ Wk (cxOf CX0 P w K mg base NRf "_law_refused" (defScope sRf) f (.ref cc) A outer s H E).nox 11 G.cN G.cV G.cU (sl0 t b tv n none) [.str "UnknownPass"] G.tb H D xs H', ?_, ?_⟩
    · exact wk_app (X := (cxOf CX0 P w K mg base NRf "_law_refused" (defScope sRf) f (.ref cc) A outer s H E).nox) rfl W (by omega) ⟨_, evlam_D (X := (cxOf CX0 P w K mg base NRf "_law_refused" (defScope sRf) f (.ref cc) A outer s H E).nox) (j := 11) (fr := ["_law_tariff_here", "_law_count"]) (js := [0, 3]) (lsp := tsU2 K G.C (.ref G.cU)) (fun _ _ => rfl) (fun _ _ => rfl) fun c' t' => ⟨fun f' => lok5 G, fun ok => Caps.made ok hf5 hr5 rfl⟩, an_U2 ht l1 hn⟩ fun xs H' len W => ⟨D, xs, rfl, by omega, W⟩
    clear W len
    rintro σ H1 ⟨D, xs, rfl, len, W⟩
    have eD : EvDp K (tLcT (cxOf CX0 P w K mg base NRf "_law_refused" (defScope sRf) f (.ref cc) A outer s H E).nox (L2.CX P w) 11 (spOut G.cN G.cV G.cU) (tVar 4)) (Srf t b tv n (some (.ref D)) none) H1 (.list (List.replicate 6 (.tuple [.str "UnknownPass"]))) := by
      rw [← len]
      exact lct_dp (X := (cxOf CX0 P w K mg base NRf "_law_refused" (defScope sRf) f (.ref cc) A outer s H E).nox) (sl := sl0 t b tv n none) (out := [.str "UnknownPass"]) ⟨_, rfl⟩ rfl W.hD (by omega) W.an fun H' => .cons (.str _) .nil
    refine ⟨fun σ H' => ∃ w, σ = Srf t b tv n w none ∧ ExtN H H' ∧ Tabs G.tb H', ?_, ?_⟩
    · refine s_when (b := false) (et_same (K := K) eD (rep_dp (n := 6) (edp_tup (eda_cons edp_str eda_nil) (by decide)) (by decide)) (by decide +kernel)) (fun hb => by cases hb) (fun _ H2 e2 => ⟨_, rfl, W.e.trans (.of e2), tabs_same W.T e2⟩)
    clear eD W len
    rintro σ H1 ⟨w1, rfl, e1, T1⟩
    refine ⟨fun σ H' => ∃ D xs, σ = Srf t b tv n (some (.ref D)) none ∧ xs.length = 2 ∧ Wk (cxOf CX0 P w K mg base NRf "_law_refused" (defScope sRf) f (.ref cc) A outer s H E).nox 11 G.cN G.cV G.cU (sl0 t b tv n none) [.str "InvalidCount"] G.tb H D xs H', ?_, ?_⟩
    · exact wk_two ⟨_, evlam_V (X := (cxOf CX0 P w K mg base NRf "_law_refused" (defScope sRf) f (.ref cc) A outer s H E).nox) (j := 11) (fr := ["_law_tariff_here"]) (js := [0]) (lsp := tsU1 K G.C (.ref G.cN)) (fun _ => rfl) (fun _ => rfl) fun c' => ⟨fun f' => lok6 G, fun ok => Caps.made ok hf6 hr6 rfl⟩, an_N1 ht l1⟩ ⟨_, evlam_D (X := (cxOf CX0 P w K mg base NRf "_law_refused" (defScope sRf) f (.ref cc) A outer s H E).nox) (j := 11) (fr := ["_law_tariff_here"]) (js := [0]) (lsp := tsU1 K G.C (.ref G.cN)) (fun _ _ => rfl) (fun _ _ => rfl) fun c' t' => ⟨fun f' => lok7 G, fun ok => Caps.made ok hf7 hr7 rfl⟩, an_N1 ht l1⟩ e1 T1 fun D xs H' _ len W => ⟨D, xs, rfl, len, W⟩
    rintro σ H1 ⟨D, xs, rfl, len, W⟩
    refine ⟨fun σ H' => ∃ D xs, σ = Srf t b tv n (some (.ref D)) none ∧ xs.length = 4 ∧ Wk (cxOf CX0 P w K mg base NRf "_law_refused" (defScope sRf) f (.ref cc) A outer s H E).nox 11 G.cN G.cV G.cU (sl0 t b tv n none) [.str "InvalidCount"] G.tb H D xs H', ?_, ?_⟩
    · exact wk_cat rfl W (by omega) ⟨_, evlam_D (X := (cxOf CX0 P w K mg base NRf "_law_refused" (defScope sRf) f (.ref cc) A outer s H E).nox) (j := 11) (fr := ["_law_tariff_here"]) (js := [0]) (lsp := tsU1 K G.C (.ref G.cN)) (fun _ _ => rfl) (fun _ _ => rfl) fun c' t' => ⟨fun f' => lok8 G, fun ok => Caps.made ok hf8 hr8 rfl⟩, an_N1 ht l1⟩ ⟨_, evlam_D (X := (cxOf CX0 P w K mg base NRf "_law_refused" (defScope sRf) f (.ref cc) A outer s H E).nox) (j := 11) (fr := ["_law_buyer_here", "_law_travel"]) (js := [1, 2]) (lsp := tsNB K G.C G.CV G.DF G.DT G.DS (.ref G.cN)) (fun _ _ => rfl) (fun _ _ => rfl) fun c' t' => ⟨fun f' => lok9 G, fun ok => Caps.made ok hf9 hr9 rfl⟩, an_NB dl⟩ fun D xs H' len W => ⟨D, xs, rfl, by omega, W⟩
    clear W len
    rintro σ H1 ⟨D, xs, rfl, len, W⟩
    refine ⟨fun σ H' => ∃ D xs, σ = Srf t b tv n (some (.ref D)) none ∧ xs.length = 5 ∧ Wk (cxOf CX0 P w K mg base NRf "_law_refused" (defScope sRf) f (.ref cc) A outer s H E).nox 11 G.cN G.cV G.cU (sl0 t b tv n none) [.str "InvalidCount"] G.tb H D xs H', ?_, ?_⟩
    · exact wk_app (X := (cxOf CX0 P w K mg base NRf "_law_refused" (defScope sRf) f (.ref cc) A outer s H E).nox) rfl W (by omega) ⟨_, evlam_D (X := (cxOf CX0 P w K mg base NRf "_law_refused" (defScope sRf) f (.ref cc) A outer s H E).nox) (j := 11) (fr := ["_law_buyer_here", "_law_travel"]) (js := [1, 2]) (lsp := tsNB K G.C G.CV G.DF G.DT G.DS (.ref G.cN)) (fun _ _ => rfl) (fun _ _ => rfl) fun c' t' => ⟨fun f' => lok10 G, fun ok => Caps.made ok hf10 hr10 rfl⟩, an_NB dl⟩ fun xs H' len W => ⟨D, xs, rfl, by omega, W⟩
    clear W len
    rintro σ H1 ⟨D, xs, rfl, len, W⟩
    refine ⟨fun σ H' => ∃ D xs, σ = Srf t b tv n (some (.ref D)) none ∧ xs.length = 6 ∧ Wk (cxOf CX0 P w K mg base NRf "_law_refused" (defScope sRf) f (.ref cc) A outer s H E).nox 11 G.cN G.cV G.cU (sl0 t b tv n none) [.str "InvalidCount"] G.tb H D xs H', ?_, ?_⟩
    · exact wk_app (X := (cxOf CX0 P w K mg base NRf "_law_refused" (defScope sRf) f (.ref cc) A outer s H E).nox) rfl W (by omega) ⟨_, evlam_D (X := (cxOf CX0 P w K mg base NRf "_law_refused" (defScope sRf) f (.ref cc) A outer s H E).nox) (j := 11) (fr := ["_law_buyer_here", "_law_travel"]) (js := [1, 2]) (lsp := tsNB K G.C G.CV G.DF G.DT G.DS (.ref G.cN)) (fun _ _ => rfl) (fun _ _ => rfl) fun c' t' => ⟨fun f' => lok11 G, fun ok => Caps.made ok hf11 hr11 rfl⟩, an_NB dl⟩ fun xs H' len W => ⟨D, xs, rfl, by omega, W⟩
    clear W len
    rintro σ H1 ⟨D, xs, rfl, len, W⟩
    refine ⟨fun σ H' => ∃ D xs, σ = Srf t b tv n (some (.ref D)) none ∧ xs.length = 7 ∧ Wk (cxOf CX0 P w K mg base NRf "_law_refused" (defScope sRf) f (.ref cc) A outer s H E).nox 11 G.cN G.cV G.cU (sl0 t b tv n none) [.str "InvalidCount"] G.tb H D xs H', ?_, ?_⟩
    · exact wk_app (X := (cxOf CX0 P w K mg base NRf "_law_refused" (defScope sRf) f (.ref cc) A outer s H E).nox) rfl W (by omega) ⟨_, evlam_D (X := (cxOf CX0 P w K mg base NRf "_law_refused" (defScope sRf) f (.ref cc) A outer s H E).nox) (j := 11) (fr := ["_law_buyer_here", "_law_travel"]) (js := [1, 2]) (lsp := tsNB K G.C G.CV G.DF G.DT G.DS (.ref G.cN)) (fun _ _ => rfl) (fun _ _ => rfl) fun c' t' => ⟨fun f' => lok12 G, fun ok => Caps.made ok hf12 hr12 rfl⟩, an_NB dl⟩ fun xs H' len W => ⟨D, xs, rfl, by omega, W⟩
    clear W len
    rintro σ H1 ⟨D, xs, rfl, len, W⟩
    have eD : EvDp K (tLcT (cxOf CX0 P w K mg base NRf "_law_refused" (defScope sRf) f (.ref cc) A outer s H E).nox (L2.CX P w) 11 (spOut G.cN G.cV G.cU) (tVar 4)) (Srf t b tv n (some (.ref D)) none) H1 (.list (List.replicate 7 (.tuple [.str "InvalidCount"]))) := by
      rw [← len]
      exact lct_dp (X := (cxOf CX0 P w K mg base NRf "_law_refused" (defScope sRf) f (.ref cc) A outer s H E).nox) (sl := sl0 t b tv n none) (out := [.str "InvalidCount"]) ⟨_, rfl⟩ rfl W.hD (by omega) W.an fun H' => .cons (.str _) .nil
    refine ⟨fun σ H' => ∃ w, σ = Srf t b tv n w none ∧ ExtN H H' ∧ Tabs G.tb H', ?_, ?_⟩
    · refine s_when (b := false) (et_same (K := K) eD (rep_dp (n := 7) (edp_tup (eda_cons edp_str eda_nil) (by decide)) (by decide)) (by decide +kernel)) (fun hb => by cases hb) (fun _ H2 e2 => ⟨_, rfl, W.e.trans (.of e2), tabs_same W.T e2⟩)
    clear eD W len e1 T1
    rintro σ H1 ⟨w2, rfl, e1, T1⟩
    have dl1 := dl.kn (.extN e1)
    refine ⟨fun σ H' => ∃ (o : Addr), σ = Srf t b tv n w2 (some (.ref o)) ∧ ExtN H H' ∧ Tabs G.tb H' ∧ Deal3 K G.C G.CV G.DF G.DT G.DS g [3] H' b o, ?_, ?_⟩
    · obtain ⟨⟨dv, ov, htv⟩, ln1, ln2⟩ := dl1.tv
      obtain ⟨dxv, hdx⟩ := htv.1
      exact ⟨_, rfl, tv, dxv, _, rfl, hdx, rfl, tv, g.ln, dv, ov, g.ds, rfl, htv, ln1, ln2, gd, nd, fun o o' H' sm tvo => ⟨o, rfl, e1.trans (.of sm), tabs_same T1 sm, (dl1.same sm).odd tvo (by decide)⟩⟩
    clear dl1
    rintro σ H2 ⟨o, rfl, e2, T2, dlo⟩
    have hq : ∀ H', ExtN H2 H' → Tabs G.tb H' → Q (.bl true) H' := fun H' e T => q H' (e2.trans e) T
    refine ⟨fun σ H' => ∃ D xs, σ = Srf t b tv n (some (.ref D)) (some (.ref o)) ∧ xs.length = 2 ∧ Wk (cxOf CX0 P w K mg base NRf "_law_refused" (defScope sRf) f (.ref cc) A outer s H E).nox 11 G.cN G.cV G.cU (sl0 t b tv n (some (.ref o))) [.str "InvalidTravel", .str "exceptions", .int 0] G.tb H2 D xs H', ?_, ?_⟩
    · exact wk_two ⟨_, evlam_V (X := (cxOf CX0 P w K mg base NRf "_law_refused" (defScope sRf) f (.ref cc) A outer s H E).nox) (j := 11) (fr := ["_law_buyer_here", "_law_odd"]) (js := [1, 5]) (lsp := tsVO K G.C G.CV G.DF G.DT G.DS (.ref G.cV)) (fun _ => rfl) (fun _ => rfl) fun c' => ⟨fun f' => lok13 G, fun ok => Caps.made ok hf13 hr13 rfl⟩, an_VO dlo (by simp)⟩ ⟨_, evlam_D (X := (cxOf CX0 P w K mg base NRf "_law_refused" (defScope sRf) f (.ref cc) A outer s H E).nox) (j := 11) (fr := ["_law_buyer_here", "_law_odd"]) (js := [1, 5]) (lsp := tsVO K G.C G.CV G.DF G.DT G.DS (.ref G.cV)) (fun _ _ => rfl) (fun _ _ => rfl) fun c' t' => ⟨fun f' => lok14 G, fun ok => Caps.made ok hf14 hr14 rfl⟩, an_VO dlo (by simp)⟩ (fun _ _ e _ => e) T2 fun D xs H' _ len W => ⟨D, xs, rfl, len, W⟩
    rintro σ H1 ⟨D, xs, rfl, len, W⟩
    refine ⟨fun σ H' => ∃ D xs, σ = Srf t b tv n (some (.ref D)) (some (.ref o)) ∧ xs.length = 3 ∧ Wk (cxOf CX0 P w K mg base NRf "_law_refused" (defScope sRf) f (.ref cc) A outer s H E).nox 11 G.cN G.cV G.cU (sl0 t b tv n (some (.ref o))) [.str "InvalidTravel", .str "exceptions", .int 0] G.tb H2 D xs H', ?_, ?_⟩
    · exact wk_app (X := (cxOf CX0 P w K mg base NRf "_law_refused" (defScope sRf) f (.ref cc) A outer s H E).nox) rfl W (by omega) ⟨_, evlam_D (X := (cxOf CX0 P w K mg base NRf "_law_refused" (defScope sRf) f (.ref cc) A outer s H E).nox) (j := 11) (fr := ["_law_buyer_here", "_law_odd"]) (js := [1, 5]) (lsp := tsVO K G.C G.CV G.DF G.DT G.DS (.ref G.cV)) (fun _ _ => rfl) (fun _ _ => rfl) fun c' t' => ⟨fun f' => lok15 G, fun ok => Caps.made ok hf15 hr15 rfl⟩, an_VO dlo (by simp)⟩ fun xs H' len W => ⟨D, xs, rfl, by omega, W⟩
    clear W len
    rintro σ H1 ⟨D, xs, rfl, len, W⟩
    have eD : EvDp K (tLcT (cxOf CX0 P w K mg base NRf "_law_refused" (defScope sRf) f (.ref cc) A outer s H E).nox (L2.CX P w) 11 (spOut G.cN G.cV G.cU) (tVar 4)) (Srf t b tv n (some (.ref D)) (some (.ref o))) H1 (.list (List.replicate 3 (.tuple [.str "InvalidTravel", .str "exceptions", .int 0]))) := by
      rw [← len]
      exact lct_dp (X := (cxOf CX0 P w K mg base NRf "_law_refused" (defScope sRf) f (.ref cc) A outer s H E).nox) (sl := sl0 t b tv n (some (.ref o))) (out := [.str "InvalidTravel", .str "exceptions", .int 0]) ⟨_, rfl⟩ rfl W.hD (by omega) W.an fun H' => .cons (.str _) (.cons (.str _) (.cons (.int _) .nil))
    refine s_ret (v := .bl true) ?_ fun H3 e3 => hq H3 (W.e.trans (.of e3)) (tabs_same W.T e3)
    exact ev_is (ev_eqD2 (K := K) eD (rep_dp (n := 3) (edp_tup (eda_cons edp_str (eda_cons edp_str (eda_cons (edp_int ev_c) eda_nil))) (by decide)) (by decide)) (by decide +kernel) (by decide +kernel)) (by rw [eqv_self _ (by decide +kernel)])
end
end Sea

set_option Elab.async false
set_option linter.all false
set_option maxRecDepth 100000
set_option maxHeartbeats 4000000
/-! k41's law: its words -/
namespace Sea
open PySem PySem.Spec PyProof.Rows L2 LamX NdefX ClX Evl StX
/-- a class and its word KIND -/
structure TKw (K : PySem.W.Frag) (mg : Str → Option Value) (nm : Str) (D : Addr) (kd : Str) (md : Value) : Prop where
  g : mg nm = some (.ref D)
  cr : CRead K D md
  cv : ∃ u, CVal K D md "KIND" (.str kd) u
/-- .. read off an instance; isinstance of Buyer -/
structure TKi (K : PySem.W.Frag) (DB D : Addr) (kd : Str) : Prop where
  cl : Cls K D
  cn : ∃ u, Con K D "KIND" (.str kd) u
  ha : PySem.W.findIn K (.ref D) "__class__" = some (some (.builtin "object.__class__"))
  hn : PySem.W.specialIn K (.builtin "object.__class__") "__get__" = some (some (.builtin "getset_descriptor.__get__"))
  ht : PySem.W.takesIn K (.builtin "object.__class__") = some true
  hm : PySem.W.mroIn K D (.type "object") = some true
  si : PySem.W.kitOne K (.ref D) (.ref DB) = some true
theorem TKi.ty {K : PySem.W.Frag} {DB D : Addr} {kd : Str} (k : TKi K DB D kd) {H : Hp} {a dx : Addr} {fs : List (Str × V)} (e : H a = some (.ins D dx fs)) : TyX K H (.ref a) (.ref D) := .base (.ins e k.cl k.ha k.hn k.ht k.hm)
/-- beside Gd, what the law itself reads -/
structure Gl4 (P : Program) (K : PySem.W.Frag) (mg : Str → Option Value) (G : Gd P K mg) (mB mF mT mS : Value) : Prop where
  wB : TKw K mg "Buyer" G.DB "buyer" mB
  wF : TKw K mg "FixedBuyer" G.DF "fixed" mF
  wT : TKw K mg "TurnBuyer" G.DT "turn" mT
  wS : TKw K mg "SwitchBuyer" G.DS "switch" mS
  iF : TKi K G.DB G.DF "fixed"
  iT : TKi K G.DB G.DT "turn"
  iS : TKi K G.DB G.DS "switch"
  mI : mg "isinstance" = none
def kindOf : Hab → Str
  | .fix _ => "fixed"
  | .turn _ _ => "turn"
  | .sw _ _ _ => "switch"
section
variable {K : PySem.W.Frag} {C CV DF DT DS : Addr} {H H' : Hp} {a t : Addr} {L : List (Int × Int)} {hb : Hab}
theorem BuyAt.kn : ∀ {hb : Hab}, BuyAt K C DF DT DS H a t L hb → KN H H' → BuyAt K C DF DT DS H' a t L hb
  | .fix _, ⟨h, dx, e⟩, s => ⟨h.kn s, dx, s.ins e⟩
  | .turn _ _, ⟨h, dx, sq, e⟩, s => ⟨h.kn s, dx, sq, s.ins e⟩
  | .sw _ _ _, ⟨h, dx, e⟩, s => ⟨h.kn s, dx, s.ins e⟩
theorem BuyAt.tar : ∀ {hb : Hab}, BuyAt K C DF DT DS H a t L hb → ∃ p, Tar K C H t p L
  | .fix _, ⟨⟨t', p, i, ⟨d1, h1⟩, h2, _⟩, dx, e⟩ => by
    rw [h1] at e
    cases e
    exact ⟨p, h2⟩
  | .turn _ _, ⟨⟨t', p, sq', is, ⟨d1, h1⟩, h2, _⟩, dx, sq, e⟩ => by
    rw [h1] at e
    cases e
    exact ⟨p, h2⟩
  | .sw _ _ _, ⟨⟨t', p, i, j, lim, ⟨d1, h1⟩, h2, _⟩, dx, e⟩ => by
    rw [h1] at e
    cases e
    exact ⟨p, h2⟩
/-- what is drawn in a turn: numbers -/
structure Nu (g : Par) (hb : Hab) : Prop where
  n1 : 1 ≤ g.L.length
  n3 : g.L.length ≤ 3
  ok : ∀ z ∈ g.L, PassOk z
  hin : HabIn g.L.length hb
  lim : ∀ i j l, hb = .sw i j l → l ≤ 6 * (pas g.L i).2
  l1 : 1 ≤ g.ln
  l2 : g.ln ≤ 14
  gd : Good g.ds (g.ln - 1)
  nd : (g.ds.length : Int) ≤ g.ln
  eb : g.b = byOf g.L hb
theorem Nu.par {g : Par} (u : Nu g hb) : g.Ok (IHab hb) := ⟨u.l1, u.l2, u.ok, by rw [u.eb]; exact hab_ok u.ok u.hin⟩
theorem Nu.deal {g : Par} (u : Nu g hb) {b tv : Addr} {dv ov : V} (h : BuyAt K C DF DT DS H b t g.L hb) (ht : Tv K CV H tv g.ln dv ov g.ds []) : Deal3 K C CV DF DT DS g [] H b tv := by
  have o := u.par
  have lL : g.L.length ≤ 1000 := by have := u.n3; omega
  have eb := u.eb
  have hin := u.hin
  have lim := u.lim
  cases hb with
  | fix i =>
    refine .inl ⟨?_, lL, ⟨_, _, ht⟩, Nat.zero_le _, ?_, fun d f => fix_few (i := i) eb ?_ f⟩
    · rw [eb]; exact h.1
    · exact o
    · exact o
  | turn i j =>
    have o2 : g.Ok (ITn g.b) := by
      have : ITn g.b = ITurn [i, j] := by rw [eb]; rfl
      rw [this]
      exact o
    refine .inr (.inl ⟨?_, lL, ⟨_, _, ht⟩, Nat.zero_le _, o2, fun d f => turn_few (i := i) (j := j) eb o2 f⟩)
    rw [eb]; exact h.1
  | sw i j l =>
    refine .inr (.inr ⟨?_, lL, ⟨_, _, ht⟩, Nat.zero_le _, o, fun d f => sw_few (i := i) (j := j) (lim := l) eb o hin.1.1 (lim i j l rfl) f⟩)
    rw [eb]; exact h.1
theorem kn_of {h c : Addr} (d : Ds K H h c) (k : Kh h H H') : KN H H' := by
  obtain ⟨p, m, r, ns, _, e1, _⟩ := d
  intro b o e n m'
  refine k b o e fun z => ?_
  rw [z, e1] at e
  cases e
  exact m' _ rfl
end
/-- every seventh total -/
theorem every_tots (g : Par) (n : Nat) : every (tots g n) .non 7 = (List.range ((n + 1 + 6) / 7)).map fun k => V.int (sim g (7 * k)).2.2 := by
  unfold every
  rw [tots_len]
  refine List.map_congr_left fun k hk => ?_
  have hk := every_lt (n := n + 1) (c := 7) (by decide) (List.mem_range.mp hk)
  have : (tots g n)[7 * k]? = some (.int (sim g (7 * k)).2.2) := by
    unfold tots
    rw [List.getElem?_map, List.getElem?_range hk]
    rfl
  rw [List.getD_eq_getElem?_getD, this]
  rfl
theorem rg7 {n : Nat} (h : n ≤ 10000) : RgC 0 ((n : Int) + 1) 7 ((n + 1 + 6) / 7) := by
  have e : Builtin.Range.rangeSize 0 ((n : Int) + 1) 7 = (((n + 1 + 6) / 7 : Nat) : Int) := by
    unfold Builtin.Range.rangeSize
    rw [if_pos (by decide), if_pos (by omega)]
    omega
  refine ⟨by decide, by decide, ?_, e⟩
  have m0 : (n + 1 + 6) / 7 ≤ 10001 := by omega
  unfold Builtin.Range.small
  rw [e]
  generalize (n + 1 + 6) / 7 = m at m0
  have f : ∀ i : Int, -100000 ≤ i → i ≤ 100000 → Builtin.Range.rangeFitsLong i = true := fun i h1 h2 => by
    unfold Builtin.Range.rangeFitsLong
    rw [Bool.and_eq_true, decide_eq_true_eq, decide_eq_true_eq]
    omega
  show (Builtin.Range.rangeFitsLong 0 && Builtin.Range.rangeFitsLong ((n : Int) + 1) && Builtin.Range.rangeFitsLong 7 && Builtin.Range.rangeFitsLong ((m : Nat) : Int) && (((m : Nat) : Int) == 0 || (if (7 : Int) > 0 then Builtin.Range.rangeFitsLong ((n : Int) + 1 + (7 - 1)) else Builtin.Range.rangeFitsLong ((n : Int) + 1 + (7 + 1))))) = true
  rw [f 0 (by omega) (by omega), f _ (show -100000 ≤ (n : Int) + 1 by omega) (by omega), f 7 (by omega) (by omega), f _ (show -100000 ≤ ((m : Nat) : Int) by omega) (by omega), if_pos (by decide), f _ (show -100000 ≤ (n : Int) + 1 + (7 - 1) by omega) (by omega), Bool.or_true]
  rfl
abbrev NL : List Str := ["_law_script", "_law_state", "_law_turn", "_law_passes_here", "_law_tariff_here", "_law_habit_here", "_law_length", "_law_days_here", "_law_buyer_here", "_law_travel", "_law_last", "_law_totals", "_law_bought", "_law_again", "_law_first", "_law_end", "_law_expected", "_law_count", "_law_row"]
theorem scLaw : FnScope NL ["_law_script"] (defScope sLaw) := ⟨rfl, rfl, rfl, by decide +kernel, rfl, by decide +kernel, by decide +kernel⟩
end Sea

set_option Elab.async false
set_option linter.all false
set_option maxRecDepth 100000
set_option maxHeartbeats 4000000
/-! k41's law -/
namespace Sea
open PySem PySem.Spec PyProof.Rows L2 LamX NdefX ClX Evl StX
theorem sl_tupK {X : Cx} (K : PySem.W.Frag) (hK : X.K = K) : SlR X (rSlT K) := hK ▸ sl_tup
theorem pe_or {X : Cx} {e : Expr} {t1 t2 : TE} (h1 : PE X e t1) (h2 : PE X e t2) : PE X e (fun σ H Q => t1 σ H Q ∨ t2 σ H Q) := ⟨fun pins s σ H Q I h => h.elim (h1.run pins s σ H Q I) (h2.run pins s σ H Q I)⟩
theorem tabs_kh {K : PySem.W.Frag} {T : List (Addr × Str)} {H H' : Hp} {h c : Addr} (hT : Tabs T H) (d : Ds K H h c) (k : Kh h H H') : Tabs T H' := by
  obtain ⟨p, m, r, ns, _, e1, e2, _⟩ := d
  refine tabs_but hT fun b o e n => k b o e (fun z => ?_)
  rw [z, e1] at e
  cases e
  exact n.1 _ rfl
/-- the draws, the passes -/
structure C2 (K : PySem.W.Frag) (tb : List (Addr × Str)) (h a0 l : Addr) (vs : List V) (L : List (Int × Int)) (H : Hp) : Prop where
  d : Ds K H h a0
  T : Tabs tb H
  hl : H l = some (.lst vs)
  nl : l ≠ h
  ps : PsV K H vs L
theorem C2.same {K : PySem.W.Frag} {tb : List (Addr × Str)} {h a0 l : Addr} {vs : List V} {L : List (Int × Int)} {H H' : Hp} (c : C2 K tb h a0 l vs L H) (s : Same H H') : C2 K tb h a0 l vs L H' :=
  ⟨c.d.same s, tabs_same c.T s, s _ _ c.hl, c.nl, c.ps.tk (.same s)⟩
theorem C2.kh {K : PySem.W.Frag} {tb : List (Addr × Str)} {h a0 l : Addr} {vs : List V} {L : List (Int × Int)} {H H' : Hp} (c : C2 K tb h a0 l vs L H) (k : Kh h H H') (d : Ds K H' h a0) : C2 K tb h a0 l vs L H' :=
  ⟨d, tabs_kh c.T c.d k, k _ _ c.hl c.nl, c.nl, c.ps.tk (c.d.tk k)⟩
/-- .. the tariff, the habit, the days -/
structure C4 (K : PySem.W.Frag) (C : Addr) (tb : List (Addr × Str)) (h a0 l t p : Addr) (vs : List V) (L : List (Int × Int)) (hv dv : V) (hb : Hab) (ds : List Int) (H : Hp) : Prop where
  c : C2 K tb h a0 l vs L H
  ta : Tar K C H t p L
  hv : HbA K H hv hb
  dv : TiA K H dv ds
section
variable {K : PySem.W.Frag} {C CV DF DT DS : Addr} {tb : List (Addr × Str)} {h a0 l t p b tv TT B : Addr} {vs bs : List V} {L : List (Int × Int)} {hv dv ov : V} {hb : Hab} {ds : List Int} {g : Par} {n : Nat} {H H' : Hp}
theorem C4.same (c : C4 K C tb h a0 l t p vs L hv dv hb ds H) (s : Same H H') : C4 K C tb h a0 l t p vs L hv dv hb ds H' := ⟨c.c.same s, c.ta.same s, c.hv.tk (.same s), c.dv.tk (.same s)⟩
theorem C4.kh (c : C4 K C tb h a0 l t p vs L hv dv hb ds H) (k : Kh h H H') (d : Ds K H' h a0) : C4 K C tb h a0 l t p vs L hv dv hb ds H' := ⟨c.c.kh k d, c.ta.kn (kn_of c.c.d k), c.hv.tk (c.c.d.tk k), c.dv.tk (c.c.d.tk k)⟩
/-- .. the buyer, the travel -/
structure C5 (K : PySem.W.Frag) (C CV DF DT DS : Addr) (tb : List (Addr × Str)) (h a0 l t p b tv : Addr) (vs : List V) (hv dv ov : V) (hb : Hab) (g : Par) (H : Hp) : Prop where
  c : C4 K C tb h a0 l t p vs g.L hv dv hb g.ds H
  bu : BuyAt K C DF DT DS H b t g.L hb
  tv : Tv K CV H tv g.ln dv ov g.ds []
theorem C5.same (c : C5 K C CV DF DT DS tb h a0 l t p b tv vs hv dv ov hb g H) (s : Same H H') : C5 K C CV DF DT DS tb h a0 l t p b tv vs hv dv ov hb g H' := ⟨c.c.same s, c.bu.same s, c.tv.same s⟩
theorem C5.kh (c : C5 K C CV DF DT DS tb h a0 l t p b tv vs hv dv ov hb g H) (k : Kh h H H') (d : Ds K H' h a0) : C5 K C CV DF DT DS tb h a0 l t p b tv vs hv dv ov hb g H' := ⟨c.c.kh k d, c.bu.kn (kn_of c.c.c.d k), c.tv.kn (kn_of c.c.c.d k)⟩
/-- .. the law's own simulation -/
structure C6 (K : PySem.W.Frag) (C CV DF DT DS : Addr) (tb : List (Addr × Str)) (h a0 l t p b tv TT B : Addr) (vs bs : List V) (hv dv ov : V) (hb : Hab) (g : Par) (n : Nat) (H : Hp) : Prop where
  c : C5 K C CV DF DT DS tb h a0 l t p b tv vs hv dv ov hb g H
  it : H TT = some (.lst (tots g n))
  nt : TT ≠ h
  ib : H B = some (.lst bs)
  nb : B ≠ h
  rw : RwsV K H bs (rows g (flg g.L hb) n)
theorem C6.same (c : C6 K C CV DF DT DS tb h a0 l t p b tv TT B vs bs hv dv ov hb g n H) (s : Same H H') : C6 K C CV DF DT DS tb h a0 l t p b tv TT B vs bs hv dv ov hb g n H' := ⟨c.c.same s, s _ _ c.it, c.nt, s _ _ c.ib, c.nb, c.rw.tk (.same s)⟩
theorem C6.kh (c : C6 K C CV DF DT DS tb h a0 l t p b tv TT B vs bs hv dv ov hb g n H) (k : Kh h H H') (d : Ds K H' h a0) : C6 K C CV DF DT DS tb h a0 l t p b tv TT B vs bs hv dv ov hb g n H' :=
  ⟨c.c.kh k d, k _ _ c.it c.nt, c.nt, k _ _ c.ib c.nb, c.nb, c.rw.tk (c.c.c.c.d.tk k)⟩
theorem C6.tot (c : C6 K C CV DF DT DS tb h a0 l t p b tv TT B vs bs hv dv ov hb g n H) : H TT = some (.lst (tots g n)) := c.it
end
theorem okP_pass {z : Int × Int} (h : okP z = true) : PassOk z := by
  unfold okP at h
  rw [Bool.and_eq_true, Bool.and_eq_true, Bool.and_eq_true, decide_eq_true_eq, decide_eq_true_eq, decide_eq_true_eq, decide_eq_true_eq] at h
  obtain ⟨⟨h1, h2⟩, h3, h4⟩ := h
  exact ⟨h1, h2, h3, h4⟩
section
variable {K : PySem.W.Frag} {te : TE} {t : TT} {σ : L2.St} {H : Hp}
/-- a comprehension over a range with a step -/
theorem el_lcR3 {ta : TA} {lo hi c : Int} {j m : Nat} {vs : List Nat} (f : Nat → Bool) (v : Nat → V) (h : EvA ta σ H [.int lo, .int hi, .int c]) (hm : RgC lo hi c m) (few : m ≤ 40000) (hw : ∀ x, wipe ((wipe σ vs).set j (some x)) vs = wipe σ vs)
    (ht : ∀ (i : Nat) H1, Ex H H1 → i < m → EvT t ((wipe σ vs).set j (some (.int (lo + (i : Nat) * c)))) H1 (f i)) (he : ∀ (i : Nat) H1, Ex H H1 → i < m → f i = true → Ev te ((wipe σ vs).set j (some (.int (lo + (i : Nat) * c)))) H1 (v i)) :
    EvL (tLc (iRng3 ta) (gName j) t te vs) σ H (given m f v) := fun H0 e Q q => h H0 e _ fun H1 e1 => ⟨lo, hi, c, m, rfl, hm, fun Dl hD =>
  lc_it walk_rangeC (Cw H1 f v Dl) ⟨hD, Ex.new hD, upd_same⟩ (fun _ _ _ _ => trivial) (fun i x G G' hi p y => by
    obtain ⟨rfl, rfl⟩ := y
    exact ⟨hw _, cw_turn p (by omega) (ht i H1 (e.trans e1) hi) (fun hf => he i H1 (e.trans e1) hi hf)⟩) (fun H' p => q Dl H' (fresh_back e1 p.1) (e1.trans p.2.1) p.2.2)⟩
theorem el_stepL {a : Addr} {xs : List V} {c : Nat} (h : Ev te σ H (.ref a)) (hx : SqL K H a xs) : EvL (tStepL K c te) σ H (every xs .non c) := fun H1 e Q q =>
  h H1 e _ fun H2 e2 => ⟨a, xs, rfl, ex_l (e.trans e2) hx, fun p np => q p _ (fresh_back e2 np) (e2.trans (Ex.new np)) upd_same⟩
theorem edp_ints {xs : List V} {ns : List Int} (h : EvL te σ H xs) (e : xs = ns.map V.int) : EvDp K te σ H (.list (ns.map PyData.int)) := fun H1 e1 Q q => h H1 e1 _ fun p H2 np e2 hp => q (.ref p) H2 e2 (.lst (.of (e ▸ hp)) (intsDp ns))
end
theorem Ds.extN {K : PySem.W.Frag} {H H' : Hp} {h c : Addr} (d : Ds K H h c) (e : ExtN H H') : Ds K H' h c := by
  obtain ⟨p, m, r, ns, h0, e1, e2, l⟩ := d
  refine ⟨p, m, r, ns, h0, e _ _ e1 fun ps z => (by cases z), ?_, l⟩
  exact e2.elim (fun z => .inl (z.elim (fun z => .inl (e _ _ z fun ps z => (by cases z))) fun ⟨o, z⟩ => .inr ⟨o, e _ _ z fun ps z => (by cases z)⟩)) .inr
/-- the buyer as an instance of its class -/
theorem BuyAt.ob {K : PySem.W.Frag} {C DB DF DT DS : Addr} {H : Hp} {b t : Addr} {L : List (Int × Int)} {hb : Hab} (h : BuyAt K C DF DT DS H b t L hb) (iF : TKi K DB DF "fixed") (iT : TKi K DB DT "turn") (iS : TKi K DB DS "switch") :
    ∃ (D dx : Addr) (fs : List (Str × V)), H b = some (.ins D dx fs) ∧ TKi K DB D (kindOf hb) ∧ fs.lookup ("offer" : Str) = some (V.ref t) ∧ fs.lookup ("KIND" : Str) = none ∧ (D = DF ∨ D = DT ∨ D = DS) := by
  cases hb with
  | fix i =>
    obtain ⟨_, dx, e⟩ := h
    exact ⟨_, _, _, e, iF, rfl, rfl, .inl rfl⟩
  | turn i j =>
    obtain ⟨_, dx, sq, e⟩ := h
    exact ⟨_, _, _, e, iT, rfl, rfl, .inr (.inl rfl)⟩
  | sw i j lim =>
    obtain ⟨_, dx, e⟩ := h
    exact ⟨_, _, _, e, iS, rfl, rfl, .inr (.inr rfl)⟩
theorem habL_0 (hb : Hab) : atI (habL hb) 0 = some (.str (kindOf hb)) := by cases hb <;> rfl
def psL (L : List (Int × Int)) : PyData := .list (L.map fun x => .tuple [.int x.1, .int x.2])
theorem smD_ps {L : List (Int × Int)} (h : L.length ≤ 1000) : SmD 2 (psL L) := by
  refine .lst (fun i d e => ?_) (by rw [List.length_map]; exact h)
  rw [List.getElem?_map] at e
  cases e2 : L[i]? with
  | none =>
    rw [e2] at e
    cases e
  | some x =>
    rw [e2] at e
    cases e
    refine .tup (fun j d e => ?_) (show 2 ≤ 1000 by decide)
    match j, e with
    | 0, e => cases e; exact .int 0 _
    | 1, e => cases e; exact .int 0 _
    | _ + 2, e => cases e
def spLaw (K : PySem.W.Frag) (Pt : Addr) : Sp := fun vs H Q _ => ∃ (a : Addr) (ns : List Int), vs = [.ref a] ∧ SqL K H a (ns.map V.int) ∧ ns.length ≤ 63 ∧ H Pt = some (.tbl #[]) ∧ ∀ H', Q (.bl true) H'
section
variable {P : Program} {w : World} {K : PySem.W.Frag} {mg : Str → Option Value} {base : Heap}
theorem Gd.bT1 (G : Gd P K mg) : Binds K G.dT1 ["self"] [] := G.K1.uT.binds (ps := ["self"]) fun _ _ _ _ _ _ us hl => match us, hl with | [_], _ => rfl
theorem Gd.bT2 (G : Gd P K mg) : Binds K G.dT2 ["self"] [] := G.K2.uT.binds (ps := ["self"]) fun _ _ _ _ _ _ us hl => match us, hl with | [_], _ => rfl
theorem Gd.bT3 (G : Gd P K mg) : Binds K G.dT3 ["self"] [] := G.K3.uT.binds (ps := ["self"]) fun _ _ _ _ _ _ us hl => match us, hl with | [_], _ => rfl
theorem ok_law {mB mF mT mS : Value} {f cc : Addr} {oc kV doc pm ct : Value} {od an : Option Addr} {osl : Array (Option Value)} (G : Gd P K mg) (W : Gl4 P K mg G mB mF mT mS)
    (RF : FnOk P w K mg base CX0 13 G.fRf G.dRf ["_law_tariff_here", "_law_buyer_here", "_law_travel", "_law_count"] (spRf K G.C G.CV G.DF G.DT G.DS G.tb))
    (lk : K.lookup f = some ⟨oc, od, .func (PySem.W.fnOf "law" "law" (defArgs sLaw) (defBody sLaw) (defScope sLaw) .none kV doc pm an (.ref cc) ct), osl⟩)
    (hcd : PySem.W.codeIn K (.ref cc) "law" = true) : FnOk P w K mg base CX0 14 f (PySem.W.fnOf "law" "law" (defArgs sLaw) (defBody sLaw) (defScope sLaw) .none kV doc pm an (.ref cc) ct) ["_law_script"] (spLaw K G.Pt) := by
  obtain ⟨dsT, rT, bT⟩ := G.bTv0
  have bSm : Binds K G.dSm ["_law_result", "_law_expected"] [] := G.SM.fu.binds (ps := ["_law_result", "_law_expected"]) fun _ _ _ _ _ _ us hl => match us, hl with | [_, _], _ => rfl
  refine fn_of (N := NL) lk hcd scLaw (fun vs H Q E h => ?_) (fun A outer s H vs Q E hr h => ?_)
  · obtain ⟨a, ns, rfl, _⟩ := h
    rfl
  · have hu := hr.units
    have h1 := hr.mono (show 1 ≤ 13 by decide)
    have h2 := hr.mono (show 2 ≤ 13 by decide)
    have h3 := hr.mono (show 3 ≤ 13 by decide)
    have h6 := hr.mono (show 6 ≤ 13 by decide)
    have h7 := hr.mono (show 7 ≤ 13 by decide)
    have h8 := hr.mono (show 8 ≤ 13 by decide)
    have h13 := hr.mono (show 13 ≤ 13 by decide)
    suffices hh : ∃ t, PSs ((cxOf CX0 P w K mg base NL "law" (defScope sLaw) f (.ref cc) A outer s H E).nox) (defBody sLaw) t ∧ t { nx := fun _ H' => Q .non H', rt := Q } (start NL vs) H by
      obtain ⟨t, ht, hq⟩ := hh
      exact ⟨t, ht.nox, hq⟩
    refine ⟨_, pss_cut (ps_set (i := 1) scLaw.nd rfl (.inl rfl) (pe_call (E := E0) (ok_start (k := 0) G.uSt) h1 (by rfl) G.gSt G.kSt G.bSt .nil pass0 (pa_cons (pv 0) pa_nil)))
      (pss_cut (ps_if (pt_cmpR (op_neD hu) (pe_tup (pa_cons (pe_clc (by rfl) W.wB.g W.wB.cr W.wB.cv) (pa_cons (pe_clc (by rfl) W.wF.g W.wF.cr W.wF.cv) (pa_cons (pe_clc (by rfl) W.wT.g W.wT.cr W.wT.cv) (pa_cons (pe_clc (by rfl) W.wS.g W.wS.cr W.wS.cv) pa_nil))))) (pe_tup (pa_cons pe_str (pa_cons pe_str (pa_cons pe_str (pa_cons pe_str pa_nil))))) (nomark _)) (pss_one (ps_ret pe_bl)) pss_nil)
      (pss_cut (ps_if (pt_cmpR op_ne (pe_clc (by rfl) G.MB.gS G.MB.cr G.MB.vM) (pe_op op_pow pe_int pe_int) (nomark _)) (pss_one (ps_ret pe_bl)) pss_nil)
      (pss_cons (ps_for PassesOwn.never rfl (pi_range1 (by rfl) G.m_range (pa_cons pe_int pa_nil)) (pg_name (i := 2) scLaw.nd rfl (.inl rfl))
        (pss_cut (ps_set (i := 3) scLaw.nd rfl (.inl rfl) (pe_call (E := E0) (ok_pas (k := 0) G.uPas G.DN G.m_range) h2 (by rfl) G.gPas G.kPas G.bPas .nil pass0 (pa_cons (pv 1) (pa_cons pe_int pa_nil))))
        (pss_cut (ps_asg (pe_tup (pa_cons (pe_call (E := E0) (ok_tar G.uTar G.X G.I) h6 (by rfl) G.gTar G.kTar G.bTar .nil passL (pa_cons (pv 3) pa_nil)) (pa_cons (pe_call (E := E0) (ok_hab (k := 0) G.uHab G.DN) h2 (by rfl) G.gHab G.kHab G.bHab .nil pass0 (pa_cons (pv 1) (pa_cons (pe_callB call_len_seq (by rfl) G.m_len PySem.boot_len (pa_cons (pv 3) pa_nil)) pa_nil))) (pa_cons (pe_call (E := E0) (ok_day (k := 0) G.uDay G.DN G.m_range G.m_tuple) h2 (by rfl) G.gDay G.kDay G.bDay .nil pass0 (pa_cons (pv 1) pa_nil)) pa_nil)))) (pg_tup rfl (pgs_cons (pg_name (i := 4) scLaw.nd rfl (.inl rfl)) (pgs_cons (pg_name (i := 5) scLaw.nd rfl (.inl rfl)) (pgs_cons (pg_tup rfl (pgs_cons (pg_name (i := 6) scLaw.nd rfl (.inl rfl)) (pgs_cons (pg_name (i := 7) scLaw.nd rfl (.inl rfl)) pgs_nil))) pgs_nil)))))
        (pss_cut (ps_if (pt_cmpR op_eq (pe_ixt (pv 5) pe_int) pe_str (nomark _)) (pss_one (ps_set (i := 5) scLaw.nd rfl (.inl rfl) (pe_op op_catA (pe_slice sl_tup (pv 5) po_none (po_some pe_int)) (pe_tup (pa_cons (pe_op op_mul (pe_ixt (pe_ixl (pv 3) (pe_ixt (pv 5) pe_int)) pe_int) (pe_dr G.DN h1 (by rfl) (pv 1) pe_int)) pa_nil))))) pss_nil)
        (pss_cut (ps_asg (pe_tup (pa_cons (pe_call (E := E0) (ok_buy G.uBuy G.MB G.X G.Q G.VL G.NM) h7 (by rfl) G.gBuy G.kBuy G.bBuy .nil pass0 (pa_cons (pv 4) (pa_cons (pv 5) pa_nil))) (pa_cons (pe_make (E := E0) G.mkV (ok_tvI G.uTv G.EV G.W) h6 (by rfl) G.W.gC bT rT passL (pa_cons (pv 6) (pa_cons (pv 7) pa_nil))) (pa_cons (pe_op op_add pe_int (pe_dr G.DN h1 (by rfl) (pv 1) pe_int)) pa_nil)))) (pg_tup rfl (pgs_cons (pg_name (i := 8) scLaw.nd rfl (.inr rfl)) (pgs_cons (pg_name (i := 9) scLaw.nd rfl (.inr rfl)) (pgs_cons (pg_name (i := 10) scLaw.nd rfl (.inl rfl)) pgs_nil)))))
        (pss_cut (ps_asg (pe_call (E := E0) (ok_sim (k := 0) G.uSim G.CH) h3 (by rfl) G.gSim G.kSim G.bSim .nil pass0 (pa_cons (pv 3) (pa_cons (pv 5) (pa_cons (pv 6) (pa_cons (pv 7) (pa_cons (pv 10) pa_nil)))))) (pg_tup rfl (pgs_cons (pg_name (i := 11) scLaw.nd rfl (.inl rfl)) (pgs_cons (pg_name (i := 12) scLaw.nd rfl (.inl rfl)) pgs_nil))))
        (pss_cut (ps_for PassesOwn.never rfl (pi_range1 (by rfl) G.m_range (pa_cons pe_int pa_nil)) (pg_name (i := 13) scLaw.nd rfl (.inl rfl)) (pss_one (ps_if (pt_cmpR (op_neD hu) (pe_lc (own := [("_law_count", 17)]) (g := gName 17) (by rfl) scLaw.nd (pi_range3 (by rfl) G.m_range (pa_cons pe_int (pa_cons (pe_op op_add (pv 10) pe_int) (pa_cons pe_int pa_nil)))) (blkOk_by (own := [("_law_count", 17)]) (N := NL) (sc := defScope sLaw) (by decide +kernel)) (fun _ _ _ _ _ => pg_name (i := 17) scLaw.nd rfl (Or.inl rfl)) (fun _ _ _ _ _ => pts_nil) (fun _ _ _ _ _ => pe_call (E := E0) (g_sp G) h7 (by rfl) G.gSp G.kSp G.bSp .nil passL (pa_cons (pv 8) (pa_cons (pv 9) (pa_cons (pv 17) pa_nil))))) (pe_stepL (c := 7) (pv 11) (by decide) pe_int) (nomark _)) (pss_one (ps_ret pe_bl)) pss_nil)))
        (pss_cut (ps_set (i := 14) scLaw.nd rfl (.inr rfl) (pe_dr G.DN h1 (by rfl) (pv 1) (pv 10)))
        (pss_cut (ps_set (i := 15) scLaw.nd rfl (.inr rfl) (pe_op op_add (pv 14) (pe_dr G.DN h1 (by rfl) (pv 1) (pe_op op_sub (pv 10) (pv 14)))))
        (pss_cut (ps_setLc (i := 16) (own := [("_law_row", 18)]) (g := gName 18) (by rfl) scLaw.nd rfl rfl (by rfl) (pi_list (pv 12)) (blkOk_by (own := [("_law_row", 18)]) (N := NL) (sc := defScope sLaw) (by decide +kernel)) (fun _ _ _ _ _ => pg_name (i := 18) scLaw.nd rfl (Or.inl rfl)) (fun _ _ _ _ _ => pts_one (pt_chain op_le op_le (pv 14) (pe_ixtK K rfl (pv 18) pe_int) (pv 15))) (fun _ _ _ _ _ => pe_slice (sl_tupK K rfl) (pv 18) po_none (po_some pe_int)))
        (pss_cut (ps_if (pt_not (pt_val (pe_call (E := E0) (ok_sm G.SM 3) h3 (by rfl) G.SM.g G.SM.kp bSm .nil pass0 (pa_cons (pe_lcG (own := [("_law_row", 18)]) (pcgen_call (g_pu G).2 h7 (by rfl) G.gPu G.kPu G.bPu .nil (pa_cons (pv 8) (pa_cons (pv 9) (pa_cons (pv 14) (pa_cons (pv 15) pa_nil))))) h8 (blkOk_by (own := [("_law_row", 18)]) (N := NL) (sc := defScope sLaw) (by decide +kernel)) rfl) (pa_cons (pv 16) pa_nil))))) (pss_one (ps_ret pe_bl)) pss_nil)
        (pss_cut (ps_if (PW.pt (pw_or (pt_cmpR (op_neD hu) (pe_passes G.Q G.X.cl G.X.no h2 (pe_or (pe_prop (pv 8) G.NM.cF G.K1.pr (ok_byT (k := 0) G.K1.uT G.NM.cF G.NM.fO) h2 G.bT1 .nil pass0 rfl) (pe_or (pe_prop (pv 8) G.NM.cT G.K2.pr (ok_byT (k := 0) G.K2.uT G.NM.cT G.NM.tO) h2 G.bT2 .nil pass0 rfl) (pe_prop (pv 8) G.NM.cS G.K3.pr (ok_byT (k := 0) G.K3.uT G.NM.cS G.NM.sO) h2 G.bT3 .nil pass0 rfl)))) (pe_callTy call_tuple_of (by rfl) G.m_tuple (by rfl) (pa_cons (pv 3) pa_nil)) (nomark _)) (pw_or (pt_not (pt_val (pe_callB call_isi (by rfl) W.mI PyProof.Rows.boot_isinstance (pa_cons (pv 8) (pa_cons (pe_glob (v := .ref G.DB) (by rfl) W.wB.g rfl) pa_nil))))) (pw_or1 (pt_cmpR op_ne (pe_con (pv 8) rfl) (pe_ixt (pv 5) pe_int) (nomark _)))))) (pss_one (ps_ret pe_bl)) pss_nil)
        (pss_one (ps_if (pt_not (pt_val (pe_call (E := E0) RF h13 (by rfl) G.gRf G.kRf G.bRf .nil pass0 (pa_cons (pv 4) (pa_cons (pv 8) (pa_cons (pv 9) (pa_cons (pe_callB call_len_seq (by rfl) G.m_len PySem.boot_len (pa_cons (pv 3) pa_nil)) pa_nil))))))) (pss_one (ps_ret pe_bl)) pss_nil))))))))))))))
      (pss_one (ps_ret pe_bl))))), ?_⟩
    obtain ⟨a0, ns, rfl, hS, hlen, hPt, q⟩ := h
    have lt : ∀ {n : Nat}, n ≤ 1000 → n ≤ sizeLine := fun h => Nat.le_of_lt (small1000 h)
    refine ⟨fun σ H' => ∃ h : Addr, σ = ([some (.ref a0), some (.ref h), none, none, none, none, none, none, none, none, none, none, none, none, none, none, none, none, none] : L2.St) ∧ Ds K H' h a0 ∧ Tabs G.tb H', ?_, ?_⟩
    · refine ⟨_, rfl, a0, ns, rfl, hS, hlen, fun h H' sm nh d => ⟨h, rfl, d, tabs_same (fun p hp => ?_) sm⟩⟩
      rw [List.mem_singleton.mp hp]
      exact TabS.nil hPt
    rintro σ H1 ⟨h, rfl, d1, T1⟩
    refine ⟨fun σ H' => σ = ([some (.ref a0), some (.ref h), none, none, none, none, none, none, none, none, none, none, none, none, none, none, none, none, none] : L2.St) ∧ Ds K H' h a0 ∧ Tabs G.tb H', ?_, ?_⟩
    · exact s_when (b := false) (et_same (K := K) (edp_tup (eda_cons edp_str (eda_cons edp_str (eda_cons edp_str (eda_cons edp_str eda_nil)))) (by decide)) (edp_tup (eda_cons edp_str (eda_cons edp_str (eda_cons edp_str (eda_cons edp_str eda_nil)))) (by decide)) (by decide +kernel)) (fun hb => by cases hb) (fun _ H2 e2 => ⟨rfl, d1.same e2, tabs_same T1 e2⟩)
    clear d1 T1
    rintro σ H1 ⟨rfl, d1, T1⟩
    refine ⟨fun σ H' => σ = ([some (.ref a0), some (.ref h), none, none, none, none, none, none, none, none, none, none, none, none, none, none, none, none, none] : L2.St) ∧ Ds K H' h a0 ∧ Tabs G.tb H', ?_, ?_⟩
    · exact s_when (b := !decide (V.int 1000000000 = V.int ((10 : Int) ^ (9 : Int).toNat))) (et_test (ev_op ev_c (ev_pw ev_c ev_c ⟨by decide, by decide, by decide⟩) (rv_ne rfl))) (fun hb => absurd hb (by decide +kernel)) (fun _ H2 e2 => ⟨rfl, d1.same e2, tabs_same T1 e2⟩)
    clear d1 T1
    rintro σ H1 ⟨rfl, d1, T1⟩
    refine s_forR1 (n := 3) (ea_cons ev_c ea_nil) ⟨by decide, by decide⟩ (fun k σ H' => ∃ v : Nat → Option V, σ = ([some (.ref a0), some (.ref h), v 2, v 3, v 4, v 5, v 6, v 7, v 8, v 9, v 10, v 11, v 12, v 13, v 14, v 15, v 16, none, none] : L2.St) ∧ Ds K H' h a0 ∧ Tabs G.tb H') (fun H2 e2 => ⟨fun _ => none, rfl, d1.same e2, tabs_same T1 e2⟩) ?_ ?_
    rotate_left
    · rintro σ H2 ⟨v, rfl, d2, T2⟩
      exact q H2
    rintro k σ H2 hk ⟨v, rfl, d2, T2⟩
    -- the passes
    refine ⟨fun σ H' => ∃ (l : Addr) (ws : List V) (L : List (Int × Int)), σ = ([some (.ref a0), some (.ref h), some (.int (k : Int)), some (.ref l), v 4, v 5, v 6, v 7, v 8, v 9, v 10, v 11, v 12, v 13, v 14, v 15, v 16, none, none] : L2.St) ∧ C2 K G.tb h a0 l ws L H' ∧ 1 ≤ L.length ∧ L.length ≤ 3 ∧ ∀ z ∈ L, okP z = true, ?_, ?_⟩
    · exact ⟨_, rfl, h, a0, 3, rfl, by decide, by decide, d2, fun l ws L H3 d3 k3 nl hl hps n1 n3 okL => ⟨l, ws, L, rfl, ⟨d3, tabs_kh T2 d2 k3, hl, d2.nh nl, hps⟩, n1, by omega, okL⟩⟩
    rintro σ H3 ⟨l, ws, L, rfl, c3, n1, n3, okL⟩
    have ok : ∀ z ∈ L, PassOk z := fun z hz => okP_pass (okL z hz)
    -- the tariff, the habit, the days
    refine ⟨fun σ H' => ∃ (t p : Addr) (hv dv : V) (hb : Hab) (ln : Int) (ds : List Int), σ = ([some (.ref a0), some (.ref h), some (.int (k : Int)), some (.ref l), some (.ref t), some hv, some (.int ln), some dv, v 8, v 9, v 10, v 11, v 12, v 13, v 14, v 15, v 16, none, none] : L2.St) ∧ C4 K G.C G.tb h a0 l t p ws L hv dv hb ds H' ∧ HabIn L.length hb ∧ 1 ≤ ln ∧ ln ≤ 14 ∧ Good ds (ln - 1) ∧ (ds.length : Int) ≤ ln, ?_, ?_⟩
    · have wl := c3.ps.len
      refine ⟨_, rfl, l, ws, L, rfl, c3.hl, c3.ps, n1, n3, okL, fun t p H4 s4 _ tar => ?_⟩
      have c4 := c3.same s4
      refine ⟨_, rfl, _, rfl, l, ws, rfl, .inl (.inl (.inl c4.hl)), h, a0, ((ws.length : Nat) : Int), rfl, by omega, by omega, c4.d, fun hv hb H5 hh hin d5 k5 => ?_⟩
      have c5 := c4.kh k5 d5
      refine ⟨_, rfl, h, a0, rfl, d5, fun v' ln ds H6 hpt l1 l2 gd nd d6 k6 => ?_⟩
      have c6 := c5.kh k6 d6
      obtain ⟨pa, dv, rfl, hpa, hd⟩ := hpt
      refine ⟨lt (show 3 ≤ 1000 by decide), fun tp ntp => ⟨tp, _, rfl, .of upd_same, rfl, _, _, rfl, _, _, rfl, _, _, rfl, ⟨pa, _, rfl, (TK.new ntp) _ _ hpa, rfl, _, _, rfl, _, _, rfl, rfl, rfl, t, p, hv, dv, hb, ln, ds, rfl, ⟨?_, ?_, ?_, ?_⟩, ?_, l1, l2, gd, nd⟩⟩⟩
      · exact c6.same (same_new ntp)
      · exact ((tar.kn (kn_of c4.d k5)).kn (kn_of d5 k6)).same (same_new ntp)
      · exact (hh.tk (d5.tk k6)).tk (TK.new ntp)
      · exact hd.tk (TK.new ntp)
      · rw [wl] at hin
        exact hin
    rintro σ H4 ⟨t, p, hv0, dv, hb0, ln, ds, rfl, c40, hin0, l1, l2, gd, nd⟩
    -- a limit of at most six short passes
    refine ⟨fun σ H' => ∃ (hv : V) (hb : Hab), σ = ([some (.ref a0), some (.ref h), some (.int (k : Int)), some (.ref l), some (.ref t), some hv, some (.int ln), some dv, v 8, v 9, v 10, v 11, v 12, v 13, v 14, v 15, v 16, none, none] : L2.St) ∧ C4 K G.C G.tb h a0 l t p ws L hv dv hb ds H' ∧ HabIn L.length hb ∧ ∀ i j lim, hb = .sw i j lim → lim ≤ 6 * (pas L i).2, ?_, ?_⟩
    · obtain ⟨ha, rfl, hh⟩ := c40.hv
      have h0 : ∀ {kd : Str}, (habL hb0)[0]? = some (.str kd) → EvT (tTest (tOp rEq (tOp (rIxT K) (tVar 5) (tC (.int 0))) (tC (.str "switch")))) ([some (.ref a0), some (.ref h), some (.int (k : Int)), some (.ref l), some (.ref t), some (.ref ha), some (.int ln), some dv, v 8, v 9, v 10, v 11, v 12, v 13, v 14, v 15, v 16, none, none] : L2.St) H4 (decide (V.str kd = V.str "switch")) := fun {kd} hk => et_test (ev_op (ev_op (ev_var rfl) ev_c (rv_ixT hh (at_nat (i := 0) (List.getElem?_eq_some_iff.mp hk).1 hk))) ev_c (rv_eq rfl))
      cases hb0 with
      | fix i => exact s_when (b := decide (V.str "fixed" = V.str "switch")) (h0 rfl) (fun z => absurd z (by decide +kernel)) (fun _ H5 e5 => ⟨_, .fix i, rfl, c40.same e5, hin0, fun _ _ _ z => by cases z⟩)
      | turn i j => exact s_when (b := decide (V.str "turn" = V.str "switch")) (h0 rfl) (fun z => absurd z (by decide +kernel)) (fun _ H5 e5 => ⟨_, .turn i j, rfl, c40.same e5, hin0, fun _ _ _ z => by cases z⟩)
      | sw i j lim0 =>
        refine s_when (b := decide (V.str "switch" = V.str "switch")) (h0 rfl) (fun _ H5 e5 => ?_) (fun z => absurd z (by decide +kernel))
        have c5 := c40.same e5
        have hh5 := ex_t e5 hh
        have hi : InP L i := hin0.1.1
        refine ⟨_, rfl, 3, rfl, ha, _, rfl, hh5, (by show ¬ (HT.sIx 4 0 none = 0 ∧ HT.sIx 4 4 (some 3) = 4); decide +kernel), fun p1 np1 => ?_⟩
        have s6 : Same H5 (upd H5 p1 (.tup (cutV (habL (.sw i j lim0)) none (some 3)))) := same_new np1
        have h6 : (upd H5 p1 (.tup (cutV (habL (.sw i j lim0)) none (some 3)))) p1 = some (.tup [.str "switch", .int i, .int j]) := upd_same
        revert s6 h6
        generalize (upd H5 p1 (.tup (cutV (habL (.sw i j lim0)) none (some 3)))) = H6
        intro s6 h6
        have c6 := c5.same s6
        obtain ⟨pv, hpv, pb, rfl, hpb⟩ := c6.c.ps.atI hi.pas.1
        have eP : Ev (tOp (rIxT K) (tOp (rIxL K) (tVar 3) (tOp (rIxT K) (tVar 5) (tC (.int 1)))) (tC (.int 1))) ([some (.ref a0), some (.ref h), some (.int (k : Int)), some (.ref l), some (.ref t), some (.ref ha), some (.int ln), some dv, v 8, v 9, v 10, v 11, v 12, v 13, v 14, v 15, v 16, none, none] : L2.St) H6 (.int (pas L i).2) :=
          ev_op (ev_op (ev_var rfl) (ev_op (ev_var rfl) ev_c (rv_ixT (ex_t s6 hh5) rfl)) (rv_ixL (.inl (.inl c6.c.hl)) hpv)) ev_c (rv_ixT hpb rfl)
        refine eP H6 (Ex.refl H6) _ fun H7 e7 => ?_
        have c7 := c6.same e7
        refine ⟨_, rfl, h, a0, 7, rfl, by decide, by decide +kernel, c7.c.d, fun y H8 y0 y1 d8 k8 => ?_⟩
        have c8 := c7.kh k8 d8
        have pi := ok _ hi.pas.2
        have p1h : p1 ≠ h := c5.c.d.nh np1
        have h8 : H8 p1 = some (.tup [.str "switch", .int i, .int j]) := k8 _ _ (e7 _ _ h6) p1h
        have up : (pas L i).2 * y ≤ 6 * (pas L i).2 := by
          rw [Int.mul_comm]
          exact Int.mul_le_mul_of_nonneg_right (by omega) (by have := pi.2.2.1; omega)
        have dn : 0 ≤ (pas L i).2 * y := Int.mul_nonneg (by have := pi.2.2.1; omega) y0
        refine ⟨_, _, rfl, rfl, .inl ⟨by have := pi.2.2.1; omega, by have := pi.2.2.2; omega⟩, lt (show 1 ≤ 1000 by decide), fun p2 np2 => ?_⟩
        have c9 := c8.same (same_new (o := .tup [.int ((pas L i).2 * y)]) np2)
        refine ⟨p1, p2, _, _, rfl, rfl, .of (same_new np2 _ _ h8), .of upd_same, Nat.le_of_lt (small1000 (show 3 + 1 ≤ 1000 by decide)), fun he => absurd he (by simp), fun _ he => absurd he (by simp), fun _ _ z nz => ?_⟩
        have c10 := c9.same (same_new (o := .tup ([V.str "switch", .int i, .int j] ++ [.int ((pas L i).2 * y)])) nz)
        exact ⟨.ref z, .sw i j ((pas L i).2 * y), rfl, ⟨c10.c, c10.ta, ⟨z, rfl, .of upd_same⟩, c10.dv⟩, ⟨hin0.1, dn, by have := pi.2.2.2; omega⟩, fun i' j' l' e => by cases e; exact up⟩
    clear c40 hin0 hv0 hb0
    rintro σ H5 ⟨hv, hb, rfl, c5, hin, hlim⟩
    -- the buyer, the travel, the last day
    have nu : Nu ⟨ln, ds, L, byOf L hb⟩ hb := ⟨n1, n3, ok, hin, hlim, l1, l2, gd, nd, rfl⟩
    revert c5 nu
    generalize hg : (Par.mk ln ds L (byOf L hb)) = g
    intro c5 nu
    obtain ⟨rfl, rfl, rfl, egb⟩ : ln = g.ln ∧ ds = g.ds ∧ L = g.L ∧ byOf L hb = g.b := by rw [← hg]; exact ⟨rfl, rfl, rfl, rfl⟩
    clear hg
    refine ⟨fun σ H' => ∃ (b tv : Addr) (n : Nat), σ = ([some (.ref a0), some (.ref h), some (.int (k : Int)), some (.ref l), some (.ref t), some hv, some (.int g.ln), some dv, some (.ref b), some (.ref tv), some (.int (n : Int)), v 11, v 12, v 13, v 14, v 15, v 16, none, none] : L2.St) ∧ C5 K G.C G.CV G.DF G.DT G.DS G.tb h a0 l t p b tv ws hv dv (.ref G.eT) hb g H' ∧ 60 ≤ n ∧ n ≤ 119, ?_, ?_⟩
    · refine ⟨_, rfl, _, rfl, t, p, hv, g.L, hb, rfl, c5.ta, c5.hv, hin, fun b H6 s6 bu => ?_⟩
      have c6 := c5.same s6
      refine ⟨_, rfl, _, rfl, fun x dx nx ndx _ => ?_⟩
      refine tv_new c6.dv (G.nil _) (by omega) (Nat.zero_le _) (tbad_ok l1 l2 gd nd good_nil (Nat.zero_le _)) nx ndx fun H7 s7 tv => ⟨rfl, ?_⟩
      have c7 := c6.same s7
      have bu7 := bu.same s7
      refine ⟨_, rfl, h, a0, 60, rfl, by decide, by decide +kernel, c7.c.d, fun y H8 y0 y1 d8 k8 => ⟨_, _, rfl, rfl, lt (show 3 ≤ 1000 by decide), fun tp ntp => ⟨tp, _, rfl, .of upd_same, rfl, _, _, rfl, _, _, rfl, _, _, rfl, rfl, ?_⟩⟩⟩
      obtain ⟨m, rfl⟩ := Int.eq_ofNat_of_zero_le y0
      have C : C5 K G.C G.CV G.DF G.DT G.DS G.tb h a0 l t p b x ws hv dv (.ref G.eT) hb g H8 := ⟨c7.kh k8 d8, bu7.kn (kn_of c7.c.d k8), tv.kn (kn_of c7.c.d k8)⟩
      refine ⟨b, x, 60 + m, ?_, C.same (same_new ntp), by omega, by omega⟩
      show _ = ([some (.ref a0), some (.ref h), some (.int (k : Int)), some (.ref l), some (.ref t), some hv, some (.int g.ln), some dv, some (.ref b), some (.ref x), some (.int ((60 + m : Nat) : Int)), v 11, v 12, v 13, v 14, v 15, v 16, none, none] : L2.St)
      rw [show ((60 + m : Nat) : Int) = 60 + (m : Int) by omega]
      rfl
    clear c5
    rintro σ H6 ⟨b, tv, n, rfl, c6, n60, n119⟩
    have dl0 := fun {H' : Hp} (c : C5 K G.C G.CV G.DF G.DT G.DS G.tb h a0 l t p b tv ws hv dv (.ref G.eT) hb g H') => nu.deal (C := G.C) (CV := G.CV) (DF := G.DF) (DT := G.DT) (DS := G.DS) c.bu c.tv
    -- the simulation
    refine ⟨fun σ H' => ∃ (TT B : Addr) (bs : List V), σ = ([some (.ref a0), some (.ref h), some (.int (k : Int)), some (.ref l), some (.ref t), some hv, some (.int g.ln), some dv, some (.ref b), some (.ref tv), some (.int (n : Int)), some (.ref TT), some (.ref B), v 13, v 14, v 15, v 16, none, none] : L2.St) ∧ C6 K G.C G.CV G.DF G.DT G.DS G.tb h a0 l t p b tv TT B ws bs hv dv (.ref G.eT) hb g n H', ?_, ?_⟩
    · refine ⟨_, rfl, _, rfl, _, rfl, _, rfl, _, rfl, l, hv, dv, n, ws, hb, g, rfl, c6.c.c.hl, c6.c.c.ps, ok, c6.c.hv, hin, egb.symm, l1, l2, c6.c.dv, by omega, fun r TT B bs H7 s7 hr hT hB hrw => ?_⟩
      have c7 := c6.same s7
      obtain ⟨dp, dm, dr, dns, _, hd, _⟩ := c7.c.c.d
      refine ⟨r, _, rfl, .of hr, rfl, _, _, rfl, _, _, rfl, rfl, TT, B, bs, rfl, c7, hT, ?_, hB, ?_, hrw⟩
      · rintro rfl
        rw [hT] at hd
        injection hd with hd
        injection hd with hd
        have z := tots_len g n
        rw [hd] at z
        have z : 4 = n + 1 := z
        omega
      · rintro rfl
        rw [hB] at hd
        injection hd with hd
        injection hd with hd
        rw [hd] at hrw
        generalize rows g (flg g.L hb) n = rs at hrw
        cases hrw with
        | cons _ z => cases z with
          | cons z _ =>
            obtain ⟨_, z, _⟩ := z
            cases z
    clear c6
    rintro σ H7 ⟨TT, B, bs, rfl, c7⟩
    -- asked twice
    refine ⟨fun σ H' => ∃ w13, σ = ([some (.ref a0), some (.ref h), some (.int (k : Int)), some (.ref l), some (.ref t), some hv, some (.int g.ln), some dv, some (.ref b), some (.ref tv), some (.int (n : Int)), some (.ref TT), some (.ref B), w13, v 14, v 15, v 16, none, none] : L2.St) ∧ C6 K G.C G.CV G.DF G.DT G.DS G.tb h a0 l t p b tv TT B ws bs hv dv (.ref G.eT) hb g n H', ?_, ?_⟩
    · refine s_forR1 (n := 2) (ea_cons ev_c ea_nil) ⟨by decide, by decide⟩ (fun i σ H' => ∃ w13, σ = ([some (.ref a0), some (.ref h), some (.int (k : Int)), some (.ref l), some (.ref t), some hv, some (.int g.ln), some dv, some (.ref b), some (.ref tv), some (.int (n : Int)), some (.ref TT), some (.ref B), w13, v 14, v 15, v 16, none, none] : L2.St) ∧ C6 K G.C G.CV G.DF G.DT G.DS G.tb h a0 l t p b tv TT B ws bs hv dv (.ref G.eT) hb g n H') (fun H8 e8 => ⟨v 13, rfl, c7.same e8⟩) ?_ (fun σ H' z => z)
      rintro i σ H8 hi ⟨w13, rfl, c8⟩
      have hns : (List.range ((n + 1 + 6) / 7)).map (fun k => V.int (sim g (7 * k)).2.2) = ((List.range ((n + 1 + 6) / 7)).map fun k => (sim g (7 * k)).2.2).map V.int := by
        rw [List.map_map]
        rfl
      have left : EvL _ ([some (.ref a0), some (.ref h), some (.int (k : Int)), some (.ref l), some (.ref t), some hv, some (.int g.ln), some dv, some (.ref b), some (.ref tv), some (.int (n : Int)), some (.ref TT), some (.ref B), some (.int (i : Int)), v 14, v 15, v 16, none, none] : L2.St) H8 _ := el_lcR3 (te := tCall (spSp3 K G.C G.CV G.DF G.DT G.DS G.cV G.cN) [] E0 (tCons (tVar 8) (tCons (tVar 9) (tCons (tVar 17) tNil)))) (t := tYes) (j := 17) (vs := [17]) (fun _ => true) (fun k => V.int (sim g (7 * k)).2.2) (ea_cons ev_c (ea_cons (ev_op (ev_var (i := 10) rfl) ev_c (rv_I0 (g := fun i j => .int (i + j)) (i := (n : Int)) (j := 1))) (ea_cons ev_c ea_nil))) (rg7 (n := n) (by omega)) (by omega) (fun _ => rfl) (fun _ H9 e9 _ H10 e10 Q q => q H10 (Ex.refl _)) (fun j H9 e9 hj _ => ?_)
      · rw [given_all] at left
        exact s_when (b := false) (et_same (K := K) (edp_ints left hns) (edp_ints (el_stepL (c := 7) (ev_var rfl) (sq_of c8.it)) ((every_tots g n).trans hns)) (ints_sh _)) (fun hb => by cases hb) (fun _ H9 e9 => ⟨_, rfl, c8.same e9⟩)
      · have c9 := c8.same e9
        have cb : 7 * j ≤ 200 := by omega
        exact ev_call (vs := [.ref b, .ref tv, .int (7 * j : Nat)]) (ea_cons (ev_var rfl) (ea_cons (ev_var rfl) (ea_cons (ev_is (ev_var rfl) (by rw [show (0 : Int) + (j : Int) * 7 = ((7 * j : Nat) : Int) by omega])) ea_nil))) fun H10 e10 Q q E => ⟨b, tv, ((7 * j : Nat) : Int), g, [], rfl, dl0 (c9.same e10).c, fun _ _ H11 s11 => q H11 s11, fun _ nb => absurd ⟨by omega, by omega⟩ nb, fun z => absurd rfl z⟩
    clear c7
    rintro σ H8 ⟨w13, rfl, c8⟩
    -- the first day, the last day
    refine ⟨fun σ H' => ∃ fi : Nat, σ = ([some (.ref a0), some (.ref h), some (.int (k : Int)), some (.ref l), some (.ref t), some hv, some (.int g.ln), some dv, some (.ref b), some (.ref tv), some (.int (n : Int)), some (.ref TT), some (.ref B), w13, some (.int (fi : Int)), v 15, v 16, none, none] : L2.St) ∧ C6 K G.C G.CV G.DF G.DT G.DS G.tb h a0 l t p b tv TT B ws bs hv dv (.ref G.eT) hb g n H' ∧ fi < n, ?_, ?_⟩
    · refine ⟨_, rfl, _, rfl, h, a0, (n : Int), rfl, by omega, Nat.lt_of_le_of_lt (Nat.log2_le_self _) (by omega), c8.c.c.c.d, fun y H9 y0 y1 d9 k9 => ?_⟩
      obtain ⟨m, rfl⟩ := Int.eq_ofNat_of_zero_le y0
      exact ⟨m, rfl, c8.kh k9 d9, by omega⟩
    clear c8
    rintro σ H8 ⟨fi, rfl, c8, hfi⟩
    refine ⟨fun σ H' => ∃ la : Nat, σ = ([some (.ref a0), some (.ref h), some (.int (k : Int)), some (.ref l), some (.ref t), some hv, some (.int g.ln), some dv, some (.ref b), some (.ref tv), some (.int (n : Int)), some (.ref TT), some (.ref B), w13, some (.int (fi : Int)), some (.int (la : Int)), v 16, none, none] : L2.St) ∧ C6 K G.C G.CV G.DF G.DT G.DS G.tb h a0 l t p b tv TT B ws bs hv dv (.ref G.eT) hb g n H' ∧ fi ≤ la ∧ la < n, ?_, ?_⟩
    · refine ⟨_, rfl, _, rfl, _, rfl, _, rfl, _, _, rfl, rfl, h, a0, (n : Int) - (fi : Int), rfl, by omega, Nat.lt_of_le_of_lt (Nat.log2_le_self _) (by omega), c8.c.c.c.d, fun y H9 y0 y1 d9 k9 => ⟨_, _, rfl, rfl, ?_⟩⟩
      obtain ⟨m, rfl⟩ := Int.eq_ofNat_of_zero_le y0
      refine ⟨fi + m, ?_, c8.kh k9 d9, by omega, by omega⟩
      show _ = ([some (.ref a0), some (.ref h), some (.int (k : Int)), some (.ref l), some (.ref t), some hv, some (.int g.ln), some dv, some (.ref b), some (.ref tv), some (.int (n : Int)), some (.ref TT), some (.ref B), w13, some (.int (fi : Int)), some (.int ((fi + m : Nat) : Int)), v 16, none, none] : L2.St)
      rw [show ((fi + m : Nat) : Int) = (fi : Int) + (m : Int) by omega]
      rfl
    clear c8
    rintro σ H8 ⟨la, rfl, c8, hfl, hla⟩
    -- what is expected
    refine ⟨fun σ H' => ∃ (E : Addr) (es : List V), σ = ([some (.ref a0), some (.ref h), some (.int (k : Int)), some (.ref l), some (.ref t), some hv, some (.int g.ln), some dv, some (.ref b), some (.ref tv), some (.int (n : Int)), some (.ref TT), some (.ref B), w13, some (.int (fi : Int)), some (.int (la : Int)), some (.ref E), none, none] : L2.St) ∧ C6 K G.C G.CV G.DF G.DT G.DS G.tb h a0 l t p b tv TT B ws bs hv dv (.ref G.eT) hb g n H' ∧ H' E = some (.lst es) ∧ PsV K H' es (pus g fi (la + 1 - fi)), ?_, ?_⟩
    · have hlen := c8.rw.len
      have few := rows_len (g := g) (fl := flg g.L hb) n
      refine ⟨_, rfl, B, rfl, ⟨bs, .of c8.ib⟩, fun D nD => ?_⟩
      refine lc_list (K := K) (a := B) (xs := bs) (fun i H' => Same H8 H' ∧ ∃ es, H' D = some (.lst es) ∧ es.length ≤ i ∧ PsV K H' es ((((rows g (flg g.L hb) n).take i).filter fun r => decide ((fi : Int) ≤ r.1) && decide (r.1 ≤ (la : Int))).map fun r => (r.1, r.2.1))) ⟨same_new nD, [], upd_same, Nat.zero_le _, .nil⟩ (fun i H' _ z => .of (z.1 _ _ c8.ib)) (fun i x H9 hx => ?_) (fun H9 => ?_)
      · rintro ⟨s9, es, hes, les, hps⟩
        obtain ⟨r, hr, ra, rfl, hra⟩ := c8.rw.get hx
        have hi := (List.getElem?_eq_some_iff.mp hx).1
        refine ⟨rfl, ?_⟩
        have eT : EvT (tTest (tChain (rI0 fun i j => .bl (decide (i ≤ j))) (rI0 fun i j => .bl (decide (i ≤ j))) (tVar 14) (tOp (rIxT K) (tVar 18) (tC (.int 0))) (tVar 15))) ((([some (.ref a0), some (.ref h), some (.int (k : Int)), some (.ref l), some (.ref t), some hv, some (.int g.ln), some dv, some (.ref b), some (.ref tv), some (.int (n : Int)), some (.ref TT), some (.ref B), w13, some (.int (fi : Int)), some (.int (la : Int)), v 16, none, none] : L2.St)).set 18 (some (.ref ra))) H9 (decide ((fi : Int) ≤ r.1) && decide (r.1 ≤ (la : Int))) := et_test (ev_chainI (p := fun i j => decide (i ≤ j)) (q := fun i j => decide (i ≤ j)) (ev_var rfl) (ev_op (ev_var rfl) ev_c (rv_ixT ((TK.same (K := K) s9) _ _ hra) rfl)) (ev_var rfl))
        refine eT H9 (Ex.refl _) _ fun H10 e10 => ?_
        have hps10 := hps.tk (.same e10)
        rw [take_snoc hr, List.filter_append, List.map_append]
        by_cases c : (decide ((fi : Int) ≤ r.1) && decide (r.1 ≤ (la : Int))) = true
        · rw [if_pos c, List.filter_cons_of_pos (by exact c)]
          refine ⟨_, rfl, 2, rfl, ra, _, rfl, (TK.same (K := K) (s9.trans e10)) _ _ hra, (by show ¬ (HT.sIx 3 0 none = 0 ∧ HT.sIx 3 3 (some 2) = 3); decide +kernel), fun p np => ?_⟩
          have hp : (upd H10 p (.tup (cutV [V.int r.1, .int r.2.1, .bl r.2.2] none (some 2)))) p = some (.tup [.int r.1, .int r.2.1]) := upd_same
          have s11 : Same H10 (upd H10 p (.tup (cutV [V.int r.1, .int r.2.1, .bl r.2.2] none (some 2)))) := same_new np
          revert hp s11
          generalize upd H10 p (.tup (cutV [V.int r.1, .int r.2.1, .bl r.2.2] none (some 2))) = H11
          intro hp s11
          have hD11 := s11 _ _ (e10 _ _ hes)
          have s12 : TK K H11 (upd H11 D (.lst (es ++ [.ref p]))) := tk_lst hD11
          refine ⟨es, hD11, sz_lt (by omega), ?_, es ++ [.ref p], upd_same, by rw [List.length_append]; exact Nat.succ_le_succ les, ?_⟩
          · exact fun b o e => by
              rw [upd_ne (ne_of_none e nD)]
              exact s11 _ _ (e10 _ _ (s9 _ _ e))
          · exact ((hps10.tk (.same s11)).tk s12).app (.cons ⟨p, rfl, s12 _ _ (.of hp)⟩ .nil)
        · rw [if_neg c, List.filter_cons_of_neg (by exact c)]
          refine ⟨s9.trans e10, es, e10 _ _ hes, by omega, ?_⟩
          rw [List.filter_nil, List.map_nil, List.append_nil]
          exact hps10
      · rintro ⟨s9, es, hes, les, hps⟩
        refine ⟨D, es, rfl, c8.same s9, hes, ?_⟩
        rw [hlen, List.take_length, rows_pus hfl, Nat.min_eq_right (by omega)] at hps
        exact hps
    clear c8
    rintro σ H8 ⟨EE, es, rfl, c8, hE, hpe⟩
    refine ⟨fun σ H' => σ = ([some (.ref a0), some (.ref h), some (.int (k : Int)), some (.ref l), some (.ref t), some hv, some (.int g.ln), some dv, some (.ref b), some (.ref tv), some (.int (n : Int)), some (.ref TT), some (.ref B), w13, some (.int (fi : Int)), some (.int (la : Int)), some (.ref EE), none, none] : L2.St) ∧ C6 K G.C G.CV G.DF G.DT G.DS G.tb h a0 l t p b tv TT B ws bs hv dv (.ref G.eT) hb g n H', ?_, ?_⟩
    · refine s_when (b := false) (fun H1 e1 Q1 q1 => ?_) (fun z => by cases z) (fun _ H9 e9 => ⟨rfl, c8.same e9⟩)
      have ok9 : puOk (fi : Int) (la : Int) := ⟨⟨by omega, by omega⟩, by omega, by split <;> omega⟩
      refine ⟨_, rfl, _, rfl, _, rfl, _, rfl, b, tv, (fi : Int), (la : Int), g, [], rfl, dl0 (c8.same e1).c, fun _ _ ys H2 s2 hys p np => ?_, fun _ nb => absurd ok9 nb, fun z => absurd rfl z⟩
      rw [show ((fi : Int)).toNat = fi from rfl, show ((la : Int) + 1 - (fi : Int)).toNat = la + 1 - fi by omega] at hys
      have s3 : Same H2 (upd H2 p (.lst ys)) := same_new np
      have s03 := Same.trans (Same.trans e1 s2) s3
      have lp := pus_len g fi (la + 1 - fi)
      exact ⟨_, rfl, 2, V.ref p, V.ref EE, psL (pus g fi (la + 1 - fi)), by decide, rfl, .lst (.of upd_same) (hys.tk (.same s3)).dp, .lst (.of (s03 _ _ hE)) (hpe.tk (.same s03)).dp, smD_ps (by omega), fun H3 s4 => ⟨true, rfl, q1 H3 (Same.trans (Same.trans s2 s3) s4)⟩⟩
    clear c8 hE hpe
    rintro σ H8 ⟨rfl, c8⟩
    -- the buyer's tariff, class and word
    refine ⟨fun σ H' => σ = ([some (.ref a0), some (.ref h), some (.int (k : Int)), some (.ref l), some (.ref t), some hv, some (.int g.ln), some dv, some (.ref b), some (.ref tv), some (.int (n : Int)), some (.ref TT), some (.ref B), w13, some (.int (fi : Int)), some (.int (la : Int)), some (.ref EE), none, none] : L2.St) ∧ C6 K G.C G.CV G.DF G.DT G.DS G.tb h a0 l t p b tv TT B ws bs hv dv (.ref G.eT) hb g n H', ?_, ?_⟩
    · obtain ⟨p2, tar2⟩ := BuyAt.tar c8.c.bu
      obtain ⟨D, dx, fs, hD, ki, ho, hk, which⟩ := BuyAt.ob c8.c.bu W.iF W.iT W.iS
      obtain ⟨kn, ku⟩ := ki.cn
      obtain ⟨ha, rfl, hh⟩ := c8.c.c.hv
      refine s_when (b := false) (et_is (et_or (a := false) (b := false) (et_same (K := K) (d := psD g.L) ?_ ?_ (psD_sh _)) fun _ => et_is (et_or (a := false) (b := false) (et_is (et_not (et_B (b := true) ?_)) rfl) fun _ => ?_) rfl) rfl) (fun z => by cases z) (fun _ H9 e9 => ⟨rfl, c8.same e9⟩)
      · intro H1 e1 Q1 q1
        have fin : ∃ a dx fs, V.ref t = .ref a ∧ H1 a = some (.ins G.C dx fs) ∧ getSp G.C "offers" (.ref a :: []) H1 Q1 E0 := by
          obtain ⟨⟨dx2, h2⟩, pp⟩ := tar2
          exact ⟨t, dx2, _, rfl, e1 _ _ h2, t, dx2, _, _, rfl, e1 _ _ h2, rfl, q1 _ H1 (Ex.refl _) (pp.tk (.same e1)).dp⟩
        rcases which with z | z | z
        · exact .inl ⟨_, rfl, b, dx, fs, rfl, by rw [← z]; exact e1 _ _ hD, b, dx, fs, .ref t, rfl, by rw [← z]; exact e1 _ _ hD, ho, fin⟩
        · exact .inr (.inl ⟨_, rfl, b, dx, fs, rfl, by rw [← z]; exact e1 _ _ hD, b, dx, fs, .ref t, rfl, by rw [← z]; exact e1 _ _ hD, ho, fin⟩)
        · exact .inr (.inr ⟨_, rfl, b, dx, fs, rfl, by rw [← z]; exact e1 _ _ hD, b, dx, fs, .ref t, rfl, by rw [← z]; exact e1 _ _ hD, ho, fin⟩)
      · exact fun H1 e1 Q1 q1 => ⟨_, rfl, l, ws, rfl, .inl ⟨.of (e1 _ _ c8.c.c.c.hl), fun x nx => q1 _ _ (Ex.new nx) (.tup (.of upd_same) (c8.c.c.c.ps.tk (.same (Same.trans e1 (same_new nx)))).dp)⟩⟩
      · exact fun H1 e1 Q1 q1 => ⟨_, rfl, V.ref b, V.ref G.DB, _, _, true, rfl, .own G.DB, ki.ty (e1 _ _ hD), ki.si, q1 H1 (Ex.refl _)⟩
      · exact et_is (et_test (ev_op (x := .str (kindOf hb)) (y := .str (kindOf hb)) (fun H1 e1 Q1 q1 => ⟨_, rfl, b, D, dx, fs, _, _, rfl, e1 _ _ hD, ki.cl, ku, hk, q1 H1 (Ex.refl _)⟩) (ev_op (ev_var rfl) ev_c (rv_ixT hh (habL_0 hb))) (rv_ne rfl))) (by simp)
    clear c8
    rintro σ H8 ⟨rfl, c8⟩
    refine ⟨_, rfl, _, rfl, _, rfl, _, rfl, l, ws, rfl, .inl (.of c8.c.c.c.hl), ?_⟩
    obtain ⟨p2, tar2⟩ := BuyAt.tar c8.c.bu
    refine ⟨t, b, tv, p2, _, g.L, g, rfl, tar2, by rw [c8.c.c.c.ps.len], n1, dl0 c8.c, gd, nd, c8.c.c.c.T, fun H' e T => ⟨true, rfl, ?_⟩⟩
    exact ⟨fun j => (([some (.ref a0), some (.ref h), some (.int (k : Int)), some (.ref l), some (.ref t), some hv, some (.int g.ln), some dv, some (.ref b), some (.ref tv), some (.int (n : Int)), some (.ref TT), some (.ref B), w13, some (.int (fi : Int)), some (.int (la : Int)), some (.ref EE), none, none] : L2.St) : List (Option V)).getD j none, rfl, c8.c.c.c.d.extN e, T⟩
end
end Sea

set_option Elab.async false
set_option linter.all false
set_option maxRecDepth 100000
set_option maxHeartbeats 8000000
namespace Sea
open PySem PySem.Spec PyProof.Rows L2 LamX NdefX ClX StX
theorem all_mk {l : PySem.W.OpenLaw} {w : World} {K : PySem.W.Frag} {h : Heap} {mg : Str → Option Value} {fa : Addr} (X : K.In h) (Gn : h.Ns mainGlobals mg) (hfa : mg "law" = some (.ref fa))
    {C CV DB DF DT DS S cP cI cV cU cN pP pL pR pRl pRd pEx pBt cR cl Pt eT fI fV fT fTv fP fL fR fRl fRd fEx fWx fBt fBb fBbT fBcF fBcT fBcW fBg fBgW fSI fSd fTa fBy fFx fTn fSw fVN fVP fVC fFr fSp fPu fSr fSt fD fSm fOu fPas fTar fDay fHab fBuy fCh fSim fLg fRf fLaw : Addr}
    {t0 : Tok} {t1 : Tok} {t2 : Tok} {tM : Tok} {tkB : Tok} {tkF : Tok} {tkT : Tok} {tkW : Tok} {tiF : Tok} {tiT : Tok} {tiW : Tok} {u0 : Tok} {u1 : Tok} {u2 : Tok} {u3 : Tok} {nmI qI : Str} {xNI : Addr} {xbsI xbmI xsubI : List Value} {xsnI : List Str} {xabI : Bool} {xcolI : Option Bool} {xddI : Option Addr} {xm0I xm1I xm2I xm3I xm5I : Option Value} {nmV qV : Str} {xNV : Addr} {xbsV xbmV xsubV : List Value} {xsnV : List Str} {xabV : Bool} {xcolV : Option Bool} {xddV : Option Addr} {xm0V xm1V xm2V xm3V xm5V : Option Value} {ocT : Value} {dcT : Value} {pmT : Value} {ctT : Value} {cdT : Value} {kVT : Value} {odT anT : Option Addr} {slT : Array (Option Value)} {ocI : Value} {dcI : Value} {pmI : Value} {ctI : Value} {cdI : Value} {kVI : Value} {odI anI : Option Addr} {slI : Array (Option Value)} {ocXV : Value} {dcXV : Value} {pmXV : Value} {ctXV : Value} {cdXV : Value} {kVXV : Value} {odXV anXV : Option Addr} {slXV : Array (Option Value)} {reP : List Value} {ocP : Value} {dcP : Value} {pmP : Value} {ctP : Value} {cdP : Value} {kVP : Value} {odP anP : Option Addr} {slP : Array (Option Value)} {reL : List Value} {ocL : Value} {dcL : Value} {pmL : Value} {ctL : Value} {cdL : Value} {kVL : Value} {odL anL : Option Addr} {slL : Array (Option Value)} {reR : List Value} {ocR : Value} {dcR : Value} {pmR : Value} {ctR : Value} {cdR : Value} {kVR : Value} {odR anR : Option Addr} {slR : Array (Option Value)} {ocTv : Value} {dcTv : Value} {pmTv : Value} {ctTv : Value} {cdTv : Value} {odTv anTv : Option Addr} {slTv : Array (Option Value)} {kD : Addr} {eTd : Option Addr} {eTn : Nat} {eTs : Array (Option Value)} {reRl : List Value} {ocRl : Value} {dcRl : Value} {pmRl : Value} {ctRl : Value} {cdRl : Value} {kVRl : Value} {odRl anRl : Option Addr} {slRl : Array (Option Value)} {reRd : List Value} {ocRd : Value} {dcRd : Value} {pmRd : Value} {ctRd : Value} {cdRd : Value} {kVRd : Value} {odRd anRd : Option Addr} {slRd : Array (Option Value)} {reEx : List Value} {ocEx : Value} {dcEx : Value} {pmEx : Value} {ctEx : Value} {cdEx : Value} {kVEx : Value} {odEx anEx : Option Addr} {slEx : Array (Option Value)} {ocWx : Value} {dcWx : Value} {pmWx : Value} {ctWx : Value} {cdWx : Value} {kVWx : Value} {odWx anWx : Option Addr} {slWx : Array (Option Value)} {reBt : List Value} {ocBt : Value} {dcBt : Value} {pmBt : Value} {ctBt : Value} {cdBt : Value} {kVBt : Value} {odBt anBt : Option Addr} {slBt : Array (Option Value)} {ocBb : Value} {dcBb : Value} {pmBb : Value} {ctBb : Value} {cdBb : Value} {kVBb : Value} {odBb anBb : Option Addr} {slBb : Array (Option Value)} {ocBbT : Value} {dcBbT : Value} {pmBbT : Value} {ctBbT : Value} {cdBbT : Value} {kVBbT : Value} {odBbT anBbT : Option Addr} {slBbT : Array (Option Value)} {ocBcF : Value} {dcBcF : Value} {pmBcF : Value} {ctBcF : Value} {cdBcF : Value} {kVBcF : Value} {odBcF anBcF : Option Addr} {slBcF : Array (Option Value)} {ocBcT : Value} {dcBcT : Value} {pmBcT : Value} {ctBcT : Value} {cdBcT : Value} {kVBcT : Value} {odBcT anBcT : Option Addr} {slBcT : Array (Option Value)} {ocBcW : Value} {dcBcW : Value} {pmBcW : Value} {ctBcW : Value} {cdBcW : Value} {kVBcW : Value} {odBcW anBcW : Option Addr} {slBcW : Array (Option Value)} {ocBg : Value} {dcBg : Value} {pmBg : Value} {ctBg : Value} {cdBg : Value} {kVBg : Value} {odBg anBg : Option Addr} {slBg : Array (Option Value)} {ocBgW : Value} {dcBgW : Value} {pmBgW : Value} {ctBgW : Value} {cdBgW : Value} {kVBgW : Value} {odBgW anBgW : Option Addr} {slBgW : Array (Option Value)} {ocSI : Value} {dcSI : Value} {pmSI : Value} {ctSI : Value} {cdSI : Value} {kVSI : Value} {odSI anSI : Option Addr} {slSI : Array (Option Value)} {ocSd : Value} {dcSd : Value} {pmSd : Value} {ctSd : Value} {cdSd : Value} {kVSd : Value} {odSd anSd : Option Addr} {slSd : Array (Option Value)} {ocTa : Value} {dcTa : Value} {pmTa : Value} {ctTa : Value} {cdTa : Value} {kVTa : Value} {odTa anTa : Option Addr} {slTa : Array (Option Value)} {ocBy : Value} {dcBy : Value} {pmBy : Value} {ctBy : Value} {cdBy : Value} {kVBy : Value} {odBy anBy : Option Addr} {slBy : Array (Option Value)} {ocF0 kVF0 dcF0 pmF0 ctF0 : Value} {odF0 anF0 : Option Addr} {slF0 : Array (Option Value)} {scclF0 sclvF0 : Value} {scddF0 scldF0 : Option Addr} {scvsF0 : Array Value} {sccsF0 scslF0 : Array (Option Value)} {scfileF0 : Str} {sctfF0 : Tok} {sclsF0 : ClassData} {ccF0 cdaF0 : Addr} {ocT0 kVT0 dcT0 pmT0 ctT0 : Value} {odT0 anT0 : Option Addr} {slT0 : Array (Option Value)} {scclT0 sclvT0 : Value} {scddT0 scldT0 : Option Addr} {scvsT0 : Array Value} {sccsT0 scslT0 : Array (Option Value)} {scfileT0 : Str} {sctfT0 : Tok} {sclsT0 : ClassData} {ccT0 cdaT0 : Addr} {ocW0 kVW0 dcW0 pmW0 ctW0 : Value} {odW0 anW0 : Option Addr} {slW0 : Array (Option Value)} {scclW0 sclvW0 : Value} {scddW0 scldW0 : Option Addr} {scvsW0 : Array Value} {sccsW0 scslW0 : Array (Option Value)} {scfileW0 : Str} {sctfW0 : Tok} {sclsW0 : ClassData} {ccW0 cdaW0 : Addr} {ocVN : Value} {dcVN : Value} {pmVN : Value} {ctVN : Value} {cdVN : Value} {kVVN : Value} {odVN anVN : Option Addr} {slVN : Array (Option Value)} {ocVP : Value} {dcVP : Value} {pmVP : Value} {ctVP : Value} {cdVP : Value} {kVVP : Value} {odVP anVP : Option Addr} {slVP : Array (Option Value)} {ocVC : Value} {dcVC : Value} {pmVC : Value} {ctVC : Value} {cdVC : Value} {kVVC : Value} {odVC anVC : Option Addr} {slVC : Array (Option Value)} {ocFr : Value} {dcFr : Value} {pmFr : Value} {ctFr : Value} {cdFr : Value} {kVFr : Value} {odFr anFr : Option Addr} {slFr : Array (Option Value)} {ocSp : Value} {dcSp : Value} {pmSp : Value} {ctSp : Value} {cdSp : Value} {kVSp : Value} {odSp anSp : Option Addr} {slSp : Array (Option Value)} {ocPu : Value} {dcPu : Value} {pmPu : Value} {ctPu : Value} {cdPu : Value} {kVPu : Value} {odPu anPu : Option Addr} {slPu : Array (Option Value)} {ocSr : Value} {dcSr : Value} {pmSr : Value} {ctSr : Value} {cdSr : Value} {kVSr : Value} {odSr anSr : Option Addr} {slSr : Array (Option Value)} {ocSt : Value} {dcSt : Value} {pmSt : Value} {ctSt : Value} {cdSt : Value} {kVSt : Value} {odSt anSt : Option Addr} {slSt : Array (Option Value)} {ocD : Value} {dcD : Value} {pmD : Value} {ctD : Value} {cdD : Value} {kVD : Value} {odD anD : Option Addr} {slD : Array (Option Value)} {ocSm : Value} {dcSm : Value} {pmSm : Value} {ctSm : Value} {cdSm : Value} {kVSm : Value} {odSm anSm : Option Addr} {slSm : Array (Option Value)} {ocOu : Value} {dcOu : Value} {pmOu : Value} {ctOu : Value} {cdOu : Value} {kVOu : Value} {odOu anOu : Option Addr} {slOu : Array (Option Value)} {ocPas : Value} {dcPas : Value} {pmPas : Value} {ctPas : Value} {cdPas : Value} {kVPas : Value} {odPas anPas : Option Addr} {slPas : Array (Option Value)} {ocTar : Value} {dcTar : Value} {pmTar : Value} {ctTar : Value} {cdTar : Value} {kVTar : Value} {odTar anTar : Option Addr} {slTar : Array (Option Value)} {ocDay : Value} {dcDay : Value} {pmDay : Value} {ctDay : Value} {cdDay : Value} {kVDay : Value} {odDay anDay : Option Addr} {slDay : Array (Option Value)} {ocHab : Value} {dcHab : Value} {pmHab : Value} {ctHab : Value} {cdHab : Value} {kVHab : Value} {odHab anHab : Option Addr} {slHab : Array (Option Value)} {ocBuy : Value} {dcBuy : Value} {pmBuy : Value} {ctBuy : Value} {cdBuy : Value} {kVBuy : Value} {odBuy anBuy : Option Addr} {slBuy : Array (Option Value)} {ocCh : Value} {dcCh : Value} {pmCh : Value} {ctCh : Value} {cdCh : Value} {kVCh : Value} {odCh anCh : Option Addr} {slCh : Array (Option Value)} {ocSim : Value} {dcSim : Value} {pmSim : Value} {ctSim : Value} {cdSim : Value} {kVSim : Value} {odSim anSim : Option Addr} {slSim : Array (Option Value)} {ocLg : Value} {dcLg : Value} {pmLg : Value} {ctLg : Value} {cdLg : Value} {kVLg : Value} {odLg anLg : Option Addr} {slLg : Array (Option Value)} {ocRf : Value} {dcRf : Value} {pmRf : Value} {ctRf : Value} {kVRf : Value} {odRf anRf : Option Addr} {slRf : Array (Option Value)} {ocLaw : Value} {dcLaw : Value} {pmLaw : Value} {ctLaw : Value} {kVLaw : Value} {odLaw anLaw : Option Addr} {slLaw : Array (Option Value)}
    (hT : h.get? Pt = some { cls := .none, data := .fields #[] })
    (aC : PySem.W.nsIn K mainGlobals "Tariff" = some (some (.ref C)))
    (aCV : PySem.W.nsIn K mainGlobals "Travel" = some (some (.ref CV)))
    (aDB : PySem.W.nsIn K mainGlobals "Buyer" = some (some (.ref DB)))
    (aDF : PySem.W.nsIn K mainGlobals "FixedBuyer" = some (some (.ref DF)))
    (aDT : PySem.W.nsIn K mainGlobals "TurnBuyer" = some (some (.ref DT)))
    (aDS : PySem.W.nsIn K mainGlobals "SwitchBuyer" = some (some (.ref DS)))
    (aS : PySem.W.nsIn K mainGlobals "Spending" = some (some (.ref S)))
    (aP : PySem.W.nsIn K mainGlobals "PassError" = some (some (.ref cP)))
    (aI : PySem.W.nsIn K mainGlobals "InvalidTariff" = some (some (.ref cI)))
    (aV : PySem.W.nsIn K mainGlobals "InvalidTravel" = some (some (.ref cV)))
    (aU : PySem.W.nsIn K mainGlobals "UnknownPass" = some (some (.ref cU)))
    (aN : PySem.W.nsIn K mainGlobals "InvalidCount" = some (some (.ref cN)))
    (z_enumerate : PySem.W.nsIn K mainGlobals "enumerate" = some none)
    (z_len : PySem.W.nsIn K mainGlobals "len" = some none)
    (z_tuple : PySem.W.nsIn K mainGlobals "tuple" = some none)
    (z_int : PySem.W.nsIn K mainGlobals "int" = some none)
    (z_range : PySem.W.nsIn K mainGlobals "range" = some none)
    (z_max : PySem.W.nsIn K mainGlobals "max" = some none)
    (z_min : PySem.W.nsIn K mainGlobals "min" = some none)
    (z_isinstance : PySem.W.nsIn K mainGlobals "isinstance" = some none)
    (z_list : PySem.W.nsIn K mainGlobals "list" = some none)
    (z_bool : PySem.W.nsIn K mainGlobals "bool" = some none)
    (z_sorted : PySem.W.nsIn K mainGlobals "sorted" = some none)
    (z_super : PySem.W.nsIn K mainGlobals "super" = some none)
    (pgC : PySem.W.plainGet K C Str.empty = true)
    (hdC : PySem.W.hasDictIn K C = true)
    (poC : PySem.W.plainOver K C = true)
    (saC : PySem.W.findIn K (.ref C) "__setattr__" = some (some (.builtin "object.__setattr__")))
    (mkC : PySem.W.makesIn K C = true)
    (kpCC : PySem.W.keepIn K (.ref C) = true)
    (pgV : PySem.W.plainGet K CV Str.empty = true)
    (hdV : PySem.W.hasDictIn K CV = true)
    (poV : PySem.W.plainOver K CV = true)
    (saV : PySem.W.findIn K (.ref CV) "__setattr__" = some (some (.builtin "object.__setattr__")))
    (mkV : PySem.W.makesIn K CV = true)
    (kpCV : PySem.W.keepIn K (.ref CV) = true)
    (pgF : PySem.W.plainGet K DF Str.empty = true)
    (hdF : PySem.W.hasDictIn K DF = true)
    (poF : PySem.W.plainOver K DF = true)
    (saF : PySem.W.findIn K (.ref DF) "__setattr__" = some (some (.builtin "object.__setattr__")))
    (mkF : PySem.W.makesIn K DF = true)
    (kpCF : PySem.W.keepIn K (.ref DF) = true)
    (pgT : PySem.W.plainGet K DT Str.empty = true)
    (hdT : PySem.W.hasDictIn K DT = true)
    (poT : PySem.W.plainOver K DT = true)
    (saT : PySem.W.findIn K (.ref DT) "__setattr__" = some (some (.builtin "object.__setattr__")))
    (mkT : PySem.W.makesIn K DT = true)
    (kpCT : PySem.W.keepIn K (.ref DT) = true)
    (pgW : PySem.W.plainGet K DS Str.empty = true)
    (hdW : PySem.W.hasDictIn K DS = true)
    (poW : PySem.W.plainOver K DS = true)
    (saW : PySem.W.findIn K (.ref DS) "__setattr__" = some (some (.builtin "object.__setattr__")))
    (mkW : PySem.W.makesIn K DS = true)
    (kpCW : PySem.W.keepIn K (.ref DS) = true)
    (pgS : PySem.W.plainGet K S Str.empty = true)
    (hdS : PySem.W.hasDictIn K S = true)
    (poS : PySem.W.plainOver K S = true)
    (saS : PySem.W.findIn K (.ref S) "__setattr__" = some (some (.builtin "object.__setattr__")))
    (mkS : PySem.W.makesIn K S = true)
    (kpCS : PySem.W.keepIn K (.ref S) = true)
    (nO : PySem.W.findIn K (.ref C) "offers" = some none)
    (rd : PySem.W.readsIn K C (.type "type") = true)
    (ga : PySem.W.specialIn K (.ref C) "__getattribute__" = some (some (.builtin "type.__getattribute__")))
    (rdB : PySem.W.readsIn K DB (.type "type") = true)
    (gaB : PySem.W.specialIn K (.ref DB) "__getattribute__" = some (some (.builtin "type.__getattribute__")))
    (rdF : PySem.W.readsIn K DF (.type "type") = true)
    (gaF : PySem.W.specialIn K (.ref DF) "__getattribute__" = some (some (.builtin "type.__getattribute__")))
    (rdT : PySem.W.readsIn K DT (.type "type") = true)
    (gaT : PySem.W.specialIn K (.ref DT) "__getattribute__" = some (some (.builtin "type.__getattribute__")))
    (rdW : PySem.W.readsIn K DS (.type "type") = true)
    (gaW : PySem.W.specialIn K (.ref DS) "__getattribute__" = some (some (.builtin "type.__getattribute__")))
    (v0 : PySem.W.findCls K (.ref C) (.type "type") "MAX_LENGTH" = some (.val (.int 28 t0)))
    (v1 : PySem.W.findCls K (.ref C) (.type "type") "MAX_PRICE" = some (.val (.int 1000000 t1)))
    (v2 : PySem.W.findCls K (.ref C) (.type "type") "MAX_PASSES" = some (.val (.int 6 t2)))
    (vM : PySem.W.findCls K (.ref DS) (.type "type") "MAX_LIMIT" = some (.val (.int 1000000000 tM)))
    (kcB : PySem.W.findCls K (.ref DB) (.type "type") "KIND" = some (.val (.str "buyer" tkB)))
    (kcF : PySem.W.findCls K (.ref DF) (.type "type") "KIND" = some (.val (.str "fixed" tkF)))
    (kcT : PySem.W.findCls K (.ref DT) (.type "type") "KIND" = some (.val (.str "turn" tkT)))
    (kcW : PySem.W.findCls K (.ref DS) (.type "type") "KIND" = some (.val (.str "switch" tkW)))
    (kiF : PySem.W.findIn K (.ref DF) "KIND" = some (some (.str "fixed" tiF)))
    (kgF : PySem.W.specialIn K (.str "fixed" tiF) "__get__" = some none)
    (ecF : PySem.W.findIn K (.ref DF) "__class__" = some (some (.builtin "object.__class__")))
    (emF : PySem.W.mroIn K DF (.type "object") = some true)
    (ebF : PySem.W.kitOne K (.ref DF) (.ref DB) = some true)
    (kiT : PySem.W.findIn K (.ref DT) "KIND" = some (some (.str "turn" tiT)))
    (kgT : PySem.W.specialIn K (.str "turn" tiT) "__get__" = some none)
    (ecT : PySem.W.findIn K (.ref DT) "__class__" = some (some (.builtin "object.__class__")))
    (emT : PySem.W.mroIn K DT (.type "object") = some true)
    (ebT : PySem.W.kitOne K (.ref DT) (.ref DB) = some true)
    (kiW : PySem.W.findIn K (.ref DS) "KIND" = some (some (.str "switch" tiW)))
    (kgW : PySem.W.specialIn K (.str "switch" tiW) "__get__" = some none)
    (ecW : PySem.W.findIn K (.ref DS) "__class__" = some (some (.builtin "object.__class__")))
    (emW : PySem.W.mroIn K DS (.type "object") = some true)
    (ebW : PySem.W.kitOne K (.ref DS) (.ref DB) = some true)
    (ecn : PySem.W.specialIn K (.builtin "object.__class__") "__get__" = some (some (.builtin "getset_descriptor.__get__")))
    (ect : PySem.W.takesIn K (.builtin "object.__class__") = some true)
    (nA0 : PySem.W.findIn K (.ref CV) "size" = some none)
    (nA1 : PySem.W.findIn K (.ref CV) "pattern" = some none)
    (nA2 : PySem.W.findIn K (.ref CV) "odd_days" = some none)
    (nB0 : PySem.W.findIn K (.ref DF) "offer" = some none)
    (nB1 : PySem.W.findIn K (.ref DT) "offer" = some none)
    (nB2 : PySem.W.findIn K (.ref DS) "offer" = some none)
    (nB3 : PySem.W.findIn K (.ref DF) "favorite" = some none)
    (nB4 : PySem.W.findIn K (.ref DT) "sequence" = some none)
    (nB5 : PySem.W.findIn K (.ref DS) "short" = some none)
    (nB6 : PySem.W.findIn K (.ref DS) "long" = some none)
    (nB7 : PySem.W.findIn K (.ref DS) "limit" = some none)
    (nS0 : PySem.W.findIn K (.ref S) "totals" = some none)
    (nS1 : PySem.W.findIn K (.ref S) "bought" = some none)
    (nS2 : PySem.W.findIn K (.ref S) "start" = some none)
    (nS3 : PySem.W.findIn K (.ref S) "period" = some none)
    (nS4 : PySem.W.findIn K (.ref S) "gain" = some none)
    (w0 : PySem.W.nsIn K mainGlobals "MAX_ROUND" = some (some (.int 14 u0)))
    (w1 : PySem.W.nsIn K mainGlobals "MAX_EXCEPTIONS" = some (some (.int 6 u1)))
    (w2 : PySem.W.nsIn K mainGlobals "MAX_DAYS" = some (some (.int 1000000000000000000 u2)))
    (w3 : PySem.W.nsIn K mainGlobals "MAX_YIELDED" = some (some (.int 10000 u3)))
    (xLI : K.lookup cI = some (excClassObj nmI qI cI xNI xbsI xbmI true xsnI xsubI xabI xcolI xddI xm0I xm1I xm2I xm3I xm5I "ValueError.__new__"))
    (xrvI : PySem.HandSPX.refsVE xbmI = true)
    (xsaI : PySem.W.findIn K (.ref cI) "__setattr__" = some (some (.builtin "object.__setattr__")))
    (sI : PySem.W.subIn K (.ref cI) (.type "BaseException") = some true)
    (yI : PySem.W.typeIn K (.ref cI) = some (.type "type"))
    (kpI : PySem.W.keepIn K (.ref cI) = true)
    (nI_index : PySem.W.findIn K (.ref cI) "index" = some none)
    (iI : PySem.W.findIn K (.ref cI) "__init__" = some (some (.ref fI)))
    (tI : PySem.W.typeIn K (.ref fI) = some (.type "function"))
    (egI : PySem.W.findIn K (.ref cI) "__getattribute__" = some (some (.builtin "BaseException.__getattribute__")))
    (ekI : PySem.W.findIn K (.ref cI) "__getattr__" = some none)
    (ehI : PySem.W.hasDictIn K cI = true)
    (xLV : K.lookup cV = some (excClassObj nmV qV cV xNV xbsV xbmV true xsnV xsubV xabV xcolV xddV xm0V xm1V xm2V xm3V xm5V "ValueError.__new__"))
    (xrvV : PySem.HandSPX.refsVE xbmV = true)
    (xsaV : PySem.W.findIn K (.ref cV) "__setattr__" = some (some (.builtin "object.__setattr__")))
    (sV : PySem.W.subIn K (.ref cV) (.type "BaseException") = some true)
    (yV : PySem.W.typeIn K (.ref cV) = some (.type "type"))
    (kpV : PySem.W.keepIn K (.ref cV) = true)
    (nV_part : PySem.W.findIn K (.ref cV) "part" = some none)
    (nV_index : PySem.W.findIn K (.ref cV) "index" = some none)
    (iV : PySem.W.findIn K (.ref cV) "__init__" = some (some (.ref fV)))
    (tV : PySem.W.typeIn K (.ref fV) = some (.type "function"))
    (egV : PySem.W.findIn K (.ref cV) "__getattribute__" = some (some (.builtin "BaseException.__getattribute__")))
    (ekV : PySem.W.findIn K (.ref cV) "__getattr__" = some none)
    (ehV : PySem.W.hasDictIn K cV = true)
    (prd : PySem.W.readsIn K cP (.type "type") = true)
    (pga : PySem.W.specialIn K (.ref cP) "__getattribute__" = some (some (.builtin "type.__getattribute__")))
    (pat : PySem.W.findCls K (.ref cP) (.type "type") "__init__" = some (.val (.builtin "ValueError.__init__")))
    (qU : PySem.W.excIn K cU [.type "ValueError", .type "Exception", .type "BaseException", .type "object"] "ValueError.__new__" = true)
    (kU : PySem.W.keepIn K (.ref cU) = true)
    (sU : PySem.W.subIn K (.ref cU) (.type "BaseException") = some true)
    (yU : PySem.W.typeIn K (.ref cU) = some (.type "type"))
    (qN : PySem.W.excIn K cN [.type "ValueError", .type "Exception", .type "BaseException", .type "object"] "ValueError.__new__" = true)
    (kN : PySem.W.keepIn K (.ref cN) = true)
    (sN : PySem.W.subIn K (.ref cN) (.type "BaseException") = some true)
    (yN : PySem.W.typeIn K (.ref cN) = some (.type "type"))
    (xNN : PySem.W.exmOne K (.ref cN) (.ref cN) = some true)
    (xVN : PySem.W.exmOne K (.ref cV) (.ref cN) = some false)
    (xUN : PySem.W.exmOne K (.ref cU) (.ref cN) = some false)
    (xVV : PySem.W.exmOne K (.ref cV) (.ref cV) = some true)
    (xUV : PySem.W.exmOne K (.ref cU) (.ref cV) = some false)
    (xUU : PySem.W.exmOne K (.ref cU) (.ref cU) = some true)
    (nsN : PySem.W.subIn K (.ref cN) (.type "StopIteration") = some false)
    (nsV : PySem.W.subIn K (.ref cV) (.type "StopIteration") = some false)
    (atT : PySem.W.findIn K (.ref C) "__init__" = some (some (.ref fT)))
    (ifT : PySem.W.isFn K (.ref fT) = true)
    (lT : K.lookup fT = some ⟨ocT, odT, .func (PySem.W.fnOf "__init__" "Tariff.__init__" (defArgs sInit) (defBody sInit) (defScope sInit) .none kVT dcT pmT anT cdT ctT), slT⟩)
    (cd_T : PySem.W.codeIn K cdT "Tariff.__init__" = true)
    (kp_T : PySem.W.keepIn K (.ref fT) = true)
    (lI : K.lookup fI = some ⟨ocI, odI, .func (PySem.W.fnOf "__init__" "InvalidTariff.__init__" (defArgs sIT) (defBody sIT) (defScope sIT) .none kVI dcI pmI anI cdI ctI), slI⟩)
    (cd_I : PySem.W.codeIn K cdI "InvalidTariff.__init__" = true)
    (kp_I : PySem.W.keepIn K (.ref fI) = true)
    (lXV : K.lookup fV = some ⟨ocXV, odXV, .func (PySem.W.fnOf "__init__" "InvalidTravel.__init__" (defArgs sIV) (defBody sIV) (defScope sIV) .none kVXV dcXV pmXV anXV cdXV ctXV), slXV⟩)
    (cd_XV : PySem.W.codeIn K cdXV "InvalidTravel.__init__" = true)
    (kp_XV : PySem.W.keepIn K (.ref fV) = true)
    (atP : PySem.W.findIn K (.ref C) "passes" = some (some (.ref pP)))
    (geP : PySem.W.specialIn K (.ref pP) "__get__" = some (some (.builtin "property.__get__")))
    (taP : PySem.W.takesIn K (.ref pP) = some true)
    (rcP : PySem.W.recIn K pP "property" = some (.ref fP :: reP))
    (lP : K.lookup fP = some ⟨ocP, odP, .func (PySem.W.fnOf "passes" "Tariff.passes" (defArgs sPasses) (defBody sPasses) (defScope sPasses) .none kVP dcP pmP anP cdP ctP), slP⟩)
    (cd_P : PySem.W.codeIn K cdP "Tariff.passes" = true)
    (kp_P : PySem.W.keepIn K (.ref fP) = true)
    (atL : PySem.W.findIn K (.ref C) "lengths" = some (some (.ref pL)))
    (geL : PySem.W.specialIn K (.ref pL) "__get__" = some (some (.builtin "property.__get__")))
    (taL : PySem.W.takesIn K (.ref pL) = some true)
    (rcL : PySem.W.recIn K pL "property" = some (.ref fL :: reL))
    (lL : K.lookup fL = some ⟨ocL, odL, .func (PySem.W.fnOf "lengths" "Tariff.lengths" (defArgs sLengths) (defBody sLengths) (defScope sLengths) .none kVL dcL pmL anL cdL ctL), slL⟩)
    (cd_L : PySem.W.codeIn K cdL "Tariff.lengths" = true)
    (kp_L : PySem.W.keepIn K (.ref fL) = true)
    (atR : PySem.W.findIn K (.ref C) "prices" = some (some (.ref pR)))
    (geR : PySem.W.specialIn K (.ref pR) "__get__" = some (some (.builtin "property.__get__")))
    (taR : PySem.W.takesIn K (.ref pR) = some true)
    (rcR : PySem.W.recIn K pR "property" = some (.ref fR :: reR))
    (lR : K.lookup fR = some ⟨ocR, odR, .func (PySem.W.fnOf "prices" "Tariff.prices" (defArgs sPrices) (defBody sPrices) (defScope sPrices) .none kVR dcR pmR anR cdR ctR), slR⟩)
    (cd_R : PySem.W.codeIn K cdR "Tariff.prices" = true)
    (kp_R : PySem.W.keepIn K (.ref fR) = true)
    (atTv : PySem.W.findIn K (.ref CV) "__init__" = some (some (.ref fTv)))
    (ifTv : PySem.W.isFn K (.ref fTv) = true)
    (lTv : K.lookup fTv = some ⟨ocTv, odTv, .func (PySem.W.fnOf "__init__" "Travel.__init__" (defArgs sTvI) (defBody sTvI) (defScope sTvI) .none (.ref kD) dcTv pmTv anTv cdTv ctTv), slTv⟩)
    (cd_Tv : PySem.W.codeIn K cdTv "Travel.__init__" = true)
    (kp_Tv : PySem.W.keepIn K (.ref fTv) = true)
    (kx : PySem.W.nsIn K kD "exceptions" = some (some (.ref eT)))
    (eTl : K.lookup eT = some ⟨.type "tuple", eTd, .seq #[] eTn, eTs⟩)
    (atRl : PySem.W.findIn K (.ref CV) "round_length" = some (some (.ref pRl)))
    (geRl : PySem.W.specialIn K (.ref pRl) "__get__" = some (some (.builtin "property.__get__")))
    (taRl : PySem.W.takesIn K (.ref pRl) = some true)
    (rcRl : PySem.W.recIn K pRl "property" = some (.ref fRl :: reRl))
    (lRl : K.lookup fRl = some ⟨ocRl, odRl, .func (PySem.W.fnOf "round_length" "Travel.round_length" (defArgs sRl) (defBody sRl) (defScope sRl) .none kVRl dcRl pmRl anRl cdRl ctRl), slRl⟩)
    (cd_Rl : PySem.W.codeIn K cdRl "Travel.round_length" = true)
    (kp_Rl : PySem.W.keepIn K (.ref fRl) = true)
    (atRd : PySem.W.findIn K (.ref CV) "round_days" = some (some (.ref pRd)))
    (geRd : PySem.W.specialIn K (.ref pRd) "__get__" = some (some (.builtin "property.__get__")))
    (taRd : PySem.W.takesIn K (.ref pRd) = some true)
    (rcRd : PySem.W.recIn K pRd "property" = some (.ref fRd :: reRd))
    (lRd : K.lookup fRd = some ⟨ocRd, odRd, .func (PySem.W.fnOf "round_days" "Travel.round_days" (defArgs sRd) (defBody sRd) (defScope sRd) .none kVRd dcRd pmRd anRd cdRd ctRd), slRd⟩)
    (cd_Rd : PySem.W.codeIn K cdRd "Travel.round_days" = true)
    (kp_Rd : PySem.W.keepIn K (.ref fRd) = true)
    (atEx : PySem.W.findIn K (.ref CV) "exceptions" = some (some (.ref pEx)))
    (geEx : PySem.W.specialIn K (.ref pEx) "__get__" = some (some (.builtin "property.__get__")))
    (taEx : PySem.W.takesIn K (.ref pEx) = some true)
    (rcEx : PySem.W.recIn K pEx "property" = some (.ref fEx :: reEx))
    (lEx : K.lookup fEx = some ⟨ocEx, odEx, .func (PySem.W.fnOf "exceptions" "Travel.exceptions" (defArgs sEx) (defBody sEx) (defScope sEx) .none kVEx dcEx pmEx anEx cdEx ctEx), slEx⟩)
    (cd_Ex : PySem.W.codeIn K cdEx "Travel.exceptions" = true)
    (kp_Ex : PySem.W.keepIn K (.ref fEx) = true)
    (atWx : PySem.W.findIn K (.ref CV) "with_exception" = some (some (.ref fWx)))
    (ifWx : PySem.W.isFn K (.ref fWx) = true)
    (lWx : K.lookup fWx = some ⟨ocWx, odWx, .func (PySem.W.fnOf "with_exception" "Travel.with_exception" (defArgs sWx) (defBody sWx) (defScope sWx) .none kVWx dcWx pmWx anWx cdWx ctWx), slWx⟩)
    (cd_Wx : PySem.W.codeIn K cdWx "Travel.with_exception" = true)
    (kp_Wx : PySem.W.keepIn K (.ref fWx) = true)
    (atBt : PySem.W.findIn K (.ref DF) "tariff" = some (some (.ref pBt)))
    (geBt : PySem.W.specialIn K (.ref pBt) "__get__" = some (some (.builtin "property.__get__")))
    (taBt : PySem.W.takesIn K (.ref pBt) = some true)
    (rcBt : PySem.W.recIn K pBt "property" = some (.ref fBt :: reBt))
    (lBt : K.lookup fBt = some ⟨ocBt, odBt, .func (PySem.W.fnOf "tariff" "Buyer.tariff" (defArgs sByT) (defBody sByT) (defScope sByT) .none kVBt dcBt pmBt anBt cdBt ctBt), slBt⟩)
    (cd_Bt : PySem.W.codeIn K cdBt "Buyer.tariff" = true)
    (kp_Bt : PySem.W.keepIn K (.ref fBt) = true)
    (atBtT : PySem.W.findIn K (.ref DT) "tariff" = some (some (.ref pBt)))
    (atBtW : PySem.W.findIn K (.ref DS) "tariff" = some (some (.ref pBt)))
    (atBb : PySem.W.findIn K (.ref DF) "beginning" = some (some (.ref fBb)))
    (ifBb : PySem.W.isFn K (.ref fBb) = true)
    (lBb : K.lookup fBb = some ⟨ocBb, odBb, .func (PySem.W.fnOf "beginning" "Buyer.beginning" (defArgs sByB) (defBody sByB) (defScope sByB) .none kVBb dcBb pmBb anBb cdBb ctBb), slBb⟩)
    (cd_Bb : PySem.W.codeIn K cdBb "Buyer.beginning" = true)
    (kp_Bb : PySem.W.keepIn K (.ref fBb) = true)
    (atBbW : PySem.W.findIn K (.ref DS) "beginning" = some (some (.ref fBb)))
    (ifBbW : PySem.W.isFn K (.ref fBb) = true)
    (atBbT : PySem.W.findIn K (.ref DT) "beginning" = some (some (.ref fBbT)))
    (ifBbT : PySem.W.isFn K (.ref fBbT) = true)
    (lBbT : K.lookup fBbT = some ⟨ocBbT, odBbT, .func (PySem.W.fnOf "beginning" "TurnBuyer.beginning" (defArgs sTnB) (defBody sTnB) (defScope sTnB) .none kVBbT dcBbT pmBbT anBbT cdBbT ctBbT), slBbT⟩)
    (cd_BbT : PySem.W.codeIn K cdBbT "TurnBuyer.beginning" = true)
    (kp_BbT : PySem.W.keepIn K (.ref fBbT) = true)
    (atBcF : PySem.W.findIn K (.ref DF) "choose" = some (some (.ref fBcF)))
    (ifBcF : PySem.W.isFn K (.ref fBcF) = true)
    (lBcF : K.lookup fBcF = some ⟨ocBcF, odBcF, .func (PySem.W.fnOf "choose" "FixedBuyer.choose" (defArgs sFxC) (defBody sFxC) (defScope sFxC) .none kVBcF dcBcF pmBcF anBcF cdBcF ctBcF), slBcF⟩)
    (cd_BcF : PySem.W.codeIn K cdBcF "FixedBuyer.choose" = true)
    (kp_BcF : PySem.W.keepIn K (.ref fBcF) = true)
    (atBcT : PySem.W.findIn K (.ref DT) "choose" = some (some (.ref fBcT)))
    (ifBcT : PySem.W.isFn K (.ref fBcT) = true)
    (lBcT : K.lookup fBcT = some ⟨ocBcT, odBcT, .func (PySem.W.fnOf "choose" "TurnBuyer.choose" (defArgs sTnC) (defBody sTnC) (defScope sTnC) .none kVBcT dcBcT pmBcT anBcT cdBcT ctBcT), slBcT⟩)
    (cd_BcT : PySem.W.codeIn K cdBcT "TurnBuyer.choose" = true)
    (kp_BcT : PySem.W.keepIn K (.ref fBcT) = true)
    (atBcW : PySem.W.findIn K (.ref DS) "choose" = some (some (.ref fBcW)))
    (ifBcW : PySem.W.isFn K (.ref fBcW) = true)
    (lBcW : K.lookup fBcW = some ⟨ocBcW, odBcW, .func (PySem.W.fnOf "choose" "SwitchBuyer.choose" (defArgs sSwC) (defBody sSwC) (defScope sSwC) .none kVBcW dcBcW pmBcW anBcW cdBcW ctBcW), slBcW⟩)
    (cd_BcW : PySem.W.codeIn K cdBcW "SwitchBuyer.choose" = true)
    (kp_BcW : PySem.W.keepIn K (.ref fBcW) = true)
    (atBg : PySem.W.findIn K (.ref DF) "grow_older" = some (some (.ref fBg)))
    (ifBg : PySem.W.isFn K (.ref fBg) = true)
    (lBg : K.lookup fBg = some ⟨ocBg, odBg, .func (PySem.W.fnOf "grow_older" "Buyer.grow_older" (defArgs sByG) (defBody sByG) (defScope sByG) .none kVBg dcBg pmBg anBg cdBg ctBg), slBg⟩)
    (cd_Bg : PySem.W.codeIn K cdBg "Buyer.grow_older" = true)
    (kp_Bg : PySem.W.keepIn K (.ref fBg) = true)
    (atBgT : PySem.W.findIn K (.ref DT) "grow_older" = some (some (.ref fBg)))
    (ifBgT : PySem.W.isFn K (.ref fBg) = true)
    (atBgW : PySem.W.findIn K (.ref DS) "grow_older" = some (some (.ref fBgW)))
    (ifBgW : PySem.W.isFn K (.ref fBgW) = true)
    (lBgW : K.lookup fBgW = some ⟨ocBgW, odBgW, .func (PySem.W.fnOf "grow_older" "SwitchBuyer.grow_older" (defArgs sSwG) (defBody sSwG) (defScope sSwG) .none kVBgW dcBgW pmBgW anBgW cdBgW ctBgW), slBgW⟩)
    (cd_BgW : PySem.W.codeIn K cdBgW "SwitchBuyer.grow_older" = true)
    (kp_BgW : PySem.W.keepIn K (.ref fBgW) = true)
    (atSI : PySem.W.findIn K (.ref S) "__init__" = some (some (.ref fSI)))
    (ifSI : PySem.W.isFn K (.ref fSI) = true)
    (lSI : K.lookup fSI = some ⟨ocSI, odSI, .func (PySem.W.fnOf "__init__" "Spending.__init__" (defArgs sSpI) (defBody sSpI) (defScope sSpI) .none kVSI dcSI pmSI anSI cdSI ctSI), slSI⟩)
    (cd_SI : PySem.W.codeIn K cdSI "Spending.__init__" = true)
    (kp_SI : PySem.W.keepIn K (.ref fSI) = true)
    (atSd : PySem.W.findIn K (.ref S) "same_day" = some (some (.ref fSd)))
    (ifSd : PySem.W.isFn K (.ref fSd) = true)
    (lSd : K.lookup fSd = some ⟨ocSd, odSd, .func (PySem.W.fnOf "same_day" "Spending.same_day" (defArgs sSd) (defBody sSd) (defScope sSd) .none kVSd dcSd pmSd anSd cdSd ctSd), slSd⟩)
    (cd_Sd : PySem.W.codeIn K cdSd "Spending.same_day" = true)
    (kp_Sd : PySem.W.keepIn K (.ref fSd) = true)
    (atTa : PySem.W.findIn K (.ref S) "total_after" = some (some (.ref fTa)))
    (ifTa : PySem.W.isFn K (.ref fTa) = true)
    (lTa : K.lookup fTa = some ⟨ocTa, odTa, .func (PySem.W.fnOf "total_after" "Spending.total_after" (defArgs sTa) (defBody sTa) (defScope sTa) .none kVTa dcTa pmTa anTa cdTa ctTa), slTa⟩)
    (cd_Ta : PySem.W.codeIn K cdTa "Spending.total_after" = true)
    (kp_Ta : PySem.W.keepIn K (.ref fTa) = true)
    (atBy : PySem.W.findIn K (.ref DB) "__init__" = some (some (.ref fBy)))
    (lBy : K.lookup fBy = some ⟨ocBy, odBy, .func (PySem.W.fnOf "__init__" "Buyer.__init__" (defArgs sByI) (defBody sByI) (defScope sByI) .none kVBy dcBy pmBy anBy cdBy ctBy), slBy⟩)
    (cd_By : PySem.W.codeIn K cdBy "Buyer.__init__" = true)
    (kp_By : PySem.W.keepIn K (.ref fBy) = true)
    (stop : (l.prog.main.scope.names.lookup ("super" : Str)).isSome = false)
    (sopq : PySem.W.nsIn K cStatics "thirdparty.any" = some none)
    (sty : PySem.W.typeIn K (.ref fBy) = some (.type "function"))
    (sfi : PySem.W.fnIn K fBy = true)
    (atF0 : PySem.W.findIn K (.ref DF) "__init__" = some (some (.ref fFx)))
    (ifF0 : PySem.W.isFn K (.ref fFx) = true)
    (lF0 : K.lookup fFx = some ⟨ocF0, odF0, .func (PySem.W.fnX "__init__" "FixedBuyer.__init__" (defArgs sFxI) (defBody sFxI) (defScope sFxI) [("__class__", ccF0)] .none kVF0 dcF0 pmF0 anF0 (.ref cdaF0) ctF0), slF0⟩)
    (cd_F0 : PySem.W.codeIn K (.ref cdaF0) "FixedBuyer.__init__" = true)
    (kp_F0 : PySem.W.keepIn K (.ref fFx) = true)
    (scodeF0 : K.lookup cdaF0 = some ⟨scclF0, scddF0, .fields scvsF0, sccsF0⟩)
    (sfilF0 : scvsF0[2]? = some (.str scfileF0 sctfF0))
    (smainF0 : ((l.prog.main.file : Str) == scfileF0) = true)
    (scellF0 : K.lookup ccF0 = some ⟨sclvF0, scldF0, .cell (some (.ref DF)), scslF0⟩)
    (sclassF0 : PySem.W.clsIn K DF = some sclsF0)
    (smroF0 : PySem.W.mroIn K DF (.ref DF) = some true)
    (smethF0 : PySem.W.ks_superIn K DF DF "__init__" = some (some (.ref fBy)))
    (atT0 : PySem.W.findIn K (.ref DT) "__init__" = some (some (.ref fTn)))
    (ifT0 : PySem.W.isFn K (.ref fTn) = true)
    (lT0 : K.lookup fTn = some ⟨ocT0, odT0, .func (PySem.W.fnX "__init__" "TurnBuyer.__init__" (defArgs sTnI) (defBody sTnI) (defScope sTnI) [("__class__", ccT0)] .none kVT0 dcT0 pmT0 anT0 (.ref cdaT0) ctT0), slT0⟩)
    (cd_T0 : PySem.W.codeIn K (.ref cdaT0) "TurnBuyer.__init__" = true)
    (kp_T0 : PySem.W.keepIn K (.ref fTn) = true)
    (scodeT0 : K.lookup cdaT0 = some ⟨scclT0, scddT0, .fields scvsT0, sccsT0⟩)
    (sfilT0 : scvsT0[2]? = some (.str scfileT0 sctfT0))
    (smainT0 : ((l.prog.main.file : Str) == scfileT0) = true)
    (scellT0 : K.lookup ccT0 = some ⟨sclvT0, scldT0, .cell (some (.ref DT)), scslT0⟩)
    (sclassT0 : PySem.W.clsIn K DT = some sclsT0)
    (smroT0 : PySem.W.mroIn K DT (.ref DT) = some true)
    (smethT0 : PySem.W.ks_superIn K DT DT "__init__" = some (some (.ref fBy)))
    (atW0 : PySem.W.findIn K (.ref DS) "__init__" = some (some (.ref fSw)))
    (ifW0 : PySem.W.isFn K (.ref fSw) = true)
    (lW0 : K.lookup fSw = some ⟨ocW0, odW0, .func (PySem.W.fnX "__init__" "SwitchBuyer.__init__" (defArgs sSwI) (defBody sSwI) (defScope sSwI) [("__class__", ccW0)] .none kVW0 dcW0 pmW0 anW0 (.ref cdaW0) ctW0), slW0⟩)
    (cd_W0 : PySem.W.codeIn K (.ref cdaW0) "SwitchBuyer.__init__" = true)
    (kp_W0 : PySem.W.keepIn K (.ref fSw) = true)
    (scodeW0 : K.lookup cdaW0 = some ⟨scclW0, scddW0, .fields scvsW0, sccsW0⟩)
    (sfilW0 : scvsW0[2]? = some (.str scfileW0 sctfW0))
    (smainW0 : ((l.prog.main.file : Str) == scfileW0) = true)
    (scellW0 : K.lookup ccW0 = some ⟨sclvW0, scldW0, .cell (some (.ref DS)), scslW0⟩)
    (sclassW0 : PySem.W.clsIn K DS = some sclsW0)
    (smroW0 : PySem.W.mroIn K DS (.ref DS) = some true)
    (smethW0 : PySem.W.ks_superIn K DS DS "__init__" = some (some (.ref fBy)))
    (atVN : PySem.W.nsIn K mainGlobals "validate_numbers" = some (some (.ref fVN)))
    (lVN : K.lookup fVN = some ⟨ocVN, odVN, .func (PySem.W.fnOf "validate_numbers" "validate_numbers" (defArgs sVN) (defBody sVN) (defScope sVN) .none kVVN dcVN pmVN anVN cdVN ctVN), slVN⟩)
    (cd_VN : PySem.W.codeIn K cdVN "validate_numbers" = true)
    (kp_VN : PySem.W.keepIn K (.ref fVN) = true)
    (atVP : PySem.W.nsIn K mainGlobals "validate_pass" = some (some (.ref fVP)))
    (lVP : K.lookup fVP = some ⟨ocVP, odVP, .func (PySem.W.fnOf "validate_pass" "validate_pass" (defArgs sValid) (defBody sValid) (defScope sValid) .none kVVP dcVP pmVP anVP cdVP ctVP), slVP⟩)
    (cd_VP : PySem.W.codeIn K cdVP "validate_pass" = true)
    (kp_VP : PySem.W.keepIn K (.ref fVP) = true)
    (atVC : PySem.W.nsIn K mainGlobals "validate_count" = some (some (.ref fVC)))
    (lVC : K.lookup fVC = some ⟨ocVC, odVC, .func (PySem.W.fnOf "validate_count" "validate_count" (defArgs sVC) (defBody sVC) (defScope sVC) .none kVVC dcVC pmVC anVC cdVC ctVC), slVC⟩)
    (cd_VC : PySem.W.codeIn K cdVC "validate_count" = true)
    (kp_VC : PySem.W.keepIn K (.ref fVC) = true)
    (atFr : PySem.W.nsIn K mainGlobals "fraction" = some (some (.ref fFr)))
    (lFr : K.lookup fFr = some ⟨ocFr, odFr, .func (PySem.W.fnOf "fraction" "fraction" (defArgs sFr) (defBody sFr) (defScope sFr) .none kVFr dcFr pmFr anFr cdFr ctFr), slFr⟩)
    (cd_Fr : PySem.W.codeIn K cdFr "fraction" = true)
    (kp_Fr : PySem.W.keepIn K (.ref fFr) = true)
    (atSp : PySem.W.nsIn K mainGlobals "spend" = some (some (.ref fSp)))
    (lSp : K.lookup fSp = some ⟨ocSp, odSp, .func (PySem.W.fnOf "spend" "spend" (defArgs sSpd) (defBody sSpd) (defScope sSpd) .none kVSp dcSp pmSp anSp cdSp ctSp), slSp⟩)
    (cd_Sp : PySem.W.codeIn K cdSp "spend" = true)
    (kp_Sp : PySem.W.keepIn K (.ref fSp) = true)
    (atPu : PySem.W.nsIn K mainGlobals "purchases_of" = some (some (.ref fPu)))
    (lPu : K.lookup fPu = some ⟨ocPu, odPu, .func (PySem.W.fnOf "purchases_of" "purchases_of" (defArgs sPu) (defBody sPu) (defScope sPu) .none kVPu dcPu pmPu anPu cdPu ctPu), slPu⟩)
    (cd_Pu : PySem.W.codeIn K cdPu "purchases_of" = true)
    (kp_Pu : PySem.W.keepIn K (.ref fPu) = true)
    (atSr : PySem.W.nsIn K mainGlobals "spent_per_round" = some (some (.ref fSr)))
    (lSr : K.lookup fSr = some ⟨ocSr, odSr, .func (PySem.W.fnOf "spent_per_round" "spent_per_round" (defArgs sSr) (defBody sSr) (defScope sSr) .none kVSr dcSr pmSr anSr cdSr ctSr), slSr⟩)
    (cd_Sr : PySem.W.codeIn K cdSr "spent_per_round" = true)
    (kp_Sr : PySem.W.keepIn K (.ref fSr) = true)
    (atSt : PySem.W.nsIn K mainGlobals "_law_start" = some (some (.ref fSt)))
    (lSt : K.lookup fSt = some ⟨ocSt, odSt, .func (PySem.W.fnOf "_law_start" "_law_start" (defArgs sStart) (defBody sStart) (defScope sStart) .none kVSt dcSt pmSt anSt cdSt ctSt), slSt⟩)
    (cd_St : PySem.W.codeIn K cdSt "_law_start" = true)
    (kp_St : PySem.W.keepIn K (.ref fSt) = true)
    (atD : PySem.W.nsIn K mainGlobals "_law_drawn" = some (some (.ref fD)))
    (lD : K.lookup fD = some ⟨ocD, odD, .func (PySem.W.fnOf "_law_drawn" "_law_drawn" (defArgs sDrawn) (defBody sDrawn) (defScope sDrawn) .none kVD dcD pmD anD cdD ctD), slD⟩)
    (cd_D : PySem.W.codeIn K cdD "_law_drawn" = true)
    (kp_D : PySem.W.keepIn K (.ref fD) = true)
    (atSm : PySem.W.nsIn K mainGlobals "_law_same" = some (some (.ref fSm)))
    (lSm : K.lookup fSm = some ⟨ocSm, odSm, .func (PySem.W.fnOf "_law_same" "_law_same" (defArgs sSm) (defBody sSm) (defScope sSm) .none kVSm dcSm pmSm anSm cdSm ctSm), slSm⟩)
    (cd_Sm : PySem.W.codeIn K cdSm "_law_same" = true)
    (kp_Sm : PySem.W.keepIn K (.ref fSm) = true)
    (atOu : PySem.W.nsIn K mainGlobals "_law_outcome" = some (some (.ref fOu)))
    (lOu : K.lookup fOu = some ⟨ocOu, odOu, .func (PySem.W.fnOf "_law_outcome" "_law_outcome" (defArgs sOut) (defBody sOut) (defScope sOut) .none kVOu dcOu pmOu anOu cdOu ctOu), slOu⟩)
    (cd_Ou : PySem.W.codeIn K cdOu "_law_outcome" = true)
    (kp_Ou : PySem.W.keepIn K (.ref fOu) = true)
    (atPas : PySem.W.nsIn K mainGlobals "_law_passes" = some (some (.ref fPas)))
    (lPas : K.lookup fPas = some ⟨ocPas, odPas, .func (PySem.W.fnOf "_law_passes" "_law_passes" (defArgs sPas) (defBody sPas) (defScope sPas) .none kVPas dcPas pmPas anPas cdPas ctPas), slPas⟩)
    (cd_Pas : PySem.W.codeIn K cdPas "_law_passes" = true)
    (kp_Pas : PySem.W.keepIn K (.ref fPas) = true)
    (atTar : PySem.W.nsIn K mainGlobals "_law_tariff" = some (some (.ref fTar)))
    (lTar : K.lookup fTar = some ⟨ocTar, odTar, .func (PySem.W.fnOf "_law_tariff" "_law_tariff" (defArgs sTar) (defBody sTar) (defScope sTar) .none kVTar dcTar pmTar anTar cdTar ctTar), slTar⟩)
    (cd_Tar : PySem.W.codeIn K cdTar "_law_tariff" = true)
    (kp_Tar : PySem.W.keepIn K (.ref fTar) = true)
    (atDay : PySem.W.nsIn K mainGlobals "_law_days" = some (some (.ref fDay)))
    (lDay : K.lookup fDay = some ⟨ocDay, odDay, .func (PySem.W.fnOf "_law_days" "_law_days" (defArgs sDay) (defBody sDay) (defScope sDay) .none kVDay dcDay pmDay anDay cdDay ctDay), slDay⟩)
    (cd_Day : PySem.W.codeIn K cdDay "_law_days" = true)
    (kp_Day : PySem.W.keepIn K (.ref fDay) = true)
    (atHab : PySem.W.nsIn K mainGlobals "_law_habit" = some (some (.ref fHab)))
    (lHab : K.lookup fHab = some ⟨ocHab, odHab, .func (PySem.W.fnOf "_law_habit" "_law_habit" (defArgs sHab) (defBody sHab) (defScope sHab) .none kVHab dcHab pmHab anHab cdHab ctHab), slHab⟩)
    (cd_Hab : PySem.W.codeIn K cdHab "_law_habit" = true)
    (kp_Hab : PySem.W.keepIn K (.ref fHab) = true)
    (atBuy : PySem.W.nsIn K mainGlobals "_law_buyer" = some (some (.ref fBuy)))
    (lBuy : K.lookup fBuy = some ⟨ocBuy, odBuy, .func (PySem.W.fnOf "_law_buyer" "_law_buyer" (defArgs sBuy) (defBody sBuy) (defScope sBuy) .none kVBuy dcBuy pmBuy anBuy cdBuy ctBuy), slBuy⟩)
    (cd_Buy : PySem.W.codeIn K cdBuy "_law_buyer" = true)
    (kp_Buy : PySem.W.keepIn K (.ref fBuy) = true)
    (atCh : PySem.W.nsIn K mainGlobals "_law_chosen" = some (some (.ref fCh)))
    (lCh : K.lookup fCh = some ⟨ocCh, odCh, .func (PySem.W.fnOf "_law_chosen" "_law_chosen" (defArgs sCho) (defBody sCho) (defScope sCho) .none kVCh dcCh pmCh anCh cdCh ctCh), slCh⟩)
    (cd_Ch : PySem.W.codeIn K cdCh "_law_chosen" = true)
    (kp_Ch : PySem.W.keepIn K (.ref fCh) = true)
    (atSim : PySem.W.nsIn K mainGlobals "_law_simulated" = some (some (.ref fSim)))
    (lSim : K.lookup fSim = some ⟨ocSim, odSim, .func (PySem.W.fnOf "_law_simulated" "_law_simulated" (defArgs sSim) (defBody sSim) (defScope sSim) .none kVSim dcSim pmSim anSim cdSim ctSim), slSim⟩)
    (cd_Sim : PySem.W.codeIn K cdSim "_law_simulated" = true)
    (kp_Sim : PySem.W.keepIn K (.ref fSim) = true)
    (atLg : PySem.W.nsIn K mainGlobals "_law_is_long" = some (some (.ref fLg)))
    (lLg : K.lookup fLg = some ⟨ocLg, odLg, .func (PySem.W.fnOf "_law_is_long" "_law_is_long" (defArgs sLong) (defBody sLong) (defScope sLong) .none kVLg dcLg pmLg anLg cdLg ctLg), slLg⟩)
    (cd_Lg : PySem.W.codeIn K cdLg "_law_is_long" = true)
    (kp_Lg : PySem.W.keepIn K (.ref fLg) = true)
    (atRf : PySem.W.nsIn K mainGlobals "_law_refused" = some (some (.ref fRf)))
    (lRf : K.lookup fRf = some ⟨ocRf, odRf, .func (PySem.W.fnOf "_law_refused" "_law_refused" (defArgs sRf) (defBody sRf) (defScope sRf) .none kVRf dcRf pmRf anRf (.ref cR) ctRf), slRf⟩)
    (cd_Rf : PySem.W.codeIn K (.ref cR) "_law_refused" = true)
    (kp_Rf : PySem.W.keepIn K (.ref fRf) = true)
    (atLaw : PySem.W.nsIn K mainGlobals "law" = some (some (.ref fLaw)))
    (lLaw : K.lookup fLaw = some ⟨ocLaw, odLaw, .func (PySem.W.fnOf "law" "law" (defArgs sLaw) (defBody sLaw) (defScope sLaw) .none kVLaw dcLaw pmLaw anLaw (.ref cl) ctLaw), slLaw⟩)
    (cd_Law : PySem.W.codeIn K (.ref cl) "law" = true)
    (kp_Law : PySem.W.keepIn K (.ref fLaw) = true)
    (nT : K.lookup Pt = none)
    (hH : PySem.W.codeHdIn K cR Pt = true)
    : LawAtS l w K CX0 14 63 "_law_script" mg fa h := by
  have e := hfa.symm.trans (PySem.W.mg_of X Gn atLaw)
  cases e
  have oexI : OexC K cI := ⟨⟨_, _, _, _, _, _, _, _, _, _, _, _, _, _, _, xLI, xrvI⟩, xsaI, sI, yI, kpI⟩
  have oexV : OexC K cV := ⟨⟨_, _, _, _, _, _, _, _, _, _, _, _, _, _, _, xLV, xrvV⟩, xsaV, sV, yV, kpV⟩
  have nc : TNc K mg cN := { qN := qN, gN := PySem.W.mg_of X Gn aN, kN := kN, sN := sN, yN := yN }
  let G : Gd l.prog K mg := {
    C := C, CV := CV, DB := DB, DF := DF, DT := DT, DS := DS, S := S, cP := cP, cI := cI, cV := cV, cU := cU, cN := cN, fI := fI, fV := fV, fT := fT, fTv := fTv, fVN := fVN, fVP := fVP, fVC := fVC, fP := fP, pP := pP, fL := fL, pL := pL, fR := fR, pR := pR, fRl := fRl, pRl := pRl, fRd := fRd, pRd := pRd, fEx := fEx, pEx := pEx, fWx := fWx, fFx := fFx, fTn := fTn, fSw := fSw, fBy := fBy, fSI := fSI, fSd := fSd, fTa := fTa, fSp := fSp, fPu := fPu, fFr := fFr, fSr := fSr, fSt := fSt, fD := fD, fSm := fSm, fOu := fOu, fPas := fPas, fTar := fTar, fDay := fDay, fHab := fHab, fBuy := fBuy, fCh := fCh, fSim := fSim, fLg := fLg, fRf := fRf, eT := eT, Pt := Pt, pT1 := pBt, fT1 := fBt, fB1 := fBb, fC1 := fBcF, fG1 := fBg, pT2 := pBt, fT2 := fBt, fB2 := fBbT, fC2 := fBcT, fG2 := fBg, pT3 := pBt, fT3 := fBt, fB3 := fBb, fC3 := fBcW, fG3 := fBgW, mc := (.type "type"), mp := (.type "type"), md := (.type "type")
    dI := _, dV := _, dT := _, dTv := _, dVN := _, dVP := _, dVC := _, dP := _, dL := _, dR := _, dRl := _, dRd := _, dEx := _, dWx := _, dT1 := _, dB1 := _, dC1 := _, dG1 := _, dT2 := _, dB2 := _, dC2 := _, dG2 := _, dT3 := _, dB3 := _, dC3 := _, dG3 := _, dFx := _, dTn := _, dSw := _, dBy := _, dSI := _, dSd := _, dTa := _, dSp := _, dPu := _, dFr := _, dSr := _, dSt := _, dD := _, dSm := _, dOu := _, dPas := _, dTar := _, dDay := _, dHab := _, dBuy := _, dCh := _, dSim := _, dLg := _, dRf := _
    X := { cl := ⟨pgC, hdC, poC, saC⟩, no := nO, gC := PySem.W.mg_of X Gn aC, cr := ⟨rd, ga⟩, v1 := ⟨_, v0, ⟨_, rfl⟩⟩, v2 := ⟨_, v1, ⟨_, rfl⟩⟩, v3 := ⟨_, v2, ⟨_, rfl⟩⟩, mE := PySem.W.mg_none_of X Gn z_enumerate, mN := PySem.W.mg_none_of X Gn z_len, mT := PySem.W.mg_none_of X Gn z_tuple, xI := oexI, nI := nI_index, gI := PySem.W.mg_of X Gn aI, iI := iI, tI := tI, pI := ⟨PySem.W.mg_of X Gn aP, prd, pga, pat⟩, qU := qU, gU := PySem.W.mg_of X Gn aU, kU := kU, sU := sU, yU := yU }
    I := { mkf := ⟨mkC, atT, ifT, kpCC⟩, fT := fun_mk (st := sInit) lT cd_T kp_T, fI := fun_mk (st := sIT) lI cd_I kp_I }
    Q := { pr := ⟨atP, geP, taP, ⟨_, rcP⟩⟩, fu := fun_mk (st := sPasses) lP cd_P kp_P }
    LP := { pL := ⟨atL, geL, taL, ⟨_, rcL⟩⟩, uL := fun_mk (st := sLengths) lL cd_L kp_L, pR := ⟨atR, geR, taR, ⟨_, rcR⟩⟩, uR := fun_mk (st := sPrices) lR cd_R kp_R }
    EV := { xV := oexV, nP := nV_part, nI := nV_index, gV := PySem.W.mg_of X Gn aV, iV := iV, tV := tV, fu := fun_mk (st := sIV) lXV cd_XV kp_XV, pI := ⟨PySem.W.mg_of X Gn aP, prd, pga, pat⟩ }
    W := { cl := ⟨pgV, hdV, poV, saV⟩, nS := nA0, nP := nA1, nO := nA2, gC := PySem.W.mg_of X Gn aCV, mR := ⟨_, PySem.W.mg_of X Gn w0, ⟨_, rfl⟩⟩, mX := ⟨_, PySem.W.mg_of X Gn w1, ⟨_, rfl⟩⟩, mD := ⟨_, PySem.W.mg_of X Gn w2, ⟨_, rfl⟩⟩, mE := PySem.W.mg_none_of X Gn z_enumerate, gVN := PySem.W.mg_of X Gn atVN, kVN := kp_VN, uVN := fun_mk (st := sVN) lVN cd_VN kp_VN }
    mkV := ⟨mkV, atTv, ifTv, kpCV⟩, uTv := fun_mk (st := sTvI) lTv cd_Tv kp_Tv
    kTv := ⟨⟨_, _, _, _, _, _, _, _, _, _, rfl, lTv, cd_Tv, .inl ⟨rfl, rfl⟩, .inr ⟨kD, rfl, fun q hq => by
      rw [List.mem_singleton.mp hq]
      exact ⟨_, kx, rfl⟩⟩⟩, kp_Tv⟩
    eTv := ⟨_, _, eTl, rfl, rfl⟩
    R := { pL := ⟨atRl, geRl, taRl, ⟨_, rcRl⟩⟩, uL := fun_mk (st := sRl) lRl cd_Rl kp_Rl, pD := ⟨atRd, geRd, taRd, ⟨_, rcRd⟩⟩, uD := fun_mk (st := sRd) lRd cd_Rd kp_Rd, pE := ⟨atEx, geEx, taEx, ⟨_, rcEx⟩⟩, uE := fun_mk (st := sEx) lEx cd_Ex kp_Ex }
    mWx := ⟨atWx, ifWx, kp_Wx⟩, uWx := fun_mk (st := sWx) lWx cd_Wx kp_Wx
    DN := { g := PySem.W.mg_of X Gn atD, kp := kp_D, fu := fun_mk (st := sDrawn) lD cd_D kp_D, mN := PySem.W.mg_none_of X Gn z_len }
    VL := { gVP := PySem.W.mg_of X Gn atVP, kVP := kp_VP, uVP := fun_mk (st := sValid) lVP cd_VP kp_VP, gVC := PySem.W.mg_of X Gn atVC, kVC := kp_VC, uVC := fun_mk (st := sVC) lVC cd_VC kp_VC, nc := nc }
    NM := { cF := ⟨pgF, hdF, poF, saF⟩, cT := ⟨pgT, hdT, poT, saT⟩, cS := ⟨pgW, hdW, poW, saW⟩, fO := nB0, tO := nB1, sO := nB2, fF := nB3, tS := nB4, sS := nB5, sL := nB6, sM := nB7, mI := PySem.W.mg_none_of X Gn z_int }
    K1 := { pr := ⟨atBt, geBt, taBt, ⟨_, rcBt⟩⟩, uT := fun_mk (st := sByT) lBt cd_Bt kp_Bt, mB := ⟨atBb, ifBb, kp_Bb⟩, uB := fun_mk (st := sByB) lBb cd_Bb kp_Bb, mC := ⟨atBcF, ifBcF, kp_BcF⟩, uC := fun_mk (st := sFxC) lBcF cd_BcF kp_BcF, mG := ⟨atBg, ifBg, kp_Bg⟩, uG := fun_mk (st := sByG) lBg cd_Bg kp_Bg }
    K2 := { pr := ⟨atBtT, geBt, taBt, ⟨_, rcBt⟩⟩, uT := fun_mk (st := sByT) lBt cd_Bt kp_Bt, mB := ⟨atBbT, ifBbT, kp_BbT⟩, uB := fun_mk (st := sTnB) lBbT cd_BbT kp_BbT, mC := ⟨atBcT, ifBcT, kp_BcT⟩, uC := fun_mk (st := sTnC) lBcT cd_BcT kp_BcT, mG := ⟨atBgT, ifBgT, kp_Bg⟩, uG := fun_mk (st := sByG) lBg cd_Bg kp_Bg }
    K3 := { pr := ⟨atBtW, geBt, taBt, ⟨_, rcBt⟩⟩, uT := fun_mk (st := sByT) lBt cd_Bt kp_Bt, mB := ⟨atBbW, ifBbW, kp_Bb⟩, uB := fun_mk (st := sByB) lBb cd_Bb kp_Bb, mC := ⟨atBcW, ifBcW, kp_BcW⟩, uC := fun_mk (st := sSwC) lBcW cd_BcW kp_BcW, mG := ⟨atBgW, ifBgW, kp_BgW⟩, uG := fun_mk (st := sSwG) lBgW cd_BgW kp_BgW }
    MB := { mkF := ⟨mkF, atF0, ifF0, kpCF⟩, mkT := ⟨mkT, atT0, ifT0, kpCT⟩, mkS := ⟨mkW, atW0, ifW0, kpCW⟩, gF := PySem.W.mg_of X Gn aDF, gT := PySem.W.mg_of X Gn aDT, gS := PySem.W.mg_of X Gn aDS, uF := ⟨_, _, ⟨⟨_, _, _, _, _, _, _, _, rfl, lF0⟩, cd_F0, kp_F0⟩, ⟨⟨_, _, _, _, _, _, scodeF0, sfilF0, smainF0⟩, ⟨_, _, _, scellF0⟩, ⟨_, sclassF0⟩, smroF0, PySem.W.mg_none_of X Gn z_super, stop, sopq, smethF0, sty, sfi⟩⟩, uT := ⟨_, _, ⟨⟨_, _, _, _, _, _, _, _, rfl, lT0⟩, cd_T0, kp_T0⟩, ⟨⟨_, _, _, _, _, _, scodeT0, sfilT0, smainT0⟩, ⟨_, _, _, scellT0⟩, ⟨_, sclassT0⟩, smroT0, PySem.W.mg_none_of X Gn z_super, stop, sopq, smethT0, sty, sfi⟩⟩, uS := ⟨_, _, ⟨⟨_, _, _, _, _, _, _, _, rfl, lW0⟩, cd_W0, kp_W0⟩, ⟨⟨_, _, _, _, _, _, scodeW0, sfilW0, smainW0⟩, ⟨_, _, _, scellW0⟩, ⟨_, sclassW0⟩, smroW0, PySem.W.mg_none_of X Gn z_super, stop, sopq, smethW0, sty, sfi⟩⟩, uB := fun_mk (st := sByI) lBy cd_By kp_By, cr := ⟨rdW, gaW⟩, vM := ⟨_, vM, ⟨_, rfl⟩⟩ }
    SP := { cl := ⟨pgS, hdS, poS, saS⟩, nT := nS0, nB := nS1, nS := nS2, nP := nS3, nG := nS4, gS := PySem.W.mg_of X Gn aS, mI := PySem.W.mg_none_of X Gn z_int, mX := PySem.W.mg_none_of X Gn z_max }
    SD := { mkS := ⟨mkS, atSI, ifSI, kpCS⟩, uSI := fun_mk (st := sSpI) lSI cd_SI kp_SI, mSd := ⟨atSd, ifSd, kp_Sd⟩, uSd := fun_mk (st := sSd) lSd cd_Sd kp_Sd, mTa := ⟨atTa, ifTa, kp_Ta⟩, uTa := fun_mk (st := sTa) lTa cd_Ta kp_Ta, gVC := PySem.W.mg_of X Gn atVC, kVC := kp_VC, uVC := fun_mk (st := sVC) lVC cd_VC kp_VC, nc := nc, mD := ⟨_, PySem.W.mg_of X Gn w2, ⟨_, rfl⟩⟩ }
    PU := { mY := ⟨_, PySem.W.mg_of X Gn w3, ⟨_, rfl⟩⟩, mM := PySem.W.mg_none_of X Gn z_min, mR := PySem.W.mg_none_of X Gn z_range }
    FR := { gFr := PySem.W.mg_of X Gn atFr, kFr := kp_Fr, uFr := fun_mk (st := sFr) lFr cd_Fr kp_Fr }
    OU := { gN := PySem.W.mg_of X Gn aN, NN := xNN, VN := xVN, UN := xUN, gV := PySem.W.mg_of X Gn aV, gU := PySem.W.mg_of X Gn aU, fV := ⟨egV, ekV, sV, ehV⟩, nV := nV_index, pV := nV_part, VV := xVV, UV := xUV, UU := xUU }
    CH := { w := { mN := PySem.W.mg_none_of X Gn z_len, mR := PySem.W.mg_none_of X Gn z_range, mX := PySem.W.mg_none_of X Gn z_max, mI := PySem.W.mg_none_of X Gn z_int }, gLg := PySem.W.mg_of X Gn atLg, kLg := kp_Lg, uLg := fun_mk (st := sLong) lLg cd_Lg kp_Lg, gCh := PySem.W.mg_of X Gn atCh, kCh := kp_Ch, uCh := fun_mk (st := sCho) lCh cd_Ch kp_Ch }
    SM := { g := PySem.W.mg_of X Gn atSm, kp := kp_Sm, fu := fun_mk (st := sSm) lSm cd_Sm kp_Sm, mI := PySem.W.mg_none_of X Gn z_isinstance, mN := PySem.W.mg_none_of X Gn z_len, mR := PySem.W.mg_none_of X Gn z_range, m_list := PySem.W.mg_none_of X Gn z_list, m_tuple := PySem.W.mg_none_of X Gn z_tuple, m_int := PySem.W.mg_none_of X Gn z_int, m_bool := PySem.W.mg_none_of X Gn z_bool }
    nsN := nsN, nsV := nsV
    gSp := PySem.W.mg_of X Gn atSp, kSp := kp_Sp, uSp := fun_mk (st := sSpd) lSp cd_Sp kp_Sp
    gPu := PySem.W.mg_of X Gn atPu, kPu := kp_Pu, uPu := fun_mk (st := sPu) lPu cd_Pu kp_Pu
    gSr := PySem.W.mg_of X Gn atSr, kSr := kp_Sr, uSr := fun_mk (st := sSr) lSr cd_Sr kp_Sr
    gSt := PySem.W.mg_of X Gn atSt, kSt := kp_St, uSt := fun_mk (st := sStart) lSt cd_St kp_St
    gOu := PySem.W.mg_of X Gn atOu, kOu := kp_Ou, uOu := fun_mk (st := sOut) lOu cd_Ou kp_Ou
    gPas := PySem.W.mg_of X Gn atPas, kPas := kp_Pas, uPas := fun_mk (st := sPas) lPas cd_Pas kp_Pas
    gTar := PySem.W.mg_of X Gn atTar, kTar := kp_Tar, uTar := fun_mk (st := sTar) lTar cd_Tar kp_Tar
    gDay := PySem.W.mg_of X Gn atDay, kDay := kp_Day, uDay := fun_mk (st := sDay) lDay cd_Day kp_Day
    gHab := PySem.W.mg_of X Gn atHab, kHab := kp_Hab, uHab := fun_mk (st := sHab) lHab cd_Hab kp_Hab
    gBuy := PySem.W.mg_of X Gn atBuy, kBuy := kp_Buy, uBuy := fun_mk (st := sBuy) lBuy cd_Buy kp_Buy
    gSim := PySem.W.mg_of X Gn atSim, kSim := kp_Sim, uSim := fun_mk (st := sSim) lSim cd_Sim kp_Sim
    gRf := PySem.W.mg_of X Gn atRf, kRf := kp_Rf, uRf := fun_mk (st := sRf) lRf cd_Rf kp_Rf
    m_range := PySem.W.mg_none_of X Gn z_range, m_tuple := PySem.W.mg_none_of X Gn z_tuple, m_sorted := PySem.W.mg_none_of X Gn z_sorted, m_list := PySem.W.mg_none_of X Gn z_list, m_len := PySem.W.mg_none_of X Gn z_len }
  have W : Gl4 l.prog K mg G (.type "type") (.type "type") (.type "type") (.type "type") := { wB := ⟨PySem.W.mg_of X Gn aDB, ⟨rdB, gaB⟩, ⟨_, kcB, ⟨_, rfl⟩⟩⟩, wF := ⟨PySem.W.mg_of X Gn aDF, ⟨rdF, gaF⟩, ⟨_, kcF, ⟨_, rfl⟩⟩⟩, wT := ⟨PySem.W.mg_of X Gn aDT, ⟨rdT, gaT⟩, ⟨_, kcT, ⟨_, rfl⟩⟩⟩, wS := ⟨PySem.W.mg_of X Gn aDS, ⟨rdW, gaW⟩, ⟨_, kcW, ⟨_, rfl⟩⟩⟩, iF := ⟨⟨pgF, hdF, poF, saF⟩, ⟨_, kiF, ⟨_, rfl⟩, kgF, by decide +kernel⟩, ecF, ecn, ect, emF, ebF⟩, iT := ⟨⟨pgT, hdT, poT, saT⟩, ⟨_, kiT, ⟨_, rfl⟩, kgT, by decide +kernel⟩, ecT, ecn, ect, emT, ebT⟩, iS := ⟨⟨pgW, hdW, poW, saW⟩, ⟨_, kiW, ⟨_, rfl⟩, kgW, by decide +kernel⟩, ecW, ecn, ect, emW, ebW⟩, mI := PySem.W.mg_none_of X Gn z_isinstance }
  refine ⟨_, [(cR, Pt)], spLaw K Pt, fun p hp => ?_, fun p hp => ?_, fun p hp => ?_, fun s v => .of_eq rfl, fun H a ns hl _ hH hS => ⟨a, ns, rfl, hS, hl, hH (cR, Pt) (List.Mem.head _), fun _ => rfl⟩, fun base _ _ hB => ok_law (P := l.prog) (w := w) (base := base) G W (ok_rf G lRf cd_Rf (hB (cR, Pt) (List.Mem.head _))) lLaw cd_Law⟩
  · rw [List.mem_singleton.mp hp]
    exact hT
  · rw [List.mem_singleton.mp hp]
    exact nT
  · rw [List.mem_singleton.mp hp]
    exact PySem.W.codeHd_of_K X hH
end Sea

open PySem PySem.W PyProof.Rows in
set_option maxRecDepth 100000 in
set_option maxHeartbeats 0 in
theorem PySem.Challenge.cw_seasonpass_k41_whole_buyers_day_by_day_holds : PySem.Challenge.rw_seasonpass_k41_whole_buyers_day_by_day.Holds := by
  w_on; o_law; k_head; (case hw => w_witness2)
  k_fill
  refine LamX.walk_ofTs (l := PySem.Challenge.rw_seasonpass_k41_whole_buyers_day_by_day) (n := 63) (k := 14) (x := "_law_script") (CX := fun _ => L2.CX0) rfl (by decide) rfl ⟨rfl, by decide, by decide⟩ (fun w h Y => PySem.W.km_in_of Y) ?F (fun _ _ _ _ _ z => z)
  case F =>
    intro w mg fa h Y KX G hmg
    refine' Sea.all_mk KX G hmg ?hT ?aC ?aCV ?aDB ?aDF ?aDT ?aDS ?aS ?aP ?aI ?aV ?aU ?aN ?z_enumerate ?z_len ?z_tuple ?z_int ?z_range ?z_max ?z_min ?z_isinstance ?z_list ?z_bool ?z_sorted ?z_super ?pgC ?hdC ?poC ?saC ?mkC ?kpCC ?pgV ?hdV ?poV ?saV ?mkV ?kpCV ?pgF ?hdF ?poF ?saF ?mkF ?kpCF ?pgT ?hdT ?poT ?saT ?mkT ?kpCT ?pgW ?hdW ?poW ?saW ?mkW ?kpCW ?pgS ?hdS ?poS ?saS ?mkS ?kpCS ?nO ?rd ?ga ?rdB ?gaB ?rdF ?gaF ?rdT ?gaT ?rdW ?gaW ?v0 ?v1 ?v2 ?vM ?kcB ?kcF ?kcT ?kcW ?kiF ?kgF ?ecF ?emF ?ebF ?kiT ?kgT ?ecT ?emT ?ebT ?kiW ?kgW ?ecW ?emW ?ebW ?ecn ?ect ?nA0 ?nA1 ?nA2 ?nB0 ?nB1 ?nB2 ?nB3 ?nB4 ?nB5 ?nB6 ?nB7 ?nS0 ?nS1 ?nS2 ?nS3 ?nS4 ?w0 ?w1 ?w2 ?w3 ?xLI ?xrvI ?xsaI ?sI ?yI ?kpI ?nI_index ?iI ?tI ?egI ?ekI ?ehI ?xLV ?xrvV ?xsaV ?sV ?yV ?kpV ?nV_part ?nV_index ?iV ?tV ?egV ?ekV ?ehV ?prd ?pga ?pat ?qU ?kU ?sU ?yU ?qN ?kN ?sN ?yN ?xNN ?xVN ?xUN ?xVV ?xUV ?xUU ?nsN ?nsV ?atT ?ifT ?lT ?cd_T ?kp_T ?lI ?cd_I ?kp_I ?lXV ?cd_XV ?kp_XV ?atP ?geP ?taP ?rcP ?lP ?cd_P ?kp_P ?atL ?geL ?taL ?rcL ?lL ?cd_L ?kp_L ?atR ?geR ?taR ?rcR ?lR ?cd_R ?kp_R ?atTv ?ifTv ?lTv ?cd_Tv ?kp_Tv ?kx ?eTl ?atRl ?geRl ?taRl ?rcRl ?lRl ?cd_Rl ?kp_Rl ?atRd ?geRd ?taRd ?rcRd ?lRd ?cd_Rd ?kp_Rd ?atEx ?geEx ?taEx ?rcEx ?lEx ?cd_Ex ?kp_Ex ?atWx ?ifWx ?lWx ?cd_Wx ?kp_Wx ?atBt ?geBt ?taBt ?rcBt ?lBt ?cd_Bt ?kp_Bt ?atBtT ?atBtW ?atBb ?ifBb ?lBb ?cd_Bb ?kp_Bb ?atBbW ?ifBbW ?atBbT ?ifBbT ?lBbT ?cd_BbT ?kp_BbT ?atBcF ?ifBcF ?lBcF ?cd_BcF ?kp_BcF ?atBcT ?ifBcT ?lBcT ?cd_BcT ?kp_BcT ?atBcW ?ifBcW ?lBcW ?cd_BcW ?kp_BcW ?atBg ?ifBg ?lBg ?cd_Bg ?kp_Bg ?atBgT ?ifBgT ?atBgW ?ifBgW ?lBgW ?cd_BgW ?kp_BgW ?atSI ?ifSI ?lSI ?cd_SI ?kp_SI ?atSd ?ifSd ?lSd ?cd_Sd ?kp_Sd ?atTa ?ifTa ?lTa ?cd_Ta ?kp_Ta ?atBy ?lBy ?cd_By ?kp_By ?stop ?sopq ?sty ?sfi ?atF0 ?ifF0 ?lF0 ?cd_F0 ?kp_F0 ?scodeF0 ?sfilF0 ?smainF0 ?scellF0 ?sclassF0 ?smroF0 ?smethF0 ?atT0 ?ifT0 ?lT0 ?cd_T0 ?kp_T0 ?scodeT0 ?sfilT0 ?smainT0 ?scellT0 ?sclassT0 ?smroT0 ?smethT0 ?atW0 ?ifW0 ?lW0 ?cd_W0 ?kp_W0 ?scodeW0 ?sfilW0 ?smainW0 ?scellW0 ?sclassW0 ?smroW0 ?smethW0 ?atVN ?lVN ?cd_VN ?kp_VN ?atVP ?lVP ?cd_VP ?kp_VP ?atVC ?lVC ?cd_VC ?kp_VC ?atFr ?lFr ?cd_Fr ?kp_Fr ?atSp ?lSp ?cd_Sp ?kp_Sp ?atPu ?lPu ?cd_Pu ?kp_Pu ?atSr ?lSr ?cd_Sr ?kp_Sr ?atSt ?lSt ?cd_St ?kp_St ?atD ?lD ?cd_D ?kp_D ?atSm ?lSm ?cd_Sm ?kp_Sm ?atOu ?lOu ?cd_Ou ?kp_Ou ?atPas ?lPas ?cd_Pas ?kp_Pas ?atTar ?lTar ?cd_Tar ?kp_Tar ?atDay ?lDay ?cd_Day ?kp_Day ?atHab ?lHab ?cd_Hab ?kp_Hab ?atBuy ?lBuy ?cd_Buy ?kp_Buy ?atCh ?lCh ?cd_Ch ?kp_Ch ?atSim ?lSim ?cd_Sim ?kp_Sim ?atLg ?lLg ?cd_Lg ?kp_Lg ?atRf ?lRf ?cd_Rf ?kp_Rf ?atLaw ?lLaw ?cd_Law ?kp_Law ?nT ?hH
    (case hT => exact PySem.W.km_tabs_of Y _ (List.Mem.head _))
    (case aC => k_is)
    (case aCV => k_is)
    (case aDB => k_is)
    (case aDF => k_is)
    (case aDT => k_is)
    (case aDS => k_is)
    (case aS => k_is)
    (case aP => k_is)
    (case aI => k_is)
    (case aV => k_is)
    (case aU => k_is)
    (case aN => k_is)
    (case z_enumerate => k_is)
    (case z_len => k_is)
    (case z_tuple => k_is)
    (case z_int => k_is)
    (case z_range => k_is)
    (case z_max => k_is)
    (case z_min => k_is)
    (case z_isinstance => k_is)
    (case z_list => k_is)
    (case z_bool => k_is)
    (case z_sorted => k_is)
    (case z_super => k_is)
    (case pgC => k_is)
    (case hdC => k_is)
    (case poC => k_is)
    (case saC => k_is)
    (case mkC => k_is)
    (case kpCC => k_is)
    (case pgV => k_is)
    (case hdV => k_is)
    (case poV => k_is)
    (case saV => k_is)
    (case mkV => k_is)
    (case kpCV => k_is)
    (case pgF => k_is)
    (case hdF => k_is)
    (case poF => k_is)
    (case saF => k_is)
    (case mkF => k_is)
    (case kpCF => k_is)
    (case pgT => k_is)
    (case hdT => k_is)
    (case poT => k_is)
    (case saT => k_is)
    (case mkT => k_is)
    (case kpCT => k_is)
    (case pgW => k_is)
    (case hdW => k_is)
    (case poW => k_is)
    (case saW => k_is)
    (case mkW => k_is)
    (case kpCW => k_is)
    (case pgS => k_is)
    (case hdS => k_is)
    (case poS => k_is)
    (case saS => k_is)
    (case mkS => k_is)
    (case kpCS => k_is)
    (case nO => k_is)
    (case rd => k_is)
    (case ga => k_is)
    (case rdB => k_is)
    (case gaB => k_is)
    (case rdF => k_is)
    (case gaF => k_is)
    (case rdT => k_is)
    (case gaT => k_is)
    (case rdW => k_is)
    (case gaW => k_is)
    (case v0 => k_is)
    (case v1 => k_is)
    (case v2 => k_is)
    (case vM => k_is)
    (case kcB => k_is)
    (case kcF => k_is)
    (case kcT => k_is)
    (case kcW => k_is)
    (case kiF => k_is)
    (case kgF => first | k_is | kernel_rfl | rfl | decide +kernel)
    (case ecF => k_is)
    (case emF => k_is)
    (case ebF => first | k_is | kernel_rfl | rfl | decide +kernel)
    (case kiT => k_is)
    (case kgT => first | k_is | kernel_rfl | rfl | decide +kernel)
    (case ecT => k_is)
    (case emT => k_is)
    (case ebT => first | k_is | kernel_rfl | rfl | decide +kernel)
    (case kiW => k_is)
    (case kgW => first | k_is | kernel_rfl | rfl | decide +kernel)
    (case ecW => k_is)
    (case emW => k_is)
    (case ebW => first | k_is | kernel_rfl | rfl | decide +kernel)
    (case ecn => k_is)
    (case ect => k_is)
    (case nA0 => k_is)
    (case nA1 => k_is)
    (case nA2 => k_is)
    (case nB0 => k_is)
    (case nB1 => k_is)
    (case nB2 => k_is)
    (case nB3 => k_is)
    (case nB4 => k_is)
    (case nB5 => k_is)
    (case nB6 => k_is)
    (case nB7 => k_is)
    (case nS0 => k_is)
    (case nS1 => k_is)
    (case nS2 => k_is)
    (case nS3 => k_is)
    (case nS4 => k_is)
    (case w0 => k_is)
    (case w1 => k_is)
    (case w2 => k_is)
    (case w3 => k_is)
    (case xLI => k_is)
    (case xrvI => first | rfl | decide +kernel)
    (case xsaI => k_is)
    (case sI => k_is)
    (case yI => k_is)
    (case kpI => k_is)
    (case nI_index => k_is)
    (case iI => k_is)
    (case tI => k_is)
    (case egI => k_is)
    (case ekI => k_is)
    (case ehI => k_is)
    (case xLV => k_is)
    (case xrvV => first | rfl | decide +kernel)
    (case xsaV => k_is)
    (case sV => k_is)
    (case yV => k_is)
    (case kpV => k_is)
    (case nV_part => k_is)
    (case nV_index => k_is)
    (case iV => k_is)
    (case tV => k_is)
    (case egV => k_is)
    (case ekV => k_is)
    (case ehV => k_is)
    (case prd => k_is)
    (case pga => k_is)
    (case pat => k_is)
    (case qU => first | k_is | kernel_rfl | rfl)
    (case kU => k_is)
    (case sU => k_is)
    (case yU => k_is)
    (case qN => first | k_is | kernel_rfl | rfl)
    (case kN => k_is)
    (case sN => k_is)
    (case yN => k_is)
    (case xNN => first | k_is | kernel_rfl | rfl | decide +kernel)
    (case xVN => first | k_is | kernel_rfl | rfl | decide +kernel)
    (case xUN => first | k_is | kernel_rfl | rfl | decide +kernel)
    (case xVV => first | k_is | kernel_rfl | rfl | decide +kernel)
    (case xUV => first | k_is | kernel_rfl | rfl | decide +kernel)
    (case xUU => first | k_is | kernel_rfl | rfl | decide +kernel)
    (case nsN => first | k_is | kernel_rfl | rfl | decide +kernel)
    (case nsV => first | k_is | kernel_rfl | rfl | decide +kernel)
    (case atT => k_is)
    (case ifT => k_is)
    (case lT => k_is)
    (case cd_T => k_is)
    (case kp_T => k_is)
    (case lI => k_is)
    (case cd_I => k_is)
    (case kp_I => k_is)
    (case lXV => k_is)
    (case cd_XV => k_is)
    (case kp_XV => k_is)
    (case atP => k_is)
    (case geP => k_is)
    (case taP => k_is)
    (case rcP => k_is)
    (case lP => k_is)
    (case cd_P => k_is)
    (case kp_P => k_is)
    (case atL => k_is)
    (case geL => k_is)
    (case taL => k_is)
    (case rcL => k_is)
    (case lL => k_is)
    (case cd_L => k_is)
    (case kp_L => k_is)
    (case atR => k_is)
    (case geR => k_is)
    (case taR => k_is)
    (case rcR => k_is)
    (case lR => k_is)
    (case cd_R => k_is)
    (case kp_R => k_is)
    (case atTv => k_is)
    (case ifTv => k_is)
    (case lTv => k_is)
    (case cd_Tv => k_is)
    (case kp_Tv => k_is)
    (case kx => first | k_is | kernel_rfl | rfl | decide +kernel)
    (case eTl => first | k_is | kernel_rfl | rfl | decide +kernel)
    (case atRl => k_is)
    (case geRl => k_is)
    (case taRl => k_is)
    (case rcRl => k_is)
    (case lRl => k_is)
    (case cd_Rl => k_is)
    (case kp_Rl => k_is)
    (case atRd => k_is)
    (case geRd => k_is)
    (case taRd => k_is)
    (case rcRd => k_is)
    (case lRd => k_is)
    (case cd_Rd => k_is)
    (case kp_Rd => k_is)
    (case atEx => k_is)
    (case geEx => k_is)
    (case taEx => k_is)
    (case rcEx => k_is)
    (case lEx => k_is)
    (case cd_Ex => k_is)
    (case kp_Ex => k_is)
    (case atWx => k_is)
    (case ifWx => k_is)
    (case lWx => k_is)
    (case cd_Wx => k_is)
    (case kp_Wx => k_is)
    (case atBt => k_is)
    (case geBt => k_is)
    (case taBt => k_is)
    (case rcBt => k_is)
    (case lBt => k_is)
    (case cd_Bt => k_is)
    (case kp_Bt => k_is)
    (case atBtT => k_is)
    (case atBtW => k_is)
    (case atBb => k_is)
    (case ifBb => k_is)
    (case lBb => k_is)
    (case cd_Bb => k_is)
    (case kp_Bb => k_is)
    (case atBbW => k_is)
    (case ifBbW => k_is)
    (case atBbT => k_is)
    (case ifBbT => k_is)
    (case lBbT => k_is)
    (case cd_BbT => k_is)
    (case kp_BbT => k_is)
    (case atBcF => k_is)
    (case ifBcF => k_is)
    (case lBcF => k_is)
    (case cd_BcF => k_is)
    (case kp_BcF => k_is)
    (case atBcT => k_is)
    (case ifBcT => k_is)
    (case lBcT => k_is)
    (case cd_BcT => k_is)
    (case kp_BcT => k_is)
    (case atBcW => k_is)
    (case ifBcW => k_is)
    (case lBcW => k_is)
    (case cd_BcW => k_is)
    (case kp_BcW => k_is)
    (case atBg => k_is)
    (case ifBg => k_is)
    (case lBg => k_is)
    (case cd_Bg => k_is)
    (case kp_Bg => k_is)
    (case atBgT => k_is)
    (case ifBgT => k_is)
    (case atBgW => k_is)
    (case ifBgW => k_is)
    (case lBgW => k_is)
    (case cd_BgW => k_is)
    (case kp_BgW => k_is)
    (case atSI => k_is)
    (case ifSI => k_is)
    (case lSI => k_is)
    (case cd_SI => k_is)
    (case kp_SI => k_is)
    (case atSd => k_is)
    (case ifSd => k_is)
    (case lSd => k_is)
    (case cd_Sd => k_is)
    (case kp_Sd => k_is)
    (case atTa => k_is)
    (case ifTa => k_is)
    (case lTa => k_is)
    (case cd_Ta => k_is)
    (case kp_Ta => k_is)
    (case atBy => k_is)
    (case lBy => k_is)
    (case cd_By => k_is)
    (case kp_By => k_is)
    (case stop => first | rfl | kernel_rfl | decide +kernel)
    (case sopq => first | k_is | kernel_rfl | rfl | decide +kernel)
    (case sty => first | k_is | kernel_rfl | rfl | decide +kernel)
    (case sfi => first | k_is | kernel_rfl | rfl | decide +kernel)
    (case atF0 => k_is)
    (case ifF0 => k_is)
    (case lF0 => k_is)
    (case cd_F0 => k_is)
    (case kp_F0 => k_is)
    (case scodeF0 => first | k_is | kernel_rfl | rfl | decide +kernel)
    (case sfilF0 => first | rfl | kernel_rfl | decide +kernel)
    (case smainF0 => first | rfl | kernel_rfl | decide +kernel)
    (case scellF0 => first | k_is | kernel_rfl | rfl | decide +kernel)
    (case sclassF0 => first | k_is | kernel_rfl | rfl | decide +kernel)
    (case smroF0 => first | k_is | kernel_rfl | rfl | decide +kernel)
    (case smethF0 => first | k_is | kernel_rfl | rfl | decide +kernel)
    (case atT0 => k_is)
    (case ifT0 => k_is)
    (case lT0 => k_is)
    (case cd_T0 => k_is)
    (case kp_T0 => k_is)
    (case scodeT0 => first | k_is | kernel_rfl | rfl | decide +kernel)
    (case sfilT0 => first | rfl | kernel_rfl | decide +kernel)
    (case smainT0 => first | rfl | kernel_rfl | decide +kernel)
    (case scellT0 => first | k_is | kernel_rfl | rfl | decide +kernel)
    (case sclassT0 => first | k_is | kernel_rfl | rfl | decide +kernel)
    (case smroT0 => first | k_is | kernel_rfl | rfl | decide +kernel)
    (case smethT0 => first | k_is | kernel_rfl | rfl | decide +kernel)
    (case atW0 => k_is)
    (case ifW0 => k_is)
    (case lW0 => k_is)
    (case cd_W0 => k_is)
    (case kp_W0 => k_is)
    (case scodeW0 => first | k_is | kernel_rfl | rfl | decide +kernel)
    (case sfilW0 => first | rfl | kernel_rfl | decide +kernel)
    (case smainW0 => first | rfl | kernel_rfl | decide +kernel)
    (case scellW0 => first | k_is | kernel_rfl | rfl | decide +kernel)
    (case sclassW0 => first | k_is | kernel_rfl | rfl | decide +kernel)
    (case smroW0 => first | k_is | kernel_rfl | rfl | decide +kernel)
    (case smethW0 => first | k_is | kernel_rfl | rfl | decide +kernel)
    (case atVN => k_is)
    (case lVN => k_is)
    (case cd_VN => k_is)
    (case kp_VN => k_is)
    (case atVP => k_is)
    (case lVP => k_is)
    (case cd_VP => k_is)
    (case kp_VP => k_is)
    (case atVC => k_is)
    (case lVC => k_is)
    (case cd_VC => k_is)
    (case kp_VC => k_is)
    (case atFr => k_is)
    (case lFr => k_is)
    (case cd_Fr => k_is)
    (case kp_Fr => k_is)
    (case atSp => k_is)
    (case lSp => k_is)
    (case cd_Sp => k_is)
    (case kp_Sp => k_is)
    (case atPu => k_is)
    (case lPu => k_is)
    (case cd_Pu => k_is)
    (case kp_Pu => k_is)
    (case atSr => k_is)
    (case lSr => k_is)
    (case cd_Sr => k_is)
    (case kp_Sr => k_is)
    (case atSt => k_is)
    (case lSt => k_is)
    (case cd_St => k_is)
    (case kp_St => k_is)
    (case atD => k_is)
    (case lD => k_is)
    (case cd_D => k_is)
    (case kp_D => k_is)
    (case atSm => k_is)
    (case lSm => k_is)
    (case cd_Sm => k_is)
    (case kp_Sm => k_is)
    (case atOu => k_is)
    (case lOu => k_is)
    (case cd_Ou => k_is)
    (case kp_Ou => k_is)
    (case atPas => k_is)
    (case lPas => k_is)
    (case cd_Pas => k_is)
    (case kp_Pas => k_is)
    (case atTar => k_is)
    (case lTar => k_is)
    (case cd_Tar => k_is)
    (case kp_Tar => k_is)
    (case atDay => k_is)
    (case lDay => k_is)
    (case cd_Day => k_is)
    (case kp_Day => k_is)
    (case atHab => k_is)
    (case lHab => k_is)
    (case cd_Hab => k_is)
    (case kp_Hab => k_is)
    (case atBuy => k_is)
    (case lBuy => k_is)
    (case cd_Buy => k_is)
    (case kp_Buy => k_is)
    (case atCh => k_is)
    (case lCh => k_is)
    (case cd_Ch => k_is)
    (case kp_Ch => k_is)
    (case atSim => k_is)
    (case lSim => k_is)
    (case cd_Sim => k_is)
    (case kp_Sim => k_is)
    (case atLg => k_is)
    (case lLg => k_is)
    (case cd_Lg => k_is)
    (case kp_Lg => k_is)
    (case atRf => k_is)
    (case lRf => k_is)
    (case cd_Rf => k_is)
    (case kp_Rf => k_is)
    (case atLaw => k_is)
    (case lLaw => k_is)
    (case cd_Law => k_is)
    (case kp_Law => k_is)
    (case nT => first | rfl | kernel_rfl)
    (case hH => first | kernel_rfl | rfl)
#print axioms PySem.Challenge.cw_seasonpass_k41_whole_buyers_day_by_day_holds

