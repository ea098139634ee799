import PyProof.Rows.All
import Wide.All
import OpenK.AllK
import Wide.FinOn
import HandS.ForMost
import HandS.ForExc
import HandS.Nested
import HandS.Star
import HandS.Property
import HandS.ClsMeth
import HandS.Defaults
import HandS.ExcInit
import HandS.MakeKwOnly
import HandS.IsInst
import HandS.Wide
import HandS.EndTab
import KE.GoesMore
import KE.GoesComp
import KE.GoesEnum
import HandS.ExcIs
import HandS.TryMany
import KE.KExcIs
import HandS.Evl
import HandS.ExcField
import HandS.TupAny
import KE.KUnpackStar
import HandS.Text
import HandS.Walk
import KE.IntTextLaws
import HandS.Style
import HandS.SetFor
import HandS.Strs
import HandS.SortInts
import PyProof.ListNew
import PyProof.TupleOfSeq
import PyProof.Rows.FactsTup
import PyProof.Rows.SortShellAny
import HandS.Conv
import HandS.EndOwn
import KE.KNestM
import PySem.Challenge.RW_seasonpass_k46_texts_round_trip
set_option Elab.async false
set_option linter.all false
set_option maxRecDepth 100000
set_option maxHeartbeats 4000000
/-! lambdas as tracked objects, called from anywhere -/
namespace Sea
open PySem PySem.Spec PyProof.Rows L2 LamX NdefX

/-- the words of a lambda, what it captured, its code object, its defaults -/
structure LF where
  qual : Str
  params : Arguments
  body : Expr
  scope : Scope
  cl : List (Str × Addr)
  c : Addr
  dV : Value
abbrev LF.fd (F : LF) (doc pm ctv : Value) : FuncData :=
  PySem.W.kdv_fn "<lambda>" F.qual F.params (.expr F.body) F.scope F.cl F.dV doc pm (.ref F.c) ctv
/-- what a lambda's object is: a function object with the words F, whatever its text, module and annotations are -/
inductive LamAs (F : LF) : Obj → Prop
  | mk (od : Option Addr) (sl : Array (Option Value)) (doc pm ctv : Value) : LamAs F ⟨.type "function", od, .func (F.fd doc pm ctv), sl⟩
/-- at f stands an object of which R holds -/
def Stands (R : Obj → Prop) (f : Addr) : HO := .ext fun h => ∃ o, R o ∧ h.get? f = some o
theorem Stands.ok {P : Program} {w : World} {H : Hp} {h : Heap} {f : Addr} {R : Obj → Prop} {o : Obj} (r : R o) (e : h.get? f = some o) : ObjOk P w H h f (Stands R f) :=
  ⟨⟨o, r, e⟩, ⟨o, e⟩, fun _ _ ⟨o, r, e⟩ stays => ⟨o, r, stays o e⟩⟩
theorem Stands.no_tbl {R : Obj → Prop} {f : Addr} (ps : Array Value) : Stands R f ≠ .tbl ps := nofun
theorem Stands.no_tup {R : Obj → Prop} {f : Addr} (xs : List V) : Stands R f ≠ .tup xs := nofun
/-- a new object is laid at the heap's end -/
theorem Stands.laid {X : Cx} {pins : List (Addr × Obj)} {σ : L2.St} {H : Hp} {s : Shared} {R : Obj → Prop} {o : Obj} {t : Nat} (I : Inv X pins σ H s) (r : R o) (nf : o.isFreed = false) :
    Inv X pins σ (upd H s.heap.objs.size (Stands R s.heap.objs.size)) { s with heap := s.heap.push o, toks := t } :=
  I.laid (fun _ _ e => Heap.get?_push_of_some _ e) (Nat.le_refl _) (Stands.ok r (Heap.get?_push_size _ nf))
abbrev LamO (f : Addr) (F : LF) : HO := Stands (LamAs F) f
theorem lamO_at {P : Program} {w : World} {H : Hp} {h : Heap} {f : Addr} {F : LF} (hok : HOk P w H h) (e : H f = some (LamO f F)) : ∃ o, LamAs F o ∧ h.get? f = some o :=
  (hok f _ e).1
theorem tabs_keep {T : List (Addr × Str)} {H : Hp} {a : Addr} {o : HO} (hT : Tabs T H) (n : H a = none) : Tabs T (upd H a o) :=
  hT.ext fun b u e => by rw [upd_ne (ne_of_none e n), e]
theorem extN_new {H : Hp} {a : Addr} {o : HO} (n : H a = none) : ExtN H (upd H a o) := .of fun b u e => by rw [upd_ne (ne_of_none e n), e]
theorem extN_tbl {H : Hp} {P : Addr} {ps qs : Array Value} (at_ : H P = some (.tbl ps)) : ExtN H (upd H P (.tbl qs)) := fun b o e n => (upd_ne fun z => n ps (by
  rw [z, at_] at e
  exact (Option.some.inj e).symm)).trans e
/-- all that a table's row tells bears the name q -/
def Told (H : Hp) (q : Str) (row : List Value) : Prop := ∀ (pos : Pos) (cv : Value), codeAmong pos row = some cv → ∃ d, cv = .ref d ∧ H d = some (CodeO d q)
theorem Told.one {H H' : Hp} {q : Str} {row : List Value} {pos : Pos} {c : Addr} (t : Told H q row) (ok : TriplesOk row) (keep : ∀ d, H d = some (CodeO d q) → H' d = some (CodeO d q)) (new : H' c = some (CodeO c q)) : Told H' q (row ++ [rawInt pos.line, rawInt pos.col, .ref c]) := fun pos cv h =>
  (among_app _ ok h).elim (fun old => (t pos cv old).imp fun d z => ⟨z.1, keep d z.2⟩) fun e => ⟨c, e, new⟩
/-- the maker's table has grown by one code object -/
theorem tabs_more {T : List (Addr × Str)} {H : Hp} {P c : Addr} {q : Str} {ps : Array Value} {pos : Pos} (hT : Tabs T H) (at_ : H P = some (.tbl ps)) (ok : TriplesOk ps.toList) (told : Told H q ps.toList) (hu : ∀ p ∈ T, p.1 = P → p.2 = q) (nC : H c = none) :
    Tabs T (upd (upd H P (.tbl (ps ++ #[rawInt pos.line, rawInt pos.col, .ref c]))) c (CodeO c q)) ∧ ExtN H (upd (upd H P (.tbl (ps ++ #[rawInt pos.line, rawInt pos.col, .ref c]))) c (CodeO c q)) := by
  have Pc : P ≠ c := ne_of_none at_ nC
  have ext := (extN_tbl (qs := ps ++ #[rawInt pos.line, rawInt pos.col, .ref c]) at_).trans (extN_new (o := CodeO c q) ((upd_ne Pc.symm).trans nC))
  have row : (ps ++ #[rawInt pos.line, rawInt pos.col, .ref c]).toList = ps.toList ++ [rawInt pos.line, rawInt pos.col, .ref c] := by simp
  have mine : TabS (upd (upd H P (.tbl (ps ++ #[rawInt pos.line, rawInt pos.col, .ref c]))) c (CodeO c q)) P q := by
    refine ⟨_, (upd_ne Pc).trans upd_same, ?_, ?_⟩ <;> rw [row]
    · exact PySem.TriplesOk_snoc _ _ _ _ ok
    · exact told.one ok (fun d e => ext d _ e codeO_ne) upd_same
  have other : ∀ p ∈ T, p.1 ≠ P → TabS (upd (upd H P (.tbl (ps ++ #[rawInt pos.line, rawInt pos.col, .ref c]))) c (CodeO c q)) p.1 p.2 := fun p hp n =>
    let ⟨qs, there, fine, names⟩ := hT p hp
    ⟨qs, (upd_ne (ne_of_none there nC)).trans ((upd_ne n).trans there), fine, fun x y h => (names x y h).imp fun d z => ⟨z.1, ext d _ z.2 codeO_ne⟩⟩
  exact ⟨fun p hp => if e : p.1 = P then by rw [e, hu p hp e]; exact mine else other p hp e, ext⟩

section
variable {X : Cx} {pins : List (Addr × Obj)} {σ : L2.St} {H : Hp} {s : Shared}
/-- the lambda's object is made -/
theorem lam_tr {T : List (Addr × Str)} {c P : Addr} {params : Arguments} {body : Expr} {scope : Scope} {pos : Pos} {dV : Value} {E : Value → Shared → Prop} {Q : Value → Shared → Prop} (I : Inv X pins σ H s) (TB : TabB X.base X.mg c P) (hcode : X.env.code = .ref c)
    (hm : (P, X.env.qual ++ "<lambda>") ∈ T) (hu : ∀ p ∈ T, p.1 = P → p.2 = X.env.qual ++ "<lambda>") (hT : Tabs T H) (hfree : ∀ y ∈ scope.names, y.2 = .free → ∃ c, X.env.cells.lookup y.1 = some c)
    (h : ∀ (f c' : Addr) (H1 : Hp) (s' : Shared), Inv X pins σ H1 s' → ExtN H H1 → Tabs T H1 → H f = none →
      H1 f = some (LamO f ⟨X.env.qual ++ "<lambda>", params, body, scope, cloFrom X.env.cells scope.names [], c', dV⟩) → H1 c' = some (CodeO c' (X.env.qual ++ "<lambda>")) → Q (.ref f) s') :
    wpAny (model X.prog X.w) X.A (makeTail "<lambda>" (X.env.qual ++ "<lambda>") params (.expr body) scope X.env dV .none none pos pos.line) Q E s := by
  obtain ⟨ps, table, triples, told⟩ := hT _ hm
  have main := TB.bm.keeps I.bk
  have glob := I.mod.glob.keeps I.bk
  have code := TB.code.keeps I.bk
  -- whichever way the code object was got: the function object is laid last
  have last : ∀ (c' : Addr) (H1 : Hp) (hp : Heap) (tk : Nat) (doc pm ctv : Value), Inv X pins σ H1 { s with heap := hp, toks := tk } → s.heap.objs.size ≤ hp.objs.size → ExtN H H1 → Tabs T H1 → H1 c' = some (CodeO c' (X.env.qual ++ "<lambda>")) →
      Q (.ref hp.objs.size) { s with heap := hp.push ⟨.type "function", none, .func ((LF.mk (X.env.qual ++ "<lambda>") params body scope (cloFrom X.env.cells scope.names []) c' dV).fd doc pm ctv), #[]⟩, toks := tk } := by
    intro c' H1 hp tk doc pm ctv J le ext tabs hc
    have fresh : H1 hp.objs.size = none := J.hok.fresh (Nat.le_refl _)
    exact h _ c' _ _ (Stands.laid J (LamAs.mk none #[] doc pm ctv) rfl) (ext.trans (extN_new fresh)) (tabs_keep tabs fresh) (I.hok.fresh le) upd_same ((upd_ne (ne_of_none hc fresh)).trans hc)
  match hk : codeAmong pos ps.toList with
  | some cv =>
    obtain ⟨c', rfl, known⟩ := told pos cv hk
    exact PySem.W.kdv_makeTailHit (closure_ok hfree) I.ok.glob glob hcode code (I.hok P _ table) triples hk main fun ctv doc hp tk old le => last c' H hp tk doc _ ctv (I.kept old) le (.refl H) hT known
  | none =>
    refine PySem.W.kdv_makeTail (closure_ok hfree) I.ok.glob glob hcode code (I.hok P _ table) triples hk TB.gP main ?_
    rintro c' ctv doc hp tk old ge lt ⟨_, oc, vs, t, z, rec⟩ row
    cases z
    have grown := tabs_more (pos := pos) hT table triples told hu (I.hok.fresh ge)
    exact last c' _ hp tk doc _ ctv (inv_table (t' := tk) I table (fun b o hb e => old b o hb e) row ge ⟨oc, vs, t, rec⟩) (Nat.le_trans ge (Nat.le_of_lt lt)) grown.2 grown.1 upd_same
end

/-- a lambda as a value: without defaults -/
def tLamV (T : List (Addr × Str)) (mk : Addr → LF) : TE := fun _ H Q => Tabs T H ∧ ∀ (f c' : Addr) (H1 : Hp), ExtN H H1 → Tabs T H1 → H f = none → H1 f = some (LamO f (mk c')) → H1 c' = some (CodeO c' (mk c').qual) → Q (.ref f) H1
/-- .. with one default, an int -/
def tLamD (T : List (Addr × Str)) (d : Int) (mk : Addr → Addr → LF) : TE := fun _ H Q => Tabs T H ∧ ∀ (f c' t : Addr) (H1 : Hp), ExtN H H1 → Tabs T H1 → H f = none → H t = none → H1 t = some (.tup [.int d]) → H1 f = some (LamO f (mk c' t)) → H1 c' = some (CodeO c' (mk c' t).qual) → Q (.ref f) H1
section
variable {X : Cx} {T : List (Addr × Str)} {c P : Addr} {params : Arguments} {body : Expr} {scope : Scope} {pos : Pos}
theorem free_has (hf : ∀ y ∈ scope.names, y.2 = .free → X.env.scope.names.lookup y.1 = some .cell ∨ X.env.scope.names.lookup y.1 = some .free) (ok : X.Ok) : ∀ y ∈ scope.names, y.2 = .free → ∃ c, X.env.cells.lookup y.1 = some c :=
  fun y hy e => (hf y hy e).elim (fun k => ok.has _ (.inl k)) (fun k => ok.has _ (.inr k))
theorem pe_lamV (TB : TabB X.base X.mg c P) (hcode : X.env.code = .ref c) (hm : (P, X.env.qual ++ "<lambda>") ∈ T) (hu : ∀ p ∈ T, p.1 = P → p.2 = X.env.qual ++ "<lambda>")
    (hf : ∀ y ∈ scope.names, y.2 = .free → X.env.scope.names.lookup y.1 = some .cell ∨ X.env.scope.names.lookup y.1 = some .free) (hdef : defaultsOf params X.env = ([], []) := by rfl) :
    PE X (.Lambda params body scope pos) (tLamV T fun c' => ⟨X.env.qual ++ "<lambda>", params, body, scope, cloFrom X.env.cells scope.names [], c', .none⟩) := by
  refine ⟨fun pins s σ H Q I h => ?_⟩
  obtain ⟨hT, h⟩ := h
  refine PySem.W.kla_eval hdef ?_
  rw [makeFunction_eq]
  simp only [List.zip_nil_right, List.filterMap_nil, List.isEmpty_nil, if_true, pure_bind]
  exact lam_tr I TB hcode hm hu hT (free_has hf I.ok) fun f c' H1 s' I1 eN T1 f0 f1 c1 => ⟨.ref f, H1, I1, rfl, h f c' H1 eN T1 f0 f1 c1⟩
theorem pe_lamD {d : Int} {j : Nat} {dp : Pos} (TB : TabB X.base X.mg c P) (hcode : X.env.code = .ref c) (hm : (P, X.env.qual ++ "<lambda>") ∈ T) (hu : ∀ p ∈ T, p.1 = P → p.2 = X.env.qual ++ "<lambda>")
    (hf : ∀ y ∈ scope.names, y.2 = .free → X.env.scope.names.lookup y.1 = some .cell ∨ X.env.scope.names.lookup y.1 = some .free) (hd : params.defaults = [.Constant (.int d) j dp]) (hk0 : params.kw_defaults = []) :
    PE X (.Lambda params body scope pos) (tLamD T d fun c' t => ⟨X.env.qual ++ "<lambda>", params, body, scope, cloFrom X.env.cells scope.names [], c', .ref t⟩) := by
  refine ⟨fun pins s σ H Q I h => ?_⟩
  obtain ⟨hT, h⟩ := h
  refine PySem.W.kdv_lam (by rw [hd]; rfl) hk0 ?_
  rw [hd]
  refine PySem.W.kdv_all1 (wpAny_Constant_int (PySem.W.kdv_all0 ?_))
  rw [makeFunction_eq]
  simp only [List.zip_nil_right, List.filterMap_nil, List.isEmpty_nil, if_true, pure_bind, List.isEmpty_cons, Bool.false_eq_true, if_false]
  refine wpAny_bind (wpAny_newTextTuple ?_)
  have nT : H s.heap.objs.size = none := I.hok.fresh (Nat.le_refl _)
  have I1 := I.laid (t' := s.toks + 1) (a := s.heap.objs.size) (o := .tup [.int d]) (h' := s.heap.push ({ cls := .type "tuple", data := .seq #[.int d s.toks] } : Obj)) (fun b u e => Heap.get?_push_of_some _ e) (Nat.le_refl _)
    ⟨(by show 1 ≤ sizeLine; decide), [.int d s.toks], .cons ⟨_, rfl⟩ .nil, ⟨_, Heap.get?_push_size _ rfl, rfl, _, rfl⟩⟩
  refine lam_tr I1 TB hcode hm hu (tabs_keep hT nT) (free_has hf I.ok) fun f c' H1 s' I2 eN T1 f0 f1 c1 => ⟨.ref f, H1, I2, rfl, ?_⟩
  have ft : f ≠ s.heap.objs.size := fun z => by
    rw [z, upd_same] at f0
    cases f0
  have f0' : H f = none := by
    rw [upd_ne ft] at f0
    exact f0
  exact h f c' s.heap.objs.size H1 ((extN_new nT).trans eN) T1 f0' nT (eN _ _ upd_same (fun ps z => by cases z)) f1 c1
end
end Sea

set_option Elab.async false
set_option linter.all false
set_option maxRecDepth 100000
set_option maxHeartbeats 4000000
namespace Sea
open PySem PySem.Spec PyProof.Rows L2 LamX NdefX
abbrev LF.nf (F : LF) : NF := ⟨"<lambda>", F.qual, F.params, [], F.scope, F.cl, F.c⟩
/-- the tuple of defaults, where there is one, holds one int -/
def DvOk (F : LF) (H : Hp) : Prop := ∀ t, F.dV = .ref t → ∃ d, H t = some (.tup [.int d])
/-- a thunk's reading: ws what its captured cells hold -/
abbrev TSp := List (Option V) → Hp → VK → XK → Prop
structure LOk (P : Program) (w : World) (K : PySem.W.Frag) (mg : Str → Option Value) (base : Heap) (CX : CXT) (k : Nat) (f : Addr) (F : LF) (fr : List Str) (sp : TSp) : Prop where
  run : ∀ (A : Around) (outer : List Env) (s : Shared) (H : Hp) (ws : List (Option V)) (Q : VK) (E : XK), Room k A → Env0 P w K mg base A outer s H → H f = some (LamO f F) → H F.c = some (CodeO F.c F.qual) → DvOk F H →
    CellsAt F.cl fr ws s.heap H → sp ws H Q E → codeAny (model P w) A (.call (.ref f) ⟨[], []⟩) (CR CX outer P w H s Q E) s
theorem LOk.mono {P : Program} {w : World} {K : PySem.W.Frag} {mg : Str → Option Value} {base : Heap} {CX : CXT} {k j : Nat} {f : Addr} {F : LF} {fr : List Str} {sp : TSp} (o : LOk P w K mg base CX j f F fr sp) (h : j ≤ k) : LOk P w K mg base CX k f F fr sp :=
  ⟨fun A outer s H ws Q E hr => o.run A outer s H ws Q E (hr.mono h)⟩
theorem LOk.imp {P : Program} {w : World} {K : PySem.W.Frag} {mg : Str → Option Value} {base : Heap} {CX : CXT} {k : Nat} {f : Addr} {F : LF} {fr : List Str} {sp sp' : TSp} (o : LOk P w K mg base CX k f F fr sp) (h : ∀ ws H Q E, sp' ws H Q E → sp ws H Q E) : LOk P w K mg base CX k f F fr sp' :=
  ⟨fun A outer s H ws Q E hr e0 a b c d q => o.run A outer s H ws Q E hr e0 a b c d (h _ _ _ _ q)⟩
section
variable {CX : CXT} {P : Program} {w : World} {K : PySem.W.Frag} {mg : Str → Option Value} {base : Heap} {N ps fr : List Str} {F : LF} {f : Addr} {k : Nat} {sp : TSp}
theorem lok_core {A : Around} {outer : List Env} {s : Shared} {H : Hp} {us : List Value} {vs : List V} {ws : List (Option V)} {Q : VK} {E : XK} (S : NScope N ps fr F.scope) (hr : Room (k + 1) A) (e0 : Env0 P w K mg base A outer s H)
    (hf : H f = some (LamO f F)) (hc : H F.c = some (CodeO F.c F.qual)) (C : CellsAt F.cl fr ws s.heap H) (r : Vals vs us) (hl : vs.length = ps.length)
    (hb : ∀ doc pm ctv : Value, BindsTo s (F.fd doc pm ctv) ⟨[], []⟩ (ps.zip us))
    (hbody : Room k (A.deeper (envF F.nf f s.heap.objs.size)) → ∃ t, PE (ncx CX P w K mg base N F.nf f A outer s H E) F.body t ∧ t (startF N vs ws) H Q) :
    codeAny (model P w) A (.call (.ref f) ⟨[], []⟩) (CR CX outer P w H s Q E) s := by
  have lim : s.heap.NoLimit := e0.mod.nolimit.keeps fun b o e => (e0.bs b o e).1
  obtain ⟨_, ⟨od, sl, doc, pm, ctv⟩, ho⟩ := lamO_at e0.hok hf
  refine PySem.W.kla_callFunE hr.depth ho rfl S.co S.gen rfl (codeO_at e0.hok hc) ?_
  refine hb doc pm ctv _ _ _ _ ?_
  refine wpAny_newFunctionEnv S.nocell (fun ⟨n, _⟩ hy => S.par n (List.of_mem_zip hy).1) (fun h1 hns hsb => ⟨lim.fresh _ hsb, ?_⟩) S.kind
  have kp : ∀ b o, s.heap.get? b = some o → h1.get? b = some o := fun b o e => hsb.extBut b o (Nat.ne_of_lt (Heap.lt_size e)) (Heap.get?_push_of_some _ e)
  obtain ⟨t, ht, hq⟩ := hbody (hr.deeper _)
  have I : Inv (ncx CX P w K mg base N F.nf f A outer s H E) [] (startF N vs ws) H { s with heap := h1, toks := s.toks + (ps.zip us).length } := inv_startN S hr.hd e0 hl r C hns kp
  show codeAny _ _ (.expr F.body (envF F.nf f s.heap.objs.size)) _ _
  refine PySem.W.kla_codeExpr (wpAny_mono (ht.run [] _ (startF N vs ws) H Q I hq) (fun v s' hs => ?_) fun e s' hs => hs)
  obtain ⟨x, H', J, rv, q⟩ := hs
  exact ⟨x, H', J.os, J.bare, J.base, J.hok, rv, q⟩
theorem lok_of0 (S : NScope N [] fr F.scope) (hb : ∀ doc pm ctv : Value, bindArgs (F.fd doc pm ctv) ⟨[], []⟩ = pure [])
    (hbody : ∀ (A : Around) (outer : List Env) (s : Shared) (H : Hp) (ws : List (Option V)) (Q : VK) (E : XK), Room k (A.deeper (envF F.nf f s.heap.objs.size)) → ws.length = fr.length → sp ws H Q E →
      ∃ t, PE (ncx CX P w K mg base N F.nf f A outer s H E) F.body t ∧ t (startF N [] ws) H Q) : LOk P w K mg base CX (k + 1) f F fr sp :=
  ⟨fun A outer s H ws Q E hr e0 hf hc hd C hq => lok_core (us := []) (vs := []) S hr e0 hf hc C .nil rfl (fun doc pm ctv => .of_eq (hb doc pm ctv)) fun hr' => hbody A outer s H ws Q E hr' C.len hq⟩
/-- with one default -/
theorem lok_ofD {a : Str} {t : Addr} (S : NScope N [a] fr F.scope) (hdv : F.dV = .ref t)
    (hb : ∀ doc pm ctv : Value, ∃ kk : Option (Array Value) → Sem (List (Str × Value)), bindArgs (F.fd doc pm ctv) ⟨[], []⟩ = seqItems? (F.fd doc pm ctv).defaults >>= kk ∧ ∀ u, kk (some #[u]) = pure [(a, u)])
    (hbody : ∀ (A : Around) (outer : List Env) (s : Shared) (H : Hp) (ws : List (Option V)) (Q : VK) (E : XK) (d : Int), Room k (A.deeper (envF F.nf f s.heap.objs.size)) → ws.length = fr.length → sp ws H Q E →
      ∃ t, PE (ncx CX P w K mg base N F.nf f A outer s H E) F.body t ∧ t (startF N [.int d] ws) H Q) : LOk P w K mg base CX (k + 1) f F fr sp := by
  refine ⟨fun A outer s H ws Q E hr e0 hf hc hd C hq => ?_⟩
  obtain ⟨d, ht⟩ := hd t hdv
  obtain ⟨_, its, rv, o, ho, hcl, n, hsq⟩ := (show ObjOk P w H s.heap t (.tup [.int d]) from e0.hok t _ ht)
  cases rv with
  | @cons _ u _ rest ru rr =>
    cases rr
    exact lok_core (us := [u]) (vs := [.int d]) S hr e0 hf hc C (.cons ru .nil) rfl (fun doc pm ctv => by
      obtain ⟨kk, e1, e2⟩ := hb doc pm ctv
      exact BindsTo.of_defaults hdv ho hsq e1 (e2 u)) fun hr' => hbody A outer s H ws Q E d hr' C.len hq
end

/-- what a caller hands on with a thunk: tl is its reading -/
structure Thunk (P : Program) (w : World) (K : PySem.W.Frag) (mg : Str → Option Value) (base : Heap) (CX : CXT) (k : Nat) (outer : List Env) (s : Shared) (H : Hp) (f : Addr) (tl : Hp → VK → XK → Prop) : Prop where
  ex : ∃ (F : LF) (fr : List Str) (ws : List (Option V)) (sp : TSp), LOk P w K mg base CX k f F fr sp ∧ H f = some (LamO f F) ∧ H F.c = some (CodeO F.c F.qual) ∧ DvOk F H ∧ CellsAt F.cl fr ws s.heap H ∧ (∀ y c, F.cl.lookup y = some c → c ∉ frs outer) ∧ tl = sp ws
/-- a def that takes a thunk, its promise told of the state -/
def FnS (P : Program) (w : World) (K : PySem.W.Frag) (mg : Str → Option Value) (base : Heap) (CX CXl : CXT) (k j : Nat) (g : Addr) (sp : (Hp → VK → XK → Prop) → Hp → VK → XK → Prop) : Prop :=
  ∀ (A : Around) (outer : List Env) (s : Shared) (H : Hp) (f : Addr) (tl : Hp → VK → XK → Prop) (Q : VK) (E : XK), Room k A → Env0 P w K mg base A outer s H → Thunk P w K mg base CXl j outer s H f tl → sp tl H Q E →
    codeAny (model P w) A (.call (.ref g) ⟨[.ref f], []⟩) (CR CX outer P w H s Q E) s
section
variable {X : Cx} {CX CXl : CXT} {i k j : Nat} {x : Str} {p pos : Pos} {E : L2.St → XK}
/-- a local name is read: the value that its slot holds, nothing moved -/
theorem name_at {pins : List (Addr × Obj)} {σ : L2.St} {H : Hp} {s : Shared} {v : V} {Qv : Value → Shared → Prop} (hN : X.N[i]? = some x) (hv : Vis X.env.scope x) (hd : (x == ("__debug__" : Str)) = false) (hcd : (x == ("__classdict__" : Str)) = false)
    (I : Inv X pins σ H s) (slot : σ[i]? = some (some v)) (next : ∀ u s', RelV v u → Inv X pins σ H s' → Qv u s') : wpAny (model X.prog X.w) X.A (eval (.Name x p) X.env) Qv X.xe s := by
  have read := (pe_var (pos := p) hN hv hd hcd).run pins s σ H (fun y H' => (y, H') = (v, H)) I ⟨v, slot, rfl⟩
  refine thn read ?_
  rintro u s' ⟨_, _, J, r, e⟩
  cases e
  exact next u s' r J
/-- x(), x the thunk that this def was handed -/
def tAct (X : Cx) (CXl : CXT) (j i : Nat) (E : L2.St → XK) : TE := fun σ H Q => ∃ (f : Addr) (tl : Hp → VK → XK → Prop), σ[i]? = some (some (.ref f)) ∧ H = X.H_0 ∧ Thunk X.prog X.w X.K X.mg X.base CXl j X.outer X.s_0 X.H_0 f tl ∧ tl H Q (E σ)
theorem pe_actT (hr : Room j X.A) (hex : X.ex = []) (hx : ∀ σ, PassesAt CXl X σ (E σ)) (hN : X.N[i]? = some x) (hv : Vis X.env.scope x)
    (hd : (x == ("__debug__" : Str)) = false := by decide) (hcd : (x == ("__classdict__" : Str)) = false := by decide) : PE X (.Call (.Name x p) [] [] pos) (tAct X CXl j i E) := by
  constructor
  rintro pins s σ _ Q I ⟨f, _, slot, rfl, ⟨F, fr, ws, sp, L, hf, hc, hdv, C, nf, rfl⟩, ht⟩
  refine wpAny_Call_Name_kw (name_at hN hv hd hcd I slot ?_)
  rintro u s1 (rfl : u = .ref f) I1
  obtain ⟨_, ⟨od, sl, doc, pm, ctv⟩, ho⟩ := lamO_at I1.hok hf
  have cells := C.later nf (fun y c e z => by rw [hex] at z; cases z) I1
  have ran := L.run X.A X.stack s1 X.H_0 ws Q (E σ) hr I1.env0 hf hc hdv cells ht
  refine PySem.W.callWith_F0 (first := []) ⟨_, od, _, sl, ho⟩ (wpAny_call (codeAny_mono ran ?_))
  intro r s' back
  match r, back with
  | .error e, back => exact hx σ pins X.H_0 s1 e s' I1 back
  | .ok (.ret _), back => exact I1.after back
  | .ok .next, back => exact back.elim
  | .ok .brk, back => exact back.elim
  | .ok .cont, back => exact back.elim
/-- from the running frame: the cells that a thunk captured here -/
theorem thunk_here {pins : List (Addr × Obj)} {σ : L2.St} {H : Hp} {s : Shared} {f : Addr} {F : LF} {fr : List Str} {js : List Nat} {sp : TSp} (I : Inv X pins σ H s) (hfn : X.fn = fun _ => true) (L : LOk X.prog X.w X.K X.mg X.base CXl j f F fr sp) (hf : H f = some (LamO f F)) (hc : H F.c = some (CodeO F.c F.qual)) (hd : DvOk F H)
    (cp : Caps X F.cl fr js) : Thunk X.prog X.w X.K X.mg X.base CXl j X.stack s H f (sp (js.map (slotAt σ))) := by
  refine ⟨F, fr, _, sp, L, hf, hc, hd, cells_of I cp, fun y c e z => ?_, rfl⟩
  have e' := cp.sub y c e
  rcases List.mem_cons.mp (I.stkSub c z) with z | z
  · exact I.cne y c e' z
  · have h1 := I.ok.cab y c (by rw [hfn]) e'
    obtain ⟨_, o, ho, _⟩ := I.ok.funs.mem z
    exact absurd (Nat.lt_of_lt_of_le (Heap.lt_size ho) h1) (Nat.lt_irrefl _)
/-- g(e), e a lambda made in this def -/
def tGive (X : Cx) (CXl : CXT) (j : Nat) (sp : (Hp → VK → XK → Prop) → Hp → VK → XK → Prop) (te : TE) : TE := fun σ H Q => te σ H fun v H1 => ∃ (f : Addr) (F : LF) (fr : List Str) (js : List Nat) (lsp : TSp), v = .ref f ∧ LOk X.prog X.w X.K X.mg X.base CXl j f F fr lsp ∧
  H1 f = some (LamO f F) ∧ H1 F.c = some (CodeO F.c F.qual) ∧ DvOk F H1 ∧ (X.Ok → Caps X F.cl fr js) ∧ sp (lsp (js.map (slotAt σ))) H1 Q fun _ _ _ => False
theorem pe_give {g : Addr} {sp : (Hp → VK → XK → Prop) → Hp → VK → XK → Prop} {e : Expr} {te : TE} (G : FnS X.prog X.w X.K X.mg X.base CX0 CXl k j g sp) (hfn : X.fn = fun _ => true) (hr : Room k X.A) (hg : Gl X x) (hm : X.mg x = some (.ref g)) (hk : PySem.W.keepIn X.K (.ref g) = true) (he : PE X e te)
    (hdb : (x == ("__debug__" : Str)) = false := by decide) (hs : starEach (e :: []) X.env = (false, eval e X.env) :: starEach [] X.env := by rfl) (hpl : (backTo pos (starEach [] X.env)).any (·.1) = false := by rfl) :
    PE X (.Call (.Name x p) [e] [] pos) (tGive X CXl j sp te) := by
  refine ⟨fun pins s σ H Q I h => ?_⟩
  refine wpAny_Call_Name_kw (ld_glob I hg hm ?_ hdb)
  refine PySem.W.callWith_K (h₀ := X.base) I.ok.mod.kin hk (thn ((pa_cons he pa_nil hs).run pos pins s σ H (fun vs H1 => ∃ v, vs = [v] ∧ ∃ (f : Addr) (F : LF) (fr : List Str) (js : List Nat) (lsp : TSp), v = .ref f ∧ LOk X.prog X.w X.K X.mg X.base CXl j f F fr lsp ∧
    H1 f = some (LamO f F) ∧ H1 F.c = some (CodeO F.c F.qual) ∧ DvOk F H1 ∧ (X.Ok → Caps X F.cl fr js) ∧ sp (lsp (js.map (slotAt σ))) H1 Q fun _ _ _ => False) I ?_) fun us s1 hh => ?_) hs hpl
  · show te σ H _
    refine Eq.mp ?_ h
    show te σ H _ = te σ H _
    congr 1
    funext v H1
    refine propext ⟨fun hh => ⟨v, rfl, hh⟩, fun ⟨v', e', hh⟩ => ?_⟩
    cases e'
    exact hh
  · obtain ⟨vs, H1, I1, r, v, ev, f, F, fr, js, lsp, ef, L, hf, hc, hd, cp, q⟩ := hh
    subst ev
    subst ef
    refine ⟨I1.kIn, ?_⟩
    cases r with
    | cons ru rr =>
      cases rr
      obtain rfl := (show _ = Value.ref f from ru)
      refine wpAny_call (codeAny_mono (G X.A X.stack s1 H1 f _ Q (fun _ _ _ => False) hr I1.env0 (thunk_here I1 hfn L hf hc hd (cp I1.ok)) q) fun r s' hq => ?_)
      cases r with
      | error e => exact False.elim hq
      | ok fl =>
        cases fl with
        | ret u => exact I1.after hq
        | next => exact False.elim hq
        | brk => exact False.elim hq
        | cont => exact False.elim hq
end
end Sea

set_option Elab.async false
set_option linter.all false
set_option maxRecDepth 100000
set_option maxHeartbeats 4000000
/-! [g(x) for x in xs], xs a list of lambdas that this def made, g a def that takes a thunk -/
namespace Sea
open PySem PySem.Spec PyProof.Rows L2 LamX NdefX
theorem vals_at {xs : List V} {us : List Value} {i : Nat} {u : Value} (r : Vals xs us) (h : us[i]? = some u) : ∃ x, xs[i]? = some x ∧ RelV x u := by
  cases e : xs[i]? with
  | none =>
    rw [r.none_of e] at h
    cases h
  | some x =>
    obtain ⟨u', h', ru⟩ := r.get e
    rw [h] at h'
    cases h'
    exact ⟨x, rfl, ru⟩
def listSt (it a : Addr) (xs : List V) (i : Nat) (h : Heap) : Prop := h.IsListIter it a i ∧ ∃ items : Array Value, h.IsList a items ∧ Vals xs items.toList
theorem goes_listV {prog : Program} {w : World} {A : Around} {target : Expr} (hh : A.handled = none) (it a : Addr) (hne : a ≠ it) (xs : List V) :
    Goes prog w A target it [it, a] [it] xs.length (fun i v _ => ∃ x, xs[i]? = some x ∧ RelV x v) (listSt it a xs) := by
  refine ⟨fun b hb => by simp at hb; simp [hb], ?_, ?_, ?_, ?_⟩
  · rintro i h h' ⟨⟨o, ho, ro⟩, items, ⟨o2, ho2, ro2⟩, rv⟩ hk
    exact ⟨⟨o, hk it (by simp) o ho, ro⟩, items, ⟨o2, hk a (by simp) o2 ho2, ro2⟩, rv⟩
  · rintro i s Q E hi ⟨hit, items, hl, rv⟩ hQ
    have sz : items.size = xs.length := by
      have := rv.length
      rw [Array.length_toList] at this
      exact this.symm
    refine (Goes.list (prog := prog) (w := w) (target := target) hh it a hne items).goes i s Q E (by rw [sz]; exact hi) ⟨hit, hl⟩ ?_
    intro v h' tk hY hSt hk htk
    exact hQ v h' tk (vals_at rv (by simpa using hY)) ⟨hSt.1, items, hSt.2, rv⟩ hk htk
  · rintro s Q E ⟨hit, items, hl, rv⟩ hQ
    have sz : items.size = xs.length := by
      have := rv.length
      rw [Array.length_toList] at this
      exact this.symm
    refine (Goes.list (prog := prog) (w := w) (target := target) hh it a hne items).stops s Q E ⟨by rw [sz]; exact hit, hl⟩ hQ
  · rintro i s Q E ⟨hit, items, hl, rv⟩ hQ
    exact (Goes.list (prog := prog) (w := w) (target := target) hh it a hne items).self i s Q E ⟨hit, hl⟩ hQ
theorem clo_none {cells : List (Str × Addr)} : ∀ {names : List (Str × NameKind)} {acc : List (Str × Addr)}, (∀ y ∈ names, y.2 ≠ .free) → cloFrom cells names acc = acc
  | [], acc, _ => rfl
  | (n, k) :: r, acc, h => by
    have hk : (k == NameKind.free) = false := by
      have := h (n, k) List.mem_cons_self
      cases k <;> first | rfl | exact absurd rfl this
    unfold cloFrom
    rw [hk]
    exact clo_none fun y hy => h y (List.mem_cons_of_mem _ hy)
/-- a block whose names are its own locals and globals -/
structure PlainBlk (scope : Scope) : Prop where
  kind : scope.kind = .function
  nm : ∀ y ∈ scope.names, y.2 = .local ∨ y.2 = .globalImplicit
  uq : ∀ y ∈ scope.names, y.2 = .local → scope.names.lookup y.1 = some .local
theorem PlainBlk.noFree {scope : Scope} (b : PlainBlk scope) : ∀ y ∈ scope.names, y.2 ≠ .free := fun y hy e => by
  rcases b.nm y hy with h | h <;> rw [h] at e <;> cases e
theorem PlainBlk.noCell {scope : Scope} (b : PlainBlk scope) : ∀ y ∈ scope.names, y.2 ≠ .cell := fun y hy e => by
  rcases b.nm y hy with h | h <;> rw [h] at e <;> cases e
def plainBlkB (scope : Scope) : Bool := decide (scope.kind = .function) && scope.names.all (fun y => decide (y.2 = .local) || decide (y.2 = .globalImplicit)) && scope.names.all fun y => !decide (y.2 = .local) || decide (scope.names.lookup y.1 = some .local)
theorem plainBlk_by {scope : Scope} (h : plainBlkB scope = true) : PlainBlk scope := by
  unfold plainBlkB at h
  simp only [Bool.and_eq_true, Bool.or_eq_true, Bool.not_eq_true', decide_eq_true_eq, decide_eq_false_iff_not, List.all_eq_true] at h
  exact ⟨h.1.1, h.1.2, fun y hy e => (h.2 y hy).elim (fun z => absurd e z) id⟩
section
variable {X : Cx} {pins : List (Addr × Obj)} {σ : L2.St} {H : Hp} {s : Shared}
theorem PlainBlk.kindOf {scope : Scope} {C : Addr} (b : PlainBlk scope) {y : Str} {k : NameKind} (h : (compEnvC scope [] C X.env).kindOf y = some k) : k = .local ∨ k = .globalImplicit := by
  have h' : (relS scope X.env.scope).names.lookup y = some k := h
  obtain ⟨k', e, r⟩ := lookup_relS h'
  have hk := b.nm _ (PySem.mem_of_lookup e)
  rcases r with rfl | ⟨rfl, _⟩
  · exact hk
  · rcases hk with z | z <;> cases z
theorem blk_inv {scope : Scope} {C : Addr} {h3 : Heap} {tk : Nat} (I : Inv X pins σ H s) (hc : X.calm = true) (b : PlainBlk scope) (nC : s.heap.objs.size ≤ C) (kp : ∀ b o, s.heap.get? b = some o → h3.get? b = some o) (hns : h3.Ns C fun _ => none) :
    Inv (X.blk s H scope (compEnvC scope [] C X.env) []) [] (List.replicate X.N.length none) H { s with heap := h3, toks := tk } := by
  have nocell : ∀ x c, ([] : List (Str × Addr)).lookup x = some c → False := fun x c e => by simp at e
  have okB : (X.blk s H scope (compEnvC scope [] C X.env) []).Ok := by
    refine ⟨I.ok.mod, b.kind, I.ok.glob, I.ok.blt, nC, fun x y c e _ => (nocell x c e).elim, fun y hy => ?_, fun y c _ e => (nocell y c e).elim, I.ok.hd, I.ok.frames, .inl rfl, fun q hq => absurd hq (by simp), I.bs, Nat.le_trans I.ok.bsz I.sz, fun _ _ _ => by simp, fun q hq => absurd hq (by simp), I.stack, I.stkFree⟩
    exfalso
    rcases hy with hy | hy
    · rcases b.kindOf (X := X) hy with z | z <;> cases z
    · rcases b.kindOf (X := X) hy with z | z <;> cases z
  refine ⟨okB, rfl, I.bare, Un.kept kp, ⟨_, hns, fun i x v _ e _ => ?_⟩, fun x c e => (nocell x c e).elim, I.hok.fresh nC, fun x c e => (nocell x c e).elim, fun p hp => absurd (show p ∈ ([] : List (Addr × Obj)) ++ [] from hp) (by simp), I.hok.kept kp, by simp⟩
  exfalso
  have : (List.replicate X.N.length (none : Option V))[i]? = some (some v) := e
  rw [List.getElem?_replicate] at this
  split at this <;> cases this
end
/-- the reading of the rest r of the list, acc made so far; the list of lambdas stands at a throughout -/
def gAll (X : Cx) (CXl : CXT) (j : Nat) (sp : (Hp → VK → XK → Prop) → Hp → VK → XK → Prop) (σ : L2.St) (a : Addr) (xs : List V) (Q : VK) : List V → List V → Hp → Prop
  | [], acc, H => SqL X.K H a xs ∧ ∀ D, H D = none → Q (.ref D) (upd H D (.lst acc))
  | v :: r, acc, H => SqL X.K H a xs ∧ ∃ (f : Addr) (F : LF) (fr : List Str) (js : List Nat) (lsp : TSp), v = .ref f ∧ LOk X.prog X.w X.K X.mg X.base CXl j f F fr lsp ∧
    H f = some (LamO f F) ∧ H F.c = some (CodeO F.c F.qual) ∧ DvOk F H ∧ (X.Ok → Caps X F.cl fr js) ∧ sp (lsp (js.map (slotAt σ))) H (fun y H2 => gAll X CXl j sp σ a xs Q r (acc ++ [y]) H2) fun _ _ _ => False
theorem gAll_list {X : Cx} {CXl : CXT} {j : Nat} {sp : (Hp → VK → XK → Prop) → Hp → VK → XK → Prop} {σ : L2.St} {a : Addr} {xs : List V} {Q : VK} {r acc : List V} {H : Hp} (h : gAll X CXl j sp σ a xs Q r acc H) : SqL X.K H a xs := by
  cases r with
  | nil => exact h.1
  | cons v r => exact h.1
def tLcT (X : Cx) (CXl : CXT) (j : Nat) (sp : (Hp → VK → XK → Prop) → Hp → VK → XK → Prop) (te : TE) : TE := fun σ H Q => te σ H fun v H1 => ∃ (a : Addr) (xs : List V), v = .ref a ∧ xs.length ≤ 1000 ∧ gAll X CXl j sp σ a xs Q xs [] H1
section
variable {X : Cx} {CXl : CXT} {i k j : Nat} {x g : Str} {gA : Addr} {sp : (Hp → VK → XK → Prop) → Hp → VK → XK → Prop} {scope : Scope} {iter : Expr} {te : TE} {px px2 pg pp pos : Pos}
theorem pe_lcT (G : FnS X.prog X.w X.K X.mg X.base CX0 CXl k j gA sp) (hc : X.calm = true) (hfn : X.fn = fun _ => true) (hN : X.N.Nodup) (hi : X.N[i]? = some x) (b : PlainBlk scope) (hx : scope.names.lookup x = some .local) (hg : scope.names.lookup g = some .globalImplicit)
    (hm : X.mg g = some (.ref gA)) (hk : PySem.W.keepIn X.K (.ref gA) = true) (hr : Room k X.A) (he : PE X iter te) (hdb : (g == ("__debug__" : Str)) = false := by decide) (hdx : (x == ("__debug__" : Str)) = false := by decide)
    (hs : ∀ y, foldedSetIterable iter X.env y = pure y := by intro _; rfl) :
    PE X (.ListComp (.Call (.Name g pg) [.Name x px] [] pp) [⟨.Name x px2, iter, [], 0⟩] scope pos) (tLcT X CXl j sp te) := by
  refine ⟨fun pins s σ H Q I h => ?_⟩
  have hclos : closureFor scope X.env = pure [] := by
    rw [closure_ok (fun y hy e => absurd e (b.noFree y hy)), clo_none b.noFree]
  refine ListComp_goes hclos b.noCell b.kind b.uq ?_ hs
  refine thn (he.run pins s σ H _ I h) fun u s1 hh => ?_
  obtain ⟨v, H1, I1, rv, a, xs, ev, hlen, hga⟩ := hh
  subst ev
  obtain rfl : u = Value.ref a := rv
  obtain ⟨its, ri, ⟨o, n, ho, hcl, _, hd⟩, _⟩ := I1.list (gAll_list hga)
  refine wpAny_pyIter_list (items := its.toArray) ⟨o, ho, hcl, n, hd⟩ ?_
  have hit : a ≠ s1.heap.objs.size := Nat.ne_of_lt (Heap.lt_size ho)
  generalize hsi : s1.heap.objs.size = it at hit ⊢
  refine ⟨it, [it, a], [it], xs.length, _, _, rfl, goes_listV (I1.ok.hd hc) it a hit xs, Nat.le_trans hlen (by decide), ?_, ?_, ?_⟩
  · refine ⟨⟨({ cls := .type "list_iterator", data := .fields #[.ref a, .int 0 0] } : Obj), ?_, rfl, rfl⟩, its.toArray, ⟨o, Heap.get?_push_of_some _ ho, hcl, n, hd⟩, by simpa using ri⟩
    rw [← hsi]
    exact Heap.get?_push_size _ rfl
  · intro q hq
    show q < (s1.heap.push _).objs.size
    rw [Heap.size_push, hsi]
    rcases List.mem_cons.mp hq with rfl | hq
    · exact Nat.lt_succ_self _
    · rw [List.mem_singleton.mp hq, ← hsi]
      exact Nat.lt_succ_of_lt (Heap.lt_size ho)
  · intro D C s3 hB
    obtain ⟨⟨h3, tk3, rfl⟩, old, nD, nC, hDC, hnm⟩ := hB
    have nD' : it + 1 ≤ D := by
      have z : (s1.heap.push ({ cls := .type "list_iterator", data := .fields #[.ref a, .int 0 0] } : Obj)).objs.size ≤ D := nD
      rw [Heap.size_push, hsi] at z
      exact z
    have nC' : it + 1 ≤ C := by
      have z : (s1.heap.push ({ cls := .type "list_iterator", data := .fields #[.ref a, .int 0 0] } : Obj)).objs.size ≤ C := nC
      rw [Heap.size_push, hsi] at z
      exact z
    have sD : s1.heap.objs.size ≤ D := by rw [hsi]; exact Nat.le_of_succ_le nD'
    have sC : s1.heap.objs.size ≤ C := by rw [hsi]; exact Nat.le_of_succ_le nC'
    have sI : s1.heap.objs.size ≤ it := Nat.le_of_eq hsi
    have hDI : D ≠ it := Nat.ne_of_gt nD'
    have hCI : C ≠ it := Nat.ne_of_gt nC'
    have kp : ∀ q u, s1.heap.get? q = some u → h3.get? q = some u := fun q u e => old q u (Heap.get?_push_of_some _ e)
    have fsN : ∀ {q : Addr}, s1.heap.objs.size ≤ q → q ∉ frs X.stack := fun {q} hq z => by
      rcases List.mem_cons.mp (I1.stkSub q z) with z | z
      · exact absurd (Nat.lt_of_lt_of_le I1.lt (z ▸ hq)) (Nat.lt_irrefl _)
      · exact I1.nofs hq z
    generalize hXb : X.blk s1 H1 scope (compEnvC scope [] C X.env) [] = Xb
    have I3 : Inv Xb [] (List.replicate X.N.length none) H1 { s1 with heap := h3, toks := tk3 } := by
      rw [← hXb]
      exact blk_inv I1 hc b sC kp hnm
    have nfree : H1 D = none ∧ H1 it = none := ⟨I1.hok.fresh sD, I1.hok.fresh sI⟩
    have eN : Xb.N = X.N := by rw [← hXb]
    have eL : Xb.env.locals = C := by rw [← hXb]; rfl
    have eS : Xb.s_0 = s1 := by rw [← hXb]
    have eCl : Xb.env.cells = [] := by rw [← hXb]; rfl
    have eFs : Xb.fs = frs X.stack := by rw [← hXb]
    have ePn : Xb.pn = [] := by rw [← hXb]
    refine ⟨fun m ys s4 => ∃ (H4 : Hp) (acc : List V), Inv Xb [] (List.replicate X.N.length none) H4 s4 ∧ Vals acc ys ∧ acc.length = m ∧ H4 D = none ∧ H4 it = none ∧ gAll X CXl j sp σ a xs Q (xs.drop m) acc H4,
      ⟨H1, [], I3, .nil, rfl, nfree.1, nfree.2, hga⟩, ?_, ?_, ?_⟩
    · -- D and the iterator may change
      rintro m ys s4 h' tk ⟨H4, acc, I4, ra, la, fD, fI, q4⟩ hk' _
      refine ⟨H4, acc, ?_, ra, la, fD, fI, q4⟩
      have ne : ∀ {c : Addr} {u : HO}, H4 c = some u → c ∉ [D, it] := fun {c u} e z => by
        rcases List.mem_cons.mp z with z | z
        · rw [z, fD] at e; cases e
        · rw [List.mem_singleton.mp z, fI] at e; cases e
      have nC4 : C ∉ [D, it] := fun z => by
        rcases List.mem_cons.mp z with z | z
        · exact hDC z.symm
        · exact hCI (List.mem_singleton.mp z)
      refine I4.step (g' := s4.gens) (d' := s4.drawn) (t' := tk) (ch := [D, it]) (fun q hq => ⟨.inr ?_, ?_, fun y c e => ?_, fun p hp => ?_⟩) (fun q o _ _ hq e _ => hk' q o hq e) (fun q o _ _ hq e _ => ⟨o.slots, hk' q o hq e⟩) (fun _ _ _ _ z => z) (fun q o hq e => ⟨o, hk' q o hq e⟩)
        (fun _ _ e => e) (fun _ _ _ e => e) (fun q ps e => ⟨#[], by rw [e]; simp⟩) (fun mm hm4 => ?_) (fun q u e => (I4.hok q u e).stay (fun c v hc2 z => hk' c v (by
          rcases hc2 with hc2 | hc2
          · rw [hc2]
            exact ne e
          · exact ne hc2) z) (fun _ z => z) fun _ _ z => z) I4.bare
      · rw [eS]
        rcases List.mem_cons.mp hq with z | z
        · rw [z]; exact sD
        · rw [List.mem_singleton.mp z]; exact sI
      · rw [eL]
        exact fun z => nC4 (z ▸ hq)
      · rw [eCl] at e
        simp at e
      · rw [ePn] at hp
        simp at hp
      · obtain ⟨o5, es, ep, e5, r5⟩ := hm4
        rw [eL] at e5 ⊢
        exact ⟨o5, es, ep, hk' C o5 nC4 e5, r5⟩
    · -- one turn
      rintro m u ys s4 hm4 ⟨xv, hxv, rxv⟩ hSt ⟨H4, acc, I4, ra, la, fD, fI, q4⟩ hPL
      have hdrop : xs.drop m = xv :: xs.drop (m + 1) := by
        obtain ⟨hlt, e⟩ := List.getElem?_eq_some_iff.mp hxv
        rw [List.drop_eq_getElem_cons hlt, e]
      rw [hdrop] at q4
      obtain ⟨_, f, F, fr, js, lsp, ef, L, hf, hco, hdv, cp, q5⟩ := q4
      subst ef
      obtain rfl : u = Value.ref f := rxv
      obtain ⟨⟨oi, hoi, hoc, hod⟩, _⟩ := hSt
      obtain ⟨nD4, hoD⟩ := hPL
      have Ip : Inv Xb [(it, oi), (D, ({ cls := .type "list", data := .seq ys.toArray nD4 } : Obj))] (List.replicate X.N.length none) H4 s4 := by
        refine I4.pins_of fun p hp => ?_
        rcases List.mem_cons.mp hp with rfl | hp
        · refine ⟨hoi, fI, by rw [eL]; exact Ne.symm hCI, by rw [eFs]; exact fsN sI, fun v z => ?_⟩
          rw [hod] at z
          cases z
        · rw [List.mem_singleton.mp hp]
          exact ⟨hoD, fD, by rw [eL]; exact hDC, by rw [eFs]; exact fsN sD, fun v z => by cases z⟩
      have hlocB : Xb.env.scope.names.lookup x = some .local := by rw [← hXb]; exact lookup_relabel_local hx
      have hEnv : compEnvC scope [] C X.env = Xb.env := by rw [← hXb]
      have hprog : Xb.prog = X.prog := by rw [← hXb]
      have hw : Xb.w = X.w := by rw [← hXb]
      have hAA : Xb.A = X.A := by rw [← hXb]
      have hst : Xb.stack = X.stack := by rw [← hXb]
      have hmgB : Xb.mg = X.mg := by rw [← hXb]
      have hKB : Xb.K = X.K := by rw [← hXb]
      have hbB : Xb.base = X.base := by rw [← hXb]
      have hglB : Gl Xb g := by
        have key := lookup_relS_keep (sc := X.env.scope) (by intro z; cases z) hg
        rw [← hXb]
        exact key
      have eX : Xb.ex = [] := by rw [← hXb]
      have eH : Xb.H_0 = H1 := by rw [← hXb]
      have cpX := cp I.ok
      have C0 : CellsAt F.cl fr (js.map (slotAt σ)) Xb.s_0.heap Xb.H_0 := by
        rw [eS, eH]
        exact cells_of I1 cpX
      have nf : ∀ y c, F.cl.lookup y = some c → c ∉ frs X.stack := fun y c e z => by
        have e' := cpX.sub y c e
        rcases List.mem_cons.mp (I1.stkSub c z) with z | z
        · exact I1.cne y c e' z
        · have h1 := I1.ok.cab y c (by rw [hfn]) e'
          obtain ⟨_, ob, hob, _⟩ := I1.ok.funs.mem z
          exact absurd (Nat.lt_of_lt_of_le (Heap.lt_size hob) h1) (Nat.lt_irrefl _)
      rw [hEnv, ← hAA, ← hprog, ← hw]
      refine wpAny_assign_Name (store_ok Ip (by rw [eN]; exact hN) (by rw [eN]; exact hi) (.inl hlocB) (v := V.ref f) rfl (fun s5 I5 => ?_) (.inr hlocB))
      refine wpAny_tests_nil ?_
      rw [if_pos rfl]
      have hsl : (List.replicate X.N.length (none : Option V)).set i (some (.ref f)) = (List.replicate X.N.length (none : Option V)).set i (some (.ref f)) := rfl
      have hiN : i < X.N.length := (List.getElem?_eq_some_iff.mp hi).1
      have hget : ((List.replicate X.N.length (none : Option V)).set i (some (.ref f)))[i]? = some (some (.ref f)) := List.getElem?_set_self (by simpa using hiN)
      refine wpAny_Call_Name_kw (ld_glob (X := Xb) I5 hglB (by rw [hmgB]; exact hm) ?_ hdb)
      have hkB : PySem.W.keepIn Xb.K (.ref gA) = true := by rw [hKB]; exact hk
      obtain ⟨mm, hnsB, hlk⟩ := I5.loc
      obtain ⟨uu, ru, lk⟩ := hlk i x (.ref f) (by rw [eN]; exact hi) hget (.inl hlocB)
      obtain rfl : uu = Value.ref f := ru
      have hmm : mm x = some (.ref f) := by
        rcases lk with ⟨_, z⟩ | ⟨z, _⟩
        · exact z
        · have z' : Xb.env.scope.names.lookup x = some .cell ∨ Xb.env.scope.names.lookup x = some .free := z
          rw [hlocB] at z'
          rcases z' with z' | z' <;> cases z'
      refine PySem.W.callWith_K (h₀ := Xb.base) I5.ok.mod.kin hkB (Calls.spliced_cons (wpAny_Name (wpAny_loadName_local I5.ok.kind hlocB hnsB hmm (Calls.spliced_nil ⟨I5.kIn, ?_⟩)) hdx)) rfl rfl
      show wpAny _ _ (call (.ref gA) [.ref f]) _ _ _
      have C5 : CellsAt F.cl fr (js.map (slotAt σ)) s5.heap H4 := C0.later (fun y c e => by rw [eFs]; exact nf y c e) (fun y c e z => by rw [eX] at z; cases z) I5
      have TH : Thunk X.prog X.w X.K X.mg X.base CXl j X.stack s5 H4 f (lsp (js.map (slotAt σ))) := ⟨F, fr, _, lsp, L, hf, hco, hdv, C5, nf, rfl⟩
      have e5 := I5.env0
      rw [hprog, hw, hKB, hmgB, hbB, hAA, hst] at e5
      refine wpAny_call (codeAny_mono (hprog ▸ hw ▸ hAA ▸ G X.A X.stack s5 H4 f _ _ (fun _ _ _ => False) hr e5 TH q5) fun r s6 hq => ?_)
      cases r with
      | error e => exact False.elim hq
      | ok fl =>
        cases fl with
        | next => exact False.elim hq
        | brk => exact False.elim hq
        | cont => exact False.elim hq
        | ret z =>
          have hq' : CE Xb.stack Xb.prog Xb.w H4 s5 (fun y H2 => gAll X CXl j sp σ a xs Q (xs.drop (m + 1)) (acc ++ [y]) H2) z s6 := by rw [hst]; exact hq
          obtain ⟨y, H6, I6, ry, q6⟩ := I5.after hq'
          have p1 := I6.pin (it, oi) (List.mem_append_right _ List.mem_cons_self)
          have p2 := I6.pin (D, ({ cls := .type "list", data := .seq ys.toArray nD4 } : Obj)) (List.mem_append_right _ (List.mem_cons_of_mem _ List.mem_cons_self))
          obtain ⟨its6, ri6, ⟨o6, n6, ho6, hc6, _, hd6⟩, _⟩ := I6.list (by rw [hKB]; exact gAll_list q6)
          refine ⟨⟨H6, acc ++ [y], ?_, ra.append (.cons ry .nil), by rw [List.length_append, la]; rfl, p2.2.1, p1.2.1, q6⟩, ⟨⟨oi, p1.1, hoc, hod⟩, its6.toArray, ⟨o6, ho6, hc6, n6, hd6⟩, by simpa using ri6⟩, ⟨nD4, p2.1⟩⟩
          refine (I6.pins_of (pins' := []) (fun p hp => absurd hp (by simp))).weak (by simp) fun ii v e => ?_
          rw [List.getElem?_replicate] at e
          split at e <;> cases e
    · -- the end
      rintro ys s4 ⟨H4, acc, I4, ra, la, fD, fI, q4⟩ ⟨nD4, hoD⟩
      obtain ⟨mC, hnC, _⟩ := I4.loc
      rw [eL] at hnC
      refine ⟨mC, hnC, fun h5 sb => ?_⟩
      rw [List.drop_length] at q4
      have hgt : ∀ q u, q ≠ C → s4.heap.get? q = some u → h5.get? q = some u := fun q u hq e => (sb.2 q hq).trans e
      have fC : H4 C = none := by have z := I4.free; rw [eL] at z; exact z
      have ub := I4.base
      have uo := I4.os
      have hk4 := I4.hok
      rw [eFs, eS] at ub
      have eH : Xb.H_0 = H1 := by rw [← hXb]
      have eX : Xb.ex = [] := by rw [← hXb]
      rw [eH, eX] at ub
      rw [eS] at uo
      have hprog : Xb.prog = X.prog := by rw [← hXb]
      have hw : Xb.w = X.w := by rw [← hXb]
      rw [hprog, hw] at hk4
      have neS : ∀ {q : Addr} {u : Obj}, s1.heap.get? q = some u → q ≠ C ∧ q ≠ D := fun {q u} e => ⟨Nat.ne_of_lt (Nat.lt_of_lt_of_le (Heap.lt_size e) sC), Nat.ne_of_lt (Nat.lt_of_lt_of_le (Heap.lt_size e) sD)⟩
      have lenA : acc.length ≤ 1000 := by rw [la]; exact hlen
      have U : Un (frs X.stack) [] H1 (upd H4 D (.lst acc)) s1.heap h5 := {
        keep := fun q u e nq hf hx2 => hgt q u (neS e).1 (ub.keep q u e nq hf hx2)
        slot := fun q u e nq hf hx2 => by
          obtain ⟨sl, z⟩ := ub.slot q u e nq hf hx2
          exact ⟨sl, hgt q _ (neS e).1 z⟩
        free := fun q u e nq hx2 => by rw [upd_ne (neS e).2]; exact ub.free q u e nq hx2
        there := fun q u e hx2 => by
          obtain ⟨u', z⟩ := ub.there q u e hx2
          exact ⟨u', hgt q _ (neS e).1 z⟩
        tups := fun q ys2 e => by
          have z := ub.tups q ys2 e
          rw [upd_ne (ne_of_none z fD)]
          exact z
        frzs := fun q o2 u e => by
          have z := ub.frzs q o2 u e
          rw [upd_ne (ne_of_none z fD)]
          exact z
        tbls := fun q ps e => by
          obtain ⟨more, z⟩ := ub.tbls q ps e
          exact ⟨more, by rw [upd_ne (ne_of_none z fD)]; exact z⟩ }
      have hok5 : HOk X.prog X.w (upd H4 D (.lst acc)) h5 := fun q u e => by
        by_cases hq : q = D
        · subst hq
          rw [upd_same] at e
          cases e
          exact ⟨Nat.le_trans lenA (by decide), ys, nD4, ra, hgt q _ hDC hoD⟩
        · rw [upd_ne hq] at e
          refine (hk4 q u e).stay (fun c v hc2 z => hgt c v (fun zc => ?_) z) (fun c z => by rw [upd_ne (ne_of_none z fD)]; exact z) fun c zs z => by rw [upd_ne (ne_of_none z fD)]; exact z
          rcases hc2 with hc2 | hc2
          · rw [← hc2, zc, fC] at e
            cases e
          · rw [zc, fC] at hc2
            cases hc2
      have J : Inv X pins σ (upd H4 D (.lst acc)) { s4 with heap := h5 } := I1.call' (ch := []) uo U hok5 I4.bare fun q hq => absurd hq (by simp)
      exact ⟨.ref D, _, J, rfl, q4.2 D fD⟩
end
end Sea

set_option Elab.async false
set_option linter.all false
set_option maxRecDepth 100000
set_option maxHeartbeats 4000000
/-! an own exception class called with keywords alone: C(k = v, ..) -/
namespace Sea
open PySem PySem.Spec PyProof.Rows PySem.HandSPX
/-- in h the class C is one of errors over ValueError: what it inherits, by the built-in names -/
structure ErrAt (h : Heap) (C : Addr) : Prop where
  ex : ∃ nm q N bs bm sn sub ab col dd k0 k1 k2 k3 k5, h.get? C = some (excClassObj nm q C N bs bm true sn sub ab col dd k0 k1 k2 k3 k5 "ValueError.__new__") ∧ refsVE bm = true
theorem ErrAt.over {bm : List Value} (C : Addr) (h : refsVE bm = true) (X : String) : (Value.ref C :: bm).contains (.type X) = veTail.contains (.type X) :=
  (List.contains_cons).trans ((Bool.false_or _).trans (refsVE_contains X bm h))
/-- the heap in which the error stands, its arguments empty -/
abbrev born (C : Addr) (h : Heap) : Heap := (h.push (W.kdv_tup [])).push (excO C h.objs.size)
theorem born_old {C : Addr} {h : Heap} : ∀ b o, h.get? b = some o → (born C h).get? b = some o := fun _ _ z => Heap.get?_push_of_some _ (Heap.get?_push_of_some _ z)
theorem born_new {C : Addr} {h : Heap} : (born C h).get? (h.objs.size + 1) = some (excO C h.objs.size) := by
  rw [← Heap.size_push h (o := W.kdv_tup [])]
  exact Heap.get?_push_size _ rfl
section
variable {prog : Program} {w : World} {A : Around} {R : Result → Shared → Prop} {s : Shared} {C : Addr} {kw : List (Str × Value)}
/-- ValueError.__new__(C, k = v, ..) -/
theorem err_born (T : ErrAt s.heap C) (q : R (.ok (.ret (.ref (s.heap.objs.size + 1)))) { s with heap := born C s.heap }) : codeAny (model prog w) A (.call (.builtin "ValueError.__new__") ⟨[.ref C], kw⟩) R s := by
  obtain ⟨nm, qn, N, bs, bm, sn, sub, ab, col, dd, k0, k1, k2, k3, k5, at_, ve⟩ := T.ex
  have V := F.excBase_ValueError
  have yes : (Value.ref C :: bm).contains (.type "ValueError") = true := ErrAt.over C ve _
  have no1 : (Value.ref C :: bm).contains (.type "AttributeError") = false := ErrAt.over C ve _
  have no2 : (Value.ref C :: bm).contains (.type "NameError") = false := ErrAt.over C ve _
  have tail := V.ends
  have star := V.noStar
  obtain ⟨hp, g, d, t, os⟩ := s
  apply codeAny_call_builtin_code (Code.quiet_builtin _ V.quiet)
  simp only [checkBuiltinCall, V.newKind, V.newSplit, V.newRow]
  repeat (first
    | (refine wpAny_isSubtype_exc at_ ?_; rw [yes])
    | refine wpAny_loadPart_at at_ ?_
    | refine wpAny_madeBy_exc at_ ?_
    | refine wpAny_staticBase_exc at_ ?_
    | simp only [bne_self_eq_false, Bool.false_eq_true, if_false]
    | wp_step)
  apply codeAny_builtinAt V.entry
  unfold Builtin.«BaseException.__new__»
  refine PySem.wpAt_bind ?_
  refine PySem.wpAt_bind (m := stack) (PySem.wpAt_stack ?_)
  intro p below
  refine PySem.wpAt_of_wpAny ?_
  wp_walk
  refine PySem.wpAt_of_wpAny ?_
  rw [V.owner]
  repeat (first
    | (with_reducible refine wpAny_isSubtype_exc at_ ?_; simp only [yes, no1, no2])
    | with_reducible refine wpAny_loadPart_at at_ ?_
    | with_reducible refine wpAny_madeHere_exc V.canon at_ ?_
    | wp_step)
  exact (Heap.size_push hp (o := W.kdv_tup [])).symm ▸ q
/-- C(k = v, ..): the error is born, then its class's def __init__ has it -/
theorem err_call {fI : Addr} (T : ErrAt s.heap C) (ini : W.Looks (model prog w) s.heap (typeLookup (.ref C) "__init__") (some (.ref fI))) (bnd : ∀ self, W.Looks (model prog w) s.heap (bindSpecial (.ref fI) self) (.ref fI, [self]))
    (q : codeAny (model prog w) (A.under (.builtin "type.__call__" ⟨[.ref C], kw⟩)) (.call (.ref fI) ⟨[.ref (s.heap.objs.size + 1)], kw⟩) (W.InitBack (s.heap.objs.size + 1) R) { s with heap := born C s.heap }) :
    codeAny (model prog w) A (.call (.ref C) ⟨[], kw⟩) R s := by
  have ⟨nm, qn, N, bs, bm, sn, sub, ab, col, dd, k0, k1, k2, k3, k5, at_, ve⟩ := T.ex
  have isC : (Value.ref C :: bm).contains (.ref C) = true := by simp
  have isTy : s.TypeIs (.ref C) "type" := ⟨_, at_, rfl⟩
  have dunder := tc_lookup
  have bound := tc_bind (.ref C)
  have tsub := tc_sub
  have ini' := ini.keeps (born_old (C := C))
  have bnd' := (bnd (.ref (s.heap.objs.size + 1))).keeps (born_old (C := C))
  have at2 := born_old (C := C) _ _ at_
  have new2 := born_new (C := C) (h := s.heap)
  obtain ⟨hp, g, d, t, os⟩ := s
  dsimp only at at_ at2 new2 ini' bnd' q
  have quiet := Code.quiet_builtin (id := "type.__call__") ⟨[.ref C], kw⟩ (by decide +kernel)
  apply codeAny_of_tree
  show wpAny _ _ (callAny (.ref C) _) _ _ _
  repeat (any_goals (first | assumption | with_reducible refine wpAny_loadPart_at at_ ?_ | wp_step))
  refine ⟨rfl, codeAny_call_builtin_at quiet entry_typeCall ?_⟩
  simp only [checkBuiltinCall, tc_kind, tc_split]
  unfold Builtin.«type.__call__»
  repeat (any_goals (first
    | assumption
    | with_reducible refine wpAny_loadPart_at at_ ?_
    | with_reducible refine wpAny_onRaise ?_
    | with_reducible refine wpAny_map ?_
    | with_reducible refine wpAny_madeBy_exc at_ ?_
    | wp_step))
  refine err_born (s := ⟨hp, g, d, t, os⟩) T ?_
  show wpAny _ _ _ _ _ _
  have i1 : (born C hp).get? (hp.objs.size + 1) = some (excO C hp.objs.size) := new2
  unfold isInstance
  repeat (first
    | with_reducible refine wpAny_loadPart_at new2 ?_
    | (with_reducible refine wpAny_isSubtype_exc at2 ?_; rw [isC])
    | wp_step)
  show wpAny _ _ (typeLookup (.ref C) "__init__") _ _ ⟨born C hp, g, d, t, os⟩
  refine ini'.at ?_
  refine wpAny_holding (wpAny_bind (bnd'.at (wpAny_bind (wpAny_call ?_))))
  refine codeAny_mono q fun r s2 z => ?_
  match r, z with
  | .error _, z => exact z
  | .ok (.ret _), ⟨e, z⟩ =>
    subst e
    exact wpAny_pure (wpAny_pure z)
  | .ok .next, z => exact z.elim
  | .ok .brk, z => exact z.elim
  | .ok .cont, z => exact z.elim
end
end Sea

set_option Elab.async false
set_option linter.all false
set_option maxRecDepth 100000
set_option maxHeartbeats 4000000
/-! raise C(k = v, ..), C an own exception class over another own one whose __init__ says P.__init__(self, text) and stores its keywords -/
namespace Sea
open PySem PySem.Spec PyProof.Rows L2 LamX NdefX ClX
/-- C(k = v, ..) -/
def tMkK (C : Addr) (n : Nat) (sp : Sp) (gV : List V → List V → List V) (tk : TA) : L2.St → Hp → XK → Prop := fun σ H Q => tk σ H fun zs H1 => zs.length = n ∧ ∀ a, H1 a = none → sp (gV [.ref a] zs) (upd H1 a (exo a C none))
  (fun v H2 => v = .non ∧ ∃ (d : Addr) (fs : List (Str × V)), H2 a = some (exo a C (some d)) ∧ H2 d = some (exd d fs) ∧ H1 d = none ∧ Q (.ref C) (some d) (upd (del H2 a) d (.xd fs))) (fun _ _ _ => False)
section
variable {X : Cx} {e : Expr} {es : List Expr} {ta : TA} {p p1 p2 pos : Pos} {kws : List Keyword} {tk : TA} {ks : List Str} {g : List Value → List Value → List Value} {gV : List V → List V → List V}
theorem pe_pinit {x : Str} {B : Addr} {mc : Value} {pl : Sem Bool} (hg : Gl X x) (hm : X.mg x = some (.ref B)) (rd : PySem.W.readsIn X.K B mc = true) (ga : PySem.W.specialIn X.K (.ref B) "__getattribute__" = some (some (.builtin "type.__getattribute__")))
    (hat : PySem.W.findCls X.K (.ref B) mc "__init__" = some (.val (.builtin "ValueError.__init__"))) (ha : PA X (e :: es) ta) (hdb : (x == ("__debug__" : Str)) = false := by decide)
    (hc : eval (.Call (.Attribute (.Name x p1) "__init__" p2) (e :: es) [] pos) X.env = (do
      let ov ← eval (.Name x p1) X.env
      standAt p2.atName
      let (f, first) ← holding [ov] (getMethod ov "__init__" pl)
      callWith pos f first (backTo pos (starEach (e :: es) X.env)) (backToKw pos (keywordEach [] X.env))) := by rfl)
    (he : starEach (e :: es) X.env = (false, eval e X.env) :: starEach es X.env := by rfl) (hpl : (backTo pos (starEach es X.env)).any (·.1) = false := by rfl) :
    PE X (.Call (.Attribute (.Name x p1) "__init__" p2) (e :: es) [] pos) (tVeI X.K ta) := by
  constructor
  intro pins s σ H Q I h
  apply PySem.W.methodCall_KW (ld_glob I hg hm (PySem.W.method_cls I.kIn ga (PySem.W.cls_value I.kIn rd hat (by decide +kernel) ?_)) hdb) hc
  have args := ha.run pos pins _ σ H _ (I.tok (s.toks + 1)) h
  show wpAny _ _ (callWith pos (Value.builtin "ValueError.__init__") [] (backTo pos (starEach (e :: es) X.env)) []) _ _ _
  refine PyProof.Rows.callWith_method1 (thn args ?_) he hpl
  rintro us s1 ⟨_, H1, J, rel, a, C, ws, rfl, few, T, ea, q⟩
  match us, rel with
  | u :: ur, .cons ra rr =>
    rw [show u = .ref a from ra]
    have short : ur.length ≤ sizeLine := by
      rw [sizeLine_eq, ← Paired.length rr]
      omega
    exact oinit_ok T J ea short fun s' L => ⟨.non, H1, L, rfl, q⟩
theorem pmk_kw {CX : CXT} {x : Str} {C fI : Addr} {k : Nat} {fd : FuncData} {ps : List Str} {sp : Sp} (T : OexC X.K C) (iC : PySem.W.findIn X.K (.ref C) "__init__" = some (some (.ref fI))) (tI : PySem.W.typeIn X.K (.ref fI) = some (.type "function"))
    (F1 : FnOk X.prog X.w X.K X.mg X.base CX k fI fd ps sp) (hr : Room (k + 1) X.A) (hb : KBn X.K fd ps 1 ks g gV) (hx : Passes CX X (fun _ _ _ => False)) (hg : Gl X x) (hm : X.mg x = some (.ref C)) (hkw : PK X kws tk)
    (hall : (backToKw pos (keywordEach kws X.env)).all (·.1.isSome) = true := by rfl) (hks : (backToKw pos (keywordEach kws X.env)).filterMap (·.1) = ks := by rfl) (hdb : (x == ("__debug__" : Str)) = false := by decide)
    (hpl : ((backTo pos (starEach [] X.env)).any (·.1) || (backToKw pos (keywordEach kws X.env)).any (·.1.isNone)) = false := by rfl) :
    PMk X (.Call (.Name x p) [] kws pos) (tMkK C ks.length sp gV tk) := by
  intro pins s σ H Q I h
  apply wpAny_Call_Name_kw
  apply ld_glob I hg hm ?_ hdb
  apply PySem.W.callWith_KW0 (h₀ := X.base) I.ok.mod.kin T.kC hall ?_ hpl
  refine thn (hkw.run pos pins s σ H _ I h) ?_
  rintro ws ⟨hp, g1, dr, tk', os⟩ ⟨zs, H1, J, rel, many, q⟩
  have err : ErrAt hp C := by
    obtain ⟨nm, qn, N, bs, bm, sn, sub, ab, col, dd, k0, k1, k2, k3, k5, at_, ve⟩ := T.cls
    exact ⟨nm, qn, N, bs, bm, sn, sub, ab, col, dd, k0, k1, k2, k3, k5, J.kIn _ _ at_, ve⟩
  have above : hp.objs.size ≤ hp.objs.size + 1 := Nat.le_succ _
  -- the invariant once the error stands in the heap
  have L : Inv X pins σ (upd H1 (hp.objs.size + 1) (exo (hp.objs.size + 1) C none)) ⟨born C hp, g1, dr, tk', os⟩ := J.laid (t' := tk') born_old above (exo_ok born_new)
  have ini := F1.run _ X.stack _ _ ⟨[.ref (hp.objs.size + 1)], ks.zip ws⟩ (g [.ref (hp.objs.size + 1)] ws) _ _ (fun _ _ _ => False) (hr.make C [] (ks.zip ws)) (L.env0.make C [] (ks.zip ws))
    (hb.to _ [.ref (hp.objs.size + 1)] ws L.kIn rfl (rel.length.symm.trans many)) (hb.rel (us := [.ref (hp.objs.size + 1)]) (vs := [.ref (hp.objs.size + 1)]) (.cons rfl .nil) rel) (q (hp.objs.size + 1) (J.hok.fresh above))
  rw [hks]
  refine ⟨J.kIn, wpAny_call (err_call err (PySem.W.looks_findIn J.kIn iC) (fun self => PySem.W.bind_fn J.kIn self tI) (codeAny_mono ini ?_))⟩
  intro r s' back
  match r, back with
  | .error er, back => exact hx pins σ _ _ er s' L back
  | .ok .next, back => exact back.elim
  | .ok .brk, back => exact back.elim
  | .ok .cont, back => exact back.elim
  | .ok (.ret _), ⟨_, H2, os2, bare, un, hok, rv, e, d, fs, ea, ed, hd1, q2⟩ =>
    subst e
    obtain ⟨h2, g2, d2, t2, os3⟩ := s'
    exact ⟨rv, mk_end (raises_own T.exC T.tyC) J above born_old un hok os2 bare ea ed hd1 q2⟩
end

/-! ### the __init__ of such a class: one keyword, two keywords -/
/-- the class facts that the body asks: its parent's __init__ is ValueError's -/
structure PIn (K : PySem.W.Frag) (mg : Str → Option Value) (x : Str) (B : Addr) (mc : Value) : Prop where
  gB : mg x = some (.ref B)
  rd : PySem.W.readsIn K B mc = true
  ga : PySem.W.specialIn K (.ref B) "__getattribute__" = some (some (.builtin "type.__getattribute__"))
  at_ : PySem.W.findCls K (.ref B) mc "__init__" = some (.val (.builtin "ValueError.__init__"))
def spX1 (K : PySem.W.Frag) (f : Str) : Sp := fun vs H Q _ => ∃ (a C : Addr) (y : V), vs = [.ref a, y] ∧ OexC K C ∧ PySem.W.findIn K (.ref C) f = some none ∧ H a = some (exo a C none) ∧
  ∀ dx, H dx = none → dx ≠ a → Q .non (upd (upd H dx (exd dx [(f, y)])) a (exo a C (some dx)))
def spX2 (K : PySem.W.Frag) (f g : Str) : Sp := fun vs H Q _ => ∃ (a C : Addr) (y z : V), vs = [.ref a, y, z] ∧ OexC K C ∧ PySem.W.findIn K (.ref C) f = some none ∧ PySem.W.findIn K (.ref C) g = some none ∧ H a = some (exo a C none) ∧
  ∀ dx, H dx = none → dx ≠ a → Q .non (upd (upd (upd H dx (exd dx [(f, y)])) a (exo a C (some dx))) dx (exd dx [(g, z), (f, y)]))
theorem gone_eq {H : Hp} {a d : Addr} {o : HO} {u w v : HO} (ha : H a = none) (hd : d ≠ a) : upd (del (upd (upd H d u) a o) a) d v = upd H d v := by
  funext b
  by_cases hb : b = d
  · subst hb
    rw [upd_same, upd_same]
  · rw [upd_ne hb, upd_ne hb]
    by_cases hba : b = a
    · subst hba
      rw [del_same, ha]
    · rw [del_ne hba, upd_ne hba, upd_ne hb]
theorem gone_eq2 {H : Hp} {a d : Addr} {o : HO} {u w v : HO} (ha : H a = none) (hd : d ≠ a) : upd (del (upd (upd (upd H d u) a o) d w) a) d v = upd H d v := by
  funext b
  by_cases hb : b = d
  · subst hb
    rw [upd_same, upd_same]
  · rw [upd_ne hb, upd_ne hb]
    by_cases hba : b = a
    · subst hba
      rw [del_same, ha]
    · rw [del_ne hba, upd_ne hb, upd_ne hba, upd_ne hb]
end Sea

set_option Elab.async false
set_option linter.all false
set_option maxRecDepth 100000
set_option maxHeartbeats 4000000
/-! enumerate over a tuple -/
namespace Sea
open PySem PySem.Spec PyProof.Rows L2
/-- enumerate(t), t the tuple at a: a new iterator over it, and a new cell that counts -/
structure EnumMade (a : Addr) (h h2 : Heap) : Prop where
  cell : IsEnum h2 (h.objs.size + 1) h.objs.size 0 .none
  iter : h2.IsTupleIter h.objs.size a 0
  old : ∀ b o, h.get? b = some o → h2.get? b = some o
theorem enumMade (a : Addr) (h : Heap) :
    EnumMade a h ((h.push { cls := .type "tuple_iterator", data := .fields #[.ref a, .int 0 0] }).push { cls := .type "enumerate", data := .fields #[.none, .bool false, .ref h.objs.size, rawInt 0, .none, .none] }) where
  cell := by
    show Heap.get? _ _ = _
    rw [← Heap.size_push h (o := { cls := .type "tuple_iterator", data := .fields #[.ref a, .int 0 0] })]
    exact Heap.get?_push_size _ rfl
  iter := ⟨_, Heap.get?_push_of_some _ (Heap.get?_push_size h rfl), rfl, rfl⟩
  old := fun _ _ z => Heap.get?_push_of_some _ (Heap.get?_push_of_some _ z)
theorem Sem_any {α : Type} {M : Model} {A : Around} {E : Value → Shared → Prop} {s : Shared} {v : α} {Q : α → Shared → Prop} (q : ∀ x, Q x s) : wpAny M A (pure v) Q E s := wpAny_pure (q v)
theorem new_enumT (a : Addr) (its : Array Value) :
    Meets (Builtin.«enumerate.__new__» ⟨[.type "enumerate", .ref a], []⟩) (fun _ R s => s.heap.IsTuple a its ∧ ∀ h2, EnumMade a s.heap h2 → R (.ok (.ret (.ref (s.heap.objs.size + 1)))) { s with heap := h2 }) := by
  apply Meets.of_wp
  intro prog w A R s z
  have ht := z.1
  have made := z.2
  have ready := sub_enumerate
  have got := made _ (enumMade a s.heap)
  rw [← Heap.size_push s.heap (o := { cls := .type "tuple_iterator", data := .fields #[.ref a, .int 0 0] })] at got
  have it : ∀ {B : Around} {Er T : Value → Shared → Prop}, T (.ref s.heap.objs.size) { s with heap := s.heap.push _ } → wpAny (model prog w) B (pyIter (.ref a)) T Er s := fun r => (begins_tuple a its).iter prog w _ _ s _ ht r
  wp_walk using it
  refine wpAny_stack_any fun stk => Sem_any fun short => ?_
  cases short <;> wp_walk using it <;> exact ⟨_, rfl, got⟩
theorem call_enumT {prog : Program} {w : World} {A : Around} {E Q : Value → Shared → Prop} {s : Shared} {a : Addr} {its : Array Value} (ht : s.heap.IsTuple a its) (h : ∀ h2, EnumMade a s.heap h2 → Q (.ref (s.heap.objs.size + 1)) { s with heap := h2 }) :
    wpAny (model prog w) A (call (.type "enumerate") [.ref a]) Q E s :=
  callType_new F.called_enumerate (by decide) (F.typeCall_enumerate_1 _) (F.newCall_enumerate_1 _) (fun obj => F.args_object_init_2 obj _) F.entry_enumerate_new (new_enumT a its)
    ⟨ht, fun h2 m => ⟨⟨_, m.cell, rfl⟩, h h2 m⟩⟩
/-- the turns over a tuple that is known to hold xs: while there are items, a new pair of the place and the item -/
def IteT (K : PySem.W.Frag) (a : Addr) (xs : List V) : It where
  go i H := i < xs.length ∧ SqT K H a xs
  yld i H v H' := ∃ x pair, xs[i]? = some x ∧ H pair = none ∧ v = .ref pair ∧ H' = upd H pair (.tup [.int (i : Nat), x])
  stop i H := i = xs.length ∧ SqT K H a xs
/-- the walk over enumerate, as the library's WalksT.enumFrom tells it, read as turns of IteT -/
theorem turn_enumT {P : Program} {w : World} {K : PySem.W.Frag} {elts : List Expr} {kk : Nat} {tpos : Pos} (a e it : Addr) (xs : List V) (hei : e ≠ it) (hai : a ≠ it) (hae : a ≠ e) :
    Turn P w K (.Tuple elts kk tpos) (IteT K a xs) [e, it] e (fun i h => (∃ old, IsEnum h e it (0 + (i : Int)) old) ∧ h.IsTupleIter it a i) := by
  have walk := fun (A : Around) (hh : A.handled = none) (its : Array Value) =>
    WalksT.enumFrom (prog := P) (w := w) (A := A) 0 (Draws.tuple (A := A.in1) hh it a hai its) e hei (by simp [hei, Ne.symm hae]) (by simp)
  refine { mem := List.mem_cons_self .., obj := ?_, keep := ?_, item := ?_, done := ?_, self := ?_ }
  · rintro i h ⟨⟨old, he⟩, o, ho, _, hd⟩ b hb
    simp only [List.mem_cons, List.not_mem_nil, or_false] at hb
    cases hb with
    | inl hb => subst hb; exact ⟨_, he, by intro v; simp⟩
    | inr hb => subst hb; exact ⟨o, ho, by intro v; rw [hd]; simp⟩
  · rintro i h h2 ⟨⟨old, he⟩, hi⟩ k
    exact ⟨⟨old, k e (by simp) _ he⟩, hi.at fun o q => k it (by simp) o q⟩
  · rintro X rfl rfl rfl hc i pins s σ H Ex I hf ⟨en, hi⟩ ⟨lt, hq⟩
    obtain ⟨its, rv, pt, _⟩ := I.tuple hq
    have hx : xs[i]? = some xs[i] := List.getElem?_eq_getElem lt
    generalize xs[i] = x at hx
    obtain ⟨y, hy, ry⟩ := rv.get hx
    have W := walk X.A (I.ok.hd hc) its.toArray
    refine W.item i s _ _ (by simpa using (List.getElem?_eq_some_iff.mp hy).1) ⟨en, hi, pt⟩ ?_
    rintro T vals h2 tk ⟨t, z, hz, rfl⟩ hle hT hmid hk
    obtain rfl : z = y := Option.some.inj (Eq.trans (by simpa using hz.symm) hy)
    refine ⟨_, rfl, W.go elts kk tpos i T _ _ _ hmid fun h3 st3 hk3 => ?_⟩
    have keeps : ∀ b o, b ∉ [e, it] → s.heap.get? b = some o → h3.get? b = some o := fun b o hb q => hk3 b o hb (hk b o hb q)
    have pair : ObjOk X.prog X.w (upd H T (.tup [.int (i : Nat), x])) h3 T (.tup [.int (i : Nat), x]) :=
      ⟨by show 2 ≤ sizeLine; decide, [.int (0 + (i : Int)) t, z], .cons ⟨t, by rw [Int.zero_add]⟩ (.cons ry .nil), hT.at fun o q => hk3 T o (W.apart i T h2 hmid) q⟩
    have nT : H T = none := I.hok.fresh hle
    refine ⟨.ref T, _, I.turnedNew (t' := tk) keeps hf hle pair, rfl, ⟨x, T, hx, nT, rfl, rfl⟩, ⟨st3.1, st3.2.1⟩, fun b hb => ?_⟩
    rw [upd_ne (show b ≠ T from fun z => W.apart i T h2 hmid (z ▸ hb))]
    exact (hf b hb).1
  · rintro X rfl rfl rfl hc i pins s σ H Ex I hf ⟨en, hi⟩ ⟨rfl, hq⟩
    obtain ⟨its, rv, pt, _⟩ := I.tuple hq
    have W := walk X.A (I.ok.hd hc) its.toArray
    have hn : its.toArray.size = xs.length := by simpa using rv.length.symm
    exact W.done s _ _ (by rw [hn]; exact ⟨en, hi, pt⟩) fun h2 tk hk => ⟨rfl, I.turnedL (t' := tk) hk hf⟩
  · exact fun A i s Q Ex st h => wpAny_pyIter_enum st.1.choose_spec h
def iEnumT (K : PySem.W.Frag) (ta : TA) : TI := fun σ H R => ta σ H fun vs H1 => ∃ a xs, vs = [.ref a] ∧ SqT K H1 a xs ∧ R (IteT K a xs) H1
theorem pi_enumT {X : Cx} {e : Expr} {ta : TA} {p pos tpos : Pos} {elts : List Expr} {kk : Nat} (hg : Gl X "enumerate") (hm : X.mg "enumerate" = none) (ha : PA X [e] ta) (hs : starEach [e] X.env = [(false, eval e X.env)] := by rfl) :
    PI X (.Tuple elts kk tpos) (.Call (.Name "enumerate" p) [e] [] pos) (iEnumT X.K ta) where
  run pins s σ H R I h := by
    refine Call_ (ld_blt I hg hm boot_enumerate (PyProof.Rows.callWith_type1 (thn (ha.run pos pins s σ H _ I h) ?_) hs rfl))
    rintro us s1 ⟨_, H1, I1, r1, a, xs, rfl, hq, q⟩
    obtain ⟨u, rfl, ru⟩ := r1.one
    obtain rfl : u = .ref a := ru
    obtain ⟨its, rv, pt, _⟩ := I1.tuple hq
    have below : a < s1.heap.objs.size := by
      obtain ⟨_, z, _⟩ := (show s1.heap.IsTuple a its.toArray from pt)
      exact Heap.lt_size z
    refine call_enumT pt fun h2 m => wpAny_pyIter_enum m.cell ⟨_, _, _, _, H1, rfl, I1.kept (t' := s1.toks) m.old, turn_enumT a (s1.heap.objs.size + 1) s1.heap.objs.size xs (Nat.succ_ne_self _) (Nat.ne_of_lt below) (Nat.ne_of_lt (Nat.lt_succ_of_lt below)), ⟨⟨_, m.cell⟩, m.iter⟩, ?_, q⟩
    have fresh : ∀ b, s1.heap.objs.size ≤ b → FpOk X pins H1 b := fun b hb => I1.fpOk hb (I1.hok.fresh hb)
    simpa using And.intro (fresh (s1.heap.objs.size + 1) (Nat.le_succ _)) (fresh s1.heap.objs.size (Nat.le_refl _))
end Sea

set_option Elab.async false
set_option linter.all false
set_option maxRecDepth 100000
set_option maxHeartbeats 4000000
/-! isinstance of a caught error that has a dict; list.count of flat items -/
namespace Sea
open PySem PySem.Spec PyProof.Rows L2
/-- the caught error, seen in the heap: an instance of its class, its dict (if it has one) beside it -/
theorem held_inst {X : Cx} {pins : List (Addr × Obj)} {σ : L2.St} {H : Hp} {s : Shared} {a D : Addr} {d : Option Addr} {oe : Obj} {pn : List (Addr × Obj)} (I : Inv (X.suite a ((a, oe) :: pn)) pins σ H s) (hz : Zc (.ref D) d oe) (hf : ∃ vs, oe.data = .fields vs)
    (hd : ∀ dx, d = some dx → ∃ fs, H dx = some (.xd fs)) : ∃ od, PySem.W.InstAt s.heap a oe D od := by
  have there := (I.pin (a, oe) (by simp)).1
  have plain : PySem.W.notCls oe := by
    obtain ⟨vs, hv⟩ := hf
    rw [PySem.W.notCls, hv]
  match d, hz, hd with
  | none, hz, _ => exact ⟨none, there, hz.1, plain, by rw [hz.2]; trivial⟩
  | some dx, hz, hd =>
    obtain ⟨fs, hx⟩ := hd dx rfl
    have ⟨mA, ns, _⟩ : ObjOk X.prog X.w H s.heap dx (.xd fs) := I.hok dx _ hx
    have ⟨od, ho, _⟩ := lookIn_ns ns
    exact ⟨some od, there, hz.1, plain, by rw [hz.2]; exact ho⟩
/-- isinstance(e, c), e the exception that the suite holds, with its dict (tracked) or without; D its class -/
def rIsX (K : PySem.W.Frag) (a : Addr) (cls : Value) (d : Option Addr) : List V → Hp → VK → Prop := fun xs H Q => ∃ (D : Addr) (c : V) (cv : Value) (b : Bool), cls = .ref D ∧ ExcC K D ∧ xs = [.ref a, c] ∧ (∀ u, RelV c u → u = cv) ∧ PySem.W.kitOne K (.ref D) cv = some b ∧ (∀ dx, d = some dx → ∃ fs, H dx = some (.xd fs)) ∧ Q (.bl b) H
theorem call_isX {X : Cx} {a : Addr} {cls : Value} {d : Option Addr} {oe : Obj} {pn : List (Addr × Obj)} (K : PySem.W.Frag) (hK : X.K = K) (hz : Zc cls d oe) (hf : ∃ vs, oe.data = .fields vs) : CallR (X.suite a ((a, oe) :: pn)) (.builtin "isinstance") (rIsX K a cls d) := by
  subst hK
  rintro pins s σ H _ us Q I r ⟨D, c, cv, b, rfl, C, rfl, told, one, hd, q⟩
  obtain ⟨x, t, rfl, rx, rt⟩ : ∃ x t, us = [x, t] ∧ RelV (.ref a) x ∧ RelV c t := match us, r with
    | _, .cons rx (.cons rt .nil) => ⟨_, _, rfl, rx, rt⟩
  obtain ⟨od, inst⟩ := held_inst I hz hf hd
  have dict : (PySem.W.clsIn X.K D).isSome := by
    obtain ⟨cd, z, _⟩ := PySem.W.any_some C.hd
    rw [z]
    rfl
  have kit := PySem.W.kitx_exc (x := a) (ox := oe) (od := od) dict C.hg C.hk C.hs C.ha C.hn C.ht C.hm
  rw [show x = .ref a from rx, told t rt]
  exact PySem.W.kia_one kit I.kIn inst one nofun fun tk => ⟨.bl b, H, I.kept (t' := tk) fun _ _ z => z, rfl, q⟩
/-- xs.count(y), flat items -/
def rCntF (K : PySem.W.Frag) : V → List V → Hp → VK → Prop := fun x xs H Q => ∃ (a : Addr) (ys : List V) (y : V), x = V.ref a ∧ xs = [y] ∧ SqL K H a ys ∧ flatV y = true ∧ ys.all flatV = true ∧ Q (.int (ys.countP (fun z => eqV z y) : Nat)) H
theorem cnt_flat {y : V} : ∀ {ys : List V} {its : List Value}, Vals ys its → ys.all flatV = true → its.countP (eqU y) = ys.countP (fun z => eqV z y)
  | _, _, .nil, _ => rfl
  | _, _, .cons r rr, f => by
    rename_i v u vs us
    rw [List.all_cons, Bool.and_eq_true] at f
    rw [List.countP_cons, List.countP_cons, cnt_flat rr f.2, eqU_of r f.1]
theorem mt_countF {X : Cx} : MtR X "list.count" (rCntF X.K) := by
  rintro pins s σ H _ _ v us Q I rx rxs ⟨a, ys, y, rfl, rfl, hs, fy, fys, q⟩
  obtain rfl : v = .ref a := rx
  obtain ⟨u, rfl, ru⟩ := rxs.one
  obtain ⟨its, rv, ⟨o, n, ho, hc, _, hd⟩, _⟩ := I.list hs
  obtain ⟨cls, dd, data, sl⟩ := o
  obtain rfl : cls = _ := hc
  obtain rfl : data = _ := hd
  have many := cnt_flat (y := y) rv fys
  have law := SeqAt.list_countAt a its.toArray n dd sl u (eqU y)
  refine call_meets PySem.F.slot_list_count ⟨_, ho, rfl⟩ PySem.F.entry_list_count (PySem.F.args_list_count_2 _ _) law ⟨ho, fun z hz => mem_eqAt ru fy rv fys z (by simpa using hz), ?_⟩
  rw [List.toList_toArray, many]
  exact ⟨.int (ys.countP (fun z => eqV z y) : Nat), H, I.tok _, ⟨s.toks, rfl⟩, q⟩
end Sea

set_option Elab.async false
set_option linter.all false
set_option maxRecDepth 100000
set_option maxHeartbeats 4000000
namespace Sea
open PySem PySem.Spec PyProof.Rows L2 LamX NdefX Evl
/-! ### what a suite may ask of the caught error, whatever its class -/
/-- e.f, e the caught error: its class is told by the reading; the library's rule for that class does the rest -/
def tXf (K : PySem.W.Frag) (f : Str) (a : Addr) (cls : Value) (d : Option Addr) (te : TE) : TE := fun σ H Q => ∃ D : Addr, cls = .ref D ∧ XfC K D ∧ PySem.W.findIn K (.ref D) f = some none ∧ L2.tXf a cls d D f te σ H Q
theorem pe_xf {X : Cx} {f : Str} {a : Addr} {oe : Obj} {cls : Value} {d : Option Addr} {pn : List (Addr × Obj)} {e : Expr} {te : TE} {pos : Pos} (K : PySem.W.Frag) (hK : X.K = K) (hz : Zc cls d oe) (hf : ∃ vs, oe.data = .fields vs) (he : PE (X.suite a ((a, oe) :: pn)) e te)
    (hb : attributeBase e f X.env (eval e X.env) = eval e X.env := by rfl) : PE (X.suite a ((a, oe) :: pn)) (.Attribute e f pos) (tXf K f a cls d te) :=
  ⟨fun pins s σ H Q I ⟨_, _, T, no, h⟩ => (L2.pe_xf (hK ▸ T) (hK ▸ no) hz hf he hb).run pins s σ H Q I h⟩
/-! ### the handed thunk called, its promise weakened -/
theorem cx_le {P : Program} {w : World} {outer : List Env} {H : Hp} {s s' : Shared} {E E' : XK} {e : Value} (h : L2.CX P w outer H s E e s') (m : ∀ c d H', E c d H' → E' c d H') : L2.CX P w outer H s E' e s' := by
  obtain ⟨a, B, H', cls, d, h1, h2, h3, h4, h5, h6, h7, h8⟩ := h
  exact ⟨a, B, H', cls, d, h1, h2, h3, h4, h5, h6, h7, m _ _ _ h8⟩
section
variable {X : Cx} {i j : Nat} {x : Str} {p pos : Pos} {E : L2.St → XK}
def tActM (X : Cx) (j i : Nat) (E : L2.St → XK) : TE := fun σ H Q => ∃ (f : Addr) (tl : Hp → VK → XK → Prop) (Q' : VK) (E' : XK), σ[i]? = some (some (.ref f)) ∧ H = X.H_0 ∧ Thunk X.prog X.w X.K X.mg X.base (L2.CX X.prog X.w) j X.outer X.s_0 X.H_0 f tl ∧ tl H Q' E' ∧ (∀ v H1, Q' v H1 → Q v H1) ∧ (∀ c d H1, E' c d H1 → E σ c d H1)
theorem pe_actM (hr : Room j X.A) (hex : X.ex = []) (hx : ∀ σ, PassesAt (L2.CX X.prog X.w) X σ (E σ)) (hN : X.N[i]? = some x) (hv : Vis X.env.scope x)
    (hd : (x == ("__debug__" : Str)) = false := by decide) (hcd : (x == ("__classdict__" : Str)) = false := by decide) : PE X (.Call (.Name x p) [] [] pos) (tActM X j i E) := by
  refine ⟨fun pins s σ H Q I h => ?_⟩
  obtain ⟨f, tl, Q', E', hs, eH, hT, ht, mQ, mE⟩ := h
  have hx' : ∀ τ, PassesAt (L2.CX X.prog X.w) X τ (if τ = σ then E' else E τ) := fun τ => by
    by_cases hq : τ = σ
    · rw [if_pos hq]
      subst hq
      exact fun pins H s e s' J c => hx _ pins H s e s' J (cx_le c mE)
    · rw [if_neg hq]
      exact hx τ
  refine thn ((pe_actT (CXl := L2.CX X.prog X.w) (i := i) (p := p) (pos := pos) (E := fun τ => if τ = σ then E' else E τ) hr hex hx' hN hv hd hcd).run pins s σ H Q' I ⟨f, tl, hs, eH, hT, ?_⟩) fun u s1 hh => ?_
  · show tl H Q' (if σ = σ then E' else E σ)
    rw [if_pos rfl]
    exact ht
  · obtain ⟨v, H1, I1, r1, q1⟩ := hh
    exact ⟨v, H1, I1, r1, mQ _ _ q1⟩
end
theorem ev_isX {K : PySem.W.Frag} {a : Addr} {cls : Value} {d : Option Addr} {D : Addr} {c : V} {cv : Value} {b : Bool} {i : Nat} {σ : L2.St} {H : Hp} (h1 : cls = .ref D) (h2 : ExcC K D) (h3 : ∀ u, RelV c u → u = cv) (h4 : PySem.W.kitOne K (.ref D) cv = some b) (h5 : ∀ dx, d = some dx → ∃ fs, H dx = some (.xd fs)) (hs : σ[i]? = some (some (.ref a))) :
    Ev (tCB (rIsX K a cls d) (tCons (tVar i) (tCons (tC c) tNil))) σ H (.bl b) := fun H1 e Q q => ⟨_, hs, D, c, cv, b, h1, h2, rfl, h3, h4, fun dx hd => let ⟨fs, hx⟩ := h5 dx hd; ⟨fs, e _ _ hx⟩, q H1 (Ex.refl _)⟩
end Sea

set_option Elab.async false
set_option linter.all false
set_option maxRecDepth 100000
set_option maxHeartbeats 4000000
/-! rules with the written part K named: within a suite or a block the reading must not speak of the context -/
namespace Sea
open PySem PySem.Spec PyProof.Rows L2
section
variable {X : Cx} {T : String} {r : V → List V → Hp → VK → Prop} {e a b : Expr} {to ta tb : TE} {t : TA} {pos : Pos}
theorem pe_bmK (K : PySem.W.Frag) (hK : X.K = K) (h : PE X e (tBM X.K T r to t)) : PE X e (tBM K T r to t) := hK ▸ h
theorem pe_ixlK (K : PySem.W.Frag) (hK : X.K = K) (ha : PE X a ta) (hb : PE X b tb) (hs : PlainIx b := by exact fun _ _ => rfl) : PE X (.Subscript a b pos) (tOp (rIxL K) ta tb) := hK ▸ pe_ix ix_list ha hb hs
theorem mt_countK (K : PySem.W.Frag) (hK : X.K = K) : MtR X "list.count" (rCntF K) := hK ▸ mt_countF
theorem mt_indexK (K : PySem.W.Frag) (hK : X.K = K) : MtR X "list.index" (rIndex K) := hK ▸ mt_index
theorem op_inK (K : PySem.W.Frag) (hK : X.K = K) : OpR X (compareOp .In) (rIn K false) := hK ▸ op_in_seq
end
end Sea

set_option Elab.async false
set_option linter.all false
set_option maxRecDepth 100000
set_option maxHeartbeats 4000000
/-! what every law of this package leans on, no program in sight -/
namespace Sea
open PySem PySem.Spec PyProof.Rows L2 LamX NdefX ClX Evl StX
section
variable {X : Cx} {a b : Expr} {ta tb : TE} {pos : Pos}
theorem pe_ixl (ha : PE X a ta) (hb : PE X b tb) (hs : PlainIx b := by exact fun _ _ => rfl) : PE X (.Subscript a b pos) (tOp (rIxL X.K) ta tb) := pe_ix ix_list ha hb hs
theorem pe_ixt (ha : PE X a ta) (hb : PE X b tb) (hs : PlainIx b := by exact fun _ _ => rfl) : PE X (.Subscript a b pos) (tOp (rIxT X.K) ta tb) := pe_ix ix_tup ha hb hs
end
/-! ### draws -/
structure Dr (H : Hp) (h c : Addr) : Prop where
  ne : h ≠ c
  ex : ∃ (m k : Int) (ns : List Int), H h = some (.lst [.int m, .ref c, .int k]) ∧ H c = some (.lst (ns.map V.int)) ∧ ns.length ≤ 63
/-- all kept but h and c -/
def Kp (h c : Addr) (H H' : Hp) : Prop := ∀ b o, H b = some o → b ≠ h → b ≠ c → H' b = some o
theorem Kp.refl {h c : Addr} {H : Hp} : Kp h c H H := fun _ _ e _ _ => e
theorem Kp.trans {h c : Addr} {H H1 H2 : Hp} (a : Kp h c H H1) (b : Kp h c H1 H2) : Kp h c H H2 := fun x o e n1 n2 => b x o (a x o e n1 n2) n1 n2
theorem Kp.new {h c a : Addr} {H : Hp} {o : HO} (n : H a = none) : Kp h c H (upd H a o) := fun b o e _ _ => by
  rw [upd_ne (ne_of_none e n)]
  exact e
theorem Kp.same {h c : Addr} {H H' : Hp} (s : Same H H') : Kp h c H H' := fun b o e _ _ => s b o e
theorem Dr.same {H H' : Hp} {h c : Addr} (d : Dr H h c) (s : Same H H') : Dr H' h c := by
  obtain ⟨n, m, k, ns, e1, e2, l⟩ := d
  exact ⟨n, m, k, ns, s _ _ e1, s _ _ e2, l⟩
theorem Dr.new {H : Hp} {h c a : Addr} {o : HO} (d : Dr H h c) (n : H a = none) : Dr (upd H a o) h c := d.same fun b o e => by
  rw [upd_ne (ne_of_none e n)]
  exact e
theorem pick0 (ns : List Int) (i : Int) (h0 : 0 ≤ i) (h1 : i < (ns.length : Int) + 1) : ∃ u : Int, atI (ns.map V.int ++ [V.int 0]) i = some (.int u) := by
  obtain ⟨j, rfl⟩ := Int.eq_ofNat_of_zero_le h0
  have hj : j < (ns.map V.int ++ [V.int 0]).length := by
    rw [List.length_append, List.length_map]
    show j < ns.length + 1
    omega
  refine ⟨(ns ++ [0]).getD j 0, ?_⟩
  have e : ns.map V.int ++ [V.int 0] = (ns ++ [0]).map V.int := by rw [List.map_append]; rfl
  rw [e] at hj ⊢
  unfold atI ixN
  rw [if_pos (by omega), if_pos (by omega)]
  show ((ns ++ [0]).map V.int)[(j : Int).toNat]? = _
  rw [Int.toNat_natCast, List.getElem?_map]
  rw [List.length_map] at hj
  rw [List.getElem?_eq_getElem hj]
  rw [List.getD_eq_getElem?_getD, List.getElem?_eq_getElem hj]
  rfl
theorem pick_nil {i u : Int} (h : atI (([] : List Int).map V.int ++ [V.int 0]) i = some (.int u)) : u = 0 := by
  revert h
  unfold atI ixN
  show ((if 0 ≤ i then (if i < ((1 : Nat) : Int) then some i.toNat else none) else if -((1 : Nat) : Int) ≤ i then some (i + ((1 : Nat) : Int)).toNat else none).bind fun j => [V.int 0][j]?) = _ → _
  intro h
  split at h
  · split at h
    · have e : i.toNat = 0 := by omega
      rw [show (some i.toNat : Option Nat) = some 0 by rw [e]] at h
      cases h
      rfl
    · cases h
  · split at h
    · have e : (i + ((1 : Nat) : Int)).toNat = 0 := by omega
      rw [show (some (i + ((1 : Nat) : Int)).toNat : Option Nat) = some 0 by rw [e]] at h
      cases h
      rfl
    · cases h
theorem ixn_fmod {n : Nat} (k : Int) (h : (0 : Int) < (n : Int)) : ∃ j, ixN n (k.fmod (n : Int)) = some j := by
  refine ⟨(k.fmod (n : Int)).toNat, ?_⟩
  unfold ixN
  rw [if_pos (Int.fmod_nonneg_of_pos _ h), if_pos (Int.fmod_lt_of_pos _ h)]
def TK (K : PySem.W.Frag) (H H' : Hp) : Prop := ∀ a xs, SqT K H a xs → SqT K H' a xs
theorem TK.refl {K : PySem.W.Frag} {H : Hp} : TK K H H := fun _ _ h => h
theorem TK.trans {K : PySem.W.Frag} {H H1 H2 : Hp} (a : TK K H H1) (b : TK K H1 H2) : TK K H H2 := fun x y h => b x y (a x y h)
theorem sqT_keep {K : PySem.W.Frag} {H H' : Hp} {a : Addr} {xs : List V} (e : ∀ o, H a = some o → H' a = some o) (h : SqT K H a xs) : SqT K H' a xs := by
  rcases h with (h | ⟨o, h⟩) | h
  · exact .inl (.inl (e _ h))
  · exact .inl (.inr ⟨o, e _ h⟩)
  · exact .inr h
theorem TK.same {K : PySem.W.Frag} {H H' : Hp} (s : Same H H') : TK K H H' := fun a xs h => sqT_keep (fun o => s a o) h
theorem same_new {H : Hp} {p : Addr} {o : HO} (h : H p = none) : Same H (upd H p o) := fun b x e => by
  rw [upd_ne (ne_of_none e h)]
  exact e
theorem TK.new {K : PySem.W.Frag} {H : Hp} {a : Addr} {o : HO} (n : H a = none) : TK K H (upd H a o) := .same (same_new n)
theorem TK.but {K : PySem.W.Frag} {H H' : Hp} (D : Addr → Prop) (s : ∀ b o, H b = some o → ¬ D b → H' b = some o) (nt : ∀ b xs, D b → ¬ Rd H b (.tup xs)) : TK K H H' := fun a xs h => by
  rcases h with h | h
  · have nd : ¬ D a := fun z => nt a xs z h
    rcases h with h | ⟨o, h⟩
    · exact .inl (.inl (s _ _ h nd))
    · exact .inl (.inr ⟨o, s _ _ h nd⟩)
  · exact .inr h
theorem Rd.lst_no {H : Hp} {a : Addr} {xs ys : List V} (e : H a = some (.lst ys)) : ¬ Rd H a (.tup xs) := fun h => by
  rcases h with h | ⟨o, h⟩
  · rw [e] at h
    cases h
  · rw [e] at h
    cases h
theorem Rd.ins_no {H : Hp} {a C dx : Addr} {xs : List V} {fs : List (Str × V)} (e : H a = some (.ins C dx fs)) : ¬ Rd H a (.tup xs) := fun h => by
  rcases h with h | ⟨o, h⟩
  · rw [e] at h
    cases h
  · rw [e] at h
    cases h
theorem Dr.tk {K : PySem.W.Frag} {H H' : Hp} {h c : Addr} (d : Dr H h c) (k : Kp h c H H') : TK K H H' := by
  obtain ⟨_, m, kk, ns, e1, e2, _⟩ := d
  refine .but (fun b => b = h ∨ b = c) (fun b o e n => k b o e (fun z => n (.inl z)) (fun z => n (.inr z))) fun b xs z => ?_
  rcases z with z | z
  · rw [z]
    exact Rd.lst_no e1
  · rw [z]
    exact Rd.lst_no e2
section
variable {X : Cx} {C : Addr} {mc : Value} {x f : Str} {v : V} {p pos : Pos}
theorem pe_clc (hg : Gl X x) (hm : X.mg x = some (.ref C)) (cr : CRead X.K C mc) (cv : ∃ u, CVal X.K C mc f v u) (hd : (x == ("__debug__" : Str)) = false := by decide)
    (hb : attributeBase (.Name x p) f X.env (eval (.Name x p) X.env) = eval (.Name x p) X.env := by rfl) : PE X (.Attribute (.Name x p) f pos) (tC v) := by
  obtain ⟨u, cv⟩ := cv
  exact ⟨fun pins s σ H Q I h => (pe_cval (pe_glob (v := .ref C) hg hm rfl hd) hb).run pins s σ H Q I ⟨C, mc, v, u, rfl, cr, cv, h⟩⟩
end
theorem ev_chainI {ta tb tc : TE} {σ : L2.St} {H : Hp} {i j k : Int} {p q : Int → Int → Bool} (ha : Ev ta σ H (.int i)) (hb : Ev tb σ H (.int j)) (hc : Ev tc σ H (.int k)) :
    Ev (tChain (rI0 fun i j => .bl (p i j)) (rI0 fun i j => .bl (q i j)) ta tb tc) σ H (.bl (p i j && q j k)) := fun H1 e Q hq => ha H1 e _ fun H2 e2 => hb H2 (e.trans e2) _ fun H3 e3 => ⟨i, j, rfl, rfl, p i j, rfl, by
  cases hp : p i j with
  | true => exact iteT (hc H3 ((e.trans e2).trans e3) _ fun H4 e4 => ⟨j, k, rfl, rfl, by
      have z := hq H4 ((e2.trans e3).trans e4)
      rw [hp] at z
      exact z⟩)
  | false => exact iteF (by
      have z := hq H3 (e2.trans e3)
      rw [hp] at z
      exact z)⟩
/-- a loop of n rounds: what each round finds and leaves, and what stands when the source is dry -/
theorem for_rounds {I : It} {g : TG} {tb : TS} {D : Ends} {σ : L2.St} {H : Hp} (n : Nat) (Pv : Nat → L2.St → Hp → Prop) (start : Pv 0 σ H)
    (round : ∀ i σ H, i < n → Pv i σ H → I.go i H ∧ ∀ x H', I.yld i H x H' → g x σ H' fun σ2 H2 => tb { D with nx := Pv (i + 1), ct := Pv (i + 1), bk := D.nx } σ2 H2)
    (dry : ∀ σ H, Pv n σ H → I.stop n H ∧ D.nx σ H) :
    ∃ W : Nat → Nat → L2.St → Hp → Prop, (∃ m, W 0 m σ H) ∧ ∀ i m σ H, W i m σ H →
      (I.stop i H ∧ D.nx σ H) ∨ (I.go i H ∧ ∃ N : L2.St → Hp → Prop, (∀ σ' H', N σ' H' → ∃ m', m' < m ∧ W (i + 1) m' σ' H') ∧ ∀ x H', I.yld i H x H' → g x σ H' fun σ2 H2 => tb { D with nx := N, ct := N, bk := D.nx } σ2 H2) := by
  let W : Nat → Nat → L2.St → Hp → Prop := fun i m σ H => m + i = n ∧ Pv i σ H
  have more : ∀ i m σ H, W i (m + 1) σ H → (I.go i H ∧ ∃ N : L2.St → Hp → Prop, (∀ σ' H', N σ' H' → ∃ m', m' < m + 1 ∧ W (i + 1) m' σ' H') ∧ ∀ x H', I.yld i H x H' → g x σ H' fun σ2 H2 => tb { D with nx := N, ct := N, bk := D.nx } σ2 H2) := by
    rintro i m σ H ⟨e, p⟩
    have ⟨go, each⟩ := round i σ H (by omega) p
    exact ⟨go, Pv (i + 1), fun _ _ z => ⟨m, Nat.lt_succ_self m, by omega, z⟩, each⟩
  have last : ∀ i σ H, W i 0 σ H → I.stop i H ∧ D.nx σ H := by
    rintro i σ H ⟨e, p⟩
    rw [Nat.zero_add] at e
    exact e ▸ dry σ H (e ▸ p)
  exact ⟨W, ⟨n, rfl, start⟩, fun i m σ H w => match m, w with
    | 0, w => .inl (last i σ H w)
    | m + 1, w => .inr (more i m σ H w)⟩
section
variable {K : PySem.W.Frag}
theorem mk1_in {H1 : Hp} {Q : XK} {f : Str} {y : V} {c : Addr} (T : OexC K c) (n : PySem.W.findIn K (.ref c) f = some none) (h : ∀ d, H1 d = none → Q (.ref c) (some d) (upd H1 d (.xd [(f, y)]))) :
    [y].length = 1 ∧ ∀ a, H1 a = none → spX1 K f ([.ref a] ++ [y]) (upd H1 a (exo a c none)) (fun v H2 => v = .non ∧ ∃ (d : Addr) (fs : List (Str × V)), H2 a = some (exo a c (some d)) ∧ H2 d = some (exd d fs) ∧ H1 d = none ∧ Q (.ref c) (some d) (upd (del H2 a) d (.xd fs))) (fun _ _ _ => False) := by
  refine ⟨rfl, fun a ha => ⟨a, c, y, rfl, T, n, upd_same, fun dx h1 h2 => ?_⟩⟩
  rw [upd_ne h2] at h1
  refine ⟨rfl, dx, _, upd_same, by rw [upd_ne h2, upd_same], h1, ?_⟩
  have e : upd (del (upd (upd (upd H1 a (exo a c none)) dx (exd dx [(f, y)])) a (exo a c (some dx))) a) dx (.xd [(f, y)]) = upd H1 dx (.xd [(f, y)]) := by
    funext b
    by_cases hb : b = dx
    · subst hb
      rw [upd_same, upd_same]
    · rw [upd_ne hb, upd_ne hb]
      by_cases hba : b = a
      · subst hba
        rw [del_same, ha]
      · rw [del_ne hba, upd_ne hba, upd_ne hb, upd_ne hba]
  rw [e]
  exact h dx h1
end
theorem take_snoc {α : Type} {L : List α} {i : Nat} {x : α} (h : L[i]? = some x) : L.take (i + 1) = L.take i ++ [x] := by
  rw [List.take_add_one, h]
  rfl
def EvD (te : TE) (σ : L2.St) (H : Hp) (P : V → Hp → Prop) : Prop := ∀ H1, Ex H H1 → ∀ Q : VK, (∀ v H2, Ex H1 H2 → P v H2 → Q v H2) → te σ H1 Q
theorem EvD.mono {te : TE} {σ : L2.St} {H H' : Hp} {P : V → Hp → Prop} (e : Ex H H') (h : EvD te σ H P) : EvD te σ H' P := fun H1 a Q q => h H1 (e.trans a) Q q
theorem ed_of {te : TE} {σ : L2.St} {H : Hp} {v : V} {P : V → Hp → Prop} (h : Ev te σ H v) (hp : ∀ H2, Ex H H2 → P v H2) : EvD te σ H P := fun H1 e Q q => h H1 e _ fun H2 e2 => q v H2 e2 (hp H2 (e.trans e2))
def cutP {α : Type} (xs : List α) (lo hi : Option Int) : List α := (xs.drop (HT.sIx xs.length 0 lo)).take (HT.sIx xs.length xs.length hi - HT.sIx xs.length 0 lo)
theorem cutP_all {α : Type} (xs : List α) (lo hi : Option Int) (h : HT.sIx xs.length 0 lo = 0 ∧ HT.sIx xs.length xs.length hi = xs.length) : cutP xs lo hi = xs := by
  unfold cutP
  rw [h.1, h.2, List.drop_zero, Nat.sub_zero, List.take_length]
theorem cutP_to {α : Type} (xs : List α) (k : Nat) : cutP xs none (some ((k : Nat) : Int)) = xs.take k := by
  unfold cutP
  rw [HT.sIx_none, HT.sIx_nat, List.drop_zero, Nat.sub_zero]
  by_cases h : k ≤ xs.length
  · rw [Nat.min_eq_left h]
  · rw [Nat.min_eq_right (by omega), List.take_of_length_le (Nat.le_refl _), List.take_of_length_le (by omega)]
theorem cutP_from {α : Type} (xs : List α) (k : Nat) : cutP xs (some ((k : Nat) : Int)) none = xs.drop k := by
  unfold cutP
  rw [HT.sIx_none, HT.sIx_nat]
  by_cases h : k ≤ xs.length
  · rw [Nat.min_eq_left h, List.take_of_length_le (by rw [List.length_drop]; exact Nat.le_refl _)]
  · rw [Nat.min_eq_right (by omega), Nat.sub_self, List.take_zero, List.drop_eq_nil_of_le (by omega)]
section
variable {te : TE} {σ : L2.St} {H : Hp}
theorem q_asgD {tz : TS} {D : Ends} {i : Nat} {P : V → Hp → Prop} (h : EvD te σ H P) (k : ∀ v H1, Ex H H1 → P v H1 → tz D (σ.set i (some v)) H1) : tSeq (tAsg te (gName i)) tz D σ H := h H (Ex.refl H) _ fun v H1 e p => k v H1 e p
theorem s_retD {D : Ends} {P : V → Hp → Prop} (h : EvD te σ H P) (k : ∀ v H1, Ex H H1 → P v H1 → D.rt v H1) : tRet te D σ H := h H (Ex.refl H) _ k
end
theorem pe_ixtK {X : Cx} {a b : Expr} {ta tb : TE} {pos : Pos} (K : PySem.W.Frag) (hK : X.K = K) (ha : PE X a ta) (hb : PE X b tb) (hs : PlainIx b := by exact fun _ _ => rfl) : PE X (.Subscript a b pos) (tOp (rIxT K) ta tb) := by
  subst hK
  exact pe_ix ix_tup ha hb hs
theorem rv_eqD {K : PySem.W.Frag} {x y : V} {H : Hp} {d e : PyData} (h1 : ∀ H1, Ex H H1 → Dp K H1 x d) (h2 : ∀ H1, Ex H H1 → Dp K H1 y e) (s1 : SeqAt.shaped d = true) (s2 : SeqAt.shaped e = true) : RV (rEqD K) x y H (.bl (PyData.eqv d e)) := fun H1 a Q q => ⟨d, e, h1 H1 a, h2 H1 a, s1, s2, q H1 (Ex.refl _)⟩
theorem rv_neD {K : PySem.W.Frag} {x y : V} {H : Hp} {d e : PyData} (h1 : ∀ H1, Ex H H1 → Dp K H1 x d) (h2 : ∀ H1, Ex H H1 → Dp K H1 y e) (s1 : SeqAt.shaped d = true) (s2 : SeqAt.shaped e = true) : RV (rNeD K) x y H (.bl (!PyData.eqv d e)) := fun H1 a Q q => ⟨d, e, h1 H1 a, h2 H1 a, s1, s2, q H1 (Ex.refl _)⟩
theorem intsDp {K : PySem.W.Frag} {H : Hp} : ∀ ns : List Int, DpAll K H (ns.map V.int) (ns.map PyData.int)
  | [] => .nil
  | n :: r => .cons (.int n) (intsDp r)
theorem ints_lay : ∀ ns : List Int, PyData.canLayAll0 (ns.map PyData.int) = true
  | [] => rfl
  | n :: r => by
    show (true && PyData.canLayAll0 (r.map PyData.int)) = true
    rw [ints_lay r]
    rfl
theorem ints_dep : ∀ ns : List Int, PyData.depthAll (ns.map PyData.int) = 0
  | [] => rfl
  | n :: r => by
    show max 0 (PyData.depthAll (r.map PyData.int)) = 0
    rw [ints_dep r]
    rfl
theorem ints_sh (ns : List Int) : SeqAt.shaped (.list (ns.map PyData.int)) = true := by
  show (PyData.canLayAll0 (ns.map PyData.int) && decide (PyData.depthAll (ns.map PyData.int) + 1 ≤ 64)) = true
  rw [ints_lay, ints_dep]
  rfl
theorem pick3 (a b c v : Int) (h0 : 0 ≤ v) (h1 : v < 3) : ∃ w, atI [V.int a, V.int b, V.int c] v = some (.int w) ∧ (w = a ∨ w = b ∨ w = c) := by
  rcases (show v = 0 ∨ v = 1 ∨ v = 2 by omega) with rfl | rfl | rfl
  · exact ⟨a, rfl, .inl rfl⟩
  · exact ⟨b, rfl, .inr (.inl rfl)⟩
  · exact ⟨c, rfl, .inr (.inr rfl)⟩
theorem s_retIf {t : TT} {ta tb : TE} {D : Ends} {σ : L2.St} {H : Hp} {b : Bool} (h : EvT t σ H b) (h1 : b = true → ∀ H1, Ex H H1 → tRet ta D σ H1) (h2 : b = false → ∀ H1, Ex H H1 → tRet tb D σ H1) : tRet (tIf t ta tb) D σ H := h H (Ex.refl _) _ fun H1 e => by
  cases b with
  | true => exact iteT (h1 rfl H1 e)
  | false => exact iteF (h2 rfl H1 e)
theorem ev_lenT {K : PySem.W.Frag} {σ : L2.St} {H : Hp} {i : Nat} {p : Addr} {xs : List V} (hs : σ[i]? = some (some (.ref p))) (h : SqT K H p xs) : Ev (tCB (fun xs H Q => ∃ p ys, xs = [V.ref p] ∧ (SqL K H p ys ∨ SqT K H p ys) ∧ Q (.int ys.length) H) (tCons (tVar i) tNil)) σ H (.int (xs.length : Int)) := fun H1 e Q q =>
  ⟨_, hs, p, xs, rfl, .inr ((TK.same e) _ _ h), q H1 (Ex.refl _)⟩
theorem ev_cnt {K : PySem.W.Frag} {σ : L2.St} {H : Hp} {i : Nat} {D : Addr} {ys : List V} (hs : σ[i]? = some (some (.ref D))) (h : H D = some (.lst ys)) (hf : ys.all flatV = true) :
    Ev (tBM K "list" (rCntF K) (tVar i) (tCons (tC (.bl true)) tNil)) σ H (.int (ys.countP (fun z => eqV z (.bl true)) : Nat)) := fun H' e Q q => ⟨_, hs, .inl ⟨rfl, _, SqL.of (e _ _ h)⟩, D, ys, .bl true, rfl, rfl, SqL.of (e _ _ h), rfl, hf, q H' (Ex.refl _)⟩
theorem ev_idx {K : PySem.W.Frag} {σ : L2.St} {H : Hp} {i j : Nat} {D : Addr} {ys : List V} {z : V} (hs : σ[i]? = some (some (.ref D))) (h : H D = some (.lst ys)) (hf : ys.all flatV = true) (hz : ys[j]? = some z) (hq : eqV z (.bl true) = true) (ha : ∀ (m : Nat) (z' : V), m < j → ys[m]? = some z' → eqV z' (.bl true) = false) :
    Ev (tBM K "list" (rIndex K) (tVar i) (tCons (tC (.bl true)) tNil)) σ H (.int (j : Nat)) := fun H' e Q q => ⟨_, hs, .inl ⟨rfl, _, SqL.of (e _ _ h)⟩, D, ys, .bl true, j, z, rfl, rfl, SqL.of (e _ _ h), rfl, hf, hz, hq, ha, q H' (Ex.refl _)⟩
theorem pe_ixsK {X : Cx} {a b : Expr} {ta tb : TE} {pos : Pos} (K : PySem.W.Frag) (hK : X.K = K) (ha : PE X a ta) (hb : PE X b tb) (hs : PlainIx b := by exact fun _ _ => rfl) : PE X (.Subscript a b pos) (tOp (rIx K) ta tb) := by
  subst hK
  exact pe_ix ix_seq ha hb hs
mutual
theorem dp_ex {K : PySem.W.Frag} {H H' : Hp} (e : Ex H H') : ∀ {v : V} {d : PyData}, Dp K H v d → Dp K H' v d
  | _, _, .non => .non
  | _, _, .bl b => .bl b
  | _, _, .int i => .int i
  | _, _, .str x => .str x
  | _, _, .lst h a => .lst (ex_l e h) (dps_ex e a)
  | _, _, .tup h a => .tup (ex_t e h) (dps_ex e a)
theorem dps_ex {K : PySem.W.Frag} {H H' : Hp} (e : Ex H H') : ∀ {vs : List V} {ds : List PyData}, DpAll K H vs ds → DpAll K H' vs ds
  | _, _, .nil => .nil
  | _, _, .cons a b => .cons (dp_ex e a) (dps_ex e b)
end
theorem dps_len {K : PySem.W.Frag} {H : Hp} : ∀ {vs : List V} {ds : List PyData}, DpAll K H vs ds → vs.length = ds.length
  | _, _, .nil => rfl
  | _, _, .cons _ b => by rw [List.length_cons, List.length_cons, dps_len b]
theorem dps_get {K : PySem.W.Frag} {H : Hp} : ∀ {vs : List V} {ds : List PyData}, DpAll K H vs ds → ∀ {i : Nat}, i < ds.length → ∃ v d, vs[i]? = some v ∧ ds[i]? = some d ∧ Dp K H v d
  | _, _, .nil, i, hi => absurd hi (Nat.not_lt_zero _)
  | _, _, .cons (v := v) (d := d) a b, 0, _ => ⟨v, d, rfl, rfl, a⟩
  | _, _, .cons a b, i + 1, hi => by simpa using dps_get b (i := i) (by simpa using hi)
/-- whole numbers in lists and tuples -/
inductive IntD : Nat → PyData → Prop
  | int (n : Nat) (i : Int) : IntD n (.int i)
  | bool (n : Nat) (b : Bool) : IntD n (.bool b)
  | lst {n : Nat} {ds : List PyData} (h : ∀ (i : Nat) (d : PyData), ds[i]? = some d → IntD n d) (hl : ds.length ≤ 1000) : IntD (n + 1) (.list ds)
  | tup {n : Nat} {ds : List PyData} (h : ∀ (i : Nat) (d : PyData), ds[i]? = some d → IntD n d) (hl : ds.length ≤ 1000) : IntD (n + 1) (.tuple ds)
/-- equal data are alike -/
def spAl (K : PySem.W.Frag) (n : Nat) : Sp := fun vs H Q _ => ∃ (m : Nat) (x y : V) (d : PyData), m < n ∧ vs = [x, y] ∧ Dp K H x d ∧ Dp K H y d ∧ IntD m d ∧ ∀ H', Same H H' → Q (.bl true) H'
theorem ev_isi {K : PySem.W.Frag} {σ : L2.St} {H : Hp} {i : Nat} {x : V} {t : Value} {n : String} {b : Bool} (hs : σ[i]? = some (some x)) (ty : ∀ H1, Ex H H1 → TyX K H1 x t) (h : PySem.W.kitOne K t (.type n) = some b) : Ev (tCB (rIsi K) (tCons (tVar i) (tCons (tC (.ty n)) tNil))) σ H (.bl b) :=
  fun H1 e Q q => ⟨_, hs, x, .ty n, t, .type n, b, rfl, .ty n, ty H1 e, h, q H1 (Ex.refl _)⟩
theorem ev_isiT {K : PySem.W.Frag} {σ : L2.St} {H : Hp} {i : Nat} {x : V} {t : Value} {b : Bool} (hs : σ[i]? = some (some x)) (ty : ∀ H1, Ex H H1 → TyX K H1 x t) (h : PySem.W.kitAny K t [.type "tuple", .type "list"] = some b) :
    Ev (tCB (rIsiT K) (tCons (tVar i) (tCons (tTup (tCons (tC (.ty "tuple")) (tCons (tC (.ty "list")) tNil))) tNil))) σ H (.bl b) :=
  fun H1 e Q q => ⟨_, hs, Nat.le_of_lt (small1000 (show 2 ≤ 1000 by decide)), fun p np => ⟨x, p, _, t, _, b, rfl, upd_same, .cons (.ty _) (.cons (.ty _) .nil), ty _ (e.trans (Ex.new np)), h, q _ (Ex.new np)⟩⟩
theorem tyx_lst {K : PySem.W.Frag} {H : Hp} {a : Addr} {xs : List V} (h : SqL K H a xs) : TyX K H (.ref a) (.type "list") := by
  rcases h with (h | ⟨o, h⟩) | ⟨o, its, n, hk, hc, _⟩
  · exact .base (.lst h)
  · exact .base (.frz h)
  · exact .kList hk hc
theorem tyx_tup {K : PySem.W.Frag} {H : Hp} {a : Addr} {xs : List V} (h : SqT K H a xs) : TyX K H (.ref a) (.type "tuple") := by
  rcases h with (h | ⟨o, h⟩) | ⟨o, its, n, hk, hc, _⟩
  · exact .base (.tup h)
  · exact .fTuple h
  · exact .kTuple hk hc
theorem ka_list {K : PySem.W.Frag} : PySem.W.kitAny K (.type "list") [.type "tuple", .type "list"] = some true := kitAny_cons (b := false) (kit_ty (by decide +kernel)) (fun _ => kitAny_cons (b := true) (kit_ty (by decide +kernel)) (fun z => by cases z) fun _ => rfl) (fun z => by cases z)
theorem ka_tuple {K : PySem.W.Frag} : PySem.W.kitAny K (.type "tuple") [.type "tuple", .type "list"] = some true := kitAny_cons (b := true) (kit_ty (by decide +kernel)) (fun z => by cases z) fun _ => rfl
theorem ka_int {K : PySem.W.Frag} : PySem.W.kitAny K (.type "int") [.type "tuple", .type "list"] = some false := kitAny_cons (b := false) (kit_ty (by decide +kernel)) (fun _ => kitAny_cons (b := false) (kit_ty (by decide +kernel)) (fun _ => rfl) (fun z => by cases z)) (fun z => by cases z)
theorem ka_bool {K : PySem.W.Frag} : PySem.W.kitAny K (.type "bool") [.type "tuple", .type "list"] = some false := kitAny_cons (b := false) (kit_ty (by decide +kernel)) (fun _ => kitAny_cons (b := false) (kit_ty (by decide +kernel)) (fun _ => rfl) (fun z => by cases z)) (fun z => by cases z)
theorem ev_lenS {K : PySem.W.Frag} {σ : L2.St} {H : Hp} {i : Nat} {p : Addr} {xs : List V} (hs : σ[i]? = some (some (.ref p))) (h : SqL K H p xs ∨ SqT K H p xs) : Ev (tCB (fun xs H Q => ∃ p ys, xs = [V.ref p] ∧ (SqL K H p ys ∨ SqT K H p ys) ∧ Q (.int ys.length) H) (tCons (tVar i) tNil)) σ H (.int (xs.length : Int)) := fun H1 e Q q =>
  ⟨_, hs, p, xs, rfl, h.elim (fun h => .inl (ex_l e h)) (fun h => .inr (ex_t e h)), q H1 (Ex.refl _)⟩
theorem given_none (n : Nat) (v : Nat → V) : given n (fun _ => false) v = [] := by
  unfold given
  simp
theorem at_nat {α : Type} {xs : List α} {i : Nat} {v : α} (hi : i < xs.length) (h : xs[i]? = some v) : atI xs ((i : Nat) : Int) = some v := by
  unfold atI
  rw [ixN_nat hi]
  exact h
def noE : Expr := .Constant .none 0 ⟨0, 0, 0, 0⟩
def noS : Stmt := .Pass ⟨0, 0, 0, 0⟩
def forB : Stmt → List Stmt
  | .For _ _ b _ _ => b
  | _ => []
def ifB : Stmt → List Stmt
  | .If _ b _ _ => b
  | _ => []
def ifC : Stmt → Expr
  | .If c _ _ _ => c
  | _ => noE
def asgE : Stmt → Expr
  | .Assign _ e _ => e
  | .Expr e _ => e
  | _ => noE
def callA : Expr → Expr
  | .Call _ (a :: _) _ _ => a
  | _ => noE
def lisI (i : Nat) : Expr → Expr
  | .List es _ => es.getD i noE
  | _ => noE
def cmpL : Expr → Expr
  | .Compare l _ _ _ => l
  | _ => noE
def lamP : Expr → Arguments
  | .Lambda p _ _ _ => p
  | _ => ⟨[], [], none, [], [], none, []⟩
def lamB : Expr → Expr
  | .Lambda _ b _ _ => b
  | _ => noE
def lamS : Expr → Scope
  | .Lambda _ _ s _ => s
  | _ => ⟨.function, [], false, false, []⟩
def NoLI (o : HO) : Prop := (∀ xs, o ≠ .lst xs) ∧ ∀ C dx fs, o ≠ .ins C dx fs
theorem tabs_but {T : List (Addr × Str)} {H H' : Hp} (hT : Tabs T H) (k : ∀ b o, H b = some o → NoLI o → H' b = some o) : Tabs T H' := fun p hp => by
  obtain ⟨ps, h1, h2, h3⟩ := hT p hp
  refine ⟨ps, k _ _ h1 ⟨fun xs z => (by cases z), fun C dx fs z => (by cases z)⟩, h2, fun pos cv hc => ?_⟩
  obtain ⟨c, e1, e2⟩ := h3 pos cv hc
  exact ⟨c, e1, k _ _ e2 ⟨fun xs z => (by unfold CodeO at z; cases z), fun C dx fs z => (by unfold CodeO at z; cases z)⟩⟩
theorem tabs_same {T : List (Addr × Str)} {H H' : Hp} (hT : Tabs T H) (s : Same H H') : Tabs T H' := tabs_but hT fun b o e _ => s b o e
theorem tabs_kp {T : List (Addr × Str)} {H H' : Hp} {h c : Addr} (hT : Tabs T H) (d : Dr H h c) (k : Kp h c H H') : Tabs T H' := by
  obtain ⟨_, m, kk, ns, e1, e2, _⟩ := d
  refine tabs_but hT fun b o e n => k b o e (fun z => ?_) (fun z => ?_)
  · rw [z, e1] at e
    cases e
    exact n.1 _ rfl
  · rw [z, e2] at e
    cases e
    exact n.1 _ rfl
theorem Dr.extN {H H' : Hp} {h c : Addr} (d : Dr H h c) (s : ExtN H H') : Dr H' h c := by
  obtain ⟨n, m, k, ns, e1, e2, l⟩ := d
  exact ⟨n, m, k, ns, s _ _ e1 (fun ps z => (by cases z)), s _ _ e2 (fun ps z => (by cases z)), l⟩
theorem TK.extN {K : PySem.W.Frag} {H H' : Hp} (s : ExtN H H') : TK K H H' := fun a xs h => by
  rcases h with (h | ⟨o, h⟩) | h
  · exact .inl (.inl (s _ _ h fun ps z => by cases z))
  · exact .inl (.inr ⟨o, s _ _ h fun ps z => by cases z⟩)
  · exact .inr h
theorem Dr.nh {H : Hp} {h c b : Addr} (d : Dr H h c) (n : H b = none) : b ≠ h ∧ b ≠ c := by
  obtain ⟨_, m, kk, ns, e1, e2, _⟩ := d
  refine ⟨fun z => ?_, fun z => ?_⟩
  · rw [z, e1] at n
    cases n
  · rw [z, e2] at n
    cases n
def tI (i : Int) : TE := tC (.int i)
def tP (a b : TE) : TE := tTup (tCons a (tCons b tNil))
def rPw : R2 := rI CPow fun i j => .int (i ^ j.toNat)
def rAd : R2 := rI0 fun i j => .int (i + j)
def tMn (a : TE) : TE := tUn (rU fun i => .int (-i)) a
theorem ev_tI {σ : L2.St} {H : Hp} {i : Int} : Ev (tI i) σ H (.int i) := ev_c
theorem ev_pw {σ : L2.St} {H : Hp} {a b : TE} {i j : Int} (ha : Ev a σ H (.int i)) (hb : Ev b σ H (.int j)) (h : CPow i j) : Ev (tOp rPw a b) σ H (.int (i ^ j.toNat)) := ev_op ha hb (rv_I h)
theorem ev_ad {σ : L2.St} {H : Hp} {a b : TE} {i j : Int} (ha : Ev a σ H (.int i)) (hb : Ev b σ H (.int j)) : Ev (tOp rAd a b) σ H (.int (i + j)) := ev_op ha hb rv_I0
theorem ev_mn {σ : L2.St} {H : Hp} {a : TE} {i : Int} (ha : Ev a σ H (.int i)) : Ev (tMn a) σ H (.int (-i)) := ev_un ha ru_neg
theorem eu_ifT {t : TT} {ta tb : TE} {σ : L2.St} {H : Hp} {xs : List V} (h : EvT t σ H true) (h1 : EvU ta σ H xs) : EvU (tIf t ta tb) σ H xs := fun H1 e Q q => h H1 e _ fun H2 e2 => iteT (h1 H2 (e.trans e2) _ fun p H3 np e3 hp => q p H3 (fresh_back e2 np) (e2.trans e3) hp)
theorem eu_ifF {t : TT} {ta tb : TE} {σ : L2.St} {H : Hp} {xs : List V} (h : EvT t σ H false) (h1 : EvU tb σ H xs) : EvU (tIf t ta tb) σ H xs := fun H1 e Q q => h H1 e _ fun H2 e2 => iteF (h1 H2 (e.trans e2) _ fun p H3 np e3 hp => q p H3 (fresh_back e2 np) (e2.trans e3) hp)
theorem et_isN {σ : L2.St} {H : Hp} {i : Nat} {v : V} (hs : σ[i]? = some (some v)) : EvT (tTest (tOp (fun x y H Q => y = .non ∧ Q (.bl (decide (x = .non))) H) (tVar i) (tC .non))) σ H (decide (v = .non)) :=
  et_test (ev_op (ev_var hs) ev_c (fun H3 _ Q3 q3 => ⟨rfl, q3 H3 (Ex.refl _)⟩))
theorem eqv_self (d : PyData) (h : SeqAt.shaped d = true) : PyData.eqv d d = true := SeqAt.eqv_refl d (SeqAt.canLay_of_shaped h)
/-! ### expressions that give data, all kept -/
def EvDp (K : PySem.W.Frag) (te : TE) (σ : L2.St) (H : Hp) (d : PyData) : Prop := EvD te σ H fun v H => Dp K H v d
def EvDpA (K : PySem.W.Frag) (ta : TA) (σ : L2.St) (H : Hp) (ds : List PyData) : Prop := ∀ H1, Ex H H1 → ∀ Q : List V → Hp → Prop, (∀ vs H2, Ex H1 H2 → DpAll K H2 vs ds → Q vs H2) → ta σ H1 Q
section
variable {K : PySem.W.Frag} {te tb tx : TE} {ta tr : TA} {σ : L2.St} {H : Hp} {d e : PyData} {ds : List PyData}
theorem edp_ev {v : V} (h : Ev te σ H v) (hd : ∀ H2, Ex H H2 → Dp K H2 v d) : EvDp K te σ H d := ed_of h hd
theorem edp_int {i : Int} (h : Ev te σ H (.int i)) : EvDp K te σ H (.int i) := edp_ev h fun _ _ => .int i
theorem edp_str {x : Str} : EvDp K (tC (.str x)) σ H (.str x) := edp_ev ev_c fun _ _ => .str x
theorem eda_nil : EvDpA K tNil σ H [] := fun H1 _ Q q => q [] H1 (Ex.refl _) .nil
theorem eda_cons (h : EvDp K tx σ H d) (hr : EvDpA K tr σ H ds) : EvDpA K (tCons tx tr) σ H (d :: ds) := fun H1 e Q q =>
  h H1 e _ fun v H2 e2 hv => hr H2 (e.trans e2) _ fun vs H3 e3 hvs => q _ _ (e2.trans e3) (.cons (dp_ex e3 hv) hvs)
theorem edp_lst (h : EvDpA K ta σ H ds) (hl : ds.length ≤ 1000) : EvDp K (tLst ta) σ H (.list ds) := fun H1 e Q q => h H1 e _ fun vs H2 e2 hvs => ⟨Nat.le_of_lt (small1000 (by rw [dps_len hvs]; exact hl)), fun p np => q _ _ (e2.trans (Ex.new np)) (.lst (.of upd_same) (dps_ex (Ex.new np) hvs))⟩
theorem edp_tup (h : EvDpA K ta σ H ds) (hl : ds.length ≤ 1000) : EvDp K (tTup ta) σ H (.tuple ds) := fun H1 e Q q => h H1 e _ fun vs H2 e2 hvs => ⟨Nat.le_of_lt (small1000 (by rw [dps_len hvs]; exact hl)), fun p np => q _ _ (e2.trans (Ex.new np)) (.tup (.of upd_same) (dps_ex (Ex.new np) hvs))⟩
theorem et_neD (h1 : EvDp K te σ H d) (h2 : EvDp K tb σ H e) (s1 : SeqAt.shaped d = true) (s2 : SeqAt.shaped e = true) : EvT (tTest (tOp (rNeD K) te tb)) σ H (!PyData.eqv d e) := fun H1 a Q q =>
  h1 H1 a _ fun v H2 e2 hv => h2 H2 (a.trans e2) _ fun u H3 e3 hu => ⟨d, e, dp_ex e3 hv, hu, s1, s2, _, rfl, q H3 (e2.trans e3)⟩
theorem et_same (h1 : EvDp K te σ H d) (h2 : EvDp K tb σ H d) (s1 : SeqAt.shaped d = true) : EvT (tTest (tOp (rNeD K) te tb)) σ H false := et_is (et_neD h1 h2 s1 s1) (by rw [eqv_self d s1]; rfl)
end
theorem et_al {K : PySem.W.Frag} {ta : TA} {σ : L2.St} {H : Hp} {d : PyData} (hA : EvDpA K ta σ H [d, d]) (hd : IntD 3 d) : EvT (tNot (tB (tCall (spAl K 4) [] E0 ta))) σ H false := fun H1 e Q q =>
  hA H1 e (fun vs H2 => spAl K 4 (vs ++ []) H2 (fun x H3 => ∃ c, x = .bl c ∧ Q (!c) H3) E0) fun vs H2 e2 hvs => by
    cases hvs with
    | cons h1 hr =>
      cases hr with
      | cons h2 hr2 =>
        cases hr2
        exact ⟨3, _, _, d, by decide, rfl, h1, h2, hd, fun H5 s5 => ⟨true, rfl, q H5 (e2.trans s5)⟩⟩
theorem pick2 (a b v : Int) (h0 : 0 ≤ v) (h1 : v < 2) : ∃ w, atI [V.int a, V.int b] v = some (.int w) ∧ (w = a ∨ w = b) := by
  rcases (show v = 0 ∨ v = 1 by omega) with rfl | rfl
  · exact ⟨a, rfl, .inl rfl⟩
  · exact ⟨b, rfl, .inr rfl⟩
theorem ev_eqD {K : PySem.W.Frag} {te tb : TE} {σ : L2.St} {H : Hp} {d : PyData} (h1 : EvDp K te σ H d) (h2 : EvDp K tb σ H d) (s1 : SeqAt.shaped d = true) : Ev (tOp (rEqD K) te tb) σ H (.bl true) := fun H1 a Q q =>
  h1 H1 a _ fun v H2 e2 hv => h2 H2 (a.trans e2) _ fun u H3 e3 hu => ⟨d, d, dp_ex e3 hv, hu, s1, s1, by
    rw [eqv_self d s1]
    exact q H3 (e2.trans e3)⟩
theorem lam_ne {f : Addr} {F : LF} : ∀ ps, LamO f F ≠ .tbl ps := Stands.no_tbl
theorem code_ne {c : Addr} {q : Str} : ∀ ps, CodeO c q ≠ .tbl ps := fun ps z => by
  unfold CodeO at z
  cases z
theorem at_int {α : Type} {xs : List α} {i : Nat} (hi : i < xs.length) : atI xs ((i : Nat) : Int) = some xs[i] := at_nat hi (List.getElem?_eq_getElem hi)
end Sea

set_option Elab.async false
set_option linter.all false
set_option maxRecDepth 100000
set_option maxHeartbeats 4000000
/-! several except clauses, each with a name for the error or without one -/
namespace Sea
open PySem PySem.Spec PyProof.Rows L2
/-- a clause: its class, the slot of its name (if it has one), its suite -/
structure Cla where
  c : Value
  slot : Option Nat
  ts : Addr → Value → Option Addr → TS
def namd (o : Option Nat) (v : Option V) (σ : L2.St) : L2.St := match o with
  | none => σ
  | some i => σ.set i v
/-- behind the suite the name is gone -/
def past (D : Ends) (o : Option Nat) : Ends := { nx := fun σ H => D.nx (namd o none σ) H, rt := D.rt, bk := fun σ H => D.bk (namd o none σ) H, ct := fun σ H => D.ct (namd o none σ) H }
/-- what clauses, tried in turn, wish of the error that the body lets out -/
def wCla (K : PySem.W.Frag) (Wout : WX) (D : Ends) : List Cla → WX
  | [] => Wout
  | x :: r => fun cls d σ H => ∃ b, PySem.W.exmOne K cls x.c = some b ∧ match b with
    | true => ∀ a, H a = none → x.ts a cls d (past D x.slot) (namd x.slot (some (.ref a)) σ) H
    | false => wCla K Wout D r cls d σ H
inductive ClaOk (X : Cx) : ExceptHandler → Cla → Prop
  | bare {x : Str} {c : Value} {ts : Addr → Value → Option Addr → TS} {b₀ : Stmt} {suite : List Stmt} {np pos : Pos} (hc : Names X x c)
      (hsu : ∀ (a : Addr) (oe : Obj) (cls : Value) (d : Option Addr) (pn : List (Addr × Obj)), Zc cls d oe → (∃ vs, oe.data = .fields vs) → PSs (X.suite a ((a, oe) :: pn)) (b₀ :: suite) (ts a cls d)) :
      ClaOk X (.ExceptHandler (some (.Name x np)) none (b₀ :: suite) pos) ⟨c, none, ts⟩
  | named {x n : Str} {i : Nat} {c : Value} {ts : Addr → Value → Option Addr → TS} {b₀ : Stmt} {suite : List Stmt} {np pos : Pos} (hN : X.N.Nodup) (hi : X.N[i]? = some n) (hl : X.env.kindOf n = some .local) (hc : Names X x c)
      (hsu : ∀ (a : Addr) (oe : Obj) (cls : Value) (d : Option Addr) (pn : List (Addr × Obj)), Zc cls d oe → (∃ vs, oe.data = .fields vs) → PSs (X.suite a ((a, oe) :: pn)) (b₀ :: suite) (ts a cls d)) :
      ClaOk X (.ExceptHandler (some (.Name x np)) (some n) (b₀ :: suite) pos) ⟨c, some i, ts⟩
inductive ClasOk (X : Cx) : List ExceptHandler → List Cla → Prop
  | nil : ClasOk X [] []
  | cons {h : ExceptHandler} {x : Cla} {hs : List ExceptHandler} {xs : List Cla} (a : ClaOk X h x) (r : ClasOk X hs xs) : ClasOk X (h :: hs) (x :: xs)
/-- the error at a is caught: s is the state in which the clauses are tried; what it was without the error's own objects is told by src -/
structure Caught (X : Cx) (pins : List (Addr × Obj)) (σ : L2.St) (H : Hp) (a : Addr) (cls : Value) (d : Option Addr) (s : Shared) : Prop where
  free : H a = none
  src : ∃ (B : Heap) (s0 : Shared), Inv X pins σ H s0 ∧ (∀ b o, s0.heap.get? b = some o → b ∉ frs X.stack → B.get? b = some o) ∧ s0.heap.UpToSlots s.heap ∧ HandSPX.FlyingZ B X.stack a (Zc cls d) s.heap ∧ s.os = s0.os ∧ AllBare s.gens
section
variable {X : Cx} {pins : List (Addr × Obj)} {σ : L2.St} {H : Hp} {a : Addr} {cls : Value} {d : Option Addr} {s : Shared} {W : WX} {D : Ends}
theorem Caught.inv (c : Caught X pins σ H a cls d s) : Inv X pins σ H s :=
  let ⟨_, _, I, nb, up, fl, os, ag⟩ := c.src
  I.landed nb fl.1 up os ag
/-- its object is none of the frames' -/
theorem Caught.obj (c : Caught X pins σ H a cls d s) : ∃ oe, s.heap.get? a = some oe ∧ Zc cls d oe ∧ (∃ vs, oe.data = .fields vs) ∧ a ∉ frs X.stack := by
  obtain ⟨B, s0, _, _, _, ⟨_, _, frames, oe, vs, _, _, _, there, z, rec, _⟩, _⟩ := c.src
  refine ⟨oe, there, z, ⟨vs, rec⟩, fun m => ?_⟩
  obtain ⟨_, o, at_, other⟩ := frames.mem m
  cases there.symm.trans at_
  exact other vs rec
/-- the flight is set to none once more -/
theorem Caught.land {M : Model} {A : Around} {E : Value → Shared → Prop} {Q : Unit → Shared → Prop} (c : Caught X pins σ H a cls d s) (k : ∀ s', Caught X pins σ H a cls d s' → Q () s') : wpAny M A (setFlight (.ref a) none) Q E s :=
  let ⟨B, s0, I, nb, up, fl, os, ag⟩ := c.src
  HandSPX.lands_againZ fl fun h fl' more => k { s with heap := h } ⟨c.free, B, s0, I, nb, up.trans more, fl', os, ag⟩
/-- within a suite -/
theorem Caught.within (hs : X.stack = X.env :: X.outer) (hf : X.env.frame = some X.env.locals) (c : Caught X pins σ H a cls d s) : ∃ oe, Zc cls d oe ∧ (∃ vs, oe.data = .fields vs) ∧ s.heap.get? a = some oe ∧ Inv (X.suite a ((a, oe) :: (X.pn ++ pins))) [] σ H s := by
  obtain ⟨oe, there, z, ⟨vs, rec⟩, nf⟩ := c.obj
  rw [hs] at nf
  have n1 : a ≠ X.env.locals := fun e => nf (List.mem_filterMap.mpr ⟨X.env, List.mem_cons_self, by rw [hf, e]⟩)
  have n2 : a ∉ X.fs := fun m => nf (let ⟨e, he, q⟩ := List.mem_filterMap.mp m; List.mem_filterMap.mpr ⟨e, List.mem_cons_of_mem _ he, q⟩)
  exact ⟨oe, z, ⟨vs, rec⟩, there, c.inv.suite there rec c.free n1 n2⟩
/-- the class that a clause names is read -/
theorem Caught.test (hs : X.stack = X.env :: X.outer) (hf : X.env.frame = some X.env.locals) (c : Caught X pins σ H a cls d s) {x : Str} {v : Value} {p : Pos} (nm : Names X x v) {Q E : Value → Shared → Prop} (q : Q v s) :
    wpAny (model X.prog X.w) (X.A.mark (some (.ref a))) (eval (.Name x p) X.env) Q E s :=
  let ⟨_, _, _, _, S⟩ := c.within hs hf
  match nm with
  | ⟨g, dbg, .inl m⟩ => ld_glob S g m q dbg
  | ⟨g, dbg, .inr ⟨m, b, n⟩⟩ => ld_blt S g m b q n dbg
/-- one clause is tried -/
theorem Caught.clause (hs : X.stack = X.env :: X.outer) (hf : X.env.frame = some X.env.locals) (c : Caught X pins σ H a cls d s) {h : ExceptHandler} {x : Cla} {rest : List ExceptHandler} (ok : ClaOk X h x) {b : Bool} (one : PySem.W.exmOne X.K cls x.c = some b)
    (yes : b = true → x.ts a cls d (past D x.slot) (namd x.slot (some (.ref a)) σ) H) (no : b = false → wpAny (model X.prog X.w) X.A (handleBy (.ref a) X.env rest) (SP X pins D) X.xe s) :
    wpAny (model X.prog X.w) X.A (handleBy (.ref a) X.env (h :: rest)) (SP X pins D) X.xe s := by
  have frame := c.inv.ok
  have ty : PySem.W.Looks (model X.prog X.w) s.heap (typeOf (.ref a)) cls := by
    obtain ⟨oe, there, z, _⟩ := c.obj
    exact fun A Q E s' keep q => wpAny_typeOf_ref (keep _ _ there) (z.1.symm ▸ q)
  have match_ := PySem.W.exm_one c.inv.kIn ty one
  cases ok with
  | bare nm su =>
    refine wpAny_handleBy_cons (codeAny_handlers_test (c.test hs hf nm (match_.here ?_))) nofun
    cases b with
    | false => exact no rfl
    | true =>
      refine codeAny_handlers_suite (c.land fun s2 c2 => ?_)
      obtain ⟨oe, z, rec, _, S⟩ := c2.within hs hf
      refine wpAny_mono ((su a oe cls d _ z rec).run [] s2 _ H _ S (yes rfl)) (fun f s3 out => ?_) fun _ _ z => z.elim
      match f, out with
      | .next, ⟨_, _, S3, q⟩ => exact ⟨_, _, S3.unsuite frame, q⟩
      | .brk, ⟨_, _, S3, q⟩ => exact ⟨_, _, S3.unsuite frame, q⟩
      | .cont, ⟨_, _, S3, q⟩ => exact ⟨_, _, S3.unsuite frame, q⟩
      | .ret _, ⟨_, _, _, S3, r, q⟩ => exact ⟨_, _, _, S3.unsuite frame, r, q⟩
  | named nd hi hl nm su =>
    refine wpAny_handleBy_cons (codeAny_handlers_test (c.test hs hf nm (match_.here ?_))) nofun
    cases b with
    | false => exact no rfl
    | true =>
      refine codeAny_handlers_suite_as (c.land fun s2 c2 => ?_)
      obtain ⟨oe, z, rec, _, S⟩ := c2.within hs hf
      refine store_ok (X := X.suite a ((a, oe) :: (X.pn ++ pins))) (v := .ref a) S nd hi (.inl hl) rfl (fun s3 S3 => ?_) (.inr hl)
      refine wpAny_mono ((su a oe cls d _ z rec).run [] s3 _ H _ S3 (yes rfl)) (fun f s4 out => ?_) fun _ _ z => z.elim
      match f, out with
      | .next, ⟨_, _, S4, q⟩ => exact gone_ok (S4.unsuite frame) nd hi hl fun _ J => ⟨_, _, J, q⟩
      | .brk, ⟨_, _, S4, q⟩ => exact gone_ok (S4.unsuite frame) nd hi hl fun _ J => ⟨_, _, J, q⟩
      | .cont, ⟨_, _, S4, q⟩ => exact gone_ok (S4.unsuite frame) nd hi hl fun _ J => ⟨_, _, J, q⟩
      | .ret _, ⟨_, _, _, S4, r, q⟩ => exact gone_ok (S4.unsuite frame) nd hi hl fun _ J => ⟨_, _, _, J, r, q⟩
/-- no clause is left: it goes on from here -/
theorem Caught.out (hs : X.stack = X.env :: X.outer) (hf : X.env.frame = some X.env.locals) (tk : Takes X W) (c : Caught X pins σ H a cls d s) (w : W cls d σ H) {Q : Flow → Shared → Prop} : wpAny (model X.prog X.w) X.A (handleBy (.ref a) X.env []) Q X.xe s := by
  obtain ⟨na, B, s0, I, nb, up, fl, os, ag⟩ := c
  obtain ⟨oe, vs, T, _, _, there, _, rec, trace, _⟩ := id fl.2.2.2
  have leaves : wpAny (model X.prog X.w) X.A (setFlight (.ref a) X.env.frame) (fun _ s1 => wpAny (model X.prog X.w) X.A (throw (.ref a) : Sem Flow) Q X.xe s1) X.xe s :=
    hf ▸ HandSPX.setFlight_upZ fl fun h held more => wpAny_throw (tk (.ref a) _ ⟨a, B, s0, pins, σ, H, cls, d, rfl, I, nb, up.trans more, .inr (.inr held), na, os, ag, w⟩)
  have has : (Value.ref T == Value.none) = false := rfl
  refine wpAny_handleBy_nil (wpAny_bind (wpAny_field there rec trace ?_))
  simp only [has, Bool.false_eq_true, if_false]
  first
    | exact wpAny_bind leaves
    | exact wpAny_bind (wpAny_pure (wpAny_bind leaves))
/-- clauses, tried in turn -/
theorem Caught.turns (hs : X.stack = X.env :: X.outer) (hf : X.env.frame = some X.env.locals) (tk : Takes X W) (c : Caught X pins σ H a cls d s) : ∀ {l : List ExceptHandler} {xs : List Cla}, ClasOk X l xs → wCla X.K W D xs cls d σ H →
    wpAny (model X.prog X.w) X.A (handleBy (.ref a) X.env l) (SP X pins D) X.xe s
  | _, _, .nil, w => c.out hs hf tk w
  | _, _, .cons ok r, ⟨true, one, w⟩ => c.clause hs hf ok one (fun _ => w a c.free) nofun
  | _, _, .cons ok r, ⟨false, one, w⟩ => c.clause hs hf ok one nofun fun _ => c.turns hs hf tk r w
/-- try: body, several except clauses -/
theorem ps_try_cls {body : List Stmt} {h₀ : ExceptHandler} {l : List ExceptHandler} {xs : List Cla} {pos : Pos} {tb : WX → TS} (hs : X.stack = X.env :: X.outer) (hf : X.env.frame = some X.env.locals) (tk : Takes X W)
    (hb : ∀ (U : WX) (pn : List (Addr × Obj)) (xe : Value → Shared → Prop), Takes (X.tr pn xe) U → PassesOwn (model X.prog X.w) X.A X.env xe → PSs (X.tr pn xe) body (tb U)) (hl : ClasOk X (h₀ :: l) xs) :
    PS X (.Try body (h₀ :: l) [] [] pos) (fun D σ H => tb (wCla X.K W D xs) D σ H) := by
  constructor
  intro pins s σ H D I h
  have frame := I.ok
  have top : X.A.frames = some (X.env :: X.outer) := hs ▸ frame.frames
  apply wpAny_Try_except
  refine wpAny_mono ((hb (wCla X.K W D xs) (X.pn ++ pins) _ ?_ PassesOwn.looking).run [] s σ H D (I.toTry _) h) ?_ fun _ _ z => z
  · rintro u s' ⟨a, B, s0, pn, σ', H', cls, d, rfl, J, nb, up, sky, na, os, ag, w⟩
    exact Sky.land Zc.steady top hf (hs ▸ sky) fun hp fl more => Caught.turns hs hf tk (s := { s' with heap := hp }) ⟨na, B, s0, J.ofTry frame, nb, up.trans more, hs ▸ fl, os, ag⟩ hl w
  · rintro f s1 out
    match f, out with
    | .next, ⟨_, _, J, q⟩ => exact wpAny_execs_nil ⟨_, _, J.ofTry frame, q⟩
    | .brk, ⟨_, _, J, q⟩ => exact ⟨_, _, J.ofTry frame, q⟩
    | .cont, ⟨_, _, J, q⟩ => exact ⟨_, _, J.ofTry frame, q⟩
    | .ret _, ⟨_, _, _, J, r, q⟩ => exact ⟨_, _, _, J.ofTry frame, r, q⟩
end
end Sea

set_option Elab.async false
set_option linter.all false
set_option maxRecDepth 100000
set_option maxHeartbeats 4000000
namespace Sea
open PySem PySem.Spec PyProof.Rows L2 LamX NdefX ClX Evl StX
def top (i : Nat) : Stmt := PySem.Challenge.pw_seasonpass_k46_texts_round_trip.main.body.getD i (.Pass ⟨0, 0, 0, 0⟩)
abbrev sStart : Stmt := top 25
abbrev sDrawn : Stmt := top 26
/-! ### draws, second kind: the state keeps the script, a place, a number of its own, the rest of a large cell -/
def Ds (K : PySem.W.Frag) (H : Hp) (h c : Addr) : Prop := ∃ (p m r : Int) (ns : List Int), 0 ≤ p ∧ H h = some (.lst [.ref c, .int p, .int m, .int r]) ∧ SqL K H c (ns.map V.int) ∧ ns.length ≤ 63
/-- all kept but one -/
def Kh (h : Addr) (H H' : Hp) : Prop := ∀ b o, H b = some o → b ≠ h → H' b = some o
theorem Kh.refl {h : Addr} {H : Hp} : Kh h H H := fun _ _ e _ => e
theorem Kh.trans {h : Addr} {H H1 H2 : Hp} (a : Kh h H H1) (b : Kh h H1 H2) : Kh h H H2 := fun x o e n => b x o (a x o e n) n
theorem Kh.same {h : Addr} {H H' : Hp} (s : Same H H') : Kh h H H' := fun b o e _ => s b o e
theorem Kh.at {h : Addr} {H : Hp} {o : HO} : Kh h H (upd H h o) := fun b x e n => by
  rw [upd_ne n]
  exact e
/-- the script is read on, whatever is written to the state -/
theorem scr_keep {K : PySem.W.Frag} {H H' : Hp} {h c : Addr} {p m r : Int} {ns : List Int} (e : H h = some (.lst [.ref c, .int p, .int m, .int r])) (s : SqL K H c (ns.map V.int)) (k : Kh h H H') : SqL K H' c (ns.map V.int) := by
  rcases s with s | s
  · have ne : c ≠ h := by
      rintro rfl
      rcases s with s | ⟨o, s⟩
      · rw [e] at s
        match ns, s with
        | [], s => cases s
        | n :: r, s => cases s
      · rw [e] at s
        cases s
    rcases s with s | ⟨o, s⟩
    · exact .inl (.inl (k _ _ s ne))
    · exact .inl (.inr ⟨o, k _ _ s ne⟩)
  · exact .inr s
theorem Ds.same {K : PySem.W.Frag} {H H' : Hp} {h c : Addr} (d : Ds K H h c) (s : Same H H') : Ds K H' h c := by
  obtain ⟨p, m, r, ns, h0, e1, e2, l⟩ := d
  exact ⟨p, m, r, ns, h0, s _ _ e1, ex_l s e2, l⟩
theorem Ds.tk {K : PySem.W.Frag} {H H' : Hp} {h c : Addr} (d : Ds K H h c) (k : Kh h H H') : TK K H H' := by
  obtain ⟨p, m, r, ns, _, e1, _, _⟩ := d
  refine .but (fun b => b = h) (fun b o e n => k b o e n) fun b xs z => ?_
  rw [z]
  exact Rd.lst_no e1
theorem Ds.nh {K : PySem.W.Frag} {H : Hp} {h c b : Addr} (d : Ds K H h c) (n : H b = none) : b ≠ h := by
  obtain ⟨p, m, r, ns, _, e1, _, _⟩ := d
  rintro rfl
  rw [e1] at n
  cases n
theorem Ds.new {K : PySem.W.Frag} {H : Hp} {h c a : Addr} {o : HO} (d : Ds K H h c) (n : H a = none) : Ds K (upd H a o) h c := d.same (same_new n)
/-- a list of one's own is written, made behind the heap H0: the draws stand -/
theorem Ds.put {K : PySem.W.Frag} {H0 H : Hp} {h c l : Addr} {o : HO} (d0 : Ds K H0 h c) (k : Kh h H0 (upd H l o)) (d : Ds K H h c) (n : l ≠ h) : Ds K (upd H l o) h c := by
  obtain ⟨_, _, _, ns, _, e1, e2, l2⟩ := d0
  obtain ⟨p, m, r, _, p0, f1, _, _⟩ := d
  exact ⟨p, m, r, ns, p0, by rw [upd_ne n.symm]; exact f1, scr_keep e1 e2 k, l2⟩
theorem scStart : FnScope ["_law_script", "_law_mixed", "_law_cell"] ["_law_script"] (defScope sStart) := ⟨rfl, rfl, rfl, by decide +kernel, rfl, by decide +kernel, by decide +kernel⟩
theorem scDrawn : FnScope ["_law_state", "_law_count", "_law_result", "_law_cell"] ["_law_state", "_law_count"] (defScope sDrawn) := ⟨rfl, rfl, rfl, by decide +kernel, rfl, by decide +kernel, by decide +kernel⟩
def spStart (K : PySem.W.Frag) : Sp := fun vs H Q _ => ∃ (a : Addr) (ns : List Int), vs = [.ref a] ∧ SqL K H a (ns.map V.int) ∧ ns.length ≤ 63 ∧ ∀ (h : Addr) (H' : Hp), Same H H' → H h = none → Ds K H' h a → Q (.ref h) H'
def spDrawn (K : PySem.W.Frag) : Sp := fun vs H Q _ => ∃ (h c : Addr) (lim : Int), vs = [.ref h, .int lim] ∧ 0 < lim ∧ lim.natAbs.log2 < 9000 ∧ Ds K H h c ∧ ∀ (v : Int) (H' : Hp), 0 ≤ v → v < lim → Ds K H' h c → Kh h H H' → Q (.int v) H'
section
variable {P : Program} {w : World} {K : PySem.W.Frag} {mg : Str → Option Value} {base : Heap}
theorem ok_start {f : Addr} {fd : FuncData} {k : Nat} (F : Fun K "_law_start" "_law_start" sStart f fd) : FnOk P w K mg base CX0 (k + 1) f fd ["_law_script"] (spStart K) := by
  refine F.ok scStart (fun vs H Q E h => ?_) (fun cdv A outer s H vs Q E hr h => ?_)
  · obtain ⟨a, ns, rfl, _⟩ := h
    rfl
  · obtain ⟨a, ns, rfl, hS, hlen, q⟩ := h
    refine ⟨_, pss_cons (ps_set (i := 1) scStart.nd rfl (.inl rfl) pe_int) (pss_cons (ps_for PassesOwn.never rfl (pi_list (pv 0)) (pg_name (i := 2) scStart.nd rfl (.inl rfl))
        (pss_one (ps_set (i := 1) scStart.nd rfl (.inl rfl) (pe_op op_modN (pe_op op_add (pe_op op_add (pe_op op_mul (pv 1) pe_int) (pv 2)) pe_int) pe_int))))
      (pss_one (ps_ret (pe_lst (pa_cons (pv 0) (pa_cons pe_int (pa_cons (pv 1) (pa_cons pe_int pa_nil)))))))), ?_⟩
    refine ⟨_, rfl, a, rfl, ⟨_, hS⟩, for_list (K := K) (a := a) (xs := ns.map V.int) (fun i σ H' => ∃ (m : Int) (v : Option V), σ = [some (.ref a), some (.int m), v] ∧ H' = H)
      ⟨1, none, rfl, rfl⟩ (fun i σ H' _ ⟨_, _, _, e⟩ => by rw [e]; exact hS) ?_ ?_⟩
    · rintro i y σ H' hi ⟨m, v, rfl, rfl⟩
      obtain ⟨u, rfl⟩ : ∃ u, y = V.int u := by
        rw [List.getElem?_map] at hi
        cases e : ns[i]? with
        | none => rw [e] at hi; cases hi
        | some u => rw [e] at hi; exact ⟨u, (Option.some.inj hi).symm⟩
      refine ⟨_, rfl, _, _, rfl, rfl, .inr ⟨by decide, by decide⟩, _, rfl, _, _, rfl, rfl, _, _, rfl, rfl, _, _, rfl, rfl, (by show (2147483647 : Int) ≠ 0; decide), ?_⟩
      exact ⟨_, _, rfl, rfl⟩
    · rintro σ H' ⟨m, v, rfl, rfl⟩
      refine ⟨_, rfl, _, rfl, Nat.le_of_lt (small1000 (show 4 ≤ 1000 by decide)), fun l nl => ?_⟩
      exact q l _ (same_new nl) nl ⟨0, m, 0, ns, Int.le_refl 0, upd_same, ex_l (Ex.new nl) hS, hlen⟩
theorem ok_drawn {f : Addr} {fd : FuncData} {k : Nat} (F : Fun K "_law_drawn" "_law_drawn" sDrawn f fd) (mN : mg "len" = none) : FnOk P w K mg base CX0 (k + 1) f fd ["_law_state", "_law_count"] (spDrawn K) := by
  refine F.ok scDrawn (fun vs H Q E h => ?_) (fun cdv A outer s H vs Q E hr h => ?_)
  · obtain ⟨h, c, lim, rfl, _⟩ := h
    rfl
  · obtain ⟨h, c, lim, rfl, l0, l1, ⟨p, m, r, ns, p0, e1, e2, hlen⟩, q⟩ := h
    refine ⟨_, pss_cons (ps_if (pt_cmpR op_gt (pe_ixl (pv 0) pe_int) pe_int (nomark _))
          (pss_cons (ps_set (i := 2) scDrawn.nd rfl (.inl rfl) (pe_op op_modN (pe_ixl (pv 0) pe_int) (pv 1)))
          (pss_cons (ps_asg (pe_op op_fdivW (pe_ixl (pv 0) pe_int) (pv 1)) (pg_sub (pv 0) pe_int set_list))
            (pss_one (ps_ret (pv 2))))) pss_nil)
      (pss_cons (ps_asg (pe_op op_add (pe_ixl (pv 0) pe_int) pe_int) (pg_sub (pv 0) pe_int set_list))
      (pss_cons (ps_if (pt_cmpR L2.op_le (pe_ixl (pv 0) pe_int) (pe_callB call_len_seq (by rfl) mN PySem.boot_len (pa_cons (pe_ixl (pv 0) pe_int) pa_nil)) (nomark _))
          (pss_cons (ps_set (i := 3) scDrawn.nd rfl (.inl rfl) (pe_ixl (pe_ixl (pv 0) pe_int) (pe_op op_sub (pe_ixl (pv 0) pe_int) pe_int)))
          (pss_cons (ps_asg (pe_ifExp (pt_cmpR op_ge (pv 3) (pe_op op_pow pe_int pe_int) (nomark _)) (pe_op op_fdivW (pv 3) (pv 1)) pe_int) (pg_sub (pv 0) pe_int set_list))
            (pss_one (ps_ret (pe_op op_modN (pv 3) (pv 1)))))) pss_nil)
      (pss_cons (ps_asg (pe_op op_modN (pe_op op_add (pe_op op_mul (pe_ixl (pv 0) pe_int) pe_int) pe_int) pe_int) (pg_sub (pv 0) pe_int set_list))
      (pss_one (ps_ret (pe_op op_modN (pe_op op_fdivN (pe_ixl (pv 0) pe_int) pe_int) (pv 1))))))), ?_⟩
    have n0 : lim ≠ 0 := Int.ne_of_gt l0
    have done : ∀ (v m' r' p' : Int) (H' : Hp), 0 ≤ p' → H' h = some (.lst [.ref c, .int p', .int m', .int r']) → Kh h H H' → Q (.int (v.fmod lim)) H' := fun v m' r' p' H' hp' e k =>
      q _ _ (Int.fmod_nonneg_of_pos _ l0) (Int.fmod_lt_of_pos _ l0) ⟨p', m', r', ns, hp', e, scr_keep e1 e2 k, hlen⟩ k
    refine ⟨_, rfl, h, _, 3, _, rfl, rfl, SqL.of e1, rfl, _, _, rfl, rfl, _, rfl, ?_⟩
    refine ite2 (fun hgt => ?_) (fun _ => ?_)
    · refine ⟨_, rfl, h, _, 3, _, rfl, rfl, SqL.of e1, rfl, _, rfl, _, _, rfl, rfl, n0, ?_⟩
      refine ⟨_, rfl, h, _, 3, _, rfl, rfl, SqL.of e1, rfl, _, rfl, _, _, rfl, rfl, ⟨l0, l1⟩, ?_⟩
      refine ⟨_, rfl, h, _, 3, 3, rfl, rfl, e1, rfl, ?_⟩
      refine ⟨_, rfl, ?_⟩
      exact done r m _ p _ p0 upd_same Kh.at
    · refine ⟨_, rfl, h, _, 1, _, rfl, rfl, SqL.of e1, rfl, _, _, rfl, rfl, ?_⟩
      refine ⟨_, rfl, h, _, 1, 1, rfl, rfl, e1, rfl, ?_⟩
      have f1 : upd H h (.lst [V.ref c, .int (p + 1), .int m, .int r]) h = some (.lst [V.ref c, .int (p + 1), .int m, .int r]) := upd_same
      have f2 : SqL K (upd H h (.lst [V.ref c, .int (p + 1), .int m, .int r])) c (ns.map V.int) := scr_keep e1 e2 Kh.at
      refine ⟨_, rfl, h, _, 1, _, rfl, rfl, SqL.of f1, rfl, ?_⟩
      refine ⟨_, rfl, h, _, 0, _, rfl, rfl, SqL.of f1, rfl, c, _, rfl, .inl (f2), _, _, rfl, rfl, _, rfl, ?_⟩
      refine ite2 (fun hle => ?_) (fun _ => ?_)
      · have hle := of_decide_eq_true hle
        rw [List.length_map] at hle
        obtain ⟨j, rfl⟩ := Int.eq_ofNat_of_zero_le p0
        have hj : j < ns.length := by omega
        have hat : atI (ns.map V.int) ((j : Int) + 1 - 1) = some (.int ns[j]) := by
          rw [Int.add_sub_cancel]
          refine at_nat (by rw [List.length_map]; exact hj) ?_
          rw [List.getElem?_map, List.getElem?_eq_getElem hj]
          rfl
        refine ⟨_, rfl, h, _, 0, _, rfl, rfl, SqL.of f1, rfl, _, rfl, h, _, 1, _, rfl, rfl, SqL.of f1, rfl, _, _, rfl, rfl, c, _, _, _, rfl, rfl, f2, hat, ?_⟩
        refine ⟨_, rfl, _, _, rfl, rfl, ⟨by decide, by decide, by decide⟩, _, _, rfl, rfl, _, rfl, ?_⟩
        refine ite2 (fun _ => ?_) (fun _ => ?_)
        · refine ⟨_, rfl, _, rfl, _, _, rfl, rfl, ⟨l0, l1⟩, ?_⟩
          refine ⟨_, rfl, h, _, 3, 3, rfl, rfl, f1, rfl, ?_⟩
          refine ⟨_, rfl, _, rfl, _, _, rfl, rfl, n0, ?_⟩
          exact done _ _ _ _ _ (by omega) upd_same (Kh.at.trans Kh.at)
        · refine ⟨_, rfl, h, _, 3, 3, rfl, rfl, f1, rfl, ?_⟩
          refine ⟨_, rfl, _, rfl, _, _, rfl, rfl, n0, ?_⟩
          exact done _ _ _ _ _ (by omega) upd_same (Kh.at.trans Kh.at)
      · refine ⟨_, rfl, h, _, 2, _, rfl, rfl, SqL.of f1, rfl, _, _, rfl, rfl, .inr ⟨by decide, by decide⟩, _, _, rfl, rfl, _, _, rfl, rfl, (by show (2147483647 : Int) ≠ 0; decide), ?_⟩
        refine ⟨_, rfl, h, _, 2, 2, rfl, rfl, f1, rfl, ?_⟩
        refine ⟨_, rfl, h, _, 2, _, rfl, rfl, SqL.of upd_same, rfl, _, _, rfl, rfl, ⟨by decide, by decide⟩, _, rfl, _, _, rfl, rfl, n0, ?_⟩
        exact done _ _ _ _ _ (by omega) upd_same (Kh.at.trans Kh.at)
end
end Sea

set_option Elab.async false
set_option linter.all false
set_option maxRecDepth 100000
set_option maxHeartbeats 4000000
namespace Sea
open PySem PySem.Spec PyProof.Rows L2 LamX NdefX ClX Evl StX
def PrV (K : PySem.W.Frag) (H : Hp) (v : V) (x : Int × Int) : Prop := ∃ b, v = .ref b ∧ SqT K H b [.int x.1, .int x.2]
inductive PsV (K : PySem.W.Frag) (H : Hp) : List V → List (Int × Int) → Prop
  | nil : PsV K H [] []
  | cons {v : V} {x : Int × Int} {vs : List V} {L : List (Int × Int)} : PrV K H v x → PsV K H vs L → PsV K H (v :: vs) (x :: L)
theorem PrV.tk {K : PySem.W.Frag} {H H' : Hp} {v : V} {x : Int × Int} (t : TK K H H') (h : PrV K H v x) : PrV K H' v x := by
  obtain ⟨b, e, h⟩ := h
  exact ⟨b, e, t _ _ h⟩
theorem PsV.tk {K : PySem.W.Frag} {H H' : Hp} {vs : List V} {L : List (Int × Int)} (t : TK K H H') (h : PsV K H vs L) : PsV K H' vs L := by
  induction h with
  | nil => exact .nil
  | cons a _ ih => exact .cons (a.tk t) ih
theorem PsV.len {K : PySem.W.Frag} {H : Hp} {vs : List V} {L : List (Int × Int)} (h : PsV K H vs L) : vs.length = L.length := by
  induction h with
  | nil => rfl
  | cons _ _ ih => rw [List.length_cons, List.length_cons, ih]
theorem PsV.get {K : PySem.W.Frag} {H : Hp} {vs : List V} {L : List (Int × Int)} (h : PsV K H vs L) : ∀ {i : Nat} {v : V}, vs[i]? = some v → ∃ x, L[i]? = some x ∧ PrV K H v x := by
  induction h with
  | nil =>
    intro i v e
    simp at e
  | @cons v0 x0 vs0 L0 a _ ih =>
    intro i v e
    cases i with
    | zero =>
      have e' : v0 = v := by simpa using e
      exact ⟨x0, by simp, e' ▸ a⟩
    | succ j => simpa using ih (i := j) (v := v) (by simpa using e)
theorem PsV.app {K : PySem.W.Frag} {H : Hp} {vs ws : List V} {L M : List (Int × Int)} (h : PsV K H vs L) (g : PsV K H ws M) : PsV K H (vs ++ ws) (L ++ M) := by
  induction h with
  | nil => exact g
  | cons a _ ih => exact .cons a ih
theorem PsV.take {K : PySem.W.Frag} {H : Hp} {vs : List V} {L : List (Int × Int)} (h : PsV K H vs L) : ∀ n, PsV K H (vs.take n) (L.take n) := by
  induction h with
  | nil =>
    intro n
    simp
    exact .nil
  | cons a _ ih =>
    intro n
    cases n with
    | zero => exact .nil
    | succ m => exact .cons a (ih m)
theorem PsV.drop {K : PySem.W.Frag} {H : Hp} {vs : List V} {L : List (Int × Int)} (h : PsV K H vs L) : ∀ n, PsV K H (vs.drop n) (L.drop n) := by
  induction h with
  | nil =>
    intro n
    simp
    exact .nil
  | cons a b ih =>
    intro n
    cases n with
    | zero => exact .cons a b
    | succ m => exact ih m
def psD (L : List (Int × Int)) : PyData := .tuple (L.map fun x => .tuple [.int x.1, .int x.2])
theorem PsV.dp {K : PySem.W.Frag} {H : Hp} {vs : List V} {L : List (Int × Int)} (h : PsV K H vs L) : DpAll K H vs (L.map fun x => .tuple [.int x.1, .int x.2]) := by
  induction h with
  | nil => exact .nil
  | cons a _ ih =>
    obtain ⟨b, rfl, hb⟩ := a
    exact .cons (.tup hb (.cons (.int _) (.cons (.int _) .nil))) ih
/-- a tuple of passes at v -/
def PsA (K : PySem.W.Frag) (H : Hp) (v : V) (L : List (Int × Int)) : Prop := ∃ a vs, v = .ref a ∧ SqT K H a vs ∧ PsV K H vs L
theorem PsA.tk {K : PySem.W.Frag} {H H' : Hp} {v : V} {L : List (Int × Int)} (t : TK K H H') (h : PsA K H v L) : PsA K H' v L := by
  obtain ⟨a, vs, e, h1, h2⟩ := h
  exact ⟨a, vs, e, t _ _ h1, h2.tk t⟩
theorem PsA.dp {K : PySem.W.Frag} {H : Hp} {v : V} {L : List (Int × Int)} (h : PsA K H v L) : Dp K H v (psD L) := by
  obtain ⟨a, vs, rfl, h1, h2⟩ := h
  exact .tup h1 h2.dp
theorem psD_lay : ∀ L : List (Int × Int), PyData.canLayAll0 (L.map fun x => PyData.tuple [.int x.1, .int x.2]) = true
  | [] => rfl
  | x :: L => by
    show ((true && (true && true)) && PyData.canLayAll0 (L.map fun x => PyData.tuple [.int x.1, .int x.2])) = true
    rw [psD_lay L]
    rfl
theorem psD_eqv : ∀ L M : List (Int × Int), PyData.eqvAll (L.map fun x => .tuple [.int x.1, .int x.2]) (M.map fun x => .tuple [.int x.1, .int x.2]) = decide (L = M)
  | [], [] => rfl
  | [], _ :: _ => rfl
  | _ :: _, [] => rfl
  | x :: L, y :: M => by
    show (((x.1 == y.1) && ((x.2 == y.2) && true)) && PyData.eqvAll (L.map fun x => .tuple [.int x.1, .int x.2]) (M.map fun x => .tuple [.int x.1, .int x.2])) = _
    rw [psD_eqv L M, Bool.eq_iff_iff]
    obtain ⟨x1, x2⟩ := x
    obtain ⟨y1, y2⟩ := y
    simp
theorem psD_eq (L M : List (Int × Int)) : PyData.eqv (psD L) (psD M) = decide (L = M) := psD_eqv L M
abbrev sIT : Stmt := inClass (top 3) 0
abbrev sInit : Stmt := inClass (top 8) 3
abbrev sPasses : Stmt := inClass (top 8) 5
abbrev sValid : Stmt := top 9
theorem scIT : FnScope ["self", "index"] ["self", "index"] (defScope sIT) := ⟨rfl, rfl, rfl, by decide +kernel, rfl, by decide +kernel, by decide +kernel⟩
theorem scInit : FnScope ["self", "passes", "index", "length", "price", "is_good"] ["self", "passes"] (defScope sInit) := ⟨rfl, rfl, rfl, by decide +kernel, rfl, by decide +kernel, by decide +kernel⟩
theorem scValid : FnScope ["tariff", "index"] ["tariff", "index"] (defScope sValid) := ⟨rfl, rfl, rfl, by decide +kernel, rfl, by decide +kernel, by decide +kernel⟩
/-- the text's facts -/
structure TX (K : PySem.W.Frag) (mg : Str → Option Value) (C cI cU cP fI : Addr) (mc mp : Value) : Prop where
  cl : Cls K C
  no : NoAttr K C "offers"
  gC : mg "Tariff" = some (.ref C)
  cr : CRead K C mc
  v1 : ∃ u, CVal K C mc "MAX_LENGTH" (.int 28) u
  v2 : ∃ u, CVal K C mc "MAX_PRICE" (.int 1000000) u
  v3 : ∃ u, CVal K C mc "MAX_PASSES" (.int 6) u
  mE : mg "enumerate" = none
  mN : mg "len" = none
  mT : mg "tuple" = none
  xI : OexC K cI
  nI : PySem.W.findIn K (.ref cI) "index" = some none
  gI : mg "InvalidTariff" = some (.ref cI)
  iI : PySem.W.findIn K (.ref cI) "__init__" = some (some (.ref fI))
  tI : PySem.W.typeIn K (.ref fI) = some (.type "function")
  pI : PIn K mg "PassError" cP mp
  qU : PySem.W.excIn K cU [.type "ValueError", .type "Exception", .type "BaseException", .type "object"] "ValueError.__new__" = true
  gU : mg "UnknownPass" = some (.ref cU)
  kU : PySem.W.keepIn K (.ref cU) = true
  sU : PySem.W.subIn K (.ref cU) (.type "BaseException") = some true
  yU : PySem.W.typeIn K (.ref cU) = some (.type "type")
section
variable {P : Program} {w : World} {K : PySem.W.Frag} {mg : Str → Option Value} {base : Heap} {C cI cU cP fI : Addr} {mc mp : Value}
theorem ok_IT {k : Nat} {fd : FuncData} (F : Fun K "__init__" "InvalidTariff.__init__" sIT fI fd) (T : TX K mg C cI cU cP fI mc mp) : FnOk P w K mg base CX0 (k + 1) fI fd ["self", "index"] (spX1 K "index") := by
  refine F.ok scIT (fun vs H Q E h => ?_) (fun cdv A outer s H vs Q E hr h => ?_)
  · obtain ⟨a, C', y, rfl, _⟩ := h
    rfl
  · obtain ⟨a, C', y, rfl, hx, hf, ha, q⟩ := h
    refine ⟨_, pss_cons (ps_expr (pe_pinit (by rfl) T.pI.gB T.pI.rd T.pI.ga T.pI.at_ (pa_cons (pv 0) (pa_cons pe_str pa_nil)))) (pss_one (ps_ost (pv 0) (pv 1))), ?_⟩
    refine ⟨_, rfl, a, C', _, rfl, by decide, hx, ha, _, rfl, _, rfl, a, C', rfl, hx, hf, .inl ⟨ha, fun dx h1 h2 => q dx h1 h2⟩⟩
theorem kb_IT {fd : FuncData} (F : Fun K "__init__" "InvalidTariff.__init__" sIT fI fd) : KBn K fd ["self", "index"] 1 ["index"] (fun us ws => us ++ ws) (fun vs zs => vs ++ zs) := by
  obtain ⟨oc, od, kV, doc, pm, an, cdv, ct, osl, rfl, lk, hcd⟩ := F.ex
  refine ⟨fun s us ws _ h1 h2 => ?_, fun a b => a.append b⟩
  match us, ws, h1, h2 with
  | [u], [x], _, _ => exact .of_eq rfl
end
theorem scPasses : FnScope ["self"] ["self"] (defScope sPasses) := ⟨rfl, rfl, rfl, by decide +kernel, rfl, by decide +kernel, by decide +kernel⟩
/-- a tariff at a, its tuple of passes at p -/
def Tar (K : PySem.W.Frag) (C : Addr) (H : Hp) (a p : Addr) (L : List (Int × Int)) : Prop := (∃ dx, H a = some (.ins C dx [("offers", .ref p)])) ∧ PsA K H (.ref p) L
theorem Tar.len_eq {K : PySem.W.Frag} {C : Addr} {H : Hp} {a p : Addr} {L : List (Int × Int)} (t : Tar K C H a p L) : ∃ vs, SqT K H p vs ∧ vs.length = L.length ∧ PsV K H vs L := by
  obtain ⟨_, q, vs, e, h1, h2⟩ := t
  cases e
  exact ⟨vs, h1, h2.len, h2⟩
/-- the getter of passes -/
structure TP (K : PySem.W.Frag) (C fP pP : Addr) (fdP : FuncData) : Prop where
  pr : PropOf K C "passes" pP fP
  fu : Fun K "passes" "Tariff.passes" sPasses fP fdP
section
variable {P : Program} {w : World} {K : PySem.W.Frag} {mg : Str → Option Value} {base : Heap} {C cI cU cP fI fP pP : Addr} {mc mp : Value} {fdP : FuncData}
theorem ok_passes (F : Fun K "passes" "Tariff.passes" sPasses fP fdP) (c : Cls K C) (n : NoAttr K C "offers") {k : Nat} : FnOk P w K mg base CX0 (k + 1) fP fdP ["self"] (getSp C "offers") := by
  obtain ⟨oc, od, kV, doc, pm, an, cdv, ct, osl, rfl, lk, hcd⟩ := F.ex
  exact fn_getter lk hcd scPasses rfl rfl c n
theorem b_passes (F : Fun K "passes" "Tariff.passes" sPasses fP fdP) : Binds K fdP ["self"] [] := F.binds (ps := ["self"]) fun _ _ _ _ _ _ us hl => match us, hl with | [_], _ => rfl
/-- e.passes, e a tariff -/
theorem pe_passes {X : Cx} {e : Expr} {te : TE} {pos : Pos} (T : TP X.K C fP pP fdP) (c : Cls X.K C) (n : NoAttr X.K C "offers") (hr : Room 2 X.A) (he : PE X e te) (hab : attributeBase e "passes" X.env (eval e X.env) = eval e X.env := by rfl) :
    PE X (.Attribute e "passes" pos) (tProp C (getSp C "offers") [] E0 te) :=
  pe_prop he c T.pr (ok_passes (k := 0) T.fu c n) hr (b_passes T.fu) .nil pass0 hab
def spValid (K : PySem.W.Frag) (C cU : Addr) : Sp := fun vs H Q E => ∃ (a p : Addr) (i : Int) (L : List (Int × Int)), vs = [.ref a, .int i] ∧ Tar K C H a p L ∧ (0 ≤ i ∧ i < L.length → Q .non H) ∧ (¬ (0 ≤ i ∧ i < L.length) → E (.ref cU) none H)
theorem ok_valid {f : Addr} {fd : FuncData} {k : Nat} (F : Fun K "validate_pass" "validate_pass" sValid f fd) (T : TX K mg C cI cU cP fI mc mp) (TQ : TP K C fP pP fdP) : FnOk P w K mg base (L2.CX P w) (k + 3) f fd ["tariff", "index"] (spValid K C cU) := by
  refine F.okX scValid (fun vs H Q E h => ?_) (fun cdv A outer s H vs Q E hr h => ?_)
  · obtain ⟨a, p, i, L, rfl, _⟩ := h
    rfl
  · obtain ⟨a, p, i, L, rfl, ht, q1, q2⟩ := h
    refine ⟨_, pss_one (ps_if (pt_not (pt_chain op_le op_lt pe_int (pv 1) (pe_callB call_len_seq (by rfl) T.mN PySem.boot_len (pa_cons (pe_passes TQ T.cl T.no (hr.mono (by omega)) (pv 0)) pa_nil))))
      (pss_one (ps_raise rfl (takes_of rfl rfl rfl rfl) (pmk_own PySem.F.excBase_ValueError T.qU T.gU T.kU (raises_own T.sU T.yU) (by rfl)))) pss_nil), ?_⟩
    obtain ⟨vs, h1, hl, _⟩ := ht.len_eq
    obtain ⟨⟨dx, ha⟩, _⟩ := ht
    refine ⟨_, rfl, _, _, rfl, rfl, _, rfl, ?_⟩
    refine ite2 (fun h0 => ?_) (fun h0 => ?_)
    · have g0 : (0 : Int) ≤ i := of_decide_eq_true h0
      refine ⟨.ref a, rfl, a, dx, _, rfl, ha, a, dx, _, .ref p, rfl, ha, rfl, p, vs, rfl, .inr h1, _, _, rfl, rfl, _, rfl, ?_⟩
      refine ite2 (fun hb => ?_) (fun hb => ?_)
      · refine q2 fun hc => ?_
        have h2 : i < ((vs.length : Nat) : Int) := by
          rw [hl]
          exact hc.2
        rw [decide_eq_true h2] at hb
        cases hb
      · refine q1 ⟨g0, ?_⟩
        rw [← hl]
        by_cases h2 : i < ((vs.length : Nat) : Int)
        · exact h2
        · rw [decide_eq_false h2] at hb
          exact absurd rfl hb
    · refine ⟨_, rfl, q2 fun hc => ?_⟩
      rw [decide_eq_true hc.1] at h0
      exact h0 rfl
end
/-! ### what is wrong with passes -/
def okP (x : Int × Int) : Bool := (decide (1 ≤ x.1) && decide (x.1 ≤ 28)) && (decide (1 ≤ x.2) && decide (x.2 ≤ 1000000))
def badI (i : Nat) (x : Int × Int) : Bool := decide (V.int ((i : Nat) : Int) = V.int 6) || !okP x
def fb : Nat → List (Int × Int) → Option Nat
  | _, [] => none
  | i, x :: r => if badI i x = true then some i else fb (i + 1) r
def bad (L : List (Int × Int)) : Option Nat := if L = [] then some 0 else fb 0 L
theorem fb_all : ∀ (L : List (Int × Int)) (k : Nat), (∀ j x, L[j]? = some x → badI (k + j) x = false) → fb k L = none
  | [], _, _ => rfl
  | x :: r, k, h => by
    have h0 := h 0 x rfl
    unfold fb
    rw [if_neg (by rw [show badI k x = false from h0]; decide)]
    refine fb_all r (k + 1) fun j y hy => ?_
    have := h (j + 1) y (by simpa using hy)
    rwa [show k + (j + 1) = k + 1 + j by omega] at this
theorem fb_at : ∀ (L : List (Int × Int)) (k i : Nat) (x : Int × Int), L[i]? = some x → badI (k + i) x = true → (∀ j y, j < i → L[j]? = some y → badI (k + j) y = false) → fb k L = some (k + i)
  | [], _, i, _, h, _, _ => by simp at h
  | y :: r, k, 0, x, h, hb, _ => by
    obtain rfl : y = x := by simpa using h
    unfold fb
    rw [if_pos (show badI k y = true from hb)]
    rfl
  | y :: r, k, i + 1, x, h, hb, hn => by
    unfold fb
    rw [if_neg (by rw [show badI k y = false from hn 0 y (Nat.succ_pos _) rfl]; decide)]
    rw [fb_at r (k + 1) i x (by simpa using h) (by rwa [show k + 1 + i = k + (i + 1) by omega]) (fun j z hj hz => by
      have := hn (j + 1) z (by omega) (by simpa using hz)
      rwa [show k + (j + 1) = k + 1 + j by omega] at this)]
    rw [show k + 1 + i = k + (i + 1) by omega]
section
variable {P : Program} {w : World} {K : PySem.W.Frag} {mg : Str → Option Value} {base : Heap} {C cI cU cP fI fP pP : Addr} {mc mp : Value} {fdP fdI : FuncData}
theorem psD_dep : ∀ L : List (Int × Int), PyData.depthAll (L.map fun x => PyData.tuple [.int x.1, .int x.2]) ≤ 1
  | [] => Nat.zero_le _
  | x :: L => by
    show max (max 0 (max 0 0) + 1) (PyData.depthAll (L.map fun x => PyData.tuple [.int x.1, .int x.2])) ≤ 1
    have := psD_dep L
    omega
theorem psD_sh (L : List (Int × Int)) : SeqAt.shaped (psD L) = true := by
  show (PyData.canLayAll0 (L.map fun x => PyData.tuple [.int x.1, .int x.2]) && decide (PyData.depthAll (L.map fun x => PyData.tuple [.int x.1, .int x.2]) + 1 ≤ 64)) = true
  rw [psD_lay, decide_eq_true (by have := psD_dep L; omega)]
  rfl
/-- Tariff.__init__ at the tuple p -/
def spInit (K : PySem.W.Frag) (C cI : Addr) : Sp := fun vs H Q E => ∃ (a p dx : Addr) (L : List (Int × Int)), vs = [.ref a, .ref p] ∧ H a = some (.ins C dx []) ∧ PsA K H (.ref p) L ∧ L.length ≤ 1000 ∧
  (bad L = none → ∀ H', (∀ b o, H b = some o → b ≠ a → H' b = some o) → H' a = some (.ins C dx [("offers", .ref p)]) → Q .non H') ∧
  (∀ i d H', bad L = some i → Same H H' → H' d = some (.xd [("index", .int i)]) → E (.ref cI) (some d) H')
theorem ok_init_body {k : Nat} {X : Cx} (hX : X.K = K) (FI : Fun K "__init__" "InvalidTariff.__init__" sIT fI fdI) (T : TX K mg C cI cU cP fI mc mp) {f : Addr} {cdv : Value} {A : Around} {outer : List Env} {s : Shared} {H : Hp} {vs : List V} {Q : VK} {E : XK}
    (hr : Room (k + 3) (A.deeper (envOfC "Tariff.__init__" (defScope sInit) s.heap.objs.size f cdv))) (h : spInit K C cI vs H Q E) :
    ∃ t, PSs (cxOf (L2.CX P w) P w K mg base ["self", "passes", "index", "length", "price", "is_good"] "Tariff.__init__" (defScope sInit) f cdv A outer s H E) (defBody sInit) t ∧ t { nx := fun _ H' => Q .non H', rt := Q } (start ["self", "passes", "index", "length", "price", "is_good"] vs) H := by
  obtain ⟨a, p, dx, L, rfl, ha, hL, hlen, q1, q2⟩ := h
  have GI : FnOk P w K mg base CX0 1 fI fdI ["self", "index"] (spX1 K "index") := ok_IT FI T
  have kb := kb_IT FI
  refine ⟨_, pss_cons (ps_if (pt_cmpR (op_eqD hr.units) (pv 1) (pe_tup pa_nil) (nomark _)) (pss_one (ps_raise rfl (takes_of rfl rfl rfl rfl) (pmk_kw T.xI T.iI T.tI GI (hr.mono (by omega)) kb pass0 (by rfl) T.gI (pk_cons pe_int pk_nil)))) pss_nil)
    (pss_cons (ps_for (passes_of rfl) rfl (pi_enumT (by rfl) T.mE (pa_cons (pv 1) pa_nil)) (pg_tup rfl (pgs_cons (pg_name (i := 2) scInit.nd rfl (.inl rfl)) (pgs_cons (pg_tup rfl (pgs_cons (pg_name (i := 3) scInit.nd rfl (.inl rfl)) (pgs_cons (pg_name (i := 4) scInit.nd rfl (.inl rfl)) pgs_nil))) pgs_nil)))
      (pss_cons (ps_set (i := 5) scInit.nd rfl (.inl rfl) (pe_and (pe_chain op_le op_le pe_int (pv 3) (pe_clc (by rfl) T.gC T.cr T.v1)) (pe_one (pe_chain op_le op_le pe_int (pv 4) (pe_clc (by rfl) T.gC T.cr T.v2)))))
        (pss_one (ps_if (PW.pt (pw_or (pt_cmpR op_eq (pv 2) (pe_clc (by rfl) T.gC T.cr T.v3) (nomark _)) (pw_or1 (pt_not (pt_val (pv 5))))))
          (pss_one (ps_raise rfl (takes_of rfl rfl rfl rfl) (pmk_kw T.xI T.iI T.tI GI (hr.mono (by omega)) kb pass0 (by rfl) T.gI (pk_cons (pv 2) pk_nil)))) pss_nil))))
    (pss_one (ps_fld (pv 0) (pv 1) rfl))), ?_⟩
  have hps := hL
  obtain ⟨_, vs, e, h1, h2⟩ := hL
  cases e
  have hlen2 := h2.len
  refine ⟨.ref p, rfl, Nat.zero_le _, fun z nz => ?_⟩
  have s0 : Same H (upd H z (.tup [])) := same_new nz
  refine ⟨psD L, psD [], (hps.tk (.same s0)).dp, .tup (xs := []) (.of upd_same) .nil, psD_sh L, psD_sh [], _, rfl, ?_⟩
  refine ite2 (fun hb => ?_) (fun hb => ?_)
  · have eL : L = [] := by
      rw [psD_eq] at hb
      exact of_decide_eq_true hb
    refine mk1_in T.xI T.nI fun d hd => q2 0 d _ ?_ (s0.trans (same_new hd)) upd_same
    unfold bad
    rw [if_pos eL]
  have nL : L ≠ [] := fun z => by
    rw [psD_eq, decide_eq_true z] at hb
    exact hb rfl
  refine ⟨_, rfl, p, vs, rfl, (TK.same s0) _ _ h1, for_rounds (I := IteT K p vs) vs.length (fun i σ H' => ∃ v2 v3 v4 v5, σ = [some (.ref a), some (.ref p), v2, v3, v4, v5] ∧ Same H H' ∧ ∀ j x, j < i → L[j]? = some x → badI j x = false)
    ⟨none, none, none, none, rfl, s0, fun j x hj => absurd hj (Nat.not_lt_zero _)⟩ ?_ ?_⟩
  · rintro i σ H' hi ⟨v2, v3, v4, v5, rfl, sm, hall⟩
    have hvs : SqT K H' p vs := (TK.same sm) _ _ h1
    refine ⟨⟨hi, hvs⟩, ?_⟩
    rintro y HT ⟨x, TT, hx, nT, rfl, rfl⟩
    obtain ⟨⟨l, pr⟩, hLi, b, rfl, hb2⟩ := h2.get hx
    have sT : Same H' (upd H' TT (.tup [.int (i : Nat), .ref b])) := same_new nT
    have hb3 : SqT K (upd H' TT (.tup [.int (i : Nat), .ref b])) b [.int l, .int pr] := (TK.same (sm.trans sT)) _ _ hb2
    have hi6 : i < 1000 := by
      have := (List.getElem?_eq_some_iff.mp hLi).1
      omega
    refine ⟨TT, _, rfl, .of upd_same, rfl, _, _, rfl, _, _, rfl, b, _, rfl, hb3, rfl, _, _, rfl, _, _, rfl, rfl, rfl, ?_⟩
    refine q_asg (v := .bl (okP (l, pr))) (ev_andV (ev_chainI (p := fun i j => decide (i ≤ j)) (q := fun i j => decide (i ≤ j)) ev_c (ev_var rfl) ev_c) fun _ => ev_chainI (p := fun i j => decide (i ≤ j)) (q := fun i j => decide (i ≤ j)) ev_c (ev_var rfl) ev_c) fun H2 e2 => ?_
    refine s_if (b := badI i (l, pr)) (et_or (et_test (ev_op (ev_var rfl) ev_c (rv_eq rfl))) fun _ => et_not (et_B (ev_var rfl))) (fun hb3 H3 e3 => ?_) (fun hb3 H3 e3 => ?_)
    · refine ⟨_, rfl, mk1_in T.xI T.nI fun d hd => q2 i d _ ?_ (((sm.trans sT).trans (e2.trans e3)).trans (same_new hd)) upd_same⟩
      unfold bad
      rw [if_neg nL]
      have := fb_at L 0 i (l, pr) hLi (by rw [Nat.zero_add]; exact hb3) (fun j y hj hy => by
        rw [Nat.zero_add]
        exact hall j y hj hy)
      rwa [Nat.zero_add] at this
    · refine ⟨_, _, _, _, rfl, (sm.trans sT).trans (e2.trans e3), fun j x hj hxx => ?_⟩
      by_cases hji : j < i
      · exact hall j x hji hxx
      · obtain rfl : j = i := by omega
        rw [Option.some.inj (hxx.symm.trans hLi)]
        exact hb3
  · rintro σ H' ⟨v2, v3, v4, v5, rfl, sm, hall⟩
    refine ⟨⟨rfl, (TK.same sm) _ _ h1⟩, ?_⟩
    refine ⟨_, rfl, _, rfl, a, C, dx, [], rfl, sm _ _ ha, T.cl, T.no, by decide, ?_⟩
    refine q1 ?_ _ (fun b o e n => ?_) upd_same
    · unfold bad
      rw [if_neg nL]
      refine fb_all L 0 fun j x hx => ?_
      rw [Nat.zero_add]
      refine hall j x ?_ hx
      rw [hlen2]
      exact (List.getElem?_eq_some_iff.mp hx).1
    · rw [upd_ne n]
      exact sm _ _ e
end
structure TMk (K : PySem.W.Frag) (C fI fT : Addr) (fdI fdT : FuncData) : Prop where
  mkf : Mk K C fT
  fT : Fun K "__init__" "Tariff.__init__" sInit fT fdT
  fI : Fun K "__init__" "InvalidTariff.__init__" sIT fI fdI
/-- Tariff(..) of the passes vs -/
def spMk (K : PySem.W.Frag) (C cI : Addr) : Sp := fun vs H Q E => ∃ L : List (Int × Int), PsV K H vs L ∧ L.length ≤ 1000 ∧ (bad L = none → ∀ a p H', Same H H' → H a = none → Tar K C H' a p L → Q (.ref a) H') ∧
  (∀ i d H', bad L = some i → Same H H' → H' d = some (.xd [("index", .int (i : Nat))]) → E (.ref cI) (some d) H')
section
variable {P : Program} {w : World} {K : PySem.W.Frag} {mg : Str → Option Value} {base : Heap} {C cI cU cP fI fT fP pP : Addr} {mc mp : Value} {fdP fdI fdT : FuncData}
theorem ok_init (T : TX K mg C cI cU cP fI mc mp) (I : TMk K C fI fT fdI fdT) : FnR P w K mg base (L2.CX P w) 4 fT (fun vs H Q E => ∃ ws rest, vs = ws ++ rest ∧ ws.length = ["self"].length ∧ rest.length ≤ sizeLine ∧ ∀ p, H p = Option.none → spInit K C cI (ws ++ [V.ref p]) (upd H p (.tup rest)) Q E) := by
  obtain ⟨oc, od, kV, doc, pm, an, cdv, ct, osl, rfl, lk, hcd⟩ := I.fT.ex
  refine fn_star (ps := ["self"]) (pv := "passes") lk hcd scInit cxUp (fun us rest hl => ?_) fun A outer s H vs Q E hr h => ok_init_body (X := cxOf (L2.CX P w) P w K mg base ["self"] "Tariff.__init__" (defScope sInit) fT cdv A outer s H E) rfl I.fI T hr h
  match us, hl with
  | [u], _ =>
    unfold bindArgs
    have e : ∀ b : Bool, (b && (defArgs sInit).vararg.isNone) = false := fun b => by
      rw [show (defArgs sInit).vararg.isNone = false from rfl, Bool.and_false]
    show _ = _
    simp only [PySem.W.fnOf, e]
    rfl
theorem mk_in {vs : List V} {H : Hp} {Q : VK} {E : XK} (h : spMk K C cI vs H Q E) : ∀ x dx, H x = Option.none → H dx = Option.none → dx ≠ x → (fun vs H Q E => ∃ ws rest, vs = ws ++ rest ∧ ws.length = ["self"].length ∧ rest.length ≤ sizeLine ∧ ∀ p, H p = Option.none → spInit K C cI (ws ++ [V.ref p]) (upd H p (.tup rest)) Q E)
    (V.ref x :: vs) (upd (upd H dx (.own x)) x (.ins C dx [])) (fun v H2 => v = .non ∧ Q (.ref x) H2) E := by
  obtain ⟨L, hL, hlen, q1, q2⟩ := h
  intro x dx nx ndx nex
  have s0 : Same H (upd (upd H dx (.own x)) x (.ins C dx [])) := fun b o e => by
    rw [upd_ne (ne_of_none e nx), upd_ne (ne_of_none e ndx)]
    exact e
  refine ⟨[.ref x], vs, rfl, rfl, Nat.le_of_lt (small1000 (by rw [hL.len]; exact hlen)), fun p np => ?_⟩
  have npx : x ≠ p := fun e => by
    rw [← e, upd_same] at np
    cases np
  have s1 := s0.trans (same_new (o := .tup vs) np)
  have hp : SqT K (upd (upd (upd H dx (.own x)) x (.ins C dx [])) p (.tup vs)) p vs := .of upd_same
  refine ⟨x, p, dx, L, rfl, by rw [upd_ne npx, upd_same], ⟨p, vs, rfl, hp, hL.tk (.same s1)⟩, hlen, fun hb H' hk hx => ⟨rfl, q1 hb x p H' (fun b o e => hk b o (s1 b o e) (ne_of_none e nx)) nx ⟨⟨dx, hx⟩, p, vs, rfl, ?_, (hL.tk (.same s1)).tk ?_⟩⟩, fun i d H' hb sm hd => q2 i d H' hb (s1.trans sm) hd⟩
  · exact .of (hk _ _ upd_same npx.symm)
  · exact .but (fun b => b = x) (fun b o e n => hk b o e n) fun b xs z => by
      rw [z]
      refine Rd.ins_no (C := C) (dx := dx) (fs := []) ?_
      rw [upd_ne npx, upd_same]
section
variable {X : Cx} {e : Expr} {es : List Expr} {te : TE} {t : TA} {E : XK} {p pos spos : Pos}
theorem pe_tar (T : TX X.K X.mg C cI cU cP fI mc mp) (I : TMk X.K C fI fT fdI fdT) (hr : Room 5 X.A) (hx : Passes (L2.CX X.prog X.w) X E) (hg : Gl X "Tariff") (ha : PA X (e :: es) t)
    (he : starEach (e :: es) X.env = (false, eval e X.env) :: starEach es X.env := by rfl) (hpl : (backTo pos (starEach es X.env)).any (·.1) = false := by rfl) :
    PE X (.Call (.Name "Tariff" p) (e :: es) [] pos) (fun σ H Q => t σ H fun vs H1 => spMk X.K C cI vs H1 Q E) := by
  refine ⟨fun pins s σ H Q J h => ?_⟩
  refine wpAny_Call_Name_kw (ld_glob J hg T.gC ?_ (by decide))
  exact PySem.W.callWith_K (h₀ := X.base) J.ok.mod.kin I.mkf.kp (thn (ha.run pos pins s σ H _ J h) fun us s1 ⟨vs, H1, I1, r, q⟩ => ⟨I1.kIn, run_makeR I.mkf (ok_init T I) hr hx I1 r (mk_in q)⟩) he hpl
theorem pe_tarS (T : TX X.K X.mg C cI cU cP fI mc mp) (I : TMk X.K C fI fT fdI fdT) (hr : Room 5 X.A) (hx : Passes (L2.CX X.prog X.w) X E) (hg : Gl X "Tariff") (he : PE X e te)
    (hst : starEach [.Starred e spos] X.env = [(true, eval e X.env)] := by rfl) :
    PE X (.Call (.Name "Tariff" p) [.Starred e spos] [] pos) (fun σ H Q => te σ H fun y H1 => ∃ a xs, y = V.ref a ∧ SqT X.K H1 a xs ∧ spMk X.K C cI xs H1 Q E) := by
  refine ⟨fun pins s σ H Q J h => ?_⟩
  refine wpAny_Call_Name_kw (ld_glob J hg T.gC ?_ (by decide))
  refine PySem.W.callWith_S (h₀ := X.base) J.ok.mod.kin I.mkf.kp (thn (he.run pins s σ H _ J h) fun v s1 hh => ?_) hst
  obtain ⟨y, H1, I1, ry, a, xs, ey, hxs, q⟩ := hh
  subst ey
  obtain rfl : v = Value.ref a := ry
  exact star_any I1 (.inl hxs) fun us s2 I2 rv => ⟨I2.kIn, run_makeR I.mkf (ok_init T I) hr hx I2 rv (mk_in q)⟩
end
end
end Sea

set_option Elab.async false
set_option linter.all false
set_option maxRecDepth 100000
set_option maxHeartbeats 4000000
namespace Sea
open PySem PySem.Spec PyProof.Rows L2 LamX NdefX ClX Evl StX
abbrev sIV : Stmt := inClass (top 4) 0
abbrev sVN : Stmt := top 14
theorem scIV : FnScope ["self", "part", "index"] ["self", "part", "index"] (defScope sIV) := ⟨rfl, rfl, rfl, by decide +kernel, rfl, by decide +kernel, by decide +kernel⟩
theorem scVN : FnScope ["part", "numbers", "largest", "most", "index", "number"] ["part", "numbers", "largest", "most"] (defScope sVN) := ⟨rfl, rfl, rfl, by decide +kernel, rfl, by decide +kernel, by decide +kernel⟩
/-- errors of the package, as the travel's code raises them -/
structure TEv (K : PySem.W.Frag) (mg : Str → Option Value) (cV cP fV : Addr) (fdV : FuncData) (mp : Value) : Prop where
  xV : OexC K cV
  nP : PySem.W.findIn K (.ref cV) "part" = some none
  nI : PySem.W.findIn K (.ref cV) "index" = some none
  gV : mg "InvalidTravel" = some (.ref cV)
  iV : PySem.W.findIn K (.ref cV) "__init__" = some (some (.ref fV))
  tV : PySem.W.typeIn K (.ref fV) = some (.type "function")
  fu : Fun K "__init__" "InvalidTravel.__init__" sIV fV fdV
  pI : PIn K mg "PassError" cP mp
/-- a tuple of whole numbers -/
def TiA (K : PySem.W.Frag) (H : Hp) (v : V) (ns : List Int) : Prop := ∃ a, v = .ref a ∧ SqT K H a (ns.map V.int)
theorem TiA.tk {K : PySem.W.Frag} {H H' : Hp} {v : V} {ns : List Int} (t : TK K H H') (h : TiA K H v ns) : TiA K H' v ns := by
  obtain ⟨a, e, h⟩ := h
  exact ⟨a, e, t _ _ h⟩
theorem mk2_in {K : PySem.W.Frag} {H1 : Hp} {Q : XK} {f g : Str} {y z : V} {c : Addr} (T : OexC K c) (n : PySem.W.findIn K (.ref c) f = some none) (n2 : PySem.W.findIn K (.ref c) g = some none) (h : ∀ d, H1 d = none → Q (.ref c) (some d) (upd H1 d (.xd [(g, z), (f, y)]))) :
    [y, z].length = 2 ∧ ∀ a, H1 a = none → spX2 K f g ([.ref a] ++ [y, z]) (upd H1 a (exo a c none)) (fun v H2 => v = .non ∧ ∃ (d : Addr) (fs : List (Str × V)), H2 a = some (exo a c (some d)) ∧ H2 d = some (exd d fs) ∧ H1 d = none ∧ Q (.ref c) (some d) (upd (del H2 a) d (.xd fs))) (fun _ _ _ => False) := by
  refine ⟨rfl, fun a ha => ⟨a, c, y, z, rfl, T, n, n2, upd_same, fun dx h1 h2 => ?_⟩⟩
  rw [upd_ne h2] at h1
  refine ⟨rfl, dx, _, by rw [upd_ne h2.symm, upd_same], upd_same, h1, ?_⟩
  have e : upd (del (upd (upd (upd (upd H1 a (exo a c none)) dx (exd dx [(f, y)])) a (exo a c (some dx))) dx (exd dx [(g, z), (f, y)])) a) dx (.xd [(g, z), (f, y)]) = upd H1 dx (.xd [(g, z), (f, y)]) := by
    funext b
    by_cases hb : b = dx
    · subst hb
      rw [upd_same, upd_same]
    · rw [upd_ne hb, upd_ne hb]
      by_cases hba : b = a
      · subst hba
        rw [del_same, ha]
      · rw [del_ne hba, upd_ne hb, upd_ne hba, upd_ne hb, upd_ne hba]
  rw [e]
  exact h dx h1
/-- the first of 0 .. n - 1 of which p holds -/
def first (p : Nat → Bool) (n : Nat) : Option Nat := (List.range n).find? p
theorem first_succ (p : Nat → Bool) (n : Nat) : first p (n + 1) = (first p n).or (if p n = true then some n else none) := by
  unfold first
  rw [List.range_succ, List.find?_append, List.find?_cons]
  cases p n <;> rfl
theorem first_none {p : Nat → Bool} : ∀ {n : Nat}, (∀ j, j < n → p j = false) → first p n = none
  | 0, _ => rfl
  | n + 1, h => by
    rw [first_succ, first_none fun j hj => h j (by omega), h n (by omega)]
    rfl
theorem first_at {p : Nat → Bool} {i : Nat} (hp : p i = true) (hb : ∀ j, j < i → p j = false) : ∀ {n : Nat}, i < n → first p n = some i
  | 0, h => absurd h (Nat.not_lt_zero _)
  | n + 1, h => by
    rw [first_succ]
    by_cases e : i < n
    · rw [first_at hp hb e]
      rfl
    · obtain rfl : i = n := by omega
      rw [first_none hb, hp]
      rfl
/-- what is wrong with the i-th number -/
def nbad (ns : List Int) (lg mo : Int) (i : Nat) : Bool := decide (V.int ((i : Nat) : Int) = V.int mo) || (!(decide (0 ≤ ns.getD i 0) && decide (ns.getD i 0 ≤ lg)) || (decide ((0 : Int) < (i : Nat)) && decide (ns.getD i 0 ≤ ns.getD (i - 1) 0)))
def vbad (ns : List Int) (lg mo : Int) : Option Nat := first (nbad ns lg mo) ns.length
def spVN (K : PySem.W.Frag) (cV : Addr) : Sp := fun vs H Q E => ∃ (pt : Str) (v : V) (ns : List Int) (lg mo : Int), vs = [.str pt, v, .int lg, .int mo] ∧ TiA K H v ns ∧ ns.length ≤ 1000 ∧ (vbad ns lg mo = none → ∀ H', Same H H' → Q .non H') ∧
  (∀ i d H', vbad ns lg mo = some i → Same H H' → H' d = some (.xd [("index", .int (i : Nat)), ("part", .str pt)]) → E (.ref cV) (some d) H')
section
variable {P : Program} {w : World} {K : PySem.W.Frag} {mg : Str → Option Value} {base : Heap} {cV cN cP fV : Addr} {fdV : FuncData} {mp : Value}
theorem ok_IV {k : Nat} (T : TEv K mg cV cP fV fdV mp) : FnOk P w K mg base CX0 (k + 1) fV fdV ["self", "part", "index"] (spX2 K "part" "index") := by
  refine T.fu.ok scIV (fun vs H Q E h => ?_) (fun cdv A outer s H vs Q E hr h => ?_)
  · obtain ⟨a, C', y, z, rfl, _⟩ := h
    rfl
  · obtain ⟨a, C', y, z, rfl, hx, hf, hg, ha, q⟩ := h
    refine ⟨_, pss_cons (ps_expr (pe_pinit (by rfl) T.pI.gB T.pI.rd T.pI.ga T.pI.at_ (pa_cons (pv 0) (pa_cons pe_str pa_nil)))) (pss_cons (ps_ost (pv 0) (pv 1)) (pss_one (ps_ost (pv 0) (pv 2)))), ?_⟩
    refine ⟨_, rfl, a, C', _, rfl, show 1 ≤ 1000 by decide, hx, ha, _, rfl, _, rfl, a, C', rfl, hx, hf, .inl ⟨ha, fun dx h1 h2 => ⟨_, rfl, _, rfl, a, C', rfl, hx, hg, .inr ⟨dx, [("part", y)], upd_same, by rw [upd_ne h2, upd_same], show 1 ≤ 900 by decide, ?_⟩⟩⟩⟩
    exact q dx h1 h2
theorem kb_IV (T : TEv K mg cV cP fV fdV mp) : KBn K fdV ["self", "part", "index"] 1 ["part", "index"] (fun us ws => us ++ ws) (fun vs zs => vs ++ zs) := by
  obtain ⟨oc, od, kV, doc, pm, an, cdv, ct, osl, rfl, lk, hcd⟩ := T.fu.ex
  refine ⟨fun s us ws _ h1 h2 => ?_, fun a b => a.append b⟩
  match us, ws, h1, h2 with
  | [u], [x, y], _, _ => exact .of_eq rfl
theorem ok_vn {f : Addr} {fd : FuncData} {k : Nat} (F : Fun K "validate_numbers" "validate_numbers" sVN f fd) (T : TEv K mg cV cP fV fdV mp) (mE : mg "enumerate" = none) : FnOk P w K mg base (L2.CX P w) (k + 4) f fd ["part", "numbers", "largest", "most"] (spVN K cV) := by
  have GI : FnOk P w K mg base CX0 1 fV fdV ["self", "part", "index"] (spX2 K "part" "index") := ok_IV T
  have kb := kb_IV T
  refine F.okX scVN (fun vs H Q E h => ?_) (fun cdv A outer s H vs Q E hr h => ?_)
  · obtain ⟨pt, v, ns, lg, mo, rfl, _⟩ := h
    rfl
  · obtain ⟨pt, v, ns, lg, mo, rfl, ⟨p, rfl, hp⟩, hlen, q1, q2⟩ := h
    refine ⟨_, pss_one (ps_for (passes_of rfl) rfl (pi_enumT (by rfl) mE (pa_cons (pv 1) pa_nil)) (pg_tup rfl (pgs_cons (pg_name (i := 4) scVN.nd rfl (.inl rfl)) (pgs_cons (pg_name (i := 5) scVN.nd rfl (.inl rfl)) pgs_nil)))
      (pss_one (ps_if (PW.pt (pw_or (pt_cmpR op_eq (pv 4) (pv 3) (nomark _)) (pw_or (pt_not (pt_chain op_le op_le pe_int (pv 5) (pv 2))) (pw_or1 (PW.pt (pw_and (pt_cmpR op_gt (pv 4) pe_int (nomark _)) (pw_and1 (pt_cmpR op_le (pv 5) (pe_ixt (pv 1) (pe_op op_sub (pv 4) pe_int)) (nomark _)))))))))
        (pss_one (ps_raise rfl (takes_of rfl rfl rfl rfl) (pmk_kw T.xV T.iV T.tV GI (hr.mono (by omega)) kb pass0 (by rfl) T.gV (pk_cons (pv 0) (pk_cons (pv 4) pk_nil))))) pss_nil))), ?_⟩
    have hll : (ns.map V.int).length = ns.length := List.length_map ..
    refine ⟨_, rfl, p, _, rfl, hp, for_rounds (I := IteT K p (ns.map V.int)) (ns.map V.int).length (fun i σ H' => ∃ v4 v5, σ = [some (.str pt), some (.ref p), some (.int lg), some (.int mo), v4, v5] ∧ Same H H' ∧ ∀ j, j < i → nbad ns lg mo j = false)
      ⟨none, none, rfl, Same.refl H, fun j hj => absurd hj (Nat.not_lt_zero _)⟩ ?_ ?_⟩
    · rintro i σ H' hi ⟨v4, v5, rfl, sm, hall⟩
      refine ⟨⟨hi, (TK.same sm) _ _ hp⟩, ?_⟩
      rintro y HT ⟨x, TT, hx, nT, rfl, rfl⟩
      rw [hll] at hi
      obtain rfl : x = .int ns[i] := by
        rw [List.getElem?_map, List.getElem?_eq_getElem hi] at hx
        exact (Option.some.inj hx).symm
      have sT : Same H' (upd H' TT (.tup [.int (i : Nat), .int ns[i]])) := same_new nT
      have hp2 := (TK.same (sm.trans sT)) _ _ hp
      have gi : ns.getD i 0 = ns[i] := by rw [List.getD_eq_getElem?_getD, List.getElem?_eq_getElem hi]; rfl
      refine ⟨TT, _, rfl, .of upd_same, rfl, _, _, rfl, _, _, rfl, rfl, ?_⟩
      refine s_when (b := nbad ns lg mo i) ?_ (fun hb H2 e2 => ?_) (fun hb H2 e2 => ⟨_, _, rfl, (sm.trans sT).trans e2, fun j hj => ?_⟩)
      · unfold nbad
        rw [gi]
        refine et_or (et_test (ev_op (ev_var rfl) (ev_var rfl) (rv_eq rfl))) fun _ => et_or (et_not (et_test (ev_chainI (p := fun i j => decide (i ≤ j)) (q := fun i j => decide (i ≤ j)) ev_c (ev_var rfl) (ev_var rfl)))) fun _ => et_and (et_test (ev_op (ev_var rfl) ev_c rv_I0)) fun h0 => ?_
        have h0' : 0 < i := by
          have := of_decide_eq_true h0
          omega
        have hi1 : i - 1 < ns.length := by omega
        have g1 : ns.getD (i - 1) 0 = ns[i - 1] := by rw [List.getD_eq_getElem?_getD, List.getElem?_eq_getElem hi1]; rfl
        rw [g1]
        have ha : atI (ns.map V.int) (((i : Nat) : Int) - 1) = some (.int ns[i - 1]) := by
          rw [show ((i : Nat) : Int) - 1 = ((i - 1 : Nat) : Int) by omega]
          refine at_nat (by rw [hll]; exact hi1) ?_
          rw [List.getElem?_map, List.getElem?_eq_getElem hi1]
          rfl
        exact et_test (ev_op (ev_var rfl) (ev_op (ev_var rfl) (ev_op (ev_var rfl) ev_c rv_I0) (rv_ixT hp2 ha)) rv_I0)
      · refine ⟨_, rfl, _, rfl, mk2_in T.xV T.nP T.nI fun d hd => q2 i d _ ?_ (((sm.trans sT).trans e2).trans (same_new hd)) upd_same⟩
        exact first_at hb hall hi
      · by_cases hji : j < i
        · exact hall j hji
        · obtain rfl : j = i := by omega
          exact hb
    · rintro σ H' ⟨v4, v5, rfl, sm, hall⟩
      refine ⟨⟨rfl, (TK.same sm) _ _ hp⟩, ?_⟩
      rw [hll] at hall
      exact q1 (first_none hall) H' sm
end
def Good (ns : List Int) (lg : Int) : Prop := ∀ j, j < ns.length → 0 ≤ ns.getD j 0 ∧ ns.getD j 0 ≤ lg ∧ (0 < j → ns.getD (j - 1) 0 < ns.getD j 0)
theorem Good.mono {ns : List Int} {l m : Int} (h : Good ns l) (e : l ≤ m) : Good ns m := fun j hj => ⟨(h j hj).1, Int.le_trans (h j hj).2.1 e, (h j hj).2.2⟩
theorem getD_app1 {ns : List Int} {x : Int} {j : Nat} (h : j < ns.length) : (ns ++ [x]).getD j 0 = ns.getD j 0 := by
  rw [List.getD_eq_getElem?_getD, List.getD_eq_getElem?_getD, List.getElem?_append_left h]
theorem getD_app2 {ns : List Int} {x : Int} : (ns ++ [x]).getD ns.length 0 = x := by
  rw [List.getD_eq_getElem?_getD, List.getElem?_append_right (Nat.le_refl _), Nat.sub_self]
  rfl
theorem Good.snoc {ns : List Int} {x : Int} (h : Good ns (x - 1)) (h0 : 0 ≤ x) : Good (ns ++ [x]) x := fun j hj => by
  rw [List.length_append, List.length_singleton] at hj
  by_cases e : j < ns.length
  · rw [getD_app1 e]
    obtain ⟨a, b, c⟩ := h j e
    refine ⟨a, by omega, fun hp => ?_⟩
    rw [getD_app1 (by omega)]
    exact c hp
  · obtain rfl : j = ns.length := by omega
    rw [getD_app2]
    refine ⟨h0, Int.le_refl _, fun hp => ?_⟩
    rw [getD_app1 (by omega)]
    have := (h (ns.length - 1) (by omega)).2.1
    omega
theorem vbad_good {ns : List Int} {lg mo : Int} (h : Good ns lg) (hl : (ns.length : Int) ≤ mo) : vbad ns lg mo = none := first_none fun j hj => by
  obtain ⟨a, b, c⟩ := h j hj
  unfold nbad
  rw [decide_eq_true a, decide_eq_true b, show decide (V.int ((j : Nat) : Int) = V.int mo) = false from by rw [dec_int]; simp; omega]
  by_cases hp : 0 < j
  · have := c hp
    rw [show decide (ns.getD j 0 ≤ ns.getD (j - 1) 0) = false from decide_eq_false (by omega)]
    simp
  · rw [show decide ((0 : Int) < (j : Nat)) = false from decide_eq_false (by omega)]
    rfl
abbrev sTvI : Stmt := inClass (top 15) 0
theorem scTvI : FnScope ["self", "length", "days", "exceptions"] ["self", "length", "days", "exceptions"] (defScope sTvI) := ⟨rfl, rfl, rfl, by decide +kernel, rfl, by decide +kernel, by decide +kernel⟩
/-- what is wrong with a travel -/
def tbad (ln : Int) (ds os : List Int) : Option (Str × Nat) :=
  if 1 ≤ ln ∧ ln ≤ 14 then (match vbad ds (ln - 1) 14 with
    | some i => some ("days", i)
    | none => match vbad os 1000000000000000000 6 with
      | some i => some ("exceptions", i)
      | none => none) else some ("length", 0)
/-- the travel's class and its constants -/
structure TTv (K : PySem.W.Frag) (mg : Str → Option Value) (C fVN : Addr) (dVN : FuncData) : Prop where
  cl : Cls K C
  nS : NoAttr K C "size"
  nP : NoAttr K C "pattern"
  nO : NoAttr K C "odd_days"
  gC : mg "Travel" = some (.ref C)
  mR : ∃ u, mg "MAX_ROUND" = some u ∧ RelV (.int 14) u
  mX : ∃ u, mg "MAX_EXCEPTIONS" = some u ∧ RelV (.int 6) u
  mD : ∃ u, mg "MAX_DAYS" = some u ∧ RelV (.int 1000000000000000000) u
  mE : mg "enumerate" = none
  gVN : mg "validate_numbers" = some (.ref fVN)
  kVN : PySem.W.keepIn K (.ref fVN) = true
  uVN : Fun K "validate_numbers" "validate_numbers" sVN fVN dVN
theorem TTv.bVN {K : PySem.W.Frag} {mg : Str → Option Value} {C fVN : Addr} {dVN : FuncData} (T : TTv K mg C fVN dVN) : Binds K dVN ["part", "numbers", "largest", "most"] [] := T.uVN.binds (ps := ["part", "numbers", "largest", "most"]) fun _ _ _ _ _ _ us hl => match us, hl with | [_, _, _, _], _ => rfl
theorem putF_len (f : Str) (v : V) : ∀ fs : List (Str × V), (putF f v fs).length ≤ fs.length + 1
  | [] => Nat.le_refl _
  | (g, u) :: r => by
    show (if g = f then (g, v) :: r else (g, u) :: putF f v r).length ≤ r.length + 1 + 1
    by_cases e : g = f
    · rw [if_pos e]
      exact Nat.le_succ _
    · rw [if_neg e]
      exact Nat.succ_le_succ (putF_len f v r)
/-- the fields of a travel -/
abbrev tvF (ln : Int) (d o : V) : List (Str × V) := putF "odd_days" o (putF "pattern" d (putF "size" (.int ln) []))
def spTvI (K : PySem.W.Frag) (C cV : Addr) : Sp := fun vs H Q E => ∃ (a dx : Addr) (ln : Int) (d o : V) (ds os : List Int), vs = [.ref a, .int ln, d, o] ∧ H a = some (.ins C dx []) ∧ TiA K H d ds ∧ TiA K H o os ∧ ds.length ≤ 1000 ∧ os.length ≤ 1000 ∧
  (tbad ln ds os = none → ∀ H', (∀ b o, H b = some o → b ≠ a → H' b = some o) → H' a = some (.ins C dx (tvF ln d o)) → Q .non H') ∧
  (∀ pt i dd H', tbad ln ds os = some (pt, i) → Same H H' → H' dd = some (.xd [("index", .int (i : Nat)), ("part", .str pt)]) → E (.ref cV) (some dd) H')
section
variable {P : Program} {w : World} {K : PySem.W.Frag} {mg : Str → Option Value} {base : Heap} {cV cP fV C fVN : Addr} {fdV dVN : FuncData} {mp : Value}
theorem ok_tvI {f : Addr} {fd : FuncData} (F : Fun K "__init__" "Travel.__init__" sTvI f fd) (T : TEv K mg cV cP fV fdV mp) (W : TTv K mg C fVN dVN) : FnOk P w K mg base (L2.CX P w) 5 f fd ["self", "length", "days", "exceptions"] (spTvI K C cV) := by
  have GI : FnOk P w K mg base CX0 1 fV fdV ["self", "part", "index"] (spX2 K "part" "index") := ok_IV T
  have kb := kb_IV T
  refine F.okX scTvI (fun vs H Q E h => ?_) (fun cdv A outer s H vs Q E hr h => ?_)
  · obtain ⟨a, dx, ln, d, o, ds, os, rfl, _⟩ := h
    rfl
  · obtain ⟨a, dx, ln, d, o, ds, os, rfl, ha, hd, ho, ld, lo, q1, q2⟩ := h
    have PX : Passes (L2.CX P w) (cxOf (L2.CX P w) P w K mg base ["self", "length", "days", "exceptions"] "Travel.__init__" (defScope sTvI) f cdv A outer s H E) E := passes_call (takes_of rfl rfl rfl rfl) (fun _ _ _ _ h => h)
    have G : FnOk P w K mg base (L2.CX P w) 4 fVN dVN ["part", "numbers", "largest", "most"] (spVN K cV) := ok_vn (k := 0) W.uVN T W.mE
    refine ⟨_, pss_cons (ps_if (pt_not (pt_chain op_le op_le pe_int (pv 1) (C8.pe_gc (by rfl) W.mR))) (pss_one (ps_raise rfl (takes_of rfl rfl rfl rfl) (pmk_kw T.xV T.iV T.tV GI (hr.mono (by omega)) kb pass0 (by rfl) T.gV (pk_cons pe_str (pk_cons pe_int pk_nil))))) pss_nil)
      (pss_cons (ps_expr (pe_call (E := E) G hr (by rfl) W.gVN W.kVN W.bVN .nil PX (pa_cons pe_str (pa_cons (pv 2) (pa_cons (pe_op op_sub (pv 1) pe_int) (pa_cons (C8.pe_gc (by rfl) W.mR) pa_nil))))))
      (pss_cons (ps_expr (pe_call (E := E) G hr (by rfl) W.gVN W.kVN W.bVN .nil PX (pa_cons pe_str (pa_cons (pv 3) (pa_cons (C8.pe_gc (by rfl) W.mD) (pa_cons (C8.pe_gc (by rfl) W.mX) pa_nil))))))
      (pss_cons (ps_fld (pv 0) (pv 1) rfl) (pss_cons (ps_fld (pv 0) (pv 2) rfl) (pss_one (ps_fld (pv 0) (pv 3) rfl)))))), ?_⟩
    refine q_when (b := !(decide (1 ≤ ln) && decide (ln ≤ 14))) (et_not (et_test (ev_chainI (p := fun i j => decide (i ≤ j)) (q := fun i j => decide (i ≤ j)) ev_c (ev_var rfl) ev_c))) (fun hb H1 e1 => ?_) (fun hb H1 e1 => ?_)
    · refine mk2_in T.xV T.nP T.nI fun dd hdd => q2 "length" 0 dd _ ?_ (Same.trans e1 (same_new hdd)) upd_same
      unfold tbad
      rw [if_neg fun hc => by
        rw [decide_eq_true hc.1, decide_eq_true hc.2] at hb
        cases hb]
    · have hc : 1 ≤ ln ∧ ln ≤ 14 := by
        have : (decide (1 ≤ ln) && decide (ln ≤ 14)) = true := by
          cases h : (decide (1 ≤ ln) && decide (ln ≤ 14)) with
          | true => rfl
          | false =>
            rw [h] at hb
            cases hb
        rw [Bool.and_eq_true] at this
        exact ⟨of_decide_eq_true this.1, of_decide_eq_true this.2⟩
      have hd1 := hd.tk (.same e1)
      refine ⟨_, rfl, _, rfl, _, _, rfl, rfl, "days", d, ds, ln - 1, 14, rfl, hd1, ld, fun hv H2 s2 => ?_, fun i dd H2 hv s2 hx => q2 "days" i dd H2 ?_ (Same.trans e1 s2) hx⟩
      · have ho2 := (ho.tk (.same e1)).tk (.same s2)
        refine ⟨_, rfl, "exceptions", o, os, 1000000000000000000, 6, rfl, ho2, lo, fun hv2 H3 s3 => ?_, fun i dd H3 hv2 s3 hx => q2 "exceptions" i dd H3 ?_ (Same.trans (Same.trans e1 s2) s3) hx⟩
        · have ha3 := s3 _ _ (s2 _ _ (e1 _ _ ha))
          refine ⟨_, rfl, _, rfl, a, C, dx, [], rfl, ha3, W.cl, W.nS, by decide, ?_⟩
          refine ⟨_, rfl, _, rfl, a, C, dx, _, rfl, upd_same, W.cl, W.nP, (show 1 < 1000 by decide), ?_⟩
          refine ⟨_, rfl, _, rfl, a, C, dx, _, rfl, upd_same, W.cl, W.nO, Nat.lt_of_le_of_lt (putF_len _ _ _) (show 2 < 1000 by decide), ?_⟩
          refine q1 ?_ _ (fun b x e n => ?_) upd_same
          · unfold tbad
            rw [if_pos hc, hv, hv2]
          · rw [upd_ne n, upd_ne n, upd_ne n]
            exact s3 _ _ (s2 _ _ (e1 _ _ e))
        · unfold tbad
          rw [if_pos hc, hv, hv2]
      · unfold tbad
        rw [if_pos hc, hv]
end
theorem tvF_size (ln : Int) (d o : V) : (tvF ln d o).lookup ("size" : Str) = some (.int ln) := by
  unfold tvF
  rw [lookup_putF, if_neg (by decide +kernel), lookup_putF, if_neg (by decide +kernel), lookup_putF, if_pos rfl]
theorem tvF_pat (ln : Int) (d o : V) : (tvF ln d o).lookup ("pattern" : Str) = some d := by
  unfold tvF
  rw [lookup_putF, if_neg (by decide +kernel), lookup_putF, if_pos rfl]
theorem tvF_odd (ln : Int) (d o : V) : (tvF ln d o).lookup ("odd_days" : Str) = some o := by
  unfold tvF
  rw [lookup_putF, if_pos rfl]
theorem tvF_no (ln : Int) (d o : V) {m : Str} (h1 : ¬ m = "odd_days") (h2 : ¬ m = "pattern") (h3 : ¬ m = "size") : (tvF ln d o).lookup m = none := by
  unfold tvF
  rw [lookup_putF, if_neg h1, lookup_putF, if_neg h2, lookup_putF, if_neg h3]
  rfl
def Tv (K : PySem.W.Frag) (C : Addr) (H : Hp) (a : Addr) (ln : Int) (d o : V) (ds os : List Int) : Prop := (∃ dx, H a = some (.ins C dx (tvF ln d o))) ∧ TiA K H d ds ∧ TiA K H o os
theorem Tv.same {K : PySem.W.Frag} {C : Addr} {H H' : Hp} {a : Addr} {ln : Int} {d o : V} {ds os : List Int} (t : Tv K C H a ln d o ds os) (s : Same H H') : Tv K C H' a ln d o ds os := by
  obtain ⟨⟨dx, h⟩, h1, h2⟩ := t
  exact ⟨⟨dx, s _ _ h⟩, h1.tk (.same s), h2.tk (.same s)⟩
abbrev sRl : Stmt := inClass (top 15) 1
abbrev sRd : Stmt := inClass (top 15) 2
abbrev sEx : Stmt := inClass (top 15) 3
theorem scRl : FnScope ["self"] ["self"] (defScope sRl) := ⟨rfl, rfl, rfl, by decide +kernel, rfl, by decide +kernel, by decide +kernel⟩
theorem scRd : FnScope ["self"] ["self"] (defScope sRd) := ⟨rfl, rfl, rfl, by decide +kernel, rfl, by decide +kernel, by decide +kernel⟩
theorem scEx : FnScope ["self"] ["self"] (defScope sEx) := ⟨rfl, rfl, rfl, by decide +kernel, rfl, by decide +kernel, by decide +kernel⟩
/-! ### the getters -/
structure TPr (K : PySem.W.Frag) (C fRl pRl fRd pRd fEx pEx : Addr) (dRl dRd dEx : FuncData) : Prop where
  pL : PropOf K C "round_length" pRl fRl
  uL : Fun K "round_length" "Travel.round_length" sRl fRl dRl
  pD : PropOf K C "round_days" pRd fRd
  uD : Fun K "round_days" "Travel.round_days" sRd fRd dRd
  pE : PropOf K C "exceptions" pEx fEx
  uE : Fun K "exceptions" "Travel.exceptions" sEx fEx dEx
section
variable {X : Cx} {C fRl pRl fRd pRd fEx pEx fVN : Addr} {dRl dRd dEx dVN : FuncData} {e : Expr} {te : TE} {pos : Pos}
theorem pe_rl (T : TPr X.K C fRl pRl fRd pRd fEx pEx dRl dRd dEx) (W : TTv X.K X.mg C fVN dVN) (hr : Room 2 X.A) (he : PE X e te) (hab : attributeBase e "round_length" X.env (eval e X.env) = eval e X.env := by rfl) : PE X (.Attribute e "round_length" pos) (tProp C (getSp C "size") [] E0 te) := by
  obtain ⟨oc, od, kV, doc, pm, an, cdv, ct, osl, rfl, lk, hcd⟩ := T.uL.ex
  exact pe_prop he W.cl T.pL (fn_getter (k := 0) lk hcd scRl rfl rfl W.cl W.nS) hr (T.uL.binds (ps := ["self"]) fun _ _ _ _ _ _ us hl => match us, hl with | [_], _ => rfl) .nil pass0 hab
theorem pe_rd (T : TPr X.K C fRl pRl fRd pRd fEx pEx dRl dRd dEx) (W : TTv X.K X.mg C fVN dVN) (hr : Room 2 X.A) (he : PE X e te) (hab : attributeBase e "round_days" X.env (eval e X.env) = eval e X.env := by rfl) : PE X (.Attribute e "round_days" pos) (tProp C (getSp C "pattern") [] E0 te) := by
  obtain ⟨oc, od, kV, doc, pm, an, cdv, ct, osl, rfl, lk, hcd⟩ := T.uD.ex
  exact pe_prop he W.cl T.pD (fn_getter (k := 0) lk hcd scRd rfl rfl W.cl W.nP) hr (T.uD.binds (ps := ["self"]) fun _ _ _ _ _ _ us hl => match us, hl with | [_], _ => rfl) .nil pass0 hab
theorem pe_ex (T : TPr X.K C fRl pRl fRd pRd fEx pEx dRl dRd dEx) (W : TTv X.K X.mg C fVN dVN) (hr : Room 2 X.A) (he : PE X e te) (hab : attributeBase e "exceptions" X.env (eval e X.env) = eval e X.env := by rfl) : PE X (.Attribute e "exceptions" pos) (tProp C (getSp C "odd_days") [] E0 te) := by
  obtain ⟨oc, od, kV, doc, pm, an, cdv, ct, osl, rfl, lk, hcd⟩ := T.uE.ex
  exact pe_prop he W.cl T.pE (fn_getter (k := 0) lk hcd scEx rfl rfl W.cl W.nO) hr (T.uE.binds (ps := ["self"]) fun _ _ _ _ _ _ us hl => match us, hl with | [_], _ => rfl) .nil pass0 hab
end
end Sea

set_option Elab.async false
set_option linter.all false
set_option maxRecDepth 100000
set_option maxHeartbeats 4000000
namespace Sea
open PySem PySem.Spec PyProof.Rows L2 LamX NdefX ClX Evl StX
/-! ### a, *b = a list -/
def gStar (K : PySem.W.Frag) (t : TGs) : TG := fun v σ H Q => ∃ (a : Addr) (x : V) (xs : List V), v = .ref a ∧ SqL K H a (x :: xs) ∧ ∀ p, H p = none → t [x, .ref p] σ (upd H p (.lst xs)) Q
/-- what a, *b takes from a list: the first item, a new list of the others -/
theorem star_items {prog : Program} {w : World} {A : Around} {E : Value → Shared → Prop} {s : Shared} {l : Addr} {u : Value} {us : List Value} {Q : List Value → Shared → Prop}
    (hh : A.handled = none) (hl : s.heap.IsList l (u :: us).toArray) (hz : us.length < sizeLine)
    (h : ∀ (h1 : Heap) (tk : Tok), (∀ b o, s.heap.get? b = some o → h1.get? b = some o) → Q [u, .ref h1.objs.size] { s with heap := h1.push { cls := .type "list", data := .seq us.toArray }, toks := tk }) :
    wpAny (model prog w) A (unpackItems (.ref l) 2 (some 1)) Q E s := by
  have below : l < s.heap.objs.size := match hl with | ⟨_, e, _⟩ => Heap.lt_size e
  have apart : l ≠ s.heap.objs.size := Nat.ne_of_lt below
  have can : wpAny (model prog w) A (notIterableAtAll (.ref l)) (fun b s' => b = false ∧ s' = s) E s := by
    unfold notIterableAtAll
    exact wpAny_bind (wpAny_specialOf hl.typeIs slot_list_iter.lookup (wpAny_pure ⟨rfl, rfl⟩))
  unfold unpackItems
  refine wpAny_bind (thn can fun b s' z => ?_)
  obtain ⟨rfl, rfl⟩ := z
  refine wpAny_bind (wpAny_holding (wpAny_pyIter_list hl ?_))
  refine wpAny_bind (wpAny_holding (PySem.W.kun_draw apart 1 0 _ _ ⟨_, Heap.get?_push_size _ rfl, rfl, rfl⟩ (hl.push _) (by simp) fun g it1 same1 => ?_))
  have lg : g.IsList l (u :: us).toArray := (hl.push _).extBut same1.extBut apart
  have old : ∀ b o, s'.heap.get? b = some o → b ≠ s'.heap.objs.size ∧ g.get? b = some o := fun b o e =>
    have n : b ≠ s'.heap.objs.size := Nat.ne_of_lt (Heap.lt_size e)
    ⟨n, same1.extBut b o n (Heap.get?_push_of_some _ e)⟩
  have itIn : s'.heap.objs.size < g.objs.size := match it1 with | ⟨_, e, _⟩ => Heap.lt_size e
  have W := Walks.list (prog := prog) (w := w) (A := A.in1) hh s'.heap.objs.size l apart (u :: us).toArray
  refine wpAny_bind (wpAny_holding (wpAny_collect_iter (s := { s' with heap := g }) (T := "list_iterator") (.inr (.inr (.inl rfl))) (PySem.W.kun_shift W (show 1 ≤ (u :: us).toArray.size by simp)).toS (fun j v st => st.1.typeIs) ⟨it1, lg⟩
    (fun b hb => ?_) (List.mem_cons_self ..) (fun z acc mv got => ?_) (by simp; omega)))
  · rcases List.mem_cons.mp hb with rfl | hb
    · exact itIn
    · rw [List.mem_singleton.mp hb]
      exact match lg with | ⟨_, e, _⟩ => Heap.lt_size e
  · obtain ⟨g2, ga, dr, tk, os2⟩ := z
    obtain ⟨kept, same2, same3, same4, same5⟩ := mv
    cases same2
    cases same3
    cases same4
    have ea : acc.toList = us := PySem.W.kun_acc (items := (u :: us).toArray) (k := 1) (by simp) got
    rw [ea]
    refine wpAny_bind (wpAny_newList (wpAny_pure ?_) (by simp; omega))
    have q := h g2 tk (fun b o e => kept b o (by simpa using (old b o e).1) (old b o e).2)
    simp
    exact q
section
variable {X : Cx} {pos : Pos}
theorem pgs_starN {x : Str} {px p : Pos} {es : List Expr} {t : TGs} (h : PGs X (.Name x px :: es) t) : PGs X (.Starred (.Name x px) p :: es) t := ⟨h.run⟩
theorem pg_star {es : List Expr} {k : Nat} {t : TGs} (hc : X.calm = true) (h : PGs X es t)
    (hn : (assignEach es X.env).length = 2 := by rfl) (hst : (assignEach es X.env).findIdx? (·.1) = some 1 := by rfl) : PG X (.Tuple es k pos) (gStar X.K t) := ⟨by
  rintro pins s σ H v u Q I r ⟨a, x, xs, rfl, hq, hw⟩
  cases r
  obtain ⟨its, rv, ⟨o, n, e1, e2, e3, e4⟩, hz⟩ := I.list hq
  cases rv with
  | cons r0 rs =>
    rw [PyProof.Rows.assign_Tuple]
    refine wpAny_bind (wpAny_standAt ?_)
    unfold unpack
    rw [hn, hst]
    refine wpAny_bind (wpAny_holding (star_items (I.ok.hd hc) ⟨o, e1, e2, n, e4⟩ (by rw [List.length_cons] at hz; rw [← rs.length]; omega) fun h1 tk keep => ?_))
    have I1 : Inv X pins σ H { s with heap := h1, toks := tk } := I.kept (t' := tk) keep
    have hp := I1.hok.fresh (Nat.le_refl _)
    refine h.run pins _ σ _ [x, .ref h1.objs.size] _ Q (I1.laid (o := .lst xs) (t' := tk) (fun b o e => Heap.get?_push_of_some _ e) (Nat.le_refl _) ⟨?_, _, 0, rs, Heap.get?_push_size _ rfl⟩) (.cons r0 (.cons rfl .nil)) (hw _ hp)
    rw [List.length_cons] at hz
    omega⟩
end
end Sea

set_option Elab.async false
set_option linter.all false
set_option maxRecDepth 100000
set_option maxHeartbeats 4000000
/-! texts: what the layer's lemmas on evaluation lack, no program in sight -/
namespace Sea
open PySem PySem.Spec PyProof.Rows L2 LamX NdefX ClX Evl StX
section
variable {K : PySem.W.Frag} {te ta tb : TE} {t : TT} {σ : L2.St} {H : Hp}
theorem given_all (n : Nat) (v : Nat → V) : given n (fun _ => true) v = (List.range n).map v := by
  unfold given
  rw [List.filter_eq_self.mpr fun _ _ => rfl]
/-- a comprehension over a text -/
theorem el_lcSt {z : Str} {j : Nat} {vs : List Nat} (f : Nat → Bool) (v : Nat → V) (h : Ev te σ H (.str z)) (hz : z.length ≤ 40000) (hw : ∀ x, wipe ((wipe σ vs).set j (some x)) vs = wipe σ vs)
    (ht : ∀ i c H1, Ex H H1 → z.cps[i]? = some c → EvT t ((wipe σ vs).set j (some (.str ⟨#[c]⟩))) H1 (f i)) (he : ∀ i c H1, Ex H H1 → z.cps[i]? = some c → f i = true → Ev tb ((wipe σ vs).set j (some (.str ⟨#[c]⟩))) H1 (v i)) :
    EvL (tLc (iStr te) (gName j) t tb vs) σ H (given z.cps.size f v) := fun H0 e Q q => h H0 e _ fun H1 e1 => ⟨z, rfl, fun Dl hD =>
  lc_it walk_str (Cw H1 f v Dl) ⟨hD, Ex.new hD, upd_same⟩ (fun _ _ _ _ => trivial) (fun i x G G' hi p y => by
    obtain ⟨rfl, c, hc, rfl⟩ := y
    exact ⟨hw _, cw_turn p (Nat.lt_of_lt_of_le hi (Nat.le_trans (show z.cps.size ≤ 40000 from hz) (by decide))) (ht i c H1 (e.trans e1) hc) (fun hf => he i c H1 (e.trans e1) hc hf)⟩) (fun H' p => q Dl H' (fresh_back e1 p.1) (e1.trans p.2.1) p.2.2)⟩
theorem ev_allL {bs : List Bool} (h : EvL te σ H (bs.map V.bl)) : Ev (tCB (rAll K) (tCons te tNil)) σ H (.bl (bs.all id)) := fun H1 e Q q =>
  h H1 e _ fun p H2 _ e2 hx => ⟨p, bs, rfl, sq_of hx, q H2 e2⟩
theorem ev_lenZ {z : Str} (h : Ev te σ H (.str z)) (hz : z.length ≤ 100000) : Ev (tCB (fun xs H Q => ∃ z, xs = [.str z] ∧ z.length ≤ sizeLine ∧ Q (.int z.length) H) (tCons te tNil)) σ H (.int (z.length : Int)) := fun H1 e Q q =>
  h H1 e _ fun H2 e2 => ⟨z, rfl, sz_of hz, q H2 e2⟩
theorem ev_inSign {c : Nat} {z : Str} (h : Ev ta σ H (.str ⟨#[c]⟩)) (g : Ev tb σ H (.str z)) : Ev (tOp (fun x y H Q => ∃ (c : Nat) (z : Str), x = .str ⟨#[c]⟩ ∧ y = .str z ∧ Q (.bl (decide (c ∈ z.cps.toList))) H) ta tb) σ H (.bl (decide (c ∈ z.cps.toList))) :=
  ev_op h g fun H1 _ Q q => ⟨c, z, rfl, rfl, q H1 (Ex.refl _)⟩
theorem ev_intS {z : Str} {n : Int} (h : Ev te σ H (.str z)) (hn : PySem.intText? z = some n) (hz : z.length ≤ 640) : Ev (tCB (fun xs H Q => ∃ a n, xs = [.str a] ∧ PySem.intText? a = some n ∧ a.length ≤ 640 ∧ Q (.int n) H) (tCons te tNil)) σ H (.int n) := fun H1 e Q q =>
  h H1 e _ fun H2 e2 => ⟨z, n, rfl, hn, hz, q H2 e2⟩
theorem ev_strI {i : Int} (h : Ev te σ H (.int i)) (hi : i.natAbs.log2 < 1920) : Ev (tCB (fun xs H Q => ∃ i, xs = [.int i] ∧ i.natAbs.log2 < 1920 ∧ Q (.str (toString i)) H) (tCons te tNil)) σ H (.str (toString i)) := fun H1 e Q q =>
  h H1 e _ fun H2 e2 => ⟨i, rfl, hi, q H2 e2⟩
end
section
variable {K : PySem.W.Frag} {te ta tb tl : TE} {t : TT} {tr : TA} {σ : L2.St} {H : Hp}
theorem el_lcTup {K : PySem.W.Frag} {σ : L2.St} {H : Hp} {a : Addr} {xs : List V} {tl te : TE} {t : TT} {j : Nat} {vs : List Nat} (f : Nat → Bool) (v : Nat → V) (h : Ev tl σ H (.ref a)) (hx : SqT K H a xs) (hz : xs.length ≤ 40000) (hw : ∀ x, wipe ((wipe σ vs).set j (some x)) vs = wipe σ vs)
    (ht : ∀ (i : Nat) (x : V) H1, Ex H H1 → xs[i]? = some x → EvT t ((wipe σ vs).set j (some x)) H1 (f i)) (he : ∀ (i : Nat) (x : V) H1, Ex H H1 → xs[i]? = some x → f i = true → Ev te ((wipe σ vs).set j (some x)) H1 (v i)) : EvL (tLc (iTup K tl) (gName j) t te vs) σ H (given xs.length f v) := by
  rintro H0 e Q q
  refine h H0 e _ fun H1 e1 => ?_
  have stays : ∀ {H2}, Ex H1 H2 → SqT K H2 a xs := fun e2 => ex_t (e.trans (e1.trans e2)) hx
  refine ⟨a, rfl, ⟨xs, stays (Ex.refl _)⟩, fun D new => ?_⟩
  refine lc_tup (xs := xs) (Cw H1 f v D) ⟨new, Ex.new new, upd_same⟩ (fun _ _ _ w => stays w.2.1) ?_ fun H2 w => q D H2 (fresh_back e1 w.1) (e1.trans w.2.1) w.2.2
  intro i x H2 at_ w
  have few := (List.getElem?_eq_some_iff.mp at_).1
  exact ⟨hw x, cw_turn w (by omega) (ht i x H1 (e.trans e1) at_) (he i x H1 (e.trans e1) at_)⟩
/-- a list that is walked, or a tuple -/
def iSeq (K : PySem.W.Frag) (te : TE) : TI := fun σ H R => iList K te σ H R ∨ iTup K te σ H R
theorem pi_seq {X : Cx} {tg l : Expr} (hl : PE X l tl) : PI X tg l (iSeq X.K tl) := ⟨fun pins s σ H R I h => h.elim ((pi_list hl).run pins s σ H R I) ((pi_tup hl).run pins s σ H R I)⟩
theorem el_lcSeq {a : Addr} {xs : List V} {j : Nat} {vs : List Nat} (f : Nat → Bool) (v : Nat → V) (h : Ev tl σ H (.ref a)) (hx : SqL K H a xs ∨ SqT K H a xs) (hz : xs.length ≤ 40000) (hw : ∀ x, wipe ((wipe σ vs).set j (some x)) vs = wipe σ vs)
    (ht : ∀ (i : Nat) (x : V) H1, Ex H H1 → xs[i]? = some x → EvT t ((wipe σ vs).set j (some x)) H1 (f i)) (he : ∀ (i : Nat) (x : V) H1, Ex H H1 → xs[i]? = some x → f i = true → Ev te ((wipe σ vs).set j (some x)) H1 (v i)) :
    EvL (tLc (iSeq K tl) (gName j) t te vs) σ H (given xs.length f v) := fun H1 e Q q => hx.elim (fun hx => .inl (el_lcL f v h hx hz hw ht he H1 e Q q)) (fun hx => .inr (el_lcTup f v h hx hz hw ht he H1 e Q q))
theorem eu_tupL {p : Addr} {xs : List V} (h : Ev te σ H (.ref p)) (hx : H p = some (.lst xs)) : EvU (tCB (fun xs H Q => ∃ p ys, xs = [.ref p] ∧ ((SqL K H p ys ∧ ∀ l, H l = none → Q (.ref l) (upd H l (.tup ys))) ∨ (SqT K H p ys ∧ Q (.ref p) H))) (tCons te tNil)) σ H xs := fun H1 e Q q =>
  h H1 e _ fun H2 e2 => ⟨p, xs, rfl, .inl ⟨sq_of (e2 _ _ (e _ _ hx)), fun l nl => q l _ (fresh_back e2 nl) (e2.trans (Ex.new nl)) upd_same⟩⟩
theorem et_isV {i : Nat} {v : V} (hs : σ[i]? = some (some v)) : EvT (tTest (tOp (fun x y H Q => y = .non ∧ Q (.bl (decide (x = .non))) H) (tVar i) (tC .non))) σ H (decide (v = .non)) := et_isN hs
theorem ea_star {xs ys : List V} (h : EvL tl σ H xs) (hr : EvA tr σ H ys) : EvA (tStar K tl tr) σ H (xs ++ ys) := fun H1 e Q q =>
  h H1 e _ fun p H2 _ e2 hx => ⟨p, xs, rfl, .inr (sq_of hx), hr H2 (e.trans e2) _ fun H3 e3 => q H3 (e2.trans e3)⟩
theorem ea_star1 {xs : List V} (h : EvL tl σ H xs) : EvA (tStar K tl tNil) σ H xs := by
  have z := ea_star (K := K) h (ea_nil (σ := σ) (H := H))
  rw [List.append_nil] at z
  exact z
theorem sum_le {ys : List Str} {m : Nat} (h : ∀ y ∈ ys, y.length ≤ m) : (ys.map (·.length)).sum ≤ ys.length * m := by
  induction ys with
  | nil => simp
  | cons y r ih =>
    rw [List.map_cons, List.sum_cons, List.length_cons, Nat.succ_mul]
    have h1 := h y (List.mem_cons_self ..)
    have h2 := ih fun z hz => h z (List.mem_cons_of_mem _ hz)
    omega
theorem ev_join {sp : Str} {ys : List Str} (h : Ev ta σ H (.str sp)) (g : EvL tb σ H (ys.map V.str)) (hz : (ys.map (·.length)).sum + ys.length * sp.length ≤ 16777216) :
    Ev (tM1 (fun x xs H Q => ∃ a p, ∃ ys : List Str, x = .str a ∧ xs = [.ref p] ∧ (SqL K H p (ys.map V.str) ∨ SqT K H p (ys.map V.str)) ∧ (ys.map (·.length)).sum + ys.length * a.length ≤ 16777216 ∧ Q (.str (Txt.join a ys)) H) ta tb) σ H (.str (Txt.join sp ys)) := fun H1 e Q q =>
  h H1 e _ fun H2 e2 => ⟨⟨sp, rfl⟩, g H2 (e.trans e2) _ fun p H3 _ e3 hx => ⟨sp, p, ys, rfl, rfl, .inl (sq_of hx), hz, q H3 (e2.trans e3)⟩⟩
/-- a split into a new list -/
theorem el_split {z sp : Str} (h : Ev ta σ H (.str z)) (g : Ev tb σ H (.str sp)) (hs : (sp.length == 0) = false) (hz : z.length ≤ 100000) :
    EvL (tM1 (fun x xs H Q => ∃ a b, x = .str a ∧ xs = [.str b] ∧ (b.length == 0) = false ∧ a.length + 2 ≤ sizeLine ∧ rNewStrs (Txt.split a b) H Q) ta tb) σ H ((Txt.split z sp).map V.str) := fun H1 e Q q =>
  h H1 e _ fun H2 e2 => ⟨⟨z, rfl⟩, g H2 (e.trans e2) _ fun H3 e3 => ⟨z, sp, rfl, rfl, hs, Nat.le_trans (Nat.add_le_add_right hz 2) (by decide), fun p hp => q p _ (fresh_back (e2.trans e3) hp) ((e2.trans e3).trans (Ex.new hp)) upd_same⟩⟩
end
theorem map_getD {α β : Type} (f : α → β) (d : α) (xs : List α) : (List.range xs.length).map (fun i => f (xs.getD i d)) = xs.map f := by
  refine List.ext_getElem? fun i => ?_
  rw [List.getElem?_map, List.getElem?_map]
  by_cases h : i < xs.length
  · rw [List.getElem?_range h, List.getElem?_eq_getElem h]
    show some (f (xs.getD i d)) = some (f xs[i])
    rw [List.getD_eq_getElem?_getD, List.getElem?_eq_getElem h]
    rfl
  · rw [List.getElem?_eq_none (by rw [List.length_range]; omega), List.getElem?_eq_none (by omega)]
    rfl
theorem map_at {α β : Type} {f : α → β} {xs : List α} {i : Nat} {y : β} (h : (xs.map f)[i]? = some y) : ∃ x, xs[i]? = some x ∧ y = f x := by
  rw [List.getElem?_map] at h
  cases e : xs[i]? with
  | none => rw [e] at h; cases h
  | some x => rw [e] at h; exact ⟨x, rfl, (Option.some.inj h).symm⟩
theorem el_is {te : TE} {σ : L2.St} {H : Hp} {xs ys : List V} (h : EvL te σ H xs) (e : xs = ys) : EvL te σ H ys := e ▸ h
theorem et_yes {σ : L2.St} {H : Hp} : EvT (fun _ H Q => Q true H) σ H true := fun H1 _ Q q => q H1 (Ex.refl _)
theorem sgn_eq (c d : Nat) : decide (V.str ⟨#[c]⟩ = V.str ⟨#[d]⟩) = decide (c = d) := by
  by_cases h : c = d
  · rw [h, decide_eq_true rfl, decide_eq_true rfl]
  · rw [decide_eq_false h, decide_eq_false fun e => h (by simpa using e)]
/-- a sign of a number -/
def digC (c : Nat) : Bool := decide (c ∈ ("0123456789" : Str).cps.toList)
theorem digC_iff {c : Nat} (h : digC c = true) : 48 ≤ c ∧ c ≤ 57 := by
  have m : c ∈ ("0123456789" : Str).cps.toList := of_decide_eq_true h
  have e : ("0123456789" : Str).cps.toList = [48, 49, 50, 51, 52, 53, 54, 55, 56, 57] := by decide +kernel
  rw [e] at m
  simp at m
  omega
/-- a word that is no number -/
def badW (z : Str) : Bool := decide (V.str z = V.str "") || (!(((List.range z.cps.size).map fun i => digC (z.cps.getD i 0)).all id) || (decide ((1 : Int) < (z.length : Int)) && decide (z.cps.getD 0 0 = 48)))
def valW (z : Str) : Int := (PySem.intText? z).getD 0
theorem badW_val {z : Str} (h : badW z = false) (hz : z.length ≤ 640) : PySem.intText? z = some (valW z) ∧ 0 ≤ valW z := by
  unfold badW at h
  rw [Bool.or_eq_false_iff, Bool.or_eq_false_iff, Bool.not_eq_false'] at h
  obtain ⟨h1, h2, _⟩ := h
  have dig : NumText.AllDigits z.cps.toList := fun c hc => by
    obtain ⟨i, hi, rfl⟩ := List.mem_iff_getElem.mp hc
    rw [Array.length_toList] at hi
    have := List.all_eq_true.mp h2 (digC (z.cps.getD i 0)) (List.mem_map.mpr ⟨i, List.mem_range.mpr hi, rfl⟩)
    have := digC_iff this
    simpa [Array.getD, hi] using this
  have ne : z.cps.toList ≠ [] := fun e => by
    have : z = "" := by
      cases z with
      | mk a =>
        have : a = #[] := by simpa using e
        rw [this]
        rfl
    rw [this] at h1
    simp at h1
  have e := intText_digits dig ne (Nat.le_trans hz (by decide))
  unfold valW
  rw [e]
  exact ⟨rfl, Int.natCast_nonneg _⟩
def numsW (ws : List Str) : Option (List Int) := if ws.all (fun z => !badW z) = true then some (ws.map valW) else none
end Sea

set_option Elab.async false
set_option linter.all false
set_option maxRecDepth 100000
set_option maxHeartbeats 4000000
namespace Sea
open PySem PySem.Spec PyProof.Rows L2 LamX NdefX ClX Evl StX
abbrev sNums : Stmt := top 18
abbrev sLine : Stmt := top 19
theorem scNums : FnScope ["words", "word", "digit"] ["words"] (defScope sNums) := ⟨rfl, rfl, rfl, by decide +kernel, rfl, by decide +kernel, by decide +kernel⟩
theorem scLine : FnScope ["word", "numbers", "number"] ["word", "numbers"] (defScope sLine) := ⟨rfl, rfl, rfl, by decide +kernel, rfl, by decide +kernel, by decide +kernel⟩
/-- numbers_of -/
def spNums (K : PySem.W.Frag) : Sp := fun vs H Q _ => ∃ (a : Addr) (ws : List Str), vs = [.ref a] ∧ SqL K H a (ws.map V.str) ∧ ws.length ≤ 1000 ∧ (∀ z ∈ ws, z.length ≤ 640) ∧
  (numsW ws = none → ∀ H', Same H H' → Q .non H') ∧ (∀ ns, numsW ws = some ns → ∀ p H', Same H H' → H p = none → H' p = some (.lst (ns.map V.int)) → Q (.ref p) H')
structure TNm (K : PySem.W.Frag) (mg : Str → Option Value) (fNu fLi : Addr) (dNu dLi : FuncData) : Prop where
  mA : mg "all" = none
  mN : mg "len" = none
  mI : mg "int" = none
  mS : mg "str" = none
  mD : ∃ u, mg "DIGITS" = some u ∧ RelV (.str "0123456789") u
  gN : mg "numbers_of" = some (.ref fNu)
  kN : PySem.W.keepIn K (.ref fNu) = true
  uN : Fun K "numbers_of" "numbers_of" sNums fNu dNu
  gL : mg "line_of" = some (.ref fLi)
  kL : PySem.W.keepIn K (.ref fLi) = true
  uL : Fun K "line_of" "line_of" sLine fLi dLi
section
variable {P : Program} {w : World} {K : PySem.W.Frag} {mg : Str → Option Value} {base : Heap} {fNu fLi : Addr} {dNu dLi : FuncData}
theorem ok_nums {k : Nat} (T : TNm K mg fNu fLi dNu dLi) : FnOk P w K mg base CX0 (k + 1) fNu dNu ["words"] (spNums K) := by
  refine T.uN.ok scNums (fun vs H Q E h => ?_) (fun cdv A outer s H vs Q E hr h => ?_)
  · obtain ⟨a, ws, rfl, _⟩ := h
    rfl
  · obtain ⟨a, ws, rfl, ha, hl, hz, q0, q1⟩ := h
    refine ⟨_, pss_cons (ps_for PassesOwn.never rfl (pi_list (pv 0)) (pg_name (i := 1) scNums.nd rfl (.inl rfl))
        (pss_one (ps_if (PW.pt (pw_or (pt_cmpR op_eq (pv 1) pe_str (nomark _)) (pw_or (pt_not (pt_val (pe_callB (cr_all rfl) (by rfl) T.mA (by decide +kernel) (pa_cons
            (pe_lc (own := [("digit", 2)]) (g := gName 2) (by rfl) scNums.nd (pi_str (pv 1)) (blkOk_by (own := [("digit", 2)]) (N := ["words", "word", "digit"]) (sc := defScope sNums) (by decide +kernel))
              (fun _ _ _ _ _ => pg_name (i := 2) scNums.nd rfl (Or.inl rfl)) (fun _ _ _ _ _ => pts_nil) (fun _ _ _ _ _ => pe_cmpR op_in_sign (pv 2) (C8.pe_gc (by rfl) T.mD) (by rfl))) pa_nil))))
          (pw_or1 (PW.pt (pw_and (pt_cmpR op_gt (pe_callB call_len_str (by rfl) T.mN PySem.boot_len (pa_cons (pv 1) pa_nil)) pe_int (nomark _)) (pw_and1 (pt_cmpR op_eq (pe_ix ix_str (pv 1) pe_int (fun _ _ => rfl)) pe_str (nomark _)))))))))
          (pss_one (ps_ret pe_non)) pss_nil)))
      (pss_one (ps_ret (pe_lc (own := [("word", 1)]) (g := gName 1) (by rfl) scNums.nd (pi_list (pv 0)) (blkOk_by (own := [("word", 1)]) (N := ["words", "word", "digit"]) (sc := defScope sNums) (by decide +kernel))
              (fun _ _ _ _ _ => pg_name (i := 1) scNums.nd rfl (Or.inl rfl)) (fun _ _ _ _ _ => pts_nil) (fun _ _ _ _ _ => pe_callTy call_int_str (by rfl) T.mI (by rfl) (pa_cons (pv 1) pa_nil))))), ?_⟩
    refine q_forL (xs := ws.map V.str) (ev_var rfl) ha (fun i σ' H' => (∃ v d, σ' = [some (.ref a), v, d]) ∧ Ex H H' ∧ ∀ j z, j < i → ws[j]? = some z → badW z = false)
      (fun H1 e1 => ⟨⟨_, _, rfl⟩, e1, fun j z hj => absurd hj (Nat.not_lt_zero j)⟩) (fun i σ' H' _ p => ex_l p.2.1 ha) (fun i x σ' H' hi p => ?_) (fun σ' H' p => ?_)
    · obtain ⟨⟨v, d, rfl⟩, e1, hb⟩ := p
      rw [List.getElem?_map] at hi
      obtain ⟨z, hz1, rfl⟩ : ∃ z, ws[i]? = some z ∧ x = V.str z := by
        cases hw : ws[i]? with
        | none => rw [hw] at hi; cases hi
        | some z => rw [hw] at hi; exact ⟨z, rfl, (Option.some.inj hi).symm⟩
      have zl : z.length ≤ 640 := hz z (List.mem_of_getElem? hz1)
      show tIfS _ _ _ _ [some (.ref a), some (.str z), d] H'
      refine s_when (b := badW z) (et_is (et_or (et_test (ev_op (ev_var rfl) ev_c (rv_eq rfl))) (fun h1 => et_or (et_not (et_B (ev_allL (bs := (List.range z.cps.size).map fun i => digC (z.cps.getD i 0)) (el_is (el_lcSt (fun _ => true) (fun i => .bl (digC (z.cps.getD i 0))) (ev_var rfl) (Nat.le_trans zl (by decide)) (fun _ => rfl) (fun _ _ _ _ _ => et_yes) (fun i c H1 _ hc _ => ?_)) ?_))))
        (fun _ => et_and (et_test (ev_op (ev_lenZ (ev_var rfl) (Nat.le_trans zl (by decide))) ev_c rv_I0)) (fun hg => et_test (ev_op (ev_op (ev_var rfl) ev_c (rv_ixS (c := z.cps.getD 0 0) (Nat.le_trans zl (by decide)) ?_)) ev_c (rv_eq rfl)))))) ?_) (fun hb1 H2 e2 => ?_) (fun hb1 H2 e2 => ?_)
      · have e : digC (z.cps.getD i 0) = decide (c ∈ ("0123456789" : Str).cps.toList) := by
          unfold digC
          rw [Array.getD_eq_getD_getElem?, hc]
          rfl
        rw [e]
        exact ev_inSign (ev_var rfl) ev_c
      · rw [given_all, List.map_map]
        rfl
      · have hg := of_decide_eq_true hg
        refine at_nat (i := 0) ?_ ?_
        · rw [Array.length_toList]
          have : (1 : Int) < ((z.cps.size : Nat) : Int) := hg
          omega
        · have : (1 : Int) < ((z.cps.size : Nat) : Int) := hg
          rw [Array.getElem?_toList, Array.getD_eq_getD_getElem?, Array.getElem?_eq_getElem (by omega)]
          rfl
      · unfold badW
        rw [show ("0" : Str) = ⟨#[48]⟩ from by decide +kernel, sgn_eq _ 48]
      · refine q0 ?_ H2 (e1.trans e2)
        unfold numsW
        rw [if_neg fun h => ?_]
        have := List.all_eq_true.mp h z (List.mem_of_getElem? hz1)
        rw [hb1] at this
        cases this
      · refine ⟨⟨_, _, rfl⟩, e1.trans e2, fun j u hj hu => ?_⟩
        rcases Nat.lt_succ_iff_lt_or_eq.mp hj with h | rfl
        · exact hb j u h hu
        · rw [hz1] at hu
          cases hu
          exact hb1
    · obtain ⟨⟨v, d, rfl⟩, e1, hb⟩ := p
      rw [List.length_map] at hb
      have all : ∀ z ∈ ws, badW z = false := fun z hz1 => by
        obtain ⟨j, hj, rfl⟩ := List.mem_iff_getElem.mp hz1
        exact hb j _ hj (List.getElem?_eq_getElem hj)
      refine s_retL (el_is (el_lcL (fun _ => true) (fun i => .int (valW (ws.getD i ""))) (ev_var rfl) (ex_l e1 ha) (by rw [List.length_map]; omega) (fun _ => rfl) (fun _ _ _ _ _ => et_yes) (fun i x H1 _ hi _ => ?_)) ?_) (fun p H1 hp e2 h1 => q1 (ws.map valW) ?_ p H1 (e1.trans e2) (fresh_back e1 hp) h1)
      · rw [List.getElem?_map] at hi
        obtain ⟨z, hz1, rfl⟩ : ∃ z, ws[i]? = some z ∧ x = V.str z := by
          cases hw : ws[i]? with
          | none => rw [hw] at hi; cases hi
          | some z => rw [hw] at hi; exact ⟨z, rfl, (Option.some.inj hi).symm⟩
        rw [List.getD_eq_getElem?_getD, hz1]
        have hm := List.mem_of_getElem? hz1
        exact ev_intS (ev_var rfl) (badW_val (all z hm) (hz z hm)).1 (hz z hm)
      · rw [given_all, List.length_map, List.map_map]
        refine List.ext_getElem? fun i => ?_
        rw [List.getElem?_map, List.getElem?_map]
        by_cases h : i < ws.length
        · rw [List.getElem?_range h, List.getElem?_eq_getElem h]
          show some (V.int (valW (ws.getD i ""))) = some (V.int (valW ws[i]))
          rw [List.getD_eq_getElem?_getD, List.getElem?_eq_getElem h]
          rfl
        · rw [List.getElem?_eq_none (by rw [List.length_range]; omega), List.getElem?_eq_none (by omega)]
          rfl
      · unfold numsW
        rw [if_pos (List.all_eq_true.mpr fun z hz1 => by rw [all z hz1]; rfl)]
/-- a line: a word and numbers -/
def lineW (z : Str) (ns : List Int) : Str := Txt.join " " (z :: ns.map fun n => (toString n : Str))
def spLine (K : PySem.W.Frag) : Sp := fun vs H Q _ => ∃ (a : Addr) (z : Str) (ns : List Int), vs = [.str z, .ref a] ∧ (SqL K H a (ns.map V.int) ∨ SqT K H a (ns.map V.int)) ∧ ns.length ≤ 100 ∧ z.length ≤ 100 ∧ (∀ n ∈ ns, n.natAbs.log2 < 1920) ∧ (∀ n ∈ ns, (toString n : Str).length ≤ 640) ∧ ∀ H', Same H H' → Q (.str (lineW z ns)) H'
theorem ok_line {k : Nat} (T : TNm K mg fNu fLi dNu dLi) : FnOk P w K mg base CX0 (k + 1) fLi dLi ["word", "numbers"] (spLine K) := by
  refine T.uL.ok scLine (fun vs H Q E h => ?_) (fun cdv A outer s H vs Q E hr h => ?_)
  · obtain ⟨a, z, ns, rfl, _⟩ := h
    rfl
  · obtain ⟨a, z, ns, rfl, ha, hl, hz, hn, hm, q⟩ := h
    refine ⟨_, pss_one (ps_ret (pe_join pe_str (pe_lst (pa_cons (pv 0) (pa_star (pe_lc (own := [("number", 2)]) (g := gName 2) (by rfl) scLine.nd (pi_seq (pv 1)) (blkOk_by (own := [("number", 2)]) (N := ["word", "numbers", "number"]) (sc := defScope sLine) (by decide +kernel))
              (fun _ _ _ _ _ => pg_name (i := 2) scLine.nd rfl (Or.inl rfl)) (fun _ _ _ _ _ => pts_nil) (fun _ _ _ _ _ => pe_callTy call_str_int (by rfl) T.mS (by rfl) (pa_cons (pv 2) pa_nil))) pa_nil))))), ?_⟩
    refine s_ret (ev_join (ys := z :: ns.map fun n => (toString n : Str)) ev_c (el_lst (ea_cons (ev_var rfl) (ea_star1 (el_is (el_lcSeq (fun _ => true) (fun i => .str (toString (ns.getD i 0) : Str)) (ev_var rfl) ha (by rw [List.length_map]; omega) (fun _ => rfl) (fun _ _ _ _ _ => et_yes) (fun i x H1 _ hi _ => ?_)) ?_))) ?_) ?_) (fun H1 e1 => q H1 e1)
    · rw [List.getElem?_map] at hi
      obtain ⟨n, hn1, rfl⟩ : ∃ n, ns[i]? = some n ∧ x = V.int n := by
        cases hw : ns[i]? with
        | none => rw [hw] at hi; cases hi
        | some n => rw [hw] at hi; exact ⟨n, rfl, (Option.some.inj hi).symm⟩
      rw [List.getD_eq_getElem?_getD, hn1]
      exact ev_strI (ev_var rfl) (hn n (List.mem_of_getElem? hn1))
    · rw [given_all, List.length_map, map_getD (fun n => V.str (toString n : Str)) 0 ns, List.map_map]
      rfl
    · rw [List.length_map, List.length_cons, List.length_map]
      omega
    · have few := sum_le (ys := ns.map fun n => (toString n : Str)) (m := 640) fun y hy => by
        obtain ⟨n, hn1, rfl⟩ := List.mem_map.mp hy
        exact hm n hn1
      rw [List.length_map] at few
      rw [List.map_cons, List.sum_cons, List.length_cons, List.length_map]
      have : (" " : Str).length = 1 := by decide +kernel
      rw [this]
      omega
end
end Sea

set_option Elab.async false
set_option linter.all false
set_option maxRecDepth 100000
set_option maxHeartbeats 4000000
namespace Sea
open PySem PySem.Spec PyProof.Rows L2 LamX NdefX ClX Evl StX
abbrev sXT : Stmt := inClass (top 6) 0
abbrev sFT : Stmt := top 20
abbrev sPT : Stmt := top 21
theorem scXT : FnScope ["self", "row"] ["self", "row"] (defScope sXT) := ⟨rfl, rfl, rfl, by decide +kernel, rfl, by decide +kernel, by decide +kernel⟩
theorem scFT : FnScope ["tariff", "offer"] ["tariff"] (defScope sFT) := ⟨rfl, rfl, rfl, by decide +kernel, rfl, by decide +kernel, by decide +kernel⟩
abbrev NPT : List Str := ["text", "passes", "row", "line", "word", "words", "numbers"]
theorem scPT : FnScope NPT ["text"] (defScope sPT) := ⟨rfl, rfl, rfl, by decide +kernel, rfl, by decide +kernel, by decide +kernel⟩
structure TXt (K : PySem.W.Frag) (mg : Str → Option Value) (cR cP fR : Addr) (fdR : FuncData) (mp : Value) : Prop where
  xR : OexC K cR
  nR : PySem.W.findIn K (.ref cR) "row" = some none
  gR : mg "InvalidText" = some (.ref cR)
  iR : PySem.W.findIn K (.ref cR) "__init__" = some (some (.ref fR))
  tR : PySem.W.typeIn K (.ref fR) = some (.type "function")
  fu : Fun K "__init__" "InvalidText.__init__" sXT fR fdR
  pR : PIn K mg "PassError" cP mp
/-- the numbers of a line that begins with a word -/
def rowW (hd : Str) (ln : Str) : Option (List Int) := if (Txt.split ln " ").headD "" = hd then numsW (Txt.split ln " ").tail else none
section
variable {P : Program} {w : World} {K : PySem.W.Frag} {mg : Str → Option Value} {base : Heap} {C cI cU cP cR fI fR fT fP pP fNu fLi : Addr} {mc mp : Value} {fdP fdI fdR fdT dNu dLi : FuncData}
theorem ok_XT {k : Nat} (T : TXt K mg cR cP fR fdR mp) : FnOk P w K mg base CX0 (k + 1) fR fdR ["self", "row"] (spX1 K "row") := by
  refine T.fu.ok scXT (fun vs H Q E h => ?_) (fun cdv A outer s H vs Q E hr h => ?_)
  · obtain ⟨a, C', y, rfl, _⟩ := h
    rfl
  · obtain ⟨a, C', y, rfl, hx, hf, ha, q⟩ := h
    refine ⟨_, pss_cons (ps_expr (pe_pinit (by rfl) T.pR.gB T.pR.rd T.pR.ga T.pR.at_ (pa_cons (pv 0) (pa_cons pe_str pa_nil)))) (pss_one (ps_ost (pv 0) (pv 1))), ?_⟩
    refine ⟨_, rfl, a, C', _, rfl, show 1 ≤ 1000 by decide, hx, ha, _, rfl, _, rfl, a, C', rfl, hx, hf, .inl ⟨ha, fun dx h1 h2 => ?_⟩⟩
    exact q dx h1 h2
theorem kb_XT (T : TXt K mg cR cP fR fdR mp) : KBn K fdR ["self", "row"] 1 ["row"] (fun us ws => us ++ ws) (fun vs zs => vs ++ zs) := by
  obtain ⟨oc, od, kV, doc, pm, an, cdv, ct, osl, rfl, lk, hcd⟩ := T.fu.ex
  refine ⟨fun s us ws _ h1 h2 => ?_, fun a b => a.append b⟩
  match us, ws, h1, h2 with
  | [u], [x], _, _ => exact .of_eq rfl
theorem TNm.bN (T : TNm K mg fNu fLi dNu dLi) : Binds K dNu ["words"] [] := T.uN.binds (ps := ["words"]) fun _ _ _ _ _ _ us hl => match us, hl with | [_], _ => rfl
theorem TNm.bL (T : TNm K mg fNu fLi dNu dLi) : Binds K dLi ["word", "numbers"] [] := T.uL.binds (ps := ["word", "numbers"]) fun _ _ _ _ _ _ us hl => match us, hl with | [_, _], _ => rfl
section
variable {X : Cx} {e : Expr} {te : TE} {E : XK} {p pos spos : Pos}
theorem pe_tarSL (T : TX X.K X.mg C cI cU cP fI mc mp) (I : TMk X.K C fI fT fdI fdT) (hr : Room 5 X.A) (hx : Passes (L2.CX X.prog X.w) X E) (hg : Gl X "Tariff") (he : PE X e te)
    (hst : starEach [.Starred e spos] X.env = [(true, eval e X.env)] := by rfl) :
    PE X (.Call (.Name "Tariff" p) [.Starred e spos] [] pos) (fun σ H Q => te σ H fun y H1 => ∃ a xs, y = V.ref a ∧ SqL X.K H1 a xs ∧ spMk X.K C cI xs H1 Q E) := by
  refine ⟨fun pins s σ H Q J h => ?_⟩
  refine wpAny_Call_Name_kw (ld_glob J hg T.gC ?_ (by decide))
  refine PySem.W.callWith_S (h₀ := X.base) J.ok.mod.kin I.mkf.kp (thn (he.run pins s σ H _ J h) fun v s1 hh => ?_) hst
  obtain ⟨y, H1, I1, ry, a, xs, ey, hxs, q⟩ := hh
  subst ey
  obtain rfl : v = Value.ref a := ry
  exact star_any I1 (.inr hxs) fun us s2 I2 rv => ⟨I2.kIn, run_makeR I.mkf (ok_init T I) hr hx I2 rv (mk_in q)⟩
end
/-- the value of numbers_of -/
def NumsV (H : Hp) (v : V) : Option (List Int) → Prop
  | none => v = .non
  | some ns => ∃ q, v = .ref q ∧ H q = some (.lst (ns.map V.int))
theorem NumsV.same {H H' : Hp} {v : V} (s : Same H H') : ∀ {o : Option (List Int)}, NumsV H v o → NumsV H' v o
  | none, h => h
  | some _, ⟨q, e, h⟩ => ⟨q, e, s _ _ h⟩
/-- a line is taken apart, its numbers are read -/
theorem q_line {a b c d : Nat} {tz : TS} {D : Ends} {σ : L2.St} {H : Hp} {ln : Str} (ha : σ[a]? = some (some (.str ln))) (hl : ln.length ≤ 620) (hc : ∀ (w : Str) (p : Addr), ((σ.set b (some (.str w))).set c (some (.ref p)))[c]? = some (some (.ref p)))
    (k : ∀ (w : Str) (p : Addr) (v : V) H', Same H H' → w = (Txt.split ln " ").headD "" → NumsV H' v (numsW (Txt.split ln " ").tail) → tz D (((σ.set b (some (.str w))).set c (some (.ref p))).set d (some v)) H') :
    tSeq (tAsg (tM1 (fun x xs H Q => ∃ a b, x = .str a ∧ xs = [.str b] ∧ (b.length == 0) = false ∧ a.length + 2 ≤ sizeLine ∧ rNewStrs (Txt.split a b) H Q) (tVar a) (tC (.str " "))) (gStar K (gCons (gName b) (gCons (gName c) gNil))))
      (tSeq (tAsg (tCall (spNums K) [] E0 (tCons (tVar c) tNil)) (gName d)) tz) D σ H := by
  have ps := PyProof.Rows.split_pos ln " "
  have short : ∀ z ∈ Txt.split ln " ", z.length ≤ 640 := fun z hz => Nat.le_trans (PyProof.Rows.part_short hz) (by omega)
  have many := PyProof.Rows.split_le ln " "
  refine el_split (ev_var ha) ev_c (by decide +kernel) (by omega) H (Ex.refl _) _ fun p H1 hp e1 h1 => ?_
  cases hs : Txt.split ln " " with
  | nil => rw [hs] at ps; cases ps
  | cons w ws =>
    rw [hs] at h1 k short many
    refine ⟨p, .str w, ws.map V.str, rfl, sq_of h1, fun q hq => ⟨_, _, rfl, ⟨_, _, rfl, rfl, ?_⟩⟩⟩
    refine ⟨_, hc w q, q, ws, rfl, sq_of upd_same, by simp at many; omega, fun z hz => short z (List.mem_cons_of_mem _ hz), fun hn H2 s2 => k w q .non H2 ((e1.trans (Ex.new hq)).trans s2) rfl ?_, fun ns hn r H2 s2 hr h2 => k w q (.ref r) H2 ((e1.trans (Ex.new hq)).trans s2) rfl ?_⟩
    · show NumsV H2 .non (numsW ws)
      rw [hn]
      rfl
    · show NumsV H2 (.ref r) (numsW ws)
      rw [hn]
      exact ⟨r, rfl, h2⟩
/-- a pass of a line -/
def prRow (ln : Str) : Option (Int × Int) := match rowW "pass" ln with
  | some [l, p] => some (l, p)
  | _ => none
def psL (z : Str) : List (Int × Int) := (Txt.split z "\n").map fun ln => (prRow ln).getD (0, 0)
def badT (z : Str) : Option Nat := first (fun i => (prRow ((Txt.split z "\n").getD i "")).isNone) (Txt.split z "\n").length
def spPT (K : PySem.W.Frag) (C cI cR : Addr) : Sp := fun vs H Q E => ∃ z : Str, vs = [.str z] ∧ z.length ≤ 620 ∧
  (∀ i d H', badT z = some i → Same H H' → H' d = some (.xd [("row", .int (i : Nat))]) → E (.ref cR) (some d) H') ∧
  (badT z = none → bad (psL z) = none → ∀ a p H', Same H H' → H a = none → Tar K C H' a p (psL z) → Q (.ref a) H') ∧
  (badT z = none → ∀ i d H', bad (psL z) = some i → Same H H' → H' d = some (.xd [("index", .int i)]) → E (.ref cI) (some d) H')
theorem ok_pt {f : Addr} {fd : FuncData} (F : Fun K "parse_tariff" "parse_tariff" sPT f fd) (T : TXt K mg cR cP fR fdR mp) (N : TNm K mg fNu fLi dNu dLi) (X1 : TX K mg C cI cU cP fI mc mp) (I : TMk K C fI fT fdI fdT) :
    FnOk P w K mg base (L2.CX P w) 6 f fd ["text"] (spPT K C cI cR) := by
  have GR : FnOk P w K mg base CX0 1 fR fdR ["self", "row"] (spX1 K "row") := ok_XT T
  have kb := kb_XT T
  refine F.okX scPT (fun vs H Q E h => ?_) (fun cdv A outer s H vs Q E hr h => ?_)
  · obtain ⟨z, rfl, _⟩ := h
    rfl
  · obtain ⟨z, rfl, hz, q0, q1, q2⟩ := h
    have PX : Passes (L2.CX P w) (cxOf (L2.CX P w) P w K mg base NPT "parse_tariff" (defScope sPT) f cdv A outer s H E) E := passes_call (takes_of rfl rfl rfl rfl) (fun _ _ _ _ h => h)
    refine ⟨_, pss_cons (ps_set (i := 1) scPT.nd rfl (.inl rfl) (pe_lst pa_nil))
      (pss_cons (ps_for (passes_of rfl) rfl (pi_enum (by rfl) X1.mE (pa_cons (pe_split (pv 0) pe_str) pa_nil)) (pg_tup rfl (pgs_cons (pg_name (i := 2) scPT.nd rfl (.inl rfl)) (pgs_cons (pg_name (i := 3) scPT.nd rfl (.inl rfl)) pgs_nil)))
        (pss_cons (ps_asg (pe_split (pv 3) pe_str) (pg_star rfl (pgs_cons (pg_name (i := 4) scPT.nd rfl (.inl rfl)) (pgs_starN (pgs_cons (pg_name (i := 5) scPT.nd rfl (.inl rfl)) pgs_nil)))))
        (pss_cons (ps_set (i := 6) scPT.nd rfl (.inl rfl) (pe_call (E := E0) (ok_nums (k := 0) N) (hr.mono (by omega)) (by rfl) N.gN N.kN N.bN .nil pass0 (pa_cons (pv 5) pa_nil)))
        (pss_cons (ps_if (PW.pt (pw_or (pt_cmpR op_ne (pv 4) pe_str (nomark _)) (pw_or (pt_cmpR op_isN (pv 6) pe_non (nomark _)) (pw_or1 (pt_cmpR op_ne (pe_callB call_len_seq (by rfl) X1.mN PySem.boot_len (pa_cons (pv 6) pa_nil)) pe_int (nomark _))))))
          (pss_one (ps_raise rfl (takes_of rfl rfl rfl rfl) (pmk_kw T.xR T.iR T.tR GR (hr.mono (by omega)) kb pass0 (by rfl) T.gR (pk_cons (pv 2) pk_nil)))) pss_nil)
        (pss_one (ps_expr (pe_bm PySem.F.plainAttrs_list PySem.F.slot_list_append PySem.F.type_list_append mt_append (pv 1) (pa_cons (pe_callTy call_tuple_of (by rfl) X1.mT (by rfl) (pa_cons (pv 6) pa_nil)) pa_nil))))))))
      (pss_one (ps_ret (pe_tarSL X1 I (hr.mono (by omega)) PX (by rfl) (pv 1))))), ?_⟩
    have many := PyProof.Rows.split_le z "\n"
    refine q_asgL (el_lst ea_nil (by decide)) fun l H1 nl e1 hl => ?_
    refine el_split (ev_var rfl) ev_c (by decide +kernel) (by omega) H1 (Ex.refl _) _ fun p H2 np e2 h2 => ?_
    have npl : p ≠ l := (ne_of_none hl np).symm
    have nlp : H2 l = some (.lst []) := e2 _ _ hl
    refine ⟨p, (Txt.split z "\n").map V.str, rfl, sq_of h2, for_it (walk_enum (K := K)) (fun i σ' H' => (∃ v2 v3 v4 v5 v6 vs, σ' = [some (.str z), some (.ref l), v2, v3, v4, v5, v6] ∧ H' l = some (.lst vs) ∧ PsV K H' vs ((psL z).take i) ∧ i ≤ vs.length ∧ vs.length ≤ i) ∧
      (∀ b o, H2 b = some o → b ≠ l → H' b = some o) ∧ ∀ j, j < i → (prRow ((Txt.split z "\n").getD j "")).isNone = false) ?_ (fun i σ' H' _ w => sq_of (w.2.1 _ _ h2 npl)) ?_ ?_⟩
    · exact ⟨⟨none, none, none, none, none, [], rfl, nlp, .nil, Nat.le_refl _, Nat.le_refl _⟩, fun b o e _ => e, fun j hj => absurd hj (Nat.not_lt_zero _)⟩
    · rintro i x σ' H' HT hi ⟨⟨v2, v3, v4, v5, v6, vs, rfl, hl', hps, hv1, hv2⟩, keep, good⟩ ⟨TT, x', y, rfl, nT, rfl, hx', hy⟩
      obtain ⟨ln, hln, rfl⟩ := map_at hy
      cases hx'
      rw [List.length_map] at hi
      have lnl : ln.length ≤ 620 := Nat.le_trans (PyProof.Rows.part_short (List.mem_of_getElem? hln)) hz
      have gln : (Txt.split z "\n").getD i "" = ln := by rw [List.getD_eq_getElem?_getD, hln]; rfl
      refine ⟨TT, _, rfl, .of upd_same, rfl, _, _, rfl, _, _, rfl, rfl, ?_⟩
      refine q_line (a := 3) (b := 4) (c := 5) (d := 6) rfl lnl (fun _ _ => rfl) fun w p2 v H3 s3 hw hv => ?_
      have sT : Same H' H3 := (same_new nT).trans s3
      have tT : TK K H' H3 := .same sT
      have up : Same H H' := fun b o e => keep b o (e2 _ _ (e1 _ _ e)) (ne_of_none e nl)
      have row : rowW "pass" ln = if w = "pass" then numsW (Txt.split ln " ").tail else none := by
        unfold rowW
        rw [hw]
      have raised : ∀ {H4 : Hp}, Ex H3 H4 → (prRow ln).isNone = true → ∀ d, H4 d = none → E (.ref cR) (some d) (upd H4 d (.xd [("row", .int (i : Nat))])) := fun e4 hb d hd =>
        q0 i d _ (first_at (by rw [gln]; exact hb) good hi) (((up.trans sT).trans e4).trans (same_new hd)) upd_same
      cases ho : numsW (Txt.split ln " ").tail with
      | none =>
        rw [ho] at hv row
        obtain rfl : v = .non := hv
        have hb : (prRow ln).isNone = true := by
          unfold prRow
          rw [row]
          split
          · rename_i h
            split at h <;> cases h
          · rfl
        refine q_when (b := true) (et_is (et_or (b := true) (et_test (ev_op (ev_var rfl) ev_c (rv_ne rfl))) (fun _ => et_or (a := true) (b := false) (et_is (et_isV rfl) (decide_eq_true rfl)) (fun h => nomatch h))) (b := true) (by simp)) (fun _ H4 e4 => ?_) (fun h => nomatch h)
        exact ⟨_, rfl, mk1_in T.xR T.nR fun d hd => raised e4 hb d hd⟩
      | some ns =>
        rw [ho] at hv row
        obtain ⟨q, rfl, hq⟩ := hv
        have eb : ((!decide (V.str w = V.str "pass")) || (decide (V.ref q = V.non) || !decide (V.int ((ns.map V.int).length : Int) = V.int 2))) = (prRow ln).isNone := by
          unfold prRow
          rw [row, dec_str]
          by_cases hp : w = "pass"
          · rw [if_pos hp, beq_iff_eq.mpr hp, dec_int, List.length_map]
            match ns with
            | [] => rfl
            | [_] => rfl
            | [_, _] => rfl
            | _ :: _ :: _ :: r =>
              have : ((((r.length + 1 + 1 + 1 : Nat) : Int)) == 2) = false := by
                rw [beq_eq_false_iff_ne]
                omega
              show (!true || (decide (V.ref q = V.non) || !((((r.length + 1 + 1 + 1 : Nat) : Int)) == 2))) = true
              rw [this]
              simp
          · rw [if_neg hp, beq_eq_false_iff_ne.mpr hp]
            rfl
        refine q_when (b := (prRow ln).isNone) (et_is (et_or (et_test (ev_op (ev_var rfl) ev_c (rv_ne rfl))) (fun _ => et_or (et_isV rfl) (fun _ => et_test (ev_op (ev_len (ev_var rfl) (sq_of hq)) ev_c (rv_ne rfl))))) eb) (fun hb H4 e4 => ?_) (fun hb H4 e4 => ?_)
        · exact ⟨_, rfl, mk1_in T.xR T.nR fun d hd => raised e4 hb d hd⟩
        · obtain ⟨l0, p0, hpr, hns⟩ : ∃ l0 p0, prRow ln = some (l0, p0) ∧ ns = [l0, p0] := by
            revert hb
            unfold prRow
            rw [row]
            split
            · rename_i a b h
              split at h
              · cases h
                exact fun _ => ⟨a, b, rfl, rfl⟩
              · cases h
            · exact fun h => nomatch h
          have hl4 : H4 l = some (.lst vs) := e4 _ _ (sT _ _ hl')
          refine s_appU hl4 (ev_var rfl) (eu_tupL (ev_var rfl) (e4 _ _ hq)) (by omega) fun p3 H5 np3 e5 h5 => ?_
          have s5 : Same H' H5 := (sT.trans e4).trans e5
          have p3l : p3 ≠ l := (ne_of_none hl4 np3).symm
          have hl5 : H5 l = some (.lst vs) := s5 _ _ hl'
          have k6 : TK K H5 (upd H5 l (.lst (vs ++ [.ref p3]))) := .but (fun b => b = l) (fun b o e n => by rw [upd_ne n]; exact e) fun b xs z => by
            rw [z]
            exact Rd.lst_no hl5
          refine ⟨⟨_, _, _, _, _, vs ++ [.ref p3], rfl, upd_same, ?_, by rw [List.length_append]; simp; omega, by rw [List.length_append]; simp; omega⟩, fun b o e n => ?_, fun j hj => ?_⟩
          · rw [take_snoc (x := (l0, p0)) (by
              unfold psL
              rw [List.getElem?_map, hln, Option.map_some, hpr]
              rfl)]
            refine PsV.app ((hps.tk (.same s5)).tk k6) (.cons ⟨p3, rfl, .of ?_⟩ .nil)
            rw [upd_ne p3l, h5, hns]
            rfl
          · rw [upd_ne n]
            exact s5 _ _ (keep b o e n)
          · rcases Nat.lt_succ_iff_lt_or_eq.mp hj with h | rfl
            · exact good j h
            · rw [gln]
              exact hb
    · rintro σ' H' ⟨⟨v2, v3, v4, v5, v6, vs, rfl, hl', hps, hv1, hv2⟩, keep, good⟩
      have len : (psL z).length = ((Txt.split z "\n").map V.str).length := by
        unfold psL
        rw [List.length_map, List.length_map]
      rw [← len, List.take_length] at hps
      have nb : badT z = none := first_none fun j hj => good j (by rw [List.length_map]; exact hj)
      have up : Same H H' := fun b o e => keep b o (e2 _ _ (e1 _ _ e)) (ne_of_none e nl)
      exact ⟨_, rfl, l, vs, rfl, sq_of hl', psL z, hps, by rw [len, List.length_map]; omega, fun hb a p H3 sm na t => q1 nb hb a p H3 (up.trans sm) (fresh_back up na) t, fun i d H3 hb sm hd => q2 nb i d H3 hb (up.trans sm) hd⟩
end
end Sea

set_option Elab.async false
set_option linter.all false
set_option maxRecDepth 100000
set_option maxHeartbeats 4000000
namespace Sea
open PySem PySem.Spec PyProof.Rows L2 LamX NdefX ClX Evl StX
abbrev sFV : Stmt := top 22
abbrev sPV : Stmt := top 23
abbrev NFV : List Str := ["travel", "lines"]
theorem scFV : FnScope NFV ["travel"] (defScope sFV) := ⟨rfl, rfl, rfl, by decide +kernel, rfl, by decide +kernel, by decide +kernel⟩
/-- a number that is printed -/
def sm (n : Int) : Prop := 0 ≤ n ∧ n ≤ 1000000000000000000
theorem sm_log {n : Int} (h : sm n) : n.natAbs.log2 < 1920 := by
  have : n.natAbs ≤ 1000000000000000000 := by have := h.1; have := h.2; omega
  have h2 : n.natAbs.log2 < 60 := by
    by_cases z : n.natAbs = 0
    · rw [z]; decide
    · rw [Nat.log2_lt z]
      omega
  omega
theorem sm_len {n : Int} (h : sm n) : (toString n : Str).length ≤ 19 := by
  obtain ⟨m, rfl⟩ := Int.eq_ofNat_of_zero_le h.1
  have := TL.numL_len (n := m) (k := 19) (by decide) (by have := h.2; omega)
  rw [TL.len_tl]
  show (TL.tl (Str.ofString (toString ((m : Nat) : Int)))).length ≤ 19
  rw [TL.tl_num]
  exact this
theorem sm_line {z : Str} {ns : List Int} (h : ∀ n ∈ ns, sm n) : (∀ n ∈ ns, n.natAbs.log2 < 1920) ∧ (∀ n ∈ ns, (toString n : Str).length ≤ 640) := ⟨fun n hn => sm_log (h n hn), fun n hn => Nat.le_trans (sm_len (h n hn)) (by decide)⟩
theorem joinL_len (S : List Nat) : ∀ (r : List (List Nat)) (p : List Nat), (TL.joinL S (p :: r)).length + S.length = ((p :: r).map List.length).sum + (r.length + 1) * S.length
  | [], p => by simp [TL.joinL]
  | q :: r, p => by
    have ih := joinL_len S r q
    show (p ++ (S ++ TL.joinL S (q :: r))).length + S.length = _
    rw [List.length_append, List.length_append, List.map_cons, List.sum_cons, List.length_cons]
    have e : (r.length + 1 + 1) * S.length = (r.length + 1) * S.length + S.length := Nat.succ_mul _ _
    omega
theorem join_len (sp y : Str) (ys : List Str) : (Txt.join sp (y :: ys)).length + sp.length = ((y :: ys).map (·.length)).sum + (ys.length + 1) * sp.length := by
  have z := joinL_len (TL.tl sp) (ys.map TL.tl) (TL.tl y)
  rw [TL.join_eq, TL.len_tl (Str.join sp (y :: ys)), TL.tl_join, TL.len_tl sp, List.map_cons]
  rw [z, List.length_map, ← List.map_cons, List.map_map]
  have e : (List.length ∘ TL.tl) = fun x : Str => x.length := funext fun x => (TL.len_tl x).symm
  rw [e]
theorem lineW_len {z : Str} {ns : List Int} {m : Nat} (hz : z.length ≤ m) (h : ∀ n ∈ ns, sm n) : (lineW z ns).length ≤ m + ns.length * 20 := by
  have a := join_len " " z (ns.map fun n => (toString n : Str))
  have b := sum_le (ys := ns.map fun n => (toString n : Str)) (m := 19) fun y hy => by
    obtain ⟨n, hn, rfl⟩ := List.mem_map.mp hy
    exact sm_len (h n hn)
  have e : (" " : Str).length = 1 := by decide +kernel
  rw [e, List.map_cons, List.sum_cons, List.length_map] at a
  rw [List.length_map] at b
  unfold lineW
  omega
def textT (L : List (Int × Int)) : Str := Txt.join "\n" (L.map fun x => lineW "pass" [x.1, x.2])
def textV (ln : Int) (ds os : List Int) : Str := Txt.join "\n" ([lineW "round" [ln], lineW "days" ds] ++ if os = [] then [] else [lineW "exceptions" os])
section
variable {K : PySem.W.Frag} {σ : L2.St} {H : Hp} {C : Addr}
theorem ev_prop {i : Nat} {a dx : Addr} {fs : List (Str × V)} {f : Str} {v : V} (hs : σ[i]? = some (some (.ref a))) (ha : H a = some (.ins C dx fs)) (hf : fs.lookup f = some v) : Ev (tProp C (getSp C f) [] E0 (tVar i)) σ H v := fun H1 e Q q =>
  ⟨_, hs, a, dx, fs, rfl, e _ _ ha, a, dx, fs, v, rfl, e _ _ ha, hf, q H1 (Ex.refl _)⟩
theorem line_V {z : Str} {a : Addr} {ns : List Int} (ha : SqL K H a (ns.map V.int) ∨ SqT K H a (ns.map V.int)) (hl : ns.length ≤ 100) (hz : z.length ≤ 100) (hn : ∀ n ∈ ns, sm n) : SpV (spLine K) ([.str z, .ref a] ++ []) H (.str (lineW z ns)) := fun H1 e Q q E =>
  ⟨a, z, ns, rfl, ha.elim (fun h => .inl (ex_l e h)) (fun h => .inr (ex_t e h)), hl, hz, (sm_line (z := z) hn).1, (sm_line (z := z) hn).2, fun H' s => q H' s⟩
end
section
variable {P : Program} {w : World} {K : PySem.W.Frag} {mg : Str → Option Value} {base : Heap} {C cI cU cP cR fI fR fT fP pP fNu fLi : Addr} {mc mp : Value} {fdP fdI fdR fdT dNu dLi : FuncData}
def spFT (K : PySem.W.Frag) (C : Addr) : Sp := fun vs H Q _ => ∃ (a p : Addr) (L : List (Int × Int)), vs = [.ref a] ∧ Tar K C H a p L ∧ L.length ≤ 10 ∧ (∀ x ∈ L, sm x.1 ∧ sm x.2) ∧ ∀ H', Same H H' → Q (.str (textT L)) H'
theorem ok_ft {f : Addr} {fd : FuncData} {k : Nat} (F : Fun K "format_tariff" "format_tariff" sFT f fd) (N : TNm K mg fNu fLi dNu dLi) (X1 : TX K mg C cI cU cP fI mc mp) (TQ : TP K C fP pP fdP) :
    FnOk P w K mg base CX0 (k + 3) f fd ["tariff"] (spFT K C) := by
  refine F.ok scFT (fun vs H Q E h => ?_) (fun cdv A outer s H vs Q E hr h => ?_)
  · obtain ⟨a, p, L, rfl, _⟩ := h
    rfl
  · obtain ⟨a, p, L, rfl, ht, hl, hsm, q⟩ := h
    have h1 := hr.mono (show 1 ≤ k + 2 by omega)
    refine ⟨_, pss_one (ps_ret (pe_join pe_str (pe_lc (own := [("offer", 1)]) (g := gName 1) (by rfl) scFT.nd (pi_tup (pe_passes TQ X1.cl X1.no (hr.mono (by omega)) (pv 0))) (blkOk_by (own := [("offer", 1)]) (N := ["tariff", "offer"]) (sc := defScope sFT) (by decide +kernel))
        (fun _ _ _ _ _ => pg_name (i := 1) scFT.nd rfl (Or.inl rfl)) (fun _ _ _ _ _ => pts_nil) (fun _ _ _ _ _ => pe_call (E := E0) (ok_line (k := 0) N) h1 (by rfl) N.gL N.kL N.bL .nil pass0 (pa_cons pe_str (pa_cons (pv 1) pa_nil)))))), ?_⟩
    obtain ⟨vs, hv, lv, ps⟩ := ht.len_eq
    obtain ⟨⟨dx, ha⟩, _⟩ := ht
    have h0 : Ev (tProp C (getSp C "offers") [] E0 (tVar 0)) [some (.ref a), none] H (.ref p) := ev_prop rfl ha rfl
    refine s_ret (ev_join (ys := L.map fun x => lineW "pass" [x.1, x.2]) ev_c ?_ ?_) ?_
    · refine el_is (el_lcTup (fun _ => true) (fun i => .str (lineW "pass" [(L.getD i (0, 0)).1, (L.getD i (0, 0)).2])) h0 hv (by omega) (fun _ => rfl) (fun _ _ _ _ _ => et_yes) ?_) ?_
      · intro i x H1 e1 hi _
        obtain ⟨⟨l, pr⟩, hLi, b, rfl, hb⟩ := ps.get hi
        have hm := hsm _ (List.mem_of_getElem? hLi)
        have eL : L.getD i (0, 0) = (l, pr) := by
          rw [List.getD_eq_getElem?_getD, hLi]
          rfl
        rw [eL]
        have hz : SpV (spLine K) ([.str "pass", .ref b] ++ []) H1 (.str (lineW "pass" [l, pr])) := line_V (ns := [l, pr]) (.inr (ex_t e1 hb)) (show 2 ≤ 100 by decide) (by decide +kernel) fun n hn => by
          rcases List.mem_cons.mp hn with rfl | hn
          · exact hm.1
          · rw [List.mem_singleton.mp hn]
            exact hm.2
        exact ev_call (ea_cons ev_c (ea_cons (ev_var rfl) ea_nil)) hz
      · rw [given_all, lv, map_getD (fun x : Int × Int => V.str (lineW "pass" [x.1, x.2])) (0, 0) L, List.map_map]
        rfl
    · have few := sum_le (ys := L.map fun x => lineW "pass" [x.1, x.2]) (m := 1000) fun y hy => by
        obtain ⟨x, hx, rfl⟩ := List.mem_map.mp hy
        refine Nat.le_trans (lineW_len (by decide +kernel : ("pass" : Str).length ≤ 20) fun n hn => ?_) (show 20 + 2 * 20 ≤ 1000 by decide)
        rcases List.mem_cons.mp hn with rfl | hn
        · exact (hsm x hx).1
        · rw [List.mem_singleton.mp hn]
          exact (hsm x hx).2
      rw [List.length_map] at few ⊢
      have : ("\n" : Str).length = 1 := by decide +kernel
      rw [this]
      omega
    · exact fun H1 e1 => q H1 e1
end
end Sea

set_option Elab.async false
set_option linter.all false
set_option maxRecDepth 100000
set_option maxHeartbeats 4000000
namespace Sea
open PySem PySem.Spec PyProof.Rows L2 LamX NdefX ClX Evl StX
theorem eqv_nil (os : List Int) : PyData.eqv (.tuple (os.map PyData.int)) (.tuple []) = decide (os = []) := by
  cases os with
  | nil => rfl
  | cons a r => rfl
theorem ints_shT (ns : List Int) : SeqAt.shaped (.tuple (ns.map PyData.int)) = true := ints_sh ns
section
variable {P : Program} {w : World} {K : PySem.W.Frag} {mg : Str → Option Value} {base : Heap} {C cV cP fV fVN fNu fLi fRl pRl fRd pRd fEx pEx : Addr} {mp : Value} {fdV dVN dNu dLi dRl dRd dEx : FuncData}
theorem ev_joinV {ta tb : TE} {σ : L2.St} {H : Hp} {sp : Str} {p : Addr} {ys : List Str} (h : Ev ta σ H (.str sp)) (g : Ev tb σ H (.ref p)) (hp : SqL K H p (ys.map V.str)) (hz : (ys.map (·.length)).sum + ys.length * sp.length ≤ 16777216) :
    Ev (tM1 (fun x xs H Q => ∃ a p, ∃ ys : List Str, x = .str a ∧ xs = [.ref p] ∧ (SqL K H p (ys.map V.str) ∨ SqT K H p (ys.map V.str)) ∧ (ys.map (·.length)).sum + ys.length * a.length ≤ 16777216 ∧ Q (.str (Txt.join a ys)) H) ta tb) σ H (.str (Txt.join sp ys)) := fun H1 e Q q =>
  h H1 e _ fun H2 e2 => ⟨⟨sp, rfl⟩, g H2 (e.trans e2) _ fun H3 e3 => ⟨sp, p, ys, rfl, rfl, .inl (ex_l ((e.trans e2).trans e3) hp), hz, q H3 (e2.trans e3)⟩⟩
theorem tv_get {a : Addr} {σ : L2.St} {H : Hp} {ln : Int} {d o v : V} {ds os : List Int} {fn : Str} {i : Nat} (hs : σ[i]? = some (some (.ref a))) (t : Tv K C H a ln d o ds os) (hl : (tvF ln d o).lookup fn = some v) : Ev (tProp C (getSp C fn) [] E0 (tVar i)) σ H v := by
  obtain ⟨⟨dx, ha⟩, _⟩ := t
  exact ev_prop hs ha hl
def spFV (K : PySem.W.Frag) (C : Addr) : Sp := fun vs H Q _ => ∃ (a : Addr) (ln : Int) (d o : V) (ds os : List Int), vs = [.ref a] ∧ Tv K C H a ln d o ds os ∧ ds.length ≤ 100 ∧ os.length ≤ 100 ∧ sm ln ∧ (∀ n ∈ ds, sm n) ∧ (∀ n ∈ os, sm n) ∧ ∀ H', Same H H' → Q (.str (textV ln ds os)) H'
theorem ok_fv {f : Addr} {fd : FuncData} {k : Nat} (F : Fun K "format_travel" "format_travel" sFV f fd) (N : TNm K mg fNu fLi dNu dLi) (W : TTv K mg C fVN dVN) (R : TPr K C fRl pRl fRd pRd fEx pEx dRl dRd dEx) :
    FnOk P w K mg base CX0 (k + 3) f fd ["travel"] (spFV K C) := by
  refine F.ok scFV (fun vs H Q E h => ?_) (fun cdv A outer s H vs Q E hr h => ?_)
  · obtain ⟨a, ln, d, o, ds, os, rfl, _⟩ := h
    rfl
  · obtain ⟨a, ln, d, o, ds, os, rfl, ht, ld, lo, sl, sd, so, q⟩ := h
    have h1 := hr.mono (show 1 ≤ k + 2 by omega)
    have h2 := hr.mono (show 2 ≤ k + 2 by omega)
    have hu := hr.units
    refine ⟨_, pss_cons (ps_set (i := 1) scFV.nd rfl (.inl rfl) (pe_lst (pa_cons (pe_call (E := E0) (ok_line (k := 0) N) h1 (by rfl) N.gL N.kL N.bL .nil pass0 (pa_cons pe_str (pa_cons (pe_lst (pa_cons (pe_rl R W h2 (pv 0)) pa_nil)) pa_nil)))
        (pa_cons (pe_call (E := E0) (ok_line (k := 0) N) h1 (by rfl) N.gL N.kL N.bL .nil pass0 (pa_cons pe_str (pa_cons (pe_rd R W h2 (pv 0)) pa_nil))) pa_nil))))
      (pss_cut (ps_if (pt_cmpR (op_neD hu) (pe_ex R W h2 (pv 0)) (pe_tup pa_nil) (nomark _)) (pss_one (ps_expr (pe_bm PySem.F.plainAttrs_list PySem.F.slot_list_append PySem.F.type_list_append mt_append (pv 1) (pa_cons (pe_call (E := E0) (ok_line (k := 0) N) h1 (by rfl) N.gL N.kL N.bL .nil pass0 (pa_cons pe_str (pa_cons (pe_ex R W h2 (pv 0)) pa_nil))) pa_nil)))) pss_nil)
      (pss_one (ps_ret (pe_join pe_str (pv 1))))), ?_⟩
    have e1 : Ev (tProp C (getSp C "size") [] E0 (tVar 0)) [some (.ref a), none] H (.int ln) := tv_get rfl ht (tvF_size ln d o)
    have e2 : Ev (tProp C (getSp C "pattern") [] E0 (tVar 0)) [some (.ref a), none] H d := tv_get rfl ht (tvF_pat ln d o)
    obtain ⟨pd, rfl, hd⟩ := ht.2.1
    obtain ⟨po, rfl, ho⟩ := ht.2.2
    have c1 : Ev (tCall (spLine K) [] E0 (tCons (tC (.str "round")) (tCons (tLst (tCons (tProp C (getSp C "size") [] E0 (tVar 0)) tNil)) tNil))) [some (.ref a), none] H (.str (lineW "round" [ln])) := fun H1 x1 Q1 k1 =>
      show tLst (tCons (tProp C (getSp C "size") [] E0 (tVar 0)) tNil) [some (.ref a), none] H1 (fun v H2 => spLine K ([.str "round", v] ++ []) H2 Q1 E0) from
      el_lst (ea_cons e1 ea_nil) (show 1 ≤ 100000 by decide) H1 x1 _ fun p H2 np x2 hp => line_V (K := K) (H := H2) (ns := [ln]) (.inl (sq_of hp)) (show 1 ≤ 100 by decide) (by decide +kernel) (fun n hn => by rw [List.mem_singleton.mp hn]; exact sl) H2 (Ex.refl _) Q1 (fun H3 x3 => k1 H3 (x2.trans x3)) E0
    have c2 : Ev (tCall (spLine K) [] E0 (tCons (tC (.str "days")) (tCons (tProp C (getSp C "pattern") [] E0 (tVar 0)) tNil))) [some (.ref a), none] H (.str (lineW "days" ds)) := ev_call (ea_cons ev_c (ea_cons e2 ea_nil)) (line_V (.inr hd) ld (by decide +kernel) sd)
    refine q_asgL (el_lst (ea_cons c1 (ea_cons c2 ea_nil)) (show 2 ≤ 100000 by decide)) fun l H1 nl x1 hl => ?_
    refine q_cut (M := fun σ' H' => σ' = [some (.ref a), some (.ref l)] ∧ Same H H' ∧ H' l = some (.lst (([lineW "round" [ln], lineW "days" ds] ++ if os = [] then [] else [lineW "exceptions" os]).map V.str))) ?_ ?_
    · have e3 : ∀ {H'}, Ex H H' → Ev (tProp C (getSp C "odd_days") [] E0 (tVar 0)) [some (.ref a), some (.ref l)] H' (.ref po) := fun x => tv_get rfl (ht.same x) (tvF_odd ln (.ref pd) (.ref po))
      show tIfS _ _ _ _ [some (.ref a), some (.ref l)] H1
      refine s_when (b := !decide (os = [])) (et_is (et_neD (edp_ev (e3 x1) fun H2 x2 => .tup (ex_t (x1.trans x2) ho) (intsDp os)) (edp_tup eda_nil (by decide)) (ints_shT os) (by decide +kernel)) (by rw [eqv_nil])) (fun hb H2 x2 => ?_) (fun hb H2 x2 => ?_)
      · have hb : ¬ os = [] := by simpa using hb
        refine s_app (x2 _ _ hl) (ev_var rfl) (ev_call (ea_cons ev_c (ea_cons (e3 (x1.trans x2)) ea_nil)) (line_V (.inr (ex_t (x1.trans x2) ho)) lo (by decide +kernel) so)) (show 2 < 100000 by decide) fun H3 x3 => ⟨rfl, fun b u e => ?_, ?_⟩
        · rw [upd_ne (ne_of_none e nl)]
          exact x3 _ _ (x2 _ _ (x1 _ _ e))
        · rw [upd_same, if_neg hb]
          rfl
      · have hb : os = [] := by simpa using hb
        refine ⟨rfl, x1.trans x2, ?_⟩
        rw [if_pos hb, x2 _ _ hl]
        rfl
    · rintro σ' H' ⟨rfl, sm', hl'⟩
      refine s_ret (v := .str (textV ln ds os)) ?_ fun H2 x2 => q H2 (sm'.trans x2)
      refine ev_joinV (ys := [lineW "round" [ln], lineW "days" ds] ++ if os = [] then [] else [lineW "exceptions" os]) ev_c (ev_var rfl) (sq_of hl') ?_
      have few := sum_le (ys := [lineW "round" [ln], lineW "days" ds] ++ if os = [] then [] else [lineW "exceptions" os]) (m := 3000) fun y hy => by
        have a1 : (lineW "round" [ln]).length ≤ 20 + 1 * 20 := lineW_len (by decide +kernel) fun n hn => by rw [List.mem_singleton.mp hn]; exact sl
        have a2 : (lineW "days" ds).length ≤ 20 + ds.length * 20 := lineW_len (by decide +kernel) sd
        have a3 : (lineW "exceptions" os).length ≤ 20 + os.length * 20 := lineW_len (by decide +kernel) so
        rcases List.mem_append.mp hy with hy | hy
        · rcases List.mem_cons.mp hy with rfl | hy
          · omega
          · rw [List.mem_singleton.mp hy]
            omega
        · split at hy
          · cases hy
          · rw [List.mem_singleton.mp hy]
            omega
      have l3 : ([lineW "round" [ln], lineW "days" ds] ++ if os = [] then [] else [lineW "exceptions" os]).length ≤ 3 := by
        rw [List.length_append]
        split <;> simp
      have : ("\n" : Str).length = 1 := by decide +kernel
      rw [this]
      have l4 := Nat.mul_le_mul_right 3000 l3
      omega
end
end Sea

set_option Elab.async false
set_option linter.all false
set_option maxRecDepth 100000
set_option maxHeartbeats 4000000
namespace Sea
open PySem PySem.Spec PyProof.Rows L2 LamX NdefX ClX Evl StX
abbrev NPV : List Str := ["text", "found", "heads", "row", "line", "word", "words", "numbers"]
theorem scPV : FnScope NPV ["text"] (defScope sPV) := ⟨rfl, rfl, rfl, by decide +kernel, rfl, by decide +kernel, by decide +kernel⟩
abbrev hd3 : List Str := ["round", "days", "exceptions"]
/-- the numbers of the i-th line of a travel's text -/
def okRow (i : Nat) (ln : Str) : Option (List Int) := match hd3[i]? with
  | none => none
  | some h => match rowW h ln with
    | none => none
    | some ns => if (i = 0 ∧ ns.length ≠ 1) ∨ (i = 2 ∧ ns = []) then none else some ns
abbrev lns (z : Str) : List Str := Txt.split z "\n"
def vL (z : Str) (i : Nat) : List Int := (okRow i ((lns z).getD i "")).getD []
def bV (z : Str) : Option Nat := (first (fun i => (okRow i ((lns z).getD i "")).isNone) (lns z).length).or (if (lns z).length < 2 then some (lns z).length else none)
def oL (z : Str) : List Int := if (lns z).length = 3 then vL z 2 else []
section
variable {P : Program} {w : World} {K : PySem.W.Frag} {mg : Str → Option Value} {base : Heap} {C cV cP cR fV fVN fR fT fNu fLi : Addr} {mp : Value} {fdV dVN fdR dT dNu dLi : FuncData}
theorem kb_tvI {f : Addr} {fd : FuncData} (F : Fun K "__init__" "Travel.__init__" sTvI f fd) : KBn K fd ["self", "length", "days", "exceptions"] 3 ["exceptions"] (fun us ws => us ++ ws) (fun vs zs => vs ++ zs) := by
  obtain ⟨oc, od, kV, doc, pm, an, cdv, ct, osl, rfl, lk, hcd⟩ := F.ex
  refine ⟨fun s us ws _ h1 h2 => ?_, fun a b => a.append b⟩
  match us, ws, h1, h2 with
  | [u, v, x], [y], _, _ => exact .of_eq rfl
/-- Travel(ln, d, exceptions=o): what a caller shows -/
theorem tv_mk {H : Hp} {Q : VK} {E : XK} {ln : Int} {d o : V} {ds os : List Int} (hd : TiA K H d ds) (ho : TiA K H o os) (ld : ds.length ≤ 1000) (lo : os.length ≤ 1000)
    (q1 : tbad ln ds os = none → ∀ a H', Same H H' → H a = none → Tv K C H' a ln d o ds os → Q (.ref a) H')
    (q2 : ∀ pt i dd H', tbad ln ds os = some (pt, i) → Same H H' → H' dd = some (.xd [("index", .int (i : Nat)), ("part", .str pt)]) → E (.ref cV) (some dd) H') :
    [V.int ln, d].length = 2 ∧ [o].length = ["exceptions"].length ∧ ∀ x dx, H x = none → H dx = none → dx ≠ x → spTvI K C cV ((.ref x :: [V.int ln, d]) ++ [o]) (upd (upd H dx (.own x)) x (.ins C dx [])) (fun v H3 => v = .non ∧ Q (.ref x) H3) E := by
  refine ⟨rfl, rfl, fun x dx nx ndx ne => ?_⟩
  have s0 : Same H (upd (upd H dx (.own x)) x (.ins C dx [])) := fun b u e => by
    rw [upd_ne (ne_of_none e nx), upd_ne (ne_of_none e ndx)]
    exact e
  refine ⟨x, dx, ln, d, o, ds, os, rfl, upd_same, hd.tk (.same s0), ho.tk (.same s0), ld, lo, fun hb H' keep at_ => ⟨rfl, ?_⟩, fun pt i dd H' hb sm hx => q2 pt i dd H' hb (Same.trans s0 sm) hx⟩
  have sm : Same H H' := fun b u e => keep b u (s0 b u e) (ne_of_none e nx)
  exact q1 hb x H' sm nx ⟨⟨dx, at_⟩, hd.tk (.same sm), ho.tk (.same sm)⟩
theorem iteT' {c : Bool} {A B : Prop} (h : c = true) (a : A) : if c = true then A else B := by rw [if_pos h]; exact a
theorem iteF' {c : Bool} {A B : Prop} (h : c = false) (b : B) : if c = true then A else B := by rw [if_neg (by rw [h]; decide)]; exact b
theorem eqv_nilL (os : List Int) : PyData.eqv (.list (os.map PyData.int)) (.list []) = decide (os = []) := by
  cases os with
  | nil => rfl
  | cons a r => rfl
theorem numsW_len {ws : List Str} {ns : List Int} (h : numsW ws = some ns) : ns.length = ws.length := by
  unfold numsW at h
  split at h
  · cases h
    exact List.length_map ..
  · cases h
theorem rowW_len {h ln : Str} {ns : List Int} (e : rowW h ln = some ns) : ns.length ≤ ln.length + 1 := by
  unfold rowW at e
  split at e
  · have a := numsW_len e
    have b := PyProof.Rows.split_le ln " "
    rw [List.length_tail] at a
    omega
  · cases e
theorem okRow_row {i : Nat} {ln : Str} {ns : List Int} (e : okRow i ln = some ns) : ∃ h, rowW h ln = some ns := by
  unfold okRow at e
  split at e
  · cases e
  · rename_i h _
    split at e
    · cases e
    · rename_i ms hm
      split at e
      · cases e
      · cases e
        exact ⟨h, hm⟩
theorem vL_len {z : Str} (hz : z.length ≤ 620) (i : Nat) : (vL z i).length ≤ 1000 := by
  unfold vL
  cases e : okRow i ((lns z).getD i "") with
  | none => exact Nat.zero_le _
  | some ns =>
    obtain ⟨h, hr⟩ := okRow_row e
    have a := rowW_len hr
    have b : ((lns z).getD i "").length ≤ z.length := by
      rw [List.getD_eq_getElem?_getD]
      cases g : (lns z)[i]? with
      | none => exact Nat.zero_le _
      | some ln => exact PyProof.Rows.part_short (List.mem_of_getElem? g)
    show ns.length ≤ 1000
    omega
theorem cond2 (i : Nat) (ns : List Int) : ((decide (V.int (i : Nat) = V.int 0) && !decide (V.int (((ns.map V.int).length : Nat) : Int) = V.int 1)) || (decide (V.int (i : Nat) = V.int 2) && PyData.eqv (.list (ns.map PyData.int)) (.list []))) = decide ((i = 0 ∧ ns.length ≠ 1) ∨ (i = 2 ∧ ns = [])) := by
  have a0 : decide (V.int (i : Nat) = V.int 0) = decide (i = 0) := by
    rw [Bool.eq_iff_iff]
    simp
  have a2 : decide (V.int (i : Nat) = V.int 2) = decide (i = 2) := by
    rw [Bool.eq_iff_iff]
    simp
    omega
  have a1 : decide (V.int (((ns.map V.int).length : Nat) : Int) = V.int 1) = decide (ns.length = 1) := by
    rw [List.length_map, Bool.eq_iff_iff]
    simp
    omega
  rw [a0, a1, a2, eqv_nilL, Bool.eq_iff_iff]
  simp
theorem okRow_at {i : Nat} {h ln : Str} (e : hd3[i]? = some h) : okRow i ln = match rowW h ln with
    | none => none
    | some ns => if (i = 0 ∧ ns.length ≠ 1) ∨ (i = 2 ∧ ns = []) then none else some ns := by
  unfold okRow
  rw [e]
theorem okRow_few {i : Nat} {ln : Str} (h : 3 ≤ i) : (okRow i ln).isNone = true := by
  unfold okRow
  rw [List.getElem?_eq_none (by simpa using h)]
  rfl
/-- tuples of numbers -/
def TsV (K : PySem.W.Frag) (H : Hp) (vs : List V) (L : Nat → List Int) : Prop := ∀ j, j < vs.length → ∃ p, vs[j]? = some (.ref p) ∧ SqT K H p ((L j).map V.int)
theorem TsV.tk {H H' : Hp} {vs : List V} {L : Nat → List Int} (h : TsV K H vs L) (t : TK K H H') : TsV K H' vs L := fun j hj => by
  obtain ⟨p, e, s⟩ := h j hj
  exact ⟨p, e, t _ _ s⟩
theorem TsV.snoc {H : Hp} {vs : List V} {L : Nat → List Int} {p : Addr} (h : TsV K H vs L) (hp : SqT K H p ((L vs.length).map V.int)) : TsV K H (vs ++ [.ref p]) L := fun j hj => by
  rw [List.length_append, List.length_singleton] at hj
  by_cases e : j < vs.length
  · rw [List.getElem?_append_left e]
    exact h j e
  · obtain rfl : j = vs.length := by omega
    rw [List.getElem?_append_right (Nat.le_refl _), Nat.sub_self]
    exact ⟨p, rfl, hp⟩
def spPV (K : PySem.W.Frag) (C cV cR : Addr) : Sp := fun vs H Q E => ∃ z : Str, vs = [.str z] ∧ z.length ≤ 620 ∧
  (∀ i d H', bV z = some i → Same H H' → H' d = some (.xd [("row", .int (i : Nat))]) → E (.ref cR) (some d) H') ∧
  (bV z = none → tbad ((vL z 0).headD 0) (vL z 1) (oL z) = none → ∀ a d o H', Same H H' → Tv K C H' a ((vL z 0).headD 0) d o (vL z 1) (oL z) → Q (.ref a) H') ∧
  (bV z = none → ∀ pt i dd H', tbad ((vL z 0).headD 0) (vL z 1) (oL z) = some (pt, i) → Same H H' → H' dd = some (.xd [("index", .int (i : Nat)), ("part", .str pt)]) → E (.ref cV) (some dd) H')
theorem ok_pv {f : Addr} {fd : FuncData} (F : Fun K "parse_travel" "parse_travel" sPV f fd) (T : TXt K mg cR cP fR fdR mp) (N : TNm K mg fNu fLi dNu dLi) (T1 : TEv K mg cV cP fV fdV mp) (W : TTv K mg C fVN dVN) (MK : Mk K C fT) (I : Fun K "__init__" "Travel.__init__" sTvI fT dT) (mT : mg "tuple" = none) :
    FnOk P w K mg base (L2.CX P w) 7 f fd ["text"] (spPV K C cV cR) := by
  have GR : FnOk P w K mg base CX0 1 fR fdR ["self", "row"] (spX1 K "row") := ok_XT T
  have kb := kb_XT T
  refine F.okX scPV (fun vs H Q E h => ?_) (fun cdv A outer s H vs Q E hr h => ?_)
  · obtain ⟨z, rfl, _⟩ := h
    rfl
  · obtain ⟨z, rfl, hz, q0, q1, q2⟩ := h
    have PX : Passes (L2.CX P w) (cxOf (L2.CX P w) P w K mg base NPV "parse_travel" (defScope sPV) f cdv A outer s H E) E := passes_call (takes_of rfl rfl rfl rfl) (fun _ _ _ _ h => h)
    have hu := hr.units
    refine ⟨_, pss_cons (ps_set (i := 1) scPV.nd rfl (.inl rfl) (pe_lst pa_nil))
      (pss_cons (ps_set (i := 2) scPV.nd rfl (.inl rfl) (pe_lst (pa_cons pe_str (pa_cons pe_str (pa_cons pe_str pa_nil)))))
      (pss_cons (ps_for (passes_of rfl) rfl (pi_enum (by rfl) W.mE (pa_cons (pe_split (pv 0) pe_str) pa_nil)) (pg_tup rfl (pgs_cons (pg_name (i := 3) scPV.nd rfl (.inl rfl)) (pgs_cons (pg_name (i := 4) scPV.nd rfl (.inl rfl)) pgs_nil)))
        (pss_cons (ps_asg (pe_split (pv 4) pe_str) (pg_star rfl (pgs_cons (pg_name (i := 5) scPV.nd rfl (.inl rfl)) (pgs_starN (pgs_cons (pg_name (i := 6) scPV.nd rfl (.inl rfl)) pgs_nil)))))
        (pss_cons (ps_set (i := 7) scPV.nd rfl (.inl rfl) (pe_call (E := E0) (ok_nums (k := 0) N) (hr.mono (by omega)) (by rfl) N.gN N.kN N.bN .nil pass0 (pa_cons (pv 6) pa_nil)))
        (pss_cons (ps_if (PW.pt (pw_or (pt_cmpR op_eq (pv 3) (pe_callB call_len_seq (by rfl) N.mN PySem.boot_len (pa_cons (pv 2) pa_nil)) (nomark _)) (pw_or (pt_cmpR op_ne (pv 5) (pe_ixl (pv 2) (pv 3)) (nomark _)) (pw_or1 (pt_cmpR op_isN (pv 7) pe_non (nomark _))))))
          (pss_one (ps_raise rfl (takes_of rfl rfl rfl rfl) (pmk_kw T.xR T.iR T.tR GR (hr.mono (by omega)) kb pass0 (by rfl) T.gR (pk_cons (pv 3) pk_nil)))) pss_nil)
        (pss_cons (ps_if (PW.pt (pw_or (PW.pt (pw_and (pt_cmpR op_eq (pv 3) pe_int (nomark _)) (pw_and1 (pt_cmpR op_ne (pe_callB call_len_seq (by rfl) N.mN PySem.boot_len (pa_cons (pv 7) pa_nil)) pe_int (nomark _))))) (pw_or1 (PW.pt (pw_and (pt_cmpR op_eq (pv 3) pe_int (nomark _)) (pw_and1 (pt_cmpR (op_eqD hu) (pv 7) (pe_lst pa_nil) (nomark _))))))))
          (pss_one (ps_raise rfl (takes_of rfl rfl rfl rfl) (pmk_kw T.xR T.iR T.tR GR (hr.mono (by omega)) kb pass0 (by rfl) T.gR (pk_cons (pv 3) pk_nil)))) pss_nil)
        (pss_one (ps_expr (pe_bm PySem.F.plainAttrs_list PySem.F.slot_list_append PySem.F.type_list_append mt_append (pv 1) (pa_cons (pe_callTy call_tuple_of (by rfl) mT (by rfl) (pa_cons (pv 7) pa_nil)) pa_nil)))))))))
      (pss_cons (ps_if (pt_cmpR op_lt (pe_callB call_len_seq (by rfl) N.mN PySem.boot_len (pa_cons (pv 1) pa_nil)) pe_int (nomark _))
          (pss_one (ps_raise rfl (takes_of rfl rfl rfl rfl) (pmk_kw T.xR T.iR T.tR GR (hr.mono (by omega)) kb pass0 (by rfl) T.gR (pk_cons (pe_callB call_len_seq (by rfl) N.mN PySem.boot_len (pa_cons (pv 1) pa_nil)) pk_nil)))) pss_nil)
      (pss_one (ps_ret (pe_makeK (E := E) MK (ok_tvI I T1 W) (hr.mono (by omega)) (by rfl) W.gC (kb_tvI I) PX (pa_cons (pe_ixt (pe_ixl (pv 1) pe_int) pe_int) (pa_cons (pe_ixl (pv 1) pe_int) pa_nil))
        (pk_cons (pe_ifExp (pt_cmpR op_eq (pe_callB call_len_seq (by rfl) N.mN PySem.boot_len (pa_cons (pv 1) pa_nil)) pe_int (nomark _)) (pe_ixl (pv 1) pe_int) (pe_tup pa_nil)) pk_nil))))))), ?_⟩
    have many : (lns z).length ≤ z.length + 2 := PyProof.Rows.split_le z "\n"
    have some1 : 1 ≤ (lns z).length := PyProof.Rows.split_pos z "\n"
    refine q_asgL (el_lst ea_nil (by decide)) fun l H1 nl e1 hl => ?_
    refine q_asgL (xs := hd3.map V.str) (el_lst (ea_cons ev_c (ea_cons ev_c (ea_cons ev_c ea_nil))) (show 3 ≤ 100000 by decide)) fun g H2 ng e2 hg => ?_
    refine el_split (ev_var rfl) ev_c (by decide +kernel) (by omega) H2 (Ex.refl _) _ fun p H3 np e3 h3 => ?_
    have hl2 : H2 l = some (.lst []) := e2 _ _ hl
    have npl : p ≠ l := (ne_of_none hl2 np).symm
    have ngl : g ≠ l := (ne_of_none hl ng).symm
    refine ⟨p, (lns z).map V.str, rfl, sq_of h3, for_it (walk_enum (K := K)) (fun i σ' H' => (∃ v3 v4 v5 v6 v7 vs, σ' = [some (.str z), some (.ref l), some (.ref g), v3, v4, v5, v6, v7] ∧ H' l = some (.lst vs) ∧ TsV K H' vs (vL z) ∧ vs.length = i) ∧
      (∀ b o, H3 b = some o → b ≠ l → H' b = some o) ∧ ∀ j, j < i → (okRow j ((lns z).getD j "")).isNone = false) ?_ (fun i σ' H' _ w => sq_of (w.2.1 _ _ h3 npl)) ?_ ?_⟩
    · exact ⟨⟨none, none, none, none, none, [], rfl, e3 _ _ hl2, fun j hj => absurd hj (Nat.not_lt_zero _), rfl⟩, fun b o e _ => e, fun j hj => absurd hj (Nat.not_lt_zero _)⟩
    · rintro i x σ' H' HT hi ⟨⟨v3, v4, v5, v6, v7, vs, rfl, hl', hps, hv⟩, keep, good⟩ ⟨TT, x', y, rfl, nT, rfl, hx', hy⟩
      obtain ⟨ln, hln, rfl⟩ := map_at hy
      cases hx'
      rw [List.length_map] at hi
      have lnl : ln.length ≤ 620 := Nat.le_trans (PyProof.Rows.part_short (List.mem_of_getElem? hln)) hz
      have gln : (lns z).getD i "" = ln := by rw [List.getD_eq_getElem?_getD, hln]; rfl
      refine ⟨TT, _, rfl, .of upd_same, rfl, _, _, rfl, _, _, rfl, rfl, ?_⟩
      refine q_line (a := 4) (b := 5) (c := 6) (d := 7) rfl lnl (fun _ _ => rfl) fun w p2 v H4 s4 hw hv4 => ?_
      have sT : Same H' H4 := (same_new nT).trans s4
      have up : Same H H' := fun b o e => keep b o (e3 _ _ (e2 _ _ (e1 _ _ e))) (ne_of_none e nl)
      have hg4 : H4 g = some (.lst (hd3.map V.str)) := sT _ _ (keep _ _ (e3 _ _ hg) ngl)
      have raised : ∀ {H5 : Hp}, Ex H4 H5 → (okRow i ln).isNone = true → ∀ d, H5 d = none → E (.ref cR) (some d) (upd H5 d (.xd [("row", .int (i : Nat))])) := fun e5 hb d hd =>
        q0 i d _ (by
          unfold bV
          rw [first_at (by rw [gln]; exact hb) good hi]
          rfl) (((up.trans sT).trans e5).trans (same_new hd)) upd_same
      by_cases i3 : i < 3
      · obtain ⟨h, hh⟩ : ∃ h, hd3[i]? = some h := ⟨_, List.getElem?_eq_getElem (show i < hd3.length from i3)⟩
        have hat : atI (hd3.map V.str) ((i : Nat) : Int) = some (.str h) := at_nat (by rw [List.length_map]; exact i3) (by rw [List.getElem?_map, hh]; rfl)
        have f3 : decide (V.int (i : Nat) = V.int (((hd3.map V.str).length : Nat) : Int)) = false := by
          rw [dec_int, beq_eq_false_iff_ne]
          show ((i : Nat) : Int) ≠ 3
          omega
        have row : rowW h ln = if w = h then numsW (Txt.split ln " ").tail else none := by
          unfold rowW
          rw [hw]
        have ok := okRow_at (ln := ln) hh
        cases ho : numsW (Txt.split ln " ").tail with
        | none =>
          rw [ho] at hv4 row
          obtain rfl : v = .non := hv4
          have hb : (okRow i ln).isNone = true := by
            rw [ok, row]
            split
            · rfl
            · rename_i h1
              split at h1 <;> cases h1
          refine q_when (b := true) (et_is (et_or (a := false) (b := true) (et_is (et_test (ev_op (ev_var rfl) (ev_len (ev_var rfl) (sq_of hg4)) (rv_eq rfl))) f3) (fun _ => et_is (et_or (a := !decide (V.str w = V.str h)) (b := true) (et_test (ev_op (ev_var rfl) (ev_op (ev_var rfl) (ev_var rfl) (rv_ixL (sq_of hg4) hat)) (rv_ne rfl))) (fun _ => et_is (et_isV rfl) (decide_eq_true rfl))) (by simp))) rfl) (fun _ H5 e5 => ?_) (fun h => nomatch h)
          exact ⟨_, rfl, mk1_in T.xR T.nR fun d hd => raised e5 hb d hd⟩
        | some ns =>
          rw [ho] at hv4 row
          obtain ⟨q, rfl, hq⟩ := hv4
          refine q_when (b := !decide (V.str w = V.str h)) (et_is (et_or (a := false) (b := !decide (V.str w = V.str h)) (et_is (et_test (ev_op (ev_var rfl) (ev_len (ev_var rfl) (sq_of hg4)) (rv_eq rfl))) f3) (fun _ => et_is (et_or (a := !decide (V.str w = V.str h)) (b := false) (et_test (ev_op (ev_var rfl) (ev_op (ev_var rfl) (ev_var rfl) (rv_ixL (sq_of hg4) hat)) (rv_ne rfl))) (fun _ => et_is (et_isV rfl) (by simp))) (by simp))) (by simp)) (fun hb H5 e5 => ?_) (fun hb H5 e5 => ?_)
          · have hb : (okRow i ln).isNone = true := by
              rw [ok, row, if_neg fun e => by rw [e] at hb; simp at hb]
              rfl
            exact ⟨_, rfl, mk1_in T.xR T.nR fun d hd => raised e5 hb d hd⟩
          · have ew : w = h := by simpa using hb
            rw [if_pos ew] at row
            rw [row] at ok
            have hq5 := e5 _ _ hq
            refine q_when (b := decide ((i = 0 ∧ ns.length ≠ 1) ∨ (i = 2 ∧ ns = []))) (et_is (et_or (et_and (et_test (ev_op (ev_var rfl) ev_c (rv_eq rfl))) (fun _ => et_test (ev_op (ev_len (ev_var rfl) (sq_of hq5)) ev_c (rv_ne rfl))))
              (fun _ => et_and (et_test (ev_op (ev_var rfl) ev_c (rv_eq rfl))) (fun _ => et_test (ev_opL (ev_var rfl) (el_lst ea_nil (by decide)) fun p6 H6 h6 e6 => rv_eqD (fun H7 e7 => .lst (ex_l (e6.trans e7) (sq_of hq5)) (intsDp ns)) (fun H7 e7 => .lst (sq_of (e7 _ _ h6)) .nil) (ints_sh ns) (by decide +kernel))))) ?_) (fun hb H6 e6 => ?_) (fun hb H6 e6 => ?_)
            · exact cond2 i ns
            · have hb : (okRow i ln).isNone = true := by
                rw [ok]
                show (if (i = 0 ∧ ns.length ≠ 1) ∨ (i = 2 ∧ ns = []) then none else some ns : Option (List Int)).isNone = true
                rw [if_pos (of_decide_eq_true hb)]
                rfl
              exact ⟨_, rfl, mk1_in T.xR T.nR fun d hd => raised (e5.trans e6) hb d hd⟩
            · have ok1 : okRow i ln = some ns := by
                rw [ok]
                show (if (i = 0 ∧ ns.length ≠ 1) ∨ (i = 2 ∧ ns = []) then none else some ns : Option (List Int)) = some ns
                rw [if_neg (of_decide_eq_false hb)]
              have hl6 : H6 l = some (.lst vs) := e6 _ _ (e5 _ _ (sT _ _ hl'))
              refine s_appU hl6 (ev_var rfl) (eu_tupL (ev_var rfl) (e6 _ _ hq5)) (by omega) fun p3 H7 np3 e7 h7 => ?_
              have s7 : Same H' H7 := ((sT.trans e5).trans e6).trans e7
              have p3l : p3 ≠ l := (ne_of_none hl6 np3).symm
              have hl7 : H7 l = some (.lst vs) := s7 _ _ hl'
              have k7 : TK K H7 (upd H7 l (.lst (vs ++ [.ref p3]))) := .but (fun b => b = l) (fun b o e n => by rw [upd_ne n]; exact e) fun b xs z => by
                rw [z]
                exact Rd.lst_no hl7
              have vl : vL z i = ns := by
                unfold vL
                rw [gln, ok1]
                rfl
              refine ⟨⟨_, _, _, _, _, vs ++ [.ref p3], rfl, upd_same, ((hps.tk (.same s7)).tk k7).snoc ?_, by rw [List.length_append, hv]; rfl⟩, fun b o e n => ?_, fun j hj => ?_⟩
              · rw [hv, vl]
                exact .of (by rw [upd_ne p3l]; exact h7)
              · rw [upd_ne n]
                exact s7 _ _ (keep b o e n)
              · rcases Nat.lt_succ_iff_lt_or_eq.mp hj with h | rfl
                · exact good j h
                · rw [gln, ok1]
                  rfl
      · obtain rfl : i = 3 := by
          by_cases h : 3 < i
          · have := good 3 h
            rw [okRow_few (Nat.le_refl 3)] at this
            cases this
          · omega
        refine q_when (b := true) (et_is (et_or (a := true) (b := false) (et_is (et_test (ev_op (ev_var rfl) (ev_len (ev_var rfl) (sq_of hg4)) (rv_eq rfl))) (decide_eq_true rfl)) (fun h => nomatch h)) rfl) (fun _ H5 e5 => ?_) (fun h => nomatch h)
        exact ⟨_, rfl, mk1_in T.xR T.nR fun d hd => raised e5 (okRow_few (Nat.le_refl 3)) d hd⟩
    · rintro σ' H' ⟨⟨v3, v4, v5, v6, v7, vs, rfl, hl', hps, hv⟩, keep, good⟩
      have hv : vs.length = (lns z).length := hv.trans (List.length_map ..)
      have good : ∀ j, j < (lns z).length → (okRow j ((lns z).getD j "")).isNone = false := fun j hj => good j (by rw [List.length_map]; exact hj)
      have up : Same H H' := fun b o e => keep b o (e3 _ _ (e2 _ _ (e1 _ _ e))) (ne_of_none e nl)
      have f0 : first (fun i => (okRow i ((lns z).getD i "")).isNone) (lns z).length = none := first_none good
      have n3 : (lns z).length ≤ 3 := by
        by_cases h : 3 < (lns z).length
        · have := good 3 h
          rw [okRow_few (Nat.le_refl 3)] at this
          cases this
        · omega
      have eL : Ev (tCB (rLenS K) (tCons (tVar 1) tNil)) [some (.str z), some (.ref l), some (.ref g), v3, v4, v5, v6, v7] H' (.int (vs.length : Nat)) := ev_len (ev_var rfl) (sq_of hl')
      have eT : EvT (tTest (tOp (rI0 fun i j => .bl (decide (i < j))) (tCB (rLenS K) (tCons (tVar 1) tNil)) (tC (.int 2)))) [some (.str z), some (.ref l), some (.ref g), v3, v4, v5, v6, v7] H' (decide (((vs.length : Nat) : Int) < 2)) := et_test (ev_op eL ev_c (rv_I0 (g := fun i j => .bl (decide (i < j)))))
      dsimp only
      refine q_when (b := decide (((vs.length : Nat) : Int) < 2)) eT (fun hb H4 e4 => ?_) (fun hb H4 e4 => ?_)
      · have hb := of_decide_eq_true hb
        refine ⟨_, rfl, l, vs, rfl, .inl (sq_of (e4 _ _ hl')), mk1_in T.xR T.nR fun d hd => q0 vs.length d _ ?_ ((up.trans e4).trans (same_new hd)) upd_same⟩
        unfold bV
        rw [f0, hv, if_pos (by omega)]
        rfl
      · have hb := of_decide_eq_false hb
        have nb : bV z = none := by
          unfold bV
          rw [f0, if_neg (by omega)]
          rfl
        have up4 : Same H H4 := up.trans e4
        have ts := hps.tk (.same e4)
        have hl4 := e4 _ _ hl'
        obtain ⟨p0, g0, t0⟩ := ts 0 (by omega)
        obtain ⟨p1, g1, t1⟩ := ts 1 (by omega)
        have one : (vL z 0).length = 1 := by
          have h := good 0 (by omega)
          unfold vL
          revert h
          rw [okRow_at (h := "round") rfl]
          cases rowW "round" ((lns z).getD 0 "") with
          | none => exact fun h => nomatch h
          | some ns =>
            show (if (0 = 0 ∧ ns.length ≠ 1) ∨ (0 = 2 ∧ ns = []) then none else some ns : Option (List Int)).isNone = false → ((if (0 = 0 ∧ ns.length ≠ 1) ∨ (0 = 2 ∧ ns = []) then none else some ns : Option (List Int)).getD []).length = 1
            by_cases c : ns.length = 1
            · rw [if_neg (by omega)]
              exact fun _ => c
            · rw [if_pos (.inl ⟨rfl, c⟩)]
              exact fun h => nomatch h
        have lens : ∀ i, (vL z i).length ≤ 1000 := vL_len hz
        have head : atI ((vL z 0).map V.int) ((0 : Nat) : Int) = some (.int ((vL z 0).headD 0)) := by
          match e : vL z 0, one with
          | [x], _ => rfl
        have E0' : Ev (tOp (rIxT K) (tOp (rIxL K) (tVar 1) (tC (.int 0))) (tC (.int 0))) [some (.str z), some (.ref l), some (.ref g), v3, v4, v5, v6, v7] H4 (.int ((vL z 0).headD 0)) :=
          ev_op (ev_op (ev_var rfl) ev_c (rv_ixL (sq_of hl4) (at_nat (i := 0) (by omega) g0))) ev_c (rv_ixT t0 head)
        have E1' : Ev (tOp (rIxL K) (tVar 1) (tC (.int 1))) [some (.str z), some (.ref l), some (.ref g), v3, v4, v5, v6, v7] H4 (.ref p1) := ev_op (ev_var rfl) ev_c (rv_ixL (sq_of hl4) (at_nat (i := 1) (by omega) g1))
        refine E0' H4 (Ex.refl _) _ fun H5 e5 => E1' H5 e5 _ fun H6 e6 => ?_
        have t16 := ex_t (e5.trans e6) t1
        have fin : ∀ (o : V) (H7 : Hp), Ex H6 H7 → TiA K H7 o (oL z) → (oL z).length ≤ 1000 → [V.int ((vL z 0).headD 0), V.ref p1].length = 2 ∧ [o].length = ["exceptions"].length ∧ ∀ x dx, H7 x = none → H7 dx = none → dx ≠ x → spTvI K C cV ((.ref x :: [V.int ((vL z 0).headD 0), V.ref p1]) ++ [o]) (upd (upd H7 dx (.own x)) x (.ins C dx [])) (fun v H3 => v = .non ∧ Q (.ref x) H3) E :=
          fun o H7 e7 ho lo => tv_mk (Q := Q) (E := E) ⟨p1, rfl, ex_t e7 t16⟩ ho (lens 1) lo (fun hb a H8 sm _ tv => q1 nb hb a _ _ H8 (((up4.trans (e5.trans e6)).trans e7).trans sm) tv) (fun pt i dd H8 hb sm hx => q2 nb pt i dd H8 hb (((up4.trans (e5.trans e6)).trans e7).trans sm) hx)
        have eL6 : EvT (tTest (tOp rEq (tCB (rLenS K) (tCons (tVar 1) tNil)) (tC (.int 3)))) [some (.str z), some (.ref l), some (.ref g), v3, v4, v5, v6, v7] H6 (decide (V.int (vs.length : Nat) = V.int 3)) := et_test (ev_op (ev_len (ev_var rfl) (sq_of (e6 _ _ (e5 _ _ hl4)))) ev_c (rv_eq rfl))
        by_cases three : (lns z).length = 3
        · have oz : oL z = vL z 2 := if_pos three
          obtain ⟨p2, g2, t2⟩ := ts 2 (by omega)
          refine eL6 H6 (Ex.refl _) _ fun H7 e7 => iteT' (by rw [hv, three]; exact decide_eq_true rfl) ?_
          refine ev_op (ev_var rfl) ev_c (rv_ixL (sq_of (e7 _ _ (e6 _ _ (e5 _ _ hl4)))) (at_nat (i := 2) (by omega) g2)) H7 (Ex.refl _) _ fun H8 e8 => ?_
          exact fin (.ref p2) H8 (e7.trans e8) ⟨p2, rfl, by rw [oz]; exact ex_t ((((e5.trans e6).trans e7).trans e8)) t2⟩ (by rw [oz]; exact lens 2)
        · have oz : oL z = [] := if_neg three
          refine eL6 H6 (Ex.refl _) _ fun H7 e7 => iteF' (by rw [hv]; rw [decide_eq_false_iff_not]; simp; omega) ?_
          refine eu_tup ea_nil (by decide) H7 (Ex.refl _) _ fun p8 H8 n8 e8 h8 => ?_
          exact fin (.ref p8) H8 (e7.trans e8) ⟨p8, rfl, by rw [oz]; exact st_of h8⟩ (by rw [oz]; decide)
end
end Sea

set_option Elab.async false
set_option linter.all false
set_option maxRecDepth 100000
set_option maxHeartbeats 4000000
namespace Sea
open PySem PySem.Spec PyProof.Rows L2 LamX NdefX ClX Evl StX
abbrev sInt : Stmt := top 32
abbrev sRead : Stmt := top 33
theorem scInt : FnScope ["_law_word", "_law_one"] ["_law_word"] (defScope sInt) := ⟨rfl, rfl, rfl, by decide +kernel, rfl, by decide +kernel, by decide +kernel⟩
abbrev NRd : List Str := ["_law_line", "_law_word", "_law_words", "_law_numbers", "_law_one"]
theorem scRead : FnScope NRd ["_law_line", "_law_word"] (defScope sRead) := ⟨rfl, rfl, rfl, by decide +kernel, rfl, by decide +kernel, by decide +kernel⟩
section
variable {K : PySem.W.Frag} {te ta tb tc : TE} {σ : L2.St} {H : Hp}
def rLeS : R2 := fun x y H Q => ∃ i j, x = .str i ∧ y = .str j ∧ Q (.bl (!decide (j.cps.toList < i.cps.toList))) H
theorem ev_chainS {i j k : Str} (ha : Ev ta σ H (.str i)) (hb : Ev tb σ H (.str j)) (hc : Ev tc σ H (.str k)) :
    Ev (tChain rLeS rLeS ta tb tc) σ H (.bl ((!decide (j.cps.toList < i.cps.toList)) && (!decide (k.cps.toList < j.cps.toList)))) := fun H1 e Q hq => ha H1 e _ fun H2 e2 => hb H2 (e.trans e2) _ fun H3 e3 => ⟨i, j, rfl, rfl, _, rfl, by
  cases hp : (!decide (j.cps.toList < i.cps.toList)) with
  | true => exact iteT (hc H3 ((e.trans e2).trans e3) _ fun H4 e4 => ⟨j, k, rfl, rfl, by
      have z := hq H4 ((e2.trans e3).trans e4)
      rw [hp] at z
      exact z⟩)
  | false => exact iteF (by
      have z := hq H3 (e2.trans e3)
      rw [hp] at z
      exact z)⟩
theorem edp_of {xs : List V} {ds : List PyData} (h : EvL te σ H xs) (hd : ∀ H1, DpAll K H1 xs ds) : EvDp K te σ H (.list ds) := fun H1 e Q q => h H1 e _ fun p H2 _ e2 hx => q (.ref p) H2 e2 (.lst (sq_of hx) (hd H2))
theorem strsDp {H : Hp} : ∀ ws : List Str, DpAll K H (ws.map V.str) (ws.map PyData.str)
  | [] => .nil
  | z :: r => .cons (.str z) (strsDp r)
theorem strs_lay : ∀ ws : List Str, (∀ z ∈ ws, PyData.strOk z = true) → PyData.canLayAll0 (ws.map PyData.str) = true
  | [], _ => rfl
  | n :: r, h => by
    show (PyData.strOk n && PyData.canLayAll0 (r.map PyData.str)) = true
    rw [strs_lay r fun z hz => h z (List.mem_cons_of_mem _ hz), show PyData.strOk n = true from h n (List.mem_cons_self ..)]
    rfl
theorem strs_dep : ∀ ws : List Str, PyData.depthAll (ws.map PyData.str) = 0
  | [] => rfl
  | n :: r => by
    show max 0 (PyData.depthAll (r.map PyData.str)) = 0
    rw [strs_dep r]
    rfl
theorem strs_sh (ws : List Str) (h : ∀ z ∈ ws, PyData.strOk z = true) : SeqAt.shaped (.list (ws.map PyData.str)) = true := by
  show (PyData.canLayAll0 (ws.map PyData.str) && decide (PyData.depthAll (ws.map PyData.str) + 1 ≤ 64)) = true
  rw [strs_lay ws h, strs_dep]
  rfl
theorem eqv_nilD (ds : List PyData) : PyData.eqv (.list ds) (.list []) = decide (ds = []) := by
  cases ds with
  | nil => rfl
  | cons a r => rfl
end
theorem digC_chain (c : Nat) : ((!decide ((⟨#[c]⟩ : Str).cps.toList < ("0" : Str).cps.toList)) && (!decide (("9" : Str).cps.toList < (⟨#[c]⟩ : Str).cps.toList))) = digC c := by
  have e0 : ("0" : Str).cps.toList = [48] := by decide +kernel
  have e9 : ("9" : Str).cps.toList = [57] := by decide +kernel
  have e : ("0123456789" : Str).cps.toList = [48, 49, 50, 51, 52, 53, 54, 55, 56, 57] := by decide +kernel
  unfold digC
  rw [e0, e9, e]
  show ((!decide ([c] < [48])) && (!decide ([57] < [c]))) = _
  have h1 : ([c] < [48]) ↔ c < 48 := by
    rw [List.cons_lt_cons_iff]
    simp
  have h2 : ([57] < [c]) ↔ 57 < c := by
    rw [List.cons_lt_cons_iff]
    simp
  rw [Bool.eq_iff_iff, Bool.and_eq_true, Bool.not_eq_true', Bool.not_eq_true', decide_eq_false_iff_not, decide_eq_false_iff_not, decide_eq_true_iff, h1, h2]
  simp
  omega
/-- one word of the law's own reading -/
def spInt : Sp := fun vs H Q _ => ∃ z : Str, vs = [.str z] ∧ z.length ≤ 640 ∧ PyData.strOk z = true ∧ (badW z = true → ∀ H', Same H H' → Q .non H') ∧ (badW z = false → ∀ H', Same H H' → Q (.int (valW z)) H')
section
variable {P : Program} {w : World} {K : PySem.W.Frag} {mg : Str → Option Value} {base : Heap}
theorem ok_int {f : Addr} {fd : FuncData} {k : Nat} (F : Fun K "_law_integer" "_law_integer" sInt f fd) (mN : mg "len" = none) (mI : mg "int" = none) : FnOk P w K mg base CX0 (k + 1) f fd ["_law_word"] spInt := by
  refine F.ok scInt (fun vs H Q E h => ?_) (fun cdv A outer s H vs Q E hr h => ?_)
  · obtain ⟨z, rfl, _⟩ := h
    rfl
  · obtain ⟨z, rfl, hz, hk, q0, q1⟩ := h
    have hu := hr.units
    refine ⟨_, pss_cons (ps_if (PW.pt (pw_or (pt_cmpR op_eq (pv 0) pe_str (nomark _)) (pw_or (pt_cmpR (op_neD hu)
            (pe_lc (own := [("_law_one", 1)]) (g := gName 1) (by rfl) scInt.nd (pi_str (pv 0)) (blkOk_by (own := [("_law_one", 1)]) (N := ["_law_word", "_law_one"]) (sc := defScope sInt) (by decide +kernel))
              (fun _ _ _ _ _ => pg_name (i := 1) scInt.nd rfl (Or.inl rfl)) (fun _ _ _ _ _ => pts_one (pt_not (pt_chain op_le_str op_le_str pe_str (pv 1) pe_str))) (fun _ _ _ _ _ => pv 1)) (pe_lst pa_nil) (nomark _))
          (pw_or1 (PW.pt (pw_and (pt_cmpR op_gt (pe_callB call_len_str (by rfl) mN PySem.boot_len (pa_cons (pv 0) pa_nil)) pe_int (nomark _)) (pw_and1 (pt_cmpR op_eq (pe_ix ix_str (pv 0) pe_int (fun _ _ => rfl)) pe_str (nomark _)))))))))
          (pss_one (ps_ret pe_non)) pss_nil)
      (pss_one (ps_ret (pe_callTy call_int_str (by rfl) mI (by rfl) (pa_cons (pv 0) pa_nil)))), ?_⟩
    have eL : EvL (tLc (iStr (tVar 0)) (gName 1) (tNot (tTest (tChain rLeS rLeS (tC (.str "0")) (tVar 1) (tC (.str "9"))))) (tVar 1) [1]) [some (.str z), none] H (given z.cps.size (fun i => !digC (z.cps.getD i 0)) (fun i => .str ⟨#[z.cps.getD i 0]⟩)) := by
      refine el_lcSt (fun i => !digC (z.cps.getD i 0)) (fun i => .str ⟨#[z.cps.getD i 0]⟩) (ev_var rfl) (Nat.le_trans hz (by decide)) (fun _ => rfl) (fun i c H1 _ hc => ?_) (fun i c H1 _ hc _ => ?_)
      · have e : z.cps.getD i 0 = c := by rw [Array.getD_eq_getD_getElem?, hc]; rfl
        rw [e]
        exact et_is (et_not (et_test (ev_chainS ev_c (ev_var rfl) ev_c))) (by rw [digC_chain])
      · have e : z.cps.getD i 0 = c := by rw [Array.getD_eq_getD_getElem?, hc]; rfl
        rw [e]
        exact ev_var rfl
    have eD : EvDp K (tLc (iStr (tVar 0)) (gName 1) (tNot (tTest (tChain rLeS rLeS (tC (.str "0")) (tVar 1) (tC (.str "9"))))) (tVar 1) [1]) [some (.str z), none] H (.list (((List.range z.cps.size).filter fun i => !digC (z.cps.getD i 0)).map (fun i => (⟨#[z.cps.getD i 0]⟩ : Str)) |>.map PyData.str)) :=
      edp_of (el_is eL (by unfold given; rw [List.map_map]; rfl)) fun H1 => strsDp _
    have sgn : ∀ y ∈ ((List.range z.cps.size).filter fun i => !digC (z.cps.getD i 0)).map (fun i => (⟨#[z.cps.getD i 0]⟩ : Str)), PyData.strOk y = true := fun y hy => by
      obtain ⟨i, hi, rfl⟩ := List.mem_map.mp hy
      have hi := List.mem_range.mp (List.mem_filter.mp hi).1
      have : z.cps.all (· < 0x110000) = true := hk
      have := Array.all_eq_true.mp this i hi
      show (#[z.cps.getD i 0] : Array Nat).all (· < 0x110000) = true
      simpa [Array.getD, hi] using this
    have eT : EvT (tTest (tOp (rNeD K) (tLc (iStr (tVar 0)) (gName 1) (tNot (tTest (tChain rLeS rLeS (tC (.str "0")) (tVar 1) (tC (.str "9"))))) (tVar 1) [1]) (tLst tNil))) [some (.str z), none] H (!((List.range z.cps.size).map fun i => digC (z.cps.getD i 0)).all id) :=
      et_is (et_neD eD (edp_lst eda_nil (by decide)) (strs_sh _ sgn) (by decide +kernel)) (by
        rw [eqv_nilD, Bool.eq_iff_iff]
        simp)
    refine q_when (b := badW z) (et_is (et_or (et_test (ev_op (ev_var rfl) ev_c (rv_eq rfl))) (fun _ => et_or eT
        (fun _ => et_and (et_test (ev_op (ev_lenZ (ev_var rfl) (Nat.le_trans hz (by decide))) ev_c rv_I0)) (fun hg => et_test (ev_op (ev_op (ev_var rfl) ev_c (rv_ixS (c := z.cps.getD 0 0) (Nat.le_trans hz (by decide)) ?_)) ev_c (rv_eq rfl)))))) ?_) (fun hb H1 e1 => q0 hb H1 e1) (fun hb H1 e1 => ?_)
    · have hg : (1 : Int) < ((z.cps.size : Nat) : Int) := of_decide_eq_true hg
      refine at_nat (i := 0) (by rw [Array.length_toList]; omega) ?_
      rw [Array.getElem?_toList, Array.getD_eq_getD_getElem?, Array.getElem?_eq_getElem (by omega)]
      rfl
    · unfold badW
      rw [show ("0" : Str) = ⟨#[48]⟩ from by decide +kernel, sgn_eq _ 48]
    · exact s_ret (ev_intS (ev_var rfl) (badW_val hb hz).1 hz) fun H2 e2 => q1 hb H2 (e1.trans e2)
end
end Sea

set_option Elab.async false
set_option linter.all false
set_option maxRecDepth 100000
set_option maxHeartbeats 4000000
namespace Sea
open PySem PySem.Spec PyProof.Rows L2 LamX NdefX ClX Evl StX
theorem joinL_mem {S : List Nat} {c : Nat} : ∀ {L : List (List Nat)} {p : List Nat}, p ∈ L → c ∈ p → c ∈ TL.joinL S L
  | [q], p, hp, hc => by
    rw [List.mem_singleton.mp hp] at hc
    exact hc
  | q :: r :: t, p, hp, hc => by
    show c ∈ q ++ (S ++ TL.joinL S (r :: t))
    rcases List.mem_cons.mp hp with rfl | hp
    · exact List.mem_append_left _ hc
    · exact List.mem_append_right _ (List.mem_append_right _ (joinL_mem hp hc))
theorem strOk_iff {z : Str} : PyData.strOk z = true ↔ ∀ c ∈ z.cps.toList, c < 0x110000 := by
  show z.cps.all (· < 0x110000) = true ↔ _
  rw [← Array.all_toList, List.all_eq_true]
  exact ⟨fun h c hc => by simpa using h c hc, fun h c hc => by simpa using h c hc⟩
theorem part_ok {z sp y : Str} (h : PyData.strOk z = true) (hy : y ∈ Txt.split z sp) : PyData.strOk y = true := by
  refine strOk_iff.mpr fun c hc => strOk_iff.mp h c ?_
  have e := TL.tl_join sp (Txt.split z sp)
  rw [StrLaws.join_split] at e
  have : c ∈ TL.tl z := by
    rw [e]
    exact joinL_mem (List.mem_map.mpr ⟨y, hy, rfl⟩) hc
  exact this
def spRead (K : PySem.W.Frag) : Sp := fun vs H Q _ => ∃ (ln h : Str), vs = [.str ln, .str h] ∧ ln.length ≤ 620 ∧ PyData.strOk ln = true ∧
  ∀ v H', Same H H' → NumsV H' v (rowW h ln) → (∀ q, v = .ref q → H q = none) → Q v H'
structure TRd (K : PySem.W.Frag) (mg : Str → Option Value) (fIn fRe : Addr) (dIn dRe : FuncData) : Prop where
  mN : mg "len" = none
  mI : mg "int" = none
  gI : mg "_law_integer" = some (.ref fIn)
  kI : PySem.W.keepIn K (.ref fIn) = true
  uI : Fun K "_law_integer" "_law_integer" sInt fIn dIn
  gR : mg "_law_read" = some (.ref fRe)
  kR : PySem.W.keepIn K (.ref fRe) = true
  uR : Fun K "_law_read" "_law_read" sRead fRe dRe
def intV (z : Str) : V := if badW z = true then .non else .int (valW z)
section
variable {P : Program} {w : World} {K : PySem.W.Frag} {mg : Str → Option Value} {base : Heap} {fIn fRe : Addr} {dIn dRe : FuncData}
theorem TRd.bI (T : TRd K mg fIn fRe dIn dRe) : Binds K dIn ["_law_word"] [] := T.uI.binds (ps := ["_law_word"]) fun _ _ _ _ _ _ us hl => match us, hl with | [_], _ => rfl
theorem TRd.bR (T : TRd K mg fIn fRe dIn dRe) : Binds K dRe ["_law_line", "_law_word"] [] := T.uR.binds (ps := ["_law_line", "_law_word"]) fun _ _ _ _ _ _ us hl => match us, hl with | [_, _], _ => rfl
theorem int_V {z : Str} {H : Hp} (hz : z.length ≤ 640) (hk : PyData.strOk z = true) : SpV spInt ([.str z] ++ []) H (intV z) := fun H1 e Q q E =>
  ⟨z, rfl, hz, hk, fun hb H' s => by
    have := q H' s
    unfold intV at this
    rw [if_pos hb] at this
    exact this, fun hb H' s => by
    have := q H' s
    unfold intV at this
    rw [if_neg (by rw [hb]; decide)] at this
    exact this⟩
theorem intV_flat (ws : List Str) : (ws.map intV).all flatV = true := by
  rw [List.all_eq_true]
  intro v hv
  obtain ⟨z, _, rfl⟩ := List.mem_map.mp hv
  unfold intV
  split <;> rfl
theorem intV_non (ws : List Str) : (!inV .non (ws.map intV)) = ws.all fun z => !badW z := by
  unfold inV
  rw [Bool.eq_iff_iff]
  simp only [Bool.not_eq_true', List.any_eq_false, List.all_eq_true]
  constructor
  · intro h z hz
    have := h (intV z) (List.mem_map.mpr ⟨z, hz, rfl⟩)
    unfold intV at this
    by_cases c : badW z = true
    · rw [if_pos c] at this
      exact absurd rfl this
    · simpa using c
  · intro h v hv
    obtain ⟨z, hz, rfl⟩ := List.mem_map.mp hv
    have := h z hz
    unfold intV
    rw [if_neg (by rw [this]; decide)]
    exact fun z => nomatch z
theorem intV_good {ws : List Str} (h : (ws.all fun z => !badW z) = true) : ws.map intV = (ws.map valW).map V.int := by
  rw [List.map_map]
  refine List.map_congr_left fun z hz => ?_
  have := List.all_eq_true.mp h z hz
  unfold intV
  rw [if_neg (by simpa using this)]
  rfl
theorem ok_read {k : Nat} (T : TRd K mg fIn fRe dIn dRe) : FnOk P w K mg base CX0 (k + 2) fRe dRe ["_law_line", "_law_word"] (spRead K) := by
  refine T.uR.ok scRead (fun vs H Q E h => ?_) (fun cdv A outer s H vs Q E hr h => ?_)
  · obtain ⟨ln, h, rfl, _⟩ := h
    rfl
  · obtain ⟨ln, h, rfl, hl, hk, q⟩ := h
    have h1 := hr.mono (show 1 ≤ k + 1 by omega)
    refine ⟨_, pss_cons (ps_set (i := 2) scRead.nd rfl (.inl rfl) (pe_split (pv 0) pe_str))
      (pss_cons (ps_setLc (i := 3) (own := [("_law_one", 4)]) (g := gName 4) (by rfl) scRead.nd rfl rfl (by rfl) (pi_list (pe_slice sl_list (pv 2) (po_some pe_int) po_none)) (blkOk_by (own := [("_law_one", 4)]) (N := NRd) (sc := defScope sRead) (by decide +kernel))
        (fun _ _ _ _ _ => pg_name (i := 4) scRead.nd rfl (Or.inl rfl)) (fun _ _ _ _ _ => pts_nil) (fun _ _ _ _ _ => pe_call (E := E0) (ok_int (k := 0) T.uI T.mN T.mI) h1 (by rfl) T.gI T.kI T.bI .nil pass0 (pa_cons (pv 4) pa_nil)))
      (pss_one (ps_ret (pe_ifExp (PW.pt (pw_and (pt_cmpR op_eq (pe_ixl (pv 2) pe_int) (pv 1) (nomark _)) (pw_and1 (pt_cmpR op_notIn_seq pe_non (pv 3) (by rfl))))) (pv 3) pe_non)))), ?_⟩
    have ps := PyProof.Rows.split_pos ln " "
    have many := PyProof.Rows.split_le ln " "
    refine q_asgL (el_split (ev_var rfl) ev_c (by decide +kernel) (by omega)) fun g H1 ng e1 hg => ?_
    have row : ∀ x ws, Txt.split ln " " = x :: ws → rowW h ln = if x = h then numsW ws else none := fun x ws e => by
      unfold rowW
      rw [e]
      rfl
    have good : ∀ z ∈ Txt.split ln " ", z.length ≤ 640 ∧ PyData.strOk z = true := fun z hz => ⟨Nat.le_trans (PyProof.Rows.part_short hz) (by omega), part_ok hk hz⟩
    cases hs : Txt.split ln " " with
    | nil => rw [hs] at ps; cases ps
    | cons x ws =>
      have row := row x ws hs
      rw [hs] at hg many good
      have few : ws.length ≤ 621 := by simp at many; omega
      have cut : cutV ((x :: ws).map V.str) (some 1) none = ws.map V.str := by
        have := cutP_from ((x :: ws).map V.str) 1
        exact this
      refine q_asgL (xs := ws.map intV) ?_ fun r H2 nr e2 hr2 => ?_
      · refine el_is (el_lcNL (xs := ws.map V.str) (fun _ => true) (fun i => intV (ws.getD i "")) (el_is (el_sl (ev_var rfl) (eo_some ev_c) eo_none (sq_of hg)) cut) (by rw [List.length_map]; omega) (fun _ => rfl) (fun _ _ _ _ _ => et_yes) ?_) ?_
        · intro i y H3 _ hi _
          obtain ⟨z, hz, rfl⟩ := map_at hi
          have e : ws.getD i "" = z := by rw [List.getD_eq_getElem?_getD, hz]; rfl
          rw [e]
          have gz := good z (List.mem_cons_of_mem _ (List.mem_of_getElem? hz))
          exact ev_call (ea_cons (ev_var rfl) ea_nil) (int_V gz.1 gz.2)
        · rw [given_all, List.length_map, map_getD intV "" ws]
      · have hg2 := e2 _ _ hg
        have eT : EvT (tAnd (tTest (tOp rEq (tOp (rIxL K) (tVar 2) (tC (.int 0))) (tVar 1))) (tTest (tOp (rIn K true) (tC .non) (tVar 3)))) [some (.str ln), some (.str h), some (.ref g), some (.ref r), none] H2 (decide (V.str x = V.str h) && (!inV .non (ws.map intV))) :=
          et_and (et_test (ev_op (ev_op (ev_var rfl) ev_c (rv_ixL (sq_of hg2) (at_nat (i := 0) (by simp) rfl))) (ev_var rfl) (rv_eq rfl))) fun _ => et_test (ev_op ev_c (ev_var rfl) (rv_niL (sq_of hr2) rfl (intV_flat ws)))
        rw [intV_non] at eT
        refine eT H2 (Ex.refl _) _ fun H3 e3 => ?_
        by_cases c1 : x = h
        · rw [if_pos c1] at row
          by_cases c2 : (ws.all fun z => !badW z) = true
          · have b : (decide (V.str x = V.str h) && ws.all fun z => !badW z) = true := by rw [c1, c2, decide_eq_true rfl]; rfl
            refine iteT' b (ev_var rfl H3 (Ex.refl _) _ fun H4 e4 => q (.ref r) H4 ((e1.trans e2).trans (e3.trans e4)) ?_ fun q' hq => ?_)
            · rw [row]
              unfold numsW
              rw [if_pos c2]
              refine ⟨r, rfl, ?_⟩
              rw [e4 _ _ (e3 _ _ hr2), intV_good c2]
            · cases hq
              exact fresh_back e1 nr
          · have b : (decide (V.str x = V.str h) && ws.all fun z => !badW z) = false := by
              rw [Bool.eq_false_iff.mpr c2, Bool.and_false]
            refine iteF' b (ev_c H3 (Ex.refl _) _ fun H4 e4 => q .non H4 ((e1.trans e2).trans (e3.trans e4)) ?_ fun q' hq => nomatch hq)
            rw [row]
            unfold numsW
            rw [if_neg c2]
            rfl
        · have b : (decide (V.str x = V.str h) && ws.all fun z => !badW z) = false := by
            rw [decide_eq_false (fun e => c1 (by simpa using e)), Bool.false_and]
          refine iteF' b (ev_c H3 (Ex.refl _) _ fun H4 e4 => q .non H4 ((e1.trans e2).trans (e3.trans e4)) ?_ fun q' hq => nomatch hq)
          rw [row, if_neg c1]
          rfl
end
end Sea

set_option Elab.async false
set_option linter.all false
set_option maxRecDepth 100000
set_option maxHeartbeats 4000000
namespace Sea
open PySem PySem.Spec PyProof.Rows L2 LamX NdefX ClX Evl StX
structure TDn (K : PySem.W.Frag) (mg : Str → Option Value) (fD : Addr) (fdD : FuncData) : Prop where
  g : mg "_law_drawn" = some (.ref fD)
  kp : PySem.W.keepIn K (.ref fD) = true
  fu : Fun K "_law_drawn" "_law_drawn" sDrawn fD fdD
  mN : mg "len" = none
theorem TDn.b {K : PySem.W.Frag} {mg : Str → Option Value} {fD : Addr} {fdD : FuncData} (T : TDn K mg fD fdD) : Binds K fdD ["_law_state", "_law_count"] [] := T.fu.binds (ps := ["_law_state", "_law_count"]) fun _ _ _ _ _ _ us hl => match us, hl with | [_, _], _ => rfl
section
variable {X : Cx} {a b : Expr} {ta tb : TE} {p pos : Pos} {fD : Addr} {fdD : FuncData}
/-- _law_drawn(a, b) -/
theorem pe_dr {K : PySem.W.Frag} (T : TDn K X.mg fD fdD) (hr : Room 1 X.A) (hg : Gl X "_law_drawn") (ha : PE X a ta) (hb : PE X b tb) (he : starEach (a :: [b]) X.env = (false, eval a X.env) :: starEach [b] X.env := by rfl) (he2 : starEach (b :: []) X.env = (false, eval b X.env) :: starEach [] X.env := by rfl) (hpl : (backTo pos (starEach [b] X.env)).any (·.1) = false := by rfl) (hK : X.K = K := by rfl) :
    PE X (.Call (.Name "_law_drawn" p) [a, b] [] pos) (tCall (spDrawn K) [] E0 (tCons ta (tCons tb tNil))) := by
  subst hK
  exact pe_call (ok_drawn (k := 0) T.fu T.mN) hr hg T.g T.kp T.b .nil pass0 (pa_cons ha (pa_cons hb pa_nil he2) he) (by decide) he hpl
end
/-! ### expressions that draw -/
def EvS (K : PySem.W.Frag) (te : TE) (σ : L2.St) (H : Hp) (h c : Addr) (P : Int → Prop) : Prop := ∀ H1, Kh h H H1 → Ds K H1 h c → ∀ Q : VK, (∀ v H2, P v → Ds K H2 h c → Kh h H1 H2 → Q (.int v) H2) → te σ H1 Q
section
variable {K : PySem.W.Frag} {te ta tb tl : TE} {σ : L2.St} {H : Hp} {h c : Addr} {P P1 P2 : Int → Prop}
theorem es_of {k : Int} (e : ∀ H1, Kh h H H1 → Ev te σ H1 (.int k)) : EvS K te σ H h c (fun v => v = k) := fun H1 k1 d Q q => e H1 k1 H1 (Ex.refl _) _ fun H2 e2 => q k H2 rfl (d.same e2) (Kh.same e2)
theorem es_c {k : Int} : EvS K (tC (.int k)) σ H h c (fun v => v = k) := es_of fun _ _ => ev_c
theorem es_var {i : Nat} {k : Int} (hs : σ[i]? = some (some (.int k))) : EvS K (tVar i) σ H h c (fun v => v = k) := es_of fun _ _ => ev_var hs
theorem EvS.imp (e : EvS K te σ H h c P1) (i : ∀ v, P1 v → P2 v) : EvS K te σ H h c P2 := fun H1 k1 d Q q => e H1 k1 d Q fun v H2 hv => q v H2 (i v hv)
theorem EvS.later {H' : Hp} (e : EvS K te σ H h c P) (k : Kh h H H') : EvS K te σ H' h c P := fun H1 k1 d Q q => e H1 (k.trans k1) d Q q
theorem es_add (ea : EvS K ta σ H h c P1) (eb : EvS K tb σ H h c P2) : EvS K (tOp rAd ta tb) σ H h c (fun v => ∃ x y, P1 x ∧ P2 y ∧ v = x + y) := fun H1 k1 d Q q =>
  ea H1 k1 d _ fun x H2 px d2 k2 => eb H2 (k1.trans k2) d2 _ fun y H3 py d3 k3 => ⟨x, y, rfl, rfl, q _ H3 ⟨x, y, px, py, rfl⟩ d3 (k2.trans k3)⟩
theorem es_dr {i : Nat} (hs : σ[i]? = some (some (.ref h))) (eb : EvS K tb σ H h c P1) (ok : ∀ m, P1 m → 0 < m ∧ m.natAbs.log2 < 9000 ∧ ∀ v, 0 ≤ v → v < m → P v) : EvS K (tCall (spDrawn K) [] E0 (tCons (tVar i) (tCons tb tNil))) σ H h c P := fun H1 k1 d Q q =>
  ⟨_, hs, eb H1 k1 d _ fun m H2 pm d2 k2 => ⟨h, c, m, rfl, (ok m pm).1, (ok m pm).2.1, d2, fun v H3 v0 v1 d3 k3 => q v H3 ((ok m pm).2.2 v v0 v1) d3 (k2.trans k3)⟩⟩
theorem es_pick {xs : List Int} (el : ∀ H1, EvL tl σ H1 (xs.map V.int)) (eb : EvS K tb σ H h c (fun v => 0 ≤ v ∧ v < xs.length)) : EvS K (tOp (rIxL K) tl tb) σ H h c (fun v => v ∈ xs) := fun H1 k1 d Q q =>
  el H1 H1 (Ex.refl _) _ fun p H2 np e2 hp => eb H2 (k1.trans (Kh.same e2)) (d.same e2) _ fun v H3 hv d3 k3 => by
    obtain ⟨j, rfl⟩ := Int.eq_ofNat_of_zero_le hv.1
    have hj : j < xs.length := by omega
    have at_ : (xs.map V.int)[j]? = some (.int xs[j]) := by
      rw [List.getElem?_map, List.getElem?_eq_getElem hj]
      rfl
    exact ⟨p, _, _, _, rfl, rfl, .of (k3 _ _ hp ((d.nh np))), at_nat (by rw [List.length_map]; exact hj) at_, q _ H3 (List.getElem_mem hj) d3 ((Kh.same e2).trans k3)⟩
/-- a draw below a number of a small table, itself drawn -/
theorem es_tab {i : Nat} {a b d : Int} (hs : σ[i]? = some (some (.ref h))) (el : ∀ H1, EvL tl σ H1 ([a, b, d].map V.int)) (ok : ∀ m, m = a ∨ m = b ∨ m = d → 0 < m ∧ m.natAbs.log2 < 9000 ∧ ∀ v, 0 ≤ v → v < m → P v) :
    EvS K (tCall (spDrawn K) [] E0 (tCons (tVar i) (tCons (tOp (rIxL K) tl (tCall (spDrawn K) [] E0 (tCons (tVar i) (tCons (tC (.int 3)) tNil)))) tNil))) σ H h c P :=
  es_dr hs (es_pick el (es_dr hs es_c fun m e => by
    subst e
    exact ⟨by decide, by decide +kernel, fun v v0 v1 => ⟨v0, v1⟩⟩)) fun m hm => ok m (by simpa using hm)
end
abbrev sPas : Stmt := top 29
abbrev NPa : List Str := ["_law_state", "_law_most", "_law_result", "_law_k", "_law_length"]
theorem scPas : FnScope NPa ["_law_state", "_law_most"] (defScope sPas) := ⟨rfl, rfl, rfl, by decide +kernel, rfl, by decide +kernel, by decide +kernel⟩
def spPas (K : PySem.W.Frag) : Sp := fun vs H Q _ => ∃ (h c : Addr) (m : Int), vs = [.ref h, .int m] ∧ 0 < m ∧ m ≤ 100 ∧ Ds K H h c ∧
  ∀ l vs L H', Ds K H' h c → Kh h H H' → H l = none → H' l = some (.lst vs) → PsV K H' vs L → 1 ≤ L.length → (L.length : Int) ≤ m → (∀ x ∈ L, okP x = true) → Q (.ref l) H'
section
variable {P : Program} {w : World} {K : PySem.W.Frag} {mg : Str → Option Value} {base : Heap} {fD : Addr} {fdD : FuncData}
theorem ok_pas {f : Addr} {fd : FuncData} {k : Nat} (F : Fun K "_law_passes" "_law_passes" sPas f fd) (T : TDn K mg fD fdD) (mR : mg "range" = none) : FnOk P w K mg base CX0 (k + 2) f fd ["_law_state", "_law_most"] (spPas K) := by
  refine F.ok scPas (fun vs H Q E h => ?_) (fun cdv A outer s H vs Q E hr h => ?_)
  · obtain ⟨h, c, m, rfl, _⟩ := h
    rfl
  · obtain ⟨h, c, m, rfl, m0, m1, d, q⟩ := h
    have h1 := hr.mono (show 1 ≤ k + 1 by omega)
    refine ⟨_, pss_cons (ps_set (i := 2) scPas.nd rfl (.inl rfl) (pe_lst pa_nil))
      (pss_cons (ps_for PassesOwn.never rfl (pi_range1 (by rfl) mR (pa_cons (pe_op op_add pe_int (pe_dr T h1 (by rfl) (pv 0) (pv 1))) pa_nil)) (pg_name (i := 3) scPas.nd rfl (.inl rfl))
        (pss_cons (ps_set (i := 4) scPas.nd rfl (.inl rfl) (pe_op op_add pe_int (pe_dr T h1 (by rfl) (pv 0) (pe_ixl (pe_lst (pa_cons pe_int (pa_cons pe_int (pa_cons pe_int pa_nil)))) (pe_dr T h1 (by rfl) (pv 0) pe_int)))))
        (pss_one (ps_expr (pe_bm PySem.F.plainAttrs_list PySem.F.slot_list_append PySem.F.type_list_append mt_append (pv 2) (pa_cons (pe_tup (pa_cons (pv 4) (pa_cons (pe_op op_add pe_int (pe_dr T h1 (by rfl) (pv 0) (pe_ixl (pe_lst (pa_cons pe_int (pa_cons pe_int (pa_cons (pe_op op_pow pe_int pe_int) pa_nil)))) (pe_dr T h1 (by rfl) (pv 0) pe_int)))) pa_nil))) pa_nil))))))
      (pss_one (ps_ret (pv 2)))), ?_⟩
    refine q_asgL (el_lst ea_nil (by decide)) fun l H1 nl e1 hl => ?_
    have d1 := d.same e1
    have nlh : l ≠ h := d.nh nl
    have eN : EvS K (tOp rAd (tC (.int 1)) (tCall (spDrawn K) [] E0 (tCons (tVar 0) (tCons (tVar 1) tNil)))) [some (.ref h), some (.int m), some (.ref l), none, none] H1 h c (fun v => 1 ≤ v ∧ v ≤ m) :=
      (es_add es_c (es_dr (P := fun v => 0 ≤ v ∧ v < m) rfl (es_var rfl) fun x e => by
        subst e
        exact ⟨m0, Nat.lt_of_le_of_lt (Nat.log2_le_self _) (by omega), fun v v0 v1 => ⟨v0, v1⟩⟩)).imp fun v ⟨x, y, hx, hy, e⟩ => by omega
    refine eN H1 Kh.refl d1 _ fun n H2 hn d2 k2 => ⟨n, rfl, by omega, by omega, for_range (lo := 0) (n := n.toNat) (fun i σ' H' => (∃ v3 v4 vs L, σ' = [some (.ref h), some (.int m), some (.ref l), v3, v4] ∧ H' l = some (.lst vs) ∧ PsV K H' vs L ∧ L.length = i ∧ (∀ x ∈ L, okP x = true)) ∧ Ds K H' h c ∧ Kh h H H') ?_ ?_ ?_⟩
    · exact ⟨⟨none, none, [], [], rfl, k2 _ _ hl nlh, .nil, rfl, fun x hx => nomatch hx⟩, d2, (Kh.same e1).trans k2⟩
    · rintro i σ' H' hi ⟨⟨v3, v4, vs, L, rfl, hl', hps, hL, good⟩, d', kk⟩
      have eA : EvS K (tOp rAd (tC (.int 1)) (tCall (spDrawn K) [] E0 (tCons (tVar 0) (tCons (tOp (rIxL K) (tLst (tCons (tC (.int 4)) (tCons (tC (.int 10)) (tCons (tC (.int 28)) tNil)))) (tCall (spDrawn K) [] E0 (tCons (tVar 0) (tCons (tC (.int 3)) tNil)))) tNil)))) [some (.ref h), some (.int m), some (.ref l), some (.int (0 + (i : Int))), v4] H' h c (fun v => 1 ≤ v ∧ v ≤ 28) :=
        (es_add es_c (es_tab (a := 4) (b := 10) (d := 28) (P := fun v => 0 ≤ v ∧ v < 28) rfl (fun _ => el_lst (ea_cons ev_c (ea_cons ev_c (ea_cons ev_c ea_nil))) (show 3 ≤ 100000 by decide)) fun x e => ⟨by omega, by rcases e with rfl | rfl | rfl <;> decide +kernel, fun v v0 v1 => ⟨v0, by omega⟩⟩)).imp fun v ⟨x, y, hx, hy, e⟩ => by omega
      refine eA H' Kh.refl d' _ fun ln H3 hln d3 k3 => ?_
      refine ⟨_, rfl, .inl ⟨rfl, vs, .of (k3 _ _ hl' nlh)⟩, _, rfl, ?_⟩
      have eB : EvS K (tOp rAd (tC (.int 1)) (tCall (spDrawn K) [] E0 (tCons (tVar 0) (tCons (tOp (rIxL K) (tLst (tCons (tC (.int 5)) (tCons (tC (.int 30)) (tCons (tOp rPw (tC (.int 10)) (tC (.int 6))) tNil)))) (tCall (spDrawn K) [] E0 (tCons (tVar 0) (tCons (tC (.int 3)) tNil)))) tNil)))) [some (.ref h), some (.int m), some (.ref l), some (.int (0 + (i : Int))), some (.int ln)] H3 h c (fun v => 1 ≤ v ∧ v ≤ 1000000) :=
        (es_add es_c (es_tab (a := 5) (b := 30) (d := 1000000) (P := fun v => 0 ≤ v ∧ v < 1000000) rfl (fun _ => el_lst (ea_cons ev_c (ea_cons ev_c (ea_cons (ev_pw ev_c ev_c ⟨by decide, by decide, by decide⟩) ea_nil))) (show 3 ≤ 100000 by decide)) fun x e => ⟨by omega, by rcases e with rfl | rfl | rfl <;> decide +kernel, fun v v0 v1 => ⟨v0, by omega⟩⟩)).imp fun v ⟨x, y, hx, hy, e⟩ => by omega
      refine eB H3 Kh.refl d3 _ fun pr H4 hpr d4 k4 => ⟨Nat.le_of_lt (small1000 (show 2 ≤ 1000 by decide)), fun p np => ?_⟩
      have hl4 : H4 l = some (.lst vs) := k4 _ _ (k3 _ _ hl' nlh) nlh
      have hl5 : upd H4 p (.tup [.int ln, .int pr]) l = some (.lst vs) := by
        rw [upd_ne (ne_of_none hl4 np)]
        exact hl4
      have len : vs.length = L.length := hps.len
      refine ⟨l, vs, .ref p, rfl, rfl, hl5, small1000 (by omega), ?_⟩
      have pl : p ≠ l := (ne_of_none hl4 np).symm
      have ph : p ≠ h := d4.nh np
      have k6 : TK K (upd H4 p (.tup [.int ln, .int pr])) (upd (upd H4 p (.tup [.int ln, .int pr])) l (.lst (vs ++ [.ref p]))) := .but (fun b => b = l) (fun b o e n => by rw [upd_ne n]; exact e) fun b xs z => by
        rw [z]
        exact Rd.lst_no hl5
      have kall : Kh h H (upd (upd H4 p (.tup [.int ln, .int pr])) l (.lst (vs ++ [.ref p]))) := fun b o e n => by
        rw [upd_ne (ne_of_none e nl)]
        exact same_new np _ _ (k4 _ _ (k3 _ _ (kk _ _ e n) n) n)
      refine ⟨⟨_, _, vs ++ [.ref p], L ++ [(ln, pr)], rfl, upd_same, PsV.app (((hps.tk (d'.tk (k3.trans k4))).tk (TK.new np)).tk k6) (.cons ⟨p, rfl, .of (by rw [upd_ne pl, upd_same])⟩ .nil), by rw [List.length_append, hL]; rfl, fun x hx => ?_⟩, d.put kall (d4.new np) nlh, kall⟩
      · rcases List.mem_append.mp hx with hx | hx
        · exact good x hx
        · rw [List.mem_singleton.mp hx]
          unfold okP
          rw [decide_eq_true hln.1, decide_eq_true hln.2, decide_eq_true hpr.1, decide_eq_true hpr.2]
          rfl
    · rintro σ' H' ⟨⟨v3, v4, vs, L, rfl, hl', hps, hL, good⟩, d', kk⟩
      exact ⟨_, rfl, q l vs L H' d' kk nl hl' hps (by omega) (by omega) good⟩
end
end Sea

set_option Elab.async false
set_option linter.all false
set_option maxRecDepth 100000
set_option maxHeartbeats 4000000
namespace Sea
open PySem PySem.Spec PyProof.Rows L2 LamX NdefX ClX Evl StX
abbrev sDay : Stmt := top 31
abbrev NDy : List Str := ["_law_state", "_law_length", "_law_dense", "_law_day"]
theorem scDay : FnScope NDy ["_law_state"] (defScope sDay) := ⟨rfl, rfl, rfl, by decide +kernel, rfl, by decide +kernel, by decide +kernel⟩
/-- a pair of a round's length and its travel days -/
def PtA (K : PySem.W.Frag) (H : Hp) (v : V) (ln : Int) (ds : List Int) : Prop := ∃ a d, v = .ref a ∧ SqT K H a [.int ln, d] ∧ TiA K H d ds
def spDay (K : PySem.W.Frag) : Sp := fun vs H Q _ => ∃ (h c : Addr), vs = [.ref h] ∧ Ds K H h c ∧ ∀ (v : V) (ln : Int) (ds : List Int) (H' : Hp), PtA K H' v ln ds → 1 ≤ ln → ln ≤ 14 → Good ds (ln - 1) → (ds.length : Int) ≤ ln → Ds K H' h c → Kh h H H' → Q v H'
section
variable {P : Program} {w : World} {K : PySem.W.Frag} {mg : Str → Option Value} {base : Heap} {fD : Addr} {fdD : FuncData}
theorem ok_day {f : Addr} {fd : FuncData} {k : Nat} (F : Fun K "_law_days" "_law_days" sDay f fd) (T : TDn K mg fD fdD) (mR : mg "range" = none) (mT : mg "tuple" = none) : FnOk P w K mg base CX0 (k + 2) f fd ["_law_state"] (spDay K) := by
  refine F.ok scDay (fun vs H Q E h => ?_) (fun cdv A outer s H vs Q E hr h => ?_)
  · obtain ⟨h, c, rfl, _⟩ := h
    rfl
  · obtain ⟨h, c, rfl, d, q⟩ := h
    have h1 := hr.mono (show 1 ≤ k + 1 by omega)
    have ltb : ∀ {n : Nat}, n ≤ 1000 → n ≤ sizeLine := fun h => Nat.le_of_lt (small1000 h)
    refine ⟨_, pss_cons (ps_asg (pe_tup (pa_cons (pe_op op_add pe_int (pe_dr T h1 (by rfl) (pv 0) pe_int)) (pa_cons (pe_op op_add pe_int (pe_dr T h1 (by rfl) (pv 0) pe_int)) pa_nil))) (pg_tup rfl (pgs_cons (pg_name (i := 1) scDay.nd rfl (.inl rfl)) (pgs_cons (pg_name (i := 2) scDay.nd rfl (.inr rfl)) pgs_nil))))
      (pss_one (ps_ret (pe_tup (pa_cons (pv 1) (pa_cons (pe_callTy call_tuple_of (by rfl) mT (by rfl) (pa_cons (pe_lc (own := [("_law_day", 3)]) (g := gName 3) (by rfl) scDay.nd (pi_range1 (by rfl) mR (pa_cons (pv 1) pa_nil))
        (blkOk_by (own := [("_law_day", 3)]) (N := NDy) (sc := defScope sDay) (by decide +kernel)) (fun _ _ _ _ _ => pg_name (i := 3) scDay.nd rfl (Or.inl rfl))
        (fun _ _ _ _ _ => pts_one (pt_cmpR L2.op_le (pe_dr T h1 (by rfl) (pv 0) pe_int) (pv 2) (nomark _))) (fun _ _ _ _ _ => pv 3)) pa_nil)) pa_nil))))), ?_⟩
    have one : ∀ {σ : L2.St} {H0 : Hp} {m : Int}, 0 < m → m ≤ 100 → σ[0]? = some (some (.ref h)) → EvS K (tOp rAd (tC (.int 1)) (tCall (spDrawn K) [] E0 (tCons (tVar 0) (tCons (tC (.int m)) tNil)))) σ H0 h c (fun v => 1 ≤ v ∧ v ≤ m) := fun {σ H0 m} m0 m1 hs =>
      (es_add es_c (es_dr (P := fun v => 0 ≤ v ∧ v < m) hs es_c fun x e => by
        subst e
        exact ⟨m0, Nat.lt_of_le_of_lt (Nat.log2_le_self _) (by omega), fun v v0 v1 => ⟨v0, v1⟩⟩)).imp fun v ⟨x, y, hx, hy, e⟩ => by omega
    refine one (m := 14) (by decide) (by decide) rfl H Kh.refl d _ fun ln H1 hl d1 k1 => one (m := 4) (by decide) (by decide) rfl H1 Kh.refl d1 _ fun de H2' hd d2' k2' => ⟨ltb (show 2 ≤ 1000 by decide), fun tp ntp => ⟨tp, _, rfl, .of upd_same, rfl, _, _, rfl, _, _, rfl, rfl, ?_⟩⟩
    generalize hH2 : upd H2' tp (.tup [.int ln, .int de]) = H2
    have d2 : Ds K H2 h c := hH2 ▸ d2'.new ntp
    have k2 : Kh h H1 H2 := hH2 ▸ k2'.trans (Kh.same (same_new ntp))
    refine ⟨_, rfl, _, rfl, ln, rfl, by omega, by omega, fun D nD => ?_⟩
    have n1 := d2.nh nD
    refine lc_range (lo := 0) (n := ln.toNat) (fun i H' => ∃ ds : List Int, Ds K H' h c ∧ Kh h H2 H' ∧ H' D = some (.lst (ds.map V.int)) ∧ Good ds ((i : Nat) - 1) ∧ ds.length ≤ i) ⟨[], d2.new nD, Kh.same (same_new nD), upd_same, fun j hj => absurd hj (Nat.not_lt_zero _), Nat.le_refl _⟩ ?_ ?_
    · rintro i H' hi ⟨ds, d3, k3, hD, hg, hlen⟩
      refine ⟨rfl, _, rfl, h, c, 5, rfl, by decide, by decide +kernel, d3, fun y H4 y0 y1 d4 k4 => ⟨_, rfl, _, _, rfl, rfl, _, rfl, ?_⟩⟩
      have hD4 := k4 _ _ hD n1
      refine ite2 (fun _ => ?_) (fun _ => ⟨ds, d4, k3.trans k4, hD4, hg.mono (by omega), by omega⟩)
      have kall : ∀ o, Kh h H2 (upd H4 D o) := fun _ b o e n => by
        rw [upd_ne (ne_of_none e nD)]
        exact (k3.trans k4) b o e n
      refine ⟨_, rfl, _, hD4, by rw [List.length_map]; exact small1000 (by omega), ds ++ [((i : Nat) : Int)], d2.put (kall _) d4 n1, kall _, ?_, ?_, ?_⟩
      · rw [upd_same, List.map_append, Int.zero_add]
        rfl
      · rw [show (((i + 1 : Nat) : Int)) - 1 = (i : Int) by omega]
        exact hg.snoc (by omega)
      · rw [List.length_append, List.length_singleton]
        omega
    · rintro H' ⟨ds, d3, k3, hD, hg, hlen⟩
      refine ⟨D, _, rfl, .inl ⟨.of hD, fun l nl => ⟨ltb (show 2 ≤ 1000 by decide), fun r nr => ?_⟩⟩⟩
      have nlr : l ≠ r := fun z => by
        rw [← z, upd_same] at nr
        cases nr
      refine q _ ln ds _ ⟨r, .ref l, rfl, .of upd_same, l, rfl, .of ?_⟩ (by omega) (by omega) (hg.mono (by omega)) (by omega) ((d3.new nl).new nr) ((((k1.trans k2).trans k3).trans (Kh.same (same_new nl))).trans (Kh.same (same_new nr)))
      rw [upd_ne nlr, upd_same]
end
end Sea

set_option Elab.async false
set_option linter.all false
set_option maxRecDepth 100000
set_option maxHeartbeats 4000000
namespace Sea
open PySem PySem.Spec PyProof.Rows L2 LamX NdefX ClX Evl StX
abbrev sTar : Stmt := top 30
theorem scTar : FnScope ["_law_passes_here"] ["_law_passes_here"] (defScope sTar) := ⟨rfl, rfl, rfl, by decide +kernel, rfl, by decide +kernel, by decide +kernel⟩
theorem bad_ok {L : List (Int × Int)} (h1 : 1 ≤ L.length) (h2 : L.length ≤ 6) (h : ∀ x ∈ L, okP x = true) : bad L = none := by
  unfold bad
  rw [if_neg fun e => by rw [e] at h1; cases h1]
  refine fb_all L 0 fun j x hx => ?_
  have hj := (List.getElem?_eq_some_iff.mp hx).1
  unfold badI
  rw [h x (List.mem_of_getElem? hx), dec_int, beq_eq_false_iff_ne.mpr (by omega)]
  rfl
def spTar (K : PySem.W.Frag) (C : Addr) : Sp := fun vs H Q _ => ∃ (l : Addr) (ws : List V) (L : List (Int × Int)), vs = [.ref l] ∧ H l = some (.lst ws) ∧ PsV K H ws L ∧ 1 ≤ L.length ∧ L.length ≤ 3 ∧ (∀ x ∈ L, okP x = true) ∧
  ∀ a p H', Same H H' → H a = none → Tar K C H' a p L → Q (.ref a) H'
section
variable {P : Program} {w : World} {K : PySem.W.Frag} {mg : Str → Option Value} {base : Heap} {C cI cU cP fI fT : Addr} {mc mp : Value} {fdI fdT : FuncData}
theorem ok_tar {f : Addr} {fd : FuncData} (F : Fun K "_law_tariff" "_law_tariff" sTar f fd) (X1 : TX K mg C cI cU cP fI mc mp) (I : TMk K C fI fT fdI fdT) : FnOk P w K mg base (L2.CX P w) 6 f fd ["_law_passes_here"] (spTar K C) := by
  refine F.okX scTar (fun vs H Q E h => ?_) (fun cdv A outer s H vs Q E hr h => ?_)
  · obtain ⟨l, ws, L, rfl, _⟩ := h
    rfl
  · obtain ⟨l, ws, L, rfl, hl, hps, l1, l3, good, q⟩ := h
    have PX : Passes (L2.CX P w) (cxOf (L2.CX P w) P w K mg base ["_law_passes_here"] "_law_tariff" (defScope sTar) f cdv A outer s H E) E := passes_call (takes_of rfl rfl rfl rfl) (fun _ _ _ _ h => h)
    refine ⟨_, pss_cons (ps_if (pt_cmpR op_eq (pe_callB call_len_seq (by rfl) X1.mN PySem.boot_len (pa_cons (pv 0) pa_nil)) pe_int (nomark _)) (pss_one (ps_ret (pe_tar X1 I hr PX (by rfl) (pa_cons (pe_ixl (pv 0) pe_int) pa_nil)))) pss_nil)
      (pss_cons (ps_if (pt_cmpR op_eq (pe_callB call_len_seq (by rfl) X1.mN PySem.boot_len (pa_cons (pv 0) pa_nil)) pe_int (nomark _)) (pss_one (ps_ret (pe_tar X1 I hr PX (by rfl) (pa_cons (pe_ixl (pv 0) pe_int) (pa_cons (pe_ixl (pv 0) pe_int) pa_nil))))) pss_nil)
      (pss_one (ps_ret (pe_tar X1 I hr PX (by rfl) (pa_cons (pe_ixl (pv 0) pe_int) (pa_cons (pe_ixl (pv 0) pe_int) (pa_cons (pe_ixl (pv 0) pe_int) pa_nil))))))), ?_⟩
    have hb : bad L = none := bad_ok l1 (by omega) good
    have fin : ∀ H' : Hp, Ex H H' → spMk K C cI ws H' Q E := fun _ e => ⟨L, hps.tk (.same e), by omega, fun _ a p H2 sm na t => q a p H2 (Same.trans e sm) (fresh_back e na) t, fun i d H2 hb2 => by rw [hb] at hb2; cases hb2⟩
    have hlen := hps.len
    have eT : ∀ (H' : Hp) (n : Nat), Ex H H' → EvT (tTest (tOp rEq (tCB (rLenS K) (tCons (tVar 0) tNil)) (tC (.int (n : Int))))) [some (.ref l)] H' (decide (V.int (ws.length : Nat) = V.int (n : Int))) := fun _ n e => et_test (ev_op (ev_len (ev_var rfl) (sq_of (e _ _ hl))) ev_c (rv_eq rfl))
    match ws, hl, hlen, fin, eT with
    | [x], hl, hlen, fin, eT =>
      refine q_when (b := decide (V.int (1 : Nat) = V.int 1)) (eT _ 1 (Ex.refl _)) (fun _ H1 e1 => ?_) (fun h => by simp at h)
      exact ⟨_, rfl, l, _, 0, x, rfl, rfl, sq_of (e1 _ _ hl), rfl, fin _ e1⟩
    | [x, y], hl, hlen, fin, eT =>
      refine q_when (b := decide (V.int (2 : Nat) = V.int 1)) (eT _ 1 (Ex.refl _)) (fun h => by simp at h) (fun _ H1 e1 => ?_)
      refine q_when (b := decide (V.int (2 : Nat) = V.int 2)) (eT _ 2 e1) (fun _ H2 e2 => ?_) (fun h => by simp at h)
      exact ⟨_, rfl, l, _, 0, x, rfl, rfl, sq_of (e2 _ _ (e1 _ _ hl)), rfl, _, rfl, l, _, 1, y, rfl, rfl, sq_of (e2 _ _ (e1 _ _ hl)), rfl, fin _ (e1.trans e2)⟩
    | [x, y, z], hl, hlen, fin, eT =>
      refine q_when (b := decide (V.int (3 : Nat) = V.int 1)) (eT _ 1 (Ex.refl _)) (fun h => by simp at h) (fun _ H1 e1 => ?_)
      refine q_when (b := decide (V.int (3 : Nat) = V.int 2)) (eT _ 2 e1) (fun h => by simp at h) (fun _ H2 e2 => ?_)
      have h2 := sq_of (K := K) (e2 _ _ (e1 _ _ hl))
      exact ⟨_, rfl, l, _, 0, x, rfl, rfl, h2, rfl, _, rfl, l, _, 1, y, rfl, rfl, h2, rfl, _, rfl, l, _, 2, z, rfl, rfl, h2, rfl, fin _ (e1.trans e2)⟩
    | [], hl, hlen, _, _ => rw [← hlen] at l1; cases l1
    | _ :: _ :: _ :: _ :: _, hl, hlen, _, _ => simp at hlen; omega
end
end Sea

set_option Elab.async false
set_option linter.all false
set_option maxRecDepth 100000
set_option maxHeartbeats 4000000
namespace Sea
open PySem PySem.Spec PyProof.Rows L2 LamX NdefX ClX Evl StX
abbrev sPar : Stmt := top 37
theorem scPar : FnScope ["_law_value"] ["_law_value"] (defScope sPar) := ⟨rfl, rfl, rfl, by decide +kernel, rfl, by decide +kernel, by decide +kernel⟩
/-- what isinstance asks of a class of the package -/
structure Kin (K : PySem.W.Frag) (C : Addr) : Prop where
  cl : Cls K C
  ha : PySem.W.findIn K (.ref C) "__class__" = some (some (.builtin "object.__class__"))
  hn : PySem.W.specialIn K (.builtin "object.__class__") "__get__" = some (some (.builtin "getset_descriptor.__get__"))
  ht : PySem.W.takesIn K (.builtin "object.__class__") = some true
  hm : PySem.W.mroIn K C (.type "object") = some true
theorem Kin.ty {K : PySem.W.Frag} {C : Addr} (k : Kin K C) {H : Hp} {a dx : Addr} {fs : List (Str × V)} (e : H a = some (.ins C dx fs)) : TyX K H (.ref a) (.ref C) := .base (.ins e k.cl k.ha k.hn k.ht k.hm)
theorem ev_isC {K : PySem.W.Frag} {σ : L2.St} {H : Hp} {i : Nat} {x : V} {t : Value} {C : Addr} {b : Bool} (hs : σ[i]? = some (some x)) (ty : ∀ H1, Ex H H1 → TyX K H1 x t) (h : PySem.W.kitOne K t (.ref C) = some b) : Ev (tCB (rIsi K) (tCons (tVar i) (tCons (tC (.ref C)) tNil))) σ H (.bl b) :=
  fun H1 e Q q => ⟨_, hs, x, .ref C, t, .ref C, b, rfl, .own C, ty H1 e, h, q H1 (Ex.refl _)⟩
structure TPa (K : PySem.W.Frag) (mg : Str → Option Value) (CT CV : Addr) : Prop where
  kT : Kin K CT
  kV : Kin K CV
  mI : mg "isinstance" = none
  mT : mg "tuple" = none
  gC : mg "Tariff" = some (.ref CT)
  tt : PySem.W.kitOne K (.ref CT) (.type "tuple") = some false
  vt : PySem.W.kitOne K (.ref CV) (.type "tuple") = some false
  uT : PySem.W.kitOne K (.type "tuple") (.type "tuple") = some true
  tT : PySem.W.kitOne K (.ref CT) (.ref CT) = some true
  vT : PySem.W.kitOne K (.ref CV) (.ref CT) = some false
def spPar (K : PySem.W.Frag) (CT CV : Addr) : Sp := fun vs H Q _ => ∃ x : V, vs = [x] ∧ ((∃ a xs, x = .ref a ∧ SqT K H a xs ∧ ∀ H', Same H H' → Q (.ref a) H') ∨
  (∃ a p L, x = .ref a ∧ Tar K CT H a p L ∧ ∀ r H', Same H H' → H' r = some (.lst [.ref p]) → Q (.ref r) H') ∨
  (∃ (a : Addr) (ln : Int) (d o : V) (ds os : List Int), x = .ref a ∧ Tv K CV H a ln d o ds os ∧ ∀ r H', Same H H' → H' r = some (.lst [.int ln, d, o]) → Q (.ref r) H'))
section
variable {P : Program} {w : World} {K : PySem.W.Frag} {mg : Str → Option Value} {base : Heap} {CT CV cI cU cP fI fP pP fVN fRl pRl fRd pRd fEx pEx : Addr} {mc mp : Value} {fdP dVN dRl dRd dEx : FuncData}
theorem ok_par {f : Addr} {fd : FuncData} {k : Nat} (F : Fun K "_law_parts" "_law_parts" sPar f fd) (T : TPa K mg CT CV) (X1 : TX K mg CT cI cU cP fI mc mp) (TQ : TP K CT fP pP fdP) (W : TTv K mg CV fVN dVN) (R : TPr K CV fRl pRl fRd pRd fEx pEx dRl dRd dEx) :
    FnOk P w K mg base CX0 (k + 3) f fd ["_law_value"] (spPar K CT CV) := by
  refine F.ok scPar (fun vs H Q E h => ?_) (fun cdv A outer s H vs Q E hr h => ?_)
  · obtain ⟨x, rfl, _⟩ := h
    rfl
  · obtain ⟨x, rfl, h⟩ := h
    have h2 := hr.mono (show 2 ≤ k + 2 by omega)
    refine ⟨_, pss_cons (ps_if (pt_val (pe_callB call_isi (by rfl) T.mI PyProof.Rows.boot_isinstance (pa_cons (pv 0) (pa_cons (pe_bltn (v := .ty "tuple") (by rfl) T.mT (by decide +kernel) rfl) pa_nil)))) (pss_one (ps_ret (pv 0))) pss_nil)
      (pss_cons (ps_if (pt_val (pe_callB call_isi (by rfl) T.mI PyProof.Rows.boot_isinstance (pa_cons (pv 0) (pa_cons (pe_glob (v := .ref CT) (by rfl) T.gC rfl) pa_nil)))) (pss_one (ps_ret (pe_lst (pa_cons (pe_passes TQ X1.cl X1.no h2 (pv 0)) pa_nil)))) pss_nil)
      (pss_one (ps_ret (pe_lst (pa_cons (pe_rl R W h2 (pv 0)) (pa_cons (pe_rd R W h2 (pv 0)) (pa_cons (pe_ex R W h2 (pv 0)) pa_nil))))))), ?_⟩
    rcases h with ⟨a, xs, rfl, ht, q⟩ | ⟨a, p, L, rfl, ht, q⟩ | ⟨a, ln, d, o, ds, os, rfl, ht, q⟩
    · refine q_when (b := true) (et_B (ev_isi rfl (fun H1 e => tyx_tup (ex_t e ht)) T.uT)) (fun _ H1 e1 => ?_) (fun h => nomatch h)
      exact s_ret (ev_var rfl) fun H2 e2 => q H2 (e1.trans e2)
    · obtain ⟨⟨dx, ha⟩, _⟩ := ht
      refine q_when (b := false) (et_B (ev_isi rfl (fun H1 e => T.kT.ty (e _ _ ha)) T.tt)) (fun h => nomatch h) (fun _ H1 e1 => ?_)
      refine q_when (b := true) (et_B (ev_isC rfl (fun H2 e => T.kT.ty (e _ _ (e1 _ _ ha))) T.tT)) (fun _ H2 e2 => ?_) (fun h => nomatch h)
      have e0 : Ev (tProp CT (getSp CT "offers") [] E0 (tVar 0)) [some (.ref a)] H2 (.ref p) := ev_prop rfl (e2 _ _ (e1 _ _ ha)) rfl
      exact s_retL (el_lst (ea_cons e0 ea_nil) (show 1 ≤ 100000 by decide)) fun r H3 _ e3 h3 => q r H3 ((e1.trans e2).trans e3) h3
    · have ⟨⟨dx, ha⟩, _⟩ := ht
      refine q_when (b := false) (et_B (ev_isi rfl (fun H1 e => T.kV.ty (e _ _ ha)) T.vt)) (fun h => nomatch h) (fun _ H1 e1 => ?_)
      refine q_when (b := false) (et_B (ev_isC rfl (fun H2 e => T.kV.ty (e _ _ (e1 _ _ ha))) T.vT)) (fun h => nomatch h) (fun _ H2 e2 => ?_)
      have t2 := ht.same (e1.trans e2)
      have g1 : Ev (tProp CV (getSp CV "size") [] E0 (tVar 0)) [some (.ref a)] H2 (.int ln) := tv_get rfl t2 (tvF_size ln d o)
      have g2 : Ev (tProp CV (getSp CV "pattern") [] E0 (tVar 0)) [some (.ref a)] H2 d := tv_get rfl t2 (tvF_pat ln d o)
      have g3 : Ev (tProp CV (getSp CV "odd_days") [] E0 (tVar 0)) [some (.ref a)] H2 o := tv_get rfl t2 (tvF_odd ln d o)
      exact s_retL (el_lst (ea_cons g1 (ea_cons g2 (ea_cons g3 ea_nil))) (show 3 ≤ 100000 by decide)) fun r H3 _ e3 h3 => q r H3 ((e1.trans e2).trans e3) h3
end
end Sea

set_option Elab.async false
set_option linter.all false
set_option maxRecDepth 100000
set_option maxHeartbeats 4000000
namespace Sea
open PySem PySem.Spec PyProof.Rows L2 LamX NdefX ClX Evl StX
abbrev sTof : Stmt := top 34
abbrev NTo : List Str := ["_law_text", "_law_passes_here", "_law_lines", "_law_row", "_law_numbers", "_law_k"]
theorem scTof : FnScope NTo ["_law_text"] (defScope sTof) := ⟨rfl, rfl, rfl, by decide +kernel, rfl, by decide +kernel, by decide +kernel⟩
theorem q_call {ta : TA} {i : Nat} {sp : Sp} {vs dvs : List V} {E : XK} {tz : TS} {D : Ends} {σ : L2.St} {H : Hp} (hA : EvA ta σ H vs) (h : ∀ H2, Ex H H2 → sp (vs ++ dvs) H2 (fun v H3 => tz D (σ.set i (some v)) H3) E) :
    tSeq (tAsg (tCall sp dvs E ta) (gName i)) tz D σ H := hA H (Ex.refl _) _ fun H2 e2 => h H2 e2
/-- the law's own reading of a tariff's text, as data -/
def tofD (z : Str) : PyData := match badT z with
  | some i => .tuple [.str "InvalidText", .int (i : Nat)]
  | none => match bad (psL z) with
    | some i => .tuple [.str "InvalidTariff", .int (i : Nat)]
    | none => .list [psD (psL z)]
def spTof (K : PySem.W.Frag) : Sp := fun vs H Q _ => ∃ z : Str, vs = [.str z] ∧ z.length ≤ 620 ∧ PyData.strOk z = true ∧ ∀ v H', Same H H' → Dp K H' v (tofD z) → Q v H'
section
variable {P : Program} {w : World} {K : PySem.W.Frag} {mg : Str → Option Value} {base : Heap} {fIn fRe : Addr} {dIn dRe : FuncData}
theorem ok_tof {f : Addr} {fd : FuncData} {k : Nat} (F : Fun K "_law_tariff_of" "_law_tariff_of" sTof f fd) (T : TRd K mg fIn fRe dIn dRe) (mR : mg "range" = none) (mT : mg "tuple" = none) : FnOk P w K mg base CX0 (k + 3) f fd ["_law_text"] (spTof K) := by
  refine F.ok scTof (fun vs H Q E h => ?_) (fun cdv A outer s H vs Q E hr h => ?_)
  · obtain ⟨z, rfl, _⟩ := h
    rfl
  · obtain ⟨z, rfl, hz, hk, q⟩ := h
    have h2 := hr.mono (show 2 ≤ k + 2 by omega)
    refine ⟨_, pss_cut (ps_par (i := 1) (j := 2) (by rfl) scTof.nd rfl rfl (by decide) rfl rfl (pa_cons (pe_lst pa_nil) (pa_cons (pe_split (pv 0) pe_str) pa_nil)) (by rfl))
      (pss_cut (ps_for PassesOwn.never rfl (pi_range1 (by rfl) mR (pa_cons (pe_callB call_len_seq (by rfl) T.mN PySem.boot_len (pa_cons (pv 2) pa_nil)) pa_nil)) (pg_name (i := 3) scTof.nd rfl (.inl rfl))
        (pss_cons (ps_set (i := 4) scTof.nd rfl (.inl rfl) (pe_call (E := E0) (ok_read (k := 0) T) h2 (by rfl) T.gR T.kR T.bR .nil pass0 (pa_cons (pe_ixl (pv 2) (pv 3)) (pa_cons pe_str pa_nil))))
        (pss_cons (ps_if (PW.pt (pw_or (pt_cmpR op_isN (pv 4) pe_non (nomark _)) (pw_or1 (pt_cmpR op_ne (pe_callB call_len_seq (by rfl) T.mN PySem.boot_len (pa_cons (pv 4) pa_nil)) pe_int (nomark _)))))
          (pss_one (ps_ret (pe_tup (pa_cons pe_str (pa_cons (pv 3) pa_nil))))) pss_nil)
        (pss_one (ps_expr (pe_bm PySem.F.plainAttrs_list PySem.F.slot_list_append PySem.F.type_list_append mt_append (pv 1) (pa_cons (pe_callTy call_tuple_of (by rfl) mT (by rfl) (pa_cons (pv 4) pa_nil)) pa_nil)))))))
      (pss_cut (ps_for PassesOwn.never rfl (pi_range1 (by rfl) mR (pa_cons (pe_callB call_len_seq (by rfl) T.mN PySem.boot_len (pa_cons (pv 1) pa_nil)) pa_nil)) (pg_name (i := 5) scTof.nd rfl (.inl rfl))
        (pss_one (ps_if (PW.pt (pw_or (pt_cmpR op_eq (pv 5) pe_int (nomark _)) (pw_or (pt_not (pt_chain L2.op_le L2.op_le pe_int (pe_ixt (pe_ixl (pv 1) (pv 5)) pe_int) pe_int)) (pw_or1 (pt_not (pt_chain L2.op_le L2.op_le pe_int (pe_ixt (pe_ixl (pv 1) (pv 5)) pe_int) (pe_op op_pow pe_int pe_int)))))))
          (pss_one (ps_ret (pe_tup (pa_cons pe_str (pa_cons (pv 5) pa_nil))))) pss_nil)))
      (pss_one (ps_ret (pe_lst (pa_cons (pe_callTy call_tuple_of (by rfl) mT (by rfl) (pa_cons (pv 1) pa_nil)) pa_nil)))))), ?_⟩
    have many : (lns z).length ≤ z.length + 2 := PyProof.Rows.split_le z "\n"
    have some1 : 1 ≤ (lns z).length := PyProof.Rows.split_pos z "\n"
    have toD : ∀ {v : V} {H' : Hp}, Same H H' → Dp K H' v (tofD z) → Q v H' := fun s d => q _ _ s d
    let M1 : L2.St → Hp → Prop := fun σ' H' => ∃ l g, σ' = [some (.str z), some (.ref l), some (.ref g), none, none, none] ∧ Same H H' ∧ H l = none ∧ H' l = some (.lst []) ∧ g ≠ l ∧ H' g = some (.lst ((lns z).map V.str))
    let M2 : L2.St → Hp → Prop := fun σ' H' => ∃ l g v3 v4 v5 vs, σ' = [some (.str z), some (.ref l), some (.ref g), v3, v4, v5] ∧ Same H H' ∧ H' l = some (.lst vs) ∧ PsV K H' vs (psL z) ∧ badT z = none
    let M3 : L2.St → Hp → Prop := fun σ' H' => ∃ l g v3 v4 v5 vs, σ' = [some (.str z), some (.ref l), some (.ref g), v3, v4, v5] ∧ Same H H' ∧ H' l = some (.lst vs) ∧ PsV K H' vs (psL z) ∧ badT z = none ∧ bad (psL z) = none
    refine ⟨M1, ?_, fun σ1 H1 m1 => ⟨M2, ?_, fun σ2 H2 m2 => ⟨M3, ?_, fun σ3 H3 m3 => ?_⟩⟩⟩
    · unfold tPar tCons
      refine el_lst ea_nil (by decide) H (Ex.refl _) _ fun l H1 nl e1 hl => ?_
      refine el_split (ev_var rfl) ev_c (by decide +kernel) (by omega) H1 (Ex.refl _) _ fun g H2 ng e2 hg => ?_
      exact ⟨_, _, rfl, l, g, rfl, Same.trans e1 e2, nl, e2 _ _ hl, (ne_of_none hl ng).symm, hg⟩
    · obtain ⟨l, g, rfl, sm', nl, hl, ngl, hg⟩ := m1
      have plen : (psL z).length = (lns z).length := List.length_map ..
      refine s_forR1 (n := (((lns z).map V.str).length : Nat)) (ea_cons (ev_len (ev_var rfl) (sq_of hg)) ea_nil) ⟨by omega, by rw [List.length_map]; omega⟩ (fun i σ' H' => (∃ v3 v4 vs, σ' = [some (.str z), some (.ref l), some (.ref g), v3, v4, none] ∧ H' l = some (.lst vs) ∧ PsV K H' vs ((psL z).take i) ∧ vs.length = i) ∧
        (∀ b o, H1 b = some o → b ≠ l → H' b = some o) ∧ ∀ j, j < i → (prRow ((lns z).getD j "")).isNone = false)
        (fun H3 e3 => ⟨⟨none, none, [], rfl, e3 _ _ hl, .nil, rfl⟩, fun b o e _ => e3 _ _ e, fun j hj => absurd hj (Nat.not_lt_zero _)⟩) ?_ ?_
      · rintro i σ' H' hi ⟨⟨v3, v4, vs, rfl, hl', hps, hv⟩, keep, good⟩
        rw [List.length_map] at hi
        have hi : i < (lns z).length := by omega
        have hln : (lns z)[i]? = some (lns z)[i] := List.getElem?_eq_getElem hi
        generalize (lns z)[i] = ln at hln
        have mem := List.mem_of_getElem? hln
        have lnl : ln.length ≤ 620 := Nat.le_trans (PyProof.Rows.part_short mem) hz
        have gln : (lns z).getD i "" = ln := by rw [List.getD_eq_getElem?_getD, hln]; rfl
        have hg' : H' g = some (.lst ((lns z).map V.str)) := keep _ _ hg ngl
        have up : Same H H' := fun b o e => keep b o (sm' _ _ e) (ne_of_none e nl)
        refine q_call (vs := [.str ln, .str "pass"]) (ea_cons (ev_op (ev_var rfl) (ev_var rfl) (rv_ixL (K := K) (sq_of hg') (at_nat (by rw [List.length_map]; exact hi) (by rw [List.getElem?_map, hln]; rfl)))) (ea_cons ev_c ea_nil)) fun H3 e3 => ⟨ln, "pass", rfl, lnl, part_ok hk mem, fun v H4 s4 hv4 _ => ?_⟩
        have sT : Same H' H4 := Same.trans e3 s4
        have lost : ∀ {H5 : Hp}, Ex H4 H5 → (prRow ln).isNone = true → tRet (tTup (tCons (tC (.str "InvalidText")) (tCons (tVar 3) tNil))) { nx := M2, rt := Q } [some (.str z), some (.ref l), some (.ref g), some (.int (i : Int)), some v, none] H5 := fun e5 hb =>
          s_retU (eu_tup (ea_cons ev_c (ea_cons (ev_var rfl) ea_nil)) (show 2 ≤ 100000 by decide)) fun r H6 _ e6 h6 => toD (((up.trans sT).trans e5).trans e6) (by
            unfold tofD
            rw [show badT z = some i from first_at (by rw [gln]; exact hb) good hi]
            exact .tup (.of h6) (.cons (.str _) (.cons (.int _) .nil)))
        cases ho : rowW "pass" ln with
        | none =>
          rw [ho] at hv4
          obtain rfl : v = .non := hv4
          refine q_when (b := true) (et_is (et_or (a := true) (b := false) (et_is (et_isV rfl) (decide_eq_true rfl)) (fun h => nomatch h)) rfl) (fun _ H5 e5 => ?_) (fun h => nomatch h)
          exact lost e5 (by unfold prRow; rw [ho]; rfl)
        | some ns =>
          rw [ho] at hv4
          obtain ⟨p, rfl, hp⟩ := hv4
          have ep : (prRow ln).isNone = !decide (V.int ((ns.map V.int).length : Nat) = V.int 2) := by
            unfold prRow
            rw [ho, dec_int, List.length_map]
            match ns with
            | [] => rfl
            | [_] => rfl
            | [_, _] => rfl
            | _ :: _ :: _ :: r =>
              have : ((((r.length + 1 + 1 + 1 : Nat) : Int)) == 2) = false := by
                rw [beq_eq_false_iff_ne]
                omega
              show true = !((((r.length + 1 + 1 + 1 : Nat) : Int)) == 2)
              rw [this]
              rfl
          refine q_when (b := (prRow ln).isNone) (et_is (et_or (a := false) (et_is (et_isV rfl) (by simp)) (fun _ => et_test (ev_op (ev_len (ev_var rfl) (sq_of hp)) ev_c (rv_ne rfl)))) (by rw [ep]; rfl)) (fun hb H5 e5 => lost e5 hb) (fun hb H5 e5 => ?_)
          obtain ⟨l0, p0, hpr, hns⟩ : ∃ l0 p0, prRow ln = some (l0, p0) ∧ ns = [l0, p0] := by
            revert hb
            unfold prRow
            rw [ho]
            split
            · rename_i a b h
              cases h
              exact fun _ => ⟨a, b, rfl, rfl⟩
            · exact fun h => nomatch h
          have hl5 : H5 l = some (.lst vs) := e5 _ _ (sT _ _ hl')
          refine s_appU hl5 (ev_var rfl) (eu_tupL (ev_var rfl) (e5 _ _ hp)) (by omega) fun p3 H6 np3 e6 h6 => ?_
          have s6 : Same H' H6 := (sT.trans e5).trans e6
          have p3l : p3 ≠ l := (ne_of_none hl5 np3).symm
          have hl6 : H6 l = some (.lst vs) := s6 _ _ hl'
          have k7 : TK K H6 (upd H6 l (.lst (vs ++ [.ref p3]))) := .but (fun b => b = l) (fun b o e n => by rw [upd_ne n]; exact e) fun b xs z => by
            rw [z]
            exact Rd.lst_no hl6
          refine ⟨⟨_, _, vs ++ [.ref p3], rfl, upd_same, ?_, by rw [List.length_append, hv]; rfl⟩, fun b o e n => ?_, fun j hj => ?_⟩
          · rw [take_snoc (x := (l0, p0)) (by
              unfold psL
              rw [List.getElem?_map, hln, Option.map_some, hpr]
              rfl)]
            refine PsV.app ((hps.tk (.same s6)).tk k7) (.cons ⟨p3, rfl, .of ?_⟩ .nil)
            rw [upd_ne p3l, h6, hns]
            rfl
          · rw [upd_ne n]
            exact s6 _ _ (keep b o e n)
          · rcases Nat.lt_succ_iff_lt_or_eq.mp hj with h | rfl
            · exact good j h
            · rw [gln]
              exact hb
      · rintro σ' H' ⟨⟨v3, v4, vs, rfl, hl', hps, hv⟩, keep, good⟩
        have e : ((((lns z).map V.str).length : Nat) : Int).toNat = (lns z).length := by rw [List.length_map]; rfl
        rw [e] at hps hv
        have good : ∀ j, j < (lns z).length → (prRow ((lns z).getD j "")).isNone = false := fun j hj => good j (by rw [e]; exact hj)
        rw [← plen, List.take_length] at hps
        exact ⟨l, g, v3, v4, none, vs, rfl, fun b o x => keep b o (sm' _ _ x) (ne_of_none x nl), hl', hps, first_none good⟩
    · obtain ⟨l, g, v3, v4, v5, vs, rfl, sm', hl, hps, nb⟩ := m2
      have plen : (psL z).length = (lns z).length := List.length_map ..
      have vlen := hps.len
      refine s_forR1 (n := ((vs.length : Nat) : Int)) (ea_cons (ev_len (ev_var rfl) (sq_of hl)) ea_nil) ⟨by omega, by omega⟩ (fun i σ' H' => ∃ v5, σ' = [some (.str z), some (.ref l), some (.ref g), v3, v4, v5] ∧ Ex H2 H' ∧ ∀ j x, j < i → (psL z)[j]? = some x → badI j x = false) (fun H3 e3 => ⟨v5, rfl, e3, fun j x hj => absurd hj (Nat.not_lt_zero _)⟩) ?_ ?_
      · rintro i σ' H' hi ⟨v5, rfl, e3, good⟩
        have hi : i < vs.length := by omega
        obtain ⟨⟨x1, x2⟩, hx, b, hvb, hb⟩ := hps.get (List.getElem?_eq_getElem hi)
        have hv : vs[i]? = some (.ref b) := by rw [List.getElem?_eq_getElem hi, hvb]
        have hb3 := ex_t e3 hb
        have hl3 := sq_of (K := K) (e3 _ _ hl)
        have e1 : ∀ {H4}, Ex H' H4 → Ev (tOp (rIxT K) (tOp (rIxL K) (tVar 1) (tVar 5)) (tC (.int 0))) [some (.str z), some (.ref l), some (.ref g), v3, v4, some (.int (i : Int))] H4 (.int x1) := fun e => ev_op (ev_op (ev_var rfl) (ev_var rfl) (rv_ixL (ex_l e hl3) (at_nat hi hv))) ev_c (rv_ixT (ex_t e hb3) rfl)
        have e2 : ∀ {H4}, Ex H' H4 → Ev (tOp (rIxT K) (tOp (rIxL K) (tVar 1) (tVar 5)) (tC (.int 1))) [some (.str z), some (.ref l), some (.ref g), v3, v4, some (.int (i : Int))] H4 (.int x2) := fun e => ev_op (ev_op (ev_var rfl) (ev_var rfl) (rv_ixL (ex_l e hl3) (at_nat hi hv))) ev_c (rv_ixT (ex_t e hb3) rfl)
        show tIfS _ _ _ _ [some (.str z), some (.ref l), some (.ref g), v3, v4, some (.int (i : Int))] H'
        refine s_when (b := badI i (x1, x2)) (et_is (et_or (et_test (ev_op (ev_var rfl) ev_c (rv_eq rfl))) (fun _ => et_or (et_not (et_test (ev_chainI (p := fun i j => decide (i ≤ j)) (q := fun i j => decide (i ≤ j)) ev_c (e1 (Ex.refl _)) ev_c)))
          (fun _ => et_not (et_test (ev_chainI (p := fun i j => decide (i ≤ j)) (q := fun i j => decide (i ≤ j)) ev_c (e2 (Ex.refl _)) (ev_pw ev_c ev_c ⟨by decide, by decide, by decide⟩)))))) ?_) (fun hb1 H4 e4 => ?_) (fun hb1 H4 e4 => ⟨_, rfl, e3.trans e4, fun j x hj hjx => ?_⟩)
        · rw [show ((10 : Int) ^ Int.toNat 6) = 1000000 from by decide]
          unfold badI okP
          dsimp only
          cases decide (V.int (i : Int) = V.int 6) <;> cases decide (1 ≤ x1) <;> cases decide (x1 ≤ 28) <;> cases decide (1 ≤ x2) <;> cases decide (x2 ≤ 1000000) <;> rfl
        · refine s_retU (eu_tup (ea_cons ev_c (ea_cons (ev_var rfl) ea_nil)) (show 2 ≤ 100000 by decide)) fun r H5 _ e5 h5 => toD (((sm'.trans e3).trans e4).trans e5) ?_
          have ne : psL z ≠ [] := fun e => by rw [e] at plen; simp at plen; omega
          have bd : bad (psL z) = some i := by
            unfold bad
            rw [if_neg ne]
            have := fb_at (psL z) 0 i (x1, x2) hx (by rw [Nat.zero_add]; exact hb1) fun j y hj hy => by rw [Nat.zero_add]; exact good j y hj hy
            rw [this, Nat.zero_add]
          unfold tofD
          rw [nb, bd]
          exact .tup (.of h5) (.cons (.str _) (.cons (.int _) .nil))
        · rcases Nat.lt_succ_iff_lt_or_eq.mp hj with h | rfl
          · exact good j x h hjx
          · rw [hx] at hjx
            cases hjx
            exact hb1
      · rintro σ' H' ⟨v5, rfl, e3, good⟩
        refine ⟨l, g, v3, v4, v5, vs, rfl, sm'.trans e3, e3 _ _ hl, hps.tk (.same e3), nb, ?_⟩
        have ne : psL z ≠ [] := fun e => by rw [e] at plen; simp at plen; omega
        unfold bad
        rw [if_neg ne]
        refine fb_all (psL z) 0 fun j x hx => ?_
        rw [Nat.zero_add]
        have hj := (List.getElem?_eq_some_iff.mp hx).1
        exact good j x (by omega) hx
    · obtain ⟨l, g, v3, v4, v5, vs, rfl, sm', hl, hps, nb, ok⟩ := m3
      have few : (psL z).length ≤ 1000 := by
        unfold psL
        rw [List.length_map]
        show (lns z).length ≤ 1000
        omega
      have eA : EvDp K (tCB (fun xs H Q => ∃ p ys, xs = [.ref p] ∧ ((SqL K H p ys ∧ ∀ l, H l = none → Q (.ref l) (upd H l (.tup ys))) ∨ (SqT K H p ys ∧ Q (.ref p) H))) (tCons (tVar 1) tNil)) [some (.str z), some (.ref l), some (.ref g), v3, v4, v5] H3 (psD (psL z)) := fun H4 e4 Q1 q1 =>
        eu_tupL (ev_var rfl) hl H4 e4 _ fun p H5 np e5 h5 => q1 (.ref p) H5 e5 (PsA.dp ⟨p, vs, rfl, .of h5, hps.tk (.same (Same.trans e4 e5))⟩)
      refine s_retD (edp_lst (eda_cons eA eda_nil) (show 1 ≤ 1000 by decide)) fun v H4 e4 dv => toD (sm'.trans e4) ?_
      unfold tofD
      rw [nb, ok]
      exact dv
end
end Sea

set_option Elab.async false
set_option linter.all false
set_option maxRecDepth 100000
set_option maxHeartbeats 4000000
namespace Sea
open PySem PySem.Spec PyProof.Rows L2 LamX NdefX ClX Evl StX
abbrev sSm : Stmt := top 27
theorem scSm : FnScope ["_law_result", "_law_expected", "_law_k"] ["_law_result", "_law_expected"] (defScope sSm) := ⟨rfl, rfl, rfl, by decide +kernel, rfl, by decide +kernel, by decide +kernel⟩
/-- whole numbers and texts in lists and tuples -/
inductive SmD : Nat → PyData → Prop
  | int (n : Nat) (i : Int) : SmD n (.int i)
  | str (n : Nat) (z : Str) : SmD n (.str z)
  | lst {n : Nat} {ds : List PyData} (h : ∀ (i : Nat) (d : PyData), ds[i]? = some d → SmD n d) (hl : ds.length ≤ 1000) : SmD (n + 1) (.list ds)
  | tup {n : Nat} {ds : List PyData} (h : ∀ (i : Nat) (d : PyData), ds[i]? = some d → SmD n d) (hl : ds.length ≤ 1000) : SmD (n + 1) (.tuple ds)
def spSm (K : PySem.W.Frag) (n : Nat) : Sp := fun vs H Q _ => ∃ (m : Nat) (x y : V) (d : PyData), m < n ∧ vs = [x, y] ∧ Dp K H x d ∧ Dp K H y d ∧ SmD m d ∧ ∀ H', Same H H' → Q (.bl true) H'
structure TSm (K : PySem.W.Frag) (mg : Str → Option Value) (fA : Addr) (fdA : FuncData) : Prop where
  g : mg "_law_same" = some (.ref fA)
  kp : PySem.W.keepIn K (.ref fA) = true
  fu : Fun K "_law_same" "_law_same" sSm fA fdA
  mI : mg "isinstance" = none
  mN : mg "len" = none
  mR : mg "range" = none
  m_list : mg "list" = none
  m_tuple : mg "tuple" = none
  m_int : mg "int" = none
  m_bool : mg "bool" = none
theorem ka_str {K : PySem.W.Frag} : PySem.W.kitAny K (.type "str") [.type "tuple", .type "list"] = some false := kitAny_cons (b := false) (kit_ty (by decide +kernel)) (fun _ => kitAny_cons (b := false) (kit_ty (by decide +kernel)) (fun _ => rfl) (fun z => by cases z)) (fun z => by cases z)
section
variable {P : Program} {w : World} {K : PySem.W.Frag} {mg : Str → Option Value} {base : Heap} {fA : Addr} {fdA : FuncData}
theorem ok_sm (T : TSm K mg fA fdA) : ∀ n, FnOk P w K mg base CX0 n fA fdA ["_law_result", "_law_expected"] (spSm K n)
  | 0 => ⟨fun vs H Q E h => by obtain ⟨m, _, _, _, hm, _⟩ := h; exact absurd hm (Nat.not_lt_zero _), by
      intros
      rename_i h
      obtain ⟨m, _, _, _, hm, _⟩ := h
      exact absurd hm (Nat.not_lt_zero _)⟩
  | n + 1 => by
    have ih := ok_sm T n
    have bA : Binds K fdA ["_law_result", "_law_expected"] [] := T.fu.binds (ps := ["_law_result", "_law_expected"]) fun _ _ _ _ _ _ us hl => match us, hl with | [_, _], _ => rfl
    refine T.fu.ok scSm (fun vs H Q E h => ?_) (fun cdv A outer s H vs Q E hr h => ?_)
    · obtain ⟨m, x, y, d, hm, rfl, _⟩ := h
      rfl
    · obtain ⟨m, x, y, d, hm, rfl, h1, h2, hd, q⟩ := h
      have hu := hr.units
      refine ⟨_, pss_cons (ps_if (pt_val (pe_callB call_isiT (by rfl) T.mI PyProof.Rows.boot_isinstance (pa_cons (pv 1) (pa_cons (pe_tup (pa_cons (pe_bltn (v := .ty "tuple") (by rfl) T.m_tuple (by decide +kernel) rfl) (pa_cons (pe_bltn (v := .ty "list") (by rfl) T.m_list (by decide +kernel) rfl) pa_nil))) pa_nil)))) (pss_cons (ps_if (PW.pt (pw_or (pt_not (pt_val (pe_callB call_isiT (by rfl) T.mI PyProof.Rows.boot_isinstance (pa_cons (pv 0) (pa_cons (pe_tup (pa_cons (pe_bltn (v := .ty "tuple") (by rfl) T.m_tuple (by decide +kernel) rfl) (pa_cons (pe_bltn (v := .ty "list") (by rfl) T.m_list (by decide +kernel) rfl) pa_nil))) pa_nil))))) (pw_or1 (pt_cmpR op_ne (pe_callB call_isi (by rfl) T.mI PyProof.Rows.boot_isinstance (pa_cons (pv 0) (pa_cons (pe_bltn (v := .ty "list") (by rfl) T.m_list (by decide +kernel) rfl) pa_nil))) (pe_callB call_isi (by rfl) T.mI PyProof.Rows.boot_isinstance (pa_cons (pv 1) (pa_cons (pe_bltn (v := .ty "list") (by rfl) T.m_list (by decide +kernel) rfl) pa_nil))) (nomark _))))) pss_never pss_nil)
        (pss_cons (ps_if (pt_cmpR op_ne (pe_callB call_len_seq (by rfl) T.mN PySem.boot_len (pa_cons (pv 0) pa_nil)) (pe_callB call_len_seq (by rfl) T.mN PySem.boot_len (pa_cons (pv 1) pa_nil)) (nomark _)) pss_never pss_nil)
        (pss_one (ps_ret (pe_cmpR (op_eqD hu) (pe_lc (X := (cxOf CX0 P w K mg base ["_law_result", "_law_expected", "_law_k"] "_law_same" (defScope sSm) fA cdv A outer s H E).nox) (own := [("_law_k", 2)]) (g := gName 2) (by rfl) scSm.nd (pi_range1 (by rfl) T.mR (pa_cons (pe_callB call_len_seq (by rfl) T.mN PySem.boot_len (pa_cons (pv 1) pa_nil)) pa_nil))
          (blkOk_by (own := [("_law_k", 2)]) (N := ["_law_result", "_law_expected", "_law_k"]) (sc := defScope sSm) (by decide +kernel)) (fun _ _ _ _ _ => pg_name (i := 2) scSm.nd rfl (Or.inl rfl))
          (fun _ _ _ _ _ => pts_one (pt_not (pt_val (pe_call (E := E0) ih hr (by rfl) T.g T.kp bA .nil pass0 (pa_cons (pe_ixsK K rfl (pv 0) (pv 2)) (pa_cons (pe_ixsK K rfl (pv 1) (pv 2)) pa_nil)))))) (fun _ _ _ _ _ => pv 2)) (pe_lst pa_nil) (nomark _)))))) pss_nil)
      (pss_cons (ps_if (pt_cmpR op_ne (pe_callB call_isi (by rfl) T.mI PyProof.Rows.boot_isinstance (pa_cons (pv 0) (pa_cons (pe_bltn (v := .ty "bool") (by rfl) T.m_bool (by decide +kernel) rfl) pa_nil))) (pe_callB call_isi (by rfl) T.mI PyProof.Rows.boot_isinstance (pa_cons (pv 1) (pa_cons (pe_bltn (v := .ty "bool") (by rfl) T.m_bool (by decide +kernel) rfl) pa_nil))) (nomark _)) pss_never pss_nil)
      (pss_one (ps_ret (pe_and (pe_cmpR op_eq (pe_callB call_isi (by rfl) T.mI PyProof.Rows.boot_isinstance (pa_cons (pv 0) (pa_cons (pe_bltn (v := .ty "int") (by rfl) T.m_int (by decide +kernel) rfl) pa_nil))) (pe_callB call_isi (by rfl) T.mI PyProof.Rows.boot_isinstance (pa_cons (pv 1) (pa_cons (pe_bltn (v := .ty "int") (by rfl) T.m_int (by decide +kernel) rfl) pa_nil))) (nomark _)) (pe_one (pe_cmpR op_eq (pv 0) (pv 1) (nomark _))))))), ?_⟩
      dsimp only
      cases hd with
      | int m i =>
        cases h1
        cases h2
        refine q_when (b := false) (et_B (ev_isiT rfl (fun H2 _ => .base (.int i)) ka_int)) (fun z => by cases z) fun _ H2 e2 => ?_
        refine q_when (b := false) (et_is (et_test (ev_op (ev_isi (b := false) rfl (fun H3 _ => .base (.int i)) (kit_ty (by decide +kernel))) (ev_isi (b := false) rfl (fun H3 _ => .base (.int i)) (kit_ty (by decide +kernel))) (rv_ne rfl))) (by decide +kernel)) (fun z => by cases z) fun _ H3 e3 => ?_
        refine s_ret (v := .bl true) (ev_is (ev_andV (ev_op (ev_isi (b := true) rfl (fun H3 _ => .base (.int i)) (kit_ty (by decide +kernel))) (ev_isi (b := true) rfl (fun H3 _ => .base (.int i)) (kit_ty (by decide +kernel))) (rv_eq rfl)) fun _ => ev_op (ev_var rfl) (ev_var rfl) (rv_eq rfl)) ?_) fun H4 e4 => q H4 ((Same.trans e2 e3).trans e4)
        simp
      | str m i =>
        cases h1
        cases h2
        refine q_when (b := false) (et_B (ev_isiT rfl (fun H2 _ => .base (.str i)) ka_str)) (fun z => by cases z) fun _ H2 e2 => ?_
        refine q_when (b := false) (et_is (et_test (ev_op (ev_isi (b := false) rfl (fun H3 _ => .base (.str i)) (kit_ty (by decide +kernel))) (ev_isi (b := false) rfl (fun H3 _ => .base (.str i)) (kit_ty (by decide +kernel))) (rv_ne rfl))) (by decide +kernel)) (fun z => by cases z) fun _ H3 e3 => ?_
        refine s_ret (v := .bl true) (ev_is (ev_andV (ev_op (ev_isi (b := false) rfl (fun H3 _ => .base (.str i)) (kit_ty (by decide +kernel))) (ev_isi (b := false) rfl (fun H3 _ => .base (.str i)) (kit_ty (by decide +kernel))) (rv_eq rfl)) fun _ => ev_op (ev_var rfl) (ev_var rfl) (rv_eq rfl)) ?_) fun H4 e4 => q H4 ((Same.trans e2 e3).trans e4)
        simp
      | @lst m ds hds hl =>
        cases h1 with
        | @lst a xs _ ha hxs =>
        cases h2 with
        | @lst b ys _ hb hys =>
        have lx := dps_len hxs
        have ly := dps_len hys
        have tx : ∀ H1, Ex H H1 → TyX K H1 (.ref a) (.type "list") := fun H1 e => tyx_lst (ex_l e ha)
        have tyy : ∀ H1, Ex H H1 → TyX K H1 (.ref b) (.type "list") := fun H1 e => tyx_lst (ex_l e hb)
        refine q_when (b := true) (et_B (ev_isiT rfl tyy ka_list)) (fun _ H2 e12 => ?_) (fun z => by cases z)
        refine q_when (b := false) (et_is (et_or (a := false) (b := false) (et_is (et_not (et_B (ev_isiT rfl (fun H3 e3 => tx H3 (e12.trans e3)) ka_list))) rfl) fun _ => et_is (et_test (ev_op (ev_isi (b := true) rfl (fun H3 e3 => tx H3 (e12.trans e3)) (kit_ty (by decide +kernel))) (ev_isi (b := true) rfl (fun H3 e3 => tyy H3 (e12.trans e3)) (kit_ty (by decide +kernel))) (rv_ne rfl))) (by decide +kernel)) rfl) (fun z => by cases z) fun _ H3 e3 => ?_
        have e13 := e12.trans e3
        refine q_when (b := false) (et_is (et_test (ev_op (ev_lenS rfl (.inl (ex_l e13 ha))) (ev_lenS rfl (.inl (ex_l e13 hb))) (rv_ne rfl))) (by rw [lx, ly]; simp)) (fun z => by cases z) fun _ H4 e4 => ?_
        have e14 := e13.trans e4
        refine s_ret (v := .bl true) (ev_is (ev_opLL (xs := []) (ys := []) ?_ (el_lst ea_nil (by decide)) (fun p r H5 hp hr5 e5 => rv_eqD (d := .list []) (e := .list []) (fun H6 e6 => .lst (.of (e6 _ _ hp)) .nil) (fun H6 e6 => .lst (.of (e6 _ _ hr5)) .nil) rfl rfl)) rfl) fun H5 e5 => q H5 (Same.trans e14 e5)
        have eL := el_lcR1 (n := ((ys.length : Nat) : Int)) (fun _ => false) (fun k => V.int (k : Nat)) (σ := L2.start ["_law_result", "_law_expected", "_law_k"] [.ref a, .ref b]) (H := H4) (j := 2) (vs := [2]) (t := tNot (tB (tCall (spSm K n) [] E0 (tCons (tOp (rIx K) (tVar 0) (tVar 2)) (tCons (tOp (rIx K) (tVar 1) (tVar 2)) tNil))))) (te := tVar 2)
          (ta := tCons (tCB (fun xs H Q => ∃ p ys, xs = [V.ref p] ∧ (SqL K H p ys ∨ SqT K H p ys) ∧ Q (.int ys.length) H) (tCons (tVar 1) tNil)) tNil) (ea_cons (ev_lenS rfl (.inl (ex_l e14 hb))) ea_nil) ⟨by omega, by omega⟩ (fun x => rfl) (fun i H5 e5 hi => ?_) (fun i H5 e5 hi _ => ev_var rfl)
        · rw [given_none] at eL
          exact eL
        · have hi2 : i < ds.length := by omega
          obtain ⟨v, d1, gv, gd, dv⟩ := dps_get hxs hi2
          obtain ⟨u, d2, gu, gd2, du⟩ := dps_get hys hi2
          obtain rfl : d1 = d2 := Option.some.inj (gd.symm.trans gd2)
          have e15 := e14.trans e5
          have av : atI xs ((i : Nat) : Int) = some v := at_nat (by rw [lx]; exact hi2) gv
          have au : atI ys ((i : Nat) : Int) = some u := at_nat (by rw [ly]; exact hi2) gu
          refine et_is (et_not (et_B (ev_call (vs := [v, u]) (z := .bl true) (ea_cons (ev_op (ev_var rfl) (ev_var rfl) (fun H6 e6 Q6 q6 => .inl (rv_ixL (ex_l e15 ha) av H6 e6 Q6 q6))) (ea_cons (ev_op (ev_var rfl) (ev_var rfl) (fun H6 e6 Q6 q6 => .inl (rv_ixL (ex_l e15 hb) au H6 e6 Q6 q6))) ea_nil)) ?_))) rfl
          exact fun H6 e6 Q6 q6 E6 => ⟨m, v, u, d1, by omega, rfl, dp_ex (e15.trans e6) dv, dp_ex (e15.trans e6) du, hds i d1 gd, fun H7 s7 => q6 H7 s7⟩
      | @tup m ds hds hl =>
        cases h1 with
        | @tup a xs _ ha hxs =>
        cases h2 with
        | @tup b ys _ hb hys =>
        have lx := dps_len hxs
        have ly := dps_len hys
        have tx : ∀ H1, Ex H H1 → TyX K H1 (.ref a) (.type "tuple") := fun H1 e => tyx_tup (ex_t e ha)
        have tyy : ∀ H1, Ex H H1 → TyX K H1 (.ref b) (.type "tuple") := fun H1 e => tyx_tup (ex_t e hb)
        refine q_when (b := true) (et_B (ev_isiT rfl tyy ka_tuple)) (fun _ H2 e12 => ?_) (fun z => by cases z)
        refine q_when (b := false) (et_is (et_or (a := false) (b := false) (et_is (et_not (et_B (ev_isiT rfl (fun H3 e3 => tx H3 (e12.trans e3)) ka_tuple))) rfl) fun _ => et_is (et_test (ev_op (ev_isi (b := false) rfl (fun H3 e3 => tx H3 (e12.trans e3)) (kit_ty (by decide +kernel))) (ev_isi (b := false) rfl (fun H3 e3 => tyy H3 (e12.trans e3)) (kit_ty (by decide +kernel))) (rv_ne rfl))) (by decide +kernel)) rfl) (fun z => by cases z) fun _ H3 e3 => ?_
        have e13 := e12.trans e3
        refine q_when (b := false) (et_is (et_test (ev_op (ev_lenS rfl (.inr (ex_t e13 ha))) (ev_lenS rfl (.inr (ex_t e13 hb))) (rv_ne rfl))) (by rw [lx, ly]; simp)) (fun z => by cases z) fun _ H4 e4 => ?_
        have e14 := e13.trans e4
        refine s_ret (v := .bl true) (ev_is (ev_opLL (xs := []) (ys := []) ?_ (el_lst ea_nil (by decide)) (fun p r H5 hp hr5 e5 => rv_eqD (d := .list []) (e := .list []) (fun H6 e6 => .lst (.of (e6 _ _ hp)) .nil) (fun H6 e6 => .lst (.of (e6 _ _ hr5)) .nil) rfl rfl)) rfl) fun H5 e5 => q H5 (Same.trans e14 e5)
        have eL := el_lcR1 (n := ((ys.length : Nat) : Int)) (fun _ => false) (fun k => V.int (k : Nat)) (σ := L2.start ["_law_result", "_law_expected", "_law_k"] [.ref a, .ref b]) (H := H4) (j := 2) (vs := [2]) (t := tNot (tB (tCall (spSm K n) [] E0 (tCons (tOp (rIx K) (tVar 0) (tVar 2)) (tCons (tOp (rIx K) (tVar 1) (tVar 2)) tNil))))) (te := tVar 2)
          (ta := tCons (tCB (fun xs H Q => ∃ p ys, xs = [V.ref p] ∧ (SqL K H p ys ∨ SqT K H p ys) ∧ Q (.int ys.length) H) (tCons (tVar 1) tNil)) tNil) (ea_cons (ev_lenS rfl (.inr (ex_t e14 hb))) ea_nil) ⟨by omega, by omega⟩ (fun x => rfl) (fun i H5 e5 hi => ?_) (fun i H5 e5 hi _ => ev_var rfl)
        · rw [given_none] at eL
          exact eL
        · have hi2 : i < ds.length := by omega
          obtain ⟨v, d1, gv, gd, dv⟩ := dps_get hxs hi2
          obtain ⟨u, d2, gu, gd2, du⟩ := dps_get hys hi2
          obtain rfl : d1 = d2 := Option.some.inj (gd.symm.trans gd2)
          have e15 := e14.trans e5
          have av : atI xs ((i : Nat) : Int) = some v := at_nat (by rw [lx]; exact hi2) gv
          have au : atI ys ((i : Nat) : Int) = some u := at_nat (by rw [ly]; exact hi2) gu
          refine et_is (et_not (et_B (ev_call (vs := [v, u]) (z := .bl true) (ea_cons (ev_op (ev_var rfl) (ev_var rfl) (fun H6 e6 Q6 q6 => .inr (.inl (rv_ixT (ex_t e15 ha) av H6 e6 Q6 q6)))) (ea_cons (ev_op (ev_var rfl) (ev_var rfl) (fun H6 e6 Q6 q6 => .inr (.inl (rv_ixT (ex_t e15 hb) au H6 e6 Q6 q6)))) ea_nil)) ?_))) rfl
          exact fun H6 e6 Q6 q6 E6 => ⟨m, v, u, d1, by omega, rfl, dp_ex (e15.trans e6) dv, dp_ex (e15.trans e6) du, hds i d1 gd, fun H7 s7 => q6 H7 s7⟩
end
end Sea

set_option Elab.async false
set_option linter.all false
set_option maxRecDepth 100000
set_option maxHeartbeats 4000000
namespace Sea
open PySem PySem.Spec PyProof.Rows L2 LamX NdefX ClX Evl StX
theorem cat_ok {a b : Str} (h1 : PyData.strOk a = true) (h2 : PyData.strOk b = true) : PyData.strOk (a ++ b) = true := by
  refine strOk_iff.mpr fun c hc => ?_
  have e : (a ++ b).cps.toList = a.cps.toList ++ b.cps.toList := TL.tl_append a b
  rw [e] at hc
  rcases List.mem_append.mp hc with hc | hc
  · exact strOk_iff.mp h1 c hc
  · exact strOk_iff.mp h2 c hc
theorem cat_len (a b : Str) : (a ++ b).length = a.length + b.length := by
  rw [TL.len_tl, TL.tl_append, List.length_append, ← TL.len_tl, ← TL.len_tl]
theorem cut_ok {z : Str} (h : PyData.strOk z = true) (lo hi : Option Int) : PyData.strOk (cutS z lo hi) = true := by
  refine strOk_iff.mpr fun c hc => strOk_iff.mp h c ?_
  have hc : c ∈ (z.cps.toList.drop (HT.sIx z.length 0 lo)).take (HT.sIx z.length z.length hi - HT.sIx z.length 0 lo) := by simpa [cutS] using hc
  exact List.mem_of_mem_drop (List.mem_of_mem_take hc)
theorem joinL_sub {S : List Nat} {c : Nat} : ∀ {L : List (List Nat)}, c ∈ TL.joinL S L → c ∈ S ∨ ∃ p ∈ L, c ∈ p
  | [], h => nomatch h
  | [q], h => .inr ⟨q, List.mem_cons_self .., h⟩
  | q :: r :: t, h => by
    have h : c ∈ q ++ (S ++ TL.joinL S (r :: t)) := h
    rcases List.mem_append.mp h with h | h
    · exact .inr ⟨q, List.mem_cons_self .., h⟩
    · rcases List.mem_append.mp h with h | h
      · exact .inl h
      · rcases joinL_sub h with h | ⟨p, hp, hc⟩
        · exact .inl h
        · exact .inr ⟨p, List.mem_cons_of_mem _ hp, hc⟩
theorem join_ok {sp : Str} {ys : List Str} (h1 : PyData.strOk sp = true) (h2 : ∀ y ∈ ys, PyData.strOk y = true) : PyData.strOk (Txt.join sp ys) = true := by
  refine strOk_iff.mpr fun c hc => ?_
  rw [TL.join_eq] at hc
  have e := TL.tl_join sp ys
  have hc : c ∈ TL.joinL (TL.tl sp) (ys.map TL.tl) := by
    rw [← e]
    exact hc
  rcases joinL_sub hc with hc | ⟨p, hp, hc⟩
  · exact strOk_iff.mp h1 c hc
  · obtain ⟨y, hy, rfl⟩ := List.mem_map.mp hp
    exact strOk_iff.mp (h2 y hy) c hc
end Sea

set_option Elab.async false
set_option linter.all false
set_option maxRecDepth 100000
set_option maxHeartbeats 4000000
namespace Sea
open PySem PySem.Spec PyProof.Rows L2 LamX NdefX ClX Evl StX
section
variable {ta tb te : TE} {tl th : TO} {σ : L2.St} {H : Hp}
theorem ev_slS {z : Str} {lo hi : Option Int} (h : Ev te σ H (.str z)) (h1 : EvO tl σ H lo) (h2 : EvO th σ H hi) (hz : z.length ≤ 100000) : Ev (tSl rSlS te tl th) σ H (.str (cutS z lo hi)) := fun H1 e Q q =>
  h H1 e _ fun H2 e2 => h1 H2 (e.trans e2) _ fun H3 e3 => h2 H3 ((e.trans e2).trans e3) _ fun H4 e4 => ⟨z, rfl, sz_of hz, q H4 ((e2.trans e3).trans e4)⟩
theorem ev_addT {x y : Str} (ha : Ev ta σ H (.str x)) (hb : Ev tb σ H (.str y)) (hl : x.length + y.length ≤ 100000) : Ev (tOp (fun x y H Q => ∃ i j, x = .str i ∧ y = .str j ∧ i.length + j.length ≤ sizeLine ∧ Q (.str (i ++ j)) H) ta tb) σ H (.str (x ++ y)) :=
  ev_op ha hb fun H1 _ Q q => ⟨x, y, rfl, rfl, sz_of hl, q H1 (Ex.refl _)⟩
/-- two lists, joined to a new one: the first by name | both new -/
theorem el_catV {l : Addr} {xs zs : List V} (ha : Ev ta σ H (.ref l)) (hx : H l = some (.lst xs)) (hb : EvL tb σ H zs) (few : xs.length + zs.length ≤ 100000) : EvL (tOp rCat ta tb) σ H (xs ++ zs) := fun H1 e Q q =>
  ha H1 e _ fun H2 e2 => hb H2 (e.trans e2) _ fun p H3 np e3 hp => ⟨l, p, xs, zs, rfl, rfl, e3 _ _ (e2 _ _ (e _ _ hx)), hp, sz_of few, fun r nr => q r _ (fresh_back (e2.trans e3) nr) ((e2.trans e3).trans (Ex.new nr)) upd_same⟩
theorem el_catN {xs zs : List V} (ha : EvL ta σ H xs) (hb : EvL tb σ H zs) (few : xs.length + zs.length ≤ 100000) : EvL (tOp rCat ta tb) σ H (xs ++ zs) := fun H1 e Q q =>
  ha H1 e _ fun l H2 _ e2 hx => hb H2 (e.trans e2) _ fun p H3 np e3 hp => ⟨l, p, xs, zs, rfl, rfl, e3 _ _ hx, hp, sz_of few, fun r nr => q r _ (fresh_back (e2.trans e3) nr) ((e2.trans e3).trans (Ex.new nr)) upd_same⟩
end
theorem cutS_to (z : Str) (a : Nat) : (cutS z none (some (a : Int))).length = min a z.length := by
  have e : cutS z none (some (a : Int)) = ⟨(cutP z.cps.toList none (some (a : Int))).toArray⟩ := rfl
  rw [e, cutP_to]
  show (List.toArray (z.cps.toList.take a)).size = min a z.cps.size
  simp
theorem cutS_from (z : Str) (a : Nat) : (cutS z (some (a : Int)) none).length = z.length - a := by
  have e : cutS z (some (a : Int)) none = ⟨(cutP z.cps.toList (some (a : Int)) none).toArray⟩ := rfl
  rw [e, cutP_from]
  show (List.toArray (z.cps.toList.drop a)).size = z.cps.size - a
  simp
/-- the signs of lines and their ends -/
def tot (L : List Str) : Nat := (L.map (·.length)).sum + L.length
theorem tot_app (L M : List Str) : tot (L ++ M) = tot L + tot M := by
  unfold tot
  rw [List.map_append, List.sum_append, List.length_append]
  omega
theorem join_tot (y : Str) (L : List Str) : (Txt.join "\n" (y :: L)).length + 1 = tot (y :: L) := by
  have a := join_len "\n" y L
  have e : ("\n" : Str).length = 1 := by decide +kernel
  rw [e] at a
  unfold tot
  rw [List.length_cons]
  omega
theorem join_le (L : List Str) : (Txt.join "\n" L).length ≤ tot L - 1 := by
  cases L with
  | nil => exact Nat.le_of_eq (by decide +kernel)
  | cons y L =>
    have := join_tot y L
    omega
theorem tot_lns (z : Str) : tot (Txt.split z "\n") = z.length + 1 := by
  have p := PyProof.Rows.split_pos z "\n"
  have j : Txt.join "\n" (Txt.split z "\n") = z := by
    have := StrLaws.join_split z "\n"
    rw [TL.join_eq]
    exact this
  cases h : Txt.split z "\n" with
  | nil => rw [h] at p; cases p
  | cons y L =>
    rw [h] at j
    rw [← join_tot, j]
abbrev chs : Str := " \n0123456789passroundyexcti-"
theorem chs_at {k : Int} (h0 : 0 ≤ k) (h1 : k < 28) : ∃ c, atI chs.cps.toList k = some c ∧ PyData.strOk ⟨#[c]⟩ = true := by
  obtain ⟨j, rfl⟩ := Int.eq_ofNat_of_zero_le h0
  have l : chs.cps.toList.length = 28 := by decide +kernel
  have hj : j < chs.cps.toList.length := by omega
  refine ⟨chs.cps.toList[j], at_nat hj (List.getElem?_eq_getElem hj), strOk_iff.mpr fun c hc => ?_⟩
  have ok : PyData.strOk chs = true := by decide +kernel
  obtain rfl : c = chs.cps.toList[j] := by simpa using hc
  exact strOk_iff.mp ok _ (List.getElem_mem hj)
/-- the six texts of a change -/
def ch4 (z : Str) (a g : Nat) : List Str := [cutS z none (some (a : Int)) ++ ⟨#[g]⟩ ++ cutS z (some (a : Int)) none, cutS z none (some (a : Int)) ++ ⟨#[g]⟩ ++ cutS z (some ((a + 1 : Nat) : Int)) none, cutS z none (some (a : Int)) ++ cutS z (some ((a + 1 : Nat) : Int)) none, z]
def ch2 (z : Str) (r : Nat) : List Str := [Txt.join "\n" ((lns z).take r ++ (lns z).drop (r + 1)), Txt.join "\n" ((lns z).take (r + 1) ++ (lns z).drop r)]
theorem ch2_tot {z : Str} {r : Nat} (h : r < (lns z).length) : tot ((lns z).take r ++ (lns z).drop (r + 1)) ≤ tot (lns z) ∧ tot ((lns z).take (r + 1) ++ (lns z).drop r) = tot (lns z) + (lns z)[r].length + 1 := by
  have e : tot ((lns z).take r) + tot ((lns z).drop r) = tot (lns z) := by rw [← tot_app, List.take_append_drop]
  have d : tot ((lns z).drop r) = (lns z)[r].length + 1 + tot ((lns z).drop (r + 1)) := by
    rw [List.drop_eq_getElem_cons h]
    unfold tot
    rw [List.map_cons, List.sum_cons, List.length_cons]
    omega
  have t : tot ((lns z).take (r + 1)) = tot ((lns z).take r) + ((lns z)[r].length + 1) := by
    rw [List.take_succ_eq_append_getElem h, tot_app]
    rfl
  rw [tot_app, tot_app]
  omega
theorem ch_good {z : Str} {a g r m : Nat} (hk : PyData.strOk z = true) (gk : PyData.strOk ⟨#[g]⟩ = true) (ha : a ≤ z.length) (hr : r < (lns z).length) (hm : ∀ y ∈ Txt.split z "\n", y.length ≤ m) : ∀ y ∈ ch4 z a g ++ ch2 z r, y.length ≤ z.length + m + 1 ∧ PyData.strOk y = true := by
  have g1 : (⟨#[g]⟩ : Str).length = 1 := rfl
  have l1 := cutS_to z a
  have l2 := cutS_from z a
  have l3 := cutS_from z (a + 1)
  have k1 := cut_ok hk none (some (a : Int))
  have k2 := cut_ok hk (some (a : Int)) none
  have k3 := cut_ok hk (some ((a + 1 : Nat) : Int)) none
  have t0 : tot (lns z) = z.length + 1 := tot_lns z
  have ⟨t1, t2⟩ := ch2_tot hr
  have rm : ((lns z)[r]).length ≤ m := hm _ (List.getElem_mem hr)
  have nk : PyData.strOk "\n" = true := by decide +kernel
  have part : ∀ y ∈ lns z, PyData.strOk y = true := fun y hy => part_ok hk hy
  intro y hy
  rcases List.mem_append.mp hy with hy | hy
  · rcases List.mem_cons.mp hy with rfl | hy
    · exact ⟨by rw [cat_len, cat_len]; omega, cat_ok (cat_ok k1 gk) k2⟩
    · rcases List.mem_cons.mp hy with rfl | hy
      · exact ⟨by rw [cat_len, cat_len]; omega, cat_ok (cat_ok k1 gk) k3⟩
      · rcases List.mem_cons.mp hy with rfl | hy
        · exact ⟨by rw [cat_len]; omega, cat_ok k1 k3⟩
        · rw [List.mem_singleton.mp hy]
          exact ⟨by omega, hk⟩
  · rcases List.mem_cons.mp hy with rfl | hy
    · refine ⟨?_, join_ok nk fun y hy => ?_⟩
      · have := join_le ((lns z).take r ++ (lns z).drop (r + 1))
        omega
      · rcases List.mem_append.mp hy with h | h
        · exact part y (List.mem_of_mem_take h)
        · exact part y (List.mem_of_mem_drop h)
    · rw [List.mem_singleton.mp hy]
      refine ⟨?_, join_ok nk fun y hy => ?_⟩
      · have := join_le ((lns z).take (r + 1) ++ (lns z).drop r)
        omega
      · rcases List.mem_append.mp hy with h | h
        · exact part y (List.mem_of_mem_take h)
        · exact part y (List.mem_of_mem_drop h)
abbrev sCh : Stmt := top 36
abbrev NCh : List Str := ["_law_state", "_law_text", "_law_at", "_law_branch", "_law_character", "_law_lines", "_law_row", "_law_some"]
theorem scCh : FnScope NCh ["_law_state", "_law_text"] (defScope sCh) := ⟨rfl, rfl, rfl, by decide +kernel, rfl, by decide +kernel, by decide +kernel⟩
/-- a change of a text: some text of signs that are there, not much longer (m: no line is longer) -/
def spCh (K : PySem.W.Frag) : Sp := fun vs H Q _ => ∃ (h c : Addr) (z : Str) (m : Nat), vs = [.ref h, .str z] ∧ Ds K H h c ∧ z.length ≤ 600 ∧ PyData.strOk z = true ∧ (∀ y ∈ Txt.split z "\n", y.length ≤ m) ∧
  ∀ (y : Str) (H' : Hp), y.length ≤ z.length + m + 1 → PyData.strOk y = true → Ds K H' h c → Kh h H H' → Q (.str y) H'
section
variable {P : Program} {w : World} {K : PySem.W.Frag} {mg : Str → Option Value} {base : Heap} {fD : Addr} {fdD : FuncData}
theorem ok_ch {f : Addr} {fd : FuncData} {k : Nat} (F : Fun K "_law_changed" "_law_changed" sCh f fd) (T : TDn K mg fD fdD) : FnOk P w K mg base CX0 (k + 2) f fd ["_law_state", "_law_text"] (spCh K) := by
  refine F.ok scCh (fun vs H Q E h => ?_) (fun cdv A outer s H vs Q E hr h => ?_)
  · obtain ⟨h, c, z, m, rfl, _⟩ := h
    rfl
  · obtain ⟨h, c, z, m, rfl, d, hz, hk, hm, q⟩ := h
    have h1 := hr.mono (show 1 ≤ k + 1 by omega)
    refine ⟨_, pss_cut (ps_par (i := 2) (j := 3) (by rfl) scCh.nd rfl rfl (by decide) rfl rfl (pa_cons (pe_dr T h1 (by rfl) (pv 0) (pe_op op_add (pe_callB call_len_str (by rfl) T.mN PySem.boot_len (pa_cons (pv 1) pa_nil)) pe_int)) (pa_cons (pe_dr T h1 (by rfl) (pv 0) pe_int) pa_nil)) (by rfl))
      (pss_cut (ps_set (i := 4) scCh.nd rfl (.inl rfl) (pe_ix ix_str pe_str (pe_dr T h1 (by rfl) (pv 0) pe_int) (fun _ _ => rfl)))
      (pss_cut (ps_set (i := 5) scCh.nd rfl (.inl rfl) (pe_split (pv 1) pe_str))
      (pss_cut (ps_set (i := 6) scCh.nd rfl (.inl rfl) (pe_dr T h1 (by rfl) (pv 0) (pe_callB call_len_seq (by rfl) T.mN PySem.boot_len (pa_cons (pv 5) pa_nil))))
      (pss_cut (ps_set (i := 7) scCh.nd rfl (.inl rfl) (pe_lst (pa_cons (pe_op op_add_str (pe_op op_add_str (pe_slice sl_str (pv 1) po_none (po_some (pv 2))) (pv 4)) (pe_slice sl_str (pv 1) (po_some (pv 2)) po_none))
          (pa_cons (pe_op op_add_str (pe_op op_add_str (pe_slice sl_str (pv 1) po_none (po_some (pv 2))) (pv 4)) (pe_slice sl_str (pv 1) (po_some (pe_op op_add (pv 2) pe_int)) po_none))
          (pa_cons (pe_op op_add_str (pe_slice sl_str (pv 1) po_none (po_some (pv 2))) (pe_slice sl_str (pv 1) (po_some (pe_op op_add (pv 2) pe_int)) po_none)) (pa_cons (pv 1) pa_nil))))))
      (pss_cut (ps_set (i := 7) scCh.nd rfl (.inl rfl) (pe_op op_cat (pv 7) (pe_lst (pa_cons (pe_join pe_str (pe_op op_cat (pe_slice sl_list (pv 5) po_none (po_some (pv 6))) (pe_slice sl_list (pv 5) (po_some (pe_op op_add (pv 6) pe_int)) po_none)))
          (pa_cons (pe_join pe_str (pe_op op_cat (pe_slice sl_list (pv 5) po_none (po_some (pe_op op_add (pv 6) pe_int))) (pe_slice sl_list (pv 5) (po_some (pv 6)) po_none))) pa_nil)))))
      (pss_one (ps_ret (pe_ixl (pv 7) (pv 3))))))))), ?_⟩
    have sL : ∀ {σ : L2.St} {H0 : Hp}, σ[0]? = some (some (.ref h)) → σ[1]? = some (some (.str z)) → EvS K (tCall (spDrawn K) [] E0 (tCons (tVar 0) (tCons (tOp rAd (tCB (fun xs H Q => ∃ z, xs = [.str z] ∧ z.length ≤ sizeLine ∧ Q (.int z.length) H) (tCons (tVar 1) tNil)) (tC (.int 1))) tNil))) σ H0 h c (fun v => 0 ≤ v ∧ v ≤ z.length) := fun {σ H0} e0 e1 =>
      es_dr e0 (es_add (es_of fun H1 _ => ev_lenZ (ev_var e1) (by omega)) es_c) fun n ⟨x, y, hx, hy, e⟩ => ⟨by omega, Nat.lt_of_le_of_lt (Nat.log2_le_self _) (by omega), fun v v0 v1 => ⟨v0, by omega⟩⟩
    have sC : ∀ {σ : L2.St} {H0 : Hp} {n : Int}, 0 < n → n ≤ 100 → σ[0]? = some (some (.ref h)) → EvS K (tCall (spDrawn K) [] E0 (tCons (tVar 0) (tCons (tC (.int n)) tNil))) σ H0 h c (fun v => 0 ≤ v ∧ v < n) := fun {σ H0 n} n0 n1 e0 =>
      es_dr e0 es_c fun x e => by
        subst e
        exact ⟨n0, Nat.lt_of_le_of_lt (Nat.log2_le_self _) (by omega), fun v v0 v1 => ⟨v0, v1⟩⟩
    let M1 : L2.St → Hp → Prop := fun σ' H' => ∃ (a : Nat) (b : Int), σ' = [some (.ref h), some (.str z), some (.int (a : Int)), some (.int b), none, none, none, none] ∧ a ≤ z.length ∧ (0 ≤ b ∧ b < 6) ∧ Ds K H' h c ∧ Kh h H H'
    let M2 : L2.St → Hp → Prop := fun σ' H' => ∃ (a : Nat) (b : Int) (g : Nat), σ' = [some (.ref h), some (.str z), some (.int (a : Int)), some (.int b), some (.str ⟨#[g]⟩), none, none, none] ∧ a ≤ z.length ∧ (0 ≤ b ∧ b < 6) ∧ PyData.strOk ⟨#[g]⟩ = true ∧ Ds K H' h c ∧ Kh h H H'
    let M3 : L2.St → Hp → Prop := fun σ' H' => ∃ (a : Nat) (b : Int) (g : Nat) (ys : Addr), σ' = [some (.ref h), some (.str z), some (.int (a : Int)), some (.int b), some (.str ⟨#[g]⟩), some (.ref ys), none, none] ∧ a ≤ z.length ∧ (0 ≤ b ∧ b < 6) ∧ PyData.strOk ⟨#[g]⟩ = true ∧ ys ≠ h ∧ H' ys = some (.lst ((lns z).map V.str)) ∧ Ds K H' h c ∧ Kh h H H'
    let M4 : L2.St → Hp → Prop := fun σ' H' => ∃ (a : Nat) (b : Int) (g : Nat) (ys : Addr) (r : Nat), σ' = [some (.ref h), some (.str z), some (.int (a : Int)), some (.int b), some (.str ⟨#[g]⟩), some (.ref ys), some (.int (r : Int)), none] ∧ a ≤ z.length ∧ (0 ≤ b ∧ b < 6) ∧ PyData.strOk ⟨#[g]⟩ = true ∧ H' ys = some (.lst ((lns z).map V.str)) ∧ r < (lns z).length ∧ Ds K H' h c ∧ Kh h H H'
    let M5 : L2.St → Hp → Prop := fun σ' H' => ∃ (a : Nat) (b : Int) (g : Nat) (ys : Addr) (r : Nat) (p : Addr), σ' = [some (.ref h), some (.str z), some (.int (a : Int)), some (.int b), some (.str ⟨#[g]⟩), some (.ref ys), some (.int (r : Int)), some (.ref p)] ∧ a ≤ z.length ∧ (0 ≤ b ∧ b < 6) ∧ PyData.strOk ⟨#[g]⟩ = true ∧ H' ys = some (.lst ((lns z).map V.str)) ∧ r < (lns z).length ∧ Ds K H' h c ∧ Kh h H H' ∧
      H' p = some (.lst ((ch4 z a g).map V.str))
    let M6 : L2.St → Hp → Prop := fun σ' H' => ∃ (a : Nat) (b : Int) (g : Nat) (v5 v6 : Option V) (r : Nat) (p : Addr), σ' = [some (.ref h), some (.str z), some (.int (a : Int)), some (.int b), some (.str ⟨#[g]⟩), v5, v6, some (.ref p)] ∧ a ≤ z.length ∧ (0 ≤ b ∧ b < 6) ∧ PyData.strOk ⟨#[g]⟩ = true ∧ r < (lns z).length ∧ Ds K H' h c ∧ Kh h H H' ∧
      H' p = some (.lst ((ch4 z a g ++ ch2 z r).map V.str))
    have many : (lns z).length ≤ z.length + 2 := PyProof.Rows.split_le z "\n"
    refine ⟨M1, ?_, fun σ1 H1 m1 => ⟨M2, ?_, fun σ2 H2 m2 => ⟨M3, ?_, fun σ3 H3 m3 => ⟨M4, ?_, fun σ4 H4 m4 => ⟨M5, ?_, fun σ5 H5 m5 => ⟨M6, ?_, fun σ6 H6 m6 => ?_⟩⟩⟩⟩⟩⟩
    · unfold tPar
      refine sL rfl rfl H Kh.refl d _ fun a H1 ha d1 k1 => sC (by decide) (by decide) rfl H1 Kh.refl d1 _ fun b H2 hb d2 k2 => ?_
      obtain ⟨a, rfl⟩ := Int.eq_ofNat_of_zero_le ha.1
      exact ⟨_, _, rfl, a, b, rfl, by omega, hb, d2, k1.trans k2⟩
    · obtain ⟨a, b, rfl, ha, hb, d1, k1⟩ := m1
      unfold tAsg tOp tC
      refine sC (n := 28) (by decide) (by decide) rfl H1 Kh.refl d1 _ fun v H3 hv d3 k3 => ?_
      obtain ⟨g, hg, gk⟩ := chs_at hv.1 hv.2
      exact ⟨chs, v, g, rfl, rfl, by decide +kernel, hg, a, b, g, rfl, ha, hb, gk, d3, k1.trans k3⟩
    · obtain ⟨a, b, g, rfl, ha, hb, gk, d2, k2⟩ := m2
      exact s_asgL (el_split (ev_var rfl) ev_c (by decide +kernel) (by omega)) fun ys H3 ny e3 hy => ⟨a, b, g, ys, rfl, ha, hb, gk, d2.nh ny, hy, d2.same e3, k2.trans (Kh.same e3)⟩
    · obtain ⟨a, b, g, ys, rfl, ha, hb, gk, nh, hy, d3, k3⟩ := m3
      have p : 0 < (lns z).length := PyProof.Rows.split_pos z "\n"
      have eD : EvS K (tCall (spDrawn K) [] E0 (tCons (tVar 0) (tCons (tCB (rLenS K) (tCons (tVar 5) tNil)) tNil))) [some (.ref h), some (.str z), some (.int (a : Int)), some (.int b), some (.str ⟨#[g]⟩), some (.ref ys), none, none] H3 h c (fun v => 0 ≤ v ∧ v < (lns z).length) :=
        es_dr rfl (es_of fun H4 k4 => ev_len (ev_var rfl) (sq_of (k4 _ _ hy nh))) fun m e => by
          rw [List.length_map] at e
          subst e
          exact ⟨by show (0 : Int) < ((lns z).length : Nat); omega, Nat.lt_of_le_of_lt (Nat.log2_le_self _) (by show ((lns z).length : Int).natAbs < 9000; omega), fun v v0 v1 => ⟨v0, v1⟩⟩
      refine eD H3 Kh.refl d3 _ fun v H4 hv d4 k4 => ?_
      obtain ⟨r, rfl⟩ := Int.eq_ofNat_of_zero_le hv.1
      exact ⟨a, b, g, ys, r, rfl, ha, hb, gk, k4 _ _ hy nh, by omega, d4, k3.trans k4⟩
    · obtain ⟨a, b, g, ys, r, rfl, ha, hb, gk, hy, hr', d4, k4⟩ := m4
      have g1 : (⟨#[g]⟩ : Str).length = 1 := rfl
      have l1 := cutS_to z a
      have l2 := cutS_from z a
      have l3 := cutS_from z (a + 1)
      have ca := cat_len (cutS z none (some (a : Int))) ⟨#[g]⟩
      have to : Ev (tSl rSlS (tVar 1) tNoPart (tPart (tVar 2))) [some (.ref h), some (.str z), some (.int (a : Int)), some (.int b), some (.str ⟨#[g]⟩), some (.ref ys), some (.int (r : Int)), none] H4 (.str (cutS z none (some (a : Int)))) := ev_slS (ev_var rfl) eo_none (eo_some (ev_var rfl)) (by omega)
      have fr : Ev (tSl rSlS (tVar 1) (tPart (tVar 2)) tNoPart) [some (.ref h), some (.str z), some (.int (a : Int)), some (.int b), some (.str ⟨#[g]⟩), some (.ref ys), some (.int (r : Int)), none] H4 (.str (cutS z (some (a : Int)) none)) := ev_slS (ev_var rfl) (eo_some (ev_var rfl)) eo_none (by omega)
      have fr1 : Ev (tSl rSlS (tVar 1) (tPart (tOp rAd (tVar 2) (tC (.int 1)))) tNoPart) [some (.ref h), some (.str z), some (.int (a : Int)), some (.int b), some (.str ⟨#[g]⟩), some (.ref ys), some (.int (r : Int)), none] H4 (.str (cutS z (some ((a + 1 : Nat) : Int)) none)) := ev_slS (ev_var rfl) (eo_some (ev_is (ev_ad (ev_var rfl) ev_c) (show V.int ((a : Int) + 1) = V.int ((a + 1 : Nat) : Int) from rfl))) eo_none (by omega)
      refine s_asgL (xs := (ch4 z a g).map V.str) (el_lst (ea_cons (ev_addT (ev_addT to (ev_var rfl) (by omega)) fr (by omega)) (ea_cons (ev_addT (ev_addT to (ev_var rfl) (by omega)) fr1 (by omega)) (ea_cons (ev_addT to fr1 (by omega)) (ea_cons (ev_var rfl) ea_nil)))) (show 4 ≤ 100000 by decide)) fun p H5 np e5 hp => ?_
      exact ⟨a, b, g, ys, r, p, rfl, ha, hb, gk, e5 _ _ hy, hr', d4.same e5, k4.trans (Kh.same e5), hp⟩
    · obtain ⟨a, b, g, ys, r, p, rfl, ha, hb, gk, hy, hr', d5, k5, hp⟩ := m5
      have e1 : ((r : Nat) : Int) + 1 = ((r + 1 : Nat) : Int) := rfl
      have cT : ∀ k : Nat, cutV ((lns z).map V.str) none (some ((k : Nat) : Int)) = ((lns z).take k).map V.str := fun k => (cutP_to ((lns z).map V.str) k).trans (List.map_take ..).symm
      have cF : ∀ k : Nat, cutV ((lns z).map V.str) (some ((k : Nat) : Int)) none = ((lns z).drop k).map V.str := fun k => (cutP_from ((lns z).map V.str) k).trans (List.map_drop ..).symm
      have to : ∀ {t : TE} (k : Nat), Ev t [some (.ref h), some (.str z), some (.int (a : Int)), some (.int b), some (.str ⟨#[g]⟩), some (.ref ys), some (.int (r : Int)), some (.ref p)] H5 (.int (k : Int)) → EvL (tSl (rSlL K) (tVar 5) tNoPart (tPart t)) [some (.ref h), some (.str z), some (.int (a : Int)), some (.int b), some (.str ⟨#[g]⟩), some (.ref ys), some (.int (r : Int)), some (.ref p)] H5 (((lns z).take k).map V.str) := fun k et => el_is (el_sl (ev_var rfl) eo_none (eo_some et) (sq_of hy)) (cT k)
      have fr : ∀ {t : TE} (k : Nat), Ev t [some (.ref h), some (.str z), some (.int (a : Int)), some (.int b), some (.str ⟨#[g]⟩), some (.ref ys), some (.int (r : Int)), some (.ref p)] H5 (.int (k : Int)) → EvL (tSl (rSlL K) (tVar 5) (tPart t) tNoPart) [some (.ref h), some (.str z), some (.int (a : Int)), some (.int b), some (.str ⟨#[g]⟩), some (.ref ys), some (.int (r : Int)), some (.ref p)] H5 (((lns z).drop k).map V.str) := fun k et => el_is (el_sl (ev_var rfl) (eo_some et) eo_none (sq_of hy)) (cF k)
      have j1 : EvL (tOp rCat (tSl (rSlL K) (tVar 5) tNoPart (tPart (tVar 6))) (tSl (rSlL K) (tVar 5) (tPart (tOp rAd (tVar 6) (tC (.int 1)))) tNoPart)) [some (.ref h), some (.str z), some (.int (a : Int)), some (.int b), some (.str ⟨#[g]⟩), some (.ref ys), some (.int (r : Int)), some (.ref p)] H5 (((lns z).take r ++ (lns z).drop (r + 1)).map V.str) :=
        el_is (el_catN (to r (ev_var rfl)) (fr (r + 1) (ev_is (ev_ad (ev_var rfl) ev_c) (show V.int ((r : Int) + 1) = V.int ((r + 1 : Nat) : Int) from rfl))) (by simp; omega)) (List.map_append ..).symm
      have j2 : EvL (tOp rCat (tSl (rSlL K) (tVar 5) tNoPart (tPart (tOp rAd (tVar 6) (tC (.int 1))))) (tSl (rSlL K) (tVar 5) (tPart (tVar 6)) tNoPart)) [some (.ref h), some (.str z), some (.int (a : Int)), some (.int b), some (.str ⟨#[g]⟩), some (.ref ys), some (.int (r : Int)), some (.ref p)] H5 (((lns z).take (r + 1) ++ (lns z).drop r).map V.str) :=
        el_is (el_catN (to (r + 1) (ev_is (ev_ad (ev_var rfl) ev_c) (show V.int ((r : Int) + 1) = V.int ((r + 1 : Nat) : Int) from rfl))) (fr r (ev_var rfl)) (by simp; omega)) (List.map_append ..).symm
      have n1 : ("\n" : Str).length = 1 := by decide +kernel
      have t1 : tot ((lns z).take r ++ (lns z).drop (r + 1)) ≤ 1300 := by
        have := (ch2_tot hr').1
        have : tot (lns z) = z.length + 1 := tot_lns z
        omega
      have t2 : tot ((lns z).take (r + 1) ++ (lns z).drop r) ≤ 1300 := by
        have := (ch2_tot hr').2
        have : tot (lns z) = z.length + 1 := tot_lns z
        have : ((lns z)[r]).length ≤ z.length := PyProof.Rows.part_short (List.getElem_mem hr')
        omega
      refine s_asgL (xs := (ch4 z a g ++ ch2 z r).map V.str) (el_is (el_catV (xs := (ch4 z a g).map V.str) (zs := (ch2 z r).map V.str) (ev_var rfl) hp (el_lst (ea_cons (ev_join (ys := (lns z).take r ++ (lns z).drop (r + 1)) ev_c j1 ?_) (ea_cons (ev_join (ys := (lns z).take (r + 1) ++ (lns z).drop r) ev_c j2 ?_) ea_nil)) (show 2 ≤ 100000 by decide)) (by rw [List.length_map, List.length_map]; show 4 + 2 ≤ 100000; decide)) (List.map_append ..).symm) fun p2 H6 np e6 hp2 => ?_
      · rw [n1]
        unfold tot at t1
        omega
      · rw [n1]
        unfold tot at t2
        omega
      · exact ⟨a, b, g, _, _, r, p2, rfl, ha, hb, gk, hr', d5.same e6, k5.trans (Kh.same e6), hp2⟩
    · obtain ⟨a, b, g, v5, v6, r, p, rfl, ha, hb, gk, hr', d6, k6, hp⟩ := m6
      obtain ⟨j, rfl⟩ := Int.eq_ofNat_of_zero_le hb.1
      have l6 : (ch4 z a g ++ ch2 z r).length = 6 := rfl
      have hj : j < (ch4 z a g ++ ch2 z r).length := by omega
      have at_ : atI ((ch4 z a g ++ ch2 z r).map V.str) ((j : Nat) : Int) = some (.str (ch4 z a g ++ ch2 z r)[j]) := at_nat (by rw [List.length_map]; exact hj) (by rw [List.getElem?_map, List.getElem?_eq_getElem hj]; rfl)
      have good := ch_good (m := m) hk gk ha hr' hm _ (List.getElem_mem hj)
      exact s_ret (ev_op (ev_var rfl) (ev_var rfl) (rv_ixL (sq_of hp) at_)) fun H7 e7 => q _ H7 good.1 good.2 (d6.same e7) (k6.trans (Kh.same e7))
end
end Sea

set_option Elab.async false
set_option linter.all false
set_option maxRecDepth 100000
set_option maxHeartbeats 4000000
namespace Sea
open PySem PySem.Spec PyProof.Rows L2 LamX NdefX ClX Evl StX
abbrev sVof : Stmt := top 35
abbrev NVo : List Str := ["_law_text", "_law_lines", "_law_rows", "_law_row", "_law_line", "_law_numbers", "_law_length", "_law_days_here", "_law_odd", "_law_part", "_law_largest", "_law_most", "_law_k"]
theorem scVof : FnScope NVo ["_law_text"] (defScope sVof) := ⟨rfl, rfl, rfl, by decide +kernel, rfl, by decide +kernel, by decide +kernel⟩
def rMin2 : List V → Hp → VK → Prop := fun xs H Q => ∃ i j, xs = [.int i, .int j] ∧ Q (.int (if j < i then j else i)) H
theorem ev_min2 {ta tb : TE} {σ : L2.St} {H : Hp} {i j : Int} (ha : Ev ta σ H (.int i)) (hb : Ev tb σ H (.int j)) : Ev (tCB rMin2 (tCons ta (tCons tb tNil))) σ H (.int (if j < i then j else i)) := ev_cb (ea_cons ha (ea_cons hb ea_nil)) fun H1 _ Q q => ⟨i, j, rfl, q H1 (Ex.refl _)⟩
/-- the law's own reading of a travel's text, as data -/
def vofD (z : Str) : PyData := match bV z with
  | some i => .tuple [.str "InvalidText", .int (i : Nat)]
  | none => match tbad ((vL z 0).headD 0) (vL z 1) (oL z) with
    | some (pt, i) => .tuple [.str "InvalidTravel", .str pt, .int (i : Nat)]
    | none => .list [.int ((vL z 0).headD 0), .tuple ((vL z 1).map PyData.int), .tuple ((oL z).map PyData.int)]
def spVof (K : PySem.W.Frag) : Sp := fun vs H Q _ => ∃ z : Str, vs = [.str z] ∧ z.length ≤ 620 ∧ PyData.strOk z = true ∧ ∀ v H', Same H H' → Dp K H' v (vofD z) → Q v H'
theorem okRow_empty (i : Nat) : (okRow i "").isNone = true := by
  match i with
  | 0 => decide +kernel
  | 1 => decide +kernel
  | 2 => decide +kernel
  | i + 3 => exact okRow_few (by omega)
theorem valW_nn {z : Str} (h : badW z = false) (hz : z.length ≤ 640) : 0 ≤ valW z := (badW_val h hz).2
theorem rowW_nn {h ln : Str} {ns : List Int} (e : rowW h ln = some ns) (hl : ln.length ≤ 620) : ∀ n ∈ ns, 0 ≤ n := by
  unfold rowW at e
  split at e
  · unfold numsW at e
    split at e
    · rename_i good
      cases e
      intro n hn
      obtain ⟨z, hz, rfl⟩ := List.mem_map.mp hn
      have b := List.all_eq_true.mp good z hz
      exact valW_nn (by simpa using b) (Nat.le_trans (PyProof.Rows.part_short (List.mem_of_mem_tail hz)) (by omega))
    · cases e
  · cases e
theorem vL_nn {z : Str} (hz : z.length ≤ 620) (i : Nat) : ∀ n ∈ vL z i, 0 ≤ n := by
  unfold vL
  cases e : okRow i ((lns z).getD i "") with
  | none => exact fun n hn => nomatch hn
  | some ns =>
    obtain ⟨h, hr⟩ := okRow_row e
    refine rowW_nn hr ?_
    rw [List.getD_eq_getElem?_getD]
    cases g : (lns z)[i]? with
    | none => exact Nat.zero_le _
    | some ln => exact Nat.le_trans (PyProof.Rows.part_short (List.mem_of_getElem? g)) hz
theorem oL_nn {z : Str} (hz : z.length ≤ 620) : ∀ n ∈ oL z, 0 ≤ n := by
  unfold oL
  split
  · exact vL_nn hz 2
  · exact fun n hn => nomatch hn
theorem oL_len {z : Str} (hz : z.length ≤ 620) : (oL z).length ≤ 1000 := by
  unfold oL
  split
  · exact vL_len hz 2
  · decide
/-- a number of a line is not negative: what is left of the test -/
theorem nbad_nn {ns : List Int} {lg mo : Int} {i : Nat} (hi : i < ns.length) (nn : ∀ n ∈ ns, 0 ≤ n) :
    (decide (V.int (i : Nat) = V.int mo) || (decide (ns[i] > lg) || (decide (((i : Nat) : Int) > 0) && decide (ns[i] ≤ ns.getD (i - 1) 0)))) = nbad ns lg mo i := by
  have gi : ns.getD i 0 = ns[i] := by rw [List.getD_eq_getElem?_getD, List.getElem?_eq_getElem hi]; rfl
  have n0 := nn _ (List.getElem_mem hi)
  unfold nbad
  rw [gi, decide_eq_true n0, Bool.true_and]
  have e : (!decide (ns[i] ≤ lg)) = decide (ns[i] > lg) := by
    rw [Bool.eq_iff_iff]
    simp
  rw [e]
/-- a tuple of two new tuples -/
theorem eu_two {ta tb : TE} {σ : L2.St} {H : Hp} {xs ys : List V} {Q : VK} (ha : EvU ta σ H xs) (hb : EvU tb σ H ys) (k : ∀ a b p H', H' a = some (.tup xs) → H' b = some (.tup ys) → H' p = some (.tup [.ref a, .ref b]) → Ex H H' → Q (.ref p) H') :
    tTup (tCons ta (tCons tb tNil)) σ H Q := ha H (Ex.refl _) _ fun a H1 _ e1 h1 => hb H1 e1 _ fun b H2 _ e2 h2 => ⟨Nat.le_of_lt (small1000 (show 2 ≤ 1000 by decide)), fun p np => k a b p _ (Ex.new np _ _ (e2 _ _ h1)) (Ex.new np _ _ h2) upd_same ((e1.trans e2).trans (Ex.new np))⟩
/-- for over a tuple of two new tuples -/
theorem s_for2 {K : PySem.W.Frag} {ta tb : TE} {g : TG} {tu : TS} {D : Ends} {σ : L2.St} {H : Hp} {xs ys : List V} (ha : EvU ta σ H xs) (hb : EvU tb σ H ys)
    (k : ∀ a b p H', H' a = some (.tup xs) → H' b = some (.tup ys) → H' p = some (.tup [.ref a, .ref b]) → Ex H H' → ∃ Pv : Nat → L2.St → Hp → Prop, Pv 0 σ H' ∧ (∀ i σ H, Pv i σ H → SqT K H p [.ref a, .ref b]) ∧
      (∀ i x σ H, [V.ref a, .ref b][i]? = some x → Pv i σ H → g x σ H fun σ2 H2 => tu { D with nx := Pv (i + 1), ct := Pv (i + 1), bk := D.nx } σ2 H2) ∧ ∀ σ H, Pv 2 σ H → D.nx σ H) : tFor (iTup K (tTup (tCons ta (tCons tb tNil)))) g tu D σ H := by
  unfold tFor iTup
  refine eu_two ha hb fun a b p H' h1 h2 h3 e => ?_
  obtain ⟨Pv, p0, pl, ps, pd⟩ := k a b p H' h1 h2 h3 e
  exact ⟨p, rfl, ⟨_, st_of h3⟩, for_tup Pv p0 (fun i σ H _ w => pl i σ H w) ps pd⟩
/-- the numbers of a part are tried, one after the other -/
theorem vof_in {K : PySem.W.Frag} {D : Ends} {H : Hp} {pt : Str} {p : Addr} {ns : List Int} {lg mo : Int} {x0 x1 x2 x3 x4 x6 x7 x8 x12 : Option V} {ta : TA} {tt : TT} (hp : SqT K H p (ns.map V.int)) (few : ns.length ≤ 1000)
    (hn : ∀ H', Ex H H' → EvA ta [x0, x1, x2, x3, x4, some (.ref p), x6, x7, x8, some (.str pt), some (.int lg), some (.int mo), x12] H' [.int (ns.length : Nat)])
    (ht : ∀ (i : Nat) H', i < ns.length → Ex H H' → EvT tt [x0, x1, x2, x3, x4, some (.ref p), x6, x7, x8, some (.str pt), some (.int lg), some (.int mo), some (.int (i : Nat))] H' (nbad ns lg mo i))
    (bad : ∀ (i : Nat) H', vbad ns lg mo = some i → Ex H H' → ∀ r, H' r = some (.tup [.str "InvalidTravel", .str pt, .int (i : Nat)]) → D.rt (.ref r) H')
    (good : vbad ns lg mo = none → ∀ y H', Ex H H' → D.nx [x0, x1, x2, x3, x4, some (.ref p), x6, x7, x8, some (.str pt), some (.int lg), some (.int mo), y] H') :
    tFor (iRng1 ta) (gName 12) (tIfS tt (tRet (tTup (tCons (tC (.str "InvalidTravel")) (tCons (tVar 9) (tCons (tVar 12) tNil))))) tNext) D [x0, x1, x2, x3, x4, some (.ref p), x6, x7, x8, some (.str pt), some (.int lg), some (.int mo), x12] H := by
  refine s_forR1 (n := ((ns.length : Nat) : Int)) (hn H (Ex.refl _)) ⟨by omega, by omega⟩ (fun i σ' H' => (∃ y, σ' = [x0, x1, x2, x3, x4, some (.ref p), x6, x7, x8, some (.str pt), some (.int lg), some (.int mo), y]) ∧ Ex H H' ∧ ∀ j, j < i → nbad ns lg mo j = false)
    (fun H1 e1 => ⟨⟨_, rfl⟩, e1, fun j hj => absurd hj (Nat.not_lt_zero _)⟩) ?_ ?_
  · rintro i σ' H' hi ⟨⟨y, rfl⟩, e', ok⟩
    have hi : i < ns.length := by omega
    refine s_when (ht i H' hi e') (fun hb H2 e2 => ?_) (fun hb H2 e2 => ⟨⟨_, rfl⟩, e'.trans e2, fun j hj => ?_⟩)
    · exact s_retU (eu_tup (ea_cons ev_c (ea_cons (ev_var rfl) (ea_cons (ev_var rfl) ea_nil))) (show 3 ≤ 100000 by decide)) fun r H3 _ e3 h3 => bad i H3 (first_at hb ok hi) ((e'.trans e2).trans e3) r h3
    · rcases Nat.lt_succ_iff_lt_or_eq.mp hj with h | rfl
      · exact ok j h
      · exact hb
  · rintro σ' H' ⟨⟨y, rfl⟩, e', ok⟩
    exact good (first_none fun j hj => ok j hj) y H' e'
theorem vof_t {K : PySem.W.Frag} {H : Hp} {pt : Str} {p : Addr} {ns : List Int} {lg mo : Int} {x0 x1 x2 x3 x4 x6 x7 x8 : Option V} {i : Nat} (hp : SqT K H p (ns.map V.int)) (hi : i < ns.length) (nn : ∀ n ∈ ns, 0 ≤ n) :
    EvT (tOr (tTest (tOp rEq (tVar 12) (tVar 11))) (tOr (tTest (tOp (rI0 fun i j => .bl (decide (i > j))) (tOp (rIxT K) (tVar 5) (tVar 12)) (tVar 10))) (tAnd (tTest (tOp (rI0 fun i j => .bl (decide (i > j))) (tVar 12) (tC (.int 0)))) (tTest (tOp (rI0 fun i j => .bl (decide (i ≤ j))) (tOp (rIxT K) (tVar 5) (tVar 12)) (tOp (rIxT K) (tVar 5) (tCB rMax2 (tCons (tOp (rI0 fun i j => .int (i - j)) (tVar 12) (tC (.int 1))) (tCons (tC (.int 0)) tNil)))))))))
      [x0, x1, x2, x3, x4, some (.ref p), x6, x7, x8, some (.str pt), some (.int lg), some (.int mo), some (.int (i : Nat))] H (nbad ns lg mo i) := by
  have at_ : ∀ {j : Nat} (hj : j < ns.length), atI (ns.map V.int) ((j : Nat) : Int) = some (.int ns[j]) := fun {j} hj => at_nat (by rw [List.length_map]; exact hj) (by rw [List.getElem?_map, List.getElem?_eq_getElem hj]; rfl)
  rw [← nbad_nn hi nn]
  refine et_or (et_test (ev_op (ev_var rfl) (ev_var rfl) (rv_eq rfl))) fun _ => et_or (et_test (ev_op (ev_op (ev_var rfl) (ev_var rfl) (rv_ixT hp (at_ hi))) (ev_var rfl) rv_I0)) fun _ => et_and (et_test (ev_op (ev_var rfl) ev_c rv_I0)) fun h0 => ?_
  have h0 : 0 < i := by
    have := of_decide_eq_true h0
    omega
  have hj : i - 1 < ns.length := by omega
  have g1 : ns.getD (i - 1) 0 = ns[i - 1] := by rw [List.getD_eq_getElem?_getD, List.getElem?_eq_getElem hj]; rfl
  have e1 : (if (0 : Int) > ((i : Nat) : Int) - 1 then (0 : Int) else ((i : Nat) : Int) - 1) = ((i - 1 : Nat) : Int) := by split <;> omega
  rw [g1]
  exact et_test (ev_op (ev_op (ev_var rfl) (ev_var rfl) (rv_ixT hp (at_ hi))) (ev_op (ev_var rfl) (ev_is (ev_max2 (ev_op (ev_var rfl) ev_c rv_I0) ev_c) (by rw [e1])) (rv_ixT hp (at_ hj))) rv_I0)
structure TVo (mg : Str → Option Value) : Prop where
  mR : mg "range" = none
  mT : mg "tuple" = none
  mM : mg "max" = none
  mm : mg "min" = none
section
variable {P : Program} {w : World} {K : PySem.W.Frag} {mg : Str → Option Value} {base : Heap} {fIn fRe : Addr} {dIn dRe : FuncData}
theorem ok_vof {f : Addr} {fd : FuncData} {k : Nat} (F : Fun K "_law_travel_of" "_law_travel_of" sVof f fd) (T : TRd K mg fIn fRe dIn dRe) (B : TVo mg) : FnOk P w K mg base CX0 (k + 3) f fd ["_law_text"] (spVof K) := by
  refine F.ok scVof (fun vs H Q E h => ?_) (fun cdv A outer s H vs Q E hr h => ?_)
  · obtain ⟨z, rfl, _⟩ := h
    rfl
  · obtain ⟨z, rfl, hz, hk, q⟩ := h
    have h2 := hr.mono (show 2 ≤ k + 2 by omega)
    have hu := hr.units
    refine ⟨_, pss_cut (ps_par (i := 1) (j := 2) (by rfl) scVof.nd rfl rfl (by decide) rfl rfl (pa_cons (pe_split (pv 0) pe_str) (pa_cons (pe_lst pa_nil) pa_nil)) (by rfl))
      (pss_cut (ps_for PassesOwn.never rfl (pi_range1 (by rfl) B.mR (pa_cons (pe_callB (call_max2 rfl) (by rfl) B.mM (by decide +kernel) (pa_cons pe_int (pa_cons (pe_callB call_len_seq (by rfl) T.mN PySem.boot_len (pa_cons (pv 1) pa_nil)) pa_nil))) pa_nil)) (pg_name (i := 3) scVof.nd rfl (.inl rfl))
        (pss_cons (ps_set (i := 4) scVof.nd rfl (.inl rfl) (pe_ifExp (pt_cmpR op_lt (pv 3) (pe_callB call_len_seq (by rfl) T.mN PySem.boot_len (pa_cons (pv 1) pa_nil)) (nomark _)) (pe_ixl (pv 1) (pv 3)) pe_str))
        (pss_cons (ps_set (i := 5) scVof.nd rfl (.inl rfl) (pe_call (E := E0) (ok_read (k := 0) T) h2 (by rfl) T.gR T.kR T.bR .nil pass0 (pa_cons (pv 4) (pa_cons (pe_ixl (pe_lst (pa_cons pe_str (pa_cons pe_str (pa_cons pe_str pa_nil)))) (pe_callB (call_min2 rfl) (by rfl) B.mm (by decide +kernel) (pa_cons (pv 3) (pa_cons pe_int pa_nil)))) pa_nil))))
        (pss_cons (ps_if (PW.pt (pw_or (pt_cmpR op_gt (pv 3) pe_int (nomark _)) (pw_or (pt_cmpR op_isN (pv 5) pe_non (nomark _)) (pw_or (PW.pt (pw_and (pt_cmpR op_eq (pv 3) pe_int (nomark _)) (pw_and1 (pt_cmpR op_ne (pe_callB call_len_seq (by rfl) T.mN PySem.boot_len (pa_cons (pv 5) pa_nil)) pe_int (nomark _)))))
            (pw_or1 (PW.pt (pw_and (pt_cmpR op_eq (pv 3) pe_int (nomark _)) (pw_and1 (pt_cmpR (op_eqD hu) (pv 5) (pe_lst pa_nil) (nomark _))))))))))
          (pss_one (ps_ret (pe_tup (pa_cons pe_str (pa_cons (pv 3) pa_nil))))) pss_nil)
        (pss_one (ps_expr (pe_bm PySem.F.plainAttrs_list PySem.F.slot_list_append PySem.F.type_list_append mt_append (pv 2) (pa_cons (pe_callTy call_tuple_of (by rfl) B.mT (by rfl) (pa_cons (pv 5) pa_nil)) pa_nil))))))))
      (pss_cut (ps_par3 (i := 6) (j := 7) (l := 8) (by rfl) scVof.nd rfl rfl rfl (by decide) (by decide) (by decide) rfl rfl rfl (pa_cons (pe_ixt (pe_ixl (pv 2) pe_int) pe_int) (pa_cons (pe_ixl (pv 2) pe_int) (pa_cons (pe_ixl (pe_op op_cat (pv 2) (pe_lst (pa_cons (pe_tup pa_nil) pa_nil))) pe_int) pa_nil))) (by rfl))
      (pss_cut (ps_if (pt_not (pt_chain L2.op_le L2.op_le pe_int (pv 6) pe_int)) (pss_one (ps_ret (pe_tup (pa_cons pe_str (pa_cons pe_str (pa_cons pe_int pa_nil)))))) pss_nil)
      (pss_cut (ps_for PassesOwn.never rfl (pi_tup (pe_tup (pa_cons (pe_tup (pa_cons pe_str (pa_cons (pv 7) (pa_cons (pe_op op_sub (pv 6) pe_int) (pa_cons pe_int pa_nil))))) (pa_cons (pe_tup (pa_cons pe_str (pa_cons (pv 8) (pa_cons (pe_op op_pow pe_int pe_int) (pa_cons pe_int pa_nil))))) pa_nil))))
          (pg_tup rfl (pgs_cons (pg_name (i := 9) scVof.nd rfl (.inl rfl)) (pgs_cons (pg_name (i := 5) scVof.nd rfl (.inl rfl)) (pgs_cons (pg_name (i := 10) scVof.nd rfl (.inl rfl)) (pgs_cons (pg_name (i := 11) scVof.nd rfl (.inl rfl)) pgs_nil)))))
        (pss_one (ps_for PassesOwn.never rfl (pi_range1 (by rfl) B.mR (pa_cons (pe_callB call_len_seq (by rfl) T.mN PySem.boot_len (pa_cons (pv 5) pa_nil)) pa_nil)) (pg_name (i := 12) scVof.nd rfl (.inl rfl))
          (pss_one (ps_if (PW.pt (pw_or (pt_cmpR op_eq (pv 12) (pv 11) (nomark _)) (pw_or (pt_cmpR op_gt (pe_ixt (pv 5) (pv 12)) (pv 10) (nomark _)) (pw_or1 (PW.pt (pw_and (pt_cmpR op_gt (pv 12) pe_int (nomark _)) (pw_and1 (pt_cmpR L2.op_le (pe_ixt (pv 5) (pv 12)) (pe_ixt (pv 5) (pe_callB (call_max2 rfl) (by rfl) B.mM (by decide +kernel) (pa_cons (pe_op op_sub (pv 12) pe_int) (pa_cons pe_int pa_nil)))) (nomark _)))))))))
            (pss_one (ps_ret (pe_tup (pa_cons pe_str (pa_cons (pv 9) (pa_cons (pv 12) pa_nil)))))) pss_nil)))))
      (pss_one (ps_ret (pe_lst (pa_cons (pv 6) (pa_cons (pv 7) (pa_cons (pv 8) pa_nil)))))))))), ?_⟩
    have many : (lns z).length ≤ z.length + 2 := PyProof.Rows.split_le z "\n"
    have some1 : 1 ≤ (lns z).length := PyProof.Rows.split_pos z "\n"
    have toD : ∀ {v : V} {H' : Hp}, Same H H' → Dp K H' v (vofD z) → Q v H' := fun s d => q _ _ s d
    let M1 : L2.St → Hp → Prop := fun σ' H' => ∃ g l, σ' = [some (.str z), some (.ref g), some (.ref l), none, none, none, none, none, none, none, none, none, none] ∧ Same H H' ∧ H l = none ∧ H' l = some (.lst []) ∧ g ≠ l ∧ H' g = some (.lst ((lns z).map V.str))
    let M2 : L2.St → Hp → Prop := fun σ' H' => ∃ g l v3 v4 v5 vs, σ' = [some (.str z), some (.ref g), some (.ref l), v3, v4, v5, none, none, none, none, none, none, none] ∧ Same H H' ∧ H' l = some (.lst vs) ∧ TsV K H' vs (vL z) ∧ vs.length = (lns z).length ∧ 2 ≤ (lns z).length ∧ (lns z).length ≤ 3 ∧ bV z = none ∧ (vL z 0).length = 1
    let M3 : L2.St → Hp → Prop := fun σ' H' => ∃ g l v3 v4 v5 d o, σ' = [some (.str z), some (.ref g), some (.ref l), v3, v4, v5, some (.int ((vL z 0).headD 0)), some d, some o, none, none, none, none] ∧ Same H H' ∧ TiA K H' d (vL z 1) ∧ TiA K H' o (oL z) ∧ bV z = none
    let M4 : L2.St → Hp → Prop := fun σ' H' => ∃ g l v3 v4 v5 d o, σ' = [some (.str z), some (.ref g), some (.ref l), v3, v4, v5, some (.int ((vL z 0).headD 0)), some d, some o, none, none, none, none] ∧ Same H H' ∧ TiA K H' d (vL z 1) ∧ TiA K H' o (oL z) ∧ bV z = none ∧ (1 ≤ (vL z 0).headD 0 ∧ (vL z 0).headD 0 ≤ 14)
    let M5 : L2.St → Hp → Prop := fun σ' H' => ∃ g l v3 v4 v5 v9 v10 v11 v12 d o, σ' = [some (.str z), some (.ref g), some (.ref l), v3, v4, v5, some (.int ((vL z 0).headD 0)), some d, some o, v9, v10, v11, v12] ∧ Same H H' ∧ TiA K H' d (vL z 1) ∧ TiA K H' o (oL z) ∧ bV z = none ∧ tbad ((vL z 0).headD 0) (vL z 1) (oL z) = none
    refine ⟨M1, ?_, fun σ1 H1 m1 => ⟨M2, ?_, fun σ2 H2 m2 => ⟨M3, ?_, fun σ3 H3 m3 => ⟨M4, ?_, fun σ4 H4 m4 => ⟨M5, ?_, fun σ5 H5 m5 => ?_⟩⟩⟩⟩⟩
    · unfold tPar tCons
      refine el_split (ev_var rfl) ev_c (by decide +kernel) (by omega) H (Ex.refl _) _ fun g H1 ng e1 hg => ?_
      refine el_lst ea_nil (by decide) H1 (Ex.refl _) _ fun l H2 nl e2 hl => ?_
      exact ⟨_, _, rfl, g, l, rfl, Same.trans e1 e2, fresh_back e1 nl, hl, ne_of_none hg nl, e2 _ _ hg⟩
    · obtain ⟨g, l, rfl, sm', nl, hl, ngl, hg⟩ := m1
      have maxE : (if ((((lns z).map V.str).length : Nat) : Int) > 2 then ((((lns z).map V.str).length : Nat) : Int) else 2) = ((max 2 (lns z).length : Nat) : Int) := by
        rw [List.length_map]
        split <;> omega
      refine s_forR1 (n := ((max 2 (lns z).length : Nat) : Int)) (ea_cons (ev_is (ev_max2 ev_c (ev_len (ev_var rfl) (sq_of hg))) (by rw [maxE])) ea_nil) ⟨by omega, by omega⟩ (fun i σ' H' => (∃ v3 v4 v5 vs, σ' = [some (.str z), some (.ref g), some (.ref l), v3, v4, v5, none, none, none, none, none, none, none] ∧ H' l = some (.lst vs) ∧ TsV K H' vs (vL z) ∧ vs.length = i) ∧
        (∀ b o, H1 b = some o → b ≠ l → H' b = some o) ∧ ∀ j, j < i → (okRow j ((lns z).getD j "")).isNone = false)
        (fun H3 e3 => ⟨⟨none, none, none, [], rfl, e3 _ _ hl, fun j hj => absurd hj (Nat.not_lt_zero _), rfl⟩, fun b o e _ => e3 _ _ e, fun j hj => absurd hj (Nat.not_lt_zero _)⟩) ?_ ?_
      · rintro i σ' H' hi ⟨⟨v3, v4, v5, vs, rfl, hl', hts, hv⟩, keep, good⟩
        have hi : i < max 2 (lns z).length := by omega
        have hg' : H' g = some (.lst ((lns z).map V.str)) := keep _ _ hg ngl
        have up : Same H H' := fun b o e => keep b o (sm' _ _ e) (ne_of_none e nl)
        have hlt : ((((i : Nat) : Int) < ((((lns z).map V.str).length : Nat) : Int))) ↔ i < (lns z).length := by rw [List.length_map]; omega
        generalize hln : (lns z).getD i "" = ln
        have lnl : ln.length ≤ 620 ∧ PyData.strOk ln = true := by
          rw [← hln, List.getD_eq_getElem?_getD]
          cases g : (lns z)[i]? with
          | none => exact ⟨Nat.zero_le _, by decide +kernel⟩
          | some y => exact ⟨Nat.le_trans (PyProof.Rows.part_short (List.mem_of_getElem? g)) hz, part_ok hk (List.mem_of_getElem? g)⟩
        have far : ¬ i < (lns z).length → ln = "" := fun h => by
          rw [← hln, List.getD_eq_getElem?_getD, List.getElem?_eq_none (by omega)]
          rfl
        refine q_asg (v := .str ln) (ev_if (b := decide (((i : Nat) : Int) < ((((lns z).map V.str).length : Nat) : Int))) (et_test (ev_op (ev_var rfl) (ev_len (ev_var rfl) (sq_of hg')) (rv_I0 (g := fun i j => .bl (decide (i < j)))))) (fun hb => ?_) (fun hb => ?_)) fun H3 e3 => ?_
        · have hlt := hlt.mp (of_decide_eq_true hb)
          refine ev_op (ev_var rfl) (ev_var rfl) (rv_ixL (sq_of hg') (at_nat (by rw [List.length_map]; exact hlt) ?_))
          rw [List.getElem?_map, List.getElem?_eq_getElem hlt, ← hln, List.getD_eq_getElem?_getD, List.getElem?_eq_getElem hlt]
          rfl
        · rw [far fun h => of_decide_eq_false hb (hlt.mpr h)]
          exact ev_c
        generalize hhd : hd3.getD (min i 2) "" = hd
        have hat : atI (hd3.map V.str) ((min i 2 : Nat) : Int) = some (.str hd) := at_nat (show min i 2 < 3 by omega) (by
          rw [List.getElem?_map, ← hhd, List.getD_eq_getElem?_getD, List.getElem?_eq_getElem (show min i 2 < hd3.length from (show min i 2 < 3 by omega))]
          rfl)
        have minE : (if (2 : Int) < ((i : Nat) : Int) then (2 : Int) else ((i : Nat) : Int)) = ((min i 2 : Nat) : Int) := by split <;> omega
        refine q_call (vs := [.str ln, .str hd]) (ea_cons (ev_var rfl) (ea_cons (ev_opL1 (y := .int ((min i 2 : Nat) : Int)) (el_lst (ea_cons ev_c (ea_cons ev_c (ea_cons ev_c ea_nil))) (show 3 ≤ 100000 by decide)) (fun H4 e4 => ev_is (ev_min2 (ev_var rfl) ev_c) (by rw [minE])) fun p H4 hp e4 => rv_ixL (sq_of hp) hat) ea_nil)) fun H4 e4 => ⟨ln, hd, rfl, lnl.1, lnl.2, fun v H5 s5 hv5 _ => ?_⟩
        have sT : Same H' H5 := (Same.trans e3 e4).trans s5
        have lost : ∀ {H6 : Hp}, Ex H5 H6 → (okRow i ln).isNone = true → tRet (tTup (tCons (tC (.str "InvalidText")) (tCons (tVar 3) tNil))) { nx := M2, rt := Q } [some (.str z), some (.ref g), some (.ref l), some (.int (i : Int)), some (.str ln), some v, none, none, none, none, none, none, none] H6 := fun e6 hb =>
          s_retU (eu_tup (ea_cons ev_c (ea_cons (ev_var rfl) ea_nil)) (show 2 ≤ 100000 by decide)) fun r H7 _ e7 h7 => toD (((up.trans sT).trans e6).trans e7) (by
            have nb : bV z = some i := by
              unfold bV
              by_cases hlt : i < (lns z).length
              · rw [first_at (by rw [hln]; exact hb) good hlt]
                rfl
              · have e1 : (lns z).length = i := by omega
                rw [first_none (fun j hj => good j (by omega)), if_pos (by omega), e1]
                rfl
            unfold vofD
            rw [nb]
            exact .tup (.of h7) (.cons (.str _) (.cons (.int _) .nil)))
        by_cases i3 : i < 3
        · have gt2 : ¬ ((i : Nat) : Int) > 2 := by omega
          have hh : hd3[i]? = some hd := by
            rw [← hhd, show min i 2 = i by omega, List.getD_eq_getElem?_getD, List.getElem?_eq_getElem (show i < hd3.length from i3)]
            rfl
          have ok := okRow_at (ln := ln) hh
          cases ho : rowW hd ln with
          | none =>
            rw [ho] at hv5 ok
            obtain rfl : v = .non := hv5
            refine q_when (b := true) (et_is (et_or (a := false) (b := true) (et_is (et_test (ev_op (ev_var rfl) ev_c (rv_I0 (g := fun i j => .bl (decide (i > j)))))) (decide_eq_false gt2)) (fun _ => et_is (et_or (a := true) (b := false) (et_is (et_isV rfl) (decide_eq_true rfl)) (fun h => nomatch h)) rfl)) rfl) (fun _ H6 e6 => ?_) (fun h => nomatch h)
            exact lost e6 (by rw [ok]; rfl)
          | some ns =>
            rw [ho] at hv5 ok
            obtain ⟨p, rfl, hp⟩ := hv5
            refine q_when (b := decide ((i = 0 ∧ ns.length ≠ 1) ∨ (i = 2 ∧ ns = []))) (et_is (et_or (a := false) (et_is (et_test (ev_op (ev_var rfl) ev_c (rv_I0 (g := fun i j => .bl (decide (i > j)))))) (decide_eq_false gt2)) (fun _ => et_or (a := false) (et_is (et_isV rfl) (by simp)) (fun _ => et_or (et_and (et_test (ev_op (ev_var rfl) ev_c (rv_eq rfl))) (fun _ => et_test (ev_op (ev_len (ev_var rfl) (sq_of hp)) ev_c (rv_ne rfl))))
              (fun _ => et_and (et_test (ev_op (ev_var rfl) ev_c (rv_eq rfl))) (fun _ => et_test (ev_opL (ev_var rfl) (el_lst ea_nil (by decide)) fun p6 H6 h6 e6 => rv_eqD (fun H7 e7 => .lst (ex_l (e6.trans e7) (sq_of hp)) (intsDp ns)) (fun H7 e7 => .lst (sq_of (e7 _ _ h6)) .nil) (ints_sh ns) (by decide +kernel))))))) ?_) (fun hb H6 e6 => lost e6 ?_) (fun hb H6 e6 => ?_)
            · exact cond2 i ns
            · rw [ok]
              show (if (i = 0 ∧ ns.length ≠ 1) ∨ (i = 2 ∧ ns = []) then none else some ns : Option (List Int)).isNone = true
              rw [if_pos (of_decide_eq_true hb)]
              rfl
            · have ok1 : okRow i ln = some ns := by
                rw [ok]
                show (if (i = 0 ∧ ns.length ≠ 1) ∨ (i = 2 ∧ ns = []) then none else some ns : Option (List Int)) = some ns
                rw [if_neg (of_decide_eq_false hb)]
              have hl6 : H6 l = some (.lst vs) := e6 _ _ (sT _ _ hl')
              refine s_appU hl6 (ev_var rfl) (eu_tupL (ev_var rfl) (e6 _ _ hp)) (by omega) fun p3 H7 np3 e7 h7 => ?_
              have s7 : Same H' H7 := (sT.trans e6).trans e7
              have p3l : p3 ≠ l := (ne_of_none hl6 np3).symm
              have hl7 : H7 l = some (.lst vs) := s7 _ _ hl'
              have k7 : TK K H7 (upd H7 l (.lst (vs ++ [.ref p3]))) := .but (fun b => b = l) (fun b o e n => by rw [upd_ne n]; exact e) fun b xs z => by
                rw [z]
                exact Rd.lst_no hl7
              have vl : vL z i = ns := by
                unfold vL
                rw [hln, ok1]
                rfl
              refine ⟨⟨_, _, _, vs ++ [.ref p3], rfl, upd_same, ((hts.tk (.same s7)).tk k7).snoc ?_, by rw [List.length_append, hv]; rfl⟩, fun b o e n => ?_, fun j hj => ?_⟩
              · rw [hv, vl]
                exact .of (by rw [upd_ne p3l]; exact h7)
              · rw [upd_ne n]
                exact s7 _ _ (keep b o e n)
              · rcases Nat.lt_succ_iff_lt_or_eq.mp hj with h | rfl
                · exact good j h
                · rw [hln, ok1]
                  rfl
        · refine q_when (b := true) (et_is (et_or (a := true) (b := false) (et_is (et_test (ev_op (ev_var rfl) ev_c (rv_I0 (g := fun i j => .bl (decide (i > j)))))) (decide_eq_true (show ((i : Nat) : Int) > 2 by omega))) (fun h => nomatch h)) rfl) (fun _ H6 e6 => ?_) (fun h => nomatch h)
          exact lost e6 (okRow_few (by omega))
      · rintro σ' H' ⟨⟨v3, v4, v5, vs, rfl, hl', hts, hv⟩, keep, good⟩
        have e : (((max 2 (lns z).length : Nat) : Int)).toNat = max 2 (lns z).length := rfl
        rw [e] at hv
        have good : ∀ j, j < max 2 (lns z).length → (okRow j ((lns z).getD j "")).isNone = false := fun j hj => good j (by rw [e]; exact hj)
        have l2 : 2 ≤ (lns z).length := by
          by_cases h : 2 ≤ (lns z).length
          · exact h
          · have := good 1 (by omega)
            rw [List.getD_eq_getElem?_getD, List.getElem?_eq_none (by omega)] at this
            rw [show (none : Option Str).getD "" = "" from rfl, okRow_empty] at this
            cases this
        have l3 : (lns z).length ≤ 3 := by
          by_cases h : (lns z).length ≤ 3
          · exact h
          · have := good 3 (by omega)
            rw [okRow_few (Nat.le_refl 3)] at this
            cases this
        have nb : bV z = none := by
          unfold bV
          rw [first_none (fun j hj => good j (by omega)), if_neg (by omega)]
          rfl
        have one : (vL z 0).length = 1 := by
          have h := good 0 (by omega)
          unfold vL
          revert h
          rw [okRow_at (h := "round") rfl]
          cases rowW "round" ((lns z).getD 0 "") with
          | none => exact fun h => nomatch h
          | some ns =>
            show (if (0 = 0 ∧ ns.length ≠ 1) ∨ (0 = 2 ∧ ns = []) then none else some ns : Option (List Int)).isNone = false → ((if (0 = 0 ∧ ns.length ≠ 1) ∨ (0 = 2 ∧ ns = []) then none else some ns : Option (List Int)).getD []).length = 1
            by_cases c : ns.length = 1
            · rw [if_neg (by omega)]
              exact fun _ => c
            · rw [if_pos (.inl ⟨rfl, c⟩)]
              exact fun h => nomatch h
        exact ⟨g, l, v3, v4, v5, vs, rfl, fun b o x => keep b o (sm' _ _ x) (ne_of_none x nl), hl', hts, by omega, l2, l3, nb, one⟩
    · obtain ⟨g, l, v3, v4, v5, vs, rfl, sm', hl, hts, hv, l2, l3, nb, one⟩ := m2
      obtain ⟨p0, g0, t0⟩ := hts 0 (by omega)
      obtain ⟨p1, g1, t1⟩ := hts 1 (by omega)
      have head : atI ((vL z 0).map V.int) ((0 : Nat) : Int) = some (.int ((vL z 0).headD 0)) := by
        match e : vL z 0, one with
        | [x], _ => rfl
      unfold tPar3 tCons
      refine (ev_op (ev_op (ev_var rfl) ev_c (rv_ixL (sq_of hl) (at_nat (i := 0) (by omega) g0))) ev_c (rv_ixT t0 head)) H2 (Ex.refl _) _ fun H3 e3 => ?_
      refine (ev_op (ev_var rfl) ev_c (rv_ixL (sq_of hl) (at_nat (i := 1) (by omega) g1))) H3 e3 _ fun H4 e4 => ?_
      refine ⟨_, rfl, ?_⟩
      unfold tLst
      refine eu_tup ea_nil (by decide) H4 (Ex.refl _) _ fun t H5 nt e5 ht => ⟨Nat.le_of_lt (small1000 (show 1 ≤ 1000 by decide)), fun p np => ?_⟩
      have e25 : Ex H2 H5 := (e3.trans e4).trans e5
      obtain ⟨v, hv2, hto⟩ : ∃ v, atI (vs ++ [V.ref t]) ((2 : Nat) : Int) = some v ∧ TiA K H5 v (oL z) := by
        by_cases three : (lns z).length = 3
        · obtain ⟨p2, g2, t2⟩ := hts 2 (by omega)
          refine ⟨.ref p2, at_nat (by rw [List.length_append]; omega) (by rw [List.getElem?_append_left (by omega)]; exact g2), p2, rfl, ?_⟩
          rw [show oL z = vL z 2 from if_pos three]
          exact ex_t e25 t2
        · refine ⟨.ref t, at_nat (by rw [List.length_append, List.length_singleton]; omega) (by rw [List.getElem?_append_right (by omega), show 2 - vs.length = 0 by omega]; rfl), t, rfl, ?_⟩
          rw [show oL z = [] from if_neg three]
          exact st_of ht
      have hl5 : H5 l = some (.lst vs) := e25 _ _ hl
      refine ⟨l, p, vs, [.ref t], rfl, rfl, ?_, upd_same, Nat.le_of_lt (small1000 (by rw [hv, List.length_singleton]; omega)), fun r nr => ?_⟩
      · rw [upd_ne (ne_of_none hl5 np)]
        exact hl5
      · have s6 : Same H5 (upd (upd H5 p (.lst [.ref t])) r (.lst (vs ++ [.ref t]))) := Same.trans (same_new np) (same_new nr)
        exact ⟨r, _, 2, v, rfl, rfl, .of upd_same, hv2, _, _, _, rfl, g, l, v3, v4, v5, .ref p1, v, rfl, (sm'.trans e25).trans s6, ⟨p1, rfl, ex_t (e25.trans s6) t1⟩, hto.tk (.same s6), nb⟩
    · obtain ⟨g, l, v3, v4, v5, d, o, rfl, sm', hd, ho, nb⟩ := m3
      refine s_when (b := !(decide (1 ≤ (vL z 0).headD 0) && decide ((vL z 0).headD 0 ≤ 14))) (et_not (et_test (ev_chainI (p := fun i j => decide (i ≤ j)) (q := fun i j => decide (i ≤ j)) ev_c (ev_var rfl) ev_c))) (fun hb H4 e4 => ?_) (fun hb H4 e4 => ?_)
      · refine s_retU (eu_tup (ea_cons ev_c (ea_cons ev_c (ea_cons ev_c ea_nil))) (show 3 ≤ 100000 by decide)) fun r H5 _ e5 h5 => toD ((sm'.trans e4).trans e5) ?_
        unfold vofD
        rw [nb, show tbad ((vL z 0).headD 0) (vL z 1) (oL z) = some (("length" : Str), 0) from by
          unfold tbad
          rw [if_neg fun hc => by
            rw [decide_eq_true hc.1, decide_eq_true hc.2] at hb
            cases hb]]
        exact .tup (.of h5) (.cons (.str _) (.cons (.str _) (.cons (.int _) .nil)))
      · have hc : 1 ≤ (vL z 0).headD 0 ∧ (vL z 0).headD 0 ≤ 14 := by simpa using hb
        exact ⟨g, l, v3, v4, v5, d, o, rfl, sm'.trans e4, hd.tk (.same e4), ho.tk (.same e4), nb, hc⟩
    · obtain ⟨g, l, v3, v4, v5, d, o, rfl, sm', ⟨pd, rfl, hd⟩, ⟨po, rfl, ho⟩, nb, hc⟩ := m4
      have pw : (10 : Int) ^ (18 : Int).toNat = 1000000000000000000 := by decide +kernel
      refine s_for2 (xs := [.str "days", .ref pd, .int ((vL z 0).headD 0 - 1), .int 14]) (ys := [.str "exceptions", .ref po, .int 1000000000000000000, .int 6]) ?_ ?_ fun a1 a2 a3 H7 h17 h27 h37 e47 => ?_
      · exact eu_tup (ea_cons ev_c (ea_cons (ev_var rfl) (ea_cons (ev_op (ev_var rfl) ev_c rv_I0) (ea_cons ev_c ea_nil)))) (show 4 ≤ 100000 by decide)
      · exact eu_tup (ea_cons ev_c (ea_cons (ev_var rfl) (ea_cons (ev_is (ev_pw (i := 10) (j := 18) ev_c ev_c ⟨by decide, by decide, by decide⟩) (by rw [pw])) (ea_cons ev_c ea_nil)))) (show 4 ≤ 100000 by decide)
      refine ⟨fun i σ' H' => (∃ v5 v9 v10 v11 v12, σ' = [some (.str z), some (.ref g), some (.ref l), v3, v4, v5, some (.int ((vL z 0).headD 0)), some (.ref pd), some (.ref po), v9, v10, v11, v12]) ∧ Ex H7 H' ∧ (1 ≤ i → vbad (vL z 1) ((vL z 0).headD 0 - 1) 14 = none) ∧ (2 ≤ i → vbad (oL z) 1000000000000000000 6 = none),
        ⟨⟨_, _, _, _, _, rfl⟩, Ex.refl _, fun h => absurd h (by decide), fun h => absurd h (by decide)⟩, fun i σ' H' w => st_of (w.2.1 _ _ h37), ?_, ?_⟩
      · rintro i x σ' H' hx ⟨⟨y5, y9, y10, y11, y12, rfl⟩, e', b1, b2⟩
        match i, hx with
        | 0, hx =>
          obtain rfl : V.ref a1 = x := Option.some.inj hx
          refine ⟨a1, _, rfl, st_of (e' _ _ h17), rfl, _, _, rfl, _, _, rfl, _, _, rfl, _, _, rfl, rfl, ?_⟩
          refine vof_in (p := pd) (ns := vL z 1) (ex_t (e47.trans e') hd) (vL_len hz 1) (fun H8 e8 => ea_cons (ev_is (ev_lenT rfl (ex_t ((e47.trans e').trans e8) hd)) (by rw [List.length_map])) ea_nil) (fun k H8 hk8 e8 => vof_t (ex_t ((e47.trans e').trans e8) hd) hk8 (vL_nn hz 1)) (fun k H8 hv e8 r hr => toD ((sm'.trans (e47.trans e')).trans e8) ?_) (fun hv y H8 e8 => ⟨⟨_, _, _, _, _, rfl⟩, e'.trans e8, fun _ => hv, fun h => absurd h (by decide)⟩)
          unfold vofD
          rw [nb, show tbad ((vL z 0).headD 0) (vL z 1) (oL z) = some (("days" : Str), k) from by
            unfold tbad
            rw [if_pos hc, hv]]
          exact .tup (.of hr) (.cons (.str _) (.cons (.str _) (.cons (.int _) .nil)))
        | 1, hx =>
          obtain rfl : V.ref a2 = x := Option.some.inj hx
          refine ⟨a2, _, rfl, st_of (e' _ _ h27), rfl, _, _, rfl, _, _, rfl, _, _, rfl, _, _, rfl, rfl, ?_⟩
          have b1 := b1 (by decide)
          refine vof_in (p := po) (ns := oL z) (ex_t (e47.trans e') ho) (oL_len hz) (fun H8 e8 => ea_cons (ev_is (ev_lenT rfl (ex_t ((e47.trans e').trans e8) ho)) (by rw [List.length_map])) ea_nil) (fun k H8 hk8 e8 => vof_t (ex_t ((e47.trans e').trans e8) ho) hk8 (oL_nn hz)) (fun k H8 hv e8 r hr => toD ((sm'.trans (e47.trans e')).trans e8) ?_) (fun hv y H8 e8 => ⟨⟨_, _, _, _, _, rfl⟩, e'.trans e8, fun _ => b1, fun _ => hv⟩)
          unfold vofD
          rw [nb, show tbad ((vL z 0).headD 0) (vL z 1) (oL z) = some (("exceptions" : Str), k) from by
            unfold tbad
            rw [if_pos hc, b1, hv]]
          exact .tup (.of hr) (.cons (.str _) (.cons (.str _) (.cons (.int _) .nil)))
        | i + 2, hx => cases hx
      · rintro σ' H' ⟨⟨y5, y9, y10, y11, y12, rfl⟩, e', b1, b2⟩
        refine ⟨g, l, v3, v4, y5, y9, y10, y11, y12, .ref pd, .ref po, rfl, (sm'.trans e47).trans e', ⟨pd, rfl, ex_t (e47.trans e') hd⟩, ⟨po, rfl, ex_t (e47.trans e') ho⟩, nb, ?_⟩
        unfold tbad
        rw [if_pos hc, b1 (by decide), b2 (by decide)]
    · obtain ⟨g, l, v3, v4, v5, v9, v10, v11, v12, d, o, rfl, sm', ⟨pd, rfl, hd⟩, ⟨po, rfl, ho⟩, nb, hb⟩ := m5
      refine s_retL (el_lst (ea_cons (ev_var rfl) (ea_cons (ev_var rfl) (ea_cons (ev_var rfl) ea_nil))) (show 3 ≤ 100000 by decide)) fun r H6 _ e6 h6 => toD (sm'.trans e6) ?_
      unfold vofD
      rw [nb, hb]
      exact .lst (.of h6) (.cons (.int _) (.cons (.tup (ex_t e6 hd) (intsDp _)) (.cons (.tup (ex_t e6 ho) (intsDp _)) .nil)))
end
end Sea

set_option Elab.async false
set_option linter.all false
set_option maxRecDepth 100000
set_option maxHeartbeats 4000000
namespace Sea
open PySem PySem.Spec PyProof.Rows L2 LamX NdefX ClX Evl StX
abbrev sOut : Stmt := top 28
abbrev NOu : List Str := ["_law_work", "e"]
theorem scOut : FnScope NOu ["_law_work"] (defScope sOut) := ⟨rfl, rfl, rfl, by decide +kernel, rfl, by decide +kernel, by decide +kernel⟩
structure TOu (K : PySem.W.Frag) (mg : Str → Option Value) (cI cR cV : Addr) : Prop where
  gI : mg "InvalidTariff" = some (.ref cI)
  gR : mg "InvalidText" = some (.ref cR)
  gV : mg "InvalidTravel" = some (.ref cV)
  fI : XfC K cI
  fR : XfC K cR
  fV : XfC K cV
  nI : PySem.W.findIn K (.ref cI) "index" = some none
  nR : PySem.W.findIn K (.ref cR) "row" = some none
  nV : PySem.W.findIn K (.ref cV) "index" = some none
  pV : PySem.W.findIn K (.ref cV) "part" = some none
  II : PySem.W.exmOne K (.ref cI) (.ref cI) = some true
  RI : PySem.W.exmOne K (.ref cR) (.ref cI) = some false
  RR : PySem.W.exmOne K (.ref cR) (.ref cR) = some true
  VI : PySem.W.exmOne K (.ref cV) (.ref cI) = some false
  VR : PySem.W.exmOne K (.ref cV) (.ref cR) = some false
  VV : PySem.W.exmOne K (.ref cV) (.ref cV) = some true
/-- what _law_outcome answers: of a thunk that gives a value, the value; of one that raises, a tuple -/
def spOut (cI cR cV : Addr) : (Hp → VK → XK → Prop) → Hp → VK → XK → Prop := fun tl H Q _ => tl H Q fun cls d H1 =>
  (cls = .ref cI ∧ ∃ (dx : Addr) (i : Int), d = some dx ∧ H1 dx = some (.xd [("index", .int i)]) ∧ ∀ r H', Same H1 H' → H' r = some (.tup [.str "InvalidTariff", .int i]) → Q (.ref r) H') ∨
  (cls = .ref cR ∧ ∃ (dx : Addr) (i : Int), d = some dx ∧ H1 dx = some (.xd [("row", .int i)]) ∧ ∀ r H', Same H1 H' → H' r = some (.tup [.str "InvalidText", .int i]) → Q (.ref r) H') ∨
  (cls = .ref cV ∧ ∃ (dx : Addr) (p : Str) (i : Int), d = some dx ∧ H1 dx = some (.xd [("index", .int i), ("part", .str p)]) ∧ ∀ r H', Same H1 H' → H' r = some (.tup [.str "InvalidTravel", .str p, .int i]) → Q (.ref r) H')
section
variable {P : Program} {w : World} {K : PySem.W.Frag} {mg : Str → Option Value} {base : Heap} {cI cR cV : Addr}
theorem ok_out {f : Addr} {fd : FuncData} {j k : Nat} (F : Fun K "_law_outcome" "_law_outcome" sOut f fd) (T : TOu K mg cI cR cV) (hjk : j ≤ k) : FnS P w K mg base CX0 (L2.CX P w) (k + 1) j f (spOut cI cR cV) := by
  intro A outer s H fl tl Q E hr e0 hT h
  obtain ⟨oc, od, kV, doc, pm, an, cdv, ct, osl, rfl, lk, hcd⟩ := F.ex
  refine run_ofS (N := NOu) (ps := ["_law_work"]) (us := [.ref fl]) (vs := [.ref fl]) (k := k) lk hcd scOut hr e0 (.of_eq rfl) (.cons rfl .nil) rfl fun hr' => ?_
  refine ⟨_, pss_one (ps_try_cls (X := (cxOf CX0 P w K mg base NOu "_law_outcome" (defScope sOut) f cdv A outer s H E)) (W := fun _ _ _ _ => False) rfl rfl L2.takes0
      (fun U pn xe tk hp => pss_one (ps_ret (show PE ((cxOf CX0 P w K mg base NOu "_law_outcome" (defScope sOut) f cdv A outer s H E).tr pn xe) _ (tActM (cxOf CX0 P w K mg base NOu "_law_outcome" (defScope sOut) f cdv A outer s H E) j 0 fun σ => WE U σ) from
        pe_actM (X := (cxOf CX0 P w K mg base NOu "_law_outcome" (defScope sOut) f cdv A outer s H E).tr pn xe) (j := j) (i := 0) (E := fun σ => WE U σ) (hr'.mono hjk) rfl (fun σ => passAt tk σ) rfl (.inl rfl))))
      (.cons (.named (i := 1) scOut.nd rfl rfl ⟨by rfl, by decide, .inl T.gI⟩ (fun a oe cls d pn hz hf => pss_one (ps_ret (pe_tup (pa_cons pe_str (pa_cons (pe_xf (X := (cxOf CX0 P w K mg base NOu "_law_outcome" (defScope sOut) f cdv A outer s H E)) (pn := pn) K rfl hz hf (pv 1)) pa_nil))))))
      (.cons (.named (i := 1) scOut.nd rfl rfl ⟨by rfl, by decide, .inl T.gR⟩ (fun a oe cls d pn hz hf => pss_one (ps_ret (pe_tup (pa_cons pe_str (pa_cons (pe_xf (X := (cxOf CX0 P w K mg base NOu "_law_outcome" (defScope sOut) f cdv A outer s H E)) (pn := pn) K rfl hz hf (pv 1)) pa_nil))))))
      (.cons (.named (i := 1) scOut.nd rfl rfl ⟨by rfl, by decide, .inl T.gV⟩ (fun a oe cls d pn hz hf => pss_one (ps_ret (pe_tup (pa_cons pe_str (pa_cons (pe_xf (X := (cxOf CX0 P w K mg base NOu "_law_outcome" (defScope sOut) f cdv A outer s H E)) (pn := pn) K rfl hz hf (pv 1)) (pa_cons (pe_xf (X := (cxOf CX0 P w K mg base NOu "_law_outcome" (defScope sOut) f cdv A outer s H E)) (pn := pn) K rfl hz hf (pv 1)) pa_nil))))))) .nil)))), ?_⟩
  refine ⟨fl, tl, _, _, rfl, rfl, hT, h, fun v H1 q => q, fun cls d H1 hc => ?_⟩
  rcases hc with ⟨rfl, dx, i, rfl, hx, q⟩ | ⟨rfl, dx, i, rfl, hx, q⟩ | ⟨rfl, dx, p, i, rfl, hx, q⟩
  · refine ⟨true, T.II, fun a na => ?_⟩
    exact ⟨cI, rfl, T.fI, T.nI, .ref a, rfl, rfl, rfl, dx, _, _, rfl, hx, rfl, Nat.le_of_lt (small1000 (show 2 ≤ 1000 by decide)), fun r nr => q r _ (same_new nr) upd_same⟩
  · refine ⟨false, T.RI, true, T.RR, fun a na => ?_⟩
    exact ⟨cR, rfl, T.fR, T.nR, .ref a, rfl, rfl, rfl, dx, _, _, rfl, hx, rfl, Nat.le_of_lt (small1000 (show 2 ≤ 1000 by decide)), fun r nr => q r _ (same_new nr) upd_same⟩
  · refine ⟨false, T.VI, false, T.VR, true, T.VV, fun a na => ?_⟩
    exact ⟨cV, rfl, T.fV, T.pV, .ref a, rfl, rfl, rfl, dx, _, _, rfl, hx, rfl, cV, rfl, T.fV, T.nV, .ref a, rfl, rfl, rfl, dx, _, _, rfl, hx, rfl, Nat.le_of_lt (small1000 (show 3 ≤ 1000 by decide)), fun r nr => q r _ (same_new nr) upd_same⟩
end
end Sea

set_option Elab.async false
set_option linter.all false
set_option maxRecDepth 100000
set_option maxHeartbeats 4000000
/-! set(list of ints), sorted(tuple of ints), t[::-1] -/
namespace Sea
open PySem PySem.Spec PyProof.Rows L2
section
variable {P : Program} {w : World} {A : Around} {E : Value → Shared → Prop} {s : Shared}
/-- a set just made -/
abbrev bareSet (w : World) : Obj := { cls := .type "set", dict := none, data := .set #[] 0 (.fresh 0 0 (!w.params.followText "set-order")) }
/-- the set made is filled from a walk over ints: set.__init__ at the list l -/
theorem fill_list {l : Addr} {items : Array Value} (ns : List Int) {R : Result → Shared → Prop} (hh : A.handled = none) (hl : s.heap.IsList l items) (hi : IntsAre items.toList ns) (few : ns.length + 1 < scanBound)
    (h : ∀ (h' : Heap) (tk c : Nat), SetR w h' s.heap.objs.size (fun j => decide (j ∈ ns)) c → c ≤ ns.length → (∀ b o, s.heap.get? b = some o → h'.get? b = some o) → R (.ok (.ret .none)) { s with heap := h', toks := tk }) :
    codeAny (model P w) A (.call (.builtin "set.__init__") ⟨[.ref s.heap.objs.size, .ref l], []⟩) R { s with heap := s.heap.push (bareSet w) } := by
  have many : items.size = ns.length := by rw [← Array.length_toList]; exact IntsAre.length hi
  have made : (s.heap.push (bareSet w)).get? s.heap.objs.size = some (bareSet w) := Heap.get?_push_size _ rfl
  have still : (s.heap.push (bareSet w)).IsList l items := hl.push _
  have below : l < s.heap.objs.size := hl.choose_spec.1 |> Heap.lt_size
  have grown : (s.heap.push (bareSet w)).objs.size = s.heap.objs.size + 1 := Heap.size_push ..
  obtain ⟨⟨ocls, odict, odata, oslots⟩, at_, oc, nl, od⟩ := id still
  obtain rfl : ocls = _ := oc
  obtain rfl : odata = _ := od
  have notSet := F.sub_list_set
  have notFrozen := F.sub_list_frozenset
  have notDict : (Value.type "list" == Value.type "dict") = false := by decide
  refine codeAny_call_builtin F.called_set.init.plain F.entry_set_init (check_set_init_1 ⟨_, made, rfl⟩ ?_)
  unfold Builtin.«set.__init__» noKeywords Builtin.Frozenset.updateFrom
  generalize hPI : pyIter = PI
  wp_walk
  subst hPI
  refine wpAny_pyIter_list still (wpAny_bind (wpAny_runValue ?_))
  have item : ∀ (i : Nat) (v : Value), items[i]? = some v → ∃ k t, ns[i]? = some k ∧ v = .int k t := by
    intro i v hv
    obtain ⟨t, e⟩ := IntsAre.int_at hi i v (by rwa [Array.getElem?_toList])
    have lt : i < ns.length := many ▸ (Array.getElem?_eq_some_iff.mp hv).1
    exact ⟨ns[i], t, List.getElem?_eq_getElem lt, by rw [e, List.getD_eq_getElem?_getD, List.getElem?_eq_getElem lt]; rfl⟩
  have walk := Walks.list (prog := P) (w := w) (A := A.in1.in1) (by exact hh) (s.heap.push (bareSet w)).objs.size l (by rw [grown]; exact Nat.ne_of_lt (Nat.lt_succ_of_lt below)) items
  refine set_update_ints walk.toS s.heap.objs.size ?_ ns many few item (items.size - 0) 0 _ rfl (Nat.zero_le _) ⟨⟨_, Heap.get?_push_size _ rfl, rfl, rfl⟩, still.push _⟩ ⟨0, Nat.le_refl 0, setR_new_at (Heap.get?_push_of_some _ made)⟩ ?_
  · simp only [grown, List.mem_cons, List.not_mem_nil, or_false, not_or]
    exact ⟨Nat.ne_of_lt (Nat.lt_succ_self _), Nat.ne_of_gt below⟩
  · rintro ⟨h', g2, d', tk', os'⟩ c moved le full
    obtain rfl : g2 = s.gens := moved.gens
    obtain rfl : d' = s.drawn := moved.drawn
    obtain rfl : os' = s.os := moved.os
    refine wpAny_pure (wpAny_pure (h h' tk' c full (many ▸ le) fun b o e => moved.heap b o ?_ (Heap.get?_push_of_some _ (Heap.get?_push_of_some _ e))))
    have old := Heap.lt_size e
    simp only [grown, List.mem_cons, List.not_mem_nil, or_false, not_or]
    exact ⟨Nat.ne_of_lt old, Nat.ne_of_lt (Nat.lt_succ_of_lt old)⟩
/-- set(l), l a list of ints -/
theorem set_list {l : Addr} {items : Array Value} (ns : List Int) {Q : Value → Shared → Prop} (hh : A.handled = none) (hl : s.heap.IsList l items) (hi : IntsAre items.toList ns) (few : ns.length + 1 < scanBound)
    (h : ∀ (h' : Heap) (tk c : Nat), SetR w h' s.heap.objs.size (fun j => decide (j ∈ ns)) c → c ≤ ns.length → (∀ b o, s.heap.get? b = some o → h'.get? b = some o) → Q (.ref s.heap.objs.size) { s with heap := h', toks := tk }) :
    wpAny (model P w) A (call (.type "set") [.ref l]) Q E s := by
  have ⟨c, tl, hmro⟩ := F.called_set.mro
  have hmade := F.called_set.made
  have hsub := F.called_set.sub
  have h1 := F.called_set.notType
  have h2 := F.called_set.canCreate
  have hct := F.typeCall_set_1 (.ref l)
  have isSet : Shared.TypeIs { s with heap := s.heap.push (bareSet w) } (.ref s.heap.objs.size) "set" := ⟨_, Heap.get?_push_size _ rfl, rfl⟩
  have find := F.called_set.init.lookup
  have bind := F.called_set.init.bind (.ref s.heap.objs.size)
  apply wpAny_call
  apply codeAny_of_tree
  show wpAny _ _ (callAny (.type "set") _) _ _ _
  apply wpAny_pure
  refine ⟨Code.quiet_builtin _ (by decide +kernel), codeAny_builtin F.entry_type_call ?_⟩
  rw [Around.under_plain (weight_type_call_type "set" [.ref l] []) rfl]
  repeat (any_goals (first | assumption | wp_step))
  refine codeAny_mono (code_set_led1 (.ref l) (E := E) (Q₁ := fun obj s1 => obj = .ref s.heap.objs.size ∧ s1 = { s with heap := s.heap.push (bareSet w) }) ⟨rfl, rfl⟩) ?_
  intro r s1 z
  match r, z with
  | .error _, z => exact z
  | .ok .next, z => exact z.elim
  | .ok .brk, z => exact z.elim
  | .ok .cont, z => exact z.elim
  | .ok (.ret obj), ⟨e1, e2⟩ =>
    subst e1 e2
    repeat (any_goals (first | assumption | wp_step))
    refine codeAny_mono (fill_list (R := wants (fun r s2 => r = .none ∧ Q (.ref s.heap.objs.size) s2) E) ns hh hl hi few fun h' tk c full le old => ⟨rfl, h h' tk c full le old⟩) ?_
    intro r s2 z
    match r, z with
    | .error _, z => exact z
    | .ok .next, z => exact z.elim
    | .ok .brk, z => exact z.elim
    | .ok .cont, z => exact z.elim
    | .ok (.ret _), ⟨e, z⟩ =>
      subst e
      repeat (any_goals (first | assumption | wp_step))
end
end Sea

set_option Elab.async false
set_option linter.all false
set_option maxRecDepth 100000
set_option maxHeartbeats 4000000
/-! set(list of ints), sorted(tuple of ints), t[::-1] -/
namespace Sea
open PySem PySem.Spec PyProof.Rows L2
/-- sorted(t), t a tuple of ints -/
theorem sorted_tuple {P : Program} {w : World} {A : Around} {E : Value → Shared → Prop} {s : Shared} {t : Addr} {vs : List Value} (ns : List Int) {Q : Value → Shared → Prop} (ht : IsTup s.heap t vs.toArray) (hi : IntsAre vs ns) (few : vs.length ≤ 1000)
    (h : ∀ (h1 h' : Heap) (out : Array Value) (c : Nat) (ns' : List Int), (∀ b o, s.heap.get? b = some o → h1.get? b = some o) → (∀ b o, h1.get? b = some o → h'.get? b = some o) → h'.get? h1.objs.size = some (seqObj "list" out c) → IntsAre out.toList ns' → ns'.Perm ns → ns'.Pairwise (· ≤ ·) → Q (.ref h1.objs.size) { s with heap := h' }) :
    wpAny (model P w) A (call (.builtin "sorted") [.ref t]) Q E s := by
  have line : vs.length ≤ sizeLine := by rw [sizeLine_eq]; omega
  obtain ⟨o, at_, oc, n, od⟩ := id ht
  apply Calls.call_function_entry kind_sorted plain_sorted entry_sorted (args_sorted1 _)
  unfold Builtin.«sorted»
  refine wpAny_bind (m := checkCount "sorted" 1 1 _) (wpAny_pure (wpAny_bind (wpAny_collect_seq t (.inr rfl) at_ oc od (fun h1 old => ?_) (by rwa [List.size_toArray]))))
  rw [List.toList_toArray]
  refine wpAny_bind (wpAny_newList ?_ line)
  have made : (h1.push (seqObj "list" vs.toArray 0)).get? h1.objs.size = some (seqObj "list" vs.toArray 0) := Heap.get?_push_size _ rfl
  refine wpAny_bind (wpAny_holding (wpAny_call_entry slot_list_sort ⟨_, made, rfl⟩ entry_list_sort (list_sort_treeAny made hi line fun out ns' a b c => ⟨_, rfl, ?_⟩) (args_list_sort _)))
  obtain ⟨c', there⟩ := sortedHeap_at (vs := vs) (out := out) made
  refine wpAny_pure ⟨_, rfl, h h1 _ out c' ns' old (fun b o e => ?_) there a b c⟩
  have lt := Heap.lt_size e
  exact (sortedHeap_old (Nat.ne_of_lt lt) (by rw [size_push']; exact Nat.lt_succ_of_lt lt)).trans (Heap.get?_push_of_some _ e)
section
variable {X : Cx}
def rSortedT (K : PySem.W.Frag) : List V → Hp → VK → Prop := fun vs H Q => ∃ (a : Addr) (ns : List Int), vs = [.ref a] ∧ SqT K H a (ns.map V.int) ∧ ns.length ≤ 1000 ∧ ∀ (ns' : List Int) (p : Addr), ns'.Perm ns → ns'.Pairwise (· ≤ ·) → H p = none → Q (.ref p) (upd H p (.lst (ns'.map V.int)))
theorem cr_sortedT : CallR X (.builtin "sorted") (rSortedT X.K) := by
  rintro pins s σ H _ us Q I r ⟨a, ns, rfl, ht, few, q⟩
  obtain ⟨its, rv, pt, _⟩ := I.tuple ht
  rw [Vals.ref1 r]
  have many : its.length = ns.length := by rw [← rv.length, List.length_map]
  refine sorted_tuple ns pt rv.ints (by omega) ?_
  intro h1 h' out c ns' old new there whole perm rising
  have J : Inv X pins σ H { s with heap := h1, toks := s.toks } := I.kept (t' := s.toks) old
  have fits : (ns'.map V.int).length ≤ sizeLine := by rw [List.length_map, perm.length_eq, sizeLine_eq]; omega
  exact ⟨.ref h1.objs.size, _, J.laid (t' := s.toks) (o := .lst (ns'.map V.int)) new (Nat.le_refl _) ⟨fits, out.toList, c, vals_of_ints whole, there⟩, rfl, q ns' _ perm rising (J.hok.fresh (Nat.le_refl _))⟩
def rSetL (K : PySem.W.Frag) (w : World) : List V → Hp → VK → Prop := fun xs H Q => ∃ (p : Addr) (ns : List Int), xs = [.ref p] ∧ SqL K H p (ns.map V.int) ∧ ns.length ≤ 1000 ∧ ∀ (a : Addr) (c : Nat), H a = none → c ≤ ns.length → Q (.ref a) (upd H a (SetO w a (fun j => decide (j ∈ ns)) c))
theorem cr_setL (calm : X.calm = true) : CallR X (.type "set") (rSetL X.K X.w) := by
  rintro pins s σ H _ us Q I r ⟨p, ns, rfl, hl, few, q⟩
  obtain ⟨its, rv, there, _⟩ := I.list hl
  rw [Vals.ref1 r]
  refine set_list (items := its.toArray) ns (I.ok.hd calm) there.isList (by simpa using rv.ints) (by unfold scanBound; omega) ?_
  intro h' tk c full le old
  exact ⟨.ref s.heap.objs.size, _, I.laid (t' := tk) (a := s.heap.objs.size) old (Nat.le_refl _) (setO_new full), rfl, q _ c (I.hok.fresh (Nat.le_refl _)) le⟩
/-! ### t[::-1] -/
theorem back_pick (xs : Array Value) : ((List.range xs.size).filterMap fun (k : Nat) => xs[(((xs.size : Int) - 1) + (k : Int) * (-1)).toNat]?) = xs.toList.reverse := by
  have each : ∀ k ∈ List.range xs.size, xs[(((xs.size : Int) - 1) + (k : Int) * (-1)).toNat]? = some (xs.toList.reverse.getD k .none) := by
    intro k hk
    have lt : k < xs.size := List.mem_range.mp hk
    have e : (((xs.size : Int) - 1) + (k : Int) * (-1)).toNat = xs.size - 1 - k := by omega
    rw [e, List.getD_eq_getElem?_getD, List.getElem?_reverse (by simpa using lt)]
    simp only [Array.length_toList, Array.getElem?_toList]
    rw [Array.getElem?_eq_getElem (by omega)]
    rfl
  have go : ∀ (l : List Nat) (f : Nat → Option Value) (g : Nat → Value), (∀ k ∈ l, f k = some (g k)) → l.filterMap f = l.map g := by
    intro l f g
    induction l with
    | nil => exact fun _ => rfl
    | cons k l ih =>
      intro hk
      rw [List.filterMap_cons, hk k List.mem_cons_self, List.map_cons, ih fun j hj => hk j (List.mem_cons_of_mem _ hj)]
  rw [go _ _ _ each]
  refine List.ext_getElem (by simp) fun i h1 h2 => ?_
  rw [List.getElem_map, List.getElem_range, List.getD_eq_getElem?_getD, List.getElem?_eq_getElem h2]
  rfl
theorem getItem_back {P : Program} {w : World} {A : Around} {E : Value → Shared → Prop} {s : Shared} {t sl : Addr} {items : Array Value} {u : Tok} {Q : Value → Shared → Prop} (ht : IsTup s.heap t items) (hs : s.heap.IsSliceOf sl .none .none (.int (-1) u)) (fits : items.size ≤ sizeLine)
    (h : Q (.ref s.heap.objs.size) { s with heap := s.heap.push { cls := .type "tuple", data := .seq items.toList.reverse.toArray } }) : wpAny (model P w) A (getItem (.ref t) (.ref sl)) Q E s := by
  have ⟨os, at_, oc, od⟩ := hs
  have isSl : s.TypeIs (.ref sl) "slice" := ⟨os, at_, oc⟩
  unfold getItem
  refine wpAny_holding (wpAny_bind (wpAny_sequenceKey ht.typeIs (by decide) ?_))
  refine wpAny_bind (wpAny_callSpecial?_slot (name := Str.ofString "__getitem__") ht.typeIs slot_tuple_getitem (wpAny_call_entry slot_tuple_getitem ht.typeIs PyProof.Rows.entry_tuple_getitem ?_ (PyProof.Rows.args_tuple_getitem _ _)))
  show wpAny _ _ (Builtin.Tuple.tupleItemsOf (.ref t) >>= _) _ _ s
  refine wpAny_bind (tupleItemsOf_ ht (wpAny_bind (wpAny_typeOf isSl ?_)))
  rw [if_pos (by decide)]
  have part : ∀ {A : Around} {E : Value → Shared → Prop} {Q : Option Int → Shared → Prop}, Q (some (-1)) s → wpAny (model P w) A (Builtin.Slice.slicePartIndex (.int (-1) u)) Q E s := fun q => slicePart_int q
  unfold Builtin.Slice.sliceApplied Builtin.Slice.sliceFields
  refine wpAny_bind (wpAny_bind (wpAny_bind (wpAny_field at_ od (x := .none) rfl (wpAny_bind (wpAny_field at_ od (x := .none) rfl (wpAny_bind (wpAny_field at_ od (x := .int (-1) u) rfl (wpAny_pure ?_))))))))
  refine wpAny_bind (part (show wpAny _ _ (if ((-1 : Int) == 0) = true then _ else _) _ _ s from ?_))
  rw [if_neg (by decide)]
  have nope : ∀ {A : Around} {E : Value → Shared → Prop} {Q : Option Int → Shared → Prop}, Q none s → wpAny (model P w) A (Builtin.Slice.slicePartIndex .none) Q E s := fun q => slicePart_none q
  have places : Builtin.Slice.slicePlaces ((items.size : Int) - 1) (-1) (-1) = items.size := by
    unfold Builtin.Slice.slicePlaces
    rw [if_neg (by decide)]
    rw [show (-(-1) : Int) = 1 by decide, Int.ediv_one]
    split <;> omega
  refine wpAny_bind (nope (wpAny_bind (nope (wpAny_bind (wpAny_pure ?_)))))
  show wpAny _ _ (pure (((items.size : Int) - 1), (-1 : Int), Builtin.Slice.slicePlaces ((items.size : Int) - 1) (-1) (-1))) _ _ s
  rw [places]
  refine wpAny_pure ?_
  have notAll : ¬ (((((items.size : Int) - 1) == 0) && ((-1 : Int) == 1) && (items.size == items.size)) = true) := by simp
  dsimp only
  rw [if_neg notAll, back_pick]
  have size : items.toList.reverse.toArray.size ≤ sizeLine := by simpa using fits
  exact wpAny_bind (m := Builtin.Tuple.tupleExact _) (wpAny_newObj_type (wpAny_pure ⟨_, rfl, wpAny_pure h⟩) size)
/-- t[::-1] -/
def tRevT (K : PySem.W.Frag) (te : TE) : TE := fun σ H Q => te σ H fun x H1 => ∃ a xs, x = .ref a ∧ SqT K H1 a xs ∧ ∀ p, H1 p = none → Q (.ref p) (upd H1 p (.tup xs.reverse))
theorem pe_revT {e : Expr} {te : TE} {k : Nat} {p1 p2 p3 pos : Pos} (he : PE X e te) : PE X (.Subscript e (.Slice none none (some (.UnaryOp .USub (.Constant (.int 1) k p1) p2)) p3) pos) (tRevT X.K te) := by
  constructor
  intro pins s σ H Q I h
  have step : PO X (some (.UnaryOp .USub (.Constant (.int 1) k p1) p2)) (tPart (tUn (rU fun i => .int (-i)) (tC (.int 1)))) := po_some (pe_un un_neg pe_int)
  refine Subscript_ (thn (he.run pins s σ H _ I h) ?_)
  rintro v s1 ⟨x, H1, I1, r1, a, xs, rfl, hx, q⟩
  obtain rfl : v = .ref a := r1
  apply wpAny_Slice
  refine thn (po_none.run pins s1 σ H1 (fun o H2 => (o, H2) = (none, H1)) I1 rfl) ?_
  rintro vl s2 ⟨_, _, I2, pl, e⟩
  cases e
  refine thn (po_none.run pins s2 σ H1 (fun o H2 => (o, H2) = (none, H1)) I2 rfl) ?_
  rintro vu s3 ⟨_, _, I3, pu, e⟩
  cases e
  refine thn (step.run pins s3 σ H1 (fun o H2 => (o, H2) = (some (-1), H1)) I3 ⟨1, rfl, -1, rfl, rfl⟩) ?_
  rintro vs s4 ⟨_, _, I4, ps, e⟩
  cases e
  cases pl
  cases pu
  cases ps
  rename_i u
  have I5 : Inv X pins σ H1 { s4 with heap := s4.heap.push { cls := .type "slice", data := .fields #[.none, .none, .int (-1) u] } } := I4.kept (t' := s4.toks) fun _ _ z => Heap.get?_push_of_some _ z
  obtain ⟨its, r, ht, hz⟩ := I5.tuple hx
  have many : its.toArray.size ≤ sizeLine := by rw [List.size_toArray, ← r.length]; exact hz
  refine tail_any (ops := [.ref a, .ref s4.heap.objs.size]) ht.typeIs slot_tuple_getitem.lookup ?_ (by with_unfolding_all rfl)
  refine getItem_back ht (Heap.IsSliceOf.new _ _ _ _) many ?_
  exact ⟨.ref _, _, I5.laid (t' := s4.toks) (o := .tup xs.reverse) (fun _ _ z => Heap.get?_push_of_some _ z) (Nat.le_refl _) ⟨by rw [List.length_reverse]; exact hz, _, r.reverse, (show IsTup _ _ _ from ⟨_, Heap.get?_push_size _ rfl, rfl, 0, rfl⟩)⟩, rfl, q _ (I5.hok.fresh (Nat.le_refl _))⟩
end
end Sea

set_option Elab.async false
set_option linter.all false
set_option maxRecDepth 100000
set_option maxHeartbeats 4000000
namespace Sea
open PySem PySem.Spec PyProof.Rows L2 LamX NdefX ClX Evl StX
abbrev sRef : Stmt := top 38
abbrev sLaw : Stmt := top 39
/-- all that the law leans on -/
structure Gd (K : PySem.W.Frag) (mg : Str → Option Value) where
  C : Addr
  CV : Addr
  cP : Addr
  cI : Addr
  cR : Addr
  cV : Addr
  cU : Addr
  fI : Addr
  fR : Addr
  fV : Addr
  fT : Addr
  fTv : Addr
  fVN : Addr
  fP : Addr
  pP : Addr
  fRl : Addr
  pRl : Addr
  fRd : Addr
  pRd : Addr
  fEx : Addr
  pEx : Addr
  fNu : Addr
  fLi : Addr
  fFT : Addr
  fPT : Addr
  fFV : Addr
  fPV : Addr
  fSt : Addr
  fD : Addr
  fSm : Addr
  fOu : Addr
  fPas : Addr
  fTar : Addr
  fDay : Addr
  fIn : Addr
  fRe : Addr
  fTof : Addr
  fVof : Addr
  fCh : Addr
  fPar : Addr
  Pe : Addr
  Pt : Addr
  mc : Value
  mp : Value
  dI : FuncData
  dR : FuncData
  dV : FuncData
  dT : FuncData
  dTv : FuncData
  dVN : FuncData
  dP : FuncData
  dRl : FuncData
  dRd : FuncData
  dEx : FuncData
  dNu : FuncData
  dLi : FuncData
  dFT : FuncData
  dPT : FuncData
  dFV : FuncData
  dPV : FuncData
  dSt : FuncData
  dD : FuncData
  dSm : FuncData
  dOu : FuncData
  dPas : FuncData
  dTar : FuncData
  dDay : FuncData
  dIn : FuncData
  dRe : FuncData
  dTof : FuncData
  dVof : FuncData
  dCh : FuncData
  dPar : FuncData
  X : TX K mg C cI cU cP fI mc mp
  I : TMk K C fI fT dI dT
  Q : TP K C fP pP dP
  XT : TXt K mg cR cP fR dR mp
  NM : TNm K mg fNu fLi dNu dLi
  EV : TEv K mg cV cP fV dV mp
  W : TTv K mg CV fVN dVN
  mkV : Mk K CV fTv
  uTv : Fun K "__init__" "Travel.__init__" sTvI fTv dTv
  R : TPr K CV fRl pRl fRd pRd fEx pEx dRl dRd dEx
  DN : TDn K mg fD dD
  RD : TRd K mg fIn fRe dIn dRe
  VO : TVo mg
  PA : TPa K mg C CV
  OU : TOu K mg cI cR cV
  SM : TSm K mg fSm dSm
  gFT : mg "format_tariff" = some (.ref fFT)
  kFT : PySem.W.keepIn K (.ref fFT) = true
  uFT : Fun K "format_tariff" "format_tariff" sFT fFT dFT
  gPT : mg "parse_tariff" = some (.ref fPT)
  kPT : PySem.W.keepIn K (.ref fPT) = true
  uPT : Fun K "parse_tariff" "parse_tariff" sPT fPT dPT
  gFV : mg "format_travel" = some (.ref fFV)
  kFV : PySem.W.keepIn K (.ref fFV) = true
  uFV : Fun K "format_travel" "format_travel" sFV fFV dFV
  gPV : mg "parse_travel" = some (.ref fPV)
  kPV : PySem.W.keepIn K (.ref fPV) = true
  uPV : Fun K "parse_travel" "parse_travel" sPV fPV dPV
  gSt : mg "_law_start" = some (.ref fSt)
  kSt : PySem.W.keepIn K (.ref fSt) = true
  uSt : Fun K "_law_start" "_law_start" sStart fSt dSt
  gOu : mg "_law_outcome" = some (.ref fOu)
  kOu : PySem.W.keepIn K (.ref fOu) = true
  uOu : Fun K "_law_outcome" "_law_outcome" sOut fOu dOu
  gPas : mg "_law_passes" = some (.ref fPas)
  kPas : PySem.W.keepIn K (.ref fPas) = true
  uPas : Fun K "_law_passes" "_law_passes" sPas fPas dPas
  gTar : mg "_law_tariff" = some (.ref fTar)
  kTar : PySem.W.keepIn K (.ref fTar) = true
  uTar : Fun K "_law_tariff" "_law_tariff" sTar fTar dTar
  gDay : mg "_law_days" = some (.ref fDay)
  kDay : PySem.W.keepIn K (.ref fDay) = true
  uDay : Fun K "_law_days" "_law_days" sDay fDay dDay
  gTof : mg "_law_tariff_of" = some (.ref fTof)
  kTof : PySem.W.keepIn K (.ref fTof) = true
  uTof : Fun K "_law_tariff_of" "_law_tariff_of" sTof fTof dTof
  gVof : mg "_law_travel_of" = some (.ref fVof)
  kVof : PySem.W.keepIn K (.ref fVof) = true
  uVof : Fun K "_law_travel_of" "_law_travel_of" sVof fVof dVof
  gCh : mg "_law_changed" = some (.ref fCh)
  kCh : PySem.W.keepIn K (.ref fCh) = true
  uCh : Fun K "_law_changed" "_law_changed" sCh fCh dCh
  gPar : mg "_law_parts" = some (.ref fPar)
  kPar : PySem.W.keepIn K (.ref fPar) = true
  uPar : Fun K "_law_parts" "_law_parts" sPar fPar dPar
  m_range : mg "range" = none
  m_tuple : mg "tuple" = none
  m_set : mg "set" = none
  m_sorted : mg "sorted" = none
  m_str : mg "str" = none
section
variable {K : PySem.W.Frag} {mg : Str → Option Value}
theorem Gd.bFT (G : Gd K mg) : Binds K G.dFT ["tariff"] [] := G.uFT.binds (ps := ["tariff"]) fun _ _ _ _ _ _ us hl => match us, hl with | [_], _ => rfl
theorem Gd.bPT (G : Gd K mg) : Binds K G.dPT ["text"] [] := G.uPT.binds (ps := ["text"]) fun _ _ _ _ _ _ us hl => match us, hl with | [_], _ => rfl
theorem Gd.bFV (G : Gd K mg) : Binds K G.dFV ["travel"] [] := G.uFV.binds (ps := ["travel"]) fun _ _ _ _ _ _ us hl => match us, hl with | [_], _ => rfl
theorem Gd.bPV (G : Gd K mg) : Binds K G.dPV ["text"] [] := G.uPV.binds (ps := ["text"]) fun _ _ _ _ _ _ us hl => match us, hl with | [_], _ => rfl
theorem Gd.bSt (G : Gd K mg) : Binds K G.dSt ["_law_script"] [] := G.uSt.binds (ps := ["_law_script"]) fun _ _ _ _ _ _ us hl => match us, hl with | [_], _ => rfl
theorem Gd.bPas (G : Gd K mg) : Binds K G.dPas ["_law_state", "_law_most"] [] := G.uPas.binds (ps := ["_law_state", "_law_most"]) fun _ _ _ _ _ _ us hl => match us, hl with | [_, _], _ => rfl
theorem Gd.bTar (G : Gd K mg) : Binds K G.dTar ["_law_passes_here"] [] := G.uTar.binds (ps := ["_law_passes_here"]) fun _ _ _ _ _ _ us hl => match us, hl with | [_], _ => rfl
theorem Gd.bDay (G : Gd K mg) : Binds K G.dDay ["_law_state"] [] := G.uDay.binds (ps := ["_law_state"]) fun _ _ _ _ _ _ us hl => match us, hl with | [_], _ => rfl
theorem Gd.bTof (G : Gd K mg) : Binds K G.dTof ["_law_text"] [] := G.uTof.binds (ps := ["_law_text"]) fun _ _ _ _ _ _ us hl => match us, hl with | [_], _ => rfl
theorem Gd.bVof (G : Gd K mg) : Binds K G.dVof ["_law_text"] [] := G.uVof.binds (ps := ["_law_text"]) fun _ _ _ _ _ _ us hl => match us, hl with | [_], _ => rfl
theorem Gd.bCh (G : Gd K mg) : Binds K G.dCh ["_law_state", "_law_text"] [] := G.uCh.binds (ps := ["_law_state", "_law_text"]) fun _ _ _ _ _ _ us hl => match us, hl with | [_, _], _ => rfl
theorem Gd.bPar (G : Gd K mg) : Binds K G.dPar ["_law_value"] [] := G.uPar.binds (ps := ["_law_value"]) fun _ _ _ _ _ _ us hl => match us, hl with | [_], _ => rfl
theorem Gd.bSm (G : Gd K mg) : Binds K G.dSm ["_law_result", "_law_expected"] [] := G.SM.fu.binds (ps := ["_law_result", "_law_expected"]) fun _ _ _ _ _ _ us hl => match us, hl with | [_, _], _ => rfl
end
/-! ### lambdas by their places -/
def retE : Stmt → Expr
  | .Return (some e) _ => e
  | _ => noE
def notE : Expr → Expr
  | .UnaryOp _ e _ => e
  | _ => noE
def mkF (q : Str) (e : Expr) (cl : List (Str × Addr)) (c : Addr) (dV : Value) : LF := ⟨q, lamP e, lamB e, lamS e, cl, c, dV⟩
theorem dv_none {q : Str} {e : Expr} {cl : List (Str × Addr)} {c : Addr} {H : Hp} : DvOk (mkF q e cl c .none) H := fun t z => by
  have z' : Value.none = Value.ref t := z
  cases z'
def qRef : Str := (envOfC "_law_are_refused" (defScope sRef) 0 0 .none).qual ++ "<lambda>"
def qLam : Str := (envOfC "law" (defScope sLaw) 0 0 .none).qual ++ "<lambda>"
abbrev NRf : List Str := ["_law_state", "_law_more", "_law_some", "_law_other"]
theorem scRef : FnScope NRf ["_law_state"] (defScope sRef) := ⟨rfl, rfl, rfl, by decide +kernel, rfl, by decide +kernel, by decide +kernel⟩
def lawB : List Stmt := forB ((defBody sLaw).getD 2 noS)
abbrev lamA : Expr := callA (cmpL (ifC ((defBody sRef).getD 3 noS)))
abbrev lamB' : Expr := callA (callA (callA (retE ((defBody sRef).getD 4 noS))))
abbrev lamC : Expr := callA (callA (callA (notE (ifC (lawB.getD 9 noS)))))
abbrev lamD : Expr := callA (callA (callA (notE (ifC (lawB.getD 10 noS)))))
theorem scLA : NScope ["_law_more"] [] ["_law_more"] (lamS lamA) := nscope_by (by decide +kernel)
theorem scLB : NScope ["_law_other"] [] ["_law_other"] (lamS lamB') := nscope_by (by decide +kernel)
theorem scLC : NScope ["_law_text"] [] ["_law_text"] (lamS lamC) := nscope_by (by decide +kernel)
theorem scLD : NScope ["_law_a", "_law_other"] ["_law_a"] ["_law_other"] (lamS lamD) := nscope_by (by decide +kernel)
/-- the two tables of code objects -/
abbrev Gd.tb {K : PySem.W.Frag} {mg : Str → Option Value} (G : Gd K mg) : List (Addr × Str) := [(G.Pe, qRef), (G.Pt, qLam)]
/-- the thunks -/
def tsT (K : PySem.W.Frag) (C cI cR : Addr) : TSp := fun ws H Q E => ∃ z : Str, ws = [some (.str z)] ∧ spPT K C cI cR [.str z] H Q E
def tsV (K : PySem.W.Frag) (C cV cR : Addr) : TSp := fun ws H Q E => ∃ z : Str, ws = [some (.str z)] ∧ spPV K C cV cR [.str z] H Q E
section
variable {P : Program} {w : World} {K : PySem.W.Frag} {mg : Str → Option Value} {base : Heap} {f c t : Addr} {cl : List (Str × Addr)}
theorem lokA (G : Gd K mg) : LOk P w K mg base (L2.CX P w) 9 f (mkF qRef lamA cl c .none) ["_law_more"] (tsT K G.C G.cI G.cR) := by
  refine lok_of0 (k := 8) scLA (fun _ _ _ => rfl) fun A outer s H ws Q E hr hl h => ?_
  obtain ⟨z, rfl, hw⟩ := h
  exact ⟨_, pe_call (E := E) (ok_pt G.uPT G.XT G.NM G.X G.I) (hr.mono (by decide)) (by rfl) G.gPT G.kPT G.bPT .nil (passes_call (takes_of rfl rfl rfl rfl) (fun _ _ _ _ h => h)) (pa_cons (pv 0) pa_nil), _, rfl, hw⟩
theorem lokB (G : Gd K mg) : LOk P w K mg base (L2.CX P w) 9 f (mkF qRef lamB' cl c .none) ["_law_other"] (tsV K G.CV G.cV G.cR) := by
  refine lok_of0 (k := 8) scLB (fun _ _ _ => rfl) fun A outer s H ws Q E hr hl h => ?_
  obtain ⟨z, rfl, hw⟩ := h
  exact ⟨_, pe_call (E := E) (ok_pv G.uPV G.XT G.NM G.EV G.W G.mkV G.uTv G.m_tuple) (hr.mono (by decide)) (by rfl) G.gPV G.kPV G.bPV .nil (passes_call (takes_of rfl rfl rfl rfl) (fun _ _ _ _ h => h)) (pa_cons (pv 0) pa_nil), _, rfl, hw⟩
theorem lokC (G : Gd K mg) : LOk P w K mg base (L2.CX P w) 9 f (mkF qLam lamC cl c .none) ["_law_text"] (tsT K G.C G.cI G.cR) := by
  refine lok_of0 (k := 8) scLC (fun _ _ _ => rfl) fun A outer s H ws Q E hr hl h => ?_
  obtain ⟨z, rfl, hw⟩ := h
  exact ⟨_, pe_call (E := E) (ok_pt G.uPT G.XT G.NM G.X G.I) (hr.mono (by decide)) (by rfl) G.gPT G.kPT G.bPT .nil (passes_call (takes_of rfl rfl rfl rfl) (fun _ _ _ _ h => h)) (pa_cons (pv 0) pa_nil), _, rfl, hw⟩
theorem lokD (G : Gd K mg) : LOk P w K mg base (L2.CX P w) 9 f (mkF qLam lamD cl c (.ref t)) ["_law_other"] (tsV K G.CV G.cV G.cR) := by
  refine lok_ofD (k := 8) (a := "_law_a") (t := t) scLD rfl (fun _ _ _ => ⟨_, rfl, fun _ => rfl⟩) fun A outer s H ws Q E d hr hl h => ?_
  obtain ⟨z, rfl, hw⟩ := h
  exact ⟨_, pe_call (E := E) (ok_pv G.uPV G.XT G.NM G.EV G.W G.mkV G.uTv G.m_tuple) (hr.mono (by decide)) (by rfl) G.gPV G.kPV G.bPV .nil (passes_call (takes_of rfl rfl rfl rfl) (fun _ _ _ _ h => h)) (pa_cons (pv 1) pa_nil), _, rfl, hw⟩
end
end Sea

set_option Elab.async false
set_option linter.all false
set_option maxRecDepth 100000
set_option maxHeartbeats 4000000
namespace Sea
open PySem PySem.Spec PyProof.Rows L2 LamX NdefX ClX Evl StX
/-! ### what a parser's outcome, taken apart, is as data -/
theorem sm_two {a b : PyData} (ha : SmD 2 a) (hb : SmD 2 b) : SmD 3 (.tuple [a, b]) := .tup (fun i d h => by
  match i, h with
  | 0, h => cases h; exact ha
  | 1, h => cases h; exact hb) (show 2 ≤ 1000 by decide)
theorem sm_three {a b c : PyData} (ha : SmD 2 a) (hb : SmD 2 b) (hc : SmD 2 c) : SmD 3 (.tuple [a, b, c]) := .tup (fun i d h => by
  match i, h with
  | 0, h => cases h; exact ha
  | 1, h => cases h; exact hb
  | 2, h => cases h; exact hc) (show 3 ≤ 1000 by decide)
theorem sm_ints {ns : List Int} (h : ns.length ≤ 1000) : SmD 2 (.tuple (ns.map PyData.int)) := .tup (fun i d hd => by
  obtain ⟨x, _, rfl⟩ := map_at hd
  exact .int 1 x) (by rw [List.length_map]; exact h)
theorem vofD_sm {z : Str} (hz : z.length ≤ 620) : SmD 3 (vofD z) := by
  unfold vofD
  split
  · exact sm_two (.str _ _) (.int _ _)
  · split
    · exact sm_three (.str _ _) (.str _ _) (.int _ _)
    · exact .lst (fun i d h => by
        match i, h with
        | 0, h => cases h; exact .int _ _
        | 1, h => cases h; exact sm_ints (vL_len hz 1)
        | 2, h => cases h; exact sm_ints (oL_len hz)) (show 3 ≤ 1000 by decide)
theorem tofD_sm {z : Str} (hz : z.length ≤ 620) : SmD 3 (tofD z) := by
  have few : (psL z).length ≤ 1000 := by
    unfold psL
    rw [List.length_map]
    have := PyProof.Rows.split_le z "\n"
    omega
  unfold tofD
  split
  · exact sm_two (.str _ _) (.int _ _)
  · split
    · exact sm_two (.str _ _) (.int _ _)
    · refine .lst (fun i d h => ?_) (show 1 ≤ 1000 by decide)
      match i, h with
      | 0, h =>
        cases h
        refine .tup (fun j e he => ?_) (by rw [List.length_map]; exact few)
        obtain ⟨x, _, rfl⟩ := map_at he
        exact .tup (fun k g hg => by
          match k, hg with
          | 0, hg => cases hg; exact .int _ _
          | 1, hg => cases hg; exact .int _ _) (show 2 ≤ 1000 by decide)
section
variable {K : PySem.W.Frag} {mg : Str → Option Value}
/-- the outcome of parse_travel: an error's tuple, or a travel -/
def ResV (G : Gd K mg) (z : Str) (v : V) (H : Hp) : Prop := (∃ a xs, v = .ref a ∧ H a = some (.tup xs) ∧ Dp K H (.ref a) (vofD z)) ∨
  ∃ (a : Addr) (d o : V), v = .ref a ∧ Tv K G.CV H a ((vL z 0).headD 0) d o (vL z 1) (oL z) ∧ vofD z = .list [.int ((vL z 0).headD 0), .tuple ((vL z 1).map PyData.int), .tuple ((oL z).map PyData.int)]
def ResT (G : Gd K mg) (z : Str) (v : V) (H : Hp) : Prop := (∃ a xs, v = .ref a ∧ H a = some (.tup xs) ∧ Dp K H (.ref a) (tofD z)) ∨
  ∃ (a p : Addr), v = .ref a ∧ Tar K G.C H a p (psL z) ∧ tofD z = .list [psD (psL z)]
theorem out_V (G : Gd K mg) {z : Str} {H : Hp} {R : VK} (hz : z.length ≤ 620) (fin : ∀ v H', Same H H' → ResV G z v H' → R v H') : spOut G.cI G.cR G.cV (tsV K G.CV G.cV G.cR [some (.str z)]) H R (fun _ _ _ => False) := by
  refine ⟨z, rfl, z, rfl, hz, fun i d H1 hb s1 hd => .inr (.inl ⟨rfl, d, i, rfl, hd, fun r H2 s2 hr => fin _ _ (Same.trans s1 s2) (.inl ⟨r, _, rfl, hr, ?_⟩)⟩), fun nb hb a d o H1 s1 tv => fin _ _ s1 (.inr ⟨a, d, o, rfl, tv, ?_⟩), fun nb pt i dd H1 hb s1 hd => .inr (.inr ⟨rfl, dd, pt, i, rfl, hd, fun r H2 s2 hr => fin _ _ (Same.trans s1 s2) (.inl ⟨r, _, rfl, hr, ?_⟩)⟩)⟩
  · unfold vofD
    rw [hb]
    exact .tup (.of hr) (.cons (.str _) (.cons (.int _) .nil))
  · unfold vofD
    rw [nb, hb]
  · unfold vofD
    rw [nb, hb]
    exact .tup (.of hr) (.cons (.str _) (.cons (.str _) (.cons (.int _) .nil)))
theorem out_T (G : Gd K mg) {z : Str} {H : Hp} {R : VK} (hz : z.length ≤ 620) (fin : ∀ v H', Same H H' → ResT G z v H' → R v H') : spOut G.cI G.cR G.cV (tsT K G.C G.cI G.cR [some (.str z)]) H R (fun _ _ _ => False) := by
  refine ⟨z, rfl, z, rfl, hz, fun i d H1 hb s1 hd => .inr (.inl ⟨rfl, d, i, rfl, hd, fun r H2 s2 hr => fin _ _ (Same.trans s1 s2) (.inl ⟨r, _, rfl, hr, ?_⟩)⟩), fun nb hb a p H1 s1 na t => fin _ _ s1 (.inr ⟨a, p, rfl, t, ?_⟩), fun nb i d H1 hb s1 hd => .inl ⟨rfl, d, i, rfl, hd, fun r H2 s2 hr => fin _ _ (Same.trans s1 s2) (.inl ⟨r, _, rfl, hr, ?_⟩)⟩⟩
  · unfold tofD
    rw [hb]
    exact .tup (.of hr) (.cons (.str _) (.cons (.int _) .nil))
  · unfold tofD
    rw [nb, hb]
  · unfold tofD
    rw [nb, hb]
    exact .tup (.of hr) (.cons (.str _) (.cons (.int _) .nil))
theorem par_V (G : Gd K mg) {z : Str} {v : V} {H : Hp} {R : VK} {E : XK} (r : ResV G z v H) (fin : ∀ x H', Same H H' → Dp K H' x (vofD z) → R x H') : spPar K G.C G.CV ([v] ++ []) H R E := by
  rcases r with ⟨a, xs, rfl, ha, hd⟩ | ⟨a, d, o, rfl, tv, e⟩
  · exact ⟨_, rfl, .inl ⟨a, xs, rfl, .of ha, fun H' s => fin _ _ s (dp_ex s hd)⟩⟩
  · refine ⟨_, rfl, .inr (.inr ⟨a, _, d, o, _, _, rfl, tv, fun r H' s hr => fin _ _ s ?_⟩)⟩
    obtain ⟨_, ⟨pd, rfl, hd⟩, ⟨po, rfl, ho⟩⟩ := tv
    rw [e]
    exact .lst (.of hr) (.cons (.int _) (.cons (.tup (ex_t s hd) (intsDp _)) (.cons (.tup (ex_t s ho) (intsDp _)) .nil)))
theorem par_T (G : Gd K mg) {z : Str} {v : V} {H : Hp} {R : VK} {E : XK} (r : ResT G z v H) (fin : ∀ x H', Same H H' → Dp K H' x (tofD z) → R x H') : spPar K G.C G.CV ([v] ++ []) H R E := by
  rcases r with ⟨a, xs, rfl, ha, hd⟩ | ⟨a, p, rfl, t, e⟩
  · exact ⟨_, rfl, .inl ⟨a, xs, rfl, .of ha, fun H' s => fin _ _ s (dp_ex s hd)⟩⟩
  · refine ⟨_, rfl, .inr (.inl ⟨a, p, psL z, rfl, t, fun r H' s hr => fin _ _ s ?_⟩)⟩
    rw [e]
    exact .lst (.of hr) (.cons ((t.2.tk (.same s)).dp) .nil)
end
theorem more_bad : ∀ n, n < 99 → badT ("pass 1 3 " ++ (toString ((n : Nat) : Int) : Str)) = some 0 := by decide +kernel
theorem more_bad2 : badT "pass 1" = some 0 ∧ badT "pass" = some 0 := by decide +kernel
end Sea

set_option Elab.async false
set_option linter.all false
set_option maxRecDepth 100000
set_option maxHeartbeats 4000000
namespace Sea
open PySem PySem.Spec PyProof.Rows L2 LamX NdefX ClX Evl StX
theorem hfA : ∀ y ∈ (lamS lamA).names, y.2 = .free → (defScope sRef).names.lookup y.1 = some .cell ∨ (defScope sRef).names.lookup y.1 = some .free := by decide +kernel
theorem hfB : ∀ y ∈ (lamS lamB').names, y.2 = .free → (defScope sRef).names.lookup y.1 = some .cell ∨ (defScope sRef).names.lookup y.1 = some .free := by decide +kernel
theorem hrA : ∀ y ∈ (["_law_more"] : List Str), (y, NameKind.free) ∈ (lamS lamA).names := by decide +kernel
theorem hrB : ∀ y ∈ (["_law_other"] : List Str), (y, NameKind.free) ∈ (lamS lamB').names := by decide +kernel
theorem tabs_kh {K : PySem.W.Frag} {T : List (Addr × Str)} {H H' : Hp} {h c : Addr} (hT : Tabs T H) (d : Ds K H h c) (k : Kh h H H') : Tabs T H' := by
  obtain ⟨p, m, r, ns, _, e1, e2, _⟩ := d
  refine tabs_but hT fun b o e n => k b o e (fun z => ?_)
  rw [z, e1] at e
  cases e
  exact n.1 _ rfl
theorem Ds.extN {K : PySem.W.Frag} {H H' : Hp} {h c : Addr} (d : Ds K H h c) (s : ExtN H H') : Ds K H' h c := by
  obtain ⟨p, m, r, ns, p0, e1, e2, l⟩ := d
  refine ⟨p, m, r, ns, p0, s _ _ e1 (fun ps z => (by cases z)), ?_, l⟩
  rcases e2 with (e2 | ⟨o, e2⟩) | e2
  · exact .inl (.inl (s _ _ e2 fun ps z => by cases z))
  · exact .inl (.inr ⟨o, s _ _ e2 fun ps z => by cases z⟩)
  · exact .inr e2
def spRef (K : PySem.W.Frag) (T : List (Addr × Str)) : Sp := fun vs H Q _ => ∃ (h c : Addr), vs = [.ref h] ∧ Ds K H h c ∧ Tabs T H ∧ ∀ H', Ds K H' h c → Tabs T H' → Q (.bl true) H'
def m3 (n : Nat) : List Str := ["pass 1 3 " ++ (toString ((n : Nat) : Int) : Str), "pass 1", "pass"]
theorem m3_ok {n : Nat} (hn : n < 99) : ∀ z ∈ m3 n, badT z = some 0 ∧ z.length ≤ 620 := by
  have l : ∀ n, n < 99 → ("pass 1 3 " ++ (toString ((n : Nat) : Int) : Str)).length ≤ 620 := by decide +kernel
  intro z hz
  rcases List.mem_cons.mp hz with rfl | hz
  · exact ⟨more_bad n hn, l n hn⟩
  · rcases List.mem_cons.mp hz with rfl | hz
    · exact ⟨more_bad2.1, by decide +kernel⟩
    · rw [List.mem_singleton.mp hz]
      exact ⟨more_bad2.2, by decide +kernel⟩
def o4 : List Str := ["round 7\ndays 1\nexceptions", "round 7 7\ndays", "round\ndays 1", "round 7\ndays\nexceptions 4\nround 7"]
theorem o4_ok : ∀ z ∈ o4, z.length ≤ 620 ∧ PyData.strOk z = true := by decide +kernel
section
variable {P : Program} {w : World} {K : PySem.W.Frag} {mg : Str → Option Value} {base : Heap}
theorem ok_ref {f cc : Addr} {oc kV doc pm ct : Value} {od an : Option Addr} {osl : Array (Option Value)} (G : Gd K mg) (lk : K.lookup f = some ⟨oc, od, .func (PySem.W.fnOf "_law_are_refused" "_law_are_refused" (defArgs sRef) (defBody sRef) (defScope sRef) .none kV doc pm an (.ref cc) ct), osl⟩)
    (hcd : PySem.W.codeIn K (.ref cc) "_law_are_refused" = true) (TB : TabB base mg cc G.Pe) (ne : G.Pe ≠ G.Pt) : FnOk P w K mg base CX0 11 f (PySem.W.fnOf "_law_are_refused" "_law_are_refused" (defArgs sRef) (defBody sRef) (defScope sRef) .none kV doc pm an (.ref cc) ct) ["_law_state"] (spRef K G.tb) := by
  have hTm : (G.Pe, qRef) ∈ G.tb := List.mem_cons_self
  have hTu : ∀ p ∈ G.tb, p.1 = G.Pe → p.2 = qRef := fun p hp e => by
    rcases List.mem_cons.mp hp with rfl | hp
    · rfl
    · rw [List.mem_singleton.mp hp] at e
      exact absurd e.symm ne
  refine fn_of (N := NRf) lk hcd scRef (fun vs H Q E h => ?_) (fun A outer s H vs Q E hr h => ?_)
  · obtain ⟨h, c, rfl, _⟩ := h
    rfl
  · have hu := hr.units
    have h1 := hr.mono (show 1 ≤ 10 by decide)
    have h3 := hr.mono (show 3 ≤ 10 by decide)
    have h4 := hr.mono (show 4 ≤ 10 by decide)
    have h10 := hr.mono (show 10 ≤ 10 by decide)
    suffices hh : ∃ t, PSs (cxOf CX0 P w K mg base NRf "_law_are_refused" (defScope sRef) f (.ref cc) A outer s H E).nox (defBody sRef) t ∧ t { nx := fun _ H' => Q .non H', rt := Q } (start NRf vs) H by
      obtain ⟨t, ht, hq⟩ := hh
      exact ⟨t, ht.nox, hq⟩
    refine ⟨_, pss_cut (ps_set (i := 1) scRef.nd rfl (.inr rfl) (pe_ixl (pe_lst (pa_cons (pe_op op_add_str pe_str (pe_callTy call_str_int (by rfl) G.m_str (by rfl) (pa_cons (pe_dr G.DN h1 (by rfl) (pv 0) pe_int) pa_nil))) (pa_cons pe_str (pa_cons pe_str pa_nil)))) (pe_dr G.DN h1 (by rfl) (pv 0) pe_int)))
      (pss_cut (ps_set (i := 2) scRef.nd rfl (.inl rfl) (pe_lst (pa_cons pe_str (pa_cons pe_str (pa_cons pe_str (pa_cons pe_str pa_nil))))))
      (pss_cut (ps_set (i := 3) scRef.nd rfl (.inr rfl) (pe_ixl (pv 2) (pe_dr G.DN h1 (by rfl) (pv 0) pe_int)))
      (pss_cut (ps_if (pt_cmpR (op_neD hu) (pe_give (ok_out G.uOu G.OU (Nat.le_refl 9)) rfl h10 (by rfl) G.gOu G.kOu (pe_lamV (T := G.tb) TB rfl hTm hTu hfA)) (pe_tup (pa_cons pe_str (pa_cons pe_int pa_nil))) (nomark _)) (pss_one (ps_ret pe_bl)) pss_nil)
      (pss_one (ps_ret (pe_call (E := E0) (ok_sm G.SM 4) h4 (by rfl) G.SM.g G.SM.kp G.bSm .nil pass0 (pa_cons (pe_call (E := E0) (ok_par (k := 0) G.uPar G.PA G.X G.Q G.W G.R) h3 (by rfl) G.gPar G.kPar G.bPar .nil pass0 (pa_cons (pe_give (ok_out G.uOu G.OU (Nat.le_refl 9)) rfl h10 (by rfl) G.gOu G.kOu (pe_lamV (T := G.tb) TB rfl hTm hTu hfB)) pa_nil))
        (pa_cons (pe_call (E := E0) (ok_vof (k := 0) G.uVof G.RD G.VO) h3 (by rfl) G.gVof G.kVof G.bVof .nil pass0 (pa_cons (pv 3) pa_nil)) pa_nil)))))))), ?_⟩
    obtain ⟨h, c, rfl, d, hT, q⟩ := h
    refine ⟨fun σ H' => ∃ z, σ = ([some (.ref h), some (.str z), none, none] : L2.St) ∧ badT z = some 0 ∧ z.length ≤ 620 ∧ Ds K H' h c ∧ Tabs G.tb H', ?_, ?_⟩
    · refine ⟨_, rfl, h, c, 99, rfl, by decide, by decide +kernel, d, fun v H1 v0 v1 d1 k1 => ?_⟩
      obtain ⟨n, rfl⟩ := Int.eq_ofNat_of_zero_le v0
      have hn : n < 99 := by omega
      refine ⟨_, rfl, Nat.lt_of_le_of_lt (Nat.log2_le_self _) (by omega), "pass 1 3 ", _, rfl, rfl, ?_, Nat.le_of_lt (small1000 (show 3 ≤ 1000 by decide)), fun l nl => ?_⟩
      · have : ∀ n, n < 99 → ("pass 1 3 " : Str).length + (toString ((n : Nat) : Int) : Str).length ≤ 1000 := by decide +kernel
        exact Nat.le_of_lt (small1000 (this n hn))
      · refine ⟨_, rfl, h, c, 3, rfl, by decide, by decide +kernel, d1.new nl, fun v H2 v0 v1 d2 k2 => ?_⟩
        obtain ⟨j, rfl⟩ := Int.eq_ofNat_of_zero_le v0
        have hj : j < (m3 n).length := show j < 3 by omega
        have hl : H2 l = some (.lst ((m3 n).map V.str)) := k2 _ _ upd_same (d1.nh nl)
        have good := m3_ok hn _ (List.getElem_mem hj)
        exact ⟨l, _, _, _, rfl, rfl, .of hl, at_nat (by rw [List.length_map]; exact hj) (by rw [List.getElem?_map, List.getElem?_eq_getElem hj]; rfl), _, rfl, good.1, good.2, d2, tabs_kh (tabs_same (tabs_kh hT d k1) (same_new nl)) (d1.new nl) k2⟩
    rintro σ H1 ⟨z, rfl, zb, zl, d1, T1⟩
    refine ⟨fun σ H' => ∃ l, σ = ([some (.ref h), some (.str z), some (.ref l), none] : L2.St) ∧ l ≠ h ∧ H' l = some (.lst (o4.map V.str)) ∧ Ds K H' h c ∧ Tabs G.tb H', ?_, ?_⟩
    · exact s_asgL (el_lst (ea_cons ev_c (ea_cons ev_c (ea_cons ev_c (ea_cons ev_c ea_nil)))) (show 4 ≤ 100000 by decide)) fun l H2 nl e2 hl => ⟨l, rfl, d1.nh nl, hl, d1.same e2, tabs_same T1 e2⟩
    rintro σ H2 ⟨l, rfl, nh, hl, d2, T2⟩
    refine ⟨fun σ H' => ∃ (v2 : Option V) (y : Str), σ = ([some (.ref h), some (.str z), v2, some (.str y)] : L2.St) ∧ y.length ≤ 620 ∧ PyData.strOk y = true ∧ Ds K H' h c ∧ Tabs G.tb H', ?_, ?_⟩
    · refine ⟨_, rfl, _, rfl, h, c, 4, rfl, by decide, by decide +kernel, d2, fun v H3 v0 v1 d3 k3 => ?_⟩
      obtain ⟨j, rfl⟩ := Int.eq_ofNat_of_zero_le v0
      have hj : j < o4.length := show j < 4 by omega
      have good := o4_ok _ (List.getElem_mem hj)
      exact ⟨l, _, _, _, rfl, rfl, .of (k3 _ _ hl nh), at_nat (by rw [List.length_map]; exact hj) (by rw [List.getElem?_map, List.getElem?_eq_getElem hj]; rfl), _, _, rfl, good.1, good.2, d3, tabs_kh T2 d2 k3⟩
    rintro σ H3 ⟨v2, y, rfl, yl, yk, d3, T3⟩
    refine ⟨fun σ H' => σ = ([some (.ref h), some (.str z), v2, some (.str y)] : L2.St) ∧ Ds K H' h c ∧ Tabs G.tb H', ?_, ?_⟩
    · refine ⟨T3, fun f1 c1 H4 eN T4 nf hf hc => ⟨f1, mkF qRef lamA _ c1 .none, ["_law_more"], [1], tsT K G.C G.cI G.cR, rfl, lokA G, hf, hc, dv_none, fun ok => Caps.made ok hfA hrA rfl, ?_⟩⟩
      refine out_T G (z := z) zl fun v H5 s5 hv => ⟨Nat.le_of_lt (small1000 (show 2 ≤ 1000 by decide)), fun p np => ?_⟩
      have hd : Dp K H5 v (.tuple [.str "InvalidText", .int 0]) := by
        rcases hv with ⟨a, xs, rfl, ha, hd⟩ | ⟨a, q, rfl, t, e⟩
        · unfold tofD at hd
          rw [zb] at hd
          exact hd
        · unfold tofD at e
          rw [zb] at e
          cases e
      refine ⟨_, _, dp_ex (Ex.new np) hd, .tup (.of upd_same) (.cons (.str _) (.cons (.int _) .nil)), by decide +kernel, by decide +kernel, _, rfl, ?_⟩
      refine iteF' (by decide +kernel) ⟨rfl, ((d3.extN eN).same s5).new np, tabs_same (tabs_same T4 s5) (same_new np)⟩
    rintro σ H4 ⟨rfl, d4, T4⟩
    refine ⟨T4, fun f1 c1 H5 eN T5 nf hf hc => ⟨f1, mkF qRef lamB' _ c1 .none, ["_law_other"], [3], tsV K G.CV G.cV G.cR, rfl, lokB G, hf, hc, dv_none, fun ok => Caps.made ok hfB hrB rfl, ?_⟩⟩
    refine out_V G (z := y) yl fun v H6 s6 hv => ?_
    unfold tNil
    refine par_V G hv fun x H7 s7 dx => ⟨_, rfl, y, rfl, yl, yk, fun u H8 s8 du => ⟨3, x, u, _, by decide, rfl, dp_ex s8 dx, du, vofD_sm yl, fun H9 s9 => ?_⟩⟩
    have s59 := ((Same.trans s6 s7).trans s8).trans s9
    exact q H9 ((d4.extN eN).same s59) (tabs_same T5 s59)
end
end Sea

set_option Elab.async false
set_option linter.all false
set_option maxRecDepth 100000
set_option maxHeartbeats 4000000
/-! texts of the law: plain -/
namespace Sea
open PySem PySem.Spec PyProof.Rows L2 LamX NdefX ClX Evl StX
theorem pass_txt (a b : Int) : "pass " ++ (toString a : Str) ++ " " ++ (toString b : Str) = lineW "pass" [a, b] := by
  have e1 : TL.tl "pass " = TL.tl "pass" ++ TL.tl " " := by decide +kernel
  refine TL.ext_tl ?_
  unfold lineW
  rw [TL.join_eq, TL.tl_join, TL.tl_append, TL.tl_append, TL.tl_append, e1]
  show _ = TL.tl "pass" ++ (TL.tl " " ++ (TL.tl (toString a : Str) ++ (TL.tl " " ++ TL.tl (toString b : Str))))
  simp only [List.append_assoc]
theorem travel_txt (ln : Int) (ds : List Int) : "round " ++ (toString ln : Str) ++ "\n" ++ lineW "days" ds = textV ln ds [] := by
  have e1 : TL.tl "round " = TL.tl "round" ++ TL.tl " " := by decide +kernel
  refine TL.ext_tl ?_
  unfold textV
  rw [TL.join_eq, TL.tl_join, TL.tl_append, TL.tl_append, TL.tl_append, e1]
  show _ = TL.tl (lineW "round" [ln]) ++ (TL.tl "\n" ++ TL.tl (lineW "days" ds))
  have e2 : TL.tl (lineW "round" [ln]) = TL.tl "round" ++ (TL.tl " " ++ TL.tl (toString ln : Str)) := by
    unfold lineW
    rw [TL.join_eq, TL.tl_join]
    rfl
  rw [e2]
  simp only [List.append_assoc]
theorem odd_txt (ln : Int) (ds os : List Int) (h : os ≠ []) : textV ln ds [] ++ "\n" ++ lineW "exceptions" os = textV ln ds os := by
  refine TL.ext_tl ?_
  unfold textV
  rw [if_neg h, if_pos rfl, TL.tl_append, TL.tl_append, TL.join_eq, TL.tl_join, TL.join_eq, TL.tl_join]
  show TL.tl (lineW "round" [ln]) ++ (TL.tl "\n" ++ TL.tl (lineW "days" ds)) ++ TL.tl "\n" ++ TL.tl (lineW "exceptions" os) = TL.tl (lineW "round" [ln]) ++ (TL.tl "\n" ++ (TL.tl (lineW "days" ds) ++ (TL.tl "\n" ++ TL.tl (lineW "exceptions" os))))
  simp only [List.append_assoc]
theorem num_len {n : Int} {k : Nat} (hk : 0 < k) (h0 : 0 ≤ n) (h1 : n < 10 ^ k) : (toString n : Str).length ≤ k := by
  obtain ⟨m, rfl⟩ := Int.eq_ofNat_of_zero_le h0
  have hm : m < 10 ^ k := by
    have : ((m : Nat) : Int) < ((10 ^ k : Nat) : Int) := by
      rw [Int.natCast_pow]
      exact h1
    omega
  have := TL.numL_len (n := m) (k := k) hk hm
  rw [TL.len_tl]
  show (TL.tl (Str.ofString (toString ((m : Nat) : Int)))).length ≤ k
  rw [TL.tl_num]
  exact this
theorem lineW_le {z : Str} {ns : List Int} {m k : Nat} (hz : z.length ≤ m) (h : ∀ n ∈ ns, (toString n : Str).length ≤ k) : (lineW z ns).length ≤ m + ns.length * (k + 1) := by
  have a := join_len " " z (ns.map fun n => (toString n : Str))
  have b := sum_le (ys := ns.map fun n => (toString n : Str)) (m := k) fun y hy => by
    obtain ⟨n, hn, rfl⟩ := List.mem_map.mp hy
    exact h n hn
  have e : (" " : Str).length = 1 := by decide +kernel
  rw [e, List.map_cons, List.sum_cons, List.length_map] at a
  rw [List.length_map] at b
  have c : ns.length * (k + 1) = ns.length * k + ns.length := Nat.mul_succ _ _
  unfold lineW
  omega
theorem num_sign {n : Int} (h0 : 0 ≤ n) : ∀ c ∈ TL.tl (toString n : Str), 48 ≤ c ∧ c ≤ 57 := by
  obtain ⟨m, rfl⟩ := Int.eq_ofNat_of_zero_le h0
  intro c hc
  have hc : c ∈ TL.tl (Str.ofString (toString ((m : Nat) : Int))) := hc
  rw [TL.tl_num] at hc
  refine ⟨Nat.le_of_not_lt fun h => TL.numL_free (.inl h) hc, Nat.le_of_not_lt fun h => TL.numL_free (.inr h) hc⟩
theorem lineW_sign {z : Str} {ns : List Int} (hn : ∀ n ∈ ns, 0 ≤ n) {c : Nat} (hc : c ∈ TL.tl (lineW z ns)) : c ∈ TL.tl z ∨ c = 32 ∨ (48 ≤ c ∧ c ≤ 57) := by
  unfold lineW at hc
  rw [TL.join_eq, TL.tl_join] at hc
  rcases joinL_sub hc with h1 | ⟨p, hp, h2⟩
  · have e : TL.tl " " = [32] := by decide +kernel
    rw [e] at h1
    exact .inr (.inl (List.mem_singleton.mp h1))
  · obtain ⟨y, hy, rfl⟩ := List.mem_map.mp hp
    rcases List.mem_cons.mp hy with rfl | hy
    · exact .inl h2
    · obtain ⟨n, hn1, rfl⟩ := List.mem_map.mp hy
      exact .inr (.inr (num_sign (hn n hn1) c h2))
theorem lineW_ok {z : Str} {ns : List Int} (hz : PyData.strOk z = true) (hn : ∀ n ∈ ns, 0 ≤ n) : PyData.strOk (lineW z ns) = true := strOk_iff.mpr fun c hc => by
  rcases lineW_sign hn hc with h | rfl | h
  · exact strOk_iff.mp hz c h
  · decide
  · omega
theorem nlOk : PyData.strOk "\n" = true := by decide +kernel
/-- what a law's text is, ahead of changes -/
theorem textT_ok {L : List (Int × Int)} (h3 : L.length ≤ 3) (h : ∀ x ∈ L, okP x = true) : (textT L).length ≤ 140 ∧ PyData.strOk (textT L) = true := by
  have sm2 : ∀ x ∈ L, sm x.1 ∧ sm x.2 := fun x hx => by
    have := h x hx
    unfold okP at this
    simp only [Bool.and_eq_true, decide_eq_true_eq] at this
    unfold sm
    omega
  have sml : ∀ x ∈ L, ∀ n ∈ [x.1, x.2], sm n := fun x hx n hn => by
    rcases List.mem_cons.mp hn with rfl | hn
    · exact (sm2 x hx).1
    · rw [List.mem_singleton.mp hn]
      exact (sm2 x hx).2
  refine ⟨?_, join_ok nlOk fun y hy => ?_⟩
  · have few := sum_le (ys := L.map fun x => lineW "pass" [x.1, x.2]) (m := 44) fun y hy => by
      obtain ⟨x, hx, rfl⟩ := List.mem_map.mp hy
      exact lineW_len (m := 4) (by decide +kernel) (sml x hx)
    have j := join_le (L.map fun x => lineW "pass" [x.1, x.2])
    unfold tot at j
    rw [List.length_map] at few j
    unfold textT
    omega
  · obtain ⟨x, hx, rfl⟩ := List.mem_map.mp hy
    exact lineW_ok (by decide +kernel) fun n hn => (sml x hx n hn).1
theorem textV_ok {ln : Int} {ds os : List Int} (l0 : 1 ≤ ln) (l1 : ln ≤ 14) (hd : ∀ n ∈ ds, 0 ≤ n ∧ n < 100) (dl : ds.length ≤ 14) (ho : ∀ n ∈ os, 0 ≤ n ∧ n < 1000000000000000000) (ol : os.length ≤ 6) :
    (textV ln ds os).length ≤ 180 ∧ PyData.strOk (textV ln ds os) = true ∧ ∀ y ∈ Txt.split (textV ln ds os) "\n", y.length ≤ 124 := by
  have a1 : (lineW "round" [ln]).length ≤ 5 + 1 * 3 := lineW_le (k := 2) (by decide +kernel) fun n hn => by
    rw [List.mem_singleton.mp hn]
    exact num_len (by decide) (by omega) (by show ln < 100; omega)
  have a2 : (lineW "days" ds).length ≤ 4 + ds.length * 3 := lineW_le (k := 2) (by decide +kernel) fun n hn => num_len (by decide) (hd n hn).1 (by have := (hd n hn).2; show n < 100; omega)
  have a3 : (lineW "exceptions" os).length ≤ 10 + os.length * 19 := lineW_le (k := 18) (by decide +kernel) fun n hn => num_len (by decide) (ho n hn).1 (by have := (ho n hn).2; show n < 1000000000000000000; omega)
  have p1 : ∀ n ∈ [ln], 0 ≤ n := fun n hn => by rw [List.mem_singleton.mp hn]; omega
  have k1 : PyData.strOk (lineW "round" [ln]) = true := lineW_ok (by decide +kernel) p1
  have k2 : PyData.strOk (lineW "days" ds) = true := lineW_ok (by decide +kernel) fun n hn => (hd n hn).1
  have k3 : PyData.strOk (lineW "exceptions" os) = true := lineW_ok (by decide +kernel) fun n hn => (ho n hn).1
  have n1 : 10 ∉ TL.tl (lineW "round" [ln]) := fun h => by
    have z : 10 ∉ TL.tl "round" := by decide +kernel
    rcases lineW_sign p1 h with h | h | h
    · exact z h
    · cases h
    · omega
  have n2 : 10 ∉ TL.tl (lineW "days" ds) := fun h => by
    have z : 10 ∉ TL.tl "days" := by decide +kernel
    rcases lineW_sign (fun n hn => (hd n hn).1) h with h | h | h
    · exact z h
    · cases h
    · omega
  have n3 : 10 ∉ TL.tl (lineW "exceptions" os) := fun h => by
    have z : 10 ∉ TL.tl "exceptions" := by decide +kernel
    rcases lineW_sign (fun n hn => (ho n hn).1) h with h | h | h
    · exact z h
    · cases h
    · omega
  have en : TL.tl "\n" = [10] := by decide +kernel
  have each : ∀ y ∈ [lineW "round" [ln], lineW "days" ds] ++ (if os = [] then [] else [lineW "exceptions" os]), y.length ≤ 124 ∧ PyData.strOk y = true ∧ 10 ∉ TL.tl y := fun y hy => by
    rcases List.mem_append.mp hy with hy | hy
    · rcases List.mem_cons.mp hy with rfl | hy
      · exact ⟨by omega, k1, n1⟩
      · rw [List.mem_singleton.mp hy]
        exact ⟨by omega, k2, n2⟩
    · split at hy
      · cases hy
      · rw [List.mem_singleton.mp hy]
        exact ⟨by omega, k3, n3⟩
  refine ⟨?_, join_ok nlOk fun y hy => (each y hy).2.1, fun y hy => ?_⟩
  · have j := join_le ([lineW "round" [ln], lineW "days" ds] ++ (if os = [] then [] else [lineW "exceptions" os]))
    unfold textV
    rw [tot_app] at j
    by_cases e : os = []
    · rw [if_pos e] at j ⊢
      unfold tot at j
      simp at j ⊢
      omega
    · rw [if_neg e] at j ⊢
      unfold tot at j
      simp at j ⊢
      omega
  · have sp : Txt.split (textV ln ds os) "\n" = [lineW "round" [ln], lineW "days" ds] ++ (if os = [] then [] else [lineW "exceptions" os]) := TL.split_join (s := 10) (S := []) en (by decide +kernel) (by simp) fun p hp => (each p hp).2.2
    rw [sp] at hy
    exact (each y hy).1
/-- the bounds of the texts' lengths and of their lines, behind i changes -/
def bT (i : Nat) : Nat := match i with
  | 0 => 140
  | 1 => 281
  | _ => 563
def bV' (i : Nat) : Nat := match i with
  | 0 => 180
  | 1 => 305
  | _ => 611
def mV' (i : Nat) : Nat := match i with
  | 0 => 124
  | _ => 305
end Sea

set_option Elab.async false
set_option linter.all false
set_option maxRecDepth 100000
set_option maxHeartbeats 4000000
namespace Sea
open PySem PySem.Spec PyProof.Rows L2 LamX NdefX ClX Evl StX
abbrev NL : List Str := ["_law_script", "_law_state", "_law_turn", "_law_passes_here", "_law_length", "_law_days_here", "_law_odd", "_law_text", "_law_other", "_law_change", "_law_k", "_law_one", "_law_day"]
theorem scLaw : FnScope NL ["_law_script"] (defScope sLaw) := ⟨rfl, rfl, rfl, by decide +kernel, rfl, by decide +kernel, by decide +kernel⟩
theorem hfC : ∀ y ∈ (lamS lamC).names, y.2 = .free → (defScope sLaw).names.lookup y.1 = some .cell ∨ (defScope sLaw).names.lookup y.1 = some .free := by decide +kernel
theorem hfD : ∀ y ∈ (lamS lamD).names, y.2 = .free → (defScope sLaw).names.lookup y.1 = some .cell ∨ (defScope sLaw).names.lookup y.1 = some .free := by decide +kernel
theorem hrC : ∀ y ∈ (["_law_text"] : List Str), (y, NameKind.free) ∈ (lamS lamC).names := by decide +kernel
theorem hrD : ∀ y ∈ (["_law_other"] : List Str), (y, NameKind.free) ∈ (lamS lamD).names := by decide +kernel
def spLaw (K : PySem.W.Frag) (Pe Pt : Addr) : Sp := fun vs H Q _ => ∃ (a : Addr) (ns : List Int), vs = [.ref a] ∧ SqL K H a (ns.map V.int) ∧ ns.length ≤ 63 ∧ H Pe = some (.tbl #[]) ∧ H Pt = some (.tbl #[]) ∧ ∀ H', Q (.bl true) H'
theorem pw18 : (10 : Int) ^ (18 : Int).toNat = 1000000000000000000 := by decide +kernel
/-- what stands of the drawn passes and days through a turn -/
structure Cr (K : PySem.W.Frag) (T : List (Addr × Str)) (h c l : Addr) (ws : List V) (L : List (Int × Int)) (ln : Int) (d : V) (ds : List Int) (H : Hp) : Prop where
  hl : H l = some (.lst ws)
  ps : PsV K H ws L
  n1 : 1 ≤ L.length
  n3 : L.length ≤ 3
  ok : ∀ x ∈ L, okP x = true
  hd : TiA K H d ds
  l1 : 1 ≤ ln
  l14 : ln ≤ 14
  gd : Good ds (ln - 1)
  nd : (ds.length : Int) ≤ ln
  nh : l ≠ h
  D : Ds K H h c
  T : Tabs T H
theorem Cr.same {K : PySem.W.Frag} {T : List (Addr × Str)} {h c l : Addr} {ws : List V} {L : List (Int × Int)} {ln : Int} {d : V} {ds : List Int} {H H' : Hp} (x : Cr K T h c l ws L ln d ds H) (s : Same H H') : Cr K T h c l ws L ln d ds H' :=
  ⟨s _ _ x.hl, x.ps.tk (.same s), x.n1, x.n3, x.ok, x.hd.tk (.same s), x.l1, x.l14, x.gd, x.nd, x.nh, x.D.same s, tabs_same x.T s⟩
theorem Cr.kh {K : PySem.W.Frag} {T : List (Addr × Str)} {h c l : Addr} {ws : List V} {L : List (Int × Int)} {ln : Int} {d : V} {ds : List Int} {H H' : Hp} (x : Cr K T h c l ws L ln d ds H) (k : Kh h H H') (d' : Ds K H' h c) : Cr K T h c l ws L ln d ds H' :=
  ⟨k _ _ x.hl x.nh, x.ps.tk (x.D.tk k), x.n1, x.n3, x.ok, x.hd.tk (x.D.tk k), x.l1, x.l14, x.gd, x.nd, x.nh, d', tabs_kh x.T x.D k⟩
theorem Cr.sml {K : PySem.W.Frag} {T : List (Addr × Str)} {h c l : Addr} {ws : List V} {L : List (Int × Int)} {ln : Int} {d : V} {ds : List Int} {H : Hp} (x : Cr K T h c l ws L ln d ds H) : ∀ y ∈ L, sm y.1 ∧ sm y.2 := fun y hy => by
  have := x.ok y hy
  unfold okP at this
  simp only [Bool.and_eq_true, decide_eq_true_eq] at this
  unfold sm
  omega
theorem good_mem {ns : List Int} {lg : Int} (g : Good ns lg) {n : Int} (hn : n ∈ ns) : 0 ≤ n ∧ n ≤ lg := by
  obtain ⟨j, hj, rfl⟩ := List.mem_iff_getElem.mp hn
  have := g j hj
  rw [List.getD_eq_getElem?_getD, List.getElem?_eq_getElem hj] at this
  exact ⟨this.1, this.2.1⟩
theorem Cr.dsb {K : PySem.W.Frag} {T : List (Addr × Str)} {h c l : Addr} {ws : List V} {L : List (Int × Int)} {ln : Int} {d : V} {ds : List Int} {H : Hp} (x : Cr K T h c l ws L ln d ds H) : ∀ n ∈ ds, 0 ≤ n ∧ n ≤ 13 := fun n hn => by
  have := good_mem x.gd hn
  have := x.l14
  omega
theorem dsm {n : Int} (h : 0 ≤ n ∧ n ≤ 13) : sm n := ⟨h.1, by omega⟩
theorem dlt {n : Int} (h : 0 ≤ n ∧ n ≤ 13) : 0 ≤ n ∧ n < 100 := ⟨h.1, by omega⟩
theorem osm {n : Int} (h : 0 ≤ n ∧ n < 1000000000000000000) : sm n := ⟨h.1, by omega⟩
/-- the exceptions: ascending, at most six -/
structure Od (os : List Int) (o : Addr) (H : Hp) : Prop where
  at_ : H o = some (.lst (os.map V.int))
  up : os.Pairwise (· < ·)
  bd : ∀ n ∈ os, 0 ≤ n ∧ n < 1000000000000000000
  few : os.length ≤ 6
theorem Od.same {os : List Int} {o : Addr} {H H' : Hp} (x : Od os o H) (s : Same H H') : Od os o H' := ⟨s _ _ x.at_, x.up, x.bd, x.few⟩
theorem Od.good {os : List Int} {o : Addr} {H : Hp} (x : Od os o H) : Good os 1000000000000000000 := fun j hj => by
  have e : os.getD j 0 = os[j] := by rw [List.getD_eq_getElem?_getD, List.getElem?_eq_getElem hj]; rfl
  have b := x.bd _ (List.getElem_mem hj)
  rw [e]
  refine ⟨b.1, by omega, fun h0 => ?_⟩
  have hj1 : j - 1 < os.length := by omega
  have e1 : os.getD (j - 1) 0 = os[j - 1] := by rw [List.getD_eq_getElem?_getD, List.getElem?_eq_getElem hj1]; rfl
  rw [e1]
  exact List.pairwise_iff_getElem.mp x.up (j - 1) j hj1 hj (by omega)
/-- " ".join([word] + [str(n) for n in numbers]) -/
theorem lineW_ev {K : PySem.W.Frag} {σ : L2.St} {H : Hp} {z : Str} {ns : List Int} {wi : TI} {te : TE} {j : Nat} {vs : List Nat} (h : ∀ H1, Ex H H1 → EvL (tLc wi (gName j) (fun _ H Q => Q true H) te vs) σ H1 (given (ns.map V.int).length (fun _ => true) fun i => .str (toString (ns.getD i 0) : Str))) (hz : z.length ≤ 20) (few : ns.length ≤ 100) (hn : ∀ n ∈ ns, sm n) :
    Ev (tM1 (fun x xs H Q => ∃ a p, ∃ ys : List Str, x = .str a ∧ xs = [.ref p] ∧ (SqL K H p (ys.map V.str) ∨ SqT K H p (ys.map V.str)) ∧ (ys.map (·.length)).sum + ys.length * a.length ≤ 16777216 ∧ Q (.str (Txt.join a ys)) H) (tC (.str " ")) (tOp rCat (tLst (tCons (tC (.str z)) tNil)) (tLc wi (gName j) (fun _ H Q => Q true H) te vs))) σ H (.str (lineW z ns)) := by
  refine ev_join (sp := " ") (ys := z :: ns.map fun n => (toString n : Str)) ev_c ?_ ?_
  · refine el_is (el_catN (xs := [.str z]) (el_lst (ea_cons ev_c ea_nil) (show 1 ≤ 100000 by decide)) (h H (Ex.refl _)) ?_) ?_
    · rw [given_all, List.length_map, List.length_map, List.length_range, List.length_singleton]
      omega
    · rw [given_all, List.length_map, map_getD (fun n => V.str (toString n : Str)) 0 ns, List.map_cons, List.map_map]
      rfl
  · have b := sum_le (ys := ns.map fun n => (toString n : Str)) (m := 19) fun y hy => by
      obtain ⟨n, hn1, rfl⟩ := List.mem_map.mp hy
      exact sm_len (hn n hn1)
    rw [List.length_map] at b
    have e : (" " : Str).length = 1 := by decide +kernel
    rw [List.map_cons, List.sum_cons, List.length_cons, List.length_map, e]
    omega
/-- Travel(..): what a caller shows, by its address -/
theorem tv_mk2 {K : PySem.W.Frag} {C cV : Addr} {H : Hp} {R : Addr → Hp → Prop} {E : XK} {ln : Int} {d o : V} {ds os : List Int} (hd : TiA K H d ds) (ho : TiA K H o os) (ld : ds.length ≤ 1000) (lo : os.length ≤ 1000)
    (q1 : tbad ln ds os = none → ∀ a H', Same H H' → Tv K C H' a ln d o ds os → R a H')
    (q2 : ∀ pt i dd H', tbad ln ds os = some (pt, i) → Same H H' → H' dd = some (.xd [("index", .int (i : Nat)), ("part", .str pt)]) → E (.ref cV) (some dd) H') :
    [V.int ln, d].length = 2 ∧ [o].length = ["exceptions"].length ∧ ∀ x dx, H x = none → H dx = none → dx ≠ x → spTvI K C cV ((.ref x :: [V.int ln, d]) ++ [o]) (upd (upd H dx (.own x)) x (.ins C dx [])) (fun v H3 => v = .non ∧ R x H3) E := by
  refine ⟨rfl, rfl, fun x dx nx ndx ne => ?_⟩
  obtain ⟨a, dx', ln', d', o', ds', os', e, h1, h2, h3, h4, h5, g1, g2⟩ := (tv_mk (K := K) (C := C) (cV := cV) (Q := fun v H' => ∃ y, v = .ref y ∧ R y H') (E := E) hd ho ld lo (fun hb a H' s _ t => ⟨a, rfl, q1 hb a H' s t⟩) q2).2.2 x dx nx ndx ne
  refine ⟨a, dx', ln', d', o', ds', os', e, h1, h2, h3, h4, h5, fun hb H' k at_ => ?_, g2⟩
  obtain ⟨z, y, ey, r⟩ := g1 hb H' k at_
  cases ey
  exact ⟨z, r⟩
section
variable {P : Program} {w : World} {K : PySem.W.Frag} {mg : Str → Option Value} {base : Heap}
theorem ok_law {f cc fE cE : Addr} {oc kV doc pm ct oc2 kV2 doc2 pm2 ct2 : Value} {od an od2 an2 : Option Addr} {osl osl2 : Array (Option Value)} (G : Gd K mg) (ne : G.Pe ≠ G.Pt)
    (lkE : K.lookup fE = some ⟨oc2, od2, .func (PySem.W.fnOf "_law_are_refused" "_law_are_refused" (defArgs sRef) (defBody sRef) (defScope sRef) .none kV2 doc2 pm2 an2 (.ref cE) ct2), osl2⟩) (hcdE : PySem.W.codeIn K (.ref cE) "_law_are_refused" = true) (TBE : TabB base mg cE G.Pe)
    (gE : mg "_law_are_refused" = some (.ref fE)) (kE : PySem.W.keepIn K (.ref fE) = true) (uE : Fun K "_law_are_refused" "_law_are_refused" sRef fE (PySem.W.fnOf "_law_are_refused" "_law_are_refused" (defArgs sRef) (defBody sRef) (defScope sRef) .none kV2 doc2 pm2 an2 (.ref cE) ct2))
    (lk : K.lookup f = some ⟨oc, od, .func (PySem.W.fnOf "law" "law" (defArgs sLaw) (defBody sLaw) (defScope sLaw) .none kV doc pm an (.ref cc) ct), osl⟩)
    (hcd : PySem.W.codeIn K (.ref cc) "law" = true) (TB : TabB base mg cc G.Pt) : FnOk P w K mg base CX0 12 f (PySem.W.fnOf "law" "law" (defArgs sLaw) (defBody sLaw) (defScope sLaw) .none kV doc pm an (.ref cc) ct) ["_law_script"] (spLaw K G.Pe G.Pt) := by
  have hTm : (G.Pt, qLam) ∈ G.tb := List.mem_cons_of_mem _ (List.mem_singleton.mpr rfl)
  have hTu : ∀ p ∈ G.tb, p.1 = G.Pt → p.2 = qLam := fun p hp e => by
    rcases List.mem_cons.mp hp with rfl | hp
    · exact absurd e ne
    · rw [List.mem_singleton.mp hp]
  have bE : Binds K (PySem.W.fnOf "_law_are_refused" "_law_are_refused" (defArgs sRef) (defBody sRef) (defScope sRef) .none kV2 doc2 pm2 an2 (.ref cE) ct2) ["_law_state"] [] := uE.binds (ps := ["_law_state"]) fun _ _ _ _ _ _ us hl => match us, hl with | [_], _ => rfl
  refine fn_of (N := NL) lk hcd scLaw (fun vs H Q E h => ?_) (fun A outer s H vs Q E hr h => ?_)
  · obtain ⟨a, ns, rfl, _⟩ := h
    rfl
  · have hu := hr.units
    have h1 := hr.mono (show 1 ≤ 11 by decide)
    have h2 := hr.mono (show 2 ≤ 11 by decide)
    have h3 := hr.mono (show 3 ≤ 11 by decide)
    have h4 := hr.mono (show 4 ≤ 11 by decide)
    have h6 := hr.mono (show 6 ≤ 11 by decide)
    have h10 := hr.mono (show 10 ≤ 11 by decide)
    have h11 := hr.mono (show 11 ≤ 11 by decide)
    suffices hh : ∃ t, PSs (cxOf CX0 P w K mg base NL "law" (defScope sLaw) f (.ref cc) A outer s H E).nox (defBody sLaw) t ∧ t { nx := fun _ H' => Q .non H', rt := Q } (start NL vs) H by
      obtain ⟨t, ht, hq⟩ := hh
      exact ⟨t, ht.nox, hq⟩
    refine ⟨_, pss_cut (ps_set (i := 1) scLaw.nd rfl (.inr rfl) (pe_call (E := E0) (ok_start (k := 0) G.uSt) h1 (by rfl) G.gSt G.kSt G.bSt .nil pass0 (pa_cons (pv 0) pa_nil)))
      (pss_cut (ps_if (pt_not (pt_val (pe_call (E := E0) (ok_ref G lkE hcdE TBE ne) h11 (by rfl) gE kE bE .nil pass0 (pa_cons (pv 1) pa_nil)))) (pss_one (ps_ret pe_bl)) pss_nil)
      (pss_cut (ps_for PassesOwn.never rfl (pi_range1 (by rfl) G.m_range (pa_cons pe_int pa_nil)) (pg_name (i := 2) scLaw.nd rfl (.inl rfl))
        (pss_cut (ps_asg (pe_tup (pa_cons (pe_call (E := E0) (ok_pas (k := 0) G.uPas G.DN G.m_range) h2 (by rfl) G.gPas G.kPas G.bPas .nil pass0 (pa_cons (pv 1) (pa_cons pe_int pa_nil))) (pa_cons (pe_call (E := E0) (ok_day (k := 0) G.uDay G.DN G.m_range G.m_tuple) h2 (by rfl) G.gDay G.kDay G.bDay .nil pass0 (pa_cons (pv 1) pa_nil)) pa_nil)))
            (pg_tup rfl (pgs_cons (pg_name (i := 3) scLaw.nd rfl (.inl rfl)) (pgs_cons (pg_tup rfl (pgs_cons (pg_name (i := 4) scLaw.nd rfl (.inl rfl)) (pgs_cons (pg_name (i := 5) scLaw.nd rfl (.inl rfl)) pgs_nil))) pgs_nil))))
        (pss_cut (ps_setLc (i := 6) (own := [("_law_k", 10)]) (g := gName 10) (by rfl) scLaw.nd rfl rfl (by rfl) (pi_range1 (by rfl) G.m_range (pa_cons (pe_dr G.DN h1 (by rfl) (pv 1) pe_int) pa_nil)) (blkOk_by (own := [("_law_k", 10)]) (N := NL) (sc := defScope sLaw) (by decide +kernel)) (fun _ _ _ _ _ => pg_name (i := 10) scLaw.nd rfl (Or.inl rfl)) (fun _ _ _ _ _ => pts_nil)
            (fun _ _ _ _ _ => pe_dr G.DN h1 (by rfl) (pv 1) (pe_ixlK K rfl (pe_lst (pa_cons pe_int (pa_cons (pe_op op_pow pe_int pe_int) pa_nil))) (pe_dr G.DN h1 (by rfl) (pv 1) pe_int))))
        (pss_cut (ps_set (i := 6) scLaw.nd rfl (.inl rfl) (pe_callB (cr_sortedSet rfl) (by rfl) G.m_sorted (by decide +kernel) (pa_cons (pe_callTy (cr_setL rfl) (by rfl) G.m_set (by decide +kernel) (pa_cons (pv 6) pa_nil)) pa_nil)))
        (pss_cut (ps_set (i := 7) scLaw.nd rfl (.inr rfl) (pe_join pe_str (pe_lc (own := [("_law_one", 11)]) (g := gName 11) (by rfl) scLaw.nd (pi_list (pv 3)) (blkOk_by (own := [("_law_one", 11)]) (N := NL) (sc := defScope sLaw) (by decide +kernel)) (fun _ _ _ _ _ => pg_name (i := 11) scLaw.nd rfl (Or.inl rfl)) (fun _ _ _ _ _ => pts_nil)
            (fun _ _ _ _ _ => pe_op op_add_str (pe_op op_add_str (pe_op op_add_str pe_str (pe_callTy call_str_int (by rfl) G.m_str (by rfl) (pa_cons (pe_ixtK K rfl (pv 11) pe_int) pa_nil))) pe_str) (pe_callTy call_str_int (by rfl) G.m_str (by rfl) (pa_cons (pe_ixtK K rfl (pv 11) pe_int) pa_nil))))))
        (pss_cut (ps_set (i := 8) scLaw.nd rfl (.inr rfl) (pe_op op_add_str (pe_op op_add_str (pe_op op_add_str pe_str (pe_callTy call_str_int (by rfl) G.m_str (by rfl) (pa_cons (pv 4) pa_nil))) pe_str) (pe_join pe_str (pe_op op_cat (pe_lst (pa_cons pe_str pa_nil)) (pe_lc (own := [("_law_day", 12)]) (g := gName 12) (by rfl) scLaw.nd (pi_tup (pv 5)) (blkOk_by (own := [("_law_day", 12)]) (N := NL) (sc := defScope sLaw) (by decide +kernel)) (fun _ _ _ _ _ => pg_name (i := 12) scLaw.nd rfl (Or.inl rfl)) (fun _ _ _ _ _ => pts_nil)
            (fun _ _ _ _ _ => pe_callTy call_str_int (by rfl) G.m_str (by rfl) (pa_cons (pv 12) pa_nil)))))))
        (pss_cut (ps_if (pt_cmpR (op_neD hu) (pv 6) (pe_lst pa_nil) (nomark _)) (pss_one (ps_set (i := 8) scLaw.nd rfl (.inr rfl) (pe_op op_add_str (pe_op op_add_str (pv 8) pe_str) (pe_join pe_str (pe_op op_cat (pe_lst (pa_cons pe_str pa_nil)) (pe_lc (own := [("_law_day", 12)]) (g := gName 12) (by rfl) scLaw.nd (pi_list (pv 6)) (blkOk_by (own := [("_law_day", 12)]) (N := NL) (sc := defScope sLaw) (by decide +kernel)) (fun _ _ _ _ _ => pg_name (i := 12) scLaw.nd rfl (Or.inl rfl)) (fun _ _ _ _ _ => pts_nil)
            (fun _ _ _ _ _ => pe_callTy call_str_int (by rfl) G.m_str (by rfl) (pa_cons (pv 12) pa_nil)))))))) pss_nil)
        (pss_cut (ps_if (pt_cmpR op_ne (pe_call (E := E0) (ok_ft (k := 0) G.uFT G.NM G.X G.Q) h3 (by rfl) G.gFT G.kFT G.bFT .nil pass0 (pa_cons (pe_call (E := E0) (ok_tar G.uTar G.X G.I) h6 (by rfl) G.gTar G.kTar G.bTar .nil passL (pa_cons (pv 3) pa_nil)) pa_nil)) (pv 7) (nomark _)) (pss_one (ps_ret pe_bl)) pss_nil)
        (pss_cut (ps_if (pt_cmpR op_ne (pe_call (E := E0) (ok_fv (k := 0) G.uFV G.NM G.W G.R) h3 (by rfl) G.gFV G.kFV G.bFV .nil pass0 (pa_cons (pe_makeK (E := E0) G.mkV (ok_tvI G.uTv G.EV G.W) h6 (by rfl) G.W.gC (kb_tvI G.uTv) passL (pa_cons (pv 4) (pa_cons (pv 5) pa_nil)) (pk_cons (pe_callTy call_tuple_of (by rfl) G.m_tuple (by rfl) (pa_cons (pv 6) pa_nil)) pk_nil)) pa_nil)) (pv 8) (nomark _)) (pss_one (ps_ret pe_bl)) pss_nil)
        (pss_cut (ps_for PassesOwn.never rfl (pi_range1 (by rfl) G.m_range (pa_cons (pe_dr G.DN h1 (by rfl) (pv 1) pe_int) pa_nil)) (pg_name (i := 9) scLaw.nd rfl (.inl rfl))
          (pss_one (ps_asg (pe_tup (pa_cons (pe_call (E := E0) (ok_ch (k := 0) G.uCh G.DN) h2 (by rfl) G.gCh G.kCh G.bCh .nil pass0 (pa_cons (pv 1) (pa_cons (pv 7) pa_nil))) (pa_cons (pe_call (E := E0) (ok_ch (k := 0) G.uCh G.DN) h2 (by rfl) G.gCh G.kCh G.bCh .nil pass0 (pa_cons (pv 1) (pa_cons (pv 8) pa_nil))) pa_nil)))
            (pg_tup rfl (pgs_cons (pg_name (i := 7) scLaw.nd rfl (.inr rfl)) (pgs_cons (pg_name (i := 8) scLaw.nd rfl (.inr rfl)) pgs_nil))))))
        (pss_cut (ps_if (pt_not (pt_val (pe_call (E := E0) (ok_sm G.SM 4) h4 (by rfl) G.SM.g G.SM.kp G.bSm .nil pass0 (pa_cons (pe_call (E := E0) (ok_par (k := 0) G.uPar G.PA G.X G.Q G.W G.R) h3 (by rfl) G.gPar G.kPar G.bPar .nil pass0 (pa_cons (pe_give (ok_out G.uOu G.OU (Nat.le_refl 9)) rfl h10 (by rfl) G.gOu G.kOu (pe_lamV (T := G.tb) TB rfl hTm hTu hfC)) pa_nil))
          (pa_cons (pe_call (E := E0) (ok_tof (k := 0) G.uTof G.RD G.m_range G.m_tuple) h3 (by rfl) G.gTof G.kTof G.bTof .nil pass0 (pa_cons (pv 7) pa_nil)) pa_nil))))) (pss_one (ps_ret pe_bl)) pss_nil)
        (pss_one (ps_if (pt_not (pt_val (pe_call (E := E0) (ok_sm G.SM 4) h4 (by rfl) G.SM.g G.SM.kp G.bSm .nil pass0 (pa_cons (pe_call (E := E0) (ok_par (k := 0) G.uPar G.PA G.X G.Q G.W G.R) h3 (by rfl) G.gPar G.kPar G.bPar .nil pass0 (pa_cons (pe_give (ok_out G.uOu G.OU (Nat.le_refl 9)) rfl h10 (by rfl) G.gOu G.kOu (pe_lamD (T := G.tb) TB rfl hTm hTu hfD rfl rfl)) pa_nil))
          (pa_cons (pe_call (E := E0) (ok_vof (k := 0) G.uVof G.RD G.VO) h3 (by rfl) G.gVof G.kVof G.bVof .nil pass0 (pa_cons (pv 8) pa_nil)) pa_nil))))) (pss_one (ps_ret pe_bl)) pss_nil)))))))))))))
      (pss_one (ps_ret pe_bl)))), ?_⟩
    obtain ⟨a0, ns, rfl, hS, hlen, hPe, hPt, q⟩ := h
    refine ⟨fun σ H' => ∃ h : Addr, σ = ([some (.ref a0), some (.ref h), none, none, none, none, none, none, none, none, none, none, none] : L2.St) ∧ Ds K H' h a0 ∧ Tabs G.tb H', ?_, ?_⟩
    · refine ⟨_, rfl, a0, ns, rfl, hS, hlen, fun h H' sm nh d => ⟨h, rfl, d, tabs_same (fun p hp => ?_) sm⟩⟩
      rcases List.mem_cons.mp hp with rfl | hp
      · exact TabS.nil hPe
      · rw [List.mem_singleton.mp hp]
        exact TabS.nil hPt
    rintro σ H1 ⟨h, rfl, d1, T1⟩
    refine ⟨fun σ H' => σ = ([some (.ref a0), some (.ref h), none, none, none, none, none, none, none, none, none, none, none] : L2.St) ∧ Ds K H' h a0 ∧ Tabs G.tb H', ?_, ?_⟩
    · exact ⟨_, rfl, h, a0, rfl, d1, T1, fun H2 d2 T2 => ⟨true, rfl, iteF ⟨rfl, d2, T2⟩⟩⟩
    rintro σ H2 ⟨rfl, d2, T2⟩
    refine ⟨fun σ H' => (∃ v2 v3 v4 v5 v6 v7 v8 v9 v10 v11 v12, σ = ([some (.ref a0), some (.ref h), v2, v3, v4, v5, v6, v7, v8, v9, v10, v11, v12] : L2.St)) ∧ Ds K H' h a0 ∧ Tabs G.tb H', ?_, fun σ H' _ => q H'⟩
    refine ⟨6, rfl, by decide, by decide, for_range (lo := 0) (n := (6 : Int).toNat) (fun i σ H' => (∃ v2 v3 v4 v5 v6 v7 v8 v9 v10 v11 v12, σ = ([some (.ref a0), some (.ref h), v2, v3, v4, v5, v6, v7, v8, v9, v10, v11, v12] : L2.St)) ∧ Ds K H' h a0 ∧ Tabs G.tb H') ⟨⟨_, _, _, _, _, _, _, _, _, _, _, rfl⟩, d2, T2⟩ ?_ fun σ H' z => z⟩
    rintro i σ H3 hi ⟨⟨v2, v3, v4, v5, v6, v7, v8, v9, v10, v11, v12, rfl⟩, d3, T3⟩
    -- passes and days
    refine ⟨fun σ H' => ∃ (l : Addr) (ws : List V) (L : List (Int × Int)) (ln : Int) (d : V) (ds : List Int), σ = ([some (.ref a0), some (.ref h), some (.int (0 + (i : Int))), some (.ref l), some (.int ln), some d, v6, v7, v8, v9, v10, v11, v12] : L2.St) ∧ Cr K G.tb h a0 l ws L ln d ds H', ?_, ?_⟩
    · refine ⟨_, rfl, h, a0, 3, rfl, by decide, by decide, d3, fun l ws L H4 d4 k4 nl hl hps n1 n3 ok => ⟨_, rfl, h, a0, rfl, d4, fun v ln ds H5 hp l1 l14 gd nd d5 k5 => ?_⟩⟩
      obtain ⟨pa, dv, rfl, hpa, hd⟩ := hp
      refine ⟨Nat.le_of_lt (small1000 (show 2 ≤ 1000 by decide)), fun tp ntp => ?_⟩
      have s6 : Same H5 (upd H5 tp (.tup [.ref l, .ref pa])) := same_new ntp
      have x5 : Cr K G.tb h a0 l ws L ln dv ds H5 := ⟨k5 _ _ hl (d3.nh nl), hps.tk (d4.tk k5), n1, by omega, ok, hd, l1, l14, gd, nd, d3.nh nl, d5, tabs_kh (tabs_kh T3 d3 k4) d4 k5⟩
      exact ⟨tp, _, rfl, .of upd_same, rfl, _, _, rfl, _, _, rfl, pa, _, rfl, ex_t s6 hpa, rfl, _, _, rfl, _, _, rfl, rfl, rfl, l, ws, L, ln, dv, ds, rfl, x5.same s6⟩
    rintro σ H4 ⟨l, ws, L, ln, d, ds, rfl, x4⟩
    -- exceptions are drawn
    refine ⟨fun σ H' => ∃ (o : Addr) (xs : List Int), σ = ([some (.ref a0), some (.ref h), some (.int (0 + (i : Int))), some (.ref l), some (.int ln), some d, some (.ref o), v7, v8, v9, v10, v11, v12] : L2.St) ∧ H' o = some (.lst (xs.map V.int)) ∧ (∀ y ∈ xs, 0 ≤ y ∧ y < 1000000000000000000) ∧ xs.length ≤ 6 ∧ Cr K G.tb h a0 l ws L ln d ds H', ?_, ?_⟩
    · refine ⟨_, rfl, h, a0, 7, rfl, by decide, by decide +kernel, x4.D, fun n H5 n0 n1 d5 k5 => ⟨n, rfl, by omega, by omega, fun D nD => ?_⟩⟩
      have nh := d5.nh nD
      have eE : ∀ (σ : L2.St) (H0 : Hp), σ[1]? = some (some (.ref h)) → EvS K (tCall (spDrawn K) [] E0 (tCons (tVar 1) (tCons (tOp (rIxL K) (tLst (tCons (tC (.int 30)) (tCons (tOp rPw (tC (.int 10)) (tC (.int 18))) tNil))) (tCall (spDrawn K) [] E0 (tCons (tVar 1) (tCons (tC (.int 2)) tNil)))) tNil))) σ H0 h a0 (fun v => 0 ≤ v ∧ v < 1000000000000000000) := fun σ H0 e0 =>
        es_dr e0 (es_pick (xs := [30, 1000000000000000000]) (fun _ => el_lst (ea_cons ev_c (ea_cons (ev_is (ev_pw (i := 10) (j := 18) ev_c ev_c ⟨by decide, by decide, by decide⟩) (by rw [pw18])) ea_nil)) (show 2 ≤ 100000 by decide)) (es_dr e0 es_c fun m e => by
          subst e
          exact ⟨by decide, by decide +kernel, fun v v0 v1 => ⟨v0, v1⟩⟩)) fun m hm => by
          have : m = 30 ∨ m = 1000000000000000000 := by simpa using hm
          exact ⟨by omega, by rcases this with rfl | rfl <;> decide +kernel, fun v v0 v1 => ⟨v0, by omega⟩⟩
      refine lc_range (lo := 0) (n := n.toNat) (fun j H' => ∃ xs : List Int, Ds K H' h a0 ∧ Kh h H5 H' ∧ H' D = some (.lst (xs.map V.int)) ∧ (∀ y ∈ xs, 0 ≤ y ∧ y < 1000000000000000000) ∧ xs.length = j) ⟨[], d5.new nD, Kh.same (same_new nD), upd_same, fun y hy => (nomatch hy), rfl⟩ ?_ ?_
      · rintro j H' hj ⟨xs, d6, k6, hD, hb, hx⟩
        refine ⟨rfl, eE _ _ rfl H' Kh.refl d6 _ fun y H7 hy d7 k7 => ?_⟩
        have hD7 := k7 _ _ hD nh
        have kall : ∀ o, Kh h H5 (upd H7 D o) := fun _ b o e n => by
          rw [upd_ne (ne_of_none e nD)]
          exact (k6.trans k7) b o e n
        refine ⟨_, hD7, by rw [List.length_map]; exact small1000 (by omega), xs ++ [y], d5.put (kall _) d7 nh, kall _, ?_, fun z hz => ?_, by rw [List.length_append, hx]; rfl⟩
        · rw [upd_same, List.map_append]
          rfl
        · rcases List.mem_append.mp hz with hz | hz
          · exact hb z hz
          · rw [List.mem_singleton.mp hz]
            exact hy
      · rintro H' ⟨xs, d6, k6, hD, hb, hx⟩
        exact ⟨D, xs, rfl, hD, hb, by omega, x4.kh (k5.trans k6) d6⟩
    rintro σ H5 ⟨o, xs, rfl, ho, hb, hx, x5⟩
    -- .. sorted
    refine ⟨fun σ H' => ∃ (o : Addr) (os : List Int), σ = ([some (.ref a0), some (.ref h), some (.int (0 + (i : Int))), some (.ref l), some (.int ln), some d, some (.ref o), v7, v8, v9, v10, v11, v12] : L2.St) ∧ Od os o H' ∧ Cr K G.tb h a0 l ws L ln d ds H', ?_, ?_⟩
    · refine ⟨_, rfl, o, xs, rfl, .of ho, by omega, fun a n na le => ?_⟩
      refine ⟨a, _, n, rfl, upd_same, by omega, fun ms p rising mem len np => ⟨p, ms, rfl, ⟨upd_same, rising, fun y hy => ?_, by omega⟩, x5.same ((same_new na).trans (same_new np))⟩⟩
      exact hb y (of_decide_eq_true ((mem y).mp hy))
    rintro σ H6 ⟨o, os, rfl, ho6, x6⟩
    -- the tariff's text
    refine ⟨fun σ H' => σ = ([some (.ref a0), some (.ref h), some (.int (0 + (i : Int))), some (.ref l), some (.int ln), some d, some (.ref o), some (.str (textT L)), v8, v9, v10, v11, v12] : L2.St) ∧ Od os o H' ∧ Cr K G.tb h a0 l ws L ln d ds H', ?_, ?_⟩
    · have sml := x6.sml
      have len := x6.ps.len
      have n3 := x6.n3
      refine s_asg (v := .str (textT L)) ?_ fun H7 e7 => ⟨rfl, ho6.same e7, x6.same e7⟩
      refine ev_is (ev_join (ys := L.map fun x => lineW "pass" [x.1, x.2]) ev_c ?_ ?_) ?_
      · refine el_is (el_lcL (fun _ => true) (fun j => .str (lineW "pass" [(L.getD j (0, 0)).1, (L.getD j (0, 0)).2])) (ev_var rfl) (sq_of x6.hl) (by omega) (fun _ => rfl) (fun _ _ _ _ _ => et_yes) ?_) ?_
        · intro j x H7 e7 hj _
          obtain ⟨⟨a, b⟩, hLi, p, rfl, hp⟩ := x6.ps.get hj
          have hm := sml _ (List.mem_of_getElem? hLi)
          have eL : L.getD j (0, 0) = (a, b) := by
            rw [List.getD_eq_getElem?_getD, hLi]
            rfl
          rw [eL, ← pass_txt]
          show Ev _ _ _ (.str ("pass " ++ (toString a : Str) ++ " " ++ (toString b : Str)))
          have hm1 : sm a := hm.1
          have hm2 : sm b := hm.2
          have la : (toString a : Str).length ≤ 19 := sm_len hm1
          have lb : (toString b : Str).length ≤ 19 := sm_len hm2
          have lp : ("pass " : Str).length = 5 := by decide +kernel
          have ls : (" " : Str).length = 1 := by decide +kernel
          have h7 := ex_t e7 hp
          have c1 := cat_len "pass " (toString a : Str)
          have c2 := cat_len ("pass " ++ (toString a : Str)) " "
          exact ev_addT (ev_addT (ev_addT ev_c (ev_strI (i := a) (ev_op (ev_var rfl) ev_c (rv_ixT h7 rfl)) (sm_log hm1)) (by omega)) ev_c (by omega)) (ev_strI (i := b) (ev_op (ev_var rfl) ev_c (rv_ixT h7 rfl)) (sm_log hm2)) (by omega)
        · rw [given_all, len, map_getD (fun x : Int × Int => V.str (lineW "pass" [x.1, x.2])) (0, 0) L, List.map_map]
          rfl
      · have few := sum_le (ys := L.map fun x => lineW "pass" [x.1, x.2]) (m := 1000) fun y hy => by
          obtain ⟨x, hx, rfl⟩ := List.mem_map.mp hy
          refine Nat.le_trans (lineW_len (by decide +kernel : ("pass" : Str).length ≤ 20) fun n hn => ?_) (show 20 + 2 * 20 ≤ 1000 by decide)
          rcases List.mem_cons.mp hn with rfl | hn
          · exact (sml x hx).1
          · rw [List.mem_singleton.mp hn]
            exact (sml x hx).2
        rw [List.length_map] at few ⊢
        have : ("\n" : Str).length = 1 := by decide +kernel
        rw [this]
        omega
      · unfold textT
        rfl
    rintro σ H7 ⟨rfl, ho7, x7⟩
    have sln : sm ln := ⟨by have := x7.l1; omega, by have := x7.l14; omega⟩
    have dsb := x7.dsb
    have dsl : ds.length ≤ 14 := by
      have := x7.nd
      have := x7.l14
      omega
    -- the travel's text
    refine ⟨fun σ H' => σ = ([some (.ref a0), some (.ref h), some (.int (0 + (i : Int))), some (.ref l), some (.int ln), some d, some (.ref o), some (.str (textT L)), some (.str (textV ln ds [])), v9, v10, v11, v12] : L2.St) ∧ Od os o H' ∧ Cr K G.tb h a0 l ws L ln d ds H', ?_, ?_⟩
    · obtain ⟨pd, rfl, hpd⟩ := x7.hd
      have w := lineW_ev (K := K) (j := 12) (vs := [12]) (wi := iTup K (tVar 5)) (te := tCB (fun xs H Q => ∃ i, xs = [.int i] ∧ i.natAbs.log2 < 1920 ∧ Q (.str (toString i)) H) (tCons (tVar 12) tNil)) (z := "days") (σ := [some (.ref a0), some (.ref h), some (.int (0 + (i : Int))), some (.ref l), some (.int ln), some (.ref pd), some (.ref o), some (.str (textT L)), v8, v9, v10, v11, v12]) (H := H7) (fun H8 e8 => el_lcTup (fun _ => true) (fun j => .str (toString (ds.getD j 0) : Str)) (ev_var rfl) (ex_t e8 hpd) (by rw [List.length_map]; omega) (fun _ => rfl) (fun _ _ _ _ _ => et_yes) (fun j x H9 e9 hj _ => by
        obtain ⟨n, hn, rfl⟩ := map_at hj
        rw [List.getD_eq_getElem?_getD, hn]
        show Ev _ _ _ (.str (toString n : Str))
        exact ev_strI (ev_var rfl) (sm_log (dsm (dsb n (List.mem_of_getElem? hn)))))) (by decide +kernel) (by omega) fun n hn => dsm (dsb n hn)
      have c1 := cat_len "round " (toString ln : Str)
      have c2 := cat_len ("round " ++ (toString ln : Str)) "\n"
      have lr : ("round " : Str).length = 6 := by decide +kernel
      have ll : ("\n" : Str).length = 1 := by decide +kernel
      have l1 := sm_len sln
      have l2 : (lineW "days" ds).length ≤ 20 + ds.length * 20 := lineW_len (by decide +kernel) fun n hn => dsm (dsb n hn)
      refine s_asg (v := .str (textV ln ds [])) ?_ fun H8 e8 => ⟨rfl, ho7.same e8, x7.same e8⟩
      rw [← travel_txt]
      exact ev_addT (ev_addT (ev_addT ev_c (ev_strI (ev_var rfl) (sm_log sln)) (by omega)) ev_c (by omega)) w (by omega)
    rintro σ H8 ⟨rfl, ho8, x8⟩
    have osl := ho8.few
    refine ⟨fun σ H' => σ = ([some (.ref a0), some (.ref h), some (.int (0 + (i : Int))), some (.ref l), some (.int ln), some d, some (.ref o), some (.str (textT L)), some (.str (textV ln ds os)), v9, v10, v11, v12] : L2.St) ∧ Od os o H' ∧ Cr K G.tb h a0 l ws L ln d ds H', ?_, ?_⟩
    · refine s_when (b := !decide (os = [])) (et_is (et_neD (edp_ev (ev_var rfl) fun H9 e9 => .lst (sq_of (e9 _ _ ho8.at_)) (intsDp os)) (edp_lst eda_nil (by decide)) (ints_sh os) (by decide +kernel)) (by rw [eqv_nilL])) (fun hb H9 e9 => ?_) (fun hb H9 e9 => ?_)
      · have hne : os ≠ [] := by simpa using hb
        have w := lineW_ev (K := K) (j := 12) (vs := [12]) (wi := iList K (tVar 6)) (te := tCB (fun xs H Q => ∃ i, xs = [.int i] ∧ i.natAbs.log2 < 1920 ∧ Q (.str (toString i)) H) (tCons (tVar 12) tNil)) (z := "exceptions") (σ := [some (.ref a0), some (.ref h), some (.int (0 + (i : Int))), some (.ref l), some (.int ln), some d, some (.ref o), some (.str (textT L)), some (.str (textV ln ds [])), v9, v10, v11, v12]) (H := H9) (fun H10 e10 => el_lcL (fun _ => true) (fun j => .str (toString (os.getD j 0) : Str)) (ev_var rfl) (sq_of (e10 _ _ (e9 _ _ ho8.at_))) (by rw [List.length_map]; omega) (fun _ => rfl) (fun _ _ _ _ _ => et_yes) (fun j x H11 e11 hj _ => by
          obtain ⟨n, hn, rfl⟩ := map_at hj
          rw [List.getD_eq_getElem?_getD, hn]
          show Ev _ _ _ (.str (toString n : Str))
          exact ev_strI (ev_var rfl) (sm_log (osm (ho8.bd n (List.mem_of_getElem? hn)))))) (by decide +kernel) (by omega) fun n hn => osm (ho8.bd n hn)
        have tv := (textV_ok (os := []) x8.l1 x8.l14 (fun n hn => dlt (dsb n hn)) dsl (fun n hn => nomatch hn) (by decide)).1
        have c1 := cat_len (textV ln ds []) "\n"
        have ll : ("\n" : Str).length = 1 := by decide +kernel
        have l2 : (lineW "exceptions" os).length ≤ 20 + os.length * 20 := lineW_len (by decide +kernel) fun n hn => osm (ho8.bd n hn)
        refine s_asg (v := .str (textV ln ds os)) ?_ fun H10 e10 => ⟨rfl, ho8.same (e9.trans e10), x8.same (e9.trans e10)⟩
        rw [← odd_txt _ _ _ hne]
        exact ev_addT (ev_addT (ev_var rfl) ev_c (by omega)) w (by omega)
      · have he : os = [] := by simpa using hb
        exact ⟨by rw [he], ho8.same e9, x8.same e9⟩
    rintro σ H9 ⟨rfl, ho9, x9⟩
    -- format_tariff
    refine ⟨fun σ H' => σ = ([some (.ref a0), some (.ref h), some (.int (0 + (i : Int))), some (.ref l), some (.int ln), some d, some (.ref o), some (.str (textT L)), some (.str (textV ln ds os)), v9, v10, v11, v12] : L2.St) ∧ Od os o H' ∧ Cr K G.tb h a0 l ws L ln d ds H', ?_, ?_⟩
    · refine ⟨_, rfl, l, ws, L, rfl, x9.hl, x9.ps, x9.n1, x9.n3, x9.ok, fun a p H10 s10 na t => ⟨a, p, L, rfl, t, by have := x9.n3; omega, x9.sml, fun H11 s11 => ⟨_, rfl, rfl, _, rfl, iteF' (by simp) ⟨rfl, ho9.same (s10.trans s11), x9.same (s10.trans s11)⟩⟩⟩⟩
    rintro σ H10 ⟨rfl, ho10, x10⟩
    -- format_travel
    refine ⟨fun σ H' => σ = ([some (.ref a0), some (.ref h), some (.int (0 + (i : Int))), some (.ref l), some (.int ln), some d, some (.ref o), some (.str (textT L)), some (.str (textV ln ds os)), v9, v10, v11, v12] : L2.St) ∧ Od os o H' ∧ Cr K G.tb h a0 l ws L ln d ds H', ?_, ?_⟩
    · refine ⟨_, rfl, _, rfl, _, rfl, o, _, rfl, .inl ⟨.of ho10.at_, fun t nt => ?_⟩⟩
      have s11 : Same H10 (upd H10 t (.tup (os.map V.int))) := same_new nt
      have nb : tbad ln ds os = none := by
        unfold tbad
        rw [if_pos ⟨x10.l1, x10.l14⟩, vbad_good x10.gd (by have := x10.nd; have := x10.l14; omega), vbad_good ho10.good (by have := ho10.few; omega)]
      refine tv_mk2 (K := K) (C := G.CV) (cV := G.cV) (E := E0) (x10.hd.tk (.same s11)) ⟨t, rfl, .of upd_same⟩ (by omega) (by have := ho10.few; omega) (fun _ a H12 s12 tv => ?_) (fun pt j dd H12 hb => by rw [nb] at hb; cases hb)
      refine ⟨a, ln, d, .ref t, ds, os, rfl, tv, by omega, by have := ho10.few; omega, sln, fun n hn => dsm (dsb n hn), fun n hn => osm (ho10.bd n hn), fun H13 s13 => ⟨_, rfl, rfl, _, rfl, iteF' (by simp) ⟨rfl, ho10.same ((s11.trans s12).trans s13), x10.same ((s11.trans s12).trans s13)⟩⟩⟩
    rintro σ H11 ⟨rfl, ho11, x11⟩
    -- changes
    refine ⟨fun σ H' => ∃ v9 y1 y2, σ = ([some (.ref a0), some (.ref h), some (.int (0 + (i : Int))), some (.ref l), some (.int ln), some d, some (.ref o), some (.str y1), some (.str y2), v9, v10, v11, v12] : L2.St) ∧ y1.length ≤ 620 ∧ PyData.strOk y1 = true ∧ y2.length ≤ 620 ∧ PyData.strOk y2 = true ∧ Ds K H' h a0 ∧ Tabs G.tb H', ?_, ?_⟩
    · have t0 := textT_ok x11.n3 x11.ok
      have w0 := textV_ok x11.l1 x11.l14 (fun n hn => dlt (dsb n hn)) dsl ho11.bd ho11.few
      refine ⟨_, rfl, h, a0, 3, rfl, by decide, by decide +kernel, x11.D, fun n H12 n0 n1 d12 k12 => ⟨n, rfl, by omega, by omega, for_range (lo := 0) (n := n.toNat) (fun j σ H' => ∃ v9 y1 y2, σ = ([some (.ref a0), some (.ref h), some (.int (0 + (i : Int))), some (.ref l), some (.int ln), some d, some (.ref o), some (.str y1), some (.str y2), v9, v10, v11, v12] : L2.St) ∧
        (y1.length ≤ bT j ∧ PyData.strOk y1 = true ∧ y2.length ≤ bV' j ∧ PyData.strOk y2 = true ∧ (j < 2 → ∀ y ∈ Txt.split y2 "\n", y.length ≤ mV' j)) ∧ Ds K H' h a0 ∧ Tabs G.tb H') ⟨_, _, _, rfl, ⟨t0.1, t0.2, w0.1, w0.2.1, fun _ => w0.2.2⟩, d12, tabs_kh x11.T x11.D k12⟩ ?_ ?_⟩⟩
      · rintro j σ H' hj ⟨v9, y1, y2, rfl, ⟨b1, c1, b2, c2, m2⟩, d', T'⟩
        have j2 : j < 2 := by omega
        have s1 : bT j ≤ 600 ∧ bV' j ≤ 600 ∧ bT j + bT j + 1 ≤ bT (j + 1) ∧ bV' j + mV' j + 1 ≤ bV' (j + 1) := by
          rcases (show j = 0 ∨ j = 1 by omega) with rfl | rfl <;> decide
        refine ⟨_, rfl, _, rfl, h, a0, y1, bT j, rfl, d', by omega, c1, fun y hy => Nat.le_trans (PyProof.Rows.part_short hy) b1, fun z1 H13 hz1 kz1 d13 k13 => ?_⟩
        refine ⟨_, rfl, _, rfl, h, a0, y2, mV' j, rfl, d13, by omega, c2, m2 j2, fun z2 H14 hz2 kz2 d14 k14 => ?_⟩
        refine ⟨Nat.le_of_lt (small1000 (show 2 ≤ 1000 by decide)), fun tp ntp => ?_⟩
        refine ⟨tp, _, rfl, .of upd_same, rfl, _, _, rfl, _, _, rfl, rfl, _, z1, z2, rfl, ⟨by omega, kz1, by omega, kz2, fun h2 y hy => ?_⟩, d14.new ntp, tabs_same (tabs_kh (tabs_kh T' d' k13) d13 k14) (same_new ntp)⟩
        obtain rfl : j = 0 := by omega
        exact Nat.le_trans (PyProof.Rows.part_short hy) (Nat.le_trans hz2 (by show _ ≤ 305; have : y2.length ≤ 180 := b2; have : mV' 0 = 124 := rfl; omega))
      · rintro σ H' ⟨v9, y1, y2, rfl, ⟨b1, c1, b2, c2, _⟩, d', T'⟩
        have s1 : bT n.toNat ≤ 620 ∧ bV' n.toNat ≤ 620 := by
          rcases (show n.toNat = 0 ∨ n.toNat = 1 ∨ n.toNat = 2 by omega) with e | e | e <;> rw [e] <;> decide
        exact ⟨v9, y1, y2, rfl, by omega, c1, by omega, c2, d', T'⟩
    rintro σ H12 ⟨v9, y1, y2, rfl, b1, c1, b2, c2, d12, T12⟩
    -- parse_tariff
    refine ⟨fun σ H' => σ = ([some (.ref a0), some (.ref h), some (.int (0 + (i : Int))), some (.ref l), some (.int ln), some d, some (.ref o), some (.str y1), some (.str y2), v9, v10, v11, v12] : L2.St) ∧ Ds K H' h a0 ∧ Tabs G.tb H', ?_, ?_⟩
    · refine ⟨T12, fun f1 c1' H13 eN T13 nf hf hc => ⟨f1, mkF qLam lamC _ c1' .none, ["_law_text"], [7], tsT K G.C G.cI G.cR, rfl, lokC G, hf, hc, dv_none, fun ok => Caps.made ok hfC hrC rfl, ?_⟩⟩
      refine out_T G (z := y1) b1 fun v H14 s14 hv => ?_
      unfold tNil
      refine par_T G hv fun x H15 s15 dx => ⟨_, rfl, y1, rfl, b1, c1, fun u H16 s16 du => ⟨3, x, u, _, by decide, rfl, dp_ex s16 dx, du, tofD_sm b1, fun H17 s17 => ?_⟩⟩
      have s := ((Same.trans s14 s15).trans s16).trans s17
      exact ⟨true, rfl, iteF ⟨rfl, (d12.extN eN).same s, tabs_same T13 s⟩⟩
    rintro σ H13 ⟨rfl, d13, T13⟩
    -- parse_travel
    refine ⟨T13, fun f1 c1' t1 H14 eN T14 nf nt ht hf hc => ⟨f1, mkF qLam lamD _ c1' (.ref t1), ["_law_other"], [8], tsV K G.CV G.cV G.cR, rfl, lokD G, hf, hc, fun t' z => ?_, fun ok => Caps.made ok hfD hrD rfl, ?_⟩⟩
    · have z' : Value.ref t1 = Value.ref t' := z
      cases z'
      exact ⟨0, ht⟩
    refine out_V G (z := y2) b2 fun v H15 s15 hv => ?_
    unfold tNil
    refine par_V G hv fun x H16 s16 dx => ⟨_, rfl, y2, rfl, b2, c2, fun u H17 s17 du => ⟨3, x, u, _, by decide, rfl, dp_ex s17 dx, du, vofD_sm b2, fun H18 s18 => ?_⟩⟩
    have s := ((Same.trans s15 s16).trans s17).trans s18
    exact ⟨true, rfl, iteF ⟨⟨_, _, _, _, _, _, _, _, _, _, _, rfl⟩, (d13.extN eN).same s, tabs_same T14 s⟩⟩
end
end Sea

set_option Elab.async false
set_option linter.all false
set_option maxRecDepth 100000
set_option maxHeartbeats 8000000
namespace Sea
open PySem PySem.Spec PyProof.Rows L2 LamX NdefX ClX StX
theorem all_mk {l : PySem.W.OpenLaw} {w : World} {K : PySem.W.Frag} {h : Heap} {mg : Str → Option Value} {fa : Addr} (X : K.In h) (Gn : h.Ns mainGlobals mg) (hfa : mg "law" = some (.ref fa))
    {C CV cP cI cR cV cU pP pRl pRd pEx cE cc Pe Pt fI fR fV fT fTv fP fRl fRd fEx fVN fNu fLi fFT fPT fFV fPV fSt fD fSm fOu fPas fTar fDay fIn fRe fTof fVof fCh fPar fE fLaw : Addr}
    {t0 : Tok} {t1 : Tok} {t2 : Tok} {u0 : Tok} {u1 : Tok} {u2 : Tok} {uD : Tok} {nmI qI : Str} {xNI : Addr} {xbsI xbmI xsubI : List Value} {xsnI : List Str} {xabI : Bool} {xcolI : Option Bool} {xddI : Option Addr} {xm0I xm1I xm2I xm3I xm5I : Option Value} {nmR qR : Str} {xNR : Addr} {xbsR xbmR xsubR : List Value} {xsnR : List Str} {xabR : Bool} {xcolR : Option Bool} {xddR : Option Addr} {xm0R xm1R xm2R xm3R xm5R : Option Value} {nmV qV : Str} {xNV : Addr} {xbsV xbmV xsubV : List Value} {xsnV : List Str} {xabV : Bool} {xcolV : Option Bool} {xddV : Option Addr} {xm0V xm1V xm2V xm3V xm5V : Option Value} {ocT : Value} {kVT : Value} {dcT : Value} {pmT : Value} {ctT : Value} {cdT : Value} {odT anT : Option Addr} {slT : Array (Option Value)} {ocI : Value} {kVI : Value} {dcI : Value} {pmI : Value} {ctI : Value} {cdI : Value} {odI anI : Option Addr} {slI : Array (Option Value)} {ocXR : Value} {kVXR : Value} {dcXR : Value} {pmXR : Value} {ctXR : Value} {cdXR : Value} {odXR anXR : Option Addr} {slXR : Array (Option Value)} {ocXV : Value} {kVXV : Value} {dcXV : Value} {pmXV : Value} {ctXV : Value} {cdXV : Value} {odXV anXV : Option Addr} {slXV : Array (Option Value)} {reP : List Value} {ocP : Value} {kVP : Value} {dcP : Value} {pmP : Value} {ctP : Value} {cdP : Value} {odP anP : Option Addr} {slP : Array (Option Value)} {ocTv : Value} {kVTv : Value} {dcTv : Value} {pmTv : Value} {ctTv : Value} {cdTv : Value} {odTv anTv : Option Addr} {slTv : Array (Option Value)} {reRl : List Value} {ocRl : Value} {kVRl : Value} {dcRl : Value} {pmRl : Value} {ctRl : Value} {cdRl : Value} {odRl anRl : Option Addr} {slRl : Array (Option Value)} {reRd : List Value} {ocRd : Value} {kVRd : Value} {dcRd : Value} {pmRd : Value} {ctRd : Value} {cdRd : Value} {odRd anRd : Option Addr} {slRd : Array (Option Value)} {reEx : List Value} {ocEx : Value} {kVEx : Value} {dcEx : Value} {pmEx : Value} {ctEx : Value} {cdEx : Value} {odEx anEx : Option Addr} {slEx : Array (Option Value)} {ocVN : Value} {kVVN : Value} {dcVN : Value} {pmVN : Value} {ctVN : Value} {cdVN : Value} {odVN anVN : Option Addr} {slVN : Array (Option Value)} {ocNu : Value} {kVNu : Value} {dcNu : Value} {pmNu : Value} {ctNu : Value} {cdNu : Value} {odNu anNu : Option Addr} {slNu : Array (Option Value)} {ocLi : Value} {kVLi : Value} {dcLi : Value} {pmLi : Value} {ctLi : Value} {cdLi : Value} {odLi anLi : Option Addr} {slLi : Array (Option Value)} {ocFT : Value} {kVFT : Value} {dcFT : Value} {pmFT : Value} {ctFT : Value} {cdFT : Value} {odFT anFT : Option Addr} {slFT : Array (Option Value)} {ocPT : Value} {kVPT : Value} {dcPT : Value} {pmPT : Value} {ctPT : Value} {cdPT : Value} {odPT anPT : Option Addr} {slPT : Array (Option Value)} {ocFV : Value} {kVFV : Value} {dcFV : Value} {pmFV : Value} {ctFV : Value} {cdFV : Value} {odFV anFV : Option Addr} {slFV : Array (Option Value)} {ocPV : Value} {kVPV : Value} {dcPV : Value} {pmPV : Value} {ctPV : Value} {cdPV : Value} {odPV anPV : Option Addr} {slPV : Array (Option Value)} {ocSt : Value} {kVSt : Value} {dcSt : Value} {pmSt : Value} {ctSt : Value} {cdSt : Value} {odSt anSt : Option Addr} {slSt : Array (Option Value)} {ocD : Value} {kVD : Value} {dcD : Value} {pmD : Value} {ctD : Value} {cdD : Value} {odD anD : Option Addr} {slD : Array (Option Value)} {ocSm : Value} {kVSm : Value} {dcSm : Value} {pmSm : Value} {ctSm : Value} {cdSm : Value} {odSm anSm : Option Addr} {slSm : Array (Option Value)} {ocOu : Value} {kVOu : Value} {dcOu : Value} {pmOu : Value} {ctOu : Value} {cdOu : Value} {odOu anOu : Option Addr} {slOu : Array (Option Value)} {ocPas : Value} {kVPas : Value} {dcPas : Value} {pmPas : Value} {ctPas : Value} {cdPas : Value} {odPas anPas : Option Addr} {slPas : Array (Option Value)} {ocTar : Value} {kVTar : Value} {dcTar : Value} {pmTar : Value} {ctTar : Value} {cdTar : Value} {odTar anTar : Option Addr} {slTar : Array (Option Value)} {ocDay : Value} {kVDay : Value} {dcDay : Value} {pmDay : Value} {ctDay : Value} {cdDay : Value} {odDay anDay : Option Addr} {slDay : Array (Option Value)} {ocIn : Value} {kVIn : Value} {dcIn : Value} {pmIn : Value} {ctIn : Value} {cdIn : Value} {odIn anIn : Option Addr} {slIn : Array (Option Value)} {ocRe : Value} {kVRe : Value} {dcRe : Value} {pmRe : Value} {ctRe : Value} {cdRe : Value} {odRe anRe : Option Addr} {slRe : Array (Option Value)} {ocTof : Value} {kVTof : Value} {dcTof : Value} {pmTof : Value} {ctTof : Value} {cdTof : Value} {odTof anTof : Option Addr} {slTof : Array (Option Value)} {ocVof : Value} {kVVof : Value} {dcVof : Value} {pmVof : Value} {ctVof : Value} {cdVof : Value} {odVof anVof : Option Addr} {slVof : Array (Option Value)} {ocCh : Value} {kVCh : Value} {dcCh : Value} {pmCh : Value} {ctCh : Value} {cdCh : Value} {odCh anCh : Option Addr} {slCh : Array (Option Value)} {ocPar : Value} {kVPar : Value} {dcPar : Value} {pmPar : Value} {ctPar : Value} {cdPar : Value} {odPar anPar : Option Addr} {slPar : Array (Option Value)} {ocE : Value} {kVE : Value} {dcE : Value} {pmE : Value} {ctE : Value} {odE anE : Option Addr} {slE : Array (Option Value)} {ocLaw : Value} {kVLaw : Value} {dcLaw : Value} {pmLaw : Value} {ctLaw : Value} {odLaw anLaw : Option Addr} {slLaw : Array (Option Value)}
    (hT : h.get? Pt = some { cls := .none, data := .fields #[] })
    (hU : h.get? Pe = some { cls := .none, data := .fields #[] })
    (aC : PySem.W.nsIn K mainGlobals "Tariff" = some (some (.ref C)))
    (aCV : PySem.W.nsIn K mainGlobals "Travel" = some (some (.ref CV)))
    (aP : PySem.W.nsIn K mainGlobals "PassError" = some (some (.ref cP)))
    (aI : PySem.W.nsIn K mainGlobals "InvalidTariff" = some (some (.ref cI)))
    (aR : PySem.W.nsIn K mainGlobals "InvalidText" = some (some (.ref cR)))
    (aV : PySem.W.nsIn K mainGlobals "InvalidTravel" = some (some (.ref cV)))
    (aU : PySem.W.nsIn K mainGlobals "UnknownPass" = some (some (.ref cU)))
    (z_enumerate : PySem.W.nsIn K mainGlobals "enumerate" = some none)
    (z_len : PySem.W.nsIn K mainGlobals "len" = some none)
    (z_tuple : PySem.W.nsIn K mainGlobals "tuple" = some none)
    (z_all : PySem.W.nsIn K mainGlobals "all" = some none)
    (z_int : PySem.W.nsIn K mainGlobals "int" = some none)
    (z_str : PySem.W.nsIn K mainGlobals "str" = some none)
    (z_range : PySem.W.nsIn K mainGlobals "range" = some none)
    (z_max : PySem.W.nsIn K mainGlobals "max" = some none)
    (z_min : PySem.W.nsIn K mainGlobals "min" = some none)
    (z_isinstance : PySem.W.nsIn K mainGlobals "isinstance" = some none)
    (z_list : PySem.W.nsIn K mainGlobals "list" = some none)
    (z_bool : PySem.W.nsIn K mainGlobals "bool" = some none)
    (z_set : PySem.W.nsIn K mainGlobals "set" = some none)
    (z_sorted : PySem.W.nsIn K mainGlobals "sorted" = some none)
    (pgC : PySem.W.plainGet K C Str.empty = true)
    (hdC : PySem.W.hasDictIn K C = true)
    (poC : PySem.W.plainOver K C = true)
    (saC : PySem.W.findIn K (.ref C) "__setattr__" = some (some (.builtin "object.__setattr__")))
    (haC : PySem.W.findIn K (.ref C) "__class__" = some (some (.builtin "object.__class__")))
    (hmC : PySem.W.mroIn K C (.type "object") = some true)
    (mkC : PySem.W.makesIn K C = true)
    (kpCC : PySem.W.keepIn K (.ref C) = true)
    (pgV : PySem.W.plainGet K CV Str.empty = true)
    (hdV : PySem.W.hasDictIn K CV = true)
    (poV : PySem.W.plainOver K CV = true)
    (saV : PySem.W.findIn K (.ref CV) "__setattr__" = some (some (.builtin "object.__setattr__")))
    (haV : PySem.W.findIn K (.ref CV) "__class__" = some (some (.builtin "object.__class__")))
    (hmV : PySem.W.mroIn K CV (.type "object") = some true)
    (mkV : PySem.W.makesIn K CV = true)
    (kpCV : PySem.W.keepIn K (.ref CV) = true)
    (nO : PySem.W.findIn K (.ref C) "offers" = some none)
    (rd : PySem.W.readsIn K C (.type "type") = true)
    (ga : PySem.W.specialIn K (.ref C) "__getattribute__" = some (some (.builtin "type.__getattribute__")))
    (v0 : PySem.W.findCls K (.ref C) (.type "type") "MAX_LENGTH" = some (.val (.int 28 t0)))
    (v1 : PySem.W.findCls K (.ref C) (.type "type") "MAX_PRICE" = some (.val (.int 1000000 t1)))
    (v2 : PySem.W.findCls K (.ref C) (.type "type") "MAX_PASSES" = some (.val (.int 6 t2)))
    (nA0 : PySem.W.findIn K (.ref CV) "size" = some none)
    (nA1 : PySem.W.findIn K (.ref CV) "pattern" = some none)
    (nA2 : PySem.W.findIn K (.ref CV) "odd_days" = some none)
    (w0 : PySem.W.nsIn K mainGlobals "MAX_ROUND" = some (some (.int 14 u0)))
    (w1 : PySem.W.nsIn K mainGlobals "MAX_EXCEPTIONS" = some (some (.int 6 u1)))
    (w2 : PySem.W.nsIn K mainGlobals "MAX_DAYS" = some (some (.int 1000000000000000000 u2)))
    (wD : PySem.W.nsIn K mainGlobals "DIGITS" = some (some (.str "0123456789" uD)))
    (xLI : K.lookup cI = some (excClassObj nmI qI cI xNI xbsI xbmI true xsnI xsubI xabI xcolI xddI xm0I xm1I xm2I xm3I xm5I "ValueError.__new__"))
    (xrvI : PySem.HandSPX.refsVE xbmI = true)
    (xsaI : PySem.W.findIn K (.ref cI) "__setattr__" = some (some (.builtin "object.__setattr__")))
    (sI : PySem.W.subIn K (.ref cI) (.type "BaseException") = some true)
    (yI : PySem.W.typeIn K (.ref cI) = some (.type "type"))
    (kpI : PySem.W.keepIn K (.ref cI) = true)
    (nI_index : PySem.W.findIn K (.ref cI) "index" = some none)
    (iI : PySem.W.findIn K (.ref cI) "__init__" = some (some (.ref fI)))
    (tI : PySem.W.typeIn K (.ref fI) = some (.type "function"))
    (egI : PySem.W.findIn K (.ref cI) "__getattribute__" = some (some (.builtin "BaseException.__getattribute__")))
    (ekI : PySem.W.findIn K (.ref cI) "__getattr__" = some none)
    (ehI : PySem.W.hasDictIn K cI = true)
    (xLR : K.lookup cR = some (excClassObj nmR qR cR xNR xbsR xbmR true xsnR xsubR xabR xcolR xddR xm0R xm1R xm2R xm3R xm5R "ValueError.__new__"))
    (xrvR : PySem.HandSPX.refsVE xbmR = true)
    (xsaR : PySem.W.findIn K (.ref cR) "__setattr__" = some (some (.builtin "object.__setattr__")))
    (sR : PySem.W.subIn K (.ref cR) (.type "BaseException") = some true)
    (yR : PySem.W.typeIn K (.ref cR) = some (.type "type"))
    (kpR : PySem.W.keepIn K (.ref cR) = true)
    (nR_row : PySem.W.findIn K (.ref cR) "row" = some none)
    (iR : PySem.W.findIn K (.ref cR) "__init__" = some (some (.ref fR)))
    (tR : PySem.W.typeIn K (.ref fR) = some (.type "function"))
    (egR : PySem.W.findIn K (.ref cR) "__getattribute__" = some (some (.builtin "BaseException.__getattribute__")))
    (ekR : PySem.W.findIn K (.ref cR) "__getattr__" = some none)
    (ehR : PySem.W.hasDictIn K cR = true)
    (xLV : K.lookup cV = some (excClassObj nmV qV cV xNV xbsV xbmV true xsnV xsubV xabV xcolV xddV xm0V xm1V xm2V xm3V xm5V "ValueError.__new__"))
    (xrvV : PySem.HandSPX.refsVE xbmV = true)
    (xsaV : PySem.W.findIn K (.ref cV) "__setattr__" = some (some (.builtin "object.__setattr__")))
    (sV : PySem.W.subIn K (.ref cV) (.type "BaseException") = some true)
    (yV : PySem.W.typeIn K (.ref cV) = some (.type "type"))
    (kpV : PySem.W.keepIn K (.ref cV) = true)
    (nV_part : PySem.W.findIn K (.ref cV) "part" = some none)
    (nV_index : PySem.W.findIn K (.ref cV) "index" = some none)
    (iV : PySem.W.findIn K (.ref cV) "__init__" = some (some (.ref fV)))
    (tV : PySem.W.typeIn K (.ref fV) = some (.type "function"))
    (egV : PySem.W.findIn K (.ref cV) "__getattribute__" = some (some (.builtin "BaseException.__getattribute__")))
    (ekV : PySem.W.findIn K (.ref cV) "__getattr__" = some none)
    (ehV : PySem.W.hasDictIn K cV = true)
    (prd : PySem.W.readsIn K cP (.type "type") = true)
    (pga : PySem.W.specialIn K (.ref cP) "__getattribute__" = some (some (.builtin "type.__getattribute__")))
    (pat : PySem.W.findCls K (.ref cP) (.type "type") "__init__" = some (.val (.builtin "ValueError.__init__")))
    (qU : PySem.W.excIn K cU [.type "ValueError", .type "Exception", .type "BaseException", .type "object"] "ValueError.__new__" = true)
    (kU : PySem.W.keepIn K (.ref cU) = true)
    (sU : PySem.W.subIn K (.ref cU) (.type "BaseException") = some true)
    (yU : PySem.W.typeIn K (.ref cU) = some (.type "type"))
    (xII : PySem.W.exmOne K (.ref cI) (.ref cI) = some true)
    (xRI : PySem.W.exmOne K (.ref cR) (.ref cI) = some false)
    (xRR : PySem.W.exmOne K (.ref cR) (.ref cR) = some true)
    (xVI : PySem.W.exmOne K (.ref cV) (.ref cI) = some false)
    (xVR : PySem.W.exmOne K (.ref cV) (.ref cR) = some false)
    (xVV : PySem.W.exmOne K (.ref cV) (.ref cV) = some true)
    (ktt : PySem.W.kitOne K (.ref C) (.type "tuple") = some false)
    (kvt : PySem.W.kitOne K (.ref CV) (.type "tuple") = some false)
    (kuT : PySem.W.kitOne K (.type "tuple") (.type "tuple") = some true)
    (ktT : PySem.W.kitOne K (.ref C) (.ref C) = some true)
    (kvT : PySem.W.kitOne K (.ref CV) (.ref C) = some false)
    (ecn : PySem.W.specialIn K (.builtin "object.__class__") "__get__" = some (some (.builtin "getset_descriptor.__get__")))
    (ect : PySem.W.takesIn K (.builtin "object.__class__") = some true)
    (ne : Pe ≠ Pt)
    (atT : PySem.W.findIn K (.ref C) "__init__" = some (some (.ref fT)))
    (ifT : PySem.W.isFn K (.ref fT) = true)
    (lT : K.lookup fT = some ⟨ocT, odT, .func (PySem.W.fnOf "__init__" "Tariff.__init__" (defArgs sInit) (defBody sInit) (defScope sInit) .none kVT dcT pmT anT cdT ctT), slT⟩)
    (cd_T : PySem.W.codeIn K cdT "Tariff.__init__" = true)
    (kp_T : PySem.W.keepIn K (.ref fT) = true)
    (lI : K.lookup fI = some ⟨ocI, odI, .func (PySem.W.fnOf "__init__" "InvalidTariff.__init__" (defArgs sIT) (defBody sIT) (defScope sIT) .none kVI dcI pmI anI cdI ctI), slI⟩)
    (cd_I : PySem.W.codeIn K cdI "InvalidTariff.__init__" = true)
    (kp_I : PySem.W.keepIn K (.ref fI) = true)
    (lXR : K.lookup fR = some ⟨ocXR, odXR, .func (PySem.W.fnOf "__init__" "InvalidText.__init__" (defArgs sXT) (defBody sXT) (defScope sXT) .none kVXR dcXR pmXR anXR cdXR ctXR), slXR⟩)
    (cd_XR : PySem.W.codeIn K cdXR "InvalidText.__init__" = true)
    (kp_XR : PySem.W.keepIn K (.ref fR) = true)
    (lXV : K.lookup fV = some ⟨ocXV, odXV, .func (PySem.W.fnOf "__init__" "InvalidTravel.__init__" (defArgs sIV) (defBody sIV) (defScope sIV) .none kVXV dcXV pmXV anXV cdXV ctXV), slXV⟩)
    (cd_XV : PySem.W.codeIn K cdXV "InvalidTravel.__init__" = true)
    (kp_XV : PySem.W.keepIn K (.ref fV) = true)
    (atP : PySem.W.findIn K (.ref C) "passes" = some (some (.ref pP)))
    (geP : PySem.W.specialIn K (.ref pP) "__get__" = some (some (.builtin "property.__get__")))
    (taP : PySem.W.takesIn K (.ref pP) = some true)
    (rcP : PySem.W.recIn K pP "property" = some (.ref fP :: reP))
    (lP : K.lookup fP = some ⟨ocP, odP, .func (PySem.W.fnOf "passes" "Tariff.passes" (defArgs sPasses) (defBody sPasses) (defScope sPasses) .none kVP dcP pmP anP cdP ctP), slP⟩)
    (cd_P : PySem.W.codeIn K cdP "Tariff.passes" = true)
    (kp_P : PySem.W.keepIn K (.ref fP) = true)
    (atTv : PySem.W.findIn K (.ref CV) "__init__" = some (some (.ref fTv)))
    (ifTv : PySem.W.isFn K (.ref fTv) = true)
    (lTv : K.lookup fTv = some ⟨ocTv, odTv, .func (PySem.W.fnOf "__init__" "Travel.__init__" (defArgs sTvI) (defBody sTvI) (defScope sTvI) .none kVTv dcTv pmTv anTv cdTv ctTv), slTv⟩)
    (cd_Tv : PySem.W.codeIn K cdTv "Travel.__init__" = true)
    (kp_Tv : PySem.W.keepIn K (.ref fTv) = true)
    (atRl : PySem.W.findIn K (.ref CV) "round_length" = some (some (.ref pRl)))
    (geRl : PySem.W.specialIn K (.ref pRl) "__get__" = some (some (.builtin "property.__get__")))
    (taRl : PySem.W.takesIn K (.ref pRl) = some true)
    (rcRl : PySem.W.recIn K pRl "property" = some (.ref fRl :: reRl))
    (lRl : K.lookup fRl = some ⟨ocRl, odRl, .func (PySem.W.fnOf "round_length" "Travel.round_length" (defArgs sRl) (defBody sRl) (defScope sRl) .none kVRl dcRl pmRl anRl cdRl ctRl), slRl⟩)
    (cd_Rl : PySem.W.codeIn K cdRl "Travel.round_length" = true)
    (kp_Rl : PySem.W.keepIn K (.ref fRl) = true)
    (atRd : PySem.W.findIn K (.ref CV) "round_days" = some (some (.ref pRd)))
    (geRd : PySem.W.specialIn K (.ref pRd) "__get__" = some (some (.builtin "property.__get__")))
    (taRd : PySem.W.takesIn K (.ref pRd) = some true)
    (rcRd : PySem.W.recIn K pRd "property" = some (.ref fRd :: reRd))
    (lRd : K.lookup fRd = some ⟨ocRd, odRd, .func (PySem.W.fnOf "round_days" "Travel.round_days" (defArgs sRd) (defBody sRd) (defScope sRd) .none kVRd dcRd pmRd anRd cdRd ctRd), slRd⟩)
    (cd_Rd : PySem.W.codeIn K cdRd "Travel.round_days" = true)
    (kp_Rd : PySem.W.keepIn K (.ref fRd) = true)
    (atEx : PySem.W.findIn K (.ref CV) "exceptions" = some (some (.ref pEx)))
    (geEx : PySem.W.specialIn K (.ref pEx) "__get__" = some (some (.builtin "property.__get__")))
    (taEx : PySem.W.takesIn K (.ref pEx) = some true)
    (rcEx : PySem.W.recIn K pEx "property" = some (.ref fEx :: reEx))
    (lEx : K.lookup fEx = some ⟨ocEx, odEx, .func (PySem.W.fnOf "exceptions" "Travel.exceptions" (defArgs sEx) (defBody sEx) (defScope sEx) .none kVEx dcEx pmEx anEx cdEx ctEx), slEx⟩)
    (cd_Ex : PySem.W.codeIn K cdEx "Travel.exceptions" = true)
    (kp_Ex : PySem.W.keepIn K (.ref fEx) = true)
    (atVN : PySem.W.nsIn K mainGlobals "validate_numbers" = some (some (.ref fVN)))
    (lVN : K.lookup fVN = some ⟨ocVN, odVN, .func (PySem.W.fnOf "validate_numbers" "validate_numbers" (defArgs sVN) (defBody sVN) (defScope sVN) .none kVVN dcVN pmVN anVN cdVN ctVN), slVN⟩)
    (cd_VN : PySem.W.codeIn K cdVN "validate_numbers" = true)
    (kp_VN : PySem.W.keepIn K (.ref fVN) = true)
    (atNu : PySem.W.nsIn K mainGlobals "numbers_of" = some (some (.ref fNu)))
    (lNu : K.lookup fNu = some ⟨ocNu, odNu, .func (PySem.W.fnOf "numbers_of" "numbers_of" (defArgs sNums) (defBody sNums) (defScope sNums) .none kVNu dcNu pmNu anNu cdNu ctNu), slNu⟩)
    (cd_Nu : PySem.W.codeIn K cdNu "numbers_of" = true)
    (kp_Nu : PySem.W.keepIn K (.ref fNu) = true)
    (atLi : PySem.W.nsIn K mainGlobals "line_of" = some (some (.ref fLi)))
    (lLi : K.lookup fLi = some ⟨ocLi, odLi, .func (PySem.W.fnOf "line_of" "line_of" (defArgs sLine) (defBody sLine) (defScope sLine) .none kVLi dcLi pmLi anLi cdLi ctLi), slLi⟩)
    (cd_Li : PySem.W.codeIn K cdLi "line_of" = true)
    (kp_Li : PySem.W.keepIn K (.ref fLi) = true)
    (atFT : PySem.W.nsIn K mainGlobals "format_tariff" = some (some (.ref fFT)))
    (lFT : K.lookup fFT = some ⟨ocFT, odFT, .func (PySem.W.fnOf "format_tariff" "format_tariff" (defArgs sFT) (defBody sFT) (defScope sFT) .none kVFT dcFT pmFT anFT cdFT ctFT), slFT⟩)
    (cd_FT : PySem.W.codeIn K cdFT "format_tariff" = true)
    (kp_FT : PySem.W.keepIn K (.ref fFT) = true)
    (atPT : PySem.W.nsIn K mainGlobals "parse_tariff" = some (some (.ref fPT)))
    (lPT : K.lookup fPT = some ⟨ocPT, odPT, .func (PySem.W.fnOf "parse_tariff" "parse_tariff" (defArgs sPT) (defBody sPT) (defScope sPT) .none kVPT dcPT pmPT anPT cdPT ctPT), slPT⟩)
    (cd_PT : PySem.W.codeIn K cdPT "parse_tariff" = true)
    (kp_PT : PySem.W.keepIn K (.ref fPT) = true)
    (atFV : PySem.W.nsIn K mainGlobals "format_travel" = some (some (.ref fFV)))
    (lFV : K.lookup fFV = some ⟨ocFV, odFV, .func (PySem.W.fnOf "format_travel" "format_travel" (defArgs sFV) (defBody sFV) (defScope sFV) .none kVFV dcFV pmFV anFV cdFV ctFV), slFV⟩)
    (cd_FV : PySem.W.codeIn K cdFV "format_travel" = true)
    (kp_FV : PySem.W.keepIn K (.ref fFV) = true)
    (atPV : PySem.W.nsIn K mainGlobals "parse_travel" = some (some (.ref fPV)))
    (lPV : K.lookup fPV = some ⟨ocPV, odPV, .func (PySem.W.fnOf "parse_travel" "parse_travel" (defArgs sPV) (defBody sPV) (defScope sPV) .none kVPV dcPV pmPV anPV cdPV ctPV), slPV⟩)
    (cd_PV : PySem.W.codeIn K cdPV "parse_travel" = true)
    (kp_PV : PySem.W.keepIn K (.ref fPV) = true)
    (atSt : PySem.W.nsIn K mainGlobals "_law_start" = some (some (.ref fSt)))
    (lSt : K.lookup fSt = some ⟨ocSt, odSt, .func (PySem.W.fnOf "_law_start" "_law_start" (defArgs sStart) (defBody sStart) (defScope sStart) .none kVSt dcSt pmSt anSt cdSt ctSt), slSt⟩)
    (cd_St : PySem.W.codeIn K cdSt "_law_start" = true)
    (kp_St : PySem.W.keepIn K (.ref fSt) = true)
    (atD : PySem.W.nsIn K mainGlobals "_law_drawn" = some (some (.ref fD)))
    (lD : K.lookup fD = some ⟨ocD, odD, .func (PySem.W.fnOf "_law_drawn" "_law_drawn" (defArgs sDrawn) (defBody sDrawn) (defScope sDrawn) .none kVD dcD pmD anD cdD ctD), slD⟩)
    (cd_D : PySem.W.codeIn K cdD "_law_drawn" = true)
    (kp_D : PySem.W.keepIn K (.ref fD) = true)
    (atSm : PySem.W.nsIn K mainGlobals "_law_same" = some (some (.ref fSm)))
    (lSm : K.lookup fSm = some ⟨ocSm, odSm, .func (PySem.W.fnOf "_law_same" "_law_same" (defArgs sSm) (defBody sSm) (defScope sSm) .none kVSm dcSm pmSm anSm cdSm ctSm), slSm⟩)
    (cd_Sm : PySem.W.codeIn K cdSm "_law_same" = true)
    (kp_Sm : PySem.W.keepIn K (.ref fSm) = true)
    (atOu : PySem.W.nsIn K mainGlobals "_law_outcome" = some (some (.ref fOu)))
    (lOu : K.lookup fOu = some ⟨ocOu, odOu, .func (PySem.W.fnOf "_law_outcome" "_law_outcome" (defArgs sOut) (defBody sOut) (defScope sOut) .none kVOu dcOu pmOu anOu cdOu ctOu), slOu⟩)
    (cd_Ou : PySem.W.codeIn K cdOu "_law_outcome" = true)
    (kp_Ou : PySem.W.keepIn K (.ref fOu) = true)
    (atPas : PySem.W.nsIn K mainGlobals "_law_passes" = some (some (.ref fPas)))
    (lPas : K.lookup fPas = some ⟨ocPas, odPas, .func (PySem.W.fnOf "_law_passes" "_law_passes" (defArgs sPas) (defBody sPas) (defScope sPas) .none kVPas dcPas pmPas anPas cdPas ctPas), slPas⟩)
    (cd_Pas : PySem.W.codeIn K cdPas "_law_passes" = true)
    (kp_Pas : PySem.W.keepIn K (.ref fPas) = true)
    (atTar : PySem.W.nsIn K mainGlobals "_law_tariff" = some (some (.ref fTar)))
    (lTar : K.lookup fTar = some ⟨ocTar, odTar, .func (PySem.W.fnOf "_law_tariff" "_law_tariff" (defArgs sTar) (defBody sTar) (defScope sTar) .none kVTar dcTar pmTar anTar cdTar ctTar), slTar⟩)
    (cd_Tar : PySem.W.codeIn K cdTar "_law_tariff" = true)
    (kp_Tar : PySem.W.keepIn K (.ref fTar) = true)
    (atDay : PySem.W.nsIn K mainGlobals "_law_days" = some (some (.ref fDay)))
    (lDay : K.lookup fDay = some ⟨ocDay, odDay, .func (PySem.W.fnOf "_law_days" "_law_days" (defArgs sDay) (defBody sDay) (defScope sDay) .none kVDay dcDay pmDay anDay cdDay ctDay), slDay⟩)
    (cd_Day : PySem.W.codeIn K cdDay "_law_days" = true)
    (kp_Day : PySem.W.keepIn K (.ref fDay) = true)
    (atIn : PySem.W.nsIn K mainGlobals "_law_integer" = some (some (.ref fIn)))
    (lIn : K.lookup fIn = some ⟨ocIn, odIn, .func (PySem.W.fnOf "_law_integer" "_law_integer" (defArgs sInt) (defBody sInt) (defScope sInt) .none kVIn dcIn pmIn anIn cdIn ctIn), slIn⟩)
    (cd_In : PySem.W.codeIn K cdIn "_law_integer" = true)
    (kp_In : PySem.W.keepIn K (.ref fIn) = true)
    (atRe : PySem.W.nsIn K mainGlobals "_law_read" = some (some (.ref fRe)))
    (lRe : K.lookup fRe = some ⟨ocRe, odRe, .func (PySem.W.fnOf "_law_read" "_law_read" (defArgs sRead) (defBody sRead) (defScope sRead) .none kVRe dcRe pmRe anRe cdRe ctRe), slRe⟩)
    (cd_Re : PySem.W.codeIn K cdRe "_law_read" = true)
    (kp_Re : PySem.W.keepIn K (.ref fRe) = true)
    (atTof : PySem.W.nsIn K mainGlobals "_law_tariff_of" = some (some (.ref fTof)))
    (lTof : K.lookup fTof = some ⟨ocTof, odTof, .func (PySem.W.fnOf "_law_tariff_of" "_law_tariff_of" (defArgs sTof) (defBody sTof) (defScope sTof) .none kVTof dcTof pmTof anTof cdTof ctTof), slTof⟩)
    (cd_Tof : PySem.W.codeIn K cdTof "_law_tariff_of" = true)
    (kp_Tof : PySem.W.keepIn K (.ref fTof) = true)
    (atVof : PySem.W.nsIn K mainGlobals "_law_travel_of" = some (some (.ref fVof)))
    (lVof : K.lookup fVof = some ⟨ocVof, odVof, .func (PySem.W.fnOf "_law_travel_of" "_law_travel_of" (defArgs sVof) (defBody sVof) (defScope sVof) .none kVVof dcVof pmVof anVof cdVof ctVof), slVof⟩)
    (cd_Vof : PySem.W.codeIn K cdVof "_law_travel_of" = true)
    (kp_Vof : PySem.W.keepIn K (.ref fVof) = true)
    (atCh : PySem.W.nsIn K mainGlobals "_law_changed" = some (some (.ref fCh)))
    (lCh : K.lookup fCh = some ⟨ocCh, odCh, .func (PySem.W.fnOf "_law_changed" "_law_changed" (defArgs sCh) (defBody sCh) (defScope sCh) .none kVCh dcCh pmCh anCh cdCh ctCh), slCh⟩)
    (cd_Ch : PySem.W.codeIn K cdCh "_law_changed" = true)
    (kp_Ch : PySem.W.keepIn K (.ref fCh) = true)
    (atPar : PySem.W.nsIn K mainGlobals "_law_parts" = some (some (.ref fPar)))
    (lPar : K.lookup fPar = some ⟨ocPar, odPar, .func (PySem.W.fnOf "_law_parts" "_law_parts" (defArgs sPar) (defBody sPar) (defScope sPar) .none kVPar dcPar pmPar anPar cdPar ctPar), slPar⟩)
    (cd_Par : PySem.W.codeIn K cdPar "_law_parts" = true)
    (kp_Par : PySem.W.keepIn K (.ref fPar) = true)
    (atE : PySem.W.nsIn K mainGlobals "_law_are_refused" = some (some (.ref fE)))
    (lE : K.lookup fE = some ⟨ocE, odE, .func (PySem.W.fnOf "_law_are_refused" "_law_are_refused" (defArgs sRef) (defBody sRef) (defScope sRef) .none kVE dcE pmE anE (.ref cE) ctE), slE⟩)
    (cd_E : PySem.W.codeIn K (.ref cE) "_law_are_refused" = true)
    (kp_E : PySem.W.keepIn K (.ref fE) = true)
    (atLaw : PySem.W.nsIn K mainGlobals "law" = some (some (.ref fLaw)))
    (lLaw : K.lookup fLaw = some ⟨ocLaw, odLaw, .func (PySem.W.fnOf "law" "law" (defArgs sLaw) (defBody sLaw) (defScope sLaw) .none kVLaw dcLaw pmLaw anLaw (.ref cc) ctLaw), slLaw⟩)
    (cd_Law : PySem.W.codeIn K (.ref cc) "law" = true)
    (kp_Law : PySem.W.keepIn K (.ref fLaw) = true)
    (nT : K.lookup Pt = none)
    (hH : PySem.W.codeHdIn K cc Pt = true)
    (nU : K.lookup Pe = none)
    (hV : PySem.W.codeHdIn K cE Pe = true)
    : LawAtS l w K CX0 12 63 "_law_script" mg fa h := by
  have e := hfa.symm.trans (PySem.W.mg_of X Gn atLaw)
  cases e
  have oexI : OexC K cI := ⟨⟨_, _, _, _, _, _, _, _, _, _, _, _, _, _, _, xLI, xrvI⟩, xsaI, sI, yI, kpI⟩
  have oexR : OexC K cR := ⟨⟨_, _, _, _, _, _, _, _, _, _, _, _, _, _, _, xLR, xrvR⟩, xsaR, sR, yR, kpR⟩
  have oexV : OexC K cV := ⟨⟨_, _, _, _, _, _, _, _, _, _, _, _, _, _, _, xLV, xrvV⟩, xsaV, sV, yV, kpV⟩
  let G : Gd K mg := {
    C := C, CV := CV, cP := cP, cI := cI, cR := cR, cV := cV, cU := cU, fI := fI, fR := fR, fV := fV, fT := fT, fTv := fTv, fVN := fVN, fP := fP, pP := pP, fRl := fRl, pRl := pRl, fRd := fRd, pRd := pRd, fEx := fEx, pEx := pEx, fNu := fNu, fLi := fLi, fFT := fFT, fPT := fPT, fFV := fFV, fPV := fPV, fSt := fSt, fD := fD, fSm := fSm, fOu := fOu, fPas := fPas, fTar := fTar, fDay := fDay, fIn := fIn, fRe := fRe, fTof := fTof, fVof := fVof, fCh := fCh, fPar := fPar, Pe := Pe, Pt := Pt, mc := (.type "type"), mp := (.type "type")
    dI := _, dR := _, dV := _, dT := _, dTv := _, dVN := _, dP := _, dRl := _, dRd := _, dEx := _, dNu := _, dLi := _, dFT := _, dPT := _, dFV := _, dPV := _, dSt := _, dD := _, dSm := _, dOu := _, dPas := _, dTar := _, dDay := _, dIn := _, dRe := _, dTof := _, dVof := _, dCh := _, dPar := _
    X := { cl := ⟨pgC, hdC, poC, saC⟩, no := nO, gC := PySem.W.mg_of X Gn aC, cr := ⟨rd, ga⟩, v1 := ⟨_, v0, ⟨_, rfl⟩⟩, v2 := ⟨_, v1, ⟨_, rfl⟩⟩, v3 := ⟨_, v2, ⟨_, rfl⟩⟩, mE := PySem.W.mg_none_of X Gn z_enumerate, mN := PySem.W.mg_none_of X Gn z_len, mT := PySem.W.mg_none_of X Gn z_tuple, xI := oexI, nI := nI_index, gI := PySem.W.mg_of X Gn aI, iI := iI, tI := tI, pI := ⟨PySem.W.mg_of X Gn aP, prd, pga, pat⟩, qU := qU, gU := PySem.W.mg_of X Gn aU, kU := kU, sU := sU, yU := yU }
    I := { mkf := ⟨mkC, atT, ifT, kpCC⟩, fT := fun_mk (st := sInit) lT cd_T kp_T, fI := fun_mk (st := sIT) lI cd_I kp_I }
    Q := { pr := ⟨atP, geP, taP, ⟨_, rcP⟩⟩, fu := fun_mk (st := sPasses) lP cd_P kp_P }
    XT := { xR := oexR, nR := nR_row, gR := PySem.W.mg_of X Gn aR, iR := iR, tR := tR, fu := fun_mk (st := sXT) lXR cd_XR kp_XR, pR := ⟨PySem.W.mg_of X Gn aP, prd, pga, pat⟩ }
    NM := { mA := PySem.W.mg_none_of X Gn z_all, mN := PySem.W.mg_none_of X Gn z_len, mI := PySem.W.mg_none_of X Gn z_int, mS := PySem.W.mg_none_of X Gn z_str, mD := ⟨_, PySem.W.mg_of X Gn wD, ⟨_, rfl⟩⟩, gN := PySem.W.mg_of X Gn atNu, kN := kp_Nu, uN := fun_mk (st := sNums) lNu cd_Nu kp_Nu, gL := PySem.W.mg_of X Gn atLi, kL := kp_Li, uL := fun_mk (st := sLine) lLi cd_Li kp_Li }
    EV := { xV := oexV, nP := nV_part, nI := nV_index, gV := PySem.W.mg_of X Gn aV, iV := iV, tV := tV, fu := fun_mk (st := sIV) lXV cd_XV kp_XV, pI := ⟨PySem.W.mg_of X Gn aP, prd, pga, pat⟩ }
    W := { cl := ⟨pgV, hdV, poV, saV⟩, nS := nA0, nP := nA1, nO := nA2, gC := PySem.W.mg_of X Gn aCV, mR := ⟨_, PySem.W.mg_of X Gn w0, ⟨_, rfl⟩⟩, mX := ⟨_, PySem.W.mg_of X Gn w1, ⟨_, rfl⟩⟩, mD := ⟨_, PySem.W.mg_of X Gn w2, ⟨_, rfl⟩⟩, mE := PySem.W.mg_none_of X Gn z_enumerate, gVN := PySem.W.mg_of X Gn atVN, kVN := kp_VN, uVN := fun_mk (st := sVN) lVN cd_VN kp_VN }
    mkV := ⟨mkV, atTv, ifTv, kpCV⟩, uTv := fun_mk (st := sTvI) lTv cd_Tv kp_Tv
    R := { pL := ⟨atRl, geRl, taRl, ⟨_, rcRl⟩⟩, uL := fun_mk (st := sRl) lRl cd_Rl kp_Rl, pD := ⟨atRd, geRd, taRd, ⟨_, rcRd⟩⟩, uD := fun_mk (st := sRd) lRd cd_Rd kp_Rd, pE := ⟨atEx, geEx, taEx, ⟨_, rcEx⟩⟩, uE := fun_mk (st := sEx) lEx cd_Ex kp_Ex }
    DN := { g := PySem.W.mg_of X Gn atD, kp := kp_D, fu := fun_mk (st := sDrawn) lD cd_D kp_D, mN := PySem.W.mg_none_of X Gn z_len }
    RD := { mN := PySem.W.mg_none_of X Gn z_len, mI := PySem.W.mg_none_of X Gn z_int, gI := PySem.W.mg_of X Gn atIn, kI := kp_In, uI := fun_mk (st := sInt) lIn cd_In kp_In, gR := PySem.W.mg_of X Gn atRe, kR := kp_Re, uR := fun_mk (st := sRead) lRe cd_Re kp_Re }
    VO := { mR := PySem.W.mg_none_of X Gn z_range, mT := PySem.W.mg_none_of X Gn z_tuple, mM := PySem.W.mg_none_of X Gn z_max, mm := PySem.W.mg_none_of X Gn z_min }
    PA := { kT := ⟨⟨pgC, hdC, poC, saC⟩, haC, ecn, ect, hmC⟩, kV := ⟨⟨pgV, hdV, poV, saV⟩, haV, ecn, ect, hmV⟩, mI := PySem.W.mg_none_of X Gn z_isinstance, mT := PySem.W.mg_none_of X Gn z_tuple, gC := PySem.W.mg_of X Gn aC, tt := ktt, vt := kvt, uT := kuT, tT := ktT, vT := kvT }
    OU := { gI := PySem.W.mg_of X Gn aI, gR := PySem.W.mg_of X Gn aR, gV := PySem.W.mg_of X Gn aV, fI := ⟨egI, ekI, sI, ehI⟩, fR := ⟨egR, ekR, sR, ehR⟩, fV := ⟨egV, ekV, sV, ehV⟩, nI := nI_index, nR := nR_row, nV := nV_index, pV := nV_part, II := xII, RI := xRI, RR := xRR, VI := xVI, VR := xVR, VV := xVV }
    SM := { g := PySem.W.mg_of X Gn atSm, kp := kp_Sm, fu := fun_mk (st := sSm) lSm cd_Sm kp_Sm, mI := PySem.W.mg_none_of X Gn z_isinstance, mN := PySem.W.mg_none_of X Gn z_len, mR := PySem.W.mg_none_of X Gn z_range, m_list := PySem.W.mg_none_of X Gn z_list, m_tuple := PySem.W.mg_none_of X Gn z_tuple, m_int := PySem.W.mg_none_of X Gn z_int, m_bool := PySem.W.mg_none_of X Gn z_bool }
    gFT := PySem.W.mg_of X Gn atFT, kFT := kp_FT, uFT := fun_mk (st := sFT) lFT cd_FT kp_FT
    gPT := PySem.W.mg_of X Gn atPT, kPT := kp_PT, uPT := fun_mk (st := sPT) lPT cd_PT kp_PT
    gFV := PySem.W.mg_of X Gn atFV, kFV := kp_FV, uFV := fun_mk (st := sFV) lFV cd_FV kp_FV
    gPV := PySem.W.mg_of X Gn atPV, kPV := kp_PV, uPV := fun_mk (st := sPV) lPV cd_PV kp_PV
    gSt := PySem.W.mg_of X Gn atSt, kSt := kp_St, uSt := fun_mk (st := sStart) lSt cd_St kp_St
    gOu := PySem.W.mg_of X Gn atOu, kOu := kp_Ou, uOu := fun_mk (st := sOut) lOu cd_Ou kp_Ou
    gPas := PySem.W.mg_of X Gn atPas, kPas := kp_Pas, uPas := fun_mk (st := sPas) lPas cd_Pas kp_Pas
    gTar := PySem.W.mg_of X Gn atTar, kTar := kp_Tar, uTar := fun_mk (st := sTar) lTar cd_Tar kp_Tar
    gDay := PySem.W.mg_of X Gn atDay, kDay := kp_Day, uDay := fun_mk (st := sDay) lDay cd_Day kp_Day
    gTof := PySem.W.mg_of X Gn atTof, kTof := kp_Tof, uTof := fun_mk (st := sTof) lTof cd_Tof kp_Tof
    gVof := PySem.W.mg_of X Gn atVof, kVof := kp_Vof, uVof := fun_mk (st := sVof) lVof cd_Vof kp_Vof
    gCh := PySem.W.mg_of X Gn atCh, kCh := kp_Ch, uCh := fun_mk (st := sCh) lCh cd_Ch kp_Ch
    gPar := PySem.W.mg_of X Gn atPar, kPar := kp_Par, uPar := fun_mk (st := sPar) lPar cd_Par kp_Par
    m_range := PySem.W.mg_none_of X Gn z_range, m_tuple := PySem.W.mg_none_of X Gn z_tuple, m_set := PySem.W.mg_none_of X Gn z_set, m_sorted := PySem.W.mg_none_of X Gn z_sorted, m_str := PySem.W.mg_none_of X Gn z_str }
  have b0 : ∀ {p : Addr × Addr}, p ∈ [(cE, Pe), (cc, Pt)] → p = (cE, Pe) ∨ p = (cc, Pt) := fun hp => (List.mem_cons.mp hp).imp id List.mem_singleton.mp
  refine ⟨_, [(cE, Pe), (cc, Pt)], spLaw K Pe Pt, fun p hp => ?_, fun p hp => ?_, fun p hp => ?_, fun s v => .of_eq rfl, fun H a ns hl _ hH hS => ⟨a, ns, rfl, hS, hl, hH (cE, Pe) (List.Mem.head _), hH (cc, Pt) (.tail _ (.head _)), fun _ => rfl⟩, fun base _ _ hB => ok_law (P := l.prog) (w := w) (base := base) G ne lE cd_E (hB (cE, Pe) (List.Mem.head _)) (PySem.W.mg_of X Gn atE) kp_E (fun_mk (st := sRef) lE cd_E kp_E) lLaw cd_Law (hB (cc, Pt) (.tail _ (.head _)))⟩
  · rcases b0 hp with rfl | rfl
    · exact hU
    · exact hT
  · rcases b0 hp with rfl | rfl
    · exact nU
    · exact nT
  · rcases b0 hp with rfl | rfl
    · exact PySem.W.codeHd_of_K X hV
    · exact PySem.W.codeHd_of_K X hH
end Sea

open PySem PySem.W PyProof.Rows in
set_option maxRecDepth 100000 in
set_option maxHeartbeats 0 in
theorem PySem.Challenge.cw_seasonpass_k46_texts_round_trip_holds : PySem.Challenge.rw_seasonpass_k46_texts_round_trip.Holds := by
  w_on; o_law; k_head; (case hw => w_witness2)
  k_fill
  refine LamX.walk_ofTs (l := PySem.Challenge.rw_seasonpass_k46_texts_round_trip) (n := 63) (k := 12) (x := "_law_script") (CX := fun _ => L2.CX0) rfl (by decide) rfl ⟨rfl, by decide, by decide⟩ (fun w h Y => PySem.W.km_in_of Y) ?F (fun _ _ _ _ _ z => z)
  case F =>
    intro w mg fa h Y KX G hmg
    refine' Sea.all_mk KX G hmg ?hT ?hU ?aC ?aCV ?aP ?aI ?aR ?aV ?aU ?z_enumerate ?z_len ?z_tuple ?z_all ?z_int ?z_str ?z_range ?z_max ?z_min ?z_isinstance ?z_list ?z_bool ?z_set ?z_sorted ?pgC ?hdC ?poC ?saC ?haC ?hmC ?mkC ?kpCC ?pgV ?hdV ?poV ?saV ?haV ?hmV ?mkV ?kpCV ?nO ?rd ?ga ?v0 ?v1 ?v2 ?nA0 ?nA1 ?nA2 ?w0 ?w1 ?w2 ?wD ?xLI ?xrvI ?xsaI ?sI ?yI ?kpI ?nI_index ?iI ?tI ?egI ?ekI ?ehI ?xLR ?xrvR ?xsaR ?sR ?yR ?kpR ?nR_row ?iR ?tR ?egR ?ekR ?ehR ?xLV ?xrvV ?xsaV ?sV ?yV ?kpV ?nV_part ?nV_index ?iV ?tV ?egV ?ekV ?ehV ?prd ?pga ?pat ?qU ?kU ?sU ?yU ?xII ?xRI ?xRR ?xVI ?xVR ?xVV ?ktt ?kvt ?kuT ?ktT ?kvT ?ecn ?ect ?ne ?atT ?ifT ?lT ?cd_T ?kp_T ?lI ?cd_I ?kp_I ?lXR ?cd_XR ?kp_XR ?lXV ?cd_XV ?kp_XV ?atP ?geP ?taP ?rcP ?lP ?cd_P ?kp_P ?atTv ?ifTv ?lTv ?cd_Tv ?kp_Tv ?atRl ?geRl ?taRl ?rcRl ?lRl ?cd_Rl ?kp_Rl ?atRd ?geRd ?taRd ?rcRd ?lRd ?cd_Rd ?kp_Rd ?atEx ?geEx ?taEx ?rcEx ?lEx ?cd_Ex ?kp_Ex ?atVN ?lVN ?cd_VN ?kp_VN ?atNu ?lNu ?cd_Nu ?kp_Nu ?atLi ?lLi ?cd_Li ?kp_Li ?atFT ?lFT ?cd_FT ?kp_FT ?atPT ?lPT ?cd_PT ?kp_PT ?atFV ?lFV ?cd_FV ?kp_FV ?atPV ?lPV ?cd_PV ?kp_PV ?atSt ?lSt ?cd_St ?kp_St ?atD ?lD ?cd_D ?kp_D ?atSm ?lSm ?cd_Sm ?kp_Sm ?atOu ?lOu ?cd_Ou ?kp_Ou ?atPas ?lPas ?cd_Pas ?kp_Pas ?atTar ?lTar ?cd_Tar ?kp_Tar ?atDay ?lDay ?cd_Day ?kp_Day ?atIn ?lIn ?cd_In ?kp_In ?atRe ?lRe ?cd_Re ?kp_Re ?atTof ?lTof ?cd_Tof ?kp_Tof ?atVof ?lVof ?cd_Vof ?kp_Vof ?atCh ?lCh ?cd_Ch ?kp_Ch ?atPar ?lPar ?cd_Par ?kp_Par ?atE ?lE ?cd_E ?kp_E ?atLaw ?lLaw ?cd_Law ?kp_Law ?nT ?hH ?nU ?hV
    (case hT => exact PySem.W.km_tabs_of Y _ (.tail _ (.head _)))
    (case hU => exact PySem.W.km_tabs_of Y _ (List.Mem.head _))
    (case aC => k_is)
    (case aCV => k_is)
    (case aP => k_is)
    (case aI => k_is)
    (case aR => k_is)
    (case aV => k_is)
    (case aU => k_is)
    (case z_enumerate => k_is)
    (case z_len => k_is)
    (case z_tuple => k_is)
    (case z_all => k_is)
    (case z_int => k_is)
    (case z_str => k_is)
    (case z_range => k_is)
    (case z_max => k_is)
    (case z_min => k_is)
    (case z_isinstance => k_is)
    (case z_list => k_is)
    (case z_bool => k_is)
    (case z_set => k_is)
    (case z_sorted => k_is)
    (case pgC => k_is)
    (case hdC => k_is)
    (case poC => k_is)
    (case saC => k_is)
    (case haC => k_is)
    (case hmC => k_is)
    (case mkC => k_is)
    (case kpCC => k_is)
    (case pgV => k_is)
    (case hdV => k_is)
    (case poV => k_is)
    (case saV => k_is)
    (case haV => k_is)
    (case hmV => k_is)
    (case mkV => k_is)
    (case kpCV => k_is)
    (case nO => k_is)
    (case rd => k_is)
    (case ga => k_is)
    (case v0 => k_is)
    (case v1 => k_is)
    (case v2 => k_is)
    (case nA0 => k_is)
    (case nA1 => k_is)
    (case nA2 => k_is)
    (case w0 => k_is)
    (case w1 => k_is)
    (case w2 => k_is)
    (case wD => k_is)
    (case xLI => k_is)
    (case xrvI => first | rfl | decide +kernel)
    (case xsaI => k_is)
    (case sI => k_is)
    (case yI => k_is)
    (case kpI => k_is)
    (case nI_index => k_is)
    (case iI => k_is)
    (case tI => k_is)
    (case egI => k_is)
    (case ekI => k_is)
    (case ehI => k_is)
    (case xLR => k_is)
    (case xrvR => first | rfl | decide +kernel)
    (case xsaR => k_is)
    (case sR => k_is)
    (case yR => k_is)
    (case kpR => k_is)
    (case nR_row => k_is)
    (case iR => k_is)
    (case tR => k_is)
    (case egR => k_is)
    (case ekR => k_is)
    (case ehR => k_is)
    (case xLV => k_is)
    (case xrvV => first | rfl | decide +kernel)
    (case xsaV => k_is)
    (case sV => k_is)
    (case yV => k_is)
    (case kpV => k_is)
    (case nV_part => k_is)
    (case nV_index => k_is)
    (case iV => k_is)
    (case tV => k_is)
    (case egV => k_is)
    (case ekV => k_is)
    (case ehV => k_is)
    (case prd => k_is)
    (case pga => k_is)
    (case pat => k_is)
    (case qU => first | k_is | kernel_rfl | rfl)
    (case kU => k_is)
    (case sU => k_is)
    (case yU => k_is)
    (case xII => first | k_is | kernel_rfl | rfl | decide +kernel)
    (case xRI => first | k_is | kernel_rfl | rfl | decide +kernel)
    (case xRR => first | k_is | kernel_rfl | rfl | decide +kernel)
    (case xVI => first | k_is | kernel_rfl | rfl | decide +kernel)
    (case xVR => first | k_is | kernel_rfl | rfl | decide +kernel)
    (case xVV => first | k_is | kernel_rfl | rfl | decide +kernel)
    (case ktt => first | k_is | kernel_rfl | rfl | decide +kernel)
    (case kvt => first | k_is | kernel_rfl | rfl | decide +kernel)
    (case kuT => first | k_is | kernel_rfl | rfl | decide +kernel)
    (case ktT => first | k_is | kernel_rfl | rfl | decide +kernel)
    (case kvT => first | k_is | kernel_rfl | rfl | decide +kernel)
    (case ecn => k_is)
    (case ect => k_is)
    (case ne => decide +kernel)
    (case atT => k_is)
    (case ifT => k_is)
    (case lT => k_is)
    (case cd_T => k_is)
    (case kp_T => k_is)
    (case lI => k_is)
    (case cd_I => k_is)
    (case kp_I => k_is)
    (case lXR => k_is)
    (case cd_XR => k_is)
    (case kp_XR => k_is)
    (case lXV => k_is)
    (case cd_XV => k_is)
    (case kp_XV => k_is)
    (case atP => k_is)
    (case geP => k_is)
    (case taP => k_is)
    (case rcP => k_is)
    (case lP => k_is)
    (case cd_P => k_is)
    (case kp_P => k_is)
    (case atTv => k_is)
    (case ifTv => k_is)
    (case lTv => k_is)
    (case cd_Tv => k_is)
    (case kp_Tv => k_is)
    (case atRl => k_is)
    (case geRl => k_is)
    (case taRl => k_is)
    (case rcRl => k_is)
    (case lRl => k_is)
    (case cd_Rl => k_is)
    (case kp_Rl => k_is)
    (case atRd => k_is)
    (case geRd => k_is)
    (case taRd => k_is)
    (case rcRd => k_is)
    (case lRd => k_is)
    (case cd_Rd => k_is)
    (case kp_Rd => k_is)
    (case atEx => k_is)
    (case geEx => k_is)
    (case taEx => k_is)
    (case rcEx => k_is)
    (case lEx => k_is)
    (case cd_Ex => k_is)
    (case kp_Ex => k_is)
    (case atVN => k_is)
    (case lVN => k_is)
    (case cd_VN => k_is)
    (case kp_VN => k_is)
    (case atNu => k_is)
    (case lNu => k_is)
    (case cd_Nu => k_is)
    (case kp_Nu => k_is)
    (case atLi => k_is)
    (case lLi => k_is)
    (case cd_Li => k_is)
    (case kp_Li => k_is)
    (case atFT => k_is)
    (case lFT => k_is)
    (case cd_FT => k_is)
    (case kp_FT => k_is)
    (case atPT => k_is)
    (case lPT => k_is)
    (case cd_PT => k_is)
    (case kp_PT => k_is)
    (case atFV => k_is)
    (case lFV => k_is)
    (case cd_FV => k_is)
    (case kp_FV => k_is)
    (case atPV => k_is)
    (case lPV => k_is)
    (case cd_PV => k_is)
    (case kp_PV => k_is)
    (case atSt => k_is)
    (case lSt => k_is)
    (case cd_St => k_is)
    (case kp_St => k_is)
    (case atD => k_is)
    (case lD => k_is)
    (case cd_D => k_is)
    (case kp_D => k_is)
    (case atSm => k_is)
    (case lSm => k_is)
    (case cd_Sm => k_is)
    (case kp_Sm => k_is)
    (case atOu => k_is)
    (case lOu => k_is)
    (case cd_Ou => k_is)
    (case kp_Ou => k_is)
    (case atPas => k_is)
    (case lPas => k_is)
    (case cd_Pas => k_is)
    (case kp_Pas => k_is)
    (case atTar => k_is)
    (case lTar => k_is)
    (case cd_Tar => k_is)
    (case kp_Tar => k_is)
    (case atDay => k_is)
    (case lDay => k_is)
    (case cd_Day => k_is)
    (case kp_Day => k_is)
    (case atIn => k_is)
    (case lIn => k_is)
    (case cd_In => k_is)
    (case kp_In => k_is)
    (case atRe => k_is)
    (case lRe => k_is)
    (case cd_Re => k_is)
    (case kp_Re => k_is)
    (case atTof => k_is)
    (case lTof => k_is)
    (case cd_Tof => k_is)
    (case kp_Tof => k_is)
    (case atVof => k_is)
    (case lVof => k_is)
    (case cd_Vof => k_is)
    (case kp_Vof => k_is)
    (case atCh => k_is)
    (case lCh => k_is)
    (case cd_Ch => k_is)
    (case kp_Ch => k_is)
    (case atPar => k_is)
    (case lPar => k_is)
    (case cd_Par => k_is)
    (case kp_Par => k_is)
    (case atE => k_is)
    (case lE => k_is)
    (case cd_E => k_is)
    (case kp_E => k_is)
    (case atLaw => k_is)
    (case lLaw => k_is)
    (case cd_Law => k_is)
    (case kp_Law => k_is)
    (case nT => first | rfl | kernel_rfl)
    (case hH => first | kernel_rfl | rfl)
    (case nU => first | rfl | kernel_rfl)
    (case hV => first | kernel_rfl | rfl)
#print axioms PySem.Challenge.cw_seasonpass_k46_texts_round_trip_holds

