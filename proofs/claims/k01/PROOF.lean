import PyProof.Rows.All
import Wide.All
import OpenK.AllK
import Wide.FinOn
import HandS.ForMost
import HandS.ForExc
import HandS.Nested
import HandS.Star
import HandS.Property
import HandS.ClsMeth
import HandS.Defaults
import HandS.ExcInit
import HandS.MakeKwOnly
import HandS.IsInst
import HandS.Wide
import HandS.EndTab
import KE.GoesMore
import KE.GoesComp
import KE.GoesEnum
import HandS.ExcIs
import HandS.TryMany
import KE.KExcIs
import HandS.Evl
import HandS.ExcField
import HandS.TupAny
import HandS.EndOwn
import KE.KNestM
import PySem.Challenge.RW_seasonpass_k01_tariffs_validated
set_option Elab.async false
set_option linter.all false
set_option maxRecDepth 100000
set_option maxHeartbeats 4000000
/-! lambdas as tracked objects, called from anywhere -/
namespace Sea
open PySem PySem.Spec PyProof.Rows L2 LamX NdefX

/-- the words of a lambda, what it captured, its code object, its defaults -/
structure LF where
  qual : Str
  params : Arguments
  body : Expr
  scope : Scope
  cl : List (Str × Addr)
  c : Addr
  dV : Value
abbrev LF.fd (F : LF) (doc pm ctv : Value) : FuncData :=
  PySem.W.kdv_fn "<lambda>" F.qual F.params (.expr F.body) F.scope F.cl F.dV doc pm (.ref F.c) ctv
/-- what a lambda's object is: a function object with the words F, whatever its text, module and annotations are -/
inductive LamAs (F : LF) : Obj → Prop
  | mk (od : Option Addr) (sl : Array (Option Value)) (doc pm ctv : Value) : LamAs F ⟨.type "function", od, .func (F.fd doc pm ctv), sl⟩
/-- at f stands an object of which R holds -/
def Stands (R : Obj → Prop) (f : Addr) : HO := .ext fun h => ∃ o, R o ∧ h.get? f = some o
theorem Stands.ok {P : Program} {w : World} {H : Hp} {h : Heap} {f : Addr} {R : Obj → Prop} {o : Obj} (r : R o) (e : h.get? f = some o) : ObjOk P w H h f (Stands R f) :=
  ⟨⟨o, r, e⟩, ⟨o, e⟩, fun _ _ ⟨o, r, e⟩ stays => ⟨o, r, stays o e⟩⟩
theorem Stands.no_tbl {R : Obj → Prop} {f : Addr} (ps : Array Value) : Stands R f ≠ .tbl ps := nofun
theorem Stands.no_tup {R : Obj → Prop} {f : Addr} (xs : List V) : Stands R f ≠ .tup xs := nofun
/-- a new object is laid at the heap's end -/
theorem Stands.laid {X : Cx} {pins : List (Addr × Obj)} {σ : L2.St} {H : Hp} {s : Shared} {R : Obj → Prop} {o : Obj} {t : Nat} (I : Inv X pins σ H s) (r : R o) (nf : o.isFreed = false) :
    Inv X pins σ (upd H s.heap.objs.size (Stands R s.heap.objs.size)) { s with heap := s.heap.push o, toks := t } :=
  I.laid (fun _ _ e => Heap.get?_push_of_some _ e) (Nat.le_refl _) (Stands.ok r (Heap.get?_push_size _ nf))
abbrev LamO (f : Addr) (F : LF) : HO := Stands (LamAs F) f
theorem lamO_at {P : Program} {w : World} {H : Hp} {h : Heap} {f : Addr} {F : LF} (hok : HOk P w H h) (e : H f = some (LamO f F)) : ∃ o, LamAs F o ∧ h.get? f = some o :=
  (hok f _ e).1
theorem tabs_keep {T : List (Addr × Str)} {H : Hp} {a : Addr} {o : HO} (hT : Tabs T H) (n : H a = none) : Tabs T (upd H a o) :=
  hT.ext fun b u e => by rw [upd_ne (ne_of_none e n), e]
theorem extN_new {H : Hp} {a : Addr} {o : HO} (n : H a = none) : ExtN H (upd H a o) := .of fun b u e => by rw [upd_ne (ne_of_none e n), e]
theorem extN_tbl {H : Hp} {P : Addr} {ps qs : Array Value} (at_ : H P = some (.tbl ps)) : ExtN H (upd H P (.tbl qs)) := fun b o e n => (upd_ne fun z => n ps (by
  rw [z, at_] at e
  exact (Option.some.inj e).symm)).trans e
/-- all that a table's row tells bears the name q -/
def Told (H : Hp) (q : Str) (row : List Value) : Prop := ∀ (pos : Pos) (cv : Value), codeAmong pos row = some cv → ∃ d, cv = .ref d ∧ H d = some (CodeO d q)
theorem Told.one {H H' : Hp} {q : Str} {row : List Value} {pos : Pos} {c : Addr} (t : Told H q row) (ok : TriplesOk row) (keep : ∀ d, H d = some (CodeO d q) → H' d = some (CodeO d q)) (new : H' c = some (CodeO c q)) : Told H' q (row ++ [rawInt pos.line, rawInt pos.col, .ref c]) := fun pos cv h =>
  (among_app _ ok h).elim (fun old => (t pos cv old).imp fun d z => ⟨z.1, keep d z.2⟩) fun e => ⟨c, e, new⟩
/-- the maker's table has grown by one code object -/
theorem tabs_more {T : List (Addr × Str)} {H : Hp} {P c : Addr} {q : Str} {ps : Array Value} {pos : Pos} (hT : Tabs T H) (at_ : H P = some (.tbl ps)) (ok : TriplesOk ps.toList) (told : Told H q ps.toList) (hu : ∀ p ∈ T, p.1 = P → p.2 = q) (nC : H c = none) :
    Tabs T (upd (upd H P (.tbl (ps ++ #[rawInt pos.line, rawInt pos.col, .ref c]))) c (CodeO c q)) ∧ ExtN H (upd (upd H P (.tbl (ps ++ #[rawInt pos.line, rawInt pos.col, .ref c]))) c (CodeO c q)) := by
  have Pc : P ≠ c := ne_of_none at_ nC
  have ext := (extN_tbl (qs := ps ++ #[rawInt pos.line, rawInt pos.col, .ref c]) at_).trans (extN_new (o := CodeO c q) ((upd_ne Pc.symm).trans nC))
  have row : (ps ++ #[rawInt pos.line, rawInt pos.col, .ref c]).toList = ps.toList ++ [rawInt pos.line, rawInt pos.col, .ref c] := by simp
  have mine : TabS (upd (upd H P (.tbl (ps ++ #[rawInt pos.line, rawInt pos.col, .ref c]))) c (CodeO c q)) P q := by
    refine ⟨_, (upd_ne Pc).trans upd_same, ?_, ?_⟩ <;> rw [row]
    · exact PySem.TriplesOk_snoc _ _ _ _ ok
    · exact told.one ok (fun d e => ext d _ e codeO_ne) upd_same
  have other : ∀ p ∈ T, p.1 ≠ P → TabS (upd (upd H P (.tbl (ps ++ #[rawInt pos.line, rawInt pos.col, .ref c]))) c (CodeO c q)) p.1 p.2 := fun p hp n =>
    let ⟨qs, there, fine, names⟩ := hT p hp
    ⟨qs, (upd_ne (ne_of_none there nC)).trans ((upd_ne n).trans there), fine, fun x y h => (names x y h).imp fun d z => ⟨z.1, ext d _ z.2 codeO_ne⟩⟩
  exact ⟨fun p hp => if e : p.1 = P then by rw [e, hu p hp e]; exact mine else other p hp e, ext⟩

section
variable {X : Cx} {pins : List (Addr × Obj)} {σ : L2.St} {H : Hp} {s : Shared}
/-- the lambda's object is made -/
theorem lam_tr {T : List (Addr × Str)} {c P : Addr} {params : Arguments} {body : Expr} {scope : Scope} {pos : Pos} {dV : Value} {E : Value → Shared → Prop} {Q : Value → Shared → Prop} (I : Inv X pins σ H s) (TB : TabB X.base X.mg c P) (hcode : X.env.code = .ref c)
    (hm : (P, X.env.qual ++ "<lambda>") ∈ T) (hu : ∀ p ∈ T, p.1 = P → p.2 = X.env.qual ++ "<lambda>") (hT : Tabs T H) (hfree : ∀ y ∈ scope.names, y.2 = .free → ∃ c, X.env.cells.lookup y.1 = some c)
    (h : ∀ (f c' : Addr) (H1 : Hp) (s' : Shared), Inv X pins σ H1 s' → ExtN H H1 → Tabs T H1 → H f = none →
      H1 f = some (LamO f ⟨X.env.qual ++ "<lambda>", params, body, scope, cloFrom X.env.cells scope.names [], c', dV⟩) → H1 c' = some (CodeO c' (X.env.qual ++ "<lambda>")) → Q (.ref f) s') :
    wpAny (model X.prog X.w) X.A (makeTail "<lambda>" (X.env.qual ++ "<lambda>") params (.expr body) scope X.env dV .none none pos pos.line) Q E s := by
  obtain ⟨ps, table, triples, told⟩ := hT _ hm
  have main := TB.bm.keeps I.bk
  have glob := I.mod.glob.keeps I.bk
  have code := TB.code.keeps I.bk
  -- whichever way the code object was got: the function object is laid last
  have last : ∀ (c' : Addr) (H1 : Hp) (hp : Heap) (tk : Nat) (doc pm ctv : Value), Inv X pins σ H1 { s with heap := hp, toks := tk } → s.heap.objs.size ≤ hp.objs.size → ExtN H H1 → Tabs T H1 → H1 c' = some (CodeO c' (X.env.qual ++ "<lambda>")) →
      Q (.ref hp.objs.size) { s with heap := hp.push ⟨.type "function", none, .func ((LF.mk (X.env.qual ++ "<lambda>") params body scope (cloFrom X.env.cells scope.names []) c' dV).fd doc pm ctv), #[]⟩, toks := tk } := by
    intro c' H1 hp tk doc pm ctv J le ext tabs hc
    have fresh : H1 hp.objs.size = none := J.hok.fresh (Nat.le_refl _)
    exact h _ c' _ _ (Stands.laid J (LamAs.mk none #[] doc pm ctv) rfl) (ext.trans (extN_new fresh)) (tabs_keep tabs fresh) (I.hok.fresh le) upd_same ((upd_ne (ne_of_none hc fresh)).trans hc)
  match hk : codeAmong pos ps.toList with
  | some cv =>
    obtain ⟨c', rfl, known⟩ := told pos cv hk
    exact PySem.W.kdv_makeTailHit (closure_ok hfree) I.ok.glob glob hcode code (I.hok P _ table) triples hk main fun ctv doc hp tk old le => last c' H hp tk doc _ ctv (I.kept old) le (.refl H) hT known
  | none =>
    refine PySem.W.kdv_makeTail (closure_ok hfree) I.ok.glob glob hcode code (I.hok P _ table) triples hk TB.gP main ?_
    rintro c' ctv doc hp tk old ge lt ⟨_, oc, vs, t, z, rec⟩ row
    cases z
    have grown := tabs_more (pos := pos) hT table triples told hu (I.hok.fresh ge)
    exact last c' _ hp tk doc _ ctv (inv_table (t' := tk) I table (fun b o hb e => old b o hb e) row ge ⟨oc, vs, t, rec⟩) (Nat.le_trans ge (Nat.le_of_lt lt)) grown.2 grown.1 upd_same
end

/-- a lambda as a value: without defaults -/
def tLamV (T : List (Addr × Str)) (mk : Addr → LF) : TE := fun _ H Q => Tabs T H ∧ ∀ (f c' : Addr) (H1 : Hp), ExtN H H1 → Tabs T H1 → H f = none → H1 f = some (LamO f (mk c')) → H1 c' = some (CodeO c' (mk c').qual) → Q (.ref f) H1
/-- .. with one default, an int -/
def tLamD (T : List (Addr × Str)) (d : Int) (mk : Addr → Addr → LF) : TE := fun _ H Q => Tabs T H ∧ ∀ (f c' t : Addr) (H1 : Hp), ExtN H H1 → Tabs T H1 → H f = none → H t = none → H1 t = some (.tup [.int d]) → H1 f = some (LamO f (mk c' t)) → H1 c' = some (CodeO c' (mk c' t).qual) → Q (.ref f) H1
section
variable {X : Cx} {T : List (Addr × Str)} {c P : Addr} {params : Arguments} {body : Expr} {scope : Scope} {pos : Pos}
theorem free_has (hf : ∀ y ∈ scope.names, y.2 = .free → X.env.scope.names.lookup y.1 = some .cell ∨ X.env.scope.names.lookup y.1 = some .free) (ok : X.Ok) : ∀ y ∈ scope.names, y.2 = .free → ∃ c, X.env.cells.lookup y.1 = some c :=
  fun y hy e => (hf y hy e).elim (fun k => ok.has _ (.inl k)) (fun k => ok.has _ (.inr k))
theorem pe_lamV (TB : TabB X.base X.mg c P) (hcode : X.env.code = .ref c) (hm : (P, X.env.qual ++ "<lambda>") ∈ T) (hu : ∀ p ∈ T, p.1 = P → p.2 = X.env.qual ++ "<lambda>")
    (hf : ∀ y ∈ scope.names, y.2 = .free → X.env.scope.names.lookup y.1 = some .cell ∨ X.env.scope.names.lookup y.1 = some .free) (hdef : defaultsOf params X.env = ([], []) := by rfl) :
    PE X (.Lambda params body scope pos) (tLamV T fun c' => ⟨X.env.qual ++ "<lambda>", params, body, scope, cloFrom X.env.cells scope.names [], c', .none⟩) := by
  refine ⟨fun pins s σ H Q I h => ?_⟩
  obtain ⟨hT, h⟩ := h
  refine PySem.W.kla_eval hdef ?_
  rw [makeFunction_eq]
  simp only [List.zip_nil_right, List.filterMap_nil, List.isEmpty_nil, if_true, pure_bind]
  exact lam_tr I TB hcode hm hu hT (free_has hf I.ok) fun f c' H1 s' I1 eN T1 f0 f1 c1 => ⟨.ref f, H1, I1, rfl, h f c' H1 eN T1 f0 f1 c1⟩
theorem pe_lamD {d : Int} {j : Nat} {dp : Pos} (TB : TabB X.base X.mg c P) (hcode : X.env.code = .ref c) (hm : (P, X.env.qual ++ "<lambda>") ∈ T) (hu : ∀ p ∈ T, p.1 = P → p.2 = X.env.qual ++ "<lambda>")
    (hf : ∀ y ∈ scope.names, y.2 = .free → X.env.scope.names.lookup y.1 = some .cell ∨ X.env.scope.names.lookup y.1 = some .free) (hd : params.defaults = [.Constant (.int d) j dp]) (hk0 : params.kw_defaults = []) :
    PE X (.Lambda params body scope pos) (tLamD T d fun c' t => ⟨X.env.qual ++ "<lambda>", params, body, scope, cloFrom X.env.cells scope.names [], c', .ref t⟩) := by
  refine ⟨fun pins s σ H Q I h => ?_⟩
  obtain ⟨hT, h⟩ := h
  refine PySem.W.kdv_lam (by rw [hd]; rfl) hk0 ?_
  rw [hd]
  refine PySem.W.kdv_all1 (wpAny_Constant_int (PySem.W.kdv_all0 ?_))
  rw [makeFunction_eq]
  simp only [List.zip_nil_right, List.filterMap_nil, List.isEmpty_nil, if_true, pure_bind, List.isEmpty_cons, Bool.false_eq_true, if_false]
  refine wpAny_bind (wpAny_newTextTuple ?_)
  have nT : H s.heap.objs.size = none := I.hok.fresh (Nat.le_refl _)
  have I1 := I.laid (t' := s.toks + 1) (a := s.heap.objs.size) (o := .tup [.int d]) (h' := s.heap.push ({ cls := .type "tuple", data := .seq #[.int d s.toks] } : Obj)) (fun b u e => Heap.get?_push_of_some _ e) (Nat.le_refl _)
    ⟨(by show 1 ≤ sizeLine; decide), [.int d s.toks], .cons ⟨_, rfl⟩ .nil, ⟨_, Heap.get?_push_size _ rfl, rfl, _, rfl⟩⟩
  refine lam_tr I1 TB hcode hm hu (tabs_keep hT nT) (free_has hf I.ok) fun f c' H1 s' I2 eN T1 f0 f1 c1 => ⟨.ref f, H1, I2, rfl, ?_⟩
  have ft : f ≠ s.heap.objs.size := fun z => by
    rw [z, upd_same] at f0
    cases f0
  have f0' : H f = none := by
    rw [upd_ne ft] at f0
    exact f0
  exact h f c' s.heap.objs.size H1 ((extN_new nT).trans eN) T1 f0' nT (eN _ _ upd_same (fun ps z => by cases z)) f1 c1
end
end Sea

set_option Elab.async false
set_option linter.all false
set_option maxRecDepth 100000
set_option maxHeartbeats 4000000
namespace Sea
open PySem PySem.Spec PyProof.Rows L2 LamX NdefX
abbrev LF.nf (F : LF) : NF := ⟨"<lambda>", F.qual, F.params, [], F.scope, F.cl, F.c⟩
/-- the tuple of defaults, where there is one, holds one int -/
def DvOk (F : LF) (H : Hp) : Prop := ∀ t, F.dV = .ref t → ∃ d, H t = some (.tup [.int d])
/-- a thunk's reading: ws what its captured cells hold -/
abbrev TSp := List (Option V) → Hp → VK → XK → Prop
structure LOk (P : Program) (w : World) (K : PySem.W.Frag) (mg : Str → Option Value) (base : Heap) (CX : CXT) (k : Nat) (f : Addr) (F : LF) (fr : List Str) (sp : TSp) : Prop where
  run : ∀ (A : Around) (outer : List Env) (s : Shared) (H : Hp) (ws : List (Option V)) (Q : VK) (E : XK), Room k A → Env0 P w K mg base A outer s H → H f = some (LamO f F) → H F.c = some (CodeO F.c F.qual) → DvOk F H →
    CellsAt F.cl fr ws s.heap H → sp ws H Q E → codeAny (model P w) A (.call (.ref f) ⟨[], []⟩) (CR CX outer P w H s Q E) s
theorem LOk.mono {P : Program} {w : World} {K : PySem.W.Frag} {mg : Str → Option Value} {base : Heap} {CX : CXT} {k j : Nat} {f : Addr} {F : LF} {fr : List Str} {sp : TSp} (o : LOk P w K mg base CX j f F fr sp) (h : j ≤ k) : LOk P w K mg base CX k f F fr sp :=
  ⟨fun A outer s H ws Q E hr => o.run A outer s H ws Q E (hr.mono h)⟩
theorem LOk.imp {P : Program} {w : World} {K : PySem.W.Frag} {mg : Str → Option Value} {base : Heap} {CX : CXT} {k : Nat} {f : Addr} {F : LF} {fr : List Str} {sp sp' : TSp} (o : LOk P w K mg base CX k f F fr sp) (h : ∀ ws H Q E, sp' ws H Q E → sp ws H Q E) : LOk P w K mg base CX k f F fr sp' :=
  ⟨fun A outer s H ws Q E hr e0 a b c d q => o.run A outer s H ws Q E hr e0 a b c d (h _ _ _ _ q)⟩
section
variable {CX : CXT} {P : Program} {w : World} {K : PySem.W.Frag} {mg : Str → Option Value} {base : Heap} {N ps fr : List Str} {F : LF} {f : Addr} {k : Nat} {sp : TSp}
theorem lok_core {A : Around} {outer : List Env} {s : Shared} {H : Hp} {us : List Value} {vs : List V} {ws : List (Option V)} {Q : VK} {E : XK} (S : NScope N ps fr F.scope) (hr : Room (k + 1) A) (e0 : Env0 P w K mg base A outer s H)
    (hf : H f = some (LamO f F)) (hc : H F.c = some (CodeO F.c F.qual)) (C : CellsAt F.cl fr ws s.heap H) (r : Vals vs us) (hl : vs.length = ps.length)
    (hb : ∀ doc pm ctv : Value, BindsTo s (F.fd doc pm ctv) ⟨[], []⟩ (ps.zip us))
    (hbody : Room k (A.deeper (envF F.nf f s.heap.objs.size)) → ∃ t, PE (ncx CX P w K mg base N F.nf f A outer s H E) F.body t ∧ t (startF N vs ws) H Q) :
    codeAny (model P w) A (.call (.ref f) ⟨[], []⟩) (CR CX outer P w H s Q E) s := by
  have lim : s.heap.NoLimit := e0.mod.nolimit.keeps fun b o e => (e0.bs b o e).1
  obtain ⟨_, ⟨od, sl, doc, pm, ctv⟩, ho⟩ := lamO_at e0.hok hf
  refine PySem.W.kla_callFunE hr.depth ho rfl S.co S.gen rfl (codeO_at e0.hok hc) ?_
  refine hb doc pm ctv _ _ _ _ ?_
  refine wpAny_newFunctionEnv S.nocell (fun ⟨n, _⟩ hy => S.par n (List.of_mem_zip hy).1) (fun h1 hns hsb => ⟨lim.fresh _ hsb, ?_⟩) S.kind
  have kp : ∀ b o, s.heap.get? b = some o → h1.get? b = some o := fun b o e => hsb.extBut b o (Nat.ne_of_lt (Heap.lt_size e)) (Heap.get?_push_of_some _ e)
  obtain ⟨t, ht, hq⟩ := hbody (hr.deeper _)
  have I : Inv (ncx CX P w K mg base N F.nf f A outer s H E) [] (startF N vs ws) H { s with heap := h1, toks := s.toks + (ps.zip us).length } := inv_startN S hr.hd e0 hl r C hns kp
  show codeAny _ _ (.expr F.body (envF F.nf f s.heap.objs.size)) _ _
  refine PySem.W.kla_codeExpr (wpAny_mono (ht.run [] _ (startF N vs ws) H Q I hq) (fun v s' hs => ?_) fun e s' hs => hs)
  obtain ⟨x, H', J, rv, q⟩ := hs
  exact ⟨x, H', J.os, J.bare, J.base, J.hok, rv, q⟩
theorem lok_of0 (S : NScope N [] fr F.scope) (hb : ∀ doc pm ctv : Value, bindArgs (F.fd doc pm ctv) ⟨[], []⟩ = pure [])
    (hbody : ∀ (A : Around) (outer : List Env) (s : Shared) (H : Hp) (ws : List (Option V)) (Q : VK) (E : XK), Room k (A.deeper (envF F.nf f s.heap.objs.size)) → ws.length = fr.length → sp ws H Q E →
      ∃ t, PE (ncx CX P w K mg base N F.nf f A outer s H E) F.body t ∧ t (startF N [] ws) H Q) : LOk P w K mg base CX (k + 1) f F fr sp :=
  ⟨fun A outer s H ws Q E hr e0 hf hc hd C hq => lok_core (us := []) (vs := []) S hr e0 hf hc C .nil rfl (fun doc pm ctv => .of_eq (hb doc pm ctv)) fun hr' => hbody A outer s H ws Q E hr' C.len hq⟩
/-- with one default -/
theorem lok_ofD {a : Str} {t : Addr} (S : NScope N [a] fr F.scope) (hdv : F.dV = .ref t)
    (hb : ∀ doc pm ctv : Value, ∃ kk : Option (Array Value) → Sem (List (Str × Value)), bindArgs (F.fd doc pm ctv) ⟨[], []⟩ = seqItems? (F.fd doc pm ctv).defaults >>= kk ∧ ∀ u, kk (some #[u]) = pure [(a, u)])
    (hbody : ∀ (A : Around) (outer : List Env) (s : Shared) (H : Hp) (ws : List (Option V)) (Q : VK) (E : XK) (d : Int), Room k (A.deeper (envF F.nf f s.heap.objs.size)) → ws.length = fr.length → sp ws H Q E →
      ∃ t, PE (ncx CX P w K mg base N F.nf f A outer s H E) F.body t ∧ t (startF N [.int d] ws) H Q) : LOk P w K mg base CX (k + 1) f F fr sp := by
  refine ⟨fun A outer s H ws Q E hr e0 hf hc hd C hq => ?_⟩
  obtain ⟨d, ht⟩ := hd t hdv
  obtain ⟨_, its, rv, o, ho, hcl, n, hsq⟩ := (show ObjOk P w H s.heap t (.tup [.int d]) from e0.hok t _ ht)
  cases rv with
  | @cons _ u _ rest ru rr =>
    cases rr
    exact lok_core (us := [u]) (vs := [.int d]) S hr e0 hf hc C (.cons ru .nil) rfl (fun doc pm ctv => by
      obtain ⟨kk, e1, e2⟩ := hb doc pm ctv
      exact BindsTo.of_defaults hdv ho hsq e1 (e2 u)) fun hr' => hbody A outer s H ws Q E d hr' C.len hq
end

/-- what a caller hands on with a thunk: tl is its reading -/
structure Thunk (P : Program) (w : World) (K : PySem.W.Frag) (mg : Str → Option Value) (base : Heap) (CX : CXT) (k : Nat) (outer : List Env) (s : Shared) (H : Hp) (f : Addr) (tl : Hp → VK → XK → Prop) : Prop where
  ex : ∃ (F : LF) (fr : List Str) (ws : List (Option V)) (sp : TSp), LOk P w K mg base CX k f F fr sp ∧ H f = some (LamO f F) ∧ H F.c = some (CodeO F.c F.qual) ∧ DvOk F H ∧ CellsAt F.cl fr ws s.heap H ∧ (∀ y c, F.cl.lookup y = some c → c ∉ frs outer) ∧ tl = sp ws
/-- a def that takes a thunk, its promise told of the state -/
def FnS (P : Program) (w : World) (K : PySem.W.Frag) (mg : Str → Option Value) (base : Heap) (CX CXl : CXT) (k j : Nat) (g : Addr) (sp : (Hp → VK → XK → Prop) → Hp → VK → XK → Prop) : Prop :=
  ∀ (A : Around) (outer : List Env) (s : Shared) (H : Hp) (f : Addr) (tl : Hp → VK → XK → Prop) (Q : VK) (E : XK), Room k A → Env0 P w K mg base A outer s H → Thunk P w K mg base CXl j outer s H f tl → sp tl H Q E →
    codeAny (model P w) A (.call (.ref g) ⟨[.ref f], []⟩) (CR CX outer P w H s Q E) s
section
variable {X : Cx} {CX CXl : CXT} {i k j : Nat} {x : Str} {p pos : Pos} {E : L2.St → XK}
/-- a local name is read: the value that its slot holds, nothing moved -/
theorem name_at {pins : List (Addr × Obj)} {σ : L2.St} {H : Hp} {s : Shared} {v : V} {Qv : Value → Shared → Prop} (hN : X.N[i]? = some x) (hv : Vis X.env.scope x) (hd : (x == ("__debug__" : Str)) = false) (hcd : (x == ("__classdict__" : Str)) = false)
    (I : Inv X pins σ H s) (slot : σ[i]? = some (some v)) (next : ∀ u s', RelV v u → Inv X pins σ H s' → Qv u s') : wpAny (model X.prog X.w) X.A (eval (.Name x p) X.env) Qv X.xe s := by
  have read := (pe_var (pos := p) hN hv hd hcd).run pins s σ H (fun y H' => (y, H') = (v, H)) I ⟨v, slot, rfl⟩
  refine thn read ?_
  rintro u s' ⟨_, _, J, r, e⟩
  cases e
  exact next u s' r J
/-- x(), x the thunk that this def was handed -/
def tAct (X : Cx) (CXl : CXT) (j i : Nat) (E : L2.St → XK) : TE := fun σ H Q => ∃ (f : Addr) (tl : Hp → VK → XK → Prop), σ[i]? = some (some (.ref f)) ∧ H = X.H_0 ∧ Thunk X.prog X.w X.K X.mg X.base CXl j X.outer X.s_0 X.H_0 f tl ∧ tl H Q (E σ)
theorem pe_actT (hr : Room j X.A) (hex : X.ex = []) (hx : ∀ σ, PassesAt CXl X σ (E σ)) (hN : X.N[i]? = some x) (hv : Vis X.env.scope x)
    (hd : (x == ("__debug__" : Str)) = false := by decide) (hcd : (x == ("__classdict__" : Str)) = false := by decide) : PE X (.Call (.Name x p) [] [] pos) (tAct X CXl j i E) := by
  constructor
  rintro pins s σ _ Q I ⟨f, _, slot, rfl, ⟨F, fr, ws, sp, L, hf, hc, hdv, C, nf, rfl⟩, ht⟩
  refine wpAny_Call_Name_kw (name_at hN hv hd hcd I slot ?_)
  rintro u s1 (rfl : u = .ref f) I1
  obtain ⟨_, ⟨od, sl, doc, pm, ctv⟩, ho⟩ := lamO_at I1.hok hf
  have cells := C.later nf (fun y c e z => by rw [hex] at z; cases z) I1
  have ran := L.run X.A X.stack s1 X.H_0 ws Q (E σ) hr I1.env0 hf hc hdv cells ht
  refine PySem.W.callWith_F0 (first := []) ⟨_, od, _, sl, ho⟩ (wpAny_call (codeAny_mono ran ?_))
  intro r s' back
  match r, back with
  | .error e, back => exact hx σ pins X.H_0 s1 e s' I1 back
  | .ok (.ret _), back => exact I1.after back
  | .ok .next, back => exact back.elim
  | .ok .brk, back => exact back.elim
  | .ok .cont, back => exact back.elim
/-- from the running frame: the cells that a thunk captured here -/
theorem thunk_here {pins : List (Addr × Obj)} {σ : L2.St} {H : Hp} {s : Shared} {f : Addr} {F : LF} {fr : List Str} {js : List Nat} {sp : TSp} (I : Inv X pins σ H s) (hfn : X.fn = fun _ => true) (L : LOk X.prog X.w X.K X.mg X.base CXl j f F fr sp) (hf : H f = some (LamO f F)) (hc : H F.c = some (CodeO F.c F.qual)) (hd : DvOk F H)
    (cp : Caps X F.cl fr js) : Thunk X.prog X.w X.K X.mg X.base CXl j X.stack s H f (sp (js.map (slotAt σ))) := by
  refine ⟨F, fr, _, sp, L, hf, hc, hd, cells_of I cp, fun y c e z => ?_, rfl⟩
  have e' := cp.sub y c e
  rcases List.mem_cons.mp (I.stkSub c z) with z | z
  · exact I.cne y c e' z
  · have h1 := I.ok.cab y c (by rw [hfn]) e'
    obtain ⟨_, o, ho, _⟩ := I.ok.funs.mem z
    exact absurd (Nat.lt_of_lt_of_le (Heap.lt_size ho) h1) (Nat.lt_irrefl _)
/-- g(e), e a lambda made in this def -/
def tGive (X : Cx) (CXl : CXT) (j : Nat) (sp : (Hp → VK → XK → Prop) → Hp → VK → XK → Prop) (te : TE) : TE := fun σ H Q => te σ H fun v H1 => ∃ (f : Addr) (F : LF) (fr : List Str) (js : List Nat) (lsp : TSp), v = .ref f ∧ LOk X.prog X.w X.K X.mg X.base CXl j f F fr lsp ∧
  H1 f = some (LamO f F) ∧ H1 F.c = some (CodeO F.c F.qual) ∧ DvOk F H1 ∧ (X.Ok → Caps X F.cl fr js) ∧ sp (lsp (js.map (slotAt σ))) H1 Q fun _ _ _ => False
theorem pe_give {g : Addr} {sp : (Hp → VK → XK → Prop) → Hp → VK → XK → Prop} {e : Expr} {te : TE} (G : FnS X.prog X.w X.K X.mg X.base CX0 CXl k j g sp) (hfn : X.fn = fun _ => true) (hr : Room k X.A) (hg : Gl X x) (hm : X.mg x = some (.ref g)) (hk : PySem.W.keepIn X.K (.ref g) = true) (he : PE X e te)
    (hdb : (x == ("__debug__" : Str)) = false := by decide) (hs : starEach (e :: []) X.env = (false, eval e X.env) :: starEach [] X.env := by rfl) (hpl : (backTo pos (starEach [] X.env)).any (·.1) = false := by rfl) :
    PE X (.Call (.Name x p) [e] [] pos) (tGive X CXl j sp te) := by
  refine ⟨fun pins s σ H Q I h => ?_⟩
  refine wpAny_Call_Name_kw (ld_glob I hg hm ?_ hdb)
  refine PySem.W.callWith_K (h₀ := X.base) I.ok.mod.kin hk (thn ((pa_cons he pa_nil hs).run pos pins s σ H (fun vs H1 => ∃ v, vs = [v] ∧ ∃ (f : Addr) (F : LF) (fr : List Str) (js : List Nat) (lsp : TSp), v = .ref f ∧ LOk X.prog X.w X.K X.mg X.base CXl j f F fr lsp ∧
    H1 f = some (LamO f F) ∧ H1 F.c = some (CodeO F.c F.qual) ∧ DvOk F H1 ∧ (X.Ok → Caps X F.cl fr js) ∧ sp (lsp (js.map (slotAt σ))) H1 Q fun _ _ _ => False) I ?_) fun us s1 hh => ?_) hs hpl
  · show te σ H _
    refine Eq.mp ?_ h
    show te σ H _ = te σ H _
    congr 1
    funext v H1
    refine propext ⟨fun hh => ⟨v, rfl, hh⟩, fun ⟨v', e', hh⟩ => ?_⟩
    cases e'
    exact hh
  · obtain ⟨vs, H1, I1, r, v, ev, f, F, fr, js, lsp, ef, L, hf, hc, hd, cp, q⟩ := hh
    subst ev
    subst ef
    refine ⟨I1.kIn, ?_⟩
    cases r with
    | cons ru rr =>
      cases rr
      obtain rfl := (show _ = Value.ref f from ru)
      refine wpAny_call (codeAny_mono (G X.A X.stack s1 H1 f _ Q (fun _ _ _ => False) hr I1.env0 (thunk_here I1 hfn L hf hc hd (cp I1.ok)) q) fun r s' hq => ?_)
      cases r with
      | error e => exact False.elim hq
      | ok fl =>
        cases fl with
        | ret u => exact I1.after hq
        | next => exact False.elim hq
        | brk => exact False.elim hq
        | cont => exact False.elim hq
end
end Sea

set_option Elab.async false
set_option linter.all false
set_option maxRecDepth 100000
set_option maxHeartbeats 4000000
/-! [g(x) for x in xs], xs a list of lambdas that this def made, g a def that takes a thunk -/
namespace Sea
open PySem PySem.Spec PyProof.Rows L2 LamX NdefX
theorem vals_at {xs : List V} {us : List Value} {i : Nat} {u : Value} (r : Vals xs us) (h : us[i]? = some u) : ∃ x, xs[i]? = some x ∧ RelV x u := by
  cases e : xs[i]? with
  | none =>
    rw [r.none_of e] at h
    cases h
  | some x =>
    obtain ⟨u', h', ru⟩ := r.get e
    rw [h] at h'
    cases h'
    exact ⟨x, rfl, ru⟩
def listSt (it a : Addr) (xs : List V) (i : Nat) (h : Heap) : Prop := h.IsListIter it a i ∧ ∃ items : Array Value, h.IsList a items ∧ Vals xs items.toList
theorem goes_listV {prog : Program} {w : World} {A : Around} {target : Expr} (hh : A.handled = none) (it a : Addr) (hne : a ≠ it) (xs : List V) :
    Goes prog w A target it [it, a] [it] xs.length (fun i v _ => ∃ x, xs[i]? = some x ∧ RelV x v) (listSt it a xs) := by
  refine ⟨fun b hb => by simp at hb; simp [hb], ?_, ?_, ?_, ?_⟩
  · rintro i h h' ⟨⟨o, ho, ro⟩, items, ⟨o2, ho2, ro2⟩, rv⟩ hk
    exact ⟨⟨o, hk it (by simp) o ho, ro⟩, items, ⟨o2, hk a (by simp) o2 ho2, ro2⟩, rv⟩
  · rintro i s Q E hi ⟨hit, items, hl, rv⟩ hQ
    have sz : items.size = xs.length := by
      have := rv.length
      rw [Array.length_toList] at this
      exact this.symm
    refine (Goes.list (prog := prog) (w := w) (target := target) hh it a hne items).goes i s Q E (by rw [sz]; exact hi) ⟨hit, hl⟩ ?_
    intro v h' tk hY hSt hk htk
    exact hQ v h' tk (vals_at rv (by simpa using hY)) ⟨hSt.1, items, hSt.2, rv⟩ hk htk
  · rintro s Q E ⟨hit, items, hl, rv⟩ hQ
    have sz : items.size = xs.length := by
      have := rv.length
      rw [Array.length_toList] at this
      exact this.symm
    refine (Goes.list (prog := prog) (w := w) (target := target) hh it a hne items).stops s Q E ⟨by rw [sz]; exact hit, hl⟩ hQ
  · rintro i s Q E ⟨hit, items, hl, rv⟩ hQ
    exact (Goes.list (prog := prog) (w := w) (target := target) hh it a hne items).self i s Q E ⟨hit, hl⟩ hQ
theorem clo_none {cells : List (Str × Addr)} : ∀ {names : List (Str × NameKind)} {acc : List (Str × Addr)}, (∀ y ∈ names, y.2 ≠ .free) → cloFrom cells names acc = acc
  | [], acc, _ => rfl
  | (n, k) :: r, acc, h => by
    have hk : (k == NameKind.free) = false := by
      have := h (n, k) List.mem_cons_self
      cases k <;> first | rfl | exact absurd rfl this
    unfold cloFrom
    rw [hk]
    exact clo_none fun y hy => h y (List.mem_cons_of_mem _ hy)
/-- a block whose names are its own locals and globals -/
structure PlainBlk (scope : Scope) : Prop where
  kind : scope.kind = .function
  nm : ∀ y ∈ scope.names, y.2 = .local ∨ y.2 = .globalImplicit
  uq : ∀ y ∈ scope.names, y.2 = .local → scope.names.lookup y.1 = some .local
theorem PlainBlk.noFree {scope : Scope} (b : PlainBlk scope) : ∀ y ∈ scope.names, y.2 ≠ .free := fun y hy e => by
  rcases b.nm y hy with h | h <;> rw [h] at e <;> cases e
theorem PlainBlk.noCell {scope : Scope} (b : PlainBlk scope) : ∀ y ∈ scope.names, y.2 ≠ .cell := fun y hy e => by
  rcases b.nm y hy with h | h <;> rw [h] at e <;> cases e
def plainBlkB (scope : Scope) : Bool := decide (scope.kind = .function) && scope.names.all (fun y => decide (y.2 = .local) || decide (y.2 = .globalImplicit)) && scope.names.all fun y => !decide (y.2 = .local) || decide (scope.names.lookup y.1 = some .local)
theorem plainBlk_by {scope : Scope} (h : plainBlkB scope = true) : PlainBlk scope := by
  unfold plainBlkB at h
  simp only [Bool.and_eq_true, Bool.or_eq_true, Bool.not_eq_true', decide_eq_true_eq, decide_eq_false_iff_not, List.all_eq_true] at h
  exact ⟨h.1.1, h.1.2, fun y hy e => (h.2 y hy).elim (fun z => absurd e z) id⟩
section
variable {X : Cx} {pins : List (Addr × Obj)} {σ : L2.St} {H : Hp} {s : Shared}
theorem PlainBlk.kindOf {scope : Scope} {C : Addr} (b : PlainBlk scope) {y : Str} {k : NameKind} (h : (compEnvC scope [] C X.env).kindOf y = some k) : k = .local ∨ k = .globalImplicit := by
  have h' : (relS scope X.env.scope).names.lookup y = some k := h
  obtain ⟨k', e, r⟩ := lookup_relS h'
  have hk := b.nm _ (PySem.mem_of_lookup e)
  rcases r with rfl | ⟨rfl, _⟩
  · exact hk
  · rcases hk with z | z <;> cases z
theorem blk_inv {scope : Scope} {C : Addr} {h3 : Heap} {tk : Nat} (I : Inv X pins σ H s) (hc : X.calm = true) (b : PlainBlk scope) (nC : s.heap.objs.size ≤ C) (kp : ∀ b o, s.heap.get? b = some o → h3.get? b = some o) (hns : h3.Ns C fun _ => none) :
    Inv (X.blk s H scope (compEnvC scope [] C X.env) []) [] (List.replicate X.N.length none) H { s with heap := h3, toks := tk } := by
  have nocell : ∀ x c, ([] : List (Str × Addr)).lookup x = some c → False := fun x c e => by simp at e
  have okB : (X.blk s H scope (compEnvC scope [] C X.env) []).Ok := by
    refine ⟨I.ok.mod, b.kind, I.ok.glob, I.ok.blt, nC, fun x y c e _ => (nocell x c e).elim, fun y hy => ?_, fun y c _ e => (nocell y c e).elim, I.ok.hd, I.ok.frames, .inl rfl, fun q hq => absurd hq (by simp), I.bs, Nat.le_trans I.ok.bsz I.sz, fun _ _ _ => by simp, fun q hq => absurd hq (by simp), I.stack, I.stkFree⟩
    exfalso
    rcases hy with hy | hy
    · rcases b.kindOf (X := X) hy with z | z <;> cases z
    · rcases b.kindOf (X := X) hy with z | z <;> cases z
  refine ⟨okB, rfl, I.bare, Un.kept kp, ⟨_, hns, fun i x v _ e _ => ?_⟩, fun x c e => (nocell x c e).elim, I.hok.fresh nC, fun x c e => (nocell x c e).elim, fun p hp => absurd (show p ∈ ([] : List (Addr × Obj)) ++ [] from hp) (by simp), I.hok.kept kp, by simp⟩
  exfalso
  have : (List.replicate X.N.length (none : Option V))[i]? = some (some v) := e
  rw [List.getElem?_replicate] at this
  split at this <;> cases this
end
/-- the reading of the rest r of the list, acc made so far; the list of lambdas stands at a throughout -/
def gAll (X : Cx) (CXl : CXT) (j : Nat) (sp : (Hp → VK → XK → Prop) → Hp → VK → XK → Prop) (σ : L2.St) (a : Addr) (xs : List V) (Q : VK) : List V → List V → Hp → Prop
  | [], acc, H => SqL X.K H a xs ∧ ∀ D, H D = none → Q (.ref D) (upd H D (.lst acc))
  | v :: r, acc, H => SqL X.K H a xs ∧ ∃ (f : Addr) (F : LF) (fr : List Str) (js : List Nat) (lsp : TSp), v = .ref f ∧ LOk X.prog X.w X.K X.mg X.base CXl j f F fr lsp ∧
    H f = some (LamO f F) ∧ H F.c = some (CodeO F.c F.qual) ∧ DvOk F H ∧ (X.Ok → Caps X F.cl fr js) ∧ sp (lsp (js.map (slotAt σ))) H (fun y H2 => gAll X CXl j sp σ a xs Q r (acc ++ [y]) H2) fun _ _ _ => False
theorem gAll_list {X : Cx} {CXl : CXT} {j : Nat} {sp : (Hp → VK → XK → Prop) → Hp → VK → XK → Prop} {σ : L2.St} {a : Addr} {xs : List V} {Q : VK} {r acc : List V} {H : Hp} (h : gAll X CXl j sp σ a xs Q r acc H) : SqL X.K H a xs := by
  cases r with
  | nil => exact h.1
  | cons v r => exact h.1
def tLcT (X : Cx) (CXl : CXT) (j : Nat) (sp : (Hp → VK → XK → Prop) → Hp → VK → XK → Prop) (te : TE) : TE := fun σ H Q => te σ H fun v H1 => ∃ (a : Addr) (xs : List V), v = .ref a ∧ xs.length ≤ 1000 ∧ gAll X CXl j sp σ a xs Q xs [] H1
section
variable {X : Cx} {CXl : CXT} {i k j : Nat} {x g : Str} {gA : Addr} {sp : (Hp → VK → XK → Prop) → Hp → VK → XK → Prop} {scope : Scope} {iter : Expr} {te : TE} {px px2 pg pp pos : Pos}
theorem pe_lcT (G : FnS X.prog X.w X.K X.mg X.base CX0 CXl k j gA sp) (hc : X.calm = true) (hfn : X.fn = fun _ => true) (hN : X.N.Nodup) (hi : X.N[i]? = some x) (b : PlainBlk scope) (hx : scope.names.lookup x = some .local) (hg : scope.names.lookup g = some .globalImplicit)
    (hm : X.mg g = some (.ref gA)) (hk : PySem.W.keepIn X.K (.ref gA) = true) (hr : Room k X.A) (he : PE X iter te) (hdb : (g == ("__debug__" : Str)) = false := by decide) (hdx : (x == ("__debug__" : Str)) = false := by decide)
    (hs : ∀ y, foldedSetIterable iter X.env y = pure y := by intro _; rfl) :
    PE X (.ListComp (.Call (.Name g pg) [.Name x px] [] pp) [⟨.Name x px2, iter, [], 0⟩] scope pos) (tLcT X CXl j sp te) := by
  refine ⟨fun pins s σ H Q I h => ?_⟩
  have hclos : closureFor scope X.env = pure [] := by
    rw [closure_ok (fun y hy e => absurd e (b.noFree y hy)), clo_none b.noFree]
  refine ListComp_goes hclos b.noCell b.kind b.uq ?_ hs
  refine thn (he.run pins s σ H _ I h) fun u s1 hh => ?_
  obtain ⟨v, H1, I1, rv, a, xs, ev, hlen, hga⟩ := hh
  subst ev
  obtain rfl : u = Value.ref a := rv
  obtain ⟨its, ri, ⟨o, n, ho, hcl, _, hd⟩, _⟩ := I1.list (gAll_list hga)
  refine wpAny_pyIter_list (items := its.toArray) ⟨o, ho, hcl, n, hd⟩ ?_
  have hit : a ≠ s1.heap.objs.size := Nat.ne_of_lt (Heap.lt_size ho)
  generalize hsi : s1.heap.objs.size = it at hit ⊢
  refine ⟨it, [it, a], [it], xs.length, _, _, rfl, goes_listV (I1.ok.hd hc) it a hit xs, Nat.le_trans hlen (by decide), ?_, ?_, ?_⟩
  · refine ⟨⟨({ cls := .type "list_iterator", data := .fields #[.ref a, .int 0 0] } : Obj), ?_, rfl, rfl⟩, its.toArray, ⟨o, Heap.get?_push_of_some _ ho, hcl, n, hd⟩, by simpa using ri⟩
    rw [← hsi]
    exact Heap.get?_push_size _ rfl
  · intro q hq
    show q < (s1.heap.push _).objs.size
    rw [Heap.size_push, hsi]
    rcases List.mem_cons.mp hq with rfl | hq
    · exact Nat.lt_succ_self _
    · rw [List.mem_singleton.mp hq, ← hsi]
      exact Nat.lt_succ_of_lt (Heap.lt_size ho)
  · intro D C s3 hB
    obtain ⟨⟨h3, tk3, rfl⟩, old, nD, nC, hDC, hnm⟩ := hB
    have nD' : it + 1 ≤ D := by
      have z : (s1.heap.push ({ cls := .type "list_iterator", data := .fields #[.ref a, .int 0 0] } : Obj)).objs.size ≤ D := nD
      rw [Heap.size_push, hsi] at z
      exact z
    have nC' : it + 1 ≤ C := by
      have z : (s1.heap.push ({ cls := .type "list_iterator", data := .fields #[.ref a, .int 0 0] } : Obj)).objs.size ≤ C := nC
      rw [Heap.size_push, hsi] at z
      exact z
    have sD : s1.heap.objs.size ≤ D := by rw [hsi]; exact Nat.le_of_succ_le nD'
    have sC : s1.heap.objs.size ≤ C := by rw [hsi]; exact Nat.le_of_succ_le nC'
    have sI : s1.heap.objs.size ≤ it := Nat.le_of_eq hsi
    have hDI : D ≠ it := Nat.ne_of_gt nD'
    have hCI : C ≠ it := Nat.ne_of_gt nC'
    have kp : ∀ q u, s1.heap.get? q = some u → h3.get? q = some u := fun q u e => old q u (Heap.get?_push_of_some _ e)
    have fsN : ∀ {q : Addr}, s1.heap.objs.size ≤ q → q ∉ frs X.stack := fun {q} hq z => by
      rcases List.mem_cons.mp (I1.stkSub q z) with z | z
      · exact absurd (Nat.lt_of_lt_of_le I1.lt (z ▸ hq)) (Nat.lt_irrefl _)
      · exact I1.nofs hq z
    generalize hXb : X.blk s1 H1 scope (compEnvC scope [] C X.env) [] = Xb
    have I3 : Inv Xb [] (List.replicate X.N.length none) H1 { s1 with heap := h3, toks := tk3 } := by
      rw [← hXb]
      exact blk_inv I1 hc b sC kp hnm
    have nfree : H1 D = none ∧ H1 it = none := ⟨I1.hok.fresh sD, I1.hok.fresh sI⟩
    have eN : Xb.N = X.N := by rw [← hXb]
    have eL : Xb.env.locals = C := by rw [← hXb]; rfl
    have eS : Xb.s_0 = s1 := by rw [← hXb]
    have eCl : Xb.env.cells = [] := by rw [← hXb]; rfl
    have eFs : Xb.fs = frs X.stack := by rw [← hXb]
    have ePn : Xb.pn = [] := by rw [← hXb]
    refine ⟨fun m ys s4 => ∃ (H4 : Hp) (acc : List V), Inv Xb [] (List.replicate X.N.length none) H4 s4 ∧ Vals acc ys ∧ acc.length = m ∧ H4 D = none ∧ H4 it = none ∧ gAll X CXl j sp σ a xs Q (xs.drop m) acc H4,
      ⟨H1, [], I3, .nil, rfl, nfree.1, nfree.2, hga⟩, ?_, ?_, ?_⟩
    · -- D and the iterator may change
      rintro m ys s4 h' tk ⟨H4, acc, I4, ra, la, fD, fI, q4⟩ hk' _
      refine ⟨H4, acc, ?_, ra, la, fD, fI, q4⟩
      have ne : ∀ {c : Addr} {u : HO}, H4 c = some u → c ∉ [D, it] := fun {c u} e z => by
        rcases List.mem_cons.mp z with z | z
        · rw [z, fD] at e; cases e
        · rw [List.mem_singleton.mp z, fI] at e; cases e
      have nC4 : C ∉ [D, it] := fun z => by
        rcases List.mem_cons.mp z with z | z
        · exact hDC z.symm
        · exact hCI (List.mem_singleton.mp z)
      refine I4.step (g' := s4.gens) (d' := s4.drawn) (t' := tk) (ch := [D, it]) (fun q hq => ⟨.inr ?_, ?_, fun y c e => ?_, fun p hp => ?_⟩) (fun q o _ _ hq e _ => hk' q o hq e) (fun q o _ _ hq e _ => ⟨o.slots, hk' q o hq e⟩) (fun _ _ _ _ z => z) (fun q o hq e => ⟨o, hk' q o hq e⟩)
        (fun _ _ e => e) (fun _ _ _ e => e) (fun q ps e => ⟨#[], by rw [e]; simp⟩) (fun mm hm4 => ?_) (fun q u e => (I4.hok q u e).stay (fun c v hc2 z => hk' c v (by
          rcases hc2 with hc2 | hc2
          · rw [hc2]
            exact ne e
          · exact ne hc2) z) (fun _ z => z) fun _ _ z => z) I4.bare
      · rw [eS]
        rcases List.mem_cons.mp hq with z | z
        · rw [z]; exact sD
        · rw [List.mem_singleton.mp z]; exact sI
      · rw [eL]
        exact fun z => nC4 (z ▸ hq)
      · rw [eCl] at e
        simp at e
      · rw [ePn] at hp
        simp at hp
      · obtain ⟨o5, es, ep, e5, r5⟩ := hm4
        rw [eL] at e5 ⊢
        exact ⟨o5, es, ep, hk' C o5 nC4 e5, r5⟩
    · -- one turn
      rintro m u ys s4 hm4 ⟨xv, hxv, rxv⟩ hSt ⟨H4, acc, I4, ra, la, fD, fI, q4⟩ hPL
      have hdrop : xs.drop m = xv :: xs.drop (m + 1) := by
        obtain ⟨hlt, e⟩ := List.getElem?_eq_some_iff.mp hxv
        rw [List.drop_eq_getElem_cons hlt, e]
      rw [hdrop] at q4
      obtain ⟨_, f, F, fr, js, lsp, ef, L, hf, hco, hdv, cp, q5⟩ := q4
      subst ef
      obtain rfl : u = Value.ref f := rxv
      obtain ⟨⟨oi, hoi, hoc, hod⟩, _⟩ := hSt
      obtain ⟨nD4, hoD⟩ := hPL
      have Ip : Inv Xb [(it, oi), (D, ({ cls := .type "list", data := .seq ys.toArray nD4 } : Obj))] (List.replicate X.N.length none) H4 s4 := by
        refine I4.pins_of fun p hp => ?_
        rcases List.mem_cons.mp hp with rfl | hp
        · refine ⟨hoi, fI, by rw [eL]; exact Ne.symm hCI, by rw [eFs]; exact fsN sI, fun v z => ?_⟩
          rw [hod] at z
          cases z
        · rw [List.mem_singleton.mp hp]
          exact ⟨hoD, fD, by rw [eL]; exact hDC, by rw [eFs]; exact fsN sD, fun v z => by cases z⟩
      have hlocB : Xb.env.scope.names.lookup x = some .local := by rw [← hXb]; exact lookup_relabel_local hx
      have hEnv : compEnvC scope [] C X.env = Xb.env := by rw [← hXb]
      have hprog : Xb.prog = X.prog := by rw [← hXb]
      have hw : Xb.w = X.w := by rw [← hXb]
      have hAA : Xb.A = X.A := by rw [← hXb]
      have hst : Xb.stack = X.stack := by rw [← hXb]
      have hmgB : Xb.mg = X.mg := by rw [← hXb]
      have hKB : Xb.K = X.K := by rw [← hXb]
      have hbB : Xb.base = X.base := by rw [← hXb]
      have hglB : Gl Xb g := by
        have key := lookup_relS_keep (sc := X.env.scope) (by intro z; cases z) hg
        rw [← hXb]
        exact key
      have eX : Xb.ex = [] := by rw [← hXb]
      have eH : Xb.H_0 = H1 := by rw [← hXb]
      have cpX := cp I.ok
      have C0 : CellsAt F.cl fr (js.map (slotAt σ)) Xb.s_0.heap Xb.H_0 := by
        rw [eS, eH]
        exact cells_of I1 cpX
      have nf : ∀ y c, F.cl.lookup y = some c → c ∉ frs X.stack := fun y c e z => by
        have e' := cpX.sub y c e
        rcases List.mem_cons.mp (I1.stkSub c z) with z | z
        · exact I1.cne y c e' z
        · have h1 := I1.ok.cab y c (by rw [hfn]) e'
          obtain ⟨_, ob, hob, _⟩ := I1.ok.funs.mem z
          exact absurd (Nat.lt_of_lt_of_le (Heap.lt_size hob) h1) (Nat.lt_irrefl _)
      rw [hEnv, ← hAA, ← hprog, ← hw]
      refine wpAny_assign_Name (store_ok Ip (by rw [eN]; exact hN) (by rw [eN]; exact hi) (.inl hlocB) (v := V.ref f) rfl (fun s5 I5 => ?_) (.inr hlocB))
      refine wpAny_tests_nil ?_
      rw [if_pos rfl]
      have hsl : (List.replicate X.N.length (none : Option V)).set i (some (.ref f)) = (List.replicate X.N.length (none : Option V)).set i (some (.ref f)) := rfl
      have hiN : i < X.N.length := (List.getElem?_eq_some_iff.mp hi).1
      have hget : ((List.replicate X.N.length (none : Option V)).set i (some (.ref f)))[i]? = some (some (.ref f)) := List.getElem?_set_self (by simpa using hiN)
      refine wpAny_Call_Name_kw (ld_glob (X := Xb) I5 hglB (by rw [hmgB]; exact hm) ?_ hdb)
      have hkB : PySem.W.keepIn Xb.K (.ref gA) = true := by rw [hKB]; exact hk
      obtain ⟨mm, hnsB, hlk⟩ := I5.loc
      obtain ⟨uu, ru, lk⟩ := hlk i x (.ref f) (by rw [eN]; exact hi) hget (.inl hlocB)
      obtain rfl : uu = Value.ref f := ru
      have hmm : mm x = some (.ref f) := by
        rcases lk with ⟨_, z⟩ | ⟨z, _⟩
        · exact z
        · have z' : Xb.env.scope.names.lookup x = some .cell ∨ Xb.env.scope.names.lookup x = some .free := z
          rw [hlocB] at z'
          rcases z' with z' | z' <;> cases z'
      refine PySem.W.callWith_K (h₀ := Xb.base) I5.ok.mod.kin hkB (Calls.spliced_cons (wpAny_Name (wpAny_loadName_local I5.ok.kind hlocB hnsB hmm (Calls.spliced_nil ⟨I5.kIn, ?_⟩)) hdx)) rfl rfl
      show wpAny _ _ (call (.ref gA) [.ref f]) _ _ _
      have C5 : CellsAt F.cl fr (js.map (slotAt σ)) s5.heap H4 := C0.later (fun y c e => by rw [eFs]; exact nf y c e) (fun y c e z => by rw [eX] at z; cases z) I5
      have TH : Thunk X.prog X.w X.K X.mg X.base CXl j X.stack s5 H4 f (lsp (js.map (slotAt σ))) := ⟨F, fr, _, lsp, L, hf, hco, hdv, C5, nf, rfl⟩
      have e5 := I5.env0
      rw [hprog, hw, hKB, hmgB, hbB, hAA, hst] at e5
      refine wpAny_call (codeAny_mono (hprog ▸ hw ▸ hAA ▸ G X.A X.stack s5 H4 f _ _ (fun _ _ _ => False) hr e5 TH q5) fun r s6 hq => ?_)
      cases r with
      | error e => exact False.elim hq
      | ok fl =>
        cases fl with
        | next => exact False.elim hq
        | brk => exact False.elim hq
        | cont => exact False.elim hq
        | ret z =>
          have hq' : CE Xb.stack Xb.prog Xb.w H4 s5 (fun y H2 => gAll X CXl j sp σ a xs Q (xs.drop (m + 1)) (acc ++ [y]) H2) z s6 := by rw [hst]; exact hq
          obtain ⟨y, H6, I6, ry, q6⟩ := I5.after hq'
          have p1 := I6.pin (it, oi) (List.mem_append_right _ List.mem_cons_self)
          have p2 := I6.pin (D, ({ cls := .type "list", data := .seq ys.toArray nD4 } : Obj)) (List.mem_append_right _ (List.mem_cons_of_mem _ List.mem_cons_self))
          obtain ⟨its6, ri6, ⟨o6, n6, ho6, hc6, _, hd6⟩, _⟩ := I6.list (by rw [hKB]; exact gAll_list q6)
          refine ⟨⟨H6, acc ++ [y], ?_, ra.append (.cons ry .nil), by rw [List.length_append, la]; rfl, p2.2.1, p1.2.1, q6⟩, ⟨⟨oi, p1.1, hoc, hod⟩, its6.toArray, ⟨o6, ho6, hc6, n6, hd6⟩, by simpa using ri6⟩, ⟨nD4, p2.1⟩⟩
          refine (I6.pins_of (pins' := []) (fun p hp => absurd hp (by simp))).weak (by simp) fun ii v e => ?_
          rw [List.getElem?_replicate] at e
          split at e <;> cases e
    · -- the end
      rintro ys s4 ⟨H4, acc, I4, ra, la, fD, fI, q4⟩ ⟨nD4, hoD⟩
      obtain ⟨mC, hnC, _⟩ := I4.loc
      rw [eL] at hnC
      refine ⟨mC, hnC, fun h5 sb => ?_⟩
      rw [List.drop_length] at q4
      have hgt : ∀ q u, q ≠ C → s4.heap.get? q = some u → h5.get? q = some u := fun q u hq e => (sb.2 q hq).trans e
      have fC : H4 C = none := by have z := I4.free; rw [eL] at z; exact z
      have ub := I4.base
      have uo := I4.os
      have hk4 := I4.hok
      rw [eFs, eS] at ub
      have eH : Xb.H_0 = H1 := by rw [← hXb]
      have eX : Xb.ex = [] := by rw [← hXb]
      rw [eH, eX] at ub
      rw [eS] at uo
      have hprog : Xb.prog = X.prog := by rw [← hXb]
      have hw : Xb.w = X.w := by rw [← hXb]
      rw [hprog, hw] at hk4
      have neS : ∀ {q : Addr} {u : Obj}, s1.heap.get? q = some u → q ≠ C ∧ q ≠ D := fun {q u} e => ⟨Nat.ne_of_lt (Nat.lt_of_lt_of_le (Heap.lt_size e) sC), Nat.ne_of_lt (Nat.lt_of_lt_of_le (Heap.lt_size e) sD)⟩
      have lenA : acc.length ≤ 1000 := by rw [la]; exact hlen
      have U : Un (frs X.stack) [] H1 (upd H4 D (.lst acc)) s1.heap h5 := {
        keep := fun q u e nq hf hx2 => hgt q u (neS e).1 (ub.keep q u e nq hf hx2)
        slot := fun q u e nq hf hx2 => by
          obtain ⟨sl, z⟩ := ub.slot q u e nq hf hx2
          exact ⟨sl, hgt q _ (neS e).1 z⟩
        free := fun q u e nq hx2 => by rw [upd_ne (neS e).2]; exact ub.free q u e nq hx2
        there := fun q u e hx2 => by
          obtain ⟨u', z⟩ := ub.there q u e hx2
          exact ⟨u', hgt q _ (neS e).1 z⟩
        tups := fun q ys2 e => by
          have z := ub.tups q ys2 e
          rw [upd_ne (ne_of_none z fD)]
          exact z
        frzs := fun q o2 u e => by
          have z := ub.frzs q o2 u e
          rw [upd_ne (ne_of_none z fD)]
          exact z
        tbls := fun q ps e => by
          obtain ⟨more, z⟩ := ub.tbls q ps e
          exact ⟨more, by rw [upd_ne (ne_of_none z fD)]; exact z⟩ }
      have hok5 : HOk X.prog X.w (upd H4 D (.lst acc)) h5 := fun q u e => by
        by_cases hq : q = D
        · subst hq
          rw [upd_same] at e
          cases e
          exact ⟨Nat.le_trans lenA (by decide), ys, nD4, ra, hgt q _ hDC hoD⟩
        · rw [upd_ne hq] at e
          refine (hk4 q u e).stay (fun c v hc2 z => hgt c v (fun zc => ?_) z) (fun c z => by rw [upd_ne (ne_of_none z fD)]; exact z) fun c zs z => by rw [upd_ne (ne_of_none z fD)]; exact z
          rcases hc2 with hc2 | hc2
          · rw [← hc2, zc, fC] at e
            cases e
          · rw [zc, fC] at hc2
            cases hc2
      have J : Inv X pins σ (upd H4 D (.lst acc)) { s4 with heap := h5 } := I1.call' (ch := []) uo U hok5 I4.bare fun q hq => absurd hq (by simp)
      exact ⟨.ref D, _, J, rfl, q4.2 D fD⟩
end
end Sea

set_option Elab.async false
set_option linter.all false
set_option maxRecDepth 100000
set_option maxHeartbeats 4000000
/-! an own exception class called with keywords alone: C(k = v, ..) -/
namespace Sea
open PySem PySem.Spec PyProof.Rows PySem.HandSPX
/-- in h the class C is one of errors over ValueError: what it inherits, by the built-in names -/
structure ErrAt (h : Heap) (C : Addr) : Prop where
  ex : ∃ nm q N bs bm sn sub ab col dd k0 k1 k2 k3 k5, h.get? C = some (excClassObj nm q C N bs bm true sn sub ab col dd k0 k1 k2 k3 k5 "ValueError.__new__") ∧ refsVE bm = true
theorem ErrAt.over {bm : List Value} (C : Addr) (h : refsVE bm = true) (X : String) : (Value.ref C :: bm).contains (.type X) = veTail.contains (.type X) :=
  (List.contains_cons).trans ((Bool.false_or _).trans (refsVE_contains X bm h))
/-- the heap in which the error stands, its arguments empty -/
abbrev born (C : Addr) (h : Heap) : Heap := (h.push (W.kdv_tup [])).push (excO C h.objs.size)
theorem born_old {C : Addr} {h : Heap} : ∀ b o, h.get? b = some o → (born C h).get? b = some o := fun _ _ z => Heap.get?_push_of_some _ (Heap.get?_push_of_some _ z)
theorem born_new {C : Addr} {h : Heap} : (born C h).get? (h.objs.size + 1) = some (excO C h.objs.size) := by
  rw [← Heap.size_push h (o := W.kdv_tup [])]
  exact Heap.get?_push_size _ rfl
section
variable {prog : Program} {w : World} {A : Around} {R : Result → Shared → Prop} {s : Shared} {C : Addr} {kw : List (Str × Value)}
/-- ValueError.__new__(C, k = v, ..) -/
theorem err_born (T : ErrAt s.heap C) (q : R (.ok (.ret (.ref (s.heap.objs.size + 1)))) { s with heap := born C s.heap }) : codeAny (model prog w) A (.call (.builtin "ValueError.__new__") ⟨[.ref C], kw⟩) R s := by
  obtain ⟨nm, qn, N, bs, bm, sn, sub, ab, col, dd, k0, k1, k2, k3, k5, at_, ve⟩ := T.ex
  have V := F.excBase_ValueError
  have yes : (Value.ref C :: bm).contains (.type "ValueError") = true := ErrAt.over C ve _
  have no1 : (Value.ref C :: bm).contains (.type "AttributeError") = false := ErrAt.over C ve _
  have no2 : (Value.ref C :: bm).contains (.type "NameError") = false := ErrAt.over C ve _
  have tail := V.ends
  have star := V.noStar
  obtain ⟨hp, g, d, t, os⟩ := s
  apply codeAny_call_builtin_code (Code.quiet_builtin _ V.quiet)
  simp only [checkBuiltinCall, V.newKind, V.newSplit, V.newRow]
  repeat (first
    | (refine wpAny_isSubtype_exc at_ ?_; rw [yes])
    | refine wpAny_loadPart_at at_ ?_
    | refine wpAny_madeBy_exc at_ ?_
    | refine wpAny_staticBase_exc at_ ?_
    | simp only [bne_self_eq_false, Bool.false_eq_true, if_false]
    | wp_step)
  apply codeAny_builtinAt V.entry
  unfold Builtin.«BaseException.__new__»
  refine PySem.wpAt_bind ?_
  refine PySem.wpAt_bind (m := stack) (PySem.wpAt_stack ?_)
  intro p below
  refine PySem.wpAt_of_wpAny ?_
  wp_walk
  refine PySem.wpAt_of_wpAny ?_
  rw [V.owner]
  repeat (first
    | (with_reducible refine wpAny_isSubtype_exc at_ ?_; simp only [yes, no1, no2])
    | with_reducible refine wpAny_loadPart_at at_ ?_
    | with_reducible refine wpAny_madeHere_exc V.canon at_ ?_
    | wp_step)
  exact (Heap.size_push hp (o := W.kdv_tup [])).symm ▸ q
/-- C(k = v, ..): the error is born, then its class's def __init__ has it -/
theorem err_call {fI : Addr} (T : ErrAt s.heap C) (ini : W.Looks (model prog w) s.heap (typeLookup (.ref C) "__init__") (some (.ref fI))) (bnd : ∀ self, W.Looks (model prog w) s.heap (bindSpecial (.ref fI) self) (.ref fI, [self]))
    (q : codeAny (model prog w) (A.under (.builtin "type.__call__" ⟨[.ref C], kw⟩)) (.call (.ref fI) ⟨[.ref (s.heap.objs.size + 1)], kw⟩) (W.InitBack (s.heap.objs.size + 1) R) { s with heap := born C s.heap }) :
    codeAny (model prog w) A (.call (.ref C) ⟨[], kw⟩) R s := by
  have ⟨nm, qn, N, bs, bm, sn, sub, ab, col, dd, k0, k1, k2, k3, k5, at_, ve⟩ := T.ex
  have isC : (Value.ref C :: bm).contains (.ref C) = true := by simp
  have isTy : s.TypeIs (.ref C) "type" := ⟨_, at_, rfl⟩
  have dunder := tc_lookup
  have bound := tc_bind (.ref C)
  have tsub := tc_sub
  have ini' := ini.keeps (born_old (C := C))
  have bnd' := (bnd (.ref (s.heap.objs.size + 1))).keeps (born_old (C := C))
  have at2 := born_old (C := C) _ _ at_
  have new2 := born_new (C := C) (h := s.heap)
  obtain ⟨hp, g, d, t, os⟩ := s
  dsimp only at at_ at2 new2 ini' bnd' q
  have quiet := Code.quiet_builtin (id := "type.__call__") ⟨[.ref C], kw⟩ (by decide +kernel)
  apply codeAny_of_tree
  show wpAny _ _ (callAny (.ref C) _) _ _ _
  repeat (any_goals (first | assumption | with_reducible refine wpAny_loadPart_at at_ ?_ | wp_step))
  refine ⟨rfl, codeAny_call_builtin_at quiet entry_typeCall ?_⟩
  simp only [checkBuiltinCall, tc_kind, tc_split]
  unfold Builtin.«type.__call__»
  repeat (any_goals (first
    | assumption
    | with_reducible refine wpAny_loadPart_at at_ ?_
    | with_reducible refine wpAny_onRaise ?_
    | with_reducible refine wpAny_map ?_
    | with_reducible refine wpAny_madeBy_exc at_ ?_
    | wp_step))
  refine err_born (s := ⟨hp, g, d, t, os⟩) T ?_
  show wpAny _ _ _ _ _ _
  have i1 : (born C hp).get? (hp.objs.size + 1) = some (excO C hp.objs.size) := new2
  unfold isInstance
  repeat (first
    | with_reducible refine wpAny_loadPart_at new2 ?_
    | (with_reducible refine wpAny_isSubtype_exc at2 ?_; rw [isC])
    | wp_step)
  show wpAny _ _ (typeLookup (.ref C) "__init__") _ _ ⟨born C hp, g, d, t, os⟩
  refine ini'.at ?_
  refine wpAny_holding (wpAny_bind (bnd'.at (wpAny_bind (wpAny_call ?_))))
  refine codeAny_mono q fun r s2 z => ?_
  match r, z with
  | .error _, z => exact z
  | .ok (.ret _), ⟨e, z⟩ =>
    subst e
    exact wpAny_pure (wpAny_pure z)
  | .ok .next, z => exact z.elim
  | .ok .brk, z => exact z.elim
  | .ok .cont, z => exact z.elim
end
end Sea

set_option Elab.async false
set_option linter.all false
set_option maxRecDepth 100000
set_option maxHeartbeats 4000000
/-! raise C(k = v, ..), C an own exception class over another own one whose __init__ says P.__init__(self, text) and stores its keywords -/
namespace Sea
open PySem PySem.Spec PyProof.Rows L2 LamX NdefX ClX
/-- C(k = v, ..) -/
def tMkK (C : Addr) (n : Nat) (sp : Sp) (gV : List V → List V → List V) (tk : TA) : L2.St → Hp → XK → Prop := fun σ H Q => tk σ H fun zs H1 => zs.length = n ∧ ∀ a, H1 a = none → sp (gV [.ref a] zs) (upd H1 a (exo a C none))
  (fun v H2 => v = .non ∧ ∃ (d : Addr) (fs : List (Str × V)), H2 a = some (exo a C (some d)) ∧ H2 d = some (exd d fs) ∧ H1 d = none ∧ Q (.ref C) (some d) (upd (del H2 a) d (.xd fs))) (fun _ _ _ => False)
section
variable {X : Cx} {e : Expr} {es : List Expr} {ta : TA} {p p1 p2 pos : Pos} {kws : List Keyword} {tk : TA} {ks : List Str} {g : List Value → List Value → List Value} {gV : List V → List V → List V}
theorem pe_pinit {x : Str} {B : Addr} {mc : Value} {pl : Sem Bool} (hg : Gl X x) (hm : X.mg x = some (.ref B)) (rd : PySem.W.readsIn X.K B mc = true) (ga : PySem.W.specialIn X.K (.ref B) "__getattribute__" = some (some (.builtin "type.__getattribute__")))
    (hat : PySem.W.findCls X.K (.ref B) mc "__init__" = some (.val (.builtin "ValueError.__init__"))) (ha : PA X (e :: es) ta) (hdb : (x == ("__debug__" : Str)) = false := by decide)
    (hc : eval (.Call (.Attribute (.Name x p1) "__init__" p2) (e :: es) [] pos) X.env = (do
      let ov ← eval (.Name x p1) X.env
      standAt p2.atName
      let (f, first) ← holding [ov] (getMethod ov "__init__" pl)
      callWith pos f first (backTo pos (starEach (e :: es) X.env)) (backToKw pos (keywordEach [] X.env))) := by rfl)
    (he : starEach (e :: es) X.env = (false, eval e X.env) :: starEach es X.env := by rfl) (hpl : (backTo pos (starEach es X.env)).any (·.1) = false := by rfl) :
    PE X (.Call (.Attribute (.Name x p1) "__init__" p2) (e :: es) [] pos) (tVeI X.K ta) := by
  constructor
  intro pins s σ H Q I h
  apply PySem.W.methodCall_KW (ld_glob I hg hm (PySem.W.method_cls I.kIn ga (PySem.W.cls_value I.kIn rd hat (by decide +kernel) ?_)) hdb) hc
  have args := ha.run pos pins _ σ H _ (I.tok (s.toks + 1)) h
  show wpAny _ _ (callWith pos (Value.builtin "ValueError.__init__") [] (backTo pos (starEach (e :: es) X.env)) []) _ _ _
  refine PyProof.Rows.callWith_method1 (thn args ?_) he hpl
  rintro us s1 ⟨_, H1, J, rel, a, C, ws, rfl, few, T, ea, q⟩
  match us, rel with
  | u :: ur, .cons ra rr =>
    rw [show u = .ref a from ra]
    have short : ur.length ≤ sizeLine := by
      rw [sizeLine_eq, ← Paired.length rr]
      omega
    exact oinit_ok T J ea short fun s' L => ⟨.non, H1, L, rfl, q⟩
theorem pmk_kw {CX : CXT} {x : Str} {C fI : Addr} {k : Nat} {fd : FuncData} {ps : List Str} {sp : Sp} (T : OexC X.K C) (iC : PySem.W.findIn X.K (.ref C) "__init__" = some (some (.ref fI))) (tI : PySem.W.typeIn X.K (.ref fI) = some (.type "function"))
    (F1 : FnOk X.prog X.w X.K X.mg X.base CX k fI fd ps sp) (hr : Room (k + 1) X.A) (hb : KBn X.K fd ps 1 ks g gV) (hx : Passes CX X (fun _ _ _ => False)) (hg : Gl X x) (hm : X.mg x = some (.ref C)) (hkw : PK X kws tk)
    (hall : (backToKw pos (keywordEach kws X.env)).all (·.1.isSome) = true := by rfl) (hks : (backToKw pos (keywordEach kws X.env)).filterMap (·.1) = ks := by rfl) (hdb : (x == ("__debug__" : Str)) = false := by decide)
    (hpl : ((backTo pos (starEach [] X.env)).any (·.1) || (backToKw pos (keywordEach kws X.env)).any (·.1.isNone)) = false := by rfl) :
    PMk X (.Call (.Name x p) [] kws pos) (tMkK C ks.length sp gV tk) := by
  intro pins s σ H Q I h
  apply wpAny_Call_Name_kw
  apply ld_glob I hg hm ?_ hdb
  apply PySem.W.callWith_KW0 (h₀ := X.base) I.ok.mod.kin T.kC hall ?_ hpl
  refine thn (hkw.run pos pins s σ H _ I h) ?_
  rintro ws ⟨hp, g1, dr, tk', os⟩ ⟨zs, H1, J, rel, many, q⟩
  have err : ErrAt hp C := by
    obtain ⟨nm, qn, N, bs, bm, sn, sub, ab, col, dd, k0, k1, k2, k3, k5, at_, ve⟩ := T.cls
    exact ⟨nm, qn, N, bs, bm, sn, sub, ab, col, dd, k0, k1, k2, k3, k5, J.kIn _ _ at_, ve⟩
  have above : hp.objs.size ≤ hp.objs.size + 1 := Nat.le_succ _
  -- the invariant once the error stands in the heap
  have L : Inv X pins σ (upd H1 (hp.objs.size + 1) (exo (hp.objs.size + 1) C none)) ⟨born C hp, g1, dr, tk', os⟩ := J.laid (t' := tk') born_old above (exo_ok born_new)
  have ini := F1.run _ X.stack _ _ ⟨[.ref (hp.objs.size + 1)], ks.zip ws⟩ (g [.ref (hp.objs.size + 1)] ws) _ _ (fun _ _ _ => False) (hr.make C [] (ks.zip ws)) (L.env0.make C [] (ks.zip ws))
    (hb.to _ [.ref (hp.objs.size + 1)] ws L.kIn rfl (rel.length.symm.trans many)) (hb.rel (us := [.ref (hp.objs.size + 1)]) (vs := [.ref (hp.objs.size + 1)]) (.cons rfl .nil) rel) (q (hp.objs.size + 1) (J.hok.fresh above))
  rw [hks]
  refine ⟨J.kIn, wpAny_call (err_call err (PySem.W.looks_findIn J.kIn iC) (fun self => PySem.W.bind_fn J.kIn self tI) (codeAny_mono ini ?_))⟩
  intro r s' back
  match r, back with
  | .error er, back => exact hx pins σ _ _ er s' L back
  | .ok .next, back => exact back.elim
  | .ok .brk, back => exact back.elim
  | .ok .cont, back => exact back.elim
  | .ok (.ret _), ⟨_, H2, os2, bare, un, hok, rv, e, d, fs, ea, ed, hd1, q2⟩ =>
    subst e
    obtain ⟨h2, g2, d2, t2, os3⟩ := s'
    exact ⟨rv, mk_end (raises_own T.exC T.tyC) J above born_old un hok os2 bare ea ed hd1 q2⟩
end

/-! ### the __init__ of such a class: one keyword, two keywords -/
/-- the class facts that the body asks: its parent's __init__ is ValueError's -/
structure PIn (K : PySem.W.Frag) (mg : Str → Option Value) (x : Str) (B : Addr) (mc : Value) : Prop where
  gB : mg x = some (.ref B)
  rd : PySem.W.readsIn K B mc = true
  ga : PySem.W.specialIn K (.ref B) "__getattribute__" = some (some (.builtin "type.__getattribute__"))
  at_ : PySem.W.findCls K (.ref B) mc "__init__" = some (.val (.builtin "ValueError.__init__"))
def spX1 (K : PySem.W.Frag) (f : Str) : Sp := fun vs H Q _ => ∃ (a C : Addr) (y : V), vs = [.ref a, y] ∧ OexC K C ∧ PySem.W.findIn K (.ref C) f = some none ∧ H a = some (exo a C none) ∧
  ∀ dx, H dx = none → dx ≠ a → Q .non (upd (upd H dx (exd dx [(f, y)])) a (exo a C (some dx)))
def spX2 (K : PySem.W.Frag) (f g : Str) : Sp := fun vs H Q _ => ∃ (a C : Addr) (y z : V), vs = [.ref a, y, z] ∧ OexC K C ∧ PySem.W.findIn K (.ref C) f = some none ∧ PySem.W.findIn K (.ref C) g = some none ∧ H a = some (exo a C none) ∧
  ∀ dx, H dx = none → dx ≠ a → Q .non (upd (upd (upd H dx (exd dx [(f, y)])) a (exo a C (some dx))) dx (exd dx [(g, z), (f, y)]))
theorem gone_eq {H : Hp} {a d : Addr} {o : HO} {u w v : HO} (ha : H a = none) (hd : d ≠ a) : upd (del (upd (upd H d u) a o) a) d v = upd H d v := by
  funext b
  by_cases hb : b = d
  · subst hb
    rw [upd_same, upd_same]
  · rw [upd_ne hb, upd_ne hb]
    by_cases hba : b = a
    · subst hba
      rw [del_same, ha]
    · rw [del_ne hba, upd_ne hba, upd_ne hb]
theorem gone_eq2 {H : Hp} {a d : Addr} {o : HO} {u w v : HO} (ha : H a = none) (hd : d ≠ a) : upd (del (upd (upd (upd H d u) a o) d w) a) d v = upd H d v := by
  funext b
  by_cases hb : b = d
  · subst hb
    rw [upd_same, upd_same]
  · rw [upd_ne hb, upd_ne hb]
    by_cases hba : b = a
    · subst hba
      rw [del_same, ha]
    · rw [del_ne hba, upd_ne hb, upd_ne hba, upd_ne hb]
end Sea

set_option Elab.async false
set_option linter.all false
set_option maxRecDepth 100000
set_option maxHeartbeats 4000000
/-! enumerate over a tuple -/
namespace Sea
open PySem PySem.Spec PyProof.Rows L2
/-- enumerate(t), t the tuple at a: a new iterator over it, and a new cell that counts -/
structure EnumMade (a : Addr) (h h2 : Heap) : Prop where
  cell : IsEnum h2 (h.objs.size + 1) h.objs.size 0 .none
  iter : h2.IsTupleIter h.objs.size a 0
  old : ∀ b o, h.get? b = some o → h2.get? b = some o
theorem enumMade (a : Addr) (h : Heap) :
    EnumMade a h ((h.push { cls := .type "tuple_iterator", data := .fields #[.ref a, .int 0 0] }).push { cls := .type "enumerate", data := .fields #[.none, .bool false, .ref h.objs.size, rawInt 0, .none, .none] }) where
  cell := by
    show Heap.get? _ _ = _
    rw [← Heap.size_push h (o := { cls := .type "tuple_iterator", data := .fields #[.ref a, .int 0 0] })]
    exact Heap.get?_push_size _ rfl
  iter := ⟨_, Heap.get?_push_of_some _ (Heap.get?_push_size h rfl), rfl, rfl⟩
  old := fun _ _ z => Heap.get?_push_of_some _ (Heap.get?_push_of_some _ z)
theorem Sem_any {α : Type} {M : Model} {A : Around} {E : Value → Shared → Prop} {s : Shared} {v : α} {Q : α → Shared → Prop} (q : ∀ x, Q x s) : wpAny M A (pure v) Q E s := wpAny_pure (q v)
theorem new_enumT (a : Addr) (its : Array Value) :
    Meets (Builtin.«enumerate.__new__» ⟨[.type "enumerate", .ref a], []⟩) (fun _ R s => s.heap.IsTuple a its ∧ ∀ h2, EnumMade a s.heap h2 → R (.ok (.ret (.ref (s.heap.objs.size + 1)))) { s with heap := h2 }) := by
  apply Meets.of_wp
  intro prog w A R s z
  have ht := z.1
  have made := z.2
  have ready := sub_enumerate
  have got := made _ (enumMade a s.heap)
  rw [← Heap.size_push s.heap (o := { cls := .type "tuple_iterator", data := .fields #[.ref a, .int 0 0] })] at got
  have it : ∀ {B : Around} {Er T : Value → Shared → Prop}, T (.ref s.heap.objs.size) { s with heap := s.heap.push _ } → wpAny (model prog w) B (pyIter (.ref a)) T Er s := fun r => (begins_tuple a its).iter prog w _ _ s _ ht r
  wp_walk using it
  refine wpAny_stack_any fun stk => Sem_any fun short => ?_
  cases short <;> wp_walk using it <;> exact ⟨_, rfl, got⟩
theorem call_enumT {prog : Program} {w : World} {A : Around} {E Q : Value → Shared → Prop} {s : Shared} {a : Addr} {its : Array Value} (ht : s.heap.IsTuple a its) (h : ∀ h2, EnumMade a s.heap h2 → Q (.ref (s.heap.objs.size + 1)) { s with heap := h2 }) :
    wpAny (model prog w) A (call (.type "enumerate") [.ref a]) Q E s :=
  callType_new F.called_enumerate (by decide) (F.typeCall_enumerate_1 _) (F.newCall_enumerate_1 _) (fun obj => F.args_object_init_2 obj _) F.entry_enumerate_new (new_enumT a its)
    ⟨ht, fun h2 m => ⟨⟨_, m.cell, rfl⟩, h h2 m⟩⟩
/-- the turns over a tuple that is known to hold xs: while there are items, a new pair of the place and the item -/
def IteT (K : PySem.W.Frag) (a : Addr) (xs : List V) : It where
  go i H := i < xs.length ∧ SqT K H a xs
  yld i H v H' := ∃ x pair, xs[i]? = some x ∧ H pair = none ∧ v = .ref pair ∧ H' = upd H pair (.tup [.int (i : Nat), x])
  stop i H := i = xs.length ∧ SqT K H a xs
/-- the walk over enumerate, as the library's WalksT.enumFrom tells it, read as turns of IteT -/
theorem turn_enumT {P : Program} {w : World} {K : PySem.W.Frag} {elts : List Expr} {kk : Nat} {tpos : Pos} (a e it : Addr) (xs : List V) (hei : e ≠ it) (hai : a ≠ it) (hae : a ≠ e) :
    Turn P w K (.Tuple elts kk tpos) (IteT K a xs) [e, it] e (fun i h => (∃ old, IsEnum h e it (0 + (i : Int)) old) ∧ h.IsTupleIter it a i) := by
  have walk := fun (A : Around) (hh : A.handled = none) (its : Array Value) =>
    WalksT.enumFrom (prog := P) (w := w) (A := A) 0 (Draws.tuple (A := A.in1) hh it a hai its) e hei (by simp [hei, Ne.symm hae]) (by simp)
  refine { mem := List.mem_cons_self .., obj := ?_, keep := ?_, item := ?_, done := ?_, self := ?_ }
  · rintro i h ⟨⟨old, he⟩, o, ho, _, hd⟩ b hb
    simp only [List.mem_cons, List.not_mem_nil, or_false] at hb
    cases hb with
    | inl hb => subst hb; exact ⟨_, he, by intro v; simp⟩
    | inr hb => subst hb; exact ⟨o, ho, by intro v; rw [hd]; simp⟩
  · rintro i h h2 ⟨⟨old, he⟩, hi⟩ k
    exact ⟨⟨old, k e (by simp) _ he⟩, hi.at fun o q => k it (by simp) o q⟩
  · rintro X rfl rfl rfl hc i pins s σ H Ex I hf ⟨en, hi⟩ ⟨lt, hq⟩
    obtain ⟨its, rv, pt, _⟩ := I.tuple hq
    have hx : xs[i]? = some xs[i] := List.getElem?_eq_getElem lt
    generalize xs[i] = x at hx
    obtain ⟨y, hy, ry⟩ := rv.get hx
    have W := walk X.A (I.ok.hd hc) its.toArray
    refine W.item i s _ _ (by simpa using (List.getElem?_eq_some_iff.mp hy).1) ⟨en, hi, pt⟩ ?_
    rintro T vals h2 tk ⟨t, z, hz, rfl⟩ hle hT hmid hk
    obtain rfl : z = y := Option.some.inj (Eq.trans (by simpa using hz.symm) hy)
    refine ⟨_, rfl, W.go elts kk tpos i T _ _ _ hmid fun h3 st3 hk3 => ?_⟩
    have keeps : ∀ b o, b ∉ [e, it] → s.heap.get? b = some o → h3.get? b = some o := fun b o hb q => hk3 b o hb (hk b o hb q)
    have pair : ObjOk X.prog X.w (upd H T (.tup [.int (i : Nat), x])) h3 T (.tup [.int (i : Nat), x]) :=
      ⟨by show 2 ≤ sizeLine; decide, [.int (0 + (i : Int)) t, z], .cons ⟨t, by rw [Int.zero_add]⟩ (.cons ry .nil), hT.at fun o q => hk3 T o (W.apart i T h2 hmid) q⟩
    have nT : H T = none := I.hok.fresh hle
    refine ⟨.ref T, _, I.turnedNew (t' := tk) keeps hf hle pair, rfl, ⟨x, T, hx, nT, rfl, rfl⟩, ⟨st3.1, st3.2.1⟩, fun b hb => ?_⟩
    rw [upd_ne (show b ≠ T from fun z => W.apart i T h2 hmid (z ▸ hb))]
    exact (hf b hb).1
  · rintro X rfl rfl rfl hc i pins s σ H Ex I hf ⟨en, hi⟩ ⟨rfl, hq⟩
    obtain ⟨its, rv, pt, _⟩ := I.tuple hq
    have W := walk X.A (I.ok.hd hc) its.toArray
    have hn : its.toArray.size = xs.length := by simpa using rv.length.symm
    exact W.done s _ _ (by rw [hn]; exact ⟨en, hi, pt⟩) fun h2 tk hk => ⟨rfl, I.turnedL (t' := tk) hk hf⟩
  · exact fun A i s Q Ex st h => wpAny_pyIter_enum st.1.choose_spec h
def iEnumT (K : PySem.W.Frag) (ta : TA) : TI := fun σ H R => ta σ H fun vs H1 => ∃ a xs, vs = [.ref a] ∧ SqT K H1 a xs ∧ R (IteT K a xs) H1
theorem pi_enumT {X : Cx} {e : Expr} {ta : TA} {p pos tpos : Pos} {elts : List Expr} {kk : Nat} (hg : Gl X "enumerate") (hm : X.mg "enumerate" = none) (ha : PA X [e] ta) (hs : starEach [e] X.env = [(false, eval e X.env)] := by rfl) :
    PI X (.Tuple elts kk tpos) (.Call (.Name "enumerate" p) [e] [] pos) (iEnumT X.K ta) where
  run pins s σ H R I h := by
    refine Call_ (ld_blt I hg hm boot_enumerate (PyProof.Rows.callWith_type1 (thn (ha.run pos pins s σ H _ I h) ?_) hs rfl))
    rintro us s1 ⟨_, H1, I1, r1, a, xs, rfl, hq, q⟩
    obtain ⟨u, rfl, ru⟩ := r1.one
    obtain rfl : u = .ref a := ru
    obtain ⟨its, rv, pt, _⟩ := I1.tuple hq
    have below : a < s1.heap.objs.size := by
      obtain ⟨_, z, _⟩ := (show s1.heap.IsTuple a its.toArray from pt)
      exact Heap.lt_size z
    refine call_enumT pt fun h2 m => wpAny_pyIter_enum m.cell ⟨_, _, _, _, H1, rfl, I1.kept (t' := s1.toks) m.old, turn_enumT a (s1.heap.objs.size + 1) s1.heap.objs.size xs (Nat.succ_ne_self _) (Nat.ne_of_lt below) (Nat.ne_of_lt (Nat.lt_succ_of_lt below)), ⟨⟨_, m.cell⟩, m.iter⟩, ?_, q⟩
    have fresh : ∀ b, s1.heap.objs.size ≤ b → FpOk X pins H1 b := fun b hb => I1.fpOk hb (I1.hok.fresh hb)
    simpa using And.intro (fresh (s1.heap.objs.size + 1) (Nat.le_succ _)) (fresh s1.heap.objs.size (Nat.le_refl _))
end Sea

set_option Elab.async false
set_option linter.all false
set_option maxRecDepth 100000
set_option maxHeartbeats 4000000
/-! isinstance of a caught error that has a dict; list.count of flat items -/
namespace Sea
open PySem PySem.Spec PyProof.Rows L2
/-- the caught error, seen in the heap: an instance of its class, its dict (if it has one) beside it -/
theorem held_inst {X : Cx} {pins : List (Addr × Obj)} {σ : L2.St} {H : Hp} {s : Shared} {a D : Addr} {d : Option Addr} {oe : Obj} {pn : List (Addr × Obj)} (I : Inv (X.suite a ((a, oe) :: pn)) pins σ H s) (hz : Zc (.ref D) d oe) (hf : ∃ vs, oe.data = .fields vs)
    (hd : ∀ dx, d = some dx → ∃ fs, H dx = some (.xd fs)) : ∃ od, PySem.W.InstAt s.heap a oe D od := by
  have there := (I.pin (a, oe) (by simp)).1
  have plain : PySem.W.notCls oe := by
    obtain ⟨vs, hv⟩ := hf
    rw [PySem.W.notCls, hv]
  match d, hz, hd with
  | none, hz, _ => exact ⟨none, there, hz.1, plain, by rw [hz.2]; trivial⟩
  | some dx, hz, hd =>
    obtain ⟨fs, hx⟩ := hd dx rfl
    have ⟨mA, ns, _⟩ : ObjOk X.prog X.w H s.heap dx (.xd fs) := I.hok dx _ hx
    have ⟨od, ho, _⟩ := lookIn_ns ns
    exact ⟨some od, there, hz.1, plain, by rw [hz.2]; exact ho⟩
/-- isinstance(e, c), e the exception that the suite holds, with its dict (tracked) or without; D its class -/
def rIsX (K : PySem.W.Frag) (a : Addr) (cls : Value) (d : Option Addr) : List V → Hp → VK → Prop := fun xs H Q => ∃ (D : Addr) (c : V) (cv : Value) (b : Bool), cls = .ref D ∧ ExcC K D ∧ xs = [.ref a, c] ∧ (∀ u, RelV c u → u = cv) ∧ PySem.W.kitOne K (.ref D) cv = some b ∧ (∀ dx, d = some dx → ∃ fs, H dx = some (.xd fs)) ∧ Q (.bl b) H
theorem call_isX {X : Cx} {a : Addr} {cls : Value} {d : Option Addr} {oe : Obj} {pn : List (Addr × Obj)} (K : PySem.W.Frag) (hK : X.K = K) (hz : Zc cls d oe) (hf : ∃ vs, oe.data = .fields vs) : CallR (X.suite a ((a, oe) :: pn)) (.builtin "isinstance") (rIsX K a cls d) := by
  subst hK
  rintro pins s σ H _ us Q I r ⟨D, c, cv, b, rfl, C, rfl, told, one, hd, q⟩
  obtain ⟨x, t, rfl, rx, rt⟩ : ∃ x t, us = [x, t] ∧ RelV (.ref a) x ∧ RelV c t := match us, r with
    | _, .cons rx (.cons rt .nil) => ⟨_, _, rfl, rx, rt⟩
  obtain ⟨od, inst⟩ := held_inst I hz hf hd
  have dict : (PySem.W.clsIn X.K D).isSome := by
    obtain ⟨cd, z, _⟩ := PySem.W.any_some C.hd
    rw [z]
    rfl
  have kit := PySem.W.kitx_exc (x := a) (ox := oe) (od := od) dict C.hg C.hk C.hs C.ha C.hn C.ht C.hm
  rw [show x = .ref a from rx, told t rt]
  exact PySem.W.kia_one kit I.kIn inst one nofun fun tk => ⟨.bl b, H, I.kept (t' := tk) fun _ _ z => z, rfl, q⟩
/-- xs.count(y), flat items -/
def rCntF (K : PySem.W.Frag) : V → List V → Hp → VK → Prop := fun x xs H Q => ∃ (a : Addr) (ys : List V) (y : V), x = V.ref a ∧ xs = [y] ∧ SqL K H a ys ∧ flatV y = true ∧ ys.all flatV = true ∧ Q (.int (ys.countP (fun z => eqV z y) : Nat)) H
theorem cnt_flat {y : V} : ∀ {ys : List V} {its : List Value}, Vals ys its → ys.all flatV = true → its.countP (eqU y) = ys.countP (fun z => eqV z y)
  | _, _, .nil, _ => rfl
  | _, _, .cons r rr, f => by
    rename_i v u vs us
    rw [List.all_cons, Bool.and_eq_true] at f
    rw [List.countP_cons, List.countP_cons, cnt_flat rr f.2, eqU_of r f.1]
theorem mt_countF {X : Cx} : MtR X "list.count" (rCntF X.K) := by
  rintro pins s σ H _ _ v us Q I rx rxs ⟨a, ys, y, rfl, rfl, hs, fy, fys, q⟩
  obtain rfl : v = .ref a := rx
  obtain ⟨u, rfl, ru⟩ := rxs.one
  obtain ⟨its, rv, ⟨o, n, ho, hc, _, hd⟩, _⟩ := I.list hs
  obtain ⟨cls, dd, data, sl⟩ := o
  obtain rfl : cls = _ := hc
  obtain rfl : data = _ := hd
  have many := cnt_flat (y := y) rv fys
  have law := SeqAt.list_countAt a its.toArray n dd sl u (eqU y)
  refine call_meets PySem.F.slot_list_count ⟨_, ho, rfl⟩ PySem.F.entry_list_count (PySem.F.args_list_count_2 _ _) law ⟨ho, fun z hz => mem_eqAt ru fy rv fys z (by simpa using hz), ?_⟩
  rw [List.toList_toArray, many]
  exact ⟨.int (ys.countP (fun z => eqV z y) : Nat), H, I.tok _, ⟨s.toks, rfl⟩, q⟩
end Sea

set_option Elab.async false
set_option linter.all false
set_option maxRecDepth 100000
set_option maxHeartbeats 4000000
namespace Sea
open PySem PySem.Spec PyProof.Rows L2 LamX NdefX Evl
/-! ### what a suite may ask of the caught error, whatever its class -/
/-- e.f, e the caught error: its class is told by the reading; the library's rule for that class does the rest -/
def tXf (K : PySem.W.Frag) (f : Str) (a : Addr) (cls : Value) (d : Option Addr) (te : TE) : TE := fun σ H Q => ∃ D : Addr, cls = .ref D ∧ XfC K D ∧ PySem.W.findIn K (.ref D) f = some none ∧ L2.tXf a cls d D f te σ H Q
theorem pe_xf {X : Cx} {f : Str} {a : Addr} {oe : Obj} {cls : Value} {d : Option Addr} {pn : List (Addr × Obj)} {e : Expr} {te : TE} {pos : Pos} (K : PySem.W.Frag) (hK : X.K = K) (hz : Zc cls d oe) (hf : ∃ vs, oe.data = .fields vs) (he : PE (X.suite a ((a, oe) :: pn)) e te)
    (hb : attributeBase e f X.env (eval e X.env) = eval e X.env := by rfl) : PE (X.suite a ((a, oe) :: pn)) (.Attribute e f pos) (tXf K f a cls d te) :=
  ⟨fun pins s σ H Q I ⟨_, _, T, no, h⟩ => (L2.pe_xf (hK ▸ T) (hK ▸ no) hz hf he hb).run pins s σ H Q I h⟩
/-! ### the handed thunk called, its promise weakened -/
theorem cx_le {P : Program} {w : World} {outer : List Env} {H : Hp} {s s' : Shared} {E E' : XK} {e : Value} (h : L2.CX P w outer H s E e s') (m : ∀ c d H', E c d H' → E' c d H') : L2.CX P w outer H s E' e s' := by
  obtain ⟨a, B, H', cls, d, h1, h2, h3, h4, h5, h6, h7, h8⟩ := h
  exact ⟨a, B, H', cls, d, h1, h2, h3, h4, h5, h6, h7, m _ _ _ h8⟩
section
variable {X : Cx} {i j : Nat} {x : Str} {p pos : Pos} {E : L2.St → XK}
def tActM (X : Cx) (j i : Nat) (E : L2.St → XK) : TE := fun σ H Q => ∃ (f : Addr) (tl : Hp → VK → XK → Prop) (Q' : VK) (E' : XK), σ[i]? = some (some (.ref f)) ∧ H = X.H_0 ∧ Thunk X.prog X.w X.K X.mg X.base (L2.CX X.prog X.w) j X.outer X.s_0 X.H_0 f tl ∧ tl H Q' E' ∧ (∀ v H1, Q' v H1 → Q v H1) ∧ (∀ c d H1, E' c d H1 → E σ c d H1)
theorem pe_actM (hr : Room j X.A) (hex : X.ex = []) (hx : ∀ σ, PassesAt (L2.CX X.prog X.w) X σ (E σ)) (hN : X.N[i]? = some x) (hv : Vis X.env.scope x)
    (hd : (x == ("__debug__" : Str)) = false := by decide) (hcd : (x == ("__classdict__" : Str)) = false := by decide) : PE X (.Call (.Name x p) [] [] pos) (tActM X j i E) := by
  refine ⟨fun pins s σ H Q I h => ?_⟩
  obtain ⟨f, tl, Q', E', hs, eH, hT, ht, mQ, mE⟩ := h
  have hx' : ∀ τ, PassesAt (L2.CX X.prog X.w) X τ (if τ = σ then E' else E τ) := fun τ => by
    by_cases hq : τ = σ
    · rw [if_pos hq]
      subst hq
      exact fun pins H s e s' J c => hx _ pins H s e s' J (cx_le c mE)
    · rw [if_neg hq]
      exact hx τ
  refine thn ((pe_actT (CXl := L2.CX X.prog X.w) (i := i) (p := p) (pos := pos) (E := fun τ => if τ = σ then E' else E τ) hr hex hx' hN hv hd hcd).run pins s σ H Q' I ⟨f, tl, hs, eH, hT, ?_⟩) fun u s1 hh => ?_
  · show tl H Q' (if σ = σ then E' else E σ)
    rw [if_pos rfl]
    exact ht
  · obtain ⟨v, H1, I1, r1, q1⟩ := hh
    exact ⟨v, H1, I1, r1, mQ _ _ q1⟩
end
theorem ev_isX {K : PySem.W.Frag} {a : Addr} {cls : Value} {d : Option Addr} {D : Addr} {c : V} {cv : Value} {b : Bool} {i : Nat} {σ : L2.St} {H : Hp} (h1 : cls = .ref D) (h2 : ExcC K D) (h3 : ∀ u, RelV c u → u = cv) (h4 : PySem.W.kitOne K (.ref D) cv = some b) (h5 : ∀ dx, d = some dx → ∃ fs, H dx = some (.xd fs)) (hs : σ[i]? = some (some (.ref a))) :
    Ev (tCB (rIsX K a cls d) (tCons (tVar i) (tCons (tC c) tNil))) σ H (.bl b) := fun H1 e Q q => ⟨_, hs, D, c, cv, b, h1, h2, rfl, h3, h4, fun dx hd => let ⟨fs, hx⟩ := h5 dx hd; ⟨fs, e _ _ hx⟩, q H1 (Ex.refl _)⟩
end Sea

set_option Elab.async false
set_option linter.all false
set_option maxRecDepth 100000
set_option maxHeartbeats 4000000
/-! rules with the written part K named: within a suite or a block the reading must not speak of the context -/
namespace Sea
open PySem PySem.Spec PyProof.Rows L2
section
variable {X : Cx} {T : String} {r : V → List V → Hp → VK → Prop} {e a b : Expr} {to ta tb : TE} {t : TA} {pos : Pos}
theorem pe_bmK (K : PySem.W.Frag) (hK : X.K = K) (h : PE X e (tBM X.K T r to t)) : PE X e (tBM K T r to t) := hK ▸ h
theorem pe_ixlK (K : PySem.W.Frag) (hK : X.K = K) (ha : PE X a ta) (hb : PE X b tb) (hs : PlainIx b := by exact fun _ _ => rfl) : PE X (.Subscript a b pos) (tOp (rIxL K) ta tb) := hK ▸ pe_ix ix_list ha hb hs
theorem mt_countK (K : PySem.W.Frag) (hK : X.K = K) : MtR X "list.count" (rCntF K) := hK ▸ mt_countF
theorem mt_indexK (K : PySem.W.Frag) (hK : X.K = K) : MtR X "list.index" (rIndex K) := hK ▸ mt_index
theorem op_inK (K : PySem.W.Frag) (hK : X.K = K) : OpR X (compareOp .In) (rIn K false) := hK ▸ op_in_seq
end
end Sea

set_option Elab.async false
set_option linter.all false
set_option maxRecDepth 100000
set_option maxHeartbeats 4000000
namespace Sea
open PySem PySem.Spec PyProof.Rows L2
def top (i : Nat) : Stmt := PySem.Challenge.pw_seasonpass_k01_tariffs_validated.main.body.getD i (.Pass ⟨0, 0, 0, 0⟩)
abbrev sMix : Stmt := top 13
abbrev sNext : Stmt := top 14
theorem scMix : FnScope ["_law_script", "_law_seed", "_law_mixed", "_law_cell"] ["_law_script", "_law_seed"] (defScope sMix) := ⟨rfl, rfl, rfl, by decide +kernel, rfl, by decide +kernel, by decide +kernel⟩
theorem scNext : FnScope ["_law_h", "_law_limit", "_law_cell"] ["_law_h", "_law_limit"] (defScope sNext) := ⟨rfl, rfl, rfl, by decide +kernel, rfl, by decide +kernel, by decide +kernel⟩
section
variable {X : Cx} {a b : Expr} {ta tb : TE} {pos : Pos}
theorem pe_ixl (ha : PE X a ta) (hb : PE X b tb) (hs : PlainIx b := by exact fun _ _ => rfl) : PE X (.Subscript a b pos) (tOp (rIxL X.K) ta tb) := pe_ix ix_list ha hb hs
theorem pe_ixt (ha : PE X a ta) (hb : PE X b tb) (hs : PlainIx b := by exact fun _ _ => rfl) : PE X (.Subscript a b pos) (tOp (rIxT X.K) ta tb) := pe_ix ix_tup ha hb hs
end
/-! ### draws -/
structure Dr (H : Hp) (h c : Addr) : Prop where
  ne : h ≠ c
  ex : ∃ (m k : Int) (ns : List Int), H h = some (.lst [.int m, .ref c, .int k]) ∧ H c = some (.lst (ns.map V.int)) ∧ ns.length ≤ 63
/-- all kept but h and c -/
def Kp (h c : Addr) (H H' : Hp) : Prop := ∀ b o, H b = some o → b ≠ h → b ≠ c → H' b = some o
theorem Kp.refl {h c : Addr} {H : Hp} : Kp h c H H := fun _ _ e _ _ => e
theorem Kp.trans {h c : Addr} {H H1 H2 : Hp} (a : Kp h c H H1) (b : Kp h c H1 H2) : Kp h c H H2 := fun x o e n1 n2 => b x o (a x o e n1 n2) n1 n2
theorem Kp.new {h c a : Addr} {H : Hp} {o : HO} (n : H a = none) : Kp h c H (upd H a o) := fun b o e _ _ => by
  rw [upd_ne (ne_of_none e n)]
  exact e
theorem Kp.same {h c : Addr} {H H' : Hp} (s : Same H H') : Kp h c H H' := fun b o e _ _ => s b o e
theorem Dr.same {H H' : Hp} {h c : Addr} (d : Dr H h c) (s : Same H H') : Dr H' h c := by
  obtain ⟨n, m, k, ns, e1, e2, l⟩ := d
  exact ⟨n, m, k, ns, s _ _ e1, s _ _ e2, l⟩
theorem Dr.new {H : Hp} {h c a : Addr} {o : HO} (d : Dr H h c) (n : H a = none) : Dr (upd H a o) h c := d.same fun b o e => by
  rw [upd_ne (ne_of_none e n)]
  exact e
def spMix (K : PySem.W.Frag) : Sp := fun vs H Q _ => ∃ (a : Addr) (ns : List Int) (z : Int), vs = [.ref a, .int z] ∧ SqL K H a (ns.map V.int) ∧ ns.length ≤ 63 ∧ ∀ (h c : Addr) (H' : Hp), Same H H' → H h = none → H c = none → Dr H' h c → Q (.ref h) H'
def spNext : Sp := fun vs H Q _ => ∃ (h c : Addr) (lim : Int), vs = [.ref h, .int lim] ∧ 0 < lim ∧ lim < 1073741824 ∧ Dr H h c ∧ ∀ (v : Int) (H' : Hp), 0 ≤ v → v < lim → Dr H' h c → Kp h c H H' → Q (.int v) H'
theorem pick0 (ns : List Int) (i : Int) (h0 : 0 ≤ i) (h1 : i < (ns.length : Int) + 1) : ∃ u : Int, atI (ns.map V.int ++ [V.int 0]) i = some (.int u) := by
  obtain ⟨j, rfl⟩ := Int.eq_ofNat_of_zero_le h0
  have hj : j < (ns.map V.int ++ [V.int 0]).length := by
    rw [List.length_append, List.length_map]
    show j < ns.length + 1
    omega
  refine ⟨(ns ++ [0]).getD j 0, ?_⟩
  have e : ns.map V.int ++ [V.int 0] = (ns ++ [0]).map V.int := by rw [List.map_append]; rfl
  rw [e] at hj ⊢
  unfold atI ixN
  rw [if_pos (by omega), if_pos (by omega)]
  show ((ns ++ [0]).map V.int)[(j : Int).toNat]? = _
  rw [Int.toNat_natCast, List.getElem?_map]
  rw [List.length_map] at hj
  rw [List.getElem?_eq_getElem hj]
  rw [List.getD_eq_getElem?_getD, List.getElem?_eq_getElem hj]
  rfl
theorem pick_nil {i u : Int} (h : atI (([] : List Int).map V.int ++ [V.int 0]) i = some (.int u)) : u = 0 := by
  revert h
  unfold atI ixN
  show ((if 0 ≤ i then (if i < ((1 : Nat) : Int) then some i.toNat else none) else if -((1 : Nat) : Int) ≤ i then some (i + ((1 : Nat) : Int)).toNat else none).bind fun j => [V.int 0][j]?) = _ → _
  intro h
  split at h
  · split at h
    · have e : i.toNat = 0 := by omega
      rw [show (some i.toNat : Option Nat) = some 0 by rw [e]] at h
      cases h
      rfl
    · cases h
  · split at h
    · have e : (i + ((1 : Nat) : Int)).toNat = 0 := by omega
      rw [show (some (i + ((1 : Nat) : Int)).toNat : Option Nat) = some 0 by rw [e]] at h
      cases h
      rfl
    · cases h
theorem ixn_fmod {n : Nat} (k : Int) (h : (0 : Int) < (n : Int)) : ∃ j, ixN n (k.fmod (n : Int)) = some j := by
  refine ⟨(k.fmod (n : Int)).toNat, ?_⟩
  unfold ixN
  rw [if_pos (Int.fmod_nonneg_of_pos _ h), if_pos (Int.fmod_lt_of_pos _ h)]
section
variable {P : Program} {w : World} {K : PySem.W.Frag} {mg : Str → Option Value} {base : Heap}
theorem ok_mix {f : Addr} {fd : FuncData} {k : Nat} (F : Fun K "_law_mix" "_law_mix" sMix f fd) (mL : mg "list" = none) : FnOk P w K mg base CX0 (k + 1) f fd ["_law_script", "_law_seed"] (spMix K) := by
  refine F.ok scMix (fun vs H Q E h => ?_) (fun cdv A outer s H vs Q E hr h => ?_)
  · obtain ⟨a, ns, z, rfl, _⟩ := h
    rfl
  · obtain ⟨a, ns, z, rfl, hS, hlen, q⟩ := h
    refine ⟨_, pss_cons (ps_set (i := 2) scMix.nd rfl (.inl rfl) (pv 1)) (pss_cons (ps_for PassesOwn.never rfl (pi_list (pv 0)) (pg_name (i := 3) scMix.nd rfl (.inl rfl))
        (pss_one (ps_set (i := 2) scMix.nd rfl (.inl rfl) (pe_op op_modN (pe_op op_add (pe_op op_add (pe_op op_mul (pv 2) pe_int) (pe_op op_modN (pv 3) pe_int)) pe_int) pe_int))))
      (pss_one (ps_ret (pe_lst (pa_cons (pv 2) (pa_cons (pe_callTy call_list_of (by rfl) mL (by rfl) (pa_cons (pv 0) pa_nil)) (pa_cons pe_int pa_nil))))))), ?_⟩
    refine ⟨_, rfl, ?_⟩
    refine ⟨_, rfl, a, rfl, ⟨_, hS⟩, for_list (K := K) (a := a) (xs := ns.map V.int) (fun i σ H' => ∃ (m : Int) (v : Option V), σ = [some (.ref a), some (.int z), some (.int m), v] ∧ H' = H)
      ⟨z, none, rfl, rfl⟩ (fun i σ H' _ ⟨_, _, _, e⟩ => by rw [e]; exact hS) ?_ ?_⟩
    · rintro i y σ H' hi ⟨m, v, rfl, rfl⟩
      obtain ⟨u, rfl⟩ : ∃ u, y = V.int u := by
        rw [List.getElem?_map] at hi
        cases e : ns[i]? with
        | none => rw [e] at hi; cases hi
        | some u => rw [e] at hi; exact ⟨u, (Option.some.inj hi).symm⟩
      refine ⟨_, rfl, _, _, rfl, rfl, .inr ⟨by decide, by decide⟩, _, rfl, _, _, rfl, rfl, (by show (2147483629 : Int) ≠ 0; decide), _, _, rfl, rfl, _, _, rfl, rfl, _, _, rfl, rfl, (by show (2147483647 : Int) ≠ 0; decide), ?_⟩
      exact ⟨_, _, rfl, rfl⟩
    · rintro σ H' ⟨m, v, rfl, rfl⟩
      refine ⟨_, rfl, _, rfl, a, _, rfl, .inl hS, fun c nc => ?_⟩
      refine ⟨Nat.le_of_lt (small1000 (show 3 ≤ 1000 by decide)), fun l nl => ?_⟩
      have ncl : l ≠ c := fun e => by rw [e, upd_same] at nl; cases nl
      refine q l c _ (fun b o e => ?_) ?_ nc ⟨ncl, m, 0, ns, upd_same, ?_, hlen⟩
      · rw [upd_ne (ne_of_none (o := o) (by rw [upd_ne (ne_of_none e nc)]; exact e) nl), upd_ne (ne_of_none e nc)]
        exact e
      · rw [upd_ne ncl] at nl; exact nl
      · rw [upd_ne ncl.symm, upd_same]

theorem ok_next {f : Addr} {fd : FuncData} {k : Nat} (F : Fun K "_law_next" "_law_next" sNext f fd) (mM : mg "max" = none) (mN : mg "len" = none) : FnOk P w K mg base CX0 (k + 1) f fd ["_law_h", "_law_limit"] spNext := by
  refine F.ok scNext (fun vs H Q E h => ?_) (fun cdv A outer s H vs Q E hr h => ?_)
  · obtain ⟨h, c, lim, rfl, _⟩ := h
    rfl
  · obtain ⟨h, c, lim, rfl, l0, l1, ⟨nhc, m, kk, ns, e1, e2, hlen⟩, q⟩ := h
    refine ⟨_, pss_cons (ps_set (i := 2) scNext.nd rfl (.inl rfl) (pe_ixl (pe_op op_cat (pe_ixl (pv 0) pe_int) (pe_lst (pa_cons pe_int pa_nil))) (pe_op op_modN (pe_ixl (pv 0) pe_int) (pe_callB (call_max2 rfl) (by rfl) mM (by rfl) (pa_cons pe_int (pa_cons (pe_callB call_len_seq (by rfl) mN PySem.boot_len (pa_cons (pe_ixl (pv 0) pe_int) pa_nil)) pa_nil))))))
      (pss_cons (ps_if (pt_cmpR op_ge (pv 2) (pe_op op_pow pe_int pe_int) (nomark _))
          (pss_cons (ps_asg (pe_op op_fdivN (pv 2) (pv 1)) (pg_sub (pe_ixl (pv 0) pe_int) (pe_op op_modN (pe_ixl (pv 0) pe_int) (pe_callB call_len_seq (by rfl) mN PySem.boot_len (pa_cons (pe_ixl (pv 0) pe_int) pa_nil))) set_list))
            (pss_one (ps_ret (pe_op op_modN (pv 2) (pv 1))))) pss_nil)
      (pss_cons (ps_asg (pe_op op_modN (pe_op op_add (pe_op op_add (pe_op op_mul (pe_ixl (pv 0) pe_int) pe_int) (pe_op op_mul (pv 2) pe_int)) pe_int) pe_int) (pg_sub (pv 0) pe_int set_list))
      (pss_cons (ps_asg (pe_op op_add (pe_ixl (pv 0) pe_int) pe_int) (pg_sub (pv 0) pe_int set_list))
      (pss_one (ps_ret (pe_op op_modN (pe_op op_fdivN (pe_ixl (pv 0) pe_int) pe_int) (pv 1))))))), ?_⟩
    have d0 : Same H H := fun _ _ e => e
    refine ⟨_, rfl, h, _, 1, _, rfl, rfl, SqL.of e1, rfl, ?_⟩
    refine ⟨Nat.le_of_lt (small1000 (show 1 ≤ 1000 by decide)), fun l nl => ?_⟩
    have s1 : Same H (upd H l (.lst [V.int 0])) := fun b o e => by
      rw [upd_ne (ne_of_none e nl)]
      exact e
    refine ⟨c, l, _, _, rfl, rfl, s1 _ _ e2, upd_same, Nat.le_of_lt (small1000 (show (ns.map V.int).length + 1 ≤ 1000 by rw [List.length_map]; omega)), fun p np => ?_⟩
    have s2 : Same H (upd (upd H l (.lst [V.int 0])) p (.lst (ns.map V.int ++ [V.int 0]))) := fun b o e => by
      rw [upd_ne (ne_of_none (s1 _ _ e) np)]
      exact s1 _ _ e
    have f1 := s2 _ _ e1
    have f2 := s2 _ _ e2
    refine ⟨_, rfl, h, _, 2, _, rfl, rfl, SqL.of f1, rfl, ?_⟩
    refine ⟨_, rfl, h, _, 1, _, rfl, rfl, SqL.of f1, rfl, c, _, rfl, .inl (SqL.of f2), _, _, rfl, ?_⟩
    have hmx : 0 < (if (((ns.map V.int).length : Nat) : Int) > 1 then (((ns.map V.int).length : Nat) : Int) else 1) := by split <;> omega
    refine ⟨_, _, rfl, rfl, Int.ne_of_gt hmx, ?_⟩
    obtain ⟨u, hu⟩ := pick0 ns (kk.fmod (if (((ns.map V.int).length : Nat) : Int) > 1 then (((ns.map V.int).length : Nat) : Int) else 1)) (Int.fmod_nonneg_of_pos _ hmx) (Int.lt_of_lt_of_le (Int.fmod_lt_of_pos kk hmx) (by rw [List.length_map]; split <;> omega))
    refine ⟨p, _, _, _, rfl, rfl, SqL.of upd_same, hu, ?_⟩
    refine ⟨_, rfl, _, _, rfl, rfl, ⟨by decide, by decide, by decide⟩, _, _, rfl, rfl, _, rfl, ?_⟩
    have n0 : lim ≠ 0 := Int.ne_of_gt l0
    have nA : lim.natAbs < 1073741824 := by omega
    have nb : ∀ b o, H b = some o → (upd (upd H l (.lst [V.int 0])) p (.lst (ns.map V.int ++ [V.int 0]))) b = some o := s2
    refine ite2 (fun hgt => ?_) (fun _ => ?_)
    · have hpos : 0 < ns.length := by
        cases ns with
        | nil =>
          exfalso
          have z : u = 0 := by
            have := hu
            rcases pick_nil this with e
            exact e
          rw [z] at hgt
          revert hgt
          decide
        | cons _ _ => exact Nat.succ_pos _
      refine ⟨_, rfl, _, rfl, _, _, rfl, rfl, ⟨n0, nA⟩, ?_⟩
      refine ⟨_, rfl, h, _, 1, _, rfl, rfl, SqL.of f1, rfl, _, rfl, h, _, 2, _, rfl, rfl, SqL.of f1, rfl, ?_⟩
      refine ⟨_, rfl, h, _, 1, _, rfl, rfl, SqL.of f1, rfl, c, _, rfl, .inl (SqL.of f2), ?_⟩
      have hlp : (0 : Int) < (((ns.map V.int).length : Nat) : Int) := by
        rw [List.length_map]
        omega
      obtain ⟨j, hj⟩ := ixn_fmod kk hlp
      refine ⟨_, _, rfl, rfl, Int.ne_of_gt hlp, c, _, _, j, rfl, rfl, f2, hj, ?_⟩
      refine ⟨_, rfl, _, rfl, _, _, rfl, rfl, n0, ?_⟩
      have hpc : c ≠ p := ne_of_none (s1 _ _ e2) np
      refine q _ _ (Int.fmod_nonneg_of_pos _ l0) (Int.fmod_lt_of_pos _ l0) ⟨nhc, m, kk, ns.set j (u.fdiv lim), ?_, ?_, ?_⟩ ?_
      · rw [upd_ne nhc]
        exact f1
      · rw [upd_same, List.map_set]
      · rw [List.length_set]
        exact hlen
      · intro b o e _ n2
        rw [upd_ne n2]
        exact s2 _ _ e
    · have _ := n0
      refine ⟨_, rfl, h, _, 0, _, rfl, rfl, SqL.of f1, rfl, _, _, rfl, rfl, .inr ⟨by decide, by decide⟩, ?_⟩
      refine ⟨_, rfl, _, _, rfl, rfl, .inr ⟨by decide, by decide⟩, _, _, rfl, rfl, _, _, rfl, rfl, _, _, rfl, rfl, (by show (2147483647 : Int) ≠ 0; decide), ?_⟩
      refine ⟨_, rfl, h, _, 0, 0, rfl, rfl, f1, rfl, ?_⟩
      refine ⟨_, rfl, h, _, 2, _, rfl, rfl, SqL.of upd_same, rfl, _, _, rfl, rfl, ?_⟩
      refine ⟨_, rfl, h, _, 2, 2, rfl, rfl, upd_same, rfl, ?_⟩
      refine ⟨_, rfl, h, _, 0, _, rfl, rfl, SqL.of upd_same, rfl, _, _, rfl, rfl, ⟨by decide, by decide⟩, _, rfl, _, _, rfl, rfl, n0, ?_⟩
      refine q _ _ (Int.fmod_nonneg_of_pos _ l0) (Int.fmod_lt_of_pos _ l0) ⟨nhc, _, _, ns, upd_same, ?_, hlen⟩ ?_
      · rw [upd_ne nhc.symm, upd_ne nhc.symm]
        exact f2
      · intro b o e n1 _
        rw [upd_ne n1, upd_ne n1]
        exact s2 _ _ e
end
end Sea

set_option Elab.async false
set_option linter.all false
set_option maxRecDepth 100000
set_option maxHeartbeats 4000000
namespace Sea
open PySem PySem.Spec PyProof.Rows L2
/-! ### tuples kept -/
def TK (K : PySem.W.Frag) (H H' : Hp) : Prop := ∀ a xs, SqT K H a xs → SqT K H' a xs
theorem TK.refl {K : PySem.W.Frag} {H : Hp} : TK K H H := fun _ _ h => h
theorem TK.trans {K : PySem.W.Frag} {H H1 H2 : Hp} (a : TK K H H1) (b : TK K H1 H2) : TK K H H2 := fun x y h => b x y (a x y h)
theorem sqT_keep {K : PySem.W.Frag} {H H' : Hp} {a : Addr} {xs : List V} (e : ∀ o, H a = some o → H' a = some o) (h : SqT K H a xs) : SqT K H' a xs := by
  rcases h with (h | ⟨o, h⟩) | h
  · exact .inl (.inl (e _ h))
  · exact .inl (.inr ⟨o, e _ h⟩)
  · exact .inr h
theorem TK.same {K : PySem.W.Frag} {H H' : Hp} (s : Same H H') : TK K H H' := fun a xs h => sqT_keep (fun o => s a o) h
theorem same_new {H : Hp} {p : Addr} {o : HO} (h : H p = none) : Same H (upd H p o) := fun b x e => by
  rw [upd_ne (ne_of_none e h)]
  exact e
theorem TK.new {K : PySem.W.Frag} {H : Hp} {a : Addr} {o : HO} (n : H a = none) : TK K H (upd H a o) := .same (same_new n)
/-- what is not a tuple at the changed places -/
theorem TK.but {K : PySem.W.Frag} {H H' : Hp} (D : Addr → Prop) (s : ∀ b o, H b = some o → ¬ D b → H' b = some o) (nt : ∀ b xs, D b → ¬ Rd H b (.tup xs)) : TK K H H' := fun a xs h => by
  rcases h with h | h
  · have nd : ¬ D a := fun z => nt a xs z h
    rcases h with h | ⟨o, h⟩
    · exact .inl (.inl (s _ _ h nd))
    · exact .inl (.inr ⟨o, s _ _ h nd⟩)
  · exact .inr h
theorem Rd.lst_no {H : Hp} {a : Addr} {xs ys : List V} (e : H a = some (.lst ys)) : ¬ Rd H a (.tup xs) := fun h => by
  rcases h with h | ⟨o, h⟩
  · rw [e] at h
    cases h
  · rw [e] at h
    cases h
theorem Rd.ins_no {H : Hp} {a C dx : Addr} {xs : List V} {fs : List (Str × V)} (e : H a = some (.ins C dx fs)) : ¬ Rd H a (.tup xs) := fun h => by
  rcases h with h | ⟨o, h⟩
  · rw [e] at h
    cases h
  · rw [e] at h
    cases h
theorem Dr.tk {K : PySem.W.Frag} {H H' : Hp} {h c : Addr} (d : Dr H h c) (k : Kp h c H H') : TK K H H' := by
  obtain ⟨_, m, kk, ns, e1, e2, _⟩ := d
  refine .but (fun b => b = h ∨ b = c) (fun b o e n => k b o e (fun z => n (.inl z)) (fun z => n (.inr z))) fun b xs z => ?_
  rcases z with z | z
  · rw [z]
    exact Rd.lst_no e1
  · rw [z]
    exact Rd.lst_no e2
/-! ### passes -/
def PrV (K : PySem.W.Frag) (H : Hp) (v : V) (x : Int × Int) : Prop := ∃ b, v = .ref b ∧ SqT K H b [.int x.1, .int x.2]
inductive PsV (K : PySem.W.Frag) (H : Hp) : List V → List (Int × Int) → Prop
  | nil : PsV K H [] []
  | cons {v : V} {x : Int × Int} {vs : List V} {L : List (Int × Int)} : PrV K H v x → PsV K H vs L → PsV K H (v :: vs) (x :: L)
theorem PrV.tk {K : PySem.W.Frag} {H H' : Hp} {v : V} {x : Int × Int} (t : TK K H H') (h : PrV K H v x) : PrV K H' v x := by
  obtain ⟨b, e, h⟩ := h
  exact ⟨b, e, t _ _ h⟩
theorem PsV.tk {K : PySem.W.Frag} {H H' : Hp} {vs : List V} {L : List (Int × Int)} (t : TK K H H') (h : PsV K H vs L) : PsV K H' vs L := by
  induction h with
  | nil => exact .nil
  | cons a _ ih => exact .cons (a.tk t) ih
theorem PsV.len {K : PySem.W.Frag} {H : Hp} {vs : List V} {L : List (Int × Int)} (h : PsV K H vs L) : vs.length = L.length := by
  induction h with
  | nil => rfl
  | cons _ _ ih => rw [List.length_cons, List.length_cons, ih]
theorem PsV.get {K : PySem.W.Frag} {H : Hp} {vs : List V} {L : List (Int × Int)} (h : PsV K H vs L) : ∀ {i : Nat} {v : V}, vs[i]? = some v → ∃ x, L[i]? = some x ∧ PrV K H v x := by
  induction h with
  | nil =>
    intro i v e
    simp at e
  | @cons v0 x0 vs0 L0 a _ ih =>
    intro i v e
    cases i with
    | zero =>
      have e' : v0 = v := by simpa using e
      exact ⟨x0, by simp, e' ▸ a⟩
    | succ j => simpa using ih (i := j) (v := v) (by simpa using e)
theorem PsV.app {K : PySem.W.Frag} {H : Hp} {vs ws : List V} {L M : List (Int × Int)} (h : PsV K H vs L) (g : PsV K H ws M) : PsV K H (vs ++ ws) (L ++ M) := by
  induction h with
  | nil => exact g
  | cons a _ ih => exact .cons a ih
theorem PsV.take {K : PySem.W.Frag} {H : Hp} {vs : List V} {L : List (Int × Int)} (h : PsV K H vs L) : ∀ n, PsV K H (vs.take n) (L.take n) := by
  induction h with
  | nil =>
    intro n
    simp
    exact .nil
  | cons a _ ih =>
    intro n
    cases n with
    | zero => exact .nil
    | succ m => exact .cons a (ih m)
theorem PsV.drop {K : PySem.W.Frag} {H : Hp} {vs : List V} {L : List (Int × Int)} (h : PsV K H vs L) : ∀ n, PsV K H (vs.drop n) (L.drop n) := by
  induction h with
  | nil =>
    intro n
    simp
    exact .nil
  | cons a b ih =>
    intro n
    cases n with
    | zero => exact .cons a b
    | succ m => exact ih m
def psD (L : List (Int × Int)) : PyData := .tuple (L.map fun x => .tuple [.int x.1, .int x.2])
theorem PsV.dp {K : PySem.W.Frag} {H : Hp} {vs : List V} {L : List (Int × Int)} (h : PsV K H vs L) : DpAll K H vs (L.map fun x => .tuple [.int x.1, .int x.2]) := by
  induction h with
  | nil => exact .nil
  | cons a _ ih =>
    obtain ⟨b, rfl, hb⟩ := a
    exact .cons (.tup hb (.cons (.int _) (.cons (.int _) .nil))) ih
/-- a tuple of passes at v -/
def PsA (K : PySem.W.Frag) (H : Hp) (v : V) (L : List (Int × Int)) : Prop := ∃ a vs, v = .ref a ∧ SqT K H a vs ∧ PsV K H vs L
theorem PsA.tk {K : PySem.W.Frag} {H H' : Hp} {v : V} {L : List (Int × Int)} (t : TK K H H') (h : PsA K H v L) : PsA K H' v L := by
  obtain ⟨a, vs, e, h1, h2⟩ := h
  exact ⟨a, vs, e, t _ _ h1, h2.tk t⟩
theorem PsA.dp {K : PySem.W.Frag} {H : Hp} {v : V} {L : List (Int × Int)} (h : PsA K H v L) : Dp K H v (psD L) := by
  obtain ⟨a, vs, rfl, h1, h2⟩ := h
  exact .tup h1 h2.dp
theorem psD_lay : ∀ L : List (Int × Int), PyData.canLayAll0 (L.map fun x => PyData.tuple [.int x.1, .int x.2]) = true
  | [] => rfl
  | x :: L => by
    show ((true && (true && true)) && PyData.canLayAll0 (L.map fun x => PyData.tuple [.int x.1, .int x.2])) = true
    rw [psD_lay L]
    rfl
theorem psD_eqv : ∀ L M : List (Int × Int), PyData.eqvAll (L.map fun x => .tuple [.int x.1, .int x.2]) (M.map fun x => .tuple [.int x.1, .int x.2]) = decide (L = M)
  | [], [] => rfl
  | [], _ :: _ => rfl
  | _ :: _, [] => rfl
  | x :: L, y :: M => by
    show (((x.1 == y.1) && ((x.2 == y.2) && true)) && PyData.eqvAll (L.map fun x => .tuple [.int x.1, .int x.2]) (M.map fun x => .tuple [.int x.1, .int x.2])) = _
    rw [psD_eqv L M, Bool.eq_iff_iff]
    obtain ⟨x1, x2⟩ := x
    obtain ⟨y1, y2⟩ := y
    simp
theorem psD_eq (L M : List (Int × Int)) : PyData.eqv (psD L) (psD M) = decide (L = M) := psD_eqv L M
end Sea

set_option Elab.async false
set_option linter.all false
set_option maxRecDepth 100000
set_option maxHeartbeats 4000000
namespace Sea
open PySem PySem.Spec PyProof.Rows L2 LamX NdefX ClX
abbrev sIT : Stmt := inClass (top 2) 0
abbrev sInit : Stmt := inClass (top 10) 3
abbrev sSingle : Stmt := inClass (top 10) 4
abbrev sPasses : Stmt := inClass (top 10) 5
abbrev sLengths : Stmt := inClass (top 10) 6
abbrev sPrices : Stmt := inClass (top 10) 7
abbrev sWithout : Stmt := inClass (top 10) 8
abbrev sWithPrice : Stmt := inClass (top 10) 9
abbrev sValid : Stmt := top 11
theorem scIT : FnScope ["self", "index"] ["self", "index"] (defScope sIT) := ⟨rfl, rfl, rfl, by decide +kernel, rfl, by decide +kernel, by decide +kernel⟩
theorem scInit : FnScope ["self", "passes", "index", "length", "price", "is_good"] ["self", "passes"] (defScope sInit) := ⟨rfl, rfl, rfl, by decide +kernel, rfl, by decide +kernel, by decide +kernel⟩
theorem scValid : FnScope ["tariff", "index"] ["tariff", "index"] (defScope sValid) := ⟨rfl, rfl, rfl, by decide +kernel, rfl, by decide +kernel, by decide +kernel⟩
/-- the text's facts -/
structure TX (K : PySem.W.Frag) (mg : Str → Option Value) (C cI cU cP fI : Addr) (mc mp : Value) : Prop where
  cl : Cls K C
  no : NoAttr K C "offers"
  gC : mg "Tariff" = some (.ref C)
  cr : CRead K C mc
  v1 : ∃ u, CVal K C mc "MAX_LENGTH" (.int 28) u
  v2 : ∃ u, CVal K C mc "MAX_PRICE" (.int 1000000) u
  v3 : ∃ u, CVal K C mc "MAX_PASSES" (.int 6) u
  mE : mg "enumerate" = none
  mN : mg "len" = none
  mT : mg "tuple" = none
  xI : OexC K cI
  nI : PySem.W.findIn K (.ref cI) "index" = some none
  gI : mg "InvalidTariff" = some (.ref cI)
  iI : PySem.W.findIn K (.ref cI) "__init__" = some (some (.ref fI))
  tI : PySem.W.typeIn K (.ref fI) = some (.type "function")
  pI : PIn K mg "PassError" cP mp
  qU : PySem.W.excIn K cU [.type "ValueError", .type "Exception", .type "BaseException", .type "object"] "ValueError.__new__" = true
  gU : mg "UnknownPass" = some (.ref cU)
  kU : PySem.W.keepIn K (.ref cU) = true
  sU : PySem.W.subIn K (.ref cU) (.type "BaseException") = some true
  yU : PySem.W.typeIn K (.ref cU) = some (.type "type")
section
variable {P : Program} {w : World} {K : PySem.W.Frag} {mg : Str → Option Value} {base : Heap} {C cI cU cP fI : Addr} {mc mp : Value}
theorem ok_IT {k : Nat} {fd : FuncData} (F : Fun K "__init__" "InvalidTariff.__init__" sIT fI fd) (T : TX K mg C cI cU cP fI mc mp) : FnOk P w K mg base CX0 (k + 1) fI fd ["self", "index"] (spX1 K "index") := by
  refine F.ok scIT (fun vs H Q E h => ?_) (fun cdv A outer s H vs Q E hr h => ?_)
  · obtain ⟨a, C', y, rfl, _⟩ := h
    rfl
  · obtain ⟨a, C', y, rfl, hx, hf, ha, q⟩ := h
    refine ⟨_, pss_cons (ps_expr (pe_pinit (by rfl) T.pI.gB T.pI.rd T.pI.ga T.pI.at_ (pa_cons (pv 0) (pa_cons pe_str pa_nil)))) (pss_one (ps_ost (pv 0) (pv 1))), ?_⟩
    refine ⟨_, rfl, a, C', _, rfl, by decide, hx, ha, _, rfl, _, rfl, a, C', rfl, hx, hf, .inl ⟨ha, fun dx h1 h2 => q dx h1 h2⟩⟩
theorem kb_IT {fd : FuncData} (F : Fun K "__init__" "InvalidTariff.__init__" sIT fI fd) : KBn K fd ["self", "index"] 1 ["index"] (fun us ws => us ++ ws) (fun vs zs => vs ++ zs) := by
  obtain ⟨oc, od, kV, doc, pm, an, cdv, ct, osl, rfl, lk, hcd⟩ := F.ex
  refine ⟨fun s us ws _ h1 h2 => ?_, fun a b => a.append b⟩
  match us, ws, h1, h2 with
  | [u], [x], _, _ => exact .of_eq rfl
end
end Sea

set_option Elab.async false
set_option linter.all false
set_option maxRecDepth 100000
set_option maxHeartbeats 4000000
namespace Sea
open PySem PySem.Spec PyProof.Rows L2 LamX NdefX ClX
theorem scPasses : FnScope ["self"] ["self"] (defScope sPasses) := ⟨rfl, rfl, rfl, by decide +kernel, rfl, by decide +kernel, by decide +kernel⟩
/-- a tariff at a, its tuple of passes at p -/
def Tar (K : PySem.W.Frag) (C : Addr) (H : Hp) (a p : Addr) (L : List (Int × Int)) : Prop := (∃ dx, H a = some (.ins C dx [("offers", .ref p)])) ∧ PsA K H (.ref p) L
theorem Tar.len_eq {K : PySem.W.Frag} {C : Addr} {H : Hp} {a p : Addr} {L : List (Int × Int)} (t : Tar K C H a p L) : ∃ vs, SqT K H p vs ∧ vs.length = L.length ∧ PsV K H vs L := by
  obtain ⟨_, q, vs, e, h1, h2⟩ := t
  cases e
  exact ⟨vs, h1, h2.len, h2⟩
/-- the getter of passes -/
structure TP (K : PySem.W.Frag) (C fP pP : Addr) (fdP : FuncData) : Prop where
  pr : PropOf K C "passes" pP fP
  fu : Fun K "passes" "Tariff.passes" sPasses fP fdP
section
variable {P : Program} {w : World} {K : PySem.W.Frag} {mg : Str → Option Value} {base : Heap} {C cI cU cP fI fP pP : Addr} {mc mp : Value} {fdP : FuncData}
theorem ok_passes (F : Fun K "passes" "Tariff.passes" sPasses fP fdP) (c : Cls K C) (n : NoAttr K C "offers") {k : Nat} : FnOk P w K mg base CX0 (k + 1) fP fdP ["self"] (getSp C "offers") := by
  obtain ⟨oc, od, kV, doc, pm, an, cdv, ct, osl, rfl, lk, hcd⟩ := F.ex
  exact fn_getter lk hcd scPasses rfl rfl c n
theorem b_passes (F : Fun K "passes" "Tariff.passes" sPasses fP fdP) : Binds K fdP ["self"] [] := F.binds (ps := ["self"]) fun _ _ _ _ _ _ us hl => match us, hl with | [_], _ => rfl
/-- e.passes, e a tariff -/
theorem pe_passes {X : Cx} {e : Expr} {te : TE} {pos : Pos} (T : TP X.K C fP pP fdP) (c : Cls X.K C) (n : NoAttr X.K C "offers") (hr : Room 2 X.A) (he : PE X e te) (hab : attributeBase e "passes" X.env (eval e X.env) = eval e X.env := by rfl) :
    PE X (.Attribute e "passes" pos) (tProp C (getSp C "offers") [] E0 te) :=
  pe_prop he c T.pr (ok_passes (k := 0) T.fu c n) hr (b_passes T.fu) .nil pass0 hab
def spValid (K : PySem.W.Frag) (C cU : Addr) : Sp := fun vs H Q E => ∃ (a p : Addr) (i : Int) (L : List (Int × Int)), vs = [.ref a, .int i] ∧ Tar K C H a p L ∧ (0 ≤ i ∧ i < L.length → Q .non H) ∧ (¬ (0 ≤ i ∧ i < L.length) → E (.ref cU) none H)
theorem ok_valid {f : Addr} {fd : FuncData} {k : Nat} (F : Fun K "validate_pass" "validate_pass" sValid f fd) (T : TX K mg C cI cU cP fI mc mp) (TQ : TP K C fP pP fdP) : FnOk P w K mg base (L2.CX P w) (k + 3) f fd ["tariff", "index"] (spValid K C cU) := by
  refine F.okX scValid (fun vs H Q E h => ?_) (fun cdv A outer s H vs Q E hr h => ?_)
  · obtain ⟨a, p, i, L, rfl, _⟩ := h
    rfl
  · obtain ⟨a, p, i, L, rfl, ht, q1, q2⟩ := h
    refine ⟨_, pss_one (ps_if (pt_not (pt_chain op_le op_lt pe_int (pv 1) (pe_callB call_len_seq (by rfl) T.mN PySem.boot_len (pa_cons (pe_passes TQ T.cl T.no (hr.mono (by omega)) (pv 0)) pa_nil))))
      (pss_one (ps_raise rfl (takes_of rfl rfl rfl rfl) (pmk_own PySem.F.excBase_ValueError T.qU T.gU T.kU (raises_own T.sU T.yU) (by rfl)))) pss_nil), ?_⟩
    obtain ⟨vs, h1, hl, _⟩ := ht.len_eq
    obtain ⟨⟨dx, ha⟩, _⟩ := ht
    refine ⟨_, rfl, _, _, rfl, rfl, _, rfl, ?_⟩
    refine ite2 (fun h0 => ?_) (fun h0 => ?_)
    · have g0 : (0 : Int) ≤ i := of_decide_eq_true h0
      refine ⟨.ref a, rfl, a, dx, _, rfl, ha, a, dx, _, .ref p, rfl, ha, rfl, p, vs, rfl, .inr h1, _, _, rfl, rfl, _, rfl, ?_⟩
      refine ite2 (fun hb => ?_) (fun hb => ?_)
      · refine q2 fun hc => ?_
        have h2 : i < ((vs.length : Nat) : Int) := by
          rw [hl]
          exact hc.2
        rw [decide_eq_true h2] at hb
        cases hb
      · refine q1 ⟨g0, ?_⟩
        rw [← hl]
        by_cases h2 : i < ((vs.length : Nat) : Int)
        · exact h2
        · rw [decide_eq_false h2] at hb
          exact absurd rfl hb
    · refine ⟨_, rfl, q2 fun hc => ?_⟩
      rw [decide_eq_true hc.1] at h0
      exact h0 rfl
end
end Sea

set_option Elab.async false
set_option linter.all false
set_option maxRecDepth 100000
set_option maxHeartbeats 4000000
namespace Sea
open PySem PySem.Spec PyProof.Rows L2 LamX NdefX ClX Evl
section
variable {X : Cx} {C : Addr} {mc : Value} {x f : Str} {v : V} {p pos : Pos}
theorem pe_clc (hg : Gl X x) (hm : X.mg x = some (.ref C)) (cr : CRead X.K C mc) (cv : ∃ u, CVal X.K C mc f v u) (hd : (x == ("__debug__" : Str)) = false := by decide)
    (hb : attributeBase (.Name x p) f X.env (eval (.Name x p) X.env) = eval (.Name x p) X.env := by rfl) : PE X (.Attribute (.Name x p) f pos) (tC v) := by
  obtain ⟨u, cv⟩ := cv
  exact ⟨fun pins s σ H Q I h => (pe_cval (pe_glob (v := .ref C) hg hm rfl hd) hb).run pins s σ H Q I ⟨C, mc, v, u, rfl, cr, cv, h⟩⟩
end
theorem ev_chainI {ta tb tc : TE} {σ : L2.St} {H : Hp} {i j k : Int} {p q : Int → Int → Bool} (ha : Ev ta σ H (.int i)) (hb : Ev tb σ H (.int j)) (hc : Ev tc σ H (.int k)) :
    Ev (tChain (rI0 fun i j => .bl (p i j)) (rI0 fun i j => .bl (q i j)) ta tb tc) σ H (.bl (p i j && q j k)) := fun H1 e Q hq => ha H1 e _ fun H2 e2 => hb H2 (e.trans e2) _ fun H3 e3 => ⟨i, j, rfl, rfl, p i j, rfl, by
  cases hp : p i j with
  | true => exact iteT (hc H3 ((e.trans e2).trans e3) _ fun H4 e4 => ⟨j, k, rfl, rfl, by
      have z := hq H4 ((e2.trans e3).trans e4)
      rw [hp] at z
      exact z⟩)
  | false => exact iteF (by
      have z := hq H3 (e2.trans e3)
      rw [hp] at z
      exact z)⟩
/-- a loop of n rounds: what each round finds and leaves, and what stands when the source is dry -/
theorem for_rounds {I : It} {g : TG} {tb : TS} {D : Ends} {σ : L2.St} {H : Hp} (n : Nat) (Pv : Nat → L2.St → Hp → Prop) (start : Pv 0 σ H)
    (round : ∀ i σ H, i < n → Pv i σ H → I.go i H ∧ ∀ x H', I.yld i H x H' → g x σ H' fun σ2 H2 => tb { D with nx := Pv (i + 1), ct := Pv (i + 1), bk := D.nx } σ2 H2)
    (dry : ∀ σ H, Pv n σ H → I.stop n H ∧ D.nx σ H) :
    ∃ W : Nat → Nat → L2.St → Hp → Prop, (∃ m, W 0 m σ H) ∧ ∀ i m σ H, W i m σ H →
      (I.stop i H ∧ D.nx σ H) ∨ (I.go i H ∧ ∃ N : L2.St → Hp → Prop, (∀ σ' H', N σ' H' → ∃ m', m' < m ∧ W (i + 1) m' σ' H') ∧ ∀ x H', I.yld i H x H' → g x σ H' fun σ2 H2 => tb { D with nx := N, ct := N, bk := D.nx } σ2 H2) := by
  let W : Nat → Nat → L2.St → Hp → Prop := fun i m σ H => m + i = n ∧ Pv i σ H
  have more : ∀ i m σ H, W i (m + 1) σ H → (I.go i H ∧ ∃ N : L2.St → Hp → Prop, (∀ σ' H', N σ' H' → ∃ m', m' < m + 1 ∧ W (i + 1) m' σ' H') ∧ ∀ x H', I.yld i H x H' → g x σ H' fun σ2 H2 => tb { D with nx := N, ct := N, bk := D.nx } σ2 H2) := by
    rintro i m σ H ⟨e, p⟩
    have ⟨go, each⟩ := round i σ H (by omega) p
    exact ⟨go, Pv (i + 1), fun _ _ z => ⟨m, Nat.lt_succ_self m, by omega, z⟩, each⟩
  have last : ∀ i σ H, W i 0 σ H → I.stop i H ∧ D.nx σ H := by
    rintro i σ H ⟨e, p⟩
    rw [Nat.zero_add] at e
    exact e ▸ dry σ H (e ▸ p)
  exact ⟨W, ⟨n, rfl, start⟩, fun i m σ H w => match m, w with
    | 0, w => .inl (last i σ H w)
    | m + 1, w => .inr (more i m σ H w)⟩
/-! ### what is wrong with passes -/
def okP (x : Int × Int) : Bool := (decide (1 ≤ x.1) && decide (x.1 ≤ 28)) && (decide (1 ≤ x.2) && decide (x.2 ≤ 1000000))
def badI (i : Nat) (x : Int × Int) : Bool := decide (V.int ((i : Nat) : Int) = V.int 6) || !okP x
def fb : Nat → List (Int × Int) → Option Nat
  | _, [] => none
  | i, x :: r => if badI i x = true then some i else fb (i + 1) r
def bad (L : List (Int × Int)) : Option Nat := if L = [] then some 0 else fb 0 L
theorem fb_all : ∀ (L : List (Int × Int)) (k : Nat), (∀ j x, L[j]? = some x → badI (k + j) x = false) → fb k L = none
  | [], _, _ => rfl
  | x :: r, k, h => by
    have h0 := h 0 x rfl
    unfold fb
    rw [if_neg (by rw [show badI k x = false from h0]; decide)]
    refine fb_all r (k + 1) fun j y hy => ?_
    have := h (j + 1) y (by simpa using hy)
    rwa [show k + (j + 1) = k + 1 + j by omega] at this
theorem fb_at : ∀ (L : List (Int × Int)) (k i : Nat) (x : Int × Int), L[i]? = some x → badI (k + i) x = true → (∀ j y, j < i → L[j]? = some y → badI (k + j) y = false) → fb k L = some (k + i)
  | [], _, i, _, h, _, _ => by simp at h
  | y :: r, k, 0, x, h, hb, _ => by
    obtain rfl : y = x := by simpa using h
    unfold fb
    rw [if_pos (show badI k y = true from hb)]
    rfl
  | y :: r, k, i + 1, x, h, hb, hn => by
    unfold fb
    rw [if_neg (by rw [show badI k y = false from hn 0 y (Nat.succ_pos _) rfl]; decide)]
    rw [fb_at r (k + 1) i x (by simpa using h) (by rwa [show k + 1 + i = k + (i + 1) by omega]) (fun j z hj hz => by
      have := hn (j + 1) z (by omega) (by simpa using hz)
      rwa [show k + (j + 1) = k + 1 + j by omega] at this)]
    rw [show k + 1 + i = k + (i + 1) by omega]
section
variable {P : Program} {w : World} {K : PySem.W.Frag} {mg : Str → Option Value} {base : Heap} {C cI cU cP fI fP pP : Addr} {mc mp : Value} {fdP fdI : FuncData}
theorem mk1_in {H1 : Hp} {Q : XK} {f : Str} {y : V} {c : Addr} (T : OexC K c) (n : PySem.W.findIn K (.ref c) f = some none) (h : ∀ d, H1 d = none → Q (.ref c) (some d) (upd H1 d (.xd [(f, y)]))) :
    [y].length = 1 ∧ ∀ a, H1 a = none → spX1 K f ([.ref a] ++ [y]) (upd H1 a (exo a c none)) (fun v H2 => v = .non ∧ ∃ (d : Addr) (fs : List (Str × V)), H2 a = some (exo a c (some d)) ∧ H2 d = some (exd d fs) ∧ H1 d = none ∧ Q (.ref c) (some d) (upd (del H2 a) d (.xd fs))) (fun _ _ _ => False) := by
  refine ⟨rfl, fun a ha => ⟨a, c, y, rfl, T, n, upd_same, fun dx h1 h2 => ?_⟩⟩
  rw [upd_ne h2] at h1
  refine ⟨rfl, dx, _, upd_same, by rw [upd_ne h2, upd_same], h1, ?_⟩
  have e : upd (del (upd (upd (upd H1 a (exo a c none)) dx (exd dx [(f, y)])) a (exo a c (some dx))) a) dx (.xd [(f, y)]) = upd H1 dx (.xd [(f, y)]) := by
    funext b
    by_cases hb : b = dx
    · subst hb
      rw [upd_same, upd_same]
    · rw [upd_ne hb, upd_ne hb]
      by_cases hba : b = a
      · subst hba
        rw [del_same, ha]
      · rw [del_ne hba, upd_ne hba, upd_ne hb, upd_ne hba]
  rw [e]
  exact h dx h1
theorem psD_dep : ∀ L : List (Int × Int), PyData.depthAll (L.map fun x => PyData.tuple [.int x.1, .int x.2]) ≤ 1
  | [] => Nat.zero_le _
  | x :: L => by
    show max (max 0 (max 0 0) + 1) (PyData.depthAll (L.map fun x => PyData.tuple [.int x.1, .int x.2])) ≤ 1
    have := psD_dep L
    omega
theorem psD_sh (L : List (Int × Int)) : SeqAt.shaped (psD L) = true := by
  show (PyData.canLayAll0 (L.map fun x => PyData.tuple [.int x.1, .int x.2]) && decide (PyData.depthAll (L.map fun x => PyData.tuple [.int x.1, .int x.2]) + 1 ≤ 64)) = true
  rw [psD_lay, decide_eq_true (by have := psD_dep L; omega)]
  rfl
/-- Tariff.__init__ at the tuple p -/
def spInit (K : PySem.W.Frag) (C cI : Addr) : Sp := fun vs H Q E => ∃ (a p dx : Addr) (L : List (Int × Int)), vs = [.ref a, .ref p] ∧ H a = some (.ins C dx []) ∧ PsA K H (.ref p) L ∧ L.length ≤ 1000 ∧
  (bad L = none → ∀ H', (∀ b o, H b = some o → b ≠ a → H' b = some o) → H' a = some (.ins C dx [("offers", .ref p)]) → Q .non H') ∧
  (∀ i d H', bad L = some i → Same H H' → H' d = some (.xd [("index", .int i)]) → E (.ref cI) (some d) H')
theorem ok_init_body {k : Nat} {X : Cx} (hX : X.K = K) (FI : Fun K "__init__" "InvalidTariff.__init__" sIT fI fdI) (T : TX K mg C cI cU cP fI mc mp) {f : Addr} {cdv : Value} {A : Around} {outer : List Env} {s : Shared} {H : Hp} {vs : List V} {Q : VK} {E : XK}
    (hr : Room (k + 3) (A.deeper (envOfC "Tariff.__init__" (defScope sInit) s.heap.objs.size f cdv))) (h : spInit K C cI vs H Q E) :
    ∃ t, PSs (cxOf (L2.CX P w) P w K mg base ["self", "passes", "index", "length", "price", "is_good"] "Tariff.__init__" (defScope sInit) f cdv A outer s H E) (defBody sInit) t ∧ t { nx := fun _ H' => Q .non H', rt := Q } (start ["self", "passes", "index", "length", "price", "is_good"] vs) H := by
  obtain ⟨a, p, dx, L, rfl, ha, hL, hlen, q1, q2⟩ := h
  have GI : FnOk P w K mg base CX0 1 fI fdI ["self", "index"] (spX1 K "index") := ok_IT FI T
  have kb := kb_IT FI
  refine ⟨_, pss_cons (ps_if (pt_cmpR (op_eqD hr.units) (pv 1) (pe_tup pa_nil) (nomark _)) (pss_one (ps_raise rfl (takes_of rfl rfl rfl rfl) (pmk_kw T.xI T.iI T.tI GI (hr.mono (by omega)) kb pass0 (by rfl) T.gI (pk_cons pe_int pk_nil)))) pss_nil)
    (pss_cons (ps_for (passes_of rfl) rfl (pi_enumT (by rfl) T.mE (pa_cons (pv 1) pa_nil)) (pg_tup rfl (pgs_cons (pg_name (i := 2) scInit.nd rfl (.inl rfl)) (pgs_cons (pg_tup rfl (pgs_cons (pg_name (i := 3) scInit.nd rfl (.inl rfl)) (pgs_cons (pg_name (i := 4) scInit.nd rfl (.inl rfl)) pgs_nil))) pgs_nil)))
      (pss_cons (ps_set (i := 5) scInit.nd rfl (.inl rfl) (pe_and (pe_chain op_le op_le pe_int (pv 3) (pe_clc (by rfl) T.gC T.cr T.v1)) (pe_one (pe_chain op_le op_le pe_int (pv 4) (pe_clc (by rfl) T.gC T.cr T.v2)))))
        (pss_one (ps_if (PW.pt (pw_or (pt_cmpR op_eq (pv 2) (pe_clc (by rfl) T.gC T.cr T.v3) (nomark _)) (pw_or1 (pt_not (pt_val (pv 5))))))
          (pss_one (ps_raise rfl (takes_of rfl rfl rfl rfl) (pmk_kw T.xI T.iI T.tI GI (hr.mono (by omega)) kb pass0 (by rfl) T.gI (pk_cons (pv 2) pk_nil)))) pss_nil))))
    (pss_one (ps_fld (pv 0) (pv 1) rfl))), ?_⟩
  have hps := hL
  obtain ⟨_, vs, e, h1, h2⟩ := hL
  cases e
  have hlen2 := h2.len
  refine ⟨.ref p, rfl, Nat.zero_le _, fun z nz => ?_⟩
  have s0 : Same H (upd H z (.tup [])) := same_new nz
  refine ⟨psD L, psD [], (hps.tk (.same s0)).dp, .tup (xs := []) (.of upd_same) .nil, psD_sh L, psD_sh [], _, rfl, ?_⟩
  refine ite2 (fun hb => ?_) (fun hb => ?_)
  · have eL : L = [] := by
      rw [psD_eq] at hb
      exact of_decide_eq_true hb
    refine mk1_in T.xI T.nI fun d hd => q2 0 d _ ?_ (s0.trans (same_new hd)) upd_same
    unfold bad
    rw [if_pos eL]
  have nL : L ≠ [] := fun z => by
    rw [psD_eq, decide_eq_true z] at hb
    exact hb rfl
  refine ⟨_, rfl, p, vs, rfl, (TK.same s0) _ _ h1, for_rounds (I := IteT K p vs) vs.length (fun i σ H' => ∃ v2 v3 v4 v5, σ = [some (.ref a), some (.ref p), v2, v3, v4, v5] ∧ Same H H' ∧ ∀ j x, j < i → L[j]? = some x → badI j x = false)
    ⟨none, none, none, none, rfl, s0, fun j x hj => absurd hj (Nat.not_lt_zero _)⟩ ?_ ?_⟩
  · rintro i σ H' hi ⟨v2, v3, v4, v5, rfl, sm, hall⟩
    have hvs : SqT K H' p vs := (TK.same sm) _ _ h1
    refine ⟨⟨hi, hvs⟩, ?_⟩
    rintro y HT ⟨x, TT, hx, nT, rfl, rfl⟩
    obtain ⟨⟨l, pr⟩, hLi, b, rfl, hb2⟩ := h2.get hx
    have sT : Same H' (upd H' TT (.tup [.int (i : Nat), .ref b])) := same_new nT
    have hb3 : SqT K (upd H' TT (.tup [.int (i : Nat), .ref b])) b [.int l, .int pr] := (TK.same (sm.trans sT)) _ _ hb2
    have hi6 : i < 1000 := by
      have := (List.getElem?_eq_some_iff.mp hLi).1
      omega
    refine ⟨TT, _, rfl, .of upd_same, rfl, _, _, rfl, _, _, rfl, b, _, rfl, hb3, rfl, _, _, rfl, _, _, rfl, rfl, rfl, ?_⟩
    refine q_asg (v := .bl (okP (l, pr))) (ev_andV (ev_chainI (p := fun i j => decide (i ≤ j)) (q := fun i j => decide (i ≤ j)) ev_c (ev_var rfl) ev_c) fun _ => ev_chainI (p := fun i j => decide (i ≤ j)) (q := fun i j => decide (i ≤ j)) ev_c (ev_var rfl) ev_c) fun H2 e2 => ?_
    refine s_if (b := badI i (l, pr)) (et_or (et_test (ev_op (ev_var rfl) ev_c (rv_eq rfl))) fun _ => et_not (et_B (ev_var rfl))) (fun hb3 H3 e3 => ?_) (fun hb3 H3 e3 => ?_)
    · refine ⟨_, rfl, mk1_in T.xI T.nI fun d hd => q2 i d _ ?_ (((sm.trans sT).trans (e2.trans e3)).trans (same_new hd)) upd_same⟩
      unfold bad
      rw [if_neg nL]
      have := fb_at L 0 i (l, pr) hLi (by rw [Nat.zero_add]; exact hb3) (fun j y hj hy => by
        rw [Nat.zero_add]
        exact hall j y hj hy)
      rwa [Nat.zero_add] at this
    · refine ⟨_, _, _, _, rfl, (sm.trans sT).trans (e2.trans e3), fun j x hj hxx => ?_⟩
      by_cases hji : j < i
      · exact hall j x hji hxx
      · obtain rfl : j = i := by omega
        rw [Option.some.inj (hxx.symm.trans hLi)]
        exact hb3
  · rintro σ H' ⟨v2, v3, v4, v5, rfl, sm, hall⟩
    refine ⟨⟨rfl, (TK.same sm) _ _ h1⟩, ?_⟩
    refine ⟨_, rfl, _, rfl, a, C, dx, [], rfl, sm _ _ ha, T.cl, T.no, by decide, ?_⟩
    refine q1 ?_ _ (fun b o e n => ?_) upd_same
    · unfold bad
      rw [if_neg nL]
      refine fb_all L 0 fun j x hx => ?_
      rw [Nat.zero_add]
      refine hall j x ?_ hx
      rw [hlen2]
      exact (List.getElem?_eq_some_iff.mp hx).1
    · rw [upd_ne n]
      exact sm _ _ e
end
end Sea

set_option Elab.async false
set_option linter.all false
set_option maxRecDepth 100000
set_option maxHeartbeats 4000000
namespace Sea
open PySem PySem.Spec PyProof.Rows L2 LamX NdefX ClX Evl StX
structure TMk (K : PySem.W.Frag) (C fI fT : Addr) (fdI fdT : FuncData) : Prop where
  mkf : Mk K C fT
  fT : Fun K "__init__" "Tariff.__init__" sInit fT fdT
  fI : Fun K "__init__" "InvalidTariff.__init__" sIT fI fdI
/-- Tariff(..) of the passes vs -/
def spMk (K : PySem.W.Frag) (C cI : Addr) : Sp := fun vs H Q E => ∃ L : List (Int × Int), PsV K H vs L ∧ L.length ≤ 1000 ∧ (bad L = none → ∀ a p H', Same H H' → H a = none → Tar K C H' a p L → Q (.ref a) H') ∧
  (∀ i d H', bad L = some i → Same H H' → H' d = some (.xd [("index", .int (i : Nat))]) → E (.ref cI) (some d) H')
section
variable {P : Program} {w : World} {K : PySem.W.Frag} {mg : Str → Option Value} {base : Heap} {C cI cU cP fI fT fP pP : Addr} {mc mp : Value} {fdP fdI fdT : FuncData}
theorem ok_init (T : TX K mg C cI cU cP fI mc mp) (I : TMk K C fI fT fdI fdT) : FnR P w K mg base (L2.CX P w) 4 fT (fun vs H Q E => ∃ ws rest, vs = ws ++ rest ∧ ws.length = ["self"].length ∧ rest.length ≤ sizeLine ∧ ∀ p, H p = Option.none → spInit K C cI (ws ++ [V.ref p]) (upd H p (.tup rest)) Q E) := by
  obtain ⟨oc, od, kV, doc, pm, an, cdv, ct, osl, rfl, lk, hcd⟩ := I.fT.ex
  refine fn_star (ps := ["self"]) (pv := "passes") lk hcd scInit cxUp (fun us rest hl => ?_) fun A outer s H vs Q E hr h => ok_init_body (X := cxOf (L2.CX P w) P w K mg base ["self"] "Tariff.__init__" (defScope sInit) fT cdv A outer s H E) rfl I.fI T hr h
  match us, hl with
  | [u], _ =>
    unfold bindArgs
    have e : ∀ b : Bool, (b && (defArgs sInit).vararg.isNone) = false := fun b => by
      rw [show (defArgs sInit).vararg.isNone = false from rfl, Bool.and_false]
    show _ = _
    simp only [PySem.W.fnOf, e]
    rfl
theorem mk_in {vs : List V} {H : Hp} {Q : VK} {E : XK} (h : spMk K C cI vs H Q E) : ∀ x dx, H x = Option.none → H dx = Option.none → dx ≠ x → (fun vs H Q E => ∃ ws rest, vs = ws ++ rest ∧ ws.length = ["self"].length ∧ rest.length ≤ sizeLine ∧ ∀ p, H p = Option.none → spInit K C cI (ws ++ [V.ref p]) (upd H p (.tup rest)) Q E)
    (V.ref x :: vs) (upd (upd H dx (.own x)) x (.ins C dx [])) (fun v H2 => v = .non ∧ Q (.ref x) H2) E := by
  obtain ⟨L, hL, hlen, q1, q2⟩ := h
  intro x dx nx ndx nex
  have s0 : Same H (upd (upd H dx (.own x)) x (.ins C dx [])) := fun b o e => by
    rw [upd_ne (ne_of_none e nx), upd_ne (ne_of_none e ndx)]
    exact e
  refine ⟨[.ref x], vs, rfl, rfl, Nat.le_of_lt (small1000 (by rw [hL.len]; exact hlen)), fun p np => ?_⟩
  have npx : x ≠ p := fun e => by
    rw [← e, upd_same] at np
    cases np
  have s1 := s0.trans (same_new (o := .tup vs) np)
  have hp : SqT K (upd (upd (upd H dx (.own x)) x (.ins C dx [])) p (.tup vs)) p vs := .of upd_same
  refine ⟨x, p, dx, L, rfl, by rw [upd_ne npx, upd_same], ⟨p, vs, rfl, hp, hL.tk (.same s1)⟩, hlen, fun hb H' hk hx => ⟨rfl, q1 hb x p H' (fun b o e => hk b o (s1 b o e) (ne_of_none e nx)) nx ⟨⟨dx, hx⟩, p, vs, rfl, ?_, (hL.tk (.same s1)).tk ?_⟩⟩, fun i d H' hb sm hd => q2 i d H' hb (s1.trans sm) hd⟩
  · exact .of (hk _ _ upd_same npx.symm)
  · exact .but (fun b => b = x) (fun b o e n => hk b o e n) fun b xs z => by
      rw [z]
      refine Rd.ins_no (C := C) (dx := dx) (fs := []) ?_
      rw [upd_ne npx, upd_same]
section
variable {X : Cx} {e : Expr} {es : List Expr} {te : TE} {t : TA} {E : XK} {p pos spos : Pos}
theorem pe_tar (T : TX X.K X.mg C cI cU cP fI mc mp) (I : TMk X.K C fI fT fdI fdT) (hr : Room 5 X.A) (hx : Passes (L2.CX X.prog X.w) X E) (hg : Gl X "Tariff") (ha : PA X (e :: es) t)
    (he : starEach (e :: es) X.env = (false, eval e X.env) :: starEach es X.env := by rfl) (hpl : (backTo pos (starEach es X.env)).any (·.1) = false := by rfl) :
    PE X (.Call (.Name "Tariff" p) (e :: es) [] pos) (fun σ H Q => t σ H fun vs H1 => spMk X.K C cI vs H1 Q E) := by
  refine ⟨fun pins s σ H Q J h => ?_⟩
  refine wpAny_Call_Name_kw (ld_glob J hg T.gC ?_ (by decide))
  exact PySem.W.callWith_K (h₀ := X.base) J.ok.mod.kin I.mkf.kp (thn (ha.run pos pins s σ H _ J h) fun us s1 ⟨vs, H1, I1, r, q⟩ => ⟨I1.kIn, run_makeR I.mkf (ok_init T I) hr hx I1 r (mk_in q)⟩) he hpl
theorem pe_tarS (T : TX X.K X.mg C cI cU cP fI mc mp) (I : TMk X.K C fI fT fdI fdT) (hr : Room 5 X.A) (hx : Passes (L2.CX X.prog X.w) X E) (hg : Gl X "Tariff") (he : PE X e te)
    (hst : starEach [.Starred e spos] X.env = [(true, eval e X.env)] := by rfl) :
    PE X (.Call (.Name "Tariff" p) [.Starred e spos] [] pos) (fun σ H Q => te σ H fun y H1 => ∃ a xs, y = V.ref a ∧ SqT X.K H1 a xs ∧ spMk X.K C cI xs H1 Q E) := by
  refine ⟨fun pins s σ H Q J h => ?_⟩
  refine wpAny_Call_Name_kw (ld_glob J hg T.gC ?_ (by decide))
  refine PySem.W.callWith_S (h₀ := X.base) J.ok.mod.kin I.mkf.kp (thn (he.run pins s σ H _ J h) fun v s1 hh => ?_) hst
  obtain ⟨y, H1, I1, ry, a, xs, ey, hxs, q⟩ := hh
  subst ey
  obtain rfl : v = Value.ref a := ry
  exact star_any I1 (.inl hxs) fun us s2 I2 rv => ⟨I2.kIn, run_makeR I.mkf (ok_init T I) hr hx I2 rv (mk_in q)⟩
end
end
end Sea

set_option Elab.async false
set_option linter.all false
set_option maxRecDepth 100000
set_option maxHeartbeats 4000000
namespace Sea
open PySem PySem.Spec PyProof.Rows L2 LamX NdefX ClX Evl StX
theorem scLengths : FnScope ["self", "length", "price"] ["self"] (defScope sLengths) := ⟨rfl, rfl, rfl, by decide +kernel, rfl, by decide +kernel, by decide +kernel⟩
theorem scPrices : FnScope ["self", "length", "price"] ["self"] (defScope sPrices) := ⟨rfl, rfl, rfl, by decide +kernel, rfl, by decide +kernel, by decide +kernel⟩
/-- a new tuple of one number of each pass -/
def spCol (K : PySem.W.Frag) (C : Addr) (f : Int × Int → Int) : Sp := fun vs H Q _ => ∃ (a p : Addr) (L : List (Int × Int)), vs = [.ref a] ∧ Tar K C H a p L ∧ L.length ≤ 1000 ∧ ∀ q H', Same H H' → H' q = some (.tup (L.map fun x => .int (f x))) → Q (.ref q) H'
theorem take_snoc {α : Type} {L : List α} {i : Nat} {x : α} (h : L[i]? = some x) : L.take (i + 1) = L.take i ++ [x] := by
  rw [List.take_add_one, h]
  rfl
section
variable {P : Program} {w : World} {K : PySem.W.Frag} {mg : Str → Option Value} {base : Heap} {C cI cU cP fI fT fP pP : Addr} {mc mp : Value} {fdP fdI fdT : FuncData}
theorem ok_lengths {f : Addr} {fd : FuncData} {k : Nat} (F : Fun K "lengths" "Tariff.lengths" sLengths f fd) (T : TX K mg C cI cU cP fI mc mp) : FnOk P w K mg base CX0 (k + 1) f fd ["self"] (spCol K C Prod.fst) := by
  refine F.ok scLengths (fun vs H Q E h => ?_) (fun cdv A outer s H vs Q E hr h => ?_)
  · obtain ⟨a, p, L, rfl, _⟩ := h
    rfl
  · obtain ⟨a, p, L, rfl, ht, hlen, q⟩ := h
    refine ⟨_, pss_one (ps_ret (pe_callTy call_tuple_of (by rfl) T.mT (by rfl) (pa_cons (pe_lc (own := [("length", 1), ("price", 2)]) (g := gTup K 2 (gCons (gName 1) (gCons (gName 2) gNil))) (by rfl) scLengths.nd (pi_tup (pe_fld (pv 0) rfl))
      (blkOk_by (own := [("length", 1), ("price", 2)]) (N := ["self", "length", "price"]) (sc := defScope sLengths) (by decide +kernel))
      (fun _ _ _ _ _ => pg_tup rfl (pgs_cons (pg_name (i := 1) scLengths.nd rfl (Or.inl rfl)) (pgs_cons (pg_name (i := 2) scLengths.nd rfl (Or.inl rfl)) pgs_nil))) (fun _ _ _ _ _ => pts_nil) (fun _ _ _ _ _ => pv 1)) pa_nil))), ?_⟩
    obtain ⟨vs, h1, hl, hv⟩ := ht.len_eq
    obtain ⟨⟨dx, ha⟩, _⟩ := ht
    refine ⟨_, rfl, a, C, dx, _, _, rfl, ha, T.cl, T.no, rfl, p, rfl, ?_⟩
    refine ⟨⟨vs, h1⟩, fun D nD => ?_⟩
    have nDb : ∀ {b : Addr} {o : HO}, H b = some o → b ≠ D := fun e => ne_of_none e nD
    refine lc_tup (K := K) (a := p) (xs := vs) (fun i H' => Same H H' ∧ H' D = some (.lst ((L.take i).map fun x => V.int x.1))) ⟨same_new nD, upd_same⟩ (fun i H' _ z => (TK.same z.1) _ _ h1) ?_ ?_
    · rintro i x H' hx ⟨sm, hD⟩
      obtain ⟨⟨l, pr⟩, hLi, b, rfl, hb⟩ := hv.get hx
      refine ⟨b, _, rfl, (TK.same sm) _ _ hb, rfl, _, _, rfl, _, _, rfl, rfl, rfl, ?_⟩
      refine iteT (B := True) ?_
      refine ⟨_, rfl, _, hD, ?_, ?_, ?_⟩
      · rw [List.length_map, List.length_take]
        exact Nat.lt_of_le_of_lt (Nat.min_le_right _ _) (small1000 hlen)
      · intro c o e
        rw [upd_ne (nDb e)]
        exact sm _ _ e
      · rw [upd_same, take_snoc hLi, List.map_append]
        rfl
    · rintro H' ⟨sm, hD⟩
      refine ⟨D, _, rfl, .inl ⟨.of hD, fun l nl => q l _ (sm.trans (same_new nl)) ?_⟩⟩
      rw [upd_same, hl, List.take_length]
theorem ok_prices {f : Addr} {fd : FuncData} {k : Nat} (F : Fun K "prices" "Tariff.prices" sPrices f fd) (T : TX K mg C cI cU cP fI mc mp) : FnOk P w K mg base CX0 (k + 1) f fd ["self"] (spCol K C Prod.snd) := by
  refine F.ok scPrices (fun vs H Q E h => ?_) (fun cdv A outer s H vs Q E hr h => ?_)
  · obtain ⟨a, p, L, rfl, _⟩ := h
    rfl
  · obtain ⟨a, p, L, rfl, ht, hlen, q⟩ := h
    refine ⟨_, pss_one (ps_ret (pe_callTy call_tuple_of (by rfl) T.mT (by rfl) (pa_cons (pe_lc (own := [("length", 1), ("price", 2)]) (g := gTup K 2 (gCons (gName 1) (gCons (gName 2) gNil))) (by rfl) scPrices.nd (pi_tup (pe_fld (pv 0) rfl))
      (blkOk_by (own := [("length", 1), ("price", 2)]) (N := ["self", "length", "price"]) (sc := defScope sPrices) (by decide +kernel))
      (fun _ _ _ _ _ => pg_tup rfl (pgs_cons (pg_name (i := 1) scPrices.nd rfl (Or.inl rfl)) (pgs_cons (pg_name (i := 2) scPrices.nd rfl (Or.inl rfl)) pgs_nil))) (fun _ _ _ _ _ => pts_nil) (fun _ _ _ _ _ => pv 2)) pa_nil))), ?_⟩
    obtain ⟨vs, h1, hl, hv⟩ := ht.len_eq
    obtain ⟨⟨dx, ha⟩, _⟩ := ht
    refine ⟨_, rfl, a, C, dx, _, _, rfl, ha, T.cl, T.no, rfl, p, rfl, ?_⟩
    refine ⟨⟨vs, h1⟩, fun D nD => ?_⟩
    have nDb : ∀ {b : Addr} {o : HO}, H b = some o → b ≠ D := fun e => ne_of_none e nD
    refine lc_tup (K := K) (a := p) (xs := vs) (fun i H' => Same H H' ∧ H' D = some (.lst ((L.take i).map fun x => V.int x.2))) ⟨same_new nD, upd_same⟩ (fun i H' _ z => (TK.same z.1) _ _ h1) ?_ ?_
    · rintro i x H' hx ⟨sm, hD⟩
      obtain ⟨⟨l, pr⟩, hLi, b, rfl, hb⟩ := hv.get hx
      refine ⟨b, _, rfl, (TK.same sm) _ _ hb, rfl, _, _, rfl, _, _, rfl, rfl, rfl, ?_⟩
      refine iteT (B := True) ?_
      refine ⟨_, rfl, _, hD, ?_, ?_, ?_⟩
      · rw [List.length_map, List.length_take]
        exact Nat.lt_of_le_of_lt (Nat.min_le_right _ _) (small1000 hlen)
      · intro c o e
        rw [upd_ne (nDb e)]
        exact sm _ _ e
      · rw [upd_same, take_snoc hLi, List.map_append]
        rfl
    · rintro H' ⟨sm, hD⟩
      refine ⟨D, _, rfl, .inl ⟨.of hD, fun l nl => q l _ (sm.trans (same_new nl)) ?_⟩⟩
      rw [upd_same, hl, List.take_length]
end
end Sea

set_option Elab.async false
set_option linter.all false
set_option maxRecDepth 100000
set_option maxHeartbeats 4000000
namespace Sea
open PySem PySem.Spec PyProof.Rows L2 LamX NdefX ClX Evl StX
/-- evaluates to a value of which P holds, all kept -/
def EvD (te : TE) (σ : L2.St) (H : Hp) (P : V → Hp → Prop) : Prop := ∀ H1, Ex H H1 → ∀ Q : VK, (∀ v H2, Ex H1 H2 → P v H2 → Q v H2) → te σ H1 Q
theorem EvD.mono {te : TE} {σ : L2.St} {H H' : Hp} {P : V → Hp → Prop} (e : Ex H H') (h : EvD te σ H P) : EvD te σ H' P := fun H1 a Q q => h H1 (e.trans a) Q q
theorem ed_of {te : TE} {σ : L2.St} {H : Hp} {v : V} {P : V → Hp → Prop} (h : Ev te σ H v) (hp : ∀ H2, Ex H H2 → P v H2) : EvD te σ H P := fun H1 e Q q => h H1 e _ fun H2 e2 => q v H2 e2 (hp H2 (e.trans e2))
def cutP {α : Type} (xs : List α) (lo hi : Option Int) : List α := (xs.drop (HT.sIx xs.length 0 lo)).take (HT.sIx xs.length xs.length hi - HT.sIx xs.length 0 lo)
theorem PsV.cut {K : PySem.W.Frag} {H : Hp} {vs : List V} {L : List (Int × Int)} (h : PsV K H vs L) (lo hi : Option Int) : PsV K H (cutV vs lo hi) (cutP L lo hi) := by
  unfold cutV cutP
  rw [h.len]
  exact (h.drop _).take _
theorem cutP_all {α : Type} (xs : List α) (lo hi : Option Int) (h : HT.sIx xs.length 0 lo = 0 ∧ HT.sIx xs.length xs.length hi = xs.length) : cutP xs lo hi = xs := by
  unfold cutP
  rw [h.1, h.2, List.drop_zero, Nat.sub_zero, List.take_length]
theorem cutP_to {α : Type} (xs : List α) (k : Nat) : cutP xs none (some ((k : Nat) : Int)) = xs.take k := by
  unfold cutP
  rw [HT.sIx_none, HT.sIx_nat, List.drop_zero, Nat.sub_zero]
  by_cases h : k ≤ xs.length
  · rw [Nat.min_eq_left h]
  · rw [Nat.min_eq_right (by omega), List.take_of_length_le (Nat.le_refl _), List.take_of_length_le (by omega)]
theorem cutP_from {α : Type} (xs : List α) (k : Nat) : cutP xs (some ((k : Nat) : Int)) none = xs.drop k := by
  unfold cutP
  rw [HT.sIx_none, HT.sIx_nat]
  by_cases h : k ≤ xs.length
  · rw [Nat.min_eq_left h, List.take_of_length_le (by rw [List.length_drop]; exact Nat.le_refl _)]
  · rw [Nat.min_eq_right (by omega), Nat.sub_self, List.take_zero, List.drop_eq_nil_of_le (by omega)]
section
variable {K : PySem.W.Frag} {te ta tb tx ty : TE} {tl th : L2.TO} {σ : L2.St} {H : Hp} {L M : List (Int × Int)} {lo hi : Option Int}
theorem ed_sl (h : EvD te σ H fun v H => PsA K H v L) (h1 : ∀ H1, Ex H H1 → EvO tl σ H1 lo) (h2 : ∀ H1, Ex H H1 → EvO th σ H1 hi) : EvD (tSl (rSlA K) te tl th) σ H fun v H => PsA K H v (cutP L lo hi) := fun H1 e Q q =>
  h H1 e _ fun v H2 e2 hv => h1 H2 (e.trans e2) H2 (Ex.refl _) _ fun H3 e3 => h2 H3 ((e.trans e2).trans e3) H3 (Ex.refl _) _ fun H4 e4 => by
    obtain ⟨a, vs, rfl, ha, hvs⟩ := hv.tk (.same (e3.trans e4))
    refine ⟨a, vs, rfl, ha, fun hw => q _ _ (e2.trans (e3.trans e4)) ⟨a, vs, rfl, ha, ?_⟩, fun _ p np => q _ _ ((e2.trans (e3.trans e4)).trans (Ex.new np)) ⟨p, _, rfl, .of upd_same, (hvs.cut lo hi).tk (.new np)⟩⟩
    rw [hvs.len] at hw
    rw [cutP_all L lo hi hw]
    exact hvs
theorem ed_cat (h1 : EvD ta σ H fun v H => PsA K H v L) (h2 : EvD tb σ H fun v H => PsA K H v M) (hz : L.length + M.length ≤ 1000) : EvD (tOp (rCatA K) ta tb) σ H fun v H => PsA K H v (L ++ M) := fun H1 e Q q =>
  h1 H1 e _ fun v H2 e2 hv => h2 H2 (e.trans e2) _ fun u H3 e3 hu => by
    obtain ⟨a, vs, rfl, ha, hvs⟩ := hv.tk (.same e3)
    obtain ⟨b, us, rfl, hb, hus⟩ := hu
    refine ⟨a, b, vs, us, rfl, rfl, ha, hb, Nat.le_of_lt (small1000 (by rw [hvs.len, hus.len]; exact hz)), fun z => q _ _ (e2.trans e3) ⟨b, us, rfl, hb, ?_⟩, fun _ z => q _ _ (e2.trans e3) ⟨a, vs, rfl, ha, ?_⟩, fun _ _ p np => q _ _ ((e2.trans e3).trans (Ex.new np)) ⟨p, _, rfl, .of upd_same, (hvs.app hus).tk (.new np)⟩⟩
    · subst z
      cases hvs
      exact hus
    · subst z
      cases hus
      rw [List.append_nil]
      exact hvs
theorem ed_one {l pr : Int} (h1 : ∀ H1, Ex H H1 → Ev tx σ H1 (.int l)) (h2 : ∀ H1, Ex H H1 → Ev ty σ H1 (.int pr)) : EvD (tTup (tCons (tTup (tCons tx (tCons ty tNil))) tNil)) σ H fun v H => PsA K H v [(l, pr)] := fun H1 e Q q =>
  h1 H1 e H1 (Ex.refl _) _ fun H2 e2 => h2 H2 (e.trans e2) H2 (Ex.refl _) _ fun H3 e3 => by
    refine ⟨Nat.le_of_lt (small1000 (show 2 ≤ 1000 by decide)), fun p np => ⟨Nat.le_of_lt (small1000 (show 1 ≤ 1000 by decide)), fun r nr => ?_⟩⟩
    have npr : p ≠ r := fun z => by
      rw [← z, upd_same] at nr
      cases nr
    refine q _ _ (((e2.trans e3).trans (Ex.new np)).trans (Ex.new nr)) ⟨r, _, rfl, .of upd_same, .cons ⟨p, rfl, .of ?_⟩ .nil⟩
    rw [upd_ne npr, upd_same]
theorem ed_oneV {x : Int × Int} (h1 : EvD tx σ H fun v H => PrV K H v x) : EvD (tTup (tCons tx tNil)) σ H fun v H => PsA K H v [x] := fun H1 e Q q =>
  h1 H1 e _ fun v H2 e2 hv => ⟨Nat.le_of_lt (small1000 (show 1 ≤ 1000 by decide)), fun p np => q _ _ (e2.trans (Ex.new np)) ⟨p, _, rfl, .of upd_same, .cons (hv.tk (.new np)) .nil⟩⟩
theorem q_asgD {tz : TS} {D : Ends} {i : Nat} {P : V → Hp → Prop} (h : EvD te σ H P) (k : ∀ v H1, Ex H H1 → P v H1 → tz D (σ.set i (some v)) H1) : tSeq (tAsg te (gName i)) tz D σ H := h H (Ex.refl H) _ fun v H1 e p => k v H1 e p
theorem s_retD {D : Ends} {P : V → Hp → Prop} (h : EvD te σ H P) (k : ∀ v H1, Ex H H1 → P v H1 → D.rt v H1) : tRet te D σ H := h H (Ex.refl H) _ k
end
end Sea

set_option Elab.async false
set_option linter.all false
set_option maxRecDepth 100000
set_option maxHeartbeats 4000000
namespace Sea
open PySem PySem.Spec PyProof.Rows L2 LamX NdefX ClX Evl StX
theorem scWithout : FnScope ["self", "index", "rest"] ["self", "index"] (defScope sWithout) := ⟨rfl, rfl, rfl, by decide +kernel, rfl, by decide +kernel, by decide +kernel⟩
theorem scWithPrice : FnScope ["self", "index", "price", "changed"] ["self", "index", "price"] (defScope sWithPrice) := ⟨rfl, rfl, rfl, by decide +kernel, rfl, by decide +kernel, by decide +kernel⟩
theorem scSingle : FnScope ["cls", "price"] ["cls", "price"] (defScope sSingle) := ⟨rfl, rfl, rfl, by decide +kernel, rfl, by decide +kernel, by decide +kernel⟩
/-- a tariff of the passes M, or what is wrong with them -/
def gM (K : PySem.W.Frag) (C cI : Addr) (H : Hp) (M : List (Int × Int)) (Q : VK) (E : XK) : Prop := (bad M = none → ∀ a p H', Same H H' → H a = none → Tar K C H' a p M → Q (.ref a) H') ∧
  (∀ i d H', bad M = some i → Same H H' → H' d = some (.xd [("index", .int (i : Nat))]) → E (.ref cI) (some d) H')
theorem gM.up {K : PySem.W.Frag} {C cI : Addr} {H H1 : Hp} {M : List (Int × Int)} {Q : VK} {E : XK} (h : gM K C cI H M Q E) (s : Same H H1) : gM K C cI H1 M Q E :=
  ⟨fun b a p H' s' n t => h.1 b a p H' (s.trans s') (s.free n) t, fun i d H' b s' e => h.2 i d H' b (s.trans s') e⟩
theorem gM.mk {K : PySem.W.Frag} {C cI : Addr} {H : Hp} {M : List (Int × Int)} {Q : VK} {E : XK} {vs : List V} (h : gM K C cI H M Q E) (hv : PsV K H vs M) (hl : M.length ≤ 1000) : spMk K C cI vs H Q E := ⟨M, hv, hl, h.1, h.2⟩
/-- validate_pass, for its callers -/
structure TV (K : PySem.W.Frag) (mg : Str → Option Value) (fV : Addr) (fdV : FuncData) : Prop where
  g : mg "validate_pass" = some (.ref fV)
  kp : PySem.W.keepIn K (.ref fV) = true
  fu : Fun K "validate_pass" "validate_pass" sValid fV fdV
theorem TV.b {K : PySem.W.Frag} {mg : Str → Option Value} {fV : Addr} {fdV : FuncData} (T : TV K mg fV fdV) : Binds K fdV ["tariff", "index"] [] := T.fu.binds (ps := ["tariff", "index"]) fun _ _ _ _ _ _ us hl => match us, hl with | [_, _], _ => rfl
def spWithout (K : PySem.W.Frag) (C cI cU : Addr) : Sp := fun vs H Q E => ∃ (a p : Addr) (i : Int) (L : List (Int × Int)), vs = [.ref a, .int i] ∧ Tar K C H a p L ∧ L.length ≤ 900 ∧ (¬ (0 ≤ i ∧ i < L.length) → ∀ H', Same H H' → E (.ref cU) none H') ∧
  (∀ k : Nat, i = k → k < L.length → gM K C cI H (L.take k ++ L.drop (k + 1)) Q E)
def spWithPrice (K : PySem.W.Frag) (C cI cU : Addr) : Sp := fun vs H Q E => ∃ (a p : Addr) (i z : Int) (L : List (Int × Int)), vs = [.ref a, .int i, .int z] ∧ Tar K C H a p L ∧ L.length ≤ 900 ∧ (¬ (0 ≤ i ∧ i < L.length) → ∀ H', Same H H' → E (.ref cU) none H') ∧
  (0 ≤ i → i < L.length → ¬ (1 ≤ z ∧ z ≤ 1000000) → ∀ d H', Same H H' → H' d = some (.xd [("index", .int i)]) → E (.ref cI) (some d) H') ∧
  (∀ (k : Nat) (x : Int × Int), i = k → L[k]? = some x → 1 ≤ z → z ≤ 1000000 → gM K C cI H (L.take k ++ [(x.1, z)] ++ L.drop (k + 1)) Q E)
def spSingle (K : PySem.W.Frag) (C cI : Addr) : Sp := fun vs H Q E => ∃ z : Int, vs = [.ref C, .int z] ∧ gM K C cI H [(1, z)] Q E
section
variable {X : Cx} {e : Expr} {es : List Expr} {te : TE} {t : TA} {E : XK} {p pos spos : Pos} {C cI cU cP fI fT : Addr} {mc mp : Value} {fdI fdT : FuncData}
/-- cls(e, ..), a local that holds the class -/
theorem pe_tarL {i : Nat} {x : Str} (T : TX X.K X.mg C cI cU cP fI mc mp) (I : TMk X.K C fI fT fdI fdT) (hr : Room 5 X.A) (hx : Passes (L2.CX X.prog X.w) X E) (hN : X.N[i]? = some x) (hv : Vis X.env.scope x) (ha : PA X (e :: es) t)
    (hdb : (x == ("__debug__" : Str)) = false := by decide) (hcd : (x == ("__classdict__" : Str)) = false := by decide)
    (he : starEach (e :: es) X.env = (false, eval e X.env) :: starEach es X.env := by rfl) (hpl : (backTo pos (starEach es X.env)).any (·.1) = false := by rfl) :
    PE X (.Call (.Name x p) (e :: es) [] pos) (fun σ H Q => σ[i]? = some (some (.ref C)) ∧ t σ H fun vs H1 => spMk X.K C cI vs H1 Q E) := by
  constructor
  intro pins s σ H Q J ⟨slot, args⟩
  refine wpAny_Call_Name_kw (name_at hN hv hdb hcd J slot ?_)
  rintro u s0 (rfl : u = .ref C) I0
  exact PySem.W.callWith_K (h₀ := X.base) J.ok.mod.kin I.mkf.kp (thn (ha.run pos pins s0 σ H _ I0 args) fun us s1 ⟨vs, H1, I1, r, q⟩ => ⟨I1.kIn, run_makeR I.mkf (ok_init T I) hr hx I1 r (mk_in q)⟩) he hpl
/-- Tariff() -/
theorem pe_tar0 (T : TX X.K X.mg C cI cU cP fI mc mp) (I : TMk X.K C fI fT fdI fdT) (hr : Room 5 X.A) (hx : Passes (L2.CX X.prog X.w) X E) (hg : Gl X "Tariff") : PE X (.Call (.Name "Tariff" p) [] [] pos) (fun σ H Q => spMk X.K C cI [] H Q E) := by
  refine ⟨fun pins s σ H Q J h => ?_⟩
  refine wpAny_Call_Name_kw (ld_glob J hg T.gC ?_ (by decide))
  exact PySem.W.callWith_K0 J.kIn I.mkf.kp (run_makeR I.mkf (ok_init T I) hr hx J .nil (mk_in h))
end
section
variable {P : Program} {w : World} {K : PySem.W.Frag} {mg : Str → Option Value} {base : Heap} {C cI cU cP fI fT fP pP fV : Addr} {mc mp : Value} {fdP fdI fdT fdV : FuncData}
theorem ok_single {f : Addr} {fd : FuncData} (F : Fun K "single" "Tariff.single" sSingle f fd) (T : TX K mg C cI cU cP fI mc mp) (I : TMk K C fI fT fdI fdT) : FnOk P w K mg base (L2.CX P w) 6 f fd ["cls", "price"] (spSingle K C cI) := by
  refine F.okX scSingle (fun vs H Q E h => ?_) (fun cdv A outer s H vs Q E hr h => ?_)
  · obtain ⟨z, rfl, _⟩ := h
    rfl
  · obtain ⟨z, rfl, hg⟩ := h
    refine ⟨_, pss_one (ps_ret (pe_tarL (i := 0) (E := E) T I hr (passes_call (takes_of rfl rfl rfl rfl) (fun _ _ _ _ h => h)) rfl (.inl rfl) (pa_cons (pe_tup (pa_cons pe_int (pa_cons (pv 1) pa_nil))) pa_nil))), ?_⟩
    refine ⟨rfl, _, rfl, Nat.le_of_lt (small1000 (show 2 ≤ 1000 by decide)), fun p np => ?_⟩
    exact (hg.up (same_new np)).mk (.cons ⟨p, rfl, .of upd_same⟩ .nil) (show 1 ≤ 1000 by decide)
theorem ev_off {σ : L2.St} {H : Hp} {a p dx : Addr} {i : Nat} (c : Cls K C) (n : NoAttr K C "offers") (ha : H a = some (.ins C dx [("offers", .ref p)])) (hs : σ[i]? = some (some (.ref a))) : Ev (tFld K (tVar i) "offers") σ H (.ref p) := fun H1 e Q q =>
  ⟨.ref a, hs, a, C, dx, _, .ref p, rfl, e _ _ ha, c, n, rfl, q H1 (Ex.refl _)⟩
theorem ed_off {σ : L2.St} {H : Hp} {a p : Addr} {i : Nat} {L : List (Int × Int)} (c : Cls K C) (n : NoAttr K C "offers") (ht : Tar K C H a p L) (hs : σ[i]? = some (some (.ref a))) : EvD (tFld K (tVar i) "offers") σ H fun v H => PsA K H v L := by
  obtain ⟨⟨dx, ha⟩, hp⟩ := ht
  exact ed_of (ev_off c n ha hs) fun H2 e => hp.tk (.same e)
theorem ok_without {f : Addr} {fd : FuncData} (F : Fun K "without" "Tariff.without" sWithout f fd) (T : TX K mg C cI cU cP fI mc mp) (I : TMk K C fI fT fdI fdT) (TQ : TP K C fP pP fdP) (V' : TV K mg fV fdV) : FnOk P w K mg base (L2.CX P w) 6 f fd ["self", "index"] (spWithout K C cI cU) := by
  refine F.okX scWithout (fun vs H Q E h => ?_) (fun cdv A outer s H vs Q E hr h => ?_)
  · obtain ⟨a, p, i, L, rfl, _⟩ := h
    rfl
  · obtain ⟨a, p, i, L, rfl, ht, hlen, q1, q2⟩ := h
    refine ⟨_, pss_cons (ps_expr (pe_call (E := E) (ok_valid (k := 2) V'.fu T TQ) hr (by rfl) V'.g V'.kp V'.b .nil (passes_call (takes_of rfl rfl rfl rfl) (fun _ _ _ _ h => h)) (pa_cons (pv 0) (pa_cons (pv 1) pa_nil))))
      (pss_cons (ps_set (i := 2) scWithout.nd rfl (.inl rfl) (pe_op op_catA (pe_slice sl_tupA (pe_fld (pv 0) rfl) po_none (po_some (pv 1))) (pe_slice sl_tupA (pe_fld (pv 0) rfl) (po_some (pe_op op_add (pv 1) pe_int)) po_none)))
      (pss_one (ps_ret (pe_tarS (E := E) T I hr (passes_call (takes_of rfl rfl rfl rfl) (fun _ _ _ _ h => h)) (by rfl) (pv 2))))), ?_⟩
    refine ⟨_, rfl, _, rfl, a, p, i, L, rfl, ht, fun hb => ?_, fun nb => q1 nb H (Same.refl H)⟩
    obtain ⟨k, rfl⟩ := Int.eq_ofNat_of_zero_le hb.1
    have hk : k < L.length := by
      have := hb.2
      omega
    dsimp only
    refine q_asgD (P := fun v H => PsA K H v (L.take k ++ L.drop (k + 1))) (ed_cat (L := L.take k) (M := L.drop (k + 1)) ?_ ?_ (by rw [List.length_take, List.length_drop]; omega)) fun v H2 e2 hv => ?_
    · rw [← cutP_to L k]
      exact ed_sl (ed_off T.cl T.no ht rfl) (fun _ _ => eo_none) fun _ _ => eo_some (ev_var rfl)
    · rw [← cutP_from L (k + 1)]
      exact ed_sl (ed_off T.cl T.no ht rfl) (fun _ _ => eo_some (ev_op (ev_var rfl) ev_c rv_I0)) fun _ _ => eo_none
    · obtain ⟨r, us, rfl, hr1, hr2⟩ := hv
      exact ⟨_, rfl, r, us, rfl, hr1, ((q2 k rfl hk).up e2).mk hr2 (by rw [List.length_append, List.length_take, List.length_drop]; omega)⟩
theorem ok_withPrice {f : Addr} {fd : FuncData} (F : Fun K "with_price" "Tariff.with_price" sWithPrice f fd) (T : TX K mg C cI cU cP fI mc mp) (I : TMk K C fI fT fdI fdT) (TQ : TP K C fP pP fdP) (V' : TV K mg fV fdV) : FnOk P w K mg base (L2.CX P w) 6 f fd ["self", "index", "price"] (spWithPrice K C cI cU) := by
  have GI : FnOk P w K mg base CX0 1 fI fdI ["self", "index"] (spX1 K "index") := ok_IT I.fI T
  have kb := kb_IT I.fI
  refine F.okX scWithPrice (fun vs H Q E h => ?_) (fun cdv A outer s H vs Q E hr h => ?_)
  · obtain ⟨a, p, i, z, L, rfl, _⟩ := h
    rfl
  · obtain ⟨a, p, i, z, L, rfl, ht, hlen, q1, q2, q3⟩ := h
    refine ⟨_, pss_cons (ps_expr (pe_call (E := E) (ok_valid (k := 2) V'.fu T TQ) hr (by rfl) V'.g V'.kp V'.b .nil (passes_call (takes_of rfl rfl rfl rfl) (fun _ _ _ _ h => h)) (pa_cons (pv 0) (pa_cons (pv 1) pa_nil))))
      (pss_cons (ps_if (pt_not (pt_chain op_le op_le pe_int (pv 2) (pe_clc (by rfl) T.gC T.cr T.v2))) (pss_one (ps_raise rfl (takes_of rfl rfl rfl rfl) (pmk_kw T.xI T.iI T.tI GI (hr.mono (by omega)) kb pass0 (by rfl) T.gI (pk_cons (pv 1) pk_nil)))) pss_nil)
      (pss_cons (ps_set (i := 3) scWithPrice.nd rfl (.inl rfl) (pe_op op_catA (pe_op op_catA (pe_slice sl_tupA (pe_fld (pv 0) rfl) po_none (po_some (pv 1))) (pe_tup (pa_cons (pe_tup (pa_cons (pe_ixt (pe_ixt (pe_fld (pv 0) rfl) (pv 1)) pe_int) (pa_cons (pv 2) pa_nil))) pa_nil))) (pe_slice sl_tupA (pe_fld (pv 0) rfl) (po_some (pe_op op_add (pv 1) pe_int)) po_none)))
      (pss_one (ps_ret (pe_tarS (E := E) T I hr (passes_call (takes_of rfl rfl rfl rfl) (fun _ _ _ _ h => h)) (by rfl) (pv 3)))))), ?_⟩
    refine ⟨_, rfl, _, rfl, a, p, i, L, rfl, ht, fun hb => ?_, fun nb => q1 nb H (Same.refl H)⟩
    obtain ⟨k, rfl⟩ := Int.eq_ofNat_of_zero_le hb.1
    have hk : k < L.length := by
      have := hb.2
      omega
    obtain ⟨vs, h1, hl, hv⟩ := ht.len_eq
    obtain ⟨dx, ha⟩ := ht.1
    obtain ⟨x, hx, b, hb1, hb2⟩ := hv.get (List.getElem?_eq_getElem (show k < vs.length by rw [hl]; exact hk))
    have hix : atI vs ((k : Nat) : Int) = some (.ref b) := by
      unfold atI
      rw [ixN_nat (show k < vs.length by rw [hl]; exact hk)]
      show vs[k]? = _
      rw [List.getElem?_eq_getElem (show k < vs.length by rw [hl]; exact hk), hb1]
    dsimp only
    refine q_when (b := !(decide (1 ≤ z) && decide (z ≤ 1000000))) (et_not (et_test (ev_chainI (p := fun i j => decide (i ≤ j)) (q := fun i j => decide (i ≤ j)) ev_c (ev_var rfl) ev_c))) (fun hz H1 e1 => ?_) (fun hz H1 e1 => ?_)
    · refine ⟨_, rfl, mk1_in T.xI T.nI fun d hd => q2 hb.1 hb.2 (fun hc => ?_) d _ (Same.trans e1 (same_new hd)) upd_same⟩
      rw [decide_eq_true hc.1, decide_eq_true hc.2] at hz
      cases hz
    · have hz1 : 1 ≤ z ∧ z ≤ 1000000 := by
        have : (decide (1 ≤ z) && decide (z ≤ 1000000)) = true := by
          cases h : (decide (1 ≤ z) && decide (z ≤ 1000000)) with
          | true => rfl
          | false =>
            rw [h] at hz
            cases hz
        rw [Bool.and_eq_true] at this
        exact ⟨of_decide_eq_true this.1, of_decide_eq_true this.2⟩
      have ht1 : Tar K C H1 a p L := ⟨⟨dx, e1 _ _ ha⟩, ht.2.tk (.same e1)⟩
      refine q_asgD (P := fun v H => PsA K H v (L.take k ++ [(x.1, z)] ++ L.drop (k + 1))) (ed_cat (L := L.take k ++ [(x.1, z)]) (M := L.drop (k + 1)) (ed_cat (L := L.take k) (M := [(x.1, z)]) ?_ ?_ (by rw [List.length_take, List.length_singleton]; omega)) ?_ (by rw [List.length_append, List.length_take, List.length_drop, List.length_singleton]; omega)) fun v H2 e2 hv2 => ?_
      · rw [← cutP_to L k]
        exact ed_sl (ed_off T.cl T.no ht1 rfl) (fun _ _ => eo_none) fun _ _ => eo_some (ev_var rfl)
      · exact ed_one (fun H3 e3 => ev_op (ev_op (ev_off T.cl T.no ((Ex.trans e1 e3) _ _ ha) rfl) (ev_var rfl) (rv_ixT ((TK.same (Ex.trans e1 e3)) _ _ h1) hix)) ev_c (rv_ixT ((TK.same (Ex.trans e1 e3)) _ _ hb2) rfl)) fun H3 e3 => ev_var rfl
      · rw [← cutP_from L (k + 1)]
        exact ed_sl (ed_off T.cl T.no ht1 rfl) (fun _ _ => eo_some (ev_op (ev_var rfl) ev_c rv_I0)) fun _ _ => eo_none
      · obtain ⟨r, us, rfl, hr1, hr2⟩ := hv2
        exact ⟨_, rfl, r, us, rfl, hr1, ((q3 k x rfl hx hz1.1 hz1.2).up (Same.trans e1 e2)).mk hr2 (by rw [List.length_append, List.length_append, List.length_take, List.length_drop, List.length_singleton]; omega)⟩
end
end Sea

set_option Elab.async false
set_option linter.all false
set_option maxRecDepth 100000
set_option maxHeartbeats 4000000
namespace Sea
open PySem PySem.Spec PyProof.Rows L2 LamX NdefX ClX Evl StX
abbrev sBad : Stmt := top 21
theorem scBad : FnScope ["_law_passes_here", "_law_bad_here", "_law_k"] ["_law_passes_here"] (defScope sBad) := ⟨rfl, rfl, rfl, by decide +kernel, rfl, by decide +kernel, by decide +kernel⟩
def badK (L : List (Int × Int)) (k : Nat) : Bool := decide ((5 : Int) < (k : Int)) || (!(decide (1 ≤ (L.getD k (0, 0)).1) && decide ((L.getD k (0, 0)).1 ≤ 28)) || !(decide (1 ≤ (L.getD k (0, 0)).2) && decide ((L.getD k (0, 0)).2 ≤ 1000000)))
def opV : Option Nat → V
  | none => .non
  | some i => .int (i : Nat)
theorem badK_eq {L : List (Int × Int)} (h : L.length ≤ 7) {k : Nat} {x : Int × Int} (hx : L[k]? = some x) : badK L k = badI k x := by
  have hk := (List.getElem?_eq_some_iff.mp hx).1
  unfold badK badI okP
  rw [List.getD_eq_getElem?_getD, hx]
  have e : decide ((5 : Int) < (k : Int)) = decide (V.int ((k : Nat) : Int) = V.int 6) := by
    rw [dec_int, Bool.eq_iff_iff]
    simp
    omega
  rw [e]
  simp only [Option.getD_some, Bool.not_and, Bool.or_assoc]
theorem fb_filter (L : List (Int × Int)) (h : L.length ≤ 7) : ∀ n, n ≤ L.length → (((List.range n).filter (badK L)).head? = none ∧ ∀ j x, j < n → L[j]? = some x → badI j x = false) ∨ ∃ i x, ((List.range n).filter (badK L)).head? = some i ∧ L[i]? = some x ∧ badI i x = true ∧ ∀ j y, j < i → L[j]? = some y → badI j y = false := by
  intro n
  induction n with
  | zero => exact fun _ => .inl ⟨rfl, fun j x hj => absurd hj (Nat.not_lt_zero _)⟩
  | succ n ih =>
    intro hn
    obtain ⟨x, hx⟩ : ∃ x, L[n]? = some x := ⟨L[n], List.getElem?_eq_getElem (by omega)⟩
    have eb := badK_eq h hx
    rcases ih (by omega) with ⟨h1, h2⟩ | ⟨i, y, h1, h2, h3, h4⟩
    · have e0 : (List.range n).filter (badK L) = [] := List.head?_eq_none_iff.mp h1
      rw [List.range_succ, List.filter_append, e0, List.nil_append, List.filter_cons]
      cases hb : badK L n with
      | true =>
        rw [if_pos rfl]
        exact .inr ⟨n, x, rfl, hx, eb ▸ hb, h2⟩
      | false =>
        rw [if_neg (by decide)]
        refine .inl ⟨rfl, fun j y hj hy => ?_⟩
        by_cases hjn : j < n
        · exact h2 j y hjn hy
        · obtain rfl : j = n := by omega
          rw [hx] at hy
          cases hy
          rw [← eb]
          exact hb
    · refine .inr ⟨i, y, ?_, h2, h3, h4⟩
      rw [List.range_succ, List.filter_append, List.head?_append, h1]
      rfl
/-- the list, and what it says -/
theorem bad_list (L : List (Int × Int)) (h : L.length ≤ 7) : (if L = [] then some 0 else ((List.range L.length).filter (badK L)).head?) = bad L := by
  unfold bad
  by_cases e : L = []
  · rw [if_pos e, if_pos e]
  · rw [if_neg e, if_neg e]
    rcases fb_filter L h L.length (Nat.le_refl _) with ⟨h1, h2⟩ | ⟨i, x, h1, h2, h3, h4⟩
    · rw [h1, fb_all L 0 fun j x hx => by
        rw [Nat.zero_add]
        exact h2 j x (List.getElem?_eq_some_iff.mp hx).1 hx]
    · rw [h1, fb_at L 0 i x h2 (by rw [Nat.zero_add]; exact h3) fun j y hj hy => by
        rw [Nat.zero_add]
        exact h4 j y hj hy]
      rw [Nat.zero_add]
theorem pe_ixtK {X : Cx} {a b : Expr} {ta tb : TE} {pos : Pos} (K : PySem.W.Frag) (hK : X.K = K) (ha : PE X a ta) (hb : PE X b tb) (hs : PlainIx b := by exact fun _ _ => rfl) : PE X (.Subscript a b pos) (tOp (rIxT K) ta tb) := by
  subst hK
  exact pe_ix ix_tup ha hb hs
def spBad (K : PySem.W.Frag) : Sp := fun vs H Q _ => ∃ (v : V) (L : List (Int × Int)), vs = [v] ∧ PsA K H v L ∧ L.length ≤ 7 ∧ ∀ H', Same H H' → Q (opV (bad L)) H'
theorem rv_eqD {K : PySem.W.Frag} {x y : V} {H : Hp} {d e : PyData} (h1 : ∀ H1, Ex H H1 → Dp K H1 x d) (h2 : ∀ H1, Ex H H1 → Dp K H1 y e) (s1 : SeqAt.shaped d = true) (s2 : SeqAt.shaped e = true) : RV (rEqD K) x y H (.bl (PyData.eqv d e)) := fun H1 a Q q => ⟨d, e, h1 H1 a, h2 H1 a, s1, s2, q H1 (Ex.refl _)⟩
theorem rv_neD {K : PySem.W.Frag} {x y : V} {H : Hp} {d e : PyData} (h1 : ∀ H1, Ex H H1 → Dp K H1 x d) (h2 : ∀ H1, Ex H H1 → Dp K H1 y e) (s1 : SeqAt.shaped d = true) (s2 : SeqAt.shaped e = true) : RV (rNeD K) x y H (.bl (!PyData.eqv d e)) := fun H1 a Q q => ⟨d, e, h1 H1 a, h2 H1 a, s1, s2, q H1 (Ex.refl _)⟩
theorem intsDp {K : PySem.W.Frag} {H : Hp} : ∀ ns : List Int, DpAll K H (ns.map V.int) (ns.map PyData.int)
  | [] => .nil
  | n :: r => .cons (.int n) (intsDp r)
theorem ints_lay : ∀ ns : List Int, PyData.canLayAll0 (ns.map PyData.int) = true
  | [] => rfl
  | n :: r => by
    show (true && PyData.canLayAll0 (r.map PyData.int)) = true
    rw [ints_lay r]
    rfl
theorem ints_dep : ∀ ns : List Int, PyData.depthAll (ns.map PyData.int) = 0
  | [] => rfl
  | n :: r => by
    show max 0 (PyData.depthAll (r.map PyData.int)) = 0
    rw [ints_dep r]
    rfl
theorem ints_sh (ns : List Int) : SeqAt.shaped (.list (ns.map PyData.int)) = true := by
  show (PyData.canLayAll0 (ns.map PyData.int) && decide (PyData.depthAll (ns.map PyData.int) + 1 ≤ 64)) = true
  rw [ints_lay, ints_dep]
  rfl
section
variable {P : Program} {w : World} {K : PySem.W.Frag} {mg : Str → Option Value} {base : Heap}
theorem ok_bad {f : Addr} {fd : FuncData} {k : Nat} (F : Fun K "_law_bad" "_law_bad" sBad f fd) (mN : mg "len" = none) (mR : mg "range" = none) : FnOk P w K mg base CX0 (k + 1) f fd ["_law_passes_here"] (spBad K) := by
  refine F.ok scBad (fun vs H Q E h => ?_) (fun cdv A outer s H vs Q E hr h => ?_)
  · obtain ⟨v, L, rfl, _⟩ := h
    rfl
  · obtain ⟨v, L, rfl, hL, hlen, q⟩ := h
    have hu := hr.units
    refine ⟨_, pss_cons (ps_setLc (X := (cxOf CX0 P w K mg base ["_law_passes_here", "_law_bad_here", "_law_k"] "_law_bad" (defScope sBad) f cdv A outer s H E).nox) (i := 1) (own := [("_law_k", 2)]) (g := gName 2) (by rfl) scBad.nd rfl rfl (sw_true rfl rfl rfl (by decide +kernel)) (pi_range1 (by rfl) mR (pa_cons (pe_callB call_len_seq (by rfl) mN PySem.boot_len (pa_cons (pv 0) pa_nil)) pa_nil))
        (blkOk_by (own := [("_law_k", 2)]) (N := ["_law_passes_here", "_law_bad_here", "_law_k"]) (sc := defScope sBad) (by decide +kernel)) (fun _ _ _ _ _ => pg_name (i := 2) scBad.nd rfl (Or.inl rfl))
        (fun _ _ _ _ _ => pts_one (PW.pt (pw_or (pt_cmpR op_gt (pv 2) pe_int (nomark _)) (pw_or (pt_not (pt_chain op_le op_le pe_int (pe_ixtK K rfl (pe_ixtK K rfl (pv 0) (pv 2)) pe_int) pe_int)) (pw_or1 (pt_not (pt_chain op_le op_le pe_int (pe_ixtK K rfl (pe_ixtK K rfl (pv 0) (pv 2)) pe_int) (pe_op op_pow pe_int pe_int)))))))) (fun _ _ _ _ _ => pv 2))
      (pss_one (ps_ret (pe_ifExp (pt_cmpR (op_eqD hu) (pv 0) (pe_tup pa_nil) (nomark _)) pe_int (pe_ifExp (pt_cmpR (op_neD hu) (pv 1) (pe_lst pa_nil) (nomark _)) (pe_ixl (pv 1) pe_int) pe_non)))), ?_⟩
    obtain ⟨p, vs, rfl, hp, hv⟩ := hL
    have hll := hv.len
    have at_ : ∀ (i : Nat) (H1 : Hp), Ex H H1 → (i : Int) < (vs.length : Nat) → ∃ (x : Int × Int) (b : Addr), L[i]? = some x ∧ atI vs ((i : Nat) : Int) = some (.ref b) ∧ SqT K H1 b [.int x.1, .int x.2] := fun i H1 e hi => by
      have hi' : i < vs.length := by omega
      obtain ⟨x, hx, b, hb1, hb2⟩ := hv.get (List.getElem?_eq_getElem hi')
      refine ⟨x, b, hx, ?_, (TK.same e) _ _ hb2⟩
      unfold atI
      rw [ixN_nat hi']
      show vs[i]? = _
      rw [List.getElem?_eq_getElem hi', hb1]
    dsimp only
    refine q_asgL (el_lcR1 (n := ((vs.length : Nat) : Int)) (badK L) (fun k => .int (k : Nat)) (fun H1 e1 Q q => ⟨_, rfl, p, vs, rfl, .inr ((TK.same e1) _ _ hp), q H1 (Ex.refl _)⟩) ⟨by omega, by omega⟩ (fun x => rfl) (fun i H1 e1 hi => ?_) (fun i H1 e1 hi _ => ev_var rfl)) fun D H1 nD e1 hD => ?_
    · obtain ⟨x, b, hx, h1, h2⟩ := at_ i H1 e1 hi
      have hg : L.getD i (0, 0) = x := by
        rw [List.getD_eq_getElem?_getD, hx]
        rfl
      unfold badK
      rw [hg]
      have at1 : ∀ H2, Ex H1 H2 → SqT K H2 p vs := fun H2 e2 => (TK.same (Ex.trans e1 e2)) _ _ hp
      exact et_or (et_test (ev_op (ev_var rfl) ev_c rv_I0)) fun _ => et_or (et_not (et_test (ev_chainI (p := fun i j => decide (i ≤ j)) (q := fun i j => decide (i ≤ j)) ev_c (ev_op (ev_op (ev_var rfl) (ev_var rfl) (rv_ixT (at1 H1 (Ex.refl _)) h1)) ev_c (rv_ixT h2 rfl)) ev_c)))
        fun _ => et_not (et_test (ev_chainI (p := fun i j => decide (i ≤ j)) (q := fun i j => decide (i ≤ j)) ev_c (ev_op (ev_op (ev_var rfl) (ev_var rfl) (rv_ixT (at1 H1 (Ex.refl _)) h1)) ev_c (rv_ixT h2 rfl)) (ev_op ev_c ev_c (rv_I ⟨by decide, by decide, by decide⟩))))
    have hz : (((vs.length : Nat) : Int)).toNat = L.length := by
      rw [Int.toNat_natCast, hll]
    rw [hz] at hD
    have hgv : given L.length (badK L) (fun k => V.int ((k : Nat) : Int)) = (((List.range L.length).filter (badK L)).map fun k => ((k : Nat) : Int)).map V.int := by
      unfold given
      rw [List.map_map]
      rfl
    rw [hgv] at hD
    have hps : ∀ H2, Ex H1 H2 → PsA K H2 (.ref p) L := fun H2 e2 => ⟨p, vs, rfl, (TK.same (Ex.trans e1 e2)) _ _ hp, hv.tk (.same (Ex.trans e1 e2))⟩
    have hbl := bad_list L hlen
    refine s_ret (v := opV (bad L)) (ev_if (b := decide (L = [])) (et_is (et_test (ev_opU (xs := []) (ev_var rfl) (eu_tup ea_nil (by decide)) fun p2 H2 h2 e2 => rv_eqD (d := psD L) (e := psD []) (fun H3 e3 => (hps H3 (Ex.trans e2 e3)).dp) (fun H3 e3 => .tup (xs := []) (.of (e3 _ _ h2)) .nil) (psD_sh L) (psD_sh []))) (psD_eq L [])) (fun hb => ?_) (fun hb => ?_)) fun H2 e2 => q H2 (Same.trans e1 e2)
    · have e : L = [] := of_decide_eq_true hb
      refine ev_is ev_c ?_
      rw [← hbl, if_pos e]
      rfl
    · have ne : L ≠ [] := of_decide_eq_false hb
      rw [if_neg ne] at hbl
      cases hns : (List.range L.length).filter (badK L) with
      | nil =>
        rw [hns] at hD hbl
        refine ev_if (b := false) (et_is (et_test (ev_opL (xs := []) (ev_var rfl) (el_lst ea_nil (by decide)) fun p2 H2 h2 e2 => rv_neD (d := .list (([] : List Int).map PyData.int)) (e := .list (([] : List Int).map PyData.int)) (fun H3 e3 => .lst (.of (e3 _ _ (e2 _ _ hD))) .nil) (fun H3 e3 => .lst (.of (e3 _ _ h2)) .nil) (ints_sh []) (ints_sh []))) rfl) (fun z => by cases z) (fun _ => ev_is ev_c ?_)
        rw [← hbl]
        rfl
      | cons i r =>
        rw [hns] at hD hbl
        refine ev_if (b := true) (et_is (et_test (ev_opL (xs := []) (ev_var rfl) (el_lst ea_nil (by decide)) fun p2 H2 h2 e2 => rv_neD (d := .list (((i :: r).map fun k => ((k : Nat) : Int)).map PyData.int)) (e := .list (([] : List Int).map PyData.int)) (fun H3 e3 => .lst (.of (e3 _ _ (e2 _ _ hD))) (intsDp _)) (fun H3 e3 => .lst (.of (e3 _ _ h2)) .nil) (ints_sh _) (ints_sh []))) rfl) (fun _ => ?_) (fun z => by cases z)
        refine ev_is (ev_op (ev_var rfl) ev_c (rv_ixL (v := .int ((i : Nat) : Int)) (SqL.of hD) (by unfold atI ixN; rw [if_pos (by decide), if_pos (by rw [List.length_map, List.length_map]; show (0 : Int) < ((r.length + 1 : Nat) : Int); omega)]; rfl))) ?_
        rw [← hbl]
        rfl
end
end Sea

set_option Elab.async false
set_option linter.all false
set_option maxRecDepth 100000
set_option maxHeartbeats 4000000
namespace Sea
open PySem PySem.Spec PyProof.Rows L2 LamX NdefX ClX Evl StX
abbrev sDrawn : Stmt := top 17
theorem scDrawn : FnScope ["_law_h", "_law_most", "_law_found", "_law_wide", "_law_k", "_law_length", "_law_price"] ["_law_h", "_law_most"] (defScope sDrawn) := ⟨rfl, rfl, rfl, by decide +kernel, rfl, by decide +kernel, by decide +kernel⟩
theorem pick3 (a b c v : Int) (h0 : 0 ≤ v) (h1 : v < 3) : ∃ w, atI [V.int a, V.int b, V.int c] v = some (.int w) ∧ (w = a ∨ w = b ∨ w = c) := by
  rcases (show v = 0 ∨ v = 1 ∨ v = 2 by omega) with rfl | rfl | rfl
  · exact ⟨a, rfl, .inl rfl⟩
  · exact ⟨b, rfl, .inr (.inl rfl)⟩
  · exact ⟨c, rfl, .inr (.inr rfl)⟩
structure TNx (K : PySem.W.Frag) (mg : Str → Option Value) (fN : Addr) (fdN : FuncData) : Prop where
  g : mg "_law_next" = some (.ref fN)
  kp : PySem.W.keepIn K (.ref fN) = true
  fu : Fun K "_law_next" "_law_next" sNext fN fdN
  mM : mg "max" = none
  mN : mg "len" = none
theorem TNx.b {K : PySem.W.Frag} {mg : Str → Option Value} {fN : Addr} {fdN : FuncData} (T : TNx K mg fN fdN) : Binds K fdN ["_law_h", "_law_limit"] [] := T.fu.binds (ps := ["_law_h", "_law_limit"]) fun _ _ _ _ _ _ us hl => match us, hl with | [_, _], _ => rfl
section
variable {X : Cx} {a b : Expr} {ta tb : TE} {p pos : Pos} {fN : Addr} {fdN : FuncData}
/-- _law_next(a, b) -/
theorem pe_next (T : TNx X.K X.mg fN fdN) (hr : Room 1 X.A) (hg : Gl X "_law_next") (ha : PE X a ta) (hb : PE X b tb) (he : starEach (a :: [b]) X.env = (false, eval a X.env) :: starEach [b] X.env := by rfl) (he2 : starEach (b :: []) X.env = (false, eval b X.env) :: starEach [] X.env := by rfl) (hpl : (backTo pos (starEach [b] X.env)).any (·.1) = false := by rfl) :
    PE X (.Call (.Name "_law_next" p) [a, b] [] pos) (tCall spNext [] E0 (tCons ta (tCons tb tNil))) :=
  pe_call (ok_next (k := 0) T.fu T.mM T.mN) hr hg T.g T.kp T.b .nil pass0 (pa_cons ha (pa_cons hb pa_nil he2) he) (by decide) he hpl
end
def spDrawn (K : PySem.W.Frag) : Sp := fun vs H Q _ => ∃ (h c : Addr) (m : Int), vs = [.ref h, .int m] ∧ 0 < m ∧ m ≤ 7 ∧ Dr H h c ∧ ∀ (v : V) (L : List (Int × Int)) (H' : Hp), PsA K H' v L → 1 ≤ L.length → (L.length : Int) ≤ m → Dr H' h c → Kp h c H H' → Q v H'
section
variable {P : Program} {w : World} {K : PySem.W.Frag} {mg : Str → Option Value} {base : Heap} {fN : Addr} {fdN : FuncData}
theorem ok_drawn {f : Addr} {fd : FuncData} {k : Nat} (F : Fun K "_law_passes" "_law_passes" sDrawn f fd) (T : TNx K mg fN fdN) (mR : mg "range" = none) (mI : mg "min" = none) (mT : mg "tuple" = none) : FnOk P w K mg base CX0 (k + 2) f fd ["_law_h", "_law_most"] (spDrawn K) := by
  refine F.ok scDrawn (fun vs H Q E h => ?_) (fun cdv A outer s H vs Q E hr h => ?_)
  · obtain ⟨h, c, m, rfl, _⟩ := h
    rfl
  · obtain ⟨h, c, m, rfl, m0, m7, d, q⟩ := h
    have hr1 := hr.mono (show 1 ≤ k + 1 by omega)
    refine ⟨_, pss_cons (ps_par (i := 2) (j := 3) (by rfl) scDrawn.nd rfl rfl (by decide) rfl rfl (pa_cons (pe_lst pa_nil) (pa_cons (pe_ixl (pe_lst (pa_cons pe_int (pa_cons pe_int (pa_cons (pe_op op_pow pe_int pe_int) pa_nil)))) (pe_next T hr1 (by rfl) (pv 0) pe_int)) pa_nil)) (by rfl))
      (pss_cons (ps_for PassesOwn.never rfl (pi_range1 (by rfl) mR (pa_cons (pe_op op_add pe_int (pe_next T hr1 (by rfl) (pv 0) (pv 1))) pa_nil)) (pg_name (i := 4) scDrawn.nd rfl (.inl rfl))
        (pss_cons (ps_set (i := 5) scDrawn.nd rfl (.inl rfl) (pe_op op_add pe_int (pe_next T hr1 (by rfl) (pv 0) (pe_ixl (pe_lst (pa_cons pe_int (pa_cons pe_int (pa_cons pe_int pa_nil)))) (pe_next T hr1 (by rfl) (pv 0) pe_int)))))
        (pss_cons (ps_set (i := 6) scDrawn.nd rfl (.inl rfl) (pe_op op_add pe_int (pe_next T hr1 (by rfl) (pv 0) (pv 3))))
        (pss_one (ps_expr (pe_bm PySem.F.plainAttrs_list PySem.F.slot_list_append PySem.F.type_list_append mt_append (pv 2) (pa_cons (pe_tup (pa_cons (pv 5) (pa_cons (pe_ifExp (pt_cmpR op_gt (pe_next T hr1 (by rfl) (pv 0) pe_int) pe_int (nomark _)) (pe_callB (call_min2 rfl) (by rfl) mI (by rfl) (pa_cons (pe_op op_pow pe_int pe_int) (pa_cons (pe_op op_mul (pv 6) (pv 5)) pa_nil))) (pv 6)) pa_nil))) pa_nil)))))))
      (pss_one (ps_ret (pe_callTy call_tuple_of (by rfl) mT (by rfl) (pa_cons (pv 2) pa_nil))))), ?_⟩
    have ltb : ∀ {n : Nat}, n ≤ 1000 → n ≤ sizeLine := fun h => Nat.le_of_lt (small1000 h)
    refine ⟨ltb (show 0 ≤ 1000 by decide), fun D nD => ?_⟩
    have d1 : Dr (upd H D (.lst [])) h c := d.new nD
    refine ⟨_, _, rfl, rfl, ⟨by decide, by decide, by decide⟩, ltb (show 3 ≤ 1000 by decide), fun l3 n3 => ?_⟩
    have d2 := d1.new (o := .lst [V.int 9, V.int 40, V.int (10 ^ (6 : Int).toNat)]) n3
    refine ⟨_, rfl, h, c, 3, rfl, by decide, by decide, d2, fun v1 H1 a1 b1 e1 k1 => ?_⟩
    obtain ⟨_, _, _, _, hh, hc0, _⟩ := id d
    have nDh : D ≠ h := fun z => by
      rw [z, hh] at nD
      cases nD
    have nDc : D ≠ c := fun z => by
      rw [z, hc0] at nD
      cases nD
    obtain ⟨_, _, _, _, hh1, hc1, _⟩ := id d1
    have n3h : l3 ≠ h := fun z => by
      rw [z, hh1] at n3
      cases n3
    have n3c : l3 ≠ c := fun z => by
      rw [z, hc1] at n3
      cases n3
    have n3D : D ≠ l3 := fun z => by
      rw [← z, upd_same] at n3
      cases n3
    obtain ⟨wd, hw, hwd⟩ := pick3 9 40 (10 ^ (6 : Int).toNat) v1 a1 b1
    have wd0 : 0 < wd := by
      rcases hwd with z | z | z
      · rw [z]; decide
      · rw [z]; decide
      · rw [z]; decide
    have wd1 : wd < 1073741824 := by
      rcases hwd with z | z | z
      · rw [z]; decide
      · rw [z]; decide
      · rw [z]; decide
    refine ⟨l3, _, v1, _, rfl, rfl, SqL.of (k1 _ _ upd_same n3h n3c), hw, ?_⟩
    refine ⟨_, _, rfl, ?_⟩
    have hD1 : H1 D = some (.lst []) := k1 _ _ (by rw [upd_ne n3D, upd_same]) nDh nDc
    have kk1 : Kp h c H H1 := ((Kp.new nD).trans (Kp.new n3)).trans k1
    dsimp only
    refine ⟨_, rfl, _, rfl, h, c, m, rfl, m0, by omega, e1, fun v2 H2 a2 b2 e2 k2 => ?_⟩
    refine ⟨_, _, rfl, rfl, 1 + v2, rfl, by omega, by omega, for_range (lo := 0) (n := (1 + v2).toNat) (fun i σ H' => ∃ v4 v5 v6 vs L, σ = [some (.ref h), some (.int m), some (.ref D), some (.int wd), v4, v5, v6] ∧ Dr H' h c ∧ Kp h c H H' ∧ H' D = some (.lst vs) ∧ PsV K H' vs L ∧ L.length = i)
      ⟨none, none, none, [], [], rfl, e2, kk1.trans k2, k2 _ _ hD1 nDh nDc, .nil, rfl⟩ ?_ ?_⟩
    · rintro i σ H' hi ⟨v4, v5, v6, vs, L, rfl, d, kp, hD, hv, hl⟩
      obtain ⟨_, _, _, _, hh, hc0, _⟩ := id d
      refine ⟨_, rfl, ltb (show 3 ≤ 1000 by decide), fun l nl => ?_⟩
      have nlh : l ≠ h := fun z => by
        rw [z, hh] at nl
        cases nl
      have nlc : l ≠ c := fun z => by
        rw [z, hc0] at nl
        cases nl
      have nlD : D ≠ l := ne_of_none hD nl
      refine ⟨_, rfl, h, c, 3, rfl, by decide, by decide, d.new nl, fun v1 H1 a1 b1 e1 k1 => ?_⟩
      obtain ⟨wl, hwl, hwl2⟩ := pick3 3 9 28 v1 a1 b1
      have wl0 : 0 < wl ∧ wl ≤ 28 := by
        rcases hwl2 with z | z | z
        · rw [z]; decide
        · rw [z]; decide
        · rw [z]; decide
      refine ⟨l, _, v1, _, rfl, rfl, SqL.of (k1 _ _ upd_same nlh nlc), hwl, ?_⟩
      refine ⟨h, c, wl, rfl, wl0.1, by omega, e1, fun v2 H2 a2 b2 e2 k2 => ?_⟩
      refine ⟨_, _, rfl, rfl, ?_⟩
      refine ⟨_, rfl, _, rfl, h, c, wd, rfl, wd0, wd1, e2, fun v3 H3 a3 b3 e3 k3 => ?_⟩
      refine ⟨_, _, rfl, rfl, ?_⟩
      have kk : Kp h c H' H3 := (((Kp.new nl).trans k1).trans k2).trans k3
      have hD3 : H3 D = some (.lst vs) := kk _ _ hD nDh nDc
      have hv3 : PsV K H3 vs L := hv.tk (d.tk kk)
      refine ⟨_, rfl, .inl ⟨rfl, _, SqL.of hD3⟩, _, rfl, _, rfl, h, c, 3, rfl, by decide, by decide, e3, fun v4 H4 a4 b4 e4 k4 => ?_⟩
      have hD4 : H4 D = some (.lst vs) := k4 _ _ hD3 nDh nDc
      have hv4 : PsV K H4 vs L := hv3.tk (e3.tk k4)
      have fin : ∀ (y : Int) (tp : Addr), H4 tp = none → ∃ (l : Addr) (xs : List V) (z : V), V.ref D = .ref l ∧ [V.ref tp] = [z] ∧ (upd H4 tp (.tup [.int (1 + v2), .int y])) l = some (.lst xs) ∧ xs.length < sizeLine ∧
          ∃ v4 v5 v6 vs L, ([some (.ref h), some (.int m), some (.ref D), some (.int wd), some (.int (0 + (i : Int))), some (.int (1 + v2)), some (.int (1 + v3))] : L2.St) = [some (.ref h), some (.int m), some (.ref D), some (.int wd), v4, v5, v6] ∧
            Dr (upd (upd H4 tp (.tup [.int (1 + v2), .int y])) l (.lst (xs ++ [z]))) h c ∧ Kp h c H (upd (upd H4 tp (.tup [.int (1 + v2), .int y])) l (.lst (xs ++ [z]))) ∧ (upd (upd H4 tp (.tup [.int (1 + v2), .int y])) l (.lst (xs ++ [z]))) D = some (.lst vs) ∧ PsV K (upd (upd H4 tp (.tup [.int (1 + v2), .int y])) l (.lst (xs ++ [z]))) vs L ∧ L.length = i + 1 := by
        intro y tp ntp
        have nDt : D ≠ tp := ne_of_none hD4 ntp
        have hD5 : (upd H4 tp (.tup [.int (1 + v2), .int y])) D = some (.lst vs) := by
          rw [upd_ne nDt]
          exact hD4
        have tk5 : TK K H4 (upd (upd H4 tp (.tup [.int (1 + v2), .int y])) D (.lst (vs ++ [V.ref tp]))) := (TK.new ntp).trans (.but (fun b => b = D) (fun b o e n => by
          rw [upd_ne n]
          exact e) fun b xs z => by
          rw [z]
          exact Rd.lst_no hD5)
        refine ⟨D, vs, _, rfl, rfl, hD5, small1000 (by rw [hv4.len]; omega), _, _, _, vs ++ [.ref tp], L ++ [(1 + v2, y)], rfl, ?_, ?_, upd_same, (hv4.tk tk5).app (.cons ⟨tp, rfl, .of ?_⟩ .nil), by rw [List.length_append, hl]; rfl⟩
        · obtain ⟨n0, mm, kk2, ns, f1, f2, f3⟩ := e4.new (o := .tup [.int (1 + v2), .int y]) ntp
          exact ⟨n0, mm, kk2, ns, by rw [upd_ne nDh.symm]; exact f1, by rw [upd_ne nDc.symm]; exact f2, f3⟩
        · intro b o e n1 n2
          have hb : b ≠ D := ne_of_none e nD
          rw [upd_ne hb]
          exact ((kp.trans kk).trans (k4.trans (Kp.new ntp))) b o e n1 n2
        · rw [upd_ne nDt.symm, upd_same]
      refine ⟨_, _, rfl, rfl, _, rfl, ?_⟩
      refine ite2 (fun _ => ?_) (fun _ => ?_)
      · refine ⟨_, _, rfl, rfl, ⟨by decide, by decide, by decide⟩, _, rfl, _, rfl, _, _, rfl, rfl, .inr ⟨by omega, by omega⟩, _, _, rfl, ?_⟩
        exact ⟨ltb (show 2 ≤ 1000 by decide), fun tp ntp => fin _ tp ntp⟩
      · refine ⟨_, rfl, ?_⟩
        exact ⟨ltb (show 2 ≤ 1000 by decide), fun tp ntp => fin _ tp ntp⟩
    · rintro σ H' ⟨v4, v5, v6, vs, L, rfl, d, kp, hD, hv, hl⟩
      refine ⟨_, rfl, D, vs, rfl, .inl ⟨.of hD, fun l nl => q _ L _ ⟨l, vs, rfl, .of upd_same, hv.tk (.new nl)⟩ (by omega) (by omega) (d.new nl) (kp.trans (Kp.new nl))⟩⟩
end
end Sea

set_option Elab.async false
set_option linter.all false
set_option maxRecDepth 100000
set_option maxHeartbeats 4000000
namespace Sea
open PySem PySem.Spec PyProof.Rows L2 LamX NdefX ClX Evl StX
abbrev sTar : Stmt := top 20
theorem scTar : FnScope ["_law_passes_here", "_law_a"] ["_law_passes_here"] (defScope sTar) := ⟨rfl, rfl, rfl, by decide +kernel, rfl, by decide +kernel, by decide +kernel⟩
theorem s_retIf {t : TT} {ta tb : TE} {D : Ends} {σ : L2.St} {H : Hp} {b : Bool} (h : EvT t σ H b) (h1 : b = true → ∀ H1, Ex H H1 → tRet ta D σ H1) (h2 : b = false → ∀ H1, Ex H H1 → tRet tb D σ H1) : tRet (tIf t ta tb) D σ H := h H (Ex.refl _) _ fun H1 e => by
  cases b with
  | true => exact iteT (h1 rfl H1 e)
  | false => exact iteF (h2 rfl H1 e)
theorem ev_lenT {K : PySem.W.Frag} {σ : L2.St} {H : Hp} {i : Nat} {p : Addr} {xs : List V} (hs : σ[i]? = some (some (.ref p))) (h : SqT K H p xs) : Ev (tCB (fun xs H Q => ∃ p ys, xs = [V.ref p] ∧ (SqL K H p ys ∨ SqT K H p ys) ∧ Q (.int ys.length) H) (tCons (tVar i) tNil)) σ H (.int (xs.length : Int)) := fun H1 e Q q =>
  ⟨_, hs, p, xs, rfl, .inr ((TK.same e) _ _ h), q H1 (Ex.refl _)⟩
def spTar (K : PySem.W.Frag) (C cI : Addr) : Sp := fun vs H Q E => ∃ (v : V) (L : List (Int × Int)), vs = [v] ∧ PsA K H v L ∧ L.length ≤ 7 ∧ gM K C cI H L Q E
section
variable {P : Program} {w : World} {K : PySem.W.Frag} {mg : Str → Option Value} {base : Heap} {C cI cU cP fI fT : Addr} {mc mp : Value} {fdI fdT : FuncData}
theorem ok_tar {f : Addr} {fd : FuncData} (F : Fun K "_law_tariff" "_law_tariff" sTar f fd) (T : TX K mg C cI cU cP fI mc mp) (I : TMk K C fI fT fdI fdT) (mN : mg "len" = none) (mL : mg "list" = none) : FnOk P w K mg base (L2.CX P w) 6 f fd ["_law_passes_here"] (spTar K C cI) := by
  refine F.okX scTar (fun vs H Q E h => ?_) (fun cdv A outer s H vs Q E hr2 h => ?_)
  · obtain ⟨v, L, rfl, _⟩ := h
    rfl
  · obtain ⟨v, L, rfl, hL, hlen, hg⟩ := h
    have PX : Passes (L2.CX P w) (cxOf (L2.CX P w) P w K mg base ["_law_passes_here", "_law_a"] "_law_tariff" (defScope sTar) f cdv A outer s H E) E := passes_call (takes_of rfl rfl rfl rfl) (fun _ _ _ _ h => h)
    refine ⟨_, pss_cons (ps_set (i := 1) scTar.nd rfl (.inl rfl) (pe_op op_cat (pe_callTy call_list_of (by rfl) mL (by rfl) (pa_cons (pv 0) pa_nil)) (pe_op op_rep (pe_lst (pa_cons pe_non pa_nil)) pe_int)))
      (pss_cons (ps_if (pt_cmpR op_lt (pe_callB call_len_seq (by rfl) mN PySem.boot_len (pa_cons (pv 0) pa_nil)) pe_int (nomark _)) (pss_one (ps_ret (pe_ifExp (pt_cmpR op_eq (pe_callB call_len_seq (by rfl) mN PySem.boot_len (pa_cons (pv 0) pa_nil)) pe_int (nomark _)) (pe_tar (E := E) T I hr2 PX (by rfl) (pa_cons (pe_ixl (pv 1) pe_int) pa_nil)) (pe_tar0 (E := E) T I hr2 PX (by rfl))))) pss_nil)
      (pss_cons (ps_if (pt_cmpR op_lt (pe_callB call_len_seq (by rfl) mN PySem.boot_len (pa_cons (pv 0) pa_nil)) pe_int (nomark _)) (pss_one (ps_ret (pe_ifExp (pt_cmpR op_eq (pe_callB call_len_seq (by rfl) mN PySem.boot_len (pa_cons (pv 0) pa_nil)) pe_int (nomark _)) (pe_tar (E := E) T I hr2 PX (by rfl) (pa_cons (pe_ixl (pv 1) pe_int) (pa_cons (pe_ixl (pv 1) pe_int) pa_nil))) (pe_tar (E := E) T I hr2 PX (by rfl) (pa_cons (pe_ixl (pv 1) pe_int) (pa_cons (pe_ixl (pv 1) pe_int) (pa_cons (pe_ixl (pv 1) pe_int) pa_nil))))))) pss_nil)
      (pss_cons (ps_if (pt_cmpR op_lt (pe_callB call_len_seq (by rfl) mN PySem.boot_len (pa_cons (pv 0) pa_nil)) pe_int (nomark _)) (pss_one (ps_ret (pe_ifExp (pt_cmpR op_eq (pe_callB call_len_seq (by rfl) mN PySem.boot_len (pa_cons (pv 0) pa_nil)) pe_int (nomark _)) (pe_tar (E := E) T I hr2 PX (by rfl) (pa_cons (pe_ixl (pv 1) pe_int) (pa_cons (pe_ixl (pv 1) pe_int) (pa_cons (pe_ixl (pv 1) pe_int) (pa_cons (pe_ixl (pv 1) pe_int) pa_nil))))) (pe_tar (E := E) T I hr2 PX (by rfl) (pa_cons (pe_ixl (pv 1) pe_int) (pa_cons (pe_ixl (pv 1) pe_int) (pa_cons (pe_ixl (pv 1) pe_int) (pa_cons (pe_ixl (pv 1) pe_int) (pa_cons (pe_ixl (pv 1) pe_int) pa_nil))))))))) pss_nil)
      (pss_cons (ps_if (pt_cmpR op_eq (pe_callB call_len_seq (by rfl) mN PySem.boot_len (pa_cons (pv 0) pa_nil)) pe_int (nomark _)) (pss_one (ps_ret (pe_tar (E := E) T I hr2 PX (by rfl) (pa_cons (pe_ixl (pv 1) pe_int) (pa_cons (pe_ixl (pv 1) pe_int) (pa_cons (pe_ixl (pv 1) pe_int) (pa_cons (pe_ixl (pv 1) pe_int) (pa_cons (pe_ixl (pv 1) pe_int) (pa_cons (pe_ixl (pv 1) pe_int) pa_nil))))))))) pss_nil)
      (pss_one (ps_ret (pe_tar (E := E) T I hr2 PX (by rfl) (pa_cons (pe_ixl (pv 1) pe_int) (pa_cons (pe_ixl (pv 1) pe_int) (pa_cons (pe_ixl (pv 1) pe_int) (pa_cons (pe_ixl (pv 1) pe_int) (pa_cons (pe_ixl (pv 1) pe_int) (pa_cons (pe_ixl (pv 1) pe_int) (pa_cons (pe_ixl (pv 1) pe_int) pa_nil)))))))))))))), ?_⟩
    obtain ⟨p, vs, rfl, hp, hv⟩ := hL
    have hll := hv.len
    have ltb : ∀ {n : Nat}, n ≤ 1000 → n ≤ sizeLine := fun h => Nat.le_of_lt (small1000 h)
    refine ⟨_, rfl, p, vs, rfl, .inr hp, fun l1 n1 => ?_⟩
    refine ⟨ltb (show 1 ≤ 1000 by decide), fun l2 n2 => ?_⟩
    refine ⟨l2, 7, _, rfl, rfl, upd_same, by decide, by decide, ltb (show 7 ≤ 1000 by decide), fun l3 n3 => ?_⟩
    have n12 : l1 ≠ l2 := fun z => by
      rw [← z, upd_same] at n2
      cases n2
    have n13 : l1 ≠ l3 := fun z => by
      rw [← z, upd_ne n12, upd_same] at n3
      cases n3
    refine ⟨l1, l3, _, _, rfl, rfl, by rw [upd_ne n13, upd_ne n12, upd_same], upd_same, ltb (by rw [List.length_flatten]; show _ ≤ 1000; simp; omega), fun al nal => ?_⟩
    dsimp only
    have s0 : Same H (upd (upd (upd (upd H l1 (.lst vs)) l2 (.lst [V.non])) l3 (.lst (List.replicate (7 : Int).toNat [V.non]).flatten)) al (.lst (vs ++ (List.replicate (7 : Int).toNat [V.non]).flatten))) := (((same_new n1).trans (same_new n2)).trans (same_new n3)).trans (same_new nal)
    replace hg := hg.up s0
    replace hp := (TK.same s0) _ _ hp
    replace hv := hv.tk (.same s0)
    have ha : (upd (upd (upd (upd H l1 (.lst vs)) l2 (.lst [V.non])) l3 (.lst (List.replicate (7 : Int).toNat [V.non]).flatten)) al (.lst (vs ++ (List.replicate (7 : Int).toNat [V.non]).flatten))) al = some (.lst (vs ++ [.non, .non, .non, .non, .non, .non, .non])) := upd_same
    have hvl : vs.length ≤ 7 := by omega
    revert hg hp hv ha
    generalize (upd (upd (upd (upd H l1 (.lst vs)) l2 (.lst [V.non])) l3 (.lst (List.replicate (7 : Int).toNat [V.non]).flatten)) al (.lst (vs ++ (List.replicate (7 : Int).toNat [V.non]).flatten))) = H0
    intro hg hp hv ha
    clear hll s0 nal
    match vs, hv, hp, ha with
    | [], hv, hp, ha =>
      refine q_when (b := true) (et_test (ev_is (ev_op (ev_lenT rfl ((TK.same (Ex.refl _)) _ _ hp)) ev_c rv_I0) rfl)) (fun _ Hq1 eq1 => ?_) (fun z => by cases z)
      refine s_retIf (b := false) (et_test (ev_is (ev_op (ev_lenT rfl ((TK.same (Ex.trans (Ex.refl _) eq1)) _ _ hp)) ev_c (rv_eq rfl)) rfl)) (fun z => by cases z) (fun _ Hz ez => ?_)
      exact (hg.up (Ex.trans (Ex.trans (Ex.refl _) eq1) ez)).mk (hv.tk (.same (Ex.trans (Ex.trans (Ex.refl _) eq1) ez))) (by omega)
    | [x0], hv, hp, ha =>
      refine q_when (b := true) (et_test (ev_is (ev_op (ev_lenT rfl ((TK.same (Ex.refl _)) _ _ hp)) ev_c rv_I0) rfl)) (fun _ Hq1 eq1 => ?_) (fun z => by cases z)
      refine s_retIf (b := true) (et_test (ev_is (ev_op (ev_lenT rfl ((TK.same (Ex.trans (Ex.refl _) eq1)) _ _ hp)) ev_c (rv_eq rfl)) rfl)) (fun _ Hz ez => ?_) (fun z => by cases z)
      exact ⟨_, rfl, al, _, 0, _, rfl, rfl, SqL.of (Ex.trans (Ex.trans (Ex.refl _) eq1) ez _ _ ha), rfl, (hg.up (Ex.trans (Ex.trans (Ex.refl _) eq1) ez)).mk (hv.tk (.same (Ex.trans (Ex.trans (Ex.refl _) eq1) ez))) (by omega)⟩
    | [x0, x1], hv, hp, ha =>
      refine q_when (b := false) (et_test (ev_is (ev_op (ev_lenT rfl ((TK.same (Ex.refl _)) _ _ hp)) ev_c rv_I0) rfl)) (fun z => by cases z) (fun _ Hq1 eq1 => ?_)
      refine q_when (b := true) (et_test (ev_is (ev_op (ev_lenT rfl ((TK.same (Ex.trans (Ex.refl _) eq1)) _ _ hp)) ev_c rv_I0) rfl)) (fun _ Hq2 eq2 => ?_) (fun z => by cases z)
      refine s_retIf (b := true) (et_test (ev_is (ev_op (ev_lenT rfl ((TK.same (Ex.trans (Ex.trans (Ex.refl _) eq1) eq2)) _ _ hp)) ev_c (rv_eq rfl)) rfl)) (fun _ Hz ez => ?_) (fun z => by cases z)
      exact ⟨_, rfl, al, _, 0, _, rfl, rfl, SqL.of (Ex.trans (Ex.trans (Ex.trans (Ex.refl _) eq1) eq2) ez _ _ ha), rfl, ⟨_, rfl, al, _, 1, _, rfl, rfl, SqL.of (Ex.trans (Ex.trans (Ex.trans (Ex.refl _) eq1) eq2) ez _ _ ha), rfl, (hg.up (Ex.trans (Ex.trans (Ex.trans (Ex.refl _) eq1) eq2) ez)).mk (hv.tk (.same (Ex.trans (Ex.trans (Ex.trans (Ex.refl _) eq1) eq2) ez))) (by omega)⟩⟩
    | [x0, x1, x2], hv, hp, ha =>
      refine q_when (b := false) (et_test (ev_is (ev_op (ev_lenT rfl ((TK.same (Ex.refl _)) _ _ hp)) ev_c rv_I0) rfl)) (fun z => by cases z) (fun _ Hq1 eq1 => ?_)
      refine q_when (b := true) (et_test (ev_is (ev_op (ev_lenT rfl ((TK.same (Ex.trans (Ex.refl _) eq1)) _ _ hp)) ev_c rv_I0) rfl)) (fun _ Hq2 eq2 => ?_) (fun z => by cases z)
      refine s_retIf (b := false) (et_test (ev_is (ev_op (ev_lenT rfl ((TK.same (Ex.trans (Ex.trans (Ex.refl _) eq1) eq2)) _ _ hp)) ev_c (rv_eq rfl)) rfl)) (fun z => by cases z) (fun _ Hz ez => ?_)
      exact ⟨_, rfl, al, _, 0, _, rfl, rfl, SqL.of (Ex.trans (Ex.trans (Ex.trans (Ex.refl _) eq1) eq2) ez _ _ ha), rfl, ⟨_, rfl, al, _, 1, _, rfl, rfl, SqL.of (Ex.trans (Ex.trans (Ex.trans (Ex.refl _) eq1) eq2) ez _ _ ha), rfl, ⟨_, rfl, al, _, 2, _, rfl, rfl, SqL.of (Ex.trans (Ex.trans (Ex.trans (Ex.refl _) eq1) eq2) ez _ _ ha), rfl, (hg.up (Ex.trans (Ex.trans (Ex.trans (Ex.refl _) eq1) eq2) ez)).mk (hv.tk (.same (Ex.trans (Ex.trans (Ex.trans (Ex.refl _) eq1) eq2) ez))) (by omega)⟩⟩⟩
    | [x0, x1, x2, x3], hv, hp, ha =>
      refine q_when (b := false) (et_test (ev_is (ev_op (ev_lenT rfl ((TK.same (Ex.refl _)) _ _ hp)) ev_c rv_I0) rfl)) (fun z => by cases z) (fun _ Hq1 eq1 => ?_)
      refine q_when (b := false) (et_test (ev_is (ev_op (ev_lenT rfl ((TK.same (Ex.trans (Ex.refl _) eq1)) _ _ hp)) ev_c rv_I0) rfl)) (fun z => by cases z) (fun _ Hq2 eq2 => ?_)
      refine q_when (b := true) (et_test (ev_is (ev_op (ev_lenT rfl ((TK.same (Ex.trans (Ex.trans (Ex.refl _) eq1) eq2)) _ _ hp)) ev_c rv_I0) rfl)) (fun _ Hq3 eq3 => ?_) (fun z => by cases z)
      refine s_retIf (b := true) (et_test (ev_is (ev_op (ev_lenT rfl ((TK.same (Ex.trans (Ex.trans (Ex.trans (Ex.refl _) eq1) eq2) eq3)) _ _ hp)) ev_c (rv_eq rfl)) rfl)) (fun _ Hz ez => ?_) (fun z => by cases z)
      exact ⟨_, rfl, al, _, 0, _, rfl, rfl, SqL.of (Ex.trans (Ex.trans (Ex.trans (Ex.trans (Ex.refl _) eq1) eq2) eq3) ez _ _ ha), rfl, ⟨_, rfl, al, _, 1, _, rfl, rfl, SqL.of (Ex.trans (Ex.trans (Ex.trans (Ex.trans (Ex.refl _) eq1) eq2) eq3) ez _ _ ha), rfl, ⟨_, rfl, al, _, 2, _, rfl, rfl, SqL.of (Ex.trans (Ex.trans (Ex.trans (Ex.trans (Ex.refl _) eq1) eq2) eq3) ez _ _ ha), rfl, ⟨_, rfl, al, _, 3, _, rfl, rfl, SqL.of (Ex.trans (Ex.trans (Ex.trans (Ex.trans (Ex.refl _) eq1) eq2) eq3) ez _ _ ha), rfl, (hg.up (Ex.trans (Ex.trans (Ex.trans (Ex.trans (Ex.refl _) eq1) eq2) eq3) ez)).mk (hv.tk (.same (Ex.trans (Ex.trans (Ex.trans (Ex.trans (Ex.refl _) eq1) eq2) eq3) ez))) (by omega)⟩⟩⟩⟩
    | [x0, x1, x2, x3, x4], hv, hp, ha =>
      refine q_when (b := false) (et_test (ev_is (ev_op (ev_lenT rfl ((TK.same (Ex.refl _)) _ _ hp)) ev_c rv_I0) rfl)) (fun z => by cases z) (fun _ Hq1 eq1 => ?_)
      refine q_when (b := false) (et_test (ev_is (ev_op (ev_lenT rfl ((TK.same (Ex.trans (Ex.refl _) eq1)) _ _ hp)) ev_c rv_I0) rfl)) (fun z => by cases z) (fun _ Hq2 eq2 => ?_)
      refine q_when (b := true) (et_test (ev_is (ev_op (ev_lenT rfl ((TK.same (Ex.trans (Ex.trans (Ex.refl _) eq1) eq2)) _ _ hp)) ev_c rv_I0) rfl)) (fun _ Hq3 eq3 => ?_) (fun z => by cases z)
      refine s_retIf (b := false) (et_test (ev_is (ev_op (ev_lenT rfl ((TK.same (Ex.trans (Ex.trans (Ex.trans (Ex.refl _) eq1) eq2) eq3)) _ _ hp)) ev_c (rv_eq rfl)) rfl)) (fun z => by cases z) (fun _ Hz ez => ?_)
      exact ⟨_, rfl, al, _, 0, _, rfl, rfl, SqL.of (Ex.trans (Ex.trans (Ex.trans (Ex.trans (Ex.refl _) eq1) eq2) eq3) ez _ _ ha), rfl, ⟨_, rfl, al, _, 1, _, rfl, rfl, SqL.of (Ex.trans (Ex.trans (Ex.trans (Ex.trans (Ex.refl _) eq1) eq2) eq3) ez _ _ ha), rfl, ⟨_, rfl, al, _, 2, _, rfl, rfl, SqL.of (Ex.trans (Ex.trans (Ex.trans (Ex.trans (Ex.refl _) eq1) eq2) eq3) ez _ _ ha), rfl, ⟨_, rfl, al, _, 3, _, rfl, rfl, SqL.of (Ex.trans (Ex.trans (Ex.trans (Ex.trans (Ex.refl _) eq1) eq2) eq3) ez _ _ ha), rfl, ⟨_, rfl, al, _, 4, _, rfl, rfl, SqL.of (Ex.trans (Ex.trans (Ex.trans (Ex.trans (Ex.refl _) eq1) eq2) eq3) ez _ _ ha), rfl, (hg.up (Ex.trans (Ex.trans (Ex.trans (Ex.trans (Ex.refl _) eq1) eq2) eq3) ez)).mk (hv.tk (.same (Ex.trans (Ex.trans (Ex.trans (Ex.trans (Ex.refl _) eq1) eq2) eq3) ez))) (by omega)⟩⟩⟩⟩⟩
    | [x0, x1, x2, x3, x4, x5], hv, hp, ha =>
      refine q_when (b := false) (et_test (ev_is (ev_op (ev_lenT rfl ((TK.same (Ex.refl _)) _ _ hp)) ev_c rv_I0) rfl)) (fun z => by cases z) (fun _ Hq1 eq1 => ?_)
      refine q_when (b := false) (et_test (ev_is (ev_op (ev_lenT rfl ((TK.same (Ex.trans (Ex.refl _) eq1)) _ _ hp)) ev_c rv_I0) rfl)) (fun z => by cases z) (fun _ Hq2 eq2 => ?_)
      refine q_when (b := false) (et_test (ev_is (ev_op (ev_lenT rfl ((TK.same (Ex.trans (Ex.trans (Ex.refl _) eq1) eq2)) _ _ hp)) ev_c rv_I0) rfl)) (fun z => by cases z) (fun _ Hq3 eq3 => ?_)
      refine q_when (b := true) (et_test (ev_is (ev_op (ev_lenT rfl ((TK.same (Ex.trans (Ex.trans (Ex.trans (Ex.refl _) eq1) eq2) eq3)) _ _ hp)) ev_c (rv_eq rfl)) rfl)) (fun _ Hq4 eq4 => ?_) (fun z => by cases z)
      exact ⟨_, rfl, al, _, 0, _, rfl, rfl, SqL.of (Ex.trans (Ex.trans (Ex.trans (Ex.trans (Ex.refl _) eq1) eq2) eq3) eq4 _ _ ha), rfl, ⟨_, rfl, al, _, 1, _, rfl, rfl, SqL.of (Ex.trans (Ex.trans (Ex.trans (Ex.trans (Ex.refl _) eq1) eq2) eq3) eq4 _ _ ha), rfl, ⟨_, rfl, al, _, 2, _, rfl, rfl, SqL.of (Ex.trans (Ex.trans (Ex.trans (Ex.trans (Ex.refl _) eq1) eq2) eq3) eq4 _ _ ha), rfl, ⟨_, rfl, al, _, 3, _, rfl, rfl, SqL.of (Ex.trans (Ex.trans (Ex.trans (Ex.trans (Ex.refl _) eq1) eq2) eq3) eq4 _ _ ha), rfl, ⟨_, rfl, al, _, 4, _, rfl, rfl, SqL.of (Ex.trans (Ex.trans (Ex.trans (Ex.trans (Ex.refl _) eq1) eq2) eq3) eq4 _ _ ha), rfl, ⟨_, rfl, al, _, 5, _, rfl, rfl, SqL.of (Ex.trans (Ex.trans (Ex.trans (Ex.trans (Ex.refl _) eq1) eq2) eq3) eq4 _ _ ha), rfl, (hg.up (Ex.trans (Ex.trans (Ex.trans (Ex.trans (Ex.refl _) eq1) eq2) eq3) eq4)).mk (hv.tk (.same (Ex.trans (Ex.trans (Ex.trans (Ex.trans (Ex.refl _) eq1) eq2) eq3) eq4))) (by omega)⟩⟩⟩⟩⟩⟩
    | [x0, x1, x2, x3, x4, x5, x6], hv, hp, ha =>
      refine q_when (b := false) (et_test (ev_is (ev_op (ev_lenT rfl ((TK.same (Ex.refl _)) _ _ hp)) ev_c rv_I0) rfl)) (fun z => by cases z) (fun _ Hq1 eq1 => ?_)
      refine q_when (b := false) (et_test (ev_is (ev_op (ev_lenT rfl ((TK.same (Ex.trans (Ex.refl _) eq1)) _ _ hp)) ev_c rv_I0) rfl)) (fun z => by cases z) (fun _ Hq2 eq2 => ?_)
      refine q_when (b := false) (et_test (ev_is (ev_op (ev_lenT rfl ((TK.same (Ex.trans (Ex.trans (Ex.refl _) eq1) eq2)) _ _ hp)) ev_c rv_I0) rfl)) (fun z => by cases z) (fun _ Hq3 eq3 => ?_)
      refine q_when (b := false) (et_test (ev_is (ev_op (ev_lenT rfl ((TK.same (Ex.trans (Ex.trans (Ex.trans (Ex.refl _) eq1) eq2) eq3)) _ _ hp)) ev_c (rv_eq rfl)) rfl)) (fun z => by cases z) (fun _ Hq4 eq4 => ?_)
      exact ⟨_, rfl, al, _, 0, _, rfl, rfl, SqL.of (Ex.trans (Ex.trans (Ex.trans (Ex.trans (Ex.refl _) eq1) eq2) eq3) eq4 _ _ ha), rfl, ⟨_, rfl, al, _, 1, _, rfl, rfl, SqL.of (Ex.trans (Ex.trans (Ex.trans (Ex.trans (Ex.refl _) eq1) eq2) eq3) eq4 _ _ ha), rfl, ⟨_, rfl, al, _, 2, _, rfl, rfl, SqL.of (Ex.trans (Ex.trans (Ex.trans (Ex.trans (Ex.refl _) eq1) eq2) eq3) eq4 _ _ ha), rfl, ⟨_, rfl, al, _, 3, _, rfl, rfl, SqL.of (Ex.trans (Ex.trans (Ex.trans (Ex.trans (Ex.refl _) eq1) eq2) eq3) eq4 _ _ ha), rfl, ⟨_, rfl, al, _, 4, _, rfl, rfl, SqL.of (Ex.trans (Ex.trans (Ex.trans (Ex.trans (Ex.refl _) eq1) eq2) eq3) eq4 _ _ ha), rfl, ⟨_, rfl, al, _, 5, _, rfl, rfl, SqL.of (Ex.trans (Ex.trans (Ex.trans (Ex.trans (Ex.refl _) eq1) eq2) eq3) eq4 _ _ ha), rfl, ⟨_, rfl, al, _, 6, _, rfl, rfl, SqL.of (Ex.trans (Ex.trans (Ex.trans (Ex.trans (Ex.refl _) eq1) eq2) eq3) eq4 _ _ ha), rfl, (hg.up (Ex.trans (Ex.trans (Ex.trans (Ex.trans (Ex.refl _) eq1) eq2) eq3) eq4)).mk (hv.tk (.same (Ex.trans (Ex.trans (Ex.trans (Ex.trans (Ex.refl _) eq1) eq2) eq3) eq4))) (by omega)⟩⟩⟩⟩⟩⟩⟩
    | _ :: _ :: _ :: _ :: _ :: _ :: _ :: _ :: _, hv, hp, ha =>
      exfalso
      simp only [List.length_cons] at hvl
      omega
end
end Sea

set_option Elab.async false
set_option linter.all false
set_option maxRecDepth 100000
set_option maxHeartbeats 4000000
namespace Sea
open PySem PySem.Spec PyProof.Rows L2 LamX NdefX ClX Evl StX
abbrev sErr : Stmt := top 16
theorem scErr : FnScope ["_law_call", "e", "_law_kinds", "_law_name"] ["_law_call"] (defScope sErr) := ⟨rfl, rfl, rfl, by decide +kernel, rfl, by decide +kernel, by decide +kernel⟩
/-- the classes of errors cs 0 .. cs 6, their parent cP -/
structure TEr (K : PySem.W.Frag) (mg : Str → Option Value) (cP : Addr) (cs : Nat → Addr) : Prop where
  g0 : mg "InvalidTariff" = some (.ref (cs 0))
  g1 : mg "InvalidTravel" = some (.ref (cs 1))
  g2 : mg "InvalidCount" = some (.ref (cs 2))
  g3 : mg "UnknownPass" = some (.ref (cs 3))
  g4 : mg "InvalidPrices" = some (.ref (cs 4))
  g5 : mg "InvalidPlan" = some (.ref (cs 5))
  g6 : mg "Contradiction" = some (.ref (cs 6))
  gP : mg "PassError" = some (.ref cP)
  mI : mg "isinstance" = none
  mV : mg "ValueError" = none
  e0 : ExcC K (cs 0)
  e3 : ExcC K (cs 3)
  f0 : XfC K (cs 0)
  n0 : PySem.W.findIn K (.ref (cs 0)) "index" = some none
  k0 : ∀ i, i < 7 → PySem.W.kitOne K (.ref (cs 0)) (.ref (cs i)) = some (decide (i = 0))
  k3 : ∀ i, i < 7 → PySem.W.kitOne K (.ref (cs 3)) (.ref (cs i)) = some (decide (i = 3))
  v0 : PySem.W.kitOne K (.ref (cs 0)) (.type "ValueError") = some true
  v3 : PySem.W.kitOne K (.ref (cs 3)) (.type "ValueError") = some true
  x0 : PySem.W.exmOne K (.ref (cs 0)) (.ref cP) = some true
  x3 : PySem.W.exmOne K (.ref (cs 3)) (.ref cP) = some true
/-- what _law_error answers: of a thunk that gives a value; of one that raises -/
def spErr (cI cU : Addr) : (Hp → VK → XK → Prop) → Hp → VK → XK → Prop := fun tl H Q _ => tl H (fun _ H1 => ∀ r H', Same H1 H' → H' r = some (.tup [.str "none"]) → Q (.ref r) H')
  (fun cls d H1 => (cls = .ref cI ∧ ∃ (dx : Addr) (i : Int), d = some dx ∧ H1 dx = some (.xd [("index", .int i)]) ∧ ∀ r H', Same H1 H' → H' r = some (.tup [.str "tariff", .int i]) → Q (.ref r) H') ∨
    (cls = .ref cU ∧ d = none ∧ ∀ r H', Same H1 H' → H' r = some (.tup [.str "pass"]) → Q (.ref r) H'))
theorem ev_cnt {K : PySem.W.Frag} {σ : L2.St} {H : Hp} {i : Nat} {D : Addr} {ys : List V} (hs : σ[i]? = some (some (.ref D))) (h : H D = some (.lst ys)) (hf : ys.all flatV = true) :
    Ev (tBM K "list" (rCntF K) (tVar i) (tCons (tC (.bl true)) tNil)) σ H (.int (ys.countP (fun z => eqV z (.bl true)) : Nat)) := fun H' e Q q => ⟨_, hs, .inl ⟨rfl, _, SqL.of (e _ _ h)⟩, D, ys, .bl true, rfl, rfl, SqL.of (e _ _ h), rfl, hf, q H' (Ex.refl _)⟩
theorem ev_idx {K : PySem.W.Frag} {σ : L2.St} {H : Hp} {i j : Nat} {D : Addr} {ys : List V} {z : V} (hs : σ[i]? = some (some (.ref D))) (h : H D = some (.lst ys)) (hf : ys.all flatV = true) (hz : ys[j]? = some z) (hq : eqV z (.bl true) = true) (ha : ∀ (m : Nat) (z' : V), m < j → ys[m]? = some z' → eqV z' (.bl true) = false) :
    Ev (tBM K "list" (rIndex K) (tVar i) (tCons (tC (.bl true)) tNil)) σ H (.int (j : Nat)) := fun H' e Q q => ⟨_, hs, .inl ⟨rfl, _, SqL.of (e _ _ h)⟩, D, ys, .bl true, j, z, rfl, rfl, SqL.of (e _ _ h), rfl, hf, hz, hq, ha, q H' (Ex.refl _)⟩
section
variable {P : Program} {w : World} {K : PySem.W.Frag} {mg : Str → Option Value} {base : Heap} {cP : Addr} {cs : Nat → Addr}
theorem ok_err {f : Addr} {fd : FuncData} {j k : Nat} (F : Fun K "_law_error" "_law_error" sErr f fd) (T : TEr K mg cP cs) (hjk : j ≤ k) : FnS P w K mg base CX0 (L2.CX P w) (k + 1) j f (spErr (cs 0) (cs 3)) := by
  intro A outer s H fl tl Q E hr e0 hT h
  obtain ⟨oc, od, kV, doc, pm, an, cdv, ct, osl, rfl, lk, hcd⟩ := F.ex
  refine run_ofS (N := ["_law_call", "e", "_law_kinds", "_law_name"]) (ps := ["_law_call"]) (us := [.ref fl]) (vs := [.ref fl]) (k := k) lk hcd scErr hr e0 (.of_eq rfl) (.cons rfl .nil) rfl fun hr' => ?_
  refine ⟨_, pss_cons (ps_try_as (X := cxOf CX0 P w K mg base ["_law_call", "e", "_law_kinds", "_law_name"] "_law_error" (defScope sErr) f cdv A outer s H E) (i := 1) (c := .ref cP) (Wout := fun _ _ _ _ => False) rfl rfl scErr.nd rfl rfl ⟨by rfl, by decide, .inl T.gP⟩ L2.takes0
      (fun W pn xe tk hp => pss_one (ps_expr (show PE ((cxOf CX0 P w K mg base ["_law_call", "e", "_law_kinds", "_law_name"] "_law_error" (defScope sErr) f cdv A outer s H E).tr pn xe) _ (tActM (cxOf CX0 P w K mg base ["_law_call", "e", "_law_kinds", "_law_name"] "_law_error" (defScope sErr) f cdv A outer s H E) j 0 fun σ => WE W σ) from pe_actM (X := (cxOf CX0 P w K mg base ["_law_call", "e", "_law_kinds", "_law_name"] "_law_error" (defScope sErr) f cdv A outer s H E).tr pn xe) (j := j) (i := 0) (E := fun σ => WE W σ) (hr'.mono hjk) rfl (fun σ => passAt tk σ) rfl (.inl rfl))))
      (fun a oe cls d pn hz hf => (pss_cons (ps_set (i := 2) scErr.nd rfl (.inl rfl) (pe_lst (pa_cons (pe_callB (call_isX (X := (cxOf CX0 P w K mg base ["_law_call", "e", "_law_kinds", "_law_name"] "_law_error" (defScope sErr) f cdv A outer s H E)) (pn := pn) K rfl hz hf) (by rfl) T.mI PyProof.Rows.boot_isinstance (pa_cons (pv 1) (pa_cons (pe_glob (v := .ref (cs 0)) (by rfl) T.g0 rfl) pa_nil))) (pa_cons (pe_callB (call_isX (X := (cxOf CX0 P w K mg base ["_law_call", "e", "_law_kinds", "_law_name"] "_law_error" (defScope sErr) f cdv A outer s H E)) (pn := pn) K rfl hz hf) (by rfl) T.mI PyProof.Rows.boot_isinstance (pa_cons (pv 1) (pa_cons (pe_glob (v := .ref (cs 1)) (by rfl) T.g1 rfl) pa_nil))) (pa_cons (pe_callB (call_isX (X := (cxOf CX0 P w K mg base ["_law_call", "e", "_law_kinds", "_law_name"] "_law_error" (defScope sErr) f cdv A outer s H E)) (pn := pn) K rfl hz hf) (by rfl) T.mI PyProof.Rows.boot_isinstance (pa_cons (pv 1) (pa_cons (pe_glob (v := .ref (cs 2)) (by rfl) T.g2 rfl) pa_nil))) pa_nil)))))
        (pss_cons (ps_expr (pe_bmK K rfl (pe_bm PySem.F.plainAttrs_list PySem.F.slot_list_extend PySem.F.type_list_extend mt_extend (pv 2) (pa_cons (pe_lst (pa_cons (pe_callB (call_isX (X := (cxOf CX0 P w K mg base ["_law_call", "e", "_law_kinds", "_law_name"] "_law_error" (defScope sErr) f cdv A outer s H E)) (pn := pn) K rfl hz hf) (by rfl) T.mI PyProof.Rows.boot_isinstance (pa_cons (pv 1) (pa_cons (pe_glob (v := .ref (cs 3)) (by rfl) T.g3 rfl) pa_nil))) (pa_cons (pe_callB (call_isX (X := (cxOf CX0 P w K mg base ["_law_call", "e", "_law_kinds", "_law_name"] "_law_error" (defScope sErr) f cdv A outer s H E)) (pn := pn) K rfl hz hf) (by rfl) T.mI PyProof.Rows.boot_isinstance (pa_cons (pv 1) (pa_cons (pe_glob (v := .ref (cs 4)) (by rfl) T.g4 rfl) pa_nil))) (pa_cons (pe_callB (call_isX (X := (cxOf CX0 P w K mg base ["_law_call", "e", "_law_kinds", "_law_name"] "_law_error" (defScope sErr) f cdv A outer s H E)) (pn := pn) K rfl hz hf) (by rfl) T.mI PyProof.Rows.boot_isinstance (pa_cons (pv 1) (pa_cons (pe_glob (v := .ref (cs 5)) (by rfl) T.g5 rfl) pa_nil))) pa_nil)))) pa_nil))))
        (pss_cons (ps_expr (pe_bmK K rfl (pe_bm PySem.F.plainAttrs_list PySem.F.slot_list_append PySem.F.type_list_append mt_append (pv 2) (pa_cons (pe_callB (call_isX (X := (cxOf CX0 P w K mg base ["_law_call", "e", "_law_kinds", "_law_name"] "_law_error" (defScope sErr) f cdv A outer s H E)) (pn := pn) K rfl hz hf) (by rfl) T.mI PyProof.Rows.boot_isinstance (pa_cons (pv 1) (pa_cons (pe_glob (v := .ref (cs 6)) (by rfl) T.g6 rfl) pa_nil))) pa_nil))))
        (pss_cons (ps_if (PW.pt (pw_or (pt_cmpR op_ne (pe_bmK K rfl (pe_bm PySem.F.plainAttrs_list PySem.F.slot_list_count PySem.F.type_list_count (mt_countK K rfl) (pv 2) (pa_cons pe_bl pa_nil))) pe_int (nomark _)) (pw_or1 (pt_not (pt_val (pe_callB (call_isX (X := (cxOf CX0 P w K mg base ["_law_call", "e", "_law_kinds", "_law_name"] "_law_error" (defScope sErr) f cdv A outer s H E)) (pn := pn) K rfl hz hf) (by rfl) T.mI PyProof.Rows.boot_isinstance (pa_cons (pv 1) (pa_cons (pe_bltn (v := .ty "ValueError") (by rfl) T.mV (by decide +kernel) rfl) pa_nil)))))))) (pss_one (ps_ret (pe_tup (pa_cons pe_str pa_nil)))) pss_nil)
        (pss_cons (ps_set (i := 3) scErr.nd rfl (.inl rfl) (pe_ixlK K rfl (pe_lst (pa_cons pe_str (pa_cons pe_str (pa_cons pe_str (pa_cons pe_str (pa_cons pe_str (pa_cons pe_str (pa_cons pe_str pa_nil)))))))) (pe_bmK K rfl (pe_bm PySem.F.plainAttrs_list PySem.F.slot_list_index PySem.F.type_list_index (mt_indexK K rfl) (pv 2) (pa_cons pe_bl pa_nil)))))
        (pss_cons (ps_if (pt_cmpR op_eq (pv 3) pe_str (nomark _)) (pss_one (ps_ret (pe_tup (pa_cons (pv 3) (pa_cons (pe_xf (X := (cxOf CX0 P w K mg base ["_law_call", "e", "_law_kinds", "_law_name"] "_law_error" (defScope sErr) f cdv A outer s H E)) (pn := pn) K rfl hz hf (pv 1)) (pa_cons (pe_xf (X := (cxOf CX0 P w K mg base ["_law_call", "e", "_law_kinds", "_law_name"] "_law_error" (defScope sErr) f cdv A outer s H E)) (pn := pn) K rfl hz hf (pv 1)) pa_nil)))))) pss_nil)
        (pss_one (ps_ret (pe_ifExp (pt_cmpR (op_inK K rfl) (pv 3) (pe_tup (pa_cons pe_str (pa_cons pe_str (pa_cons pe_str pa_nil)))) (by rfl)) (pe_tup (pa_cons (pv 3) (pa_cons (pe_xf (X := (cxOf CX0 P w K mg base ["_law_call", "e", "_law_kinds", "_law_name"] "_law_error" (defScope sErr) f cdv A outer s H E)) (pn := pn) K rfl hz hf (pv 1)) pa_nil))) (pe_tup (pa_cons (pv 3) pa_nil)))))))))))))
    (pss_one (ps_ret (pe_tup (pa_cons pe_str pa_nil)))), ?_⟩
  refine ⟨fl, tl, _, _, rfl, rfl, hT, h, fun v H1 q => ⟨Nat.le_of_lt (small1000 (show 1 ≤ 1000 by decide)), fun r nr => q r _ (same_new nr) upd_same⟩, fun cls d H1 hc => ?_⟩
  rcases hc with ⟨rfl, dx, i, rfl, hx, q⟩ | ⟨rfl, rfl, q⟩
  · have hdx : ∀ H', Ex H1 H' → ∀ dx', some dx = some dx' → ∃ fs, H' dx' = some (.xd fs) := fun H' e dx' he => by
      cases he
      exact ⟨_, e _ _ hx⟩
    refine ⟨true, T.x0, fun _ a na => ?_, fun z => by cases z⟩
    refine q_asgL (el_lst (ea_cons (ev_isX (c := .ref (cs 0)) (cv := .ref (cs 0)) rfl T.e0 (fun _ r => r) (T.k0 0 (by decide)) (hdx _ (Ex.refl _)) rfl) (ea_cons (ev_isX (c := .ref (cs 1)) (cv := .ref (cs 1)) rfl T.e0 (fun _ r => r) (T.k0 1 (by decide)) (hdx _ (Ex.refl _)) rfl) (ea_cons (ev_isX (c := .ref (cs 2)) (cv := .ref (cs 2)) rfl T.e0 (fun _ r => r) (T.k0 2 (by decide)) (hdx _ (Ex.refl _)) rfl) ea_nil))) (by decide)) fun D H2 nD e2 hD => ?_
    refine ⟨.ref D, rfl, .inl ⟨rfl, _, SqL.of hD⟩, ?_⟩
    refine (el_lst (ea_cons (ev_isX (c := .ref (cs 3)) (cv := .ref (cs 3)) rfl T.e0 (fun _ r => r) (T.k0 3 (by decide)) (hdx _ (e2)) rfl) (ea_cons (ev_isX (c := .ref (cs 4)) (cv := .ref (cs 4)) rfl T.e0 (fun _ r => r) (T.k0 4 (by decide)) (hdx _ (e2)) rfl) (ea_cons (ev_isX (c := .ref (cs 5)) (cv := .ref (cs 5)) rfl T.e0 (fun _ r => r) (T.k0 5 (by decide)) (hdx _ (e2)) rfl) ea_nil))) (by decide)) H2 (Ex.refl _) _ fun p H3 np e3 hp => ?_
    refine ⟨D, p, _, _, rfl, rfl, e3 _ _ hD, hp, Nat.le_of_lt (small1000 (show 6 ≤ 1000 by decide)), ?_⟩
    have e4 : Ex H1 (upd H3 D (.lst ([V.bl (decide (0 = 0)), V.bl (decide (1 = 0)), V.bl (decide (2 = 0))] ++ [V.bl (decide (3 = 0)), V.bl (decide (4 = 0)), V.bl (decide (5 = 0))]))) := Ex.mut (e2.trans e3) nD
    refine ⟨.ref D, rfl, .inl ⟨rfl, _, SqL.of upd_same⟩, ?_⟩
    refine (ev_isX (c := .ref (cs 6)) (cv := .ref (cs 6)) rfl T.e0 (fun _ r => r) (T.k0 6 (by decide)) (hdx _ (e4)) rfl) _ (Ex.refl _) _ fun H5 e5 => ?_
    refine ⟨D, _, _, rfl, rfl, e5 _ _ upd_same, small1000 (show 6 ≤ 1000 by decide), ?_⟩
    have e6 : Ex H1 (upd H5 D (.lst (([V.bl (decide (0 = 0)), V.bl (decide (1 = 0)), V.bl (decide (2 = 0))] ++ [V.bl (decide (3 = 0)), V.bl (decide (4 = 0)), V.bl (decide (5 = 0))]) ++ [V.bl (decide (6 = 0))]))) := Ex.mut (e4.trans e5) nD
    have h6 : (upd H5 D (.lst (([V.bl (decide (0 = 0)), V.bl (decide (1 = 0)), V.bl (decide (2 = 0))] ++ [V.bl (decide (3 = 0)), V.bl (decide (4 = 0)), V.bl (decide (5 = 0))]) ++ [V.bl (decide (6 = 0))]))) D = some (.lst [V.bl (decide (0 = 0)), V.bl (decide (1 = 0)), V.bl (decide (2 = 0)), V.bl (decide (3 = 0)), V.bl (decide (4 = 0)), V.bl (decide (5 = 0)), V.bl (decide (6 = 0))]) := upd_same
    revert e6 h6
    generalize (upd H5 D (.lst (([V.bl (decide (0 = 0)), V.bl (decide (1 = 0)), V.bl (decide (2 = 0))] ++ [V.bl (decide (3 = 0)), V.bl (decide (4 = 0)), V.bl (decide (5 = 0))]) ++ [V.bl (decide (6 = 0))]))) = H6
    intro e6 h6
    dsimp only
    refine q_when (b := false) (et_is (et_or (a := false) (et_is (et_test (ev_op (ev_cnt rfl h6 rfl) ev_c (rv_ne rfl))) (by decide +kernel)) fun _ => et_not (et_B (ev_isX (c := .ty "ValueError") (cv := .type "ValueError") rfl T.e0 (fun _ r => r) T.v0 (hdx _ e6) rfl))) rfl) (fun z => by cases z) fun _ H7 e7 => ?_
    refine q_asg (v := .str "tariff") (ev_opL1 (y := .int ((0 : Nat) : Int)) (el_lst (ea_cons ev_c (ea_cons ev_c (ea_cons ev_c (ea_cons ev_c (ea_cons ev_c (ea_cons ev_c (ea_cons ev_c ea_nil))))))) (by decide)) (fun H8 e8 => ev_idx (z := .bl true) rfl ((e7.trans e8) _ _ h6) rfl rfl rfl (fun m z hm _ => absurd hm (Nat.not_lt_zero _))) fun p8 H8 h8 _ => rv_ixL (SqL.of h8) rfl) fun H9 e9 => ?_
    refine q_when (b := false) (et_is (et_test (ev_op (ev_var rfl) ev_c (rv_eq rfl))) (by decide +kernel)) (fun z => by cases z) fun _ H10 e10 => ?_
    refine s_retIf (b := true) (et_is (et_test (ev_inU (ev_var rfl) (eu_tup (ea_cons ev_c (ea_cons ev_c (ea_cons ev_c ea_nil))) (by decide)) rfl rfl)) (by decide +kernel)) (fun _ H11 e11 => ?_) (fun z => by cases z)
    refine ⟨_, rfl, cs 0, rfl, T.f0, T.n0, .ref a, rfl, rfl, rfl, dx, _, _, rfl, ((((e6.trans e7).trans e9).trans e10).trans e11) _ _ hx, rfl, Nat.le_of_lt (small1000 (show 2 ≤ 1000 by decide)), fun r nr => q r _ (Same.trans ((((e6.trans e7).trans e9).trans e10).trans e11) (same_new nr)) upd_same⟩
  · have hdx : ∀ H', Ex H1 H' → ∀ dx', (none : Option Addr) = some dx' → ∃ fs, H' dx' = some (.xd fs) := fun H' e dx' he => by cases he
    refine ⟨true, T.x3, fun _ a na => ?_, fun z => by cases z⟩
    refine q_asgL (el_lst (ea_cons (ev_isX (c := .ref (cs 0)) (cv := .ref (cs 0)) rfl T.e3 (fun _ r => r) (T.k3 0 (by decide)) (hdx _ (Ex.refl _)) rfl) (ea_cons (ev_isX (c := .ref (cs 1)) (cv := .ref (cs 1)) rfl T.e3 (fun _ r => r) (T.k3 1 (by decide)) (hdx _ (Ex.refl _)) rfl) (ea_cons (ev_isX (c := .ref (cs 2)) (cv := .ref (cs 2)) rfl T.e3 (fun _ r => r) (T.k3 2 (by decide)) (hdx _ (Ex.refl _)) rfl) ea_nil))) (by decide)) fun D H2 nD e2 hD => ?_
    refine ⟨.ref D, rfl, .inl ⟨rfl, _, SqL.of hD⟩, ?_⟩
    refine (el_lst (ea_cons (ev_isX (c := .ref (cs 3)) (cv := .ref (cs 3)) rfl T.e3 (fun _ r => r) (T.k3 3 (by decide)) (hdx _ (e2)) rfl) (ea_cons (ev_isX (c := .ref (cs 4)) (cv := .ref (cs 4)) rfl T.e3 (fun _ r => r) (T.k3 4 (by decide)) (hdx _ (e2)) rfl) (ea_cons (ev_isX (c := .ref (cs 5)) (cv := .ref (cs 5)) rfl T.e3 (fun _ r => r) (T.k3 5 (by decide)) (hdx _ (e2)) rfl) ea_nil))) (by decide)) H2 (Ex.refl _) _ fun p H3 np e3 hp => ?_
    refine ⟨D, p, _, _, rfl, rfl, e3 _ _ hD, hp, Nat.le_of_lt (small1000 (show 6 ≤ 1000 by decide)), ?_⟩
    have e4 : Ex H1 (upd H3 D (.lst ([V.bl (decide (0 = 3)), V.bl (decide (1 = 3)), V.bl (decide (2 = 3))] ++ [V.bl (decide (3 = 3)), V.bl (decide (4 = 3)), V.bl (decide (5 = 3))]))) := Ex.mut (e2.trans e3) nD
    refine ⟨.ref D, rfl, .inl ⟨rfl, _, SqL.of upd_same⟩, ?_⟩
    refine (ev_isX (c := .ref (cs 6)) (cv := .ref (cs 6)) rfl T.e3 (fun _ r => r) (T.k3 6 (by decide)) (hdx _ (e4)) rfl) _ (Ex.refl _) _ fun H5 e5 => ?_
    refine ⟨D, _, _, rfl, rfl, e5 _ _ upd_same, small1000 (show 6 ≤ 1000 by decide), ?_⟩
    have e6 : Ex H1 (upd H5 D (.lst (([V.bl (decide (0 = 3)), V.bl (decide (1 = 3)), V.bl (decide (2 = 3))] ++ [V.bl (decide (3 = 3)), V.bl (decide (4 = 3)), V.bl (decide (5 = 3))]) ++ [V.bl (decide (6 = 3))]))) := Ex.mut (e4.trans e5) nD
    have h6 : (upd H5 D (.lst (([V.bl (decide (0 = 3)), V.bl (decide (1 = 3)), V.bl (decide (2 = 3))] ++ [V.bl (decide (3 = 3)), V.bl (decide (4 = 3)), V.bl (decide (5 = 3))]) ++ [V.bl (decide (6 = 3))]))) D = some (.lst [V.bl (decide (0 = 3)), V.bl (decide (1 = 3)), V.bl (decide (2 = 3)), V.bl (decide (3 = 3)), V.bl (decide (4 = 3)), V.bl (decide (5 = 3)), V.bl (decide (6 = 3))]) := upd_same
    revert e6 h6
    generalize (upd H5 D (.lst (([V.bl (decide (0 = 3)), V.bl (decide (1 = 3)), V.bl (decide (2 = 3))] ++ [V.bl (decide (3 = 3)), V.bl (decide (4 = 3)), V.bl (decide (5 = 3))]) ++ [V.bl (decide (6 = 3))]))) = H6
    intro e6 h6
    dsimp only
    refine q_when (b := false) (et_is (et_or (a := false) (et_is (et_test (ev_op (ev_cnt rfl h6 rfl) ev_c (rv_ne rfl))) (by decide +kernel)) fun _ => et_not (et_B (ev_isX (c := .ty "ValueError") (cv := .type "ValueError") rfl T.e3 (fun _ r => r) T.v3 (hdx _ e6) rfl))) rfl) (fun z => by cases z) fun _ H7 e7 => ?_
    refine q_asg (v := .str "pass") (ev_opL1 (y := .int ((3 : Nat) : Int)) (el_lst (ea_cons ev_c (ea_cons ev_c (ea_cons ev_c (ea_cons ev_c (ea_cons ev_c (ea_cons ev_c (ea_cons ev_c ea_nil))))))) (by decide)) (fun H8 e8 => ev_idx (z := .bl true) rfl ((e7.trans e8) _ _ h6) rfl rfl rfl (fun m z hm hz => by
        rcases m with _ | _ | _ | m
        · cases hz
          rfl
        · cases hz
          rfl
        · cases hz
          rfl
        · omega)) fun p8 H8 h8 _ => rv_ixL (SqL.of h8) rfl) fun H9 e9 => ?_
    refine q_when (b := false) (et_is (et_test (ev_op (ev_var rfl) ev_c (rv_eq rfl))) (by decide +kernel)) (fun z => by cases z) fun _ H10 e10 => ?_
    refine s_retIf (b := false) (et_is (et_test (ev_inU (ev_var rfl) (eu_tup (ea_cons ev_c (ea_cons ev_c (ea_cons ev_c ea_nil))) (by decide)) rfl rfl)) (by decide +kernel)) (fun z => by cases z) (fun _ H11 e11 => ?_)
    refine ⟨_, rfl, Nat.le_of_lt (small1000 (show 1 ≤ 1000 by decide)), fun r nr => q r _ (Same.trans ((((e6.trans e7).trans e9).trans e10).trans e11) (same_new nr)) upd_same⟩
end
end Sea

set_option Elab.async false
set_option linter.all false
set_option maxRecDepth 100000
set_option maxHeartbeats 4000000
namespace Sea
open PySem PySem.Spec PyProof.Rows L2 LamX NdefX ClX Evl StX
abbrev sAl : Stmt := top 15
theorem scAl : FnScope ["_law_found", "_law_due", "_law_k"] ["_law_found", "_law_due"] (defScope sAl) := ⟨rfl, rfl, rfl, by decide +kernel, rfl, by decide +kernel, by decide +kernel⟩
theorem pe_ixsK {X : Cx} {a b : Expr} {ta tb : TE} {pos : Pos} (K : PySem.W.Frag) (hK : X.K = K) (ha : PE X a ta) (hb : PE X b tb) (hs : PlainIx b := by exact fun _ _ => rfl) : PE X (.Subscript a b pos) (tOp (rIx K) ta tb) := by
  subst hK
  exact pe_ix ix_seq ha hb hs
mutual
theorem dp_ex {K : PySem.W.Frag} {H H' : Hp} (e : Ex H H') : ∀ {v : V} {d : PyData}, Dp K H v d → Dp K H' v d
  | _, _, .non => .non
  | _, _, .bl b => .bl b
  | _, _, .int i => .int i
  | _, _, .str x => .str x
  | _, _, .lst h a => .lst (ex_l e h) (dps_ex e a)
  | _, _, .tup h a => .tup (ex_t e h) (dps_ex e a)
theorem dps_ex {K : PySem.W.Frag} {H H' : Hp} (e : Ex H H') : ∀ {vs : List V} {ds : List PyData}, DpAll K H vs ds → DpAll K H' vs ds
  | _, _, .nil => .nil
  | _, _, .cons a b => .cons (dp_ex e a) (dps_ex e b)
end
theorem dps_len {K : PySem.W.Frag} {H : Hp} : ∀ {vs : List V} {ds : List PyData}, DpAll K H vs ds → vs.length = ds.length
  | _, _, .nil => rfl
  | _, _, .cons _ b => by rw [List.length_cons, List.length_cons, dps_len b]
theorem dps_get {K : PySem.W.Frag} {H : Hp} : ∀ {vs : List V} {ds : List PyData}, DpAll K H vs ds → ∀ {i : Nat}, i < ds.length → ∃ v d, vs[i]? = some v ∧ ds[i]? = some d ∧ Dp K H v d
  | _, _, .nil, i, hi => absurd hi (Nat.not_lt_zero _)
  | _, _, .cons (v := v) (d := d) a b, 0, _ => ⟨v, d, rfl, rfl, a⟩
  | _, _, .cons a b, i + 1, hi => by simpa using dps_get b (i := i) (by simpa using hi)
/-- whole numbers in lists and tuples -/
inductive IntD : Nat → PyData → Prop
  | int (n : Nat) (i : Int) : IntD n (.int i)
  | lst {n : Nat} {ds : List PyData} (h : ∀ (i : Nat) (d : PyData), ds[i]? = some d → IntD n d) (hl : ds.length ≤ 1000) : IntD (n + 1) (.list ds)
  | tup {n : Nat} {ds : List PyData} (h : ∀ (i : Nat) (d : PyData), ds[i]? = some d → IntD n d) (hl : ds.length ≤ 1000) : IntD (n + 1) (.tuple ds)
/-- equal data are alike -/
def spAl (K : PySem.W.Frag) (n : Nat) : Sp := fun vs H Q _ => ∃ (m : Nat) (x y : V) (d : PyData), m < n ∧ vs = [x, y] ∧ Dp K H x d ∧ Dp K H y d ∧ IntD m d ∧ ∀ H', Same H H' → Q (.bl true) H'
structure TAl (K : PySem.W.Frag) (mg : Str → Option Value) (fA : Addr) (fdA : FuncData) : Prop where
  g : mg "_law_alike" = some (.ref fA)
  kp : PySem.W.keepIn K (.ref fA) = true
  fu : Fun K "_law_alike" "_law_alike" sAl fA fdA
  mI : mg "isinstance" = none
  mN : mg "len" = none
  mR : mg "range" = none
  m_dict : mg "dict" = none
  m_list : mg "list" = none
  m_tuple : mg "tuple" = none
  m_str : mg "str" = none
  m_int : mg "int" = none
  m_bool : mg "bool" = none
theorem ev_isi {K : PySem.W.Frag} {σ : L2.St} {H : Hp} {i : Nat} {x : V} {t : Value} {n : String} {b : Bool} (hs : σ[i]? = some (some x)) (ty : ∀ H1, Ex H H1 → TyX K H1 x t) (h : PySem.W.kitOne K t (.type n) = some b) : Ev (tCB (rIsi K) (tCons (tVar i) (tCons (tC (.ty n)) tNil))) σ H (.bl b) :=
  fun H1 e Q q => ⟨_, hs, x, .ty n, t, .type n, b, rfl, .ty n, ty H1 e, h, q H1 (Ex.refl _)⟩
theorem ev_isiT {K : PySem.W.Frag} {σ : L2.St} {H : Hp} {i : Nat} {x : V} {t : Value} {b : Bool} (hs : σ[i]? = some (some x)) (ty : ∀ H1, Ex H H1 → TyX K H1 x t) (h : PySem.W.kitAny K t [.type "tuple", .type "list"] = some b) :
    Ev (tCB (rIsiT K) (tCons (tVar i) (tCons (tTup (tCons (tC (.ty "tuple")) (tCons (tC (.ty "list")) tNil))) tNil))) σ H (.bl b) :=
  fun H1 e Q q => ⟨_, hs, Nat.le_of_lt (small1000 (show 2 ≤ 1000 by decide)), fun p np => ⟨x, p, _, t, _, b, rfl, upd_same, .cons (.ty _) (.cons (.ty _) .nil), ty _ (e.trans (Ex.new np)), h, q _ (Ex.new np)⟩⟩
theorem tyx_lst {K : PySem.W.Frag} {H : Hp} {a : Addr} {xs : List V} (h : SqL K H a xs) : TyX K H (.ref a) (.type "list") := by
  rcases h with (h | ⟨o, h⟩) | ⟨o, its, n, hk, hc, _⟩
  · exact .base (.lst h)
  · exact .base (.frz h)
  · exact .kList hk hc
theorem tyx_tup {K : PySem.W.Frag} {H : Hp} {a : Addr} {xs : List V} (h : SqT K H a xs) : TyX K H (.ref a) (.type "tuple") := by
  rcases h with (h | ⟨o, h⟩) | ⟨o, its, n, hk, hc, _⟩
  · exact .base (.tup h)
  · exact .fTuple h
  · exact .kTuple hk hc
theorem ka_list {K : PySem.W.Frag} : PySem.W.kitAny K (.type "list") [.type "tuple", .type "list"] = some true := kitAny_cons (b := false) (kit_ty (by decide +kernel)) (fun _ => kitAny_cons (b := true) (kit_ty (by decide +kernel)) (fun z => by cases z) fun _ => rfl) (fun z => by cases z)
theorem ka_tuple {K : PySem.W.Frag} : PySem.W.kitAny K (.type "tuple") [.type "tuple", .type "list"] = some true := kitAny_cons (b := true) (kit_ty (by decide +kernel)) (fun z => by cases z) fun _ => rfl
theorem ka_int {K : PySem.W.Frag} : PySem.W.kitAny K (.type "int") [.type "tuple", .type "list"] = some false := kitAny_cons (b := false) (kit_ty (by decide +kernel)) (fun _ => kitAny_cons (b := false) (kit_ty (by decide +kernel)) (fun _ => rfl) (fun z => by cases z)) (fun z => by cases z)
theorem ev_lenS {K : PySem.W.Frag} {σ : L2.St} {H : Hp} {i : Nat} {p : Addr} {xs : List V} (hs : σ[i]? = some (some (.ref p))) (h : SqL K H p xs ∨ SqT K H p xs) : Ev (tCB (fun xs H Q => ∃ p ys, xs = [V.ref p] ∧ (SqL K H p ys ∨ SqT K H p ys) ∧ Q (.int ys.length) H) (tCons (tVar i) tNil)) σ H (.int (xs.length : Int)) := fun H1 e Q q =>
  ⟨_, hs, p, xs, rfl, h.elim (fun h => .inl (ex_l e h)) (fun h => .inr (ex_t e h)), q H1 (Ex.refl _)⟩
theorem given_none (n : Nat) (v : Nat → V) : given n (fun _ => false) v = [] := by
  unfold given
  simp
theorem at_nat {α : Type} {xs : List α} {i : Nat} {v : α} (hi : i < xs.length) (h : xs[i]? = some v) : atI xs ((i : Nat) : Int) = some v := by
  unfold atI
  rw [ixN_nat hi]
  exact h
section
variable {P : Program} {w : World} {K : PySem.W.Frag} {mg : Str → Option Value} {base : Heap} {fA : Addr} {fdA : FuncData}
theorem ok_al (T : TAl K mg fA fdA) : ∀ n, FnOk P w K mg base CX0 n fA fdA ["_law_found", "_law_due"] (spAl K n)
  | 0 => ⟨fun vs H Q E h => by obtain ⟨m, _, _, _, hm, _⟩ := h; exact absurd hm (Nat.not_lt_zero _), by
      intros
      rename_i h
      obtain ⟨m, _, _, _, hm, _⟩ := h
      exact absurd hm (Nat.not_lt_zero _)⟩
  | n + 1 => by
    have ih := ok_al T n
    have bA : Binds K fdA ["_law_found", "_law_due"] [] := T.fu.binds (ps := ["_law_found", "_law_due"]) fun _ _ _ _ _ _ us hl => match us, hl with | [_, _], _ => rfl
    refine T.fu.ok scAl (fun vs H Q E h => ?_) (fun cdv A outer s H vs Q E hr h => ?_)
    · obtain ⟨m, x, y, d, hm, rfl, _⟩ := h
      rfl
    · obtain ⟨m, x, y, d, hm, rfl, h1, h2, hd, q⟩ := h
      have hu := hr.units
      refine ⟨_, pss_cons (ps_if (pt_val (pe_callB call_isi (by rfl) T.mI PyProof.Rows.boot_isinstance (pa_cons (pv 1) (pa_cons (pe_bltn (v := .ty "dict") (by rfl) T.m_dict (by decide +kernel) rfl) pa_nil)))) pss_never pss_nil)
      (pss_cons (ps_if (pt_val (pe_callB call_isiT (by rfl) T.mI PyProof.Rows.boot_isinstance (pa_cons (pv 1) (pa_cons (pe_tup (pa_cons (pe_bltn (v := .ty "tuple") (by rfl) T.m_tuple (by decide +kernel) rfl) (pa_cons (pe_bltn (v := .ty "list") (by rfl) T.m_list (by decide +kernel) rfl) pa_nil))) pa_nil)))) (pss_cons (ps_if (PW.pt (pw_or (pt_not (pt_val (pe_callB call_isiT (by rfl) T.mI PyProof.Rows.boot_isinstance (pa_cons (pv 0) (pa_cons (pe_tup (pa_cons (pe_bltn (v := .ty "tuple") (by rfl) T.m_tuple (by decide +kernel) rfl) (pa_cons (pe_bltn (v := .ty "list") (by rfl) T.m_list (by decide +kernel) rfl) pa_nil))) pa_nil))))) (pw_or1 (pt_cmpR op_ne (pe_callB call_isi (by rfl) T.mI PyProof.Rows.boot_isinstance (pa_cons (pv 0) (pa_cons (pe_bltn (v := .ty "list") (by rfl) T.m_list (by decide +kernel) rfl) pa_nil))) (pe_callB call_isi (by rfl) T.mI PyProof.Rows.boot_isinstance (pa_cons (pv 1) (pa_cons (pe_bltn (v := .ty "list") (by rfl) T.m_list (by decide +kernel) rfl) pa_nil))) (nomark _))))) pss_never pss_nil)
        (pss_cons (ps_if (pt_cmpR op_ne (pe_callB call_len_seq (by rfl) T.mN PySem.boot_len (pa_cons (pv 0) pa_nil)) (pe_callB call_len_seq (by rfl) T.mN PySem.boot_len (pa_cons (pv 1) pa_nil)) (nomark _)) pss_never pss_nil)
        (pss_one (ps_ret (pe_cmpR (op_eqD hu) (pe_lc (X := (cxOf CX0 P w K mg base ["_law_found", "_law_due", "_law_k"] "_law_alike" (defScope sAl) fA cdv A outer s H E).nox) (own := [("_law_k", 2)]) (g := gName 2) (by rfl) scAl.nd (pi_range1 (by rfl) T.mR (pa_cons (pe_callB call_len_seq (by rfl) T.mN PySem.boot_len (pa_cons (pv 1) pa_nil)) pa_nil))
          (blkOk_by (own := [("_law_k", 2)]) (N := ["_law_found", "_law_due", "_law_k"]) (sc := defScope sAl) (by decide +kernel)) (fun _ _ _ _ _ => pg_name (i := 2) scAl.nd rfl (Or.inl rfl))
          (fun _ _ _ _ _ => pts_one (pt_not (pt_val (pe_call (E := E0) ih hr (by rfl) T.g T.kp bA .nil pass0 (pa_cons (pe_ixsK K rfl (pv 0) (pv 2)) (pa_cons (pe_ixsK K rfl (pv 1) (pv 2)) pa_nil)))))) (fun _ _ _ _ _ => pv 2)) (pe_lst pa_nil) (nomark _)))))) pss_nil)
      (pss_cons (ps_if (PW.pt (pw_or (pt_cmpR op_isN (pv 1) pe_non (nomark _)) (pw_or1 (pt_val (pe_callB call_isi (by rfl) T.mI PyProof.Rows.boot_isinstance (pa_cons (pv 1) (pa_cons (pe_bltn (v := .ty "str") (by rfl) T.m_str (by decide +kernel) rfl) pa_nil))))))) pss_never pss_nil)
      (pss_one (ps_ret (pe_and (pe_callB call_isi (by rfl) T.mI PyProof.Rows.boot_isinstance (pa_cons (pv 0) (pa_cons (pe_bltn (v := .ty "int") (by rfl) T.m_int (by decide +kernel) rfl) pa_nil))) (pe_and (pe_cmpR op_eq (pe_callB call_isi (by rfl) T.mI PyProof.Rows.boot_isinstance (pa_cons (pv 0) (pa_cons (pe_bltn (v := .ty "bool") (by rfl) T.m_bool (by decide +kernel) rfl) pa_nil))) (pe_callB call_isi (by rfl) T.mI PyProof.Rows.boot_isinstance (pa_cons (pv 1) (pa_cons (pe_bltn (v := .ty "bool") (by rfl) T.m_bool (by decide +kernel) rfl) pa_nil))) (nomark _)) (pe_one (pe_cmpR op_eq (pv 0) (pv 1) (nomark _))))))))), ?_⟩
      dsimp only
      cases hd with
      | int m i =>
        cases h1
        cases h2
        refine q_when (b := false) (et_B (ev_isi rfl (fun H1 _ => .base (.int i)) (kit_ty (by decide +kernel)))) (fun z => by cases z) fun _ H1 e1 => ?_
        refine q_when (b := false) (et_B (ev_isiT rfl (fun H2 _ => .base (.int i)) ka_int)) (fun z => by cases z) fun _ H2 e2 => ?_
        refine q_when (b := false) (et_is (et_or (a := false) (b := false) (et_is (et_test (ev_op (ev_var rfl) ev_c (fun H3 _ Q3 q3 => ⟨rfl, q3 H3 (Ex.refl _)⟩))) rfl) fun _ => et_B (ev_isi rfl (fun H3 _ => .base (.int i)) (kit_ty (by decide +kernel)))) rfl) (fun z => by cases z) fun _ H3 e3 => ?_
        refine s_ret (v := .bl true) (ev_is (ev_andV (ev_isi (b := true) rfl (fun H3 _ => .base (.int i)) (kit_ty (by decide +kernel))) fun _ => ev_andV (ev_op (ev_isi (b := false) rfl (fun H3 _ => .base (.int i)) (kit_ty (by decide +kernel))) (ev_isi (b := false) rfl (fun H3 _ => .base (.int i)) (kit_ty (by decide +kernel))) (rv_eq rfl)) fun _ => ev_op (ev_var rfl) (ev_var rfl) (rv_eq rfl)) ?_) fun H4 e4 => q H4 (Same.trans ((e1.trans e2).trans e3) e4)
        simp
      | @lst m ds hds hl =>
        cases h1 with
        | @lst a xs _ ha hxs =>
        cases h2 with
        | @lst b ys _ hb hys =>
        have lx := dps_len hxs
        have ly := dps_len hys
        have tx : ∀ H1, Ex H H1 → TyX K H1 (.ref a) (.type "list") := fun H1 e => tyx_lst (ex_l e ha)
        have tyy : ∀ H1, Ex H H1 → TyX K H1 (.ref b) (.type "list") := fun H1 e => tyx_lst (ex_l e hb)
        refine q_when (b := false) (et_B (ev_isi rfl tyy (kit_ty (by decide +kernel)))) (fun z => by cases z) fun _ H1 e1 => ?_
        refine q_when (b := true) (et_B (ev_isiT rfl (fun H2 e2 => tyy H2 (e1.trans e2)) ka_list)) (fun _ H2 e2 => ?_) (fun z => by cases z)
        have e12 := e1.trans e2
        refine q_when (b := false) (et_is (et_or (a := false) (b := false) (et_is (et_not (et_B (ev_isiT rfl (fun H3 e3 => tx H3 (e12.trans e3)) ka_list))) rfl) fun _ => et_is (et_test (ev_op (ev_isi (b := true) rfl (fun H3 e3 => tx H3 (e12.trans e3)) (kit_ty (by decide +kernel))) (ev_isi (b := true) rfl (fun H3 e3 => tyy H3 (e12.trans e3)) (kit_ty (by decide +kernel))) (rv_ne rfl))) (by decide +kernel)) rfl) (fun z => by cases z) fun _ H3 e3 => ?_
        have e13 := e12.trans e3
        refine q_when (b := false) (et_is (et_test (ev_op (ev_lenS rfl (.inl (ex_l e13 ha))) (ev_lenS rfl (.inl (ex_l e13 hb))) (rv_ne rfl))) (by rw [lx, ly]; simp)) (fun z => by cases z) fun _ H4 e4 => ?_
        have e14 := e13.trans e4
        refine s_ret (v := .bl true) (ev_is (ev_opLL (xs := []) (ys := []) ?_ (el_lst ea_nil (by decide)) (fun p r H5 hp hr5 e5 => rv_eqD (d := .list []) (e := .list []) (fun H6 e6 => .lst (.of (e6 _ _ hp)) .nil) (fun H6 e6 => .lst (.of (e6 _ _ hr5)) .nil) rfl rfl)) rfl) fun H5 e5 => q H5 (Same.trans e14 e5)
        have eL := el_lcR1 (n := ((ys.length : Nat) : Int)) (fun _ => false) (fun k => V.int (k : Nat)) (σ := L2.start ["_law_found", "_law_due", "_law_k"] [.ref a, .ref b]) (H := H4) (j := 2) (vs := [2]) (t := tNot (tB (tCall (spAl K n) [] E0 (tCons (tOp (rIx K) (tVar 0) (tVar 2)) (tCons (tOp (rIx K) (tVar 1) (tVar 2)) tNil))))) (te := tVar 2)
          (ta := tCons (tCB (fun xs H Q => ∃ p ys, xs = [V.ref p] ∧ (SqL K H p ys ∨ SqT K H p ys) ∧ Q (.int ys.length) H) (tCons (tVar 1) tNil)) tNil) (ea_cons (ev_lenS rfl (.inl (ex_l e14 hb))) ea_nil) ⟨by omega, by omega⟩ (fun x => rfl) (fun i H5 e5 hi => ?_) (fun i H5 e5 hi _ => ev_var rfl)
        · rw [given_none] at eL
          exact eL
        · have hi2 : i < ds.length := by omega
          obtain ⟨v, d1, gv, gd, dv⟩ := dps_get hxs hi2
          obtain ⟨u, d2, gu, gd2, du⟩ := dps_get hys hi2
          obtain rfl : d1 = d2 := Option.some.inj (gd.symm.trans gd2)
          have e15 := e14.trans e5
          have av : atI xs ((i : Nat) : Int) = some v := at_nat (by rw [lx]; exact hi2) gv
          have au : atI ys ((i : Nat) : Int) = some u := at_nat (by rw [ly]; exact hi2) gu
          refine et_is (et_not (et_B (ev_call (vs := [v, u]) (z := .bl true) (ea_cons (ev_op (ev_var rfl) (ev_var rfl) (fun H6 e6 Q6 q6 => .inl (rv_ixL (ex_l e15 ha) av H6 e6 Q6 q6))) (ea_cons (ev_op (ev_var rfl) (ev_var rfl) (fun H6 e6 Q6 q6 => .inl (rv_ixL (ex_l e15 hb) au H6 e6 Q6 q6))) ea_nil)) ?_))) rfl
          exact fun H6 e6 Q6 q6 E6 => ⟨m, v, u, d1, by omega, rfl, dp_ex (e15.trans e6) dv, dp_ex (e15.trans e6) du, hds i d1 gd, fun H7 s7 => q6 H7 s7⟩
      | @tup m ds hds hl =>
        cases h1 with
        | @tup a xs _ ha hxs =>
        cases h2 with
        | @tup b ys _ hb hys =>
        have lx := dps_len hxs
        have ly := dps_len hys
        have tx : ∀ H1, Ex H H1 → TyX K H1 (.ref a) (.type "tuple") := fun H1 e => tyx_tup (ex_t e ha)
        have tyy : ∀ H1, Ex H H1 → TyX K H1 (.ref b) (.type "tuple") := fun H1 e => tyx_tup (ex_t e hb)
        refine q_when (b := false) (et_B (ev_isi rfl tyy (kit_ty (by decide +kernel)))) (fun z => by cases z) fun _ H1 e1 => ?_
        refine q_when (b := true) (et_B (ev_isiT rfl (fun H2 e2 => tyy H2 (e1.trans e2)) ka_tuple)) (fun _ H2 e2 => ?_) (fun z => by cases z)
        have e12 := e1.trans e2
        refine q_when (b := false) (et_is (et_or (a := false) (b := false) (et_is (et_not (et_B (ev_isiT rfl (fun H3 e3 => tx H3 (e12.trans e3)) ka_tuple))) rfl) fun _ => et_is (et_test (ev_op (ev_isi (b := false) rfl (fun H3 e3 => tx H3 (e12.trans e3)) (kit_ty (by decide +kernel))) (ev_isi (b := false) rfl (fun H3 e3 => tyy H3 (e12.trans e3)) (kit_ty (by decide +kernel))) (rv_ne rfl))) (by decide +kernel)) rfl) (fun z => by cases z) fun _ H3 e3 => ?_
        have e13 := e12.trans e3
        refine q_when (b := false) (et_is (et_test (ev_op (ev_lenS rfl (.inr (ex_t e13 ha))) (ev_lenS rfl (.inr (ex_t e13 hb))) (rv_ne rfl))) (by rw [lx, ly]; simp)) (fun z => by cases z) fun _ H4 e4 => ?_
        have e14 := e13.trans e4
        refine s_ret (v := .bl true) (ev_is (ev_opLL (xs := []) (ys := []) ?_ (el_lst ea_nil (by decide)) (fun p r H5 hp hr5 e5 => rv_eqD (d := .list []) (e := .list []) (fun H6 e6 => .lst (.of (e6 _ _ hp)) .nil) (fun H6 e6 => .lst (.of (e6 _ _ hr5)) .nil) rfl rfl)) rfl) fun H5 e5 => q H5 (Same.trans e14 e5)
        have eL := el_lcR1 (n := ((ys.length : Nat) : Int)) (fun _ => false) (fun k => V.int (k : Nat)) (σ := L2.start ["_law_found", "_law_due", "_law_k"] [.ref a, .ref b]) (H := H4) (j := 2) (vs := [2]) (t := tNot (tB (tCall (spAl K n) [] E0 (tCons (tOp (rIx K) (tVar 0) (tVar 2)) (tCons (tOp (rIx K) (tVar 1) (tVar 2)) tNil))))) (te := tVar 2)
          (ta := tCons (tCB (fun xs H Q => ∃ p ys, xs = [V.ref p] ∧ (SqL K H p ys ∨ SqT K H p ys) ∧ Q (.int ys.length) H) (tCons (tVar 1) tNil)) tNil) (ea_cons (ev_lenS rfl (.inr (ex_t e14 hb))) ea_nil) ⟨by omega, by omega⟩ (fun x => rfl) (fun i H5 e5 hi => ?_) (fun i H5 e5 hi _ => ev_var rfl)
        · rw [given_none] at eL
          exact eL
        · have hi2 : i < ds.length := by omega
          obtain ⟨v, d1, gv, gd, dv⟩ := dps_get hxs hi2
          obtain ⟨u, d2, gu, gd2, du⟩ := dps_get hys hi2
          obtain rfl : d1 = d2 := Option.some.inj (gd.symm.trans gd2)
          have e15 := e14.trans e5
          have av : atI xs ((i : Nat) : Int) = some v := at_nat (by rw [lx]; exact hi2) gv
          have au : atI ys ((i : Nat) : Int) = some u := at_nat (by rw [ly]; exact hi2) gu
          refine et_is (et_not (et_B (ev_call (vs := [v, u]) (z := .bl true) (ea_cons (ev_op (ev_var rfl) (ev_var rfl) (fun H6 e6 Q6 q6 => .inr (.inl (rv_ixT (ex_t e15 ha) av H6 e6 Q6 q6)))) (ea_cons (ev_op (ev_var rfl) (ev_var rfl) (fun H6 e6 Q6 q6 => .inr (.inl (rv_ixT (ex_t e15 hb) au H6 e6 Q6 q6)))) ea_nil)) ?_))) rfl
          exact fun H6 e6 Q6 q6 E6 => ⟨m, v, u, d1, by omega, rfl, dp_ex (e15.trans e6) dv, dp_ex (e15.trans e6) du, hds i d1 gd, fun H7 s7 => q6 H7 s7⟩
end
end Sea

set_option Elab.async false
set_option linter.all false
set_option maxRecDepth 100000
set_option maxHeartbeats 4000000
namespace Sea
open PySem PySem.Spec PyProof.Rows L2 LamX NdefX ClX Evl StX
/-! ### the lambdas of the law, by their places -/
def noE : Expr := .Constant .none 0 ⟨0, 0, 0, 0⟩
def noS : Stmt := .Pass ⟨0, 0, 0, 0⟩
def forB : Stmt → List Stmt
  | .For _ _ b _ _ => b
  | _ => []
def ifB : Stmt → List Stmt
  | .If _ b _ _ => b
  | _ => []
def ifC : Stmt → Expr
  | .If c _ _ _ => c
  | _ => noE
def asgE : Stmt → Expr
  | .Assign _ e _ => e
  | .Expr e _ => e
  | _ => noE
def callA : Expr → Expr
  | .Call _ (a :: _) _ _ => a
  | _ => noE
def lisI (i : Nat) : Expr → Expr
  | .List es _ => es.getD i noE
  | _ => noE
def cmpL : Expr → Expr
  | .Compare l _ _ _ => l
  | _ => noE
def lamP : Expr → Arguments
  | .Lambda p _ _ _ => p
  | _ => ⟨[], [], none, [], [], none, []⟩
def lamB : Expr → Expr
  | .Lambda _ b _ _ => b
  | _ => noE
def lamS : Expr → Scope
  | .Lambda _ _ s _ => s
  | _ => ⟨.function, [], false, false, []⟩
abbrev sLaw : Stmt := top 22
def lawB : List Stmt := forB ((defBody sLaw).getD 1 noS)
def lawC : List Stmt := ifB (lawB.getD 6 noS)
abbrev lam1 : Expr := callA (asgE (lawB.getD 4 noS))
abbrev lam2 : Expr := lisI 0 (asgE (lawC.getD 8 noS))
abbrev lam3 : Expr := lisI 1 (asgE (lawC.getD 8 noS))
abbrev lam4 : Expr := callA (asgE (lawC.getD 9 noS))
abbrev lam5 : Expr := callA (cmpL (ifC (lawC.getD 11 noS)))
abbrev lam6 : Expr := callA (lisI 1 (cmpL (ifC ((defBody sLaw).getD 2 noS))))
def qLam : Str := (envOfC "law" (defScope sLaw) 0 0 .none).qual ++ "<lambda>"
def mkF (e : Expr) (cl : List (Str × Addr)) (c : Addr) (dV : Value) : LF := ⟨qLam, lamP e, lamB e, lamS e, cl, c, dV⟩
theorem scL1 : NScope ["_law_results", "_law_passes_here"] [] ["_law_results", "_law_passes_here"] (lamS lam1) := nscope_by (by decide +kernel)
theorem scL2 : NScope ["_law_tariff_here", "_law_no"] [] ["_law_tariff_here", "_law_no"] (lamS lam2) := nscope_by (by decide +kernel)
theorem scL3 : NScope ["_law_a", "_law_tariff_here", "_law_no", "_law_far"] ["_law_a"] ["_law_tariff_here", "_law_no", "_law_far"] (lamS lam3) := nscope_by (by decide +kernel)
theorem scL4 : NScope ["_law_tariff_here", "_law_k", "_law_far"] [] ["_law_tariff_here", "_law_k", "_law_far"] (lamS lam4) := nscope_by (by decide +kernel)
theorem scL5 : NScope ["_law_price"] [] ["_law_price"] (lamS lam5) := nscope_by (by decide +kernel)
theorem scL6 : NScope [] [] [] (lamS lam6) := nscope_by (by decide +kernel)
/-- the methods, for their callers -/
structure TMe (K : PySem.W.Frag) (C : Addr) (mc : Value) (fWo fWp fSi pSi : Addr) (dWo dWp dSi : FuncData) : Prop where
  mWo : Meth K C "without" fWo
  uWo : Fun K "without" "Tariff.without" sWithout fWo dWo
  mWp : Meth K C "with_price" fWp
  uWp : Fun K "with_price" "Tariff.with_price" sWithPrice fWp dWp
  mSi : CMet K C mc "single" pSi fSi
  uSi : Fun K "single" "Tariff.single" sSingle fSi dSi
structure TTa (K : PySem.W.Frag) (mg : Str → Option Value) (fTa : Addr) (dTa : FuncData) : Prop where
  g : mg "_law_tariff" = some (.ref fTa)
  kp : PySem.W.keepIn K (.ref fTa) = true
  fu : Fun K "_law_tariff" "_law_tariff" sTar fTa dTa
  mN : mg "len" = none
  mL : mg "list" = none
theorem TTa.b {K : PySem.W.Frag} {mg : Str → Option Value} {fTa : Addr} {dTa : FuncData} (T : TTa K mg fTa dTa) : Binds K dTa ["_law_passes_here"] [] := T.fu.binds (ps := ["_law_passes_here"]) fun _ _ _ _ _ _ us hl => match us, hl with | [_], _ => rfl
section
variable {P : Program} {w : World} {K : PySem.W.Frag} {mg : Str → Option Value} {base : Heap} {C cI cU cP fI fT fP pP fV fWo fWp fSi pSi fTa : Addr} {mc mp : Value} {fdP fdI fdT fdV dWo dWp dSi dTa : FuncData}
theorem bWo (T : TMe K C mc fWo fWp fSi pSi dWo dWp dSi) : Binds K dWo ["self", "index"] [] := T.uWo.binds (ps := ["self", "index"]) fun _ _ _ _ _ _ us hl => match us, hl with | [_, _], _ => rfl
theorem bWp (T : TMe K C mc fWo fWp fSi pSi dWo dWp dSi) : Binds K dWp ["self", "index", "price"] [] := T.uWp.binds (ps := ["self", "index", "price"]) fun _ _ _ _ _ _ us hl => match us, hl with | [_, _, _], _ => rfl
theorem bSi (T : TMe K C mc fWo fWp fSi pSi dWo dWp dSi) : Binds K dSi ["cls", "price"] [] := T.uSi.binds (ps := ["cls", "price"]) fun _ _ _ _ _ _ us hl => match us, hl with | [_, _], _ => rfl
/-- _law_results.append(_law_tariff(_law_passes_here)) -/
def ts1 (K : PySem.W.Frag) (C cI : Addr) : TSp := fun ws H Q E => ∃ (r : Addr) (v : V) (L : List (Int × Int)), ws = [some (.ref r), some v] ∧ H r = some (.lst []) ∧ PsA K H v L ∧ L.length ≤ 7 ∧
  (bad L = none → ∀ a p H', (∀ b o, H b = some o → b ≠ r → H' b = some o) → H' r = some (.lst [.ref a]) → Tar K C H' a p L → Q .non H') ∧
  (∀ i d H', bad L = some i → Same H H' → H' d = some (.xd [("index", .int (i : Nat))]) → E (.ref cI) (some d) H')
theorem lok1 {f c : Addr} {cl : List (Str × Addr)} (T : TX K mg C cI cU cP fI mc mp) (I : TMk K C fI fT fdI fdT) (A1 : TTa K mg fTa dTa) : LOk P w K mg base (L2.CX P w) 7 f (mkF lam1 cl c .none) ["_law_results", "_law_passes_here"] (ts1 K C cI) := by
  refine lok_of0 (k := 6) scL1 (fun _ _ _ => rfl) fun A outer s H ws Q E hr hl h => ?_
  obtain ⟨r, v, L, rfl, hr0, hL, hlen, q1, q2⟩ := h
  refine ⟨_, pe_bm PySem.F.plainAttrs_list PySem.F.slot_list_append PySem.F.type_list_append mt_append (pv 0) (pa_cons (pe_call (E := E) (ok_tar A1.fu T I A1.mN A1.mL) hr (by rfl) A1.g A1.kp A1.b .nil (passes_call (takes_of rfl rfl rfl rfl) (fun _ _ _ _ h => h)) (pa_cons (pv 1) pa_nil)) pa_nil), ?_⟩
  refine ⟨_, rfl, .inl ⟨rfl, _, SqL.of hr0⟩, _, rfl, v, L, rfl, hL, hlen, fun hb a p H' sm na ht => ?_, fun i d H' hb sm hd => q2 i d H' hb sm hd⟩
  have hr1 : H' r = some (.lst []) := sm _ _ hr0
  refine ⟨r, [], _, rfl, rfl, hr1, small1000 (show 0 ≤ 1000 by decide), q1 hb a p _ (fun b o e n => ?_) upd_same ?_⟩
  · rw [upd_ne n]
    exact sm _ _ e
  · have tk : TK K H' (upd H' r (.lst ([] ++ [.ref a]))) := .but (fun b => b = r) (fun b o e n => by rw [upd_ne n]; exact e) fun b xs z => by
      rw [z]
      exact Rd.lst_no hr1
    refine ⟨?_, ht.2.tk tk⟩
    obtain ⟨dx, hx⟩ := ht.1
    refine ⟨dx, ?_⟩
    rw [upd_ne (fun z => by rw [z, hr1] at hx; cases hx)]
    exact hx
def ts2 (K : PySem.W.Frag) (C cI cU : Addr) : TSp := fun ws H Q E => ∃ (a : Addr) (z : V), ws = [some (.ref a), some z] ∧ spWithout K C cI cU [.ref a, z] H Q E
theorem lok2 {f c : Addr} {cl : List (Str × Addr)} (T : TX K mg C cI cU cP fI mc mp) (I : TMk K C fI fT fdI fdT) (TQ : TP K C fP pP fdP) (V' : TV K mg fV fdV) (M : TMe K C mc fWo fWp fSi pSi dWo dWp dSi) : LOk P w K mg base (L2.CX P w) 7 f (mkF lam2 cl c .none) ["_law_tariff_here", "_law_no"] (ts2 K C cI cU) := by
  refine lok_of0 (k := 6) scL2 (fun _ _ _ => rfl) fun A outer s H ws Q E hr hl h => ?_
  obtain ⟨a, z, rfl, hw⟩ := h
  refine ⟨_, pe_meth (E := E) (pv 0) T.cl M.mWo (ok_without M.uWo T I TQ V') hr (bWo M) .nil (passes_call (takes_of rfl rfl rfl rfl) (fun _ _ _ _ h => h)) (pa_cons (pv 1) pa_nil), ?_⟩
  obtain ⟨a', p, i, L, e, ht, hrest⟩ := id hw
  cases e
  obtain ⟨dx, ha⟩ := ht.1
  exact ⟨_, rfl, a, dx, _, rfl, ha, rfl, _, rfl, hw⟩
def ts3 (K : PySem.W.Frag) (C cI cU : Addr) : TSp := fun ws H Q E => ∃ (a : Addr) (z y : V), ws = [some (.ref a), some z, some y] ∧ spWithPrice K C cI cU [.ref a, z, y] H Q E
theorem lok3 {f c t : Addr} {cl : List (Str × Addr)} (T : TX K mg C cI cU cP fI mc mp) (I : TMk K C fI fT fdI fdT) (TQ : TP K C fP pP fdP) (V' : TV K mg fV fdV) (M : TMe K C mc fWo fWp fSi pSi dWo dWp dSi) : LOk P w K mg base (L2.CX P w) 7 f (mkF lam3 cl c (.ref t)) ["_law_tariff_here", "_law_no", "_law_far"] (ts3 K C cI cU) := by
  refine lok_ofD (k := 6) (a := "_law_a") (t := t) scL3 rfl (fun _ _ _ => ⟨_, rfl, fun _ => rfl⟩) fun A outer s H ws Q E d hr hl h => ?_
  obtain ⟨a, z, y, rfl, hw⟩ := h
  refine ⟨_, pe_meth (E := E) (pv 1) T.cl M.mWp (ok_withPrice M.uWp T I TQ V') hr (bWp M) .nil (passes_call (takes_of rfl rfl rfl rfl) (fun _ _ _ _ h => h)) (pa_cons (pv 2) (pa_cons (pv 3) pa_nil)), ?_⟩
  obtain ⟨a', p, i, z', L, e, ht, hrest⟩ := id hw
  cases e
  obtain ⟨dx, ha⟩ := ht.1
  exact ⟨_, rfl, a, dx, _, rfl, ha, rfl, _, rfl, _, rfl, hw⟩
theorem lok4 {f c : Addr} {cl : List (Str × Addr)} (T : TX K mg C cI cU cP fI mc mp) (I : TMk K C fI fT fdI fdT) (TQ : TP K C fP pP fdP) (V' : TV K mg fV fdV) (M : TMe K C mc fWo fWp fSi pSi dWo dWp dSi) : LOk P w K mg base (L2.CX P w) 7 f (mkF lam4 cl c .none) ["_law_tariff_here", "_law_k", "_law_far"] (ts3 K C cI cU) := by
  refine lok_of0 (k := 6) scL4 (fun _ _ _ => rfl) fun A outer s H ws Q E hr hl h => ?_
  obtain ⟨a, z, y, rfl, hw⟩ := h
  refine ⟨_, pe_meth (E := E) (pv 0) T.cl M.mWp (ok_withPrice M.uWp T I TQ V') hr (bWp M) .nil (passes_call (takes_of rfl rfl rfl rfl) (fun _ _ _ _ h => h)) (pa_cons (pv 1) (pa_cons (pv 2) pa_nil)), ?_⟩
  obtain ⟨a', p, i, z', L, e, ht, hrest⟩ := id hw
  cases e
  obtain ⟨dx, ha⟩ := ht.1
  exact ⟨_, rfl, a, dx, _, rfl, ha, rfl, _, rfl, _, rfl, hw⟩
/-- Tariff.single(z).without(0), z a right price: no passes are left -/
def ts5 (cI : Addr) : TSp := fun ws H Q E => ∃ z : Int, ws = [some (.int z)] ∧ 1 ≤ z ∧ z ≤ 1000000 ∧ ∀ d H', Same H H' → H' d = some (.xd [("index", .int 0)]) → E (.ref cI) (some d) H'
theorem lok5 {f c : Addr} {cl : List (Str × Addr)} (T : TX K mg C cI cU cP fI mc mp) (I : TMk K C fI fT fdI fdT) (TQ : TP K C fP pP fdP) (V' : TV K mg fV fdV) (M : TMe K C mc fWo fWp fSi pSi dWo dWp dSi) : LOk P w K mg base (L2.CX P w) 7 f (mkF lam5 cl c .none) ["_law_price"] (ts5 cI) := by
  refine lok_of0 (k := 6) scL5 (fun _ _ _ => rfl) fun A outer s H ws Q E hr hl h => ?_
  obtain ⟨z, rfl, z1, z2, q⟩ := h
  have PX : ∀ {X : Cx} {E : XK}, Takes X (fun cls d _ H => E cls d H) → Passes (L2.CX X.prog X.w) X E := fun tk => passes_call tk (fun _ _ _ _ h => h)
  refine ⟨_, pe_meth (E := E) (pe_cmeth (E := E) (pe_glob (v := .ref C) (by rfl) T.gC rfl) T.cr M.mSi ((ok_single M.uSi T I).raw (bSi M) .nil) hr (PX (takes_of rfl rfl rfl rfl)) (pa_cons (pv 0) pa_nil)) T.cl M.mWo (ok_without M.uWo T I TQ V') hr (bWo M) .nil (PX (takes_of rfl rfl rfl rfl)) (pa_cons pe_int pa_nil), ?_⟩
  have hb : bad [(1, z)] = none := by
    unfold bad
    rw [if_neg (by simp)]
    refine fb_all _ 0 fun j x hx => ?_
    cases j with
    | zero =>
      have e : (1, z) = x := by simpa using hx
      rw [← e]
      unfold badI okP
      show (decide (V.int ((0 + 0 : Nat) : Int) = V.int 6) || !((decide ((1 : Int) ≤ 1) && decide ((1 : Int) ≤ 28)) && (decide (1 ≤ z) && decide (z ≤ 1000000)))) = false
      rw [decide_eq_true z1, decide_eq_true z2]
      decide +kernel
    | succ j => simp at hx
  refine ⟨rfl, _, rfl, z, rfl, fun _ a p H' sm na ht => ?_, fun i d H' hb2 => by rw [hb] at hb2; cases hb2⟩
  obtain ⟨dx, ha⟩ := ht.1
  refine ⟨a, dx, _, rfl, ha, rfl, a, p, 0, [(1, z)], rfl, ht, show 1 ≤ 900 by decide, fun nb => absurd ⟨Int.le_refl 0, (by decide : (0 : Int) < 1)⟩ nb, fun k hk hk2 => ?_⟩
  obtain rfl : k = 0 := by omega
  have hb0 : bad ((List.take 0 [((1 : Int), z)]) ++ List.drop (0 + 1) [((1 : Int), z)]) = some 0 := rfl
  refine ⟨fun h2 => ?_, fun i d H2 h2 sm2 hd => ?_⟩
  · rw [hb0] at h2
    cases h2
  · rw [hb0] at h2
    cases h2
    exact q d H2 (Same.trans sm sm2) hd
/-- Tariff.single(0) -/
def ts6 (cI : Addr) : TSp := fun ws H Q E => ws = [] ∧ ∀ d H', Same H H' → H' d = some (.xd [("index", .int 0)]) → E (.ref cI) (some d) H'
theorem lok6 {f c : Addr} {cl : List (Str × Addr)} (T : TX K mg C cI cU cP fI mc mp) (I : TMk K C fI fT fdI fdT) (M : TMe K C mc fWo fWp fSi pSi dWo dWp dSi) : LOk P w K mg base (L2.CX P w) 7 f (mkF lam6 cl c .none) [] (ts6 cI) := by
  refine lok_of0 (k := 6) scL6 (fun _ _ _ => rfl) fun A outer s H ws Q E hr hl h => ?_
  obtain ⟨rfl, q⟩ := h
  refine ⟨_, pe_cmeth (E := E) (pe_glob (v := .ref C) (by rfl) T.gC rfl) T.cr M.mSi ((ok_single M.uSi T I).raw (bSi M) .nil) hr (passes_call (takes_of rfl rfl rfl rfl) (fun _ _ _ _ h => h)) (pa_cons pe_int pa_nil), ?_⟩
  have hb : bad [(1, 0)] = some 0 := by decide +kernel
  refine ⟨rfl, 0, rfl, fun h2 => ?_, fun i d H' h2 sm hd => ?_⟩
  · rw [hb] at h2
    cases h2
  · rw [hb] at h2
    cases h2
    exact q d H' sm hd
end
end Sea

set_option Elab.async false
set_option linter.all false
set_option maxRecDepth 100000
set_option maxHeartbeats 4000000
namespace Sea
open PySem PySem.Spec PyProof.Rows L2 LamX NdefX ClX Evl StX
/-! ### what is kept -/
/-- neither a list nor an instance -/
def NoLI (o : HO) : Prop := (∀ xs, o ≠ .lst xs) ∧ ∀ C dx fs, o ≠ .ins C dx fs
theorem tabs_but {T : List (Addr × Str)} {H H' : Hp} (hT : Tabs T H) (k : ∀ b o, H b = some o → NoLI o → H' b = some o) : Tabs T H' := fun p hp => by
  obtain ⟨ps, h1, h2, h3⟩ := hT p hp
  refine ⟨ps, k _ _ h1 ⟨fun xs z => (by cases z), fun C dx fs z => (by cases z)⟩, h2, fun pos cv hc => ?_⟩
  obtain ⟨c, e1, e2⟩ := h3 pos cv hc
  exact ⟨c, e1, k _ _ e2 ⟨fun xs z => (by unfold CodeO at z; cases z), fun C dx fs z => (by unfold CodeO at z; cases z)⟩⟩
theorem tabs_same {T : List (Addr × Str)} {H H' : Hp} (hT : Tabs T H) (s : Same H H') : Tabs T H' := tabs_but hT fun b o e _ => s b o e
theorem tabs_kp {T : List (Addr × Str)} {H H' : Hp} {h c : Addr} (hT : Tabs T H) (d : Dr H h c) (k : Kp h c H H') : Tabs T H' := by
  obtain ⟨_, m, kk, ns, e1, e2, _⟩ := d
  refine tabs_but hT fun b o e n => k b o e (fun z => ?_) (fun z => ?_)
  · rw [z, e1] at e
    cases e
    exact n.1 _ rfl
  · rw [z, e2] at e
    cases e
    exact n.1 _ rfl
theorem Dr.extN {H H' : Hp} {h c : Addr} (d : Dr H h c) (s : ExtN H H') : Dr H' h c := by
  obtain ⟨n, m, k, ns, e1, e2, l⟩ := d
  exact ⟨n, m, k, ns, s _ _ e1 (fun ps z => (by cases z)), s _ _ e2 (fun ps z => (by cases z)), l⟩
theorem TK.extN {K : PySem.W.Frag} {H H' : Hp} (s : ExtN H H') : TK K H H' := fun a xs h => by
  rcases h with (h | ⟨o, h⟩) | h
  · exact .inl (.inl (s _ _ h fun ps z => by cases z))
  · exact .inl (.inr ⟨o, s _ _ h fun ps z => by cases z⟩)
  · exact .inr h
theorem Tar.extN {K : PySem.W.Frag} {C : Addr} {H H' : Hp} {a p : Addr} {L : List (Int × Int)} (t : Tar K C H a p L) (s : ExtN H H') : Tar K C H' a p L := by
  obtain ⟨⟨dx, h⟩, q⟩ := t
  exact ⟨⟨dx, s _ _ h fun ps z => by cases z⟩, q.tk (.extN s)⟩
theorem Tar.same {K : PySem.W.Frag} {C : Addr} {H H' : Hp} {a p : Addr} {L : List (Int × Int)} (t : Tar K C H a p L) (s : Same H H') : Tar K C H' a p L := by
  obtain ⟨⟨dx, h⟩, q⟩ := t
  exact ⟨⟨dx, s _ _ h⟩, q.tk (.same s)⟩
theorem Tar.kp {K : PySem.W.Frag} {C : Addr} {H H' : Hp} {a p h c : Addr} {L : List (Int × Int)} (t : Tar K C H a p L) (d : Dr H h c) (k : Kp h c H H') : Tar K C H' a p L := by
  obtain ⟨⟨dx, e⟩, q⟩ := t
  refine ⟨⟨dx, k _ _ e (fun z => ?_) (fun z => ?_)⟩, q.tk (d.tk k)⟩
  · obtain ⟨_, m, kk, ns, e1, e2, _⟩ := d
    rw [z, e1] at e
    cases e
  · obtain ⟨_, m, kk, ns, e1, e2, _⟩ := d
    rw [z, e2] at e
    cases e
theorem PsA.kp {K : PySem.W.Frag} {H H' : Hp} {v : V} {h c : Addr} {L : List (Int × Int)} (t : PsA K H v L) (d : Dr H h c) (k : Kp h c H H') : PsA K H' v L := t.tk (d.tk k)
/-- a new thing is not the draws' -/
theorem Dr.nh {H : Hp} {h c b : Addr} (d : Dr H h c) (n : H b = none) : b ≠ h ∧ b ≠ c := by
  obtain ⟨_, m, kk, ns, e1, e2, _⟩ := d
  refine ⟨fun z => ?_, fun z => ?_⟩
  · rw [z, e1] at n
    cases n
  · rw [z, e2] at n
    cases n
/-! ### what is right with passes -/
theorem fb_none : ∀ (L : List (Int × Int)) (k : Nat), fb k L = none → ∀ j x, L[j]? = some x → badI (k + j) x = false
  | [], _, _, j, x, h => by simp at h
  | y :: r, k, h, 0, x, hx => by
    unfold fb at h
    obtain rfl : y = x := by simpa using hx
    cases hb : badI k y with
    | true =>
      rw [if_pos hb] at h
      cases h
    | false => rfl
  | y :: r, k, h, j + 1, x, hx => by
    unfold fb at h
    cases hb : badI k y with
    | true =>
      rw [if_pos hb] at h
      cases h
    | false =>
      rw [if_neg (by rw [hb]; decide)] at h
      have := fb_none r (k + 1) h j x (by simpa using hx)
      rwa [show k + 1 + j = k + (j + 1) by omega] at this
theorem badI_false {i : Nat} {x : Int × Int} : badI i x = false ↔ i ≠ 6 ∧ okP x = true := by
  unfold badI
  rw [dec_int]
  cases h : okP x with
  | true =>
    simp
    omega
  | false => simp
/-- right passes -/
theorem bad_iff (L : List (Int × Int)) : bad L = none ↔ L ≠ [] ∧ ∀ j x, L[j]? = some x → j ≠ 6 ∧ okP x = true := by
  unfold bad
  by_cases e : L = []
  · rw [if_pos e]
    exact ⟨fun h => (by cases h), fun h => absurd e h.1⟩
  · rw [if_neg e]
    refine ⟨fun h => ⟨e, fun j x hx => ?_⟩, fun h => fb_all L 0 fun j x hx => ?_⟩
    · have := fb_none L 0 h j x hx
      rw [Nat.zero_add] at this
      exact badI_false.mp this
    · rw [Nat.zero_add]
      exact badI_false.mpr (h.2 j x hx)
theorem bad_len {L : List (Int × Int)} (h : bad L = none) : L.length ≤ 6 := by
  have := (bad_iff L).mp h
  by_cases hl : L.length ≤ 6
  · exact hl
  · exact absurd rfl (this.2 6 L[6] (List.getElem?_eq_getElem (by omega))).1
theorem bad_all {L M : List (Int × Int)} (h : bad L = none) (hM : M ≠ []) (hl : M.length ≤ L.length) (ha : ∀ x ∈ M, okP x = true) : bad M = none := (bad_iff M).mpr ⟨hM, fun j x hx => ⟨fun z => by
  have h1 := (List.getElem?_eq_some_iff.mp hx).1
  have h2 := bad_len h
  omega, ha x (List.mem_of_getElem? hx)⟩⟩
theorem bad_ok {L : List (Int × Int)} (h : bad L = none) {x : Int × Int} (hx : x ∈ L) : okP x = true := by
  obtain ⟨j, hj, e⟩ := List.getElem_of_mem hx
  exact (((bad_iff L).mp h).2 j x (by rw [List.getElem?_eq_getElem hj, e])).2
theorem bad_rest {L : List (Int × Int)} (h : bad L = none) (k : Nat) (hM : L.take k ++ L.drop (k + 1) ≠ []) : bad (L.take k ++ L.drop (k + 1)) = none :=
  bad_all h hM (by rw [List.length_append, List.length_take, List.length_drop]; omega) fun x hx => bad_ok h ((List.mem_append.mp hx).elim (fun z => List.mem_of_mem_take z) fun z => List.mem_of_mem_drop z)
theorem bad_set {L : List (Int × Int)} (h : bad L = none) {k : Nat} {x : Int × Int} (hk : L[k]? = some x) {z : Int} (h1 : 1 ≤ z) (h2 : z ≤ 1000000) : bad (L.take k ++ [(x.1, z)] ++ L.drop (k + 1)) = none := by
  have hkl := (List.getElem?_eq_some_iff.mp hk).1
  refine bad_all h (by simp) (by rw [List.length_append, List.length_append, List.length_take, List.length_drop, List.length_singleton]; omega) fun y hy => ?_
  rcases List.mem_append.mp hy with hy | hy
  · rcases List.mem_append.mp hy with hy | hy
    · exact bad_ok h (List.mem_of_mem_take hy)
    · rw [List.mem_singleton.mp hy]
      have := bad_ok h (List.mem_of_getElem? hk)
      unfold okP at this ⊢
      rw [Bool.and_eq_true] at this ⊢
      exact ⟨this.1, by rw [decide_eq_true h1, decide_eq_true h2]; rfl⟩
  · exact bad_ok h (List.mem_of_mem_drop hy)
/-! ### displays of passes -/
def EvPA (K : PySem.W.Frag) (ta : TA) (σ : L2.St) (H : Hp) (M : List (Int × Int)) : Prop := ∀ H1, Ex H H1 → ∀ Q : List V → Hp → Prop, (∀ vs H2, Ex H1 H2 → PsV K H2 vs M → Q vs H2) → ta σ H1 Q
theorem ep_nil {K : PySem.W.Frag} {σ : L2.St} {H : Hp} : EvPA K tNil σ H [] := fun H1 _ Q q => q [] H1 (Ex.refl _) .nil
theorem ep_cons {K : PySem.W.Frag} {σ : L2.St} {H : Hp} {tx : TE} {tr : TA} {x : Int × Int} {M : List (Int × Int)} (h : EvD tx σ H fun v H => PrV K H v x) (hr : EvPA K tr σ H M) : EvPA K (tCons tx tr) σ H (x :: M) := fun H1 e Q q =>
  h H1 e _ fun v H2 e2 hv => hr H2 (e.trans e2) _ fun vs H3 e3 hvs => q _ _ (e2.trans e3) (.cons (hv.tk (.same e3)) hvs)
theorem ed_pair {K : PySem.W.Frag} {tx ty : TE} {σ : L2.St} {H : Hp} {l pr : Int} (h1 : Ev tx σ H (.int l)) (h2 : Ev ty σ H (.int pr)) : EvD (tTup (tCons tx (tCons ty tNil))) σ H fun v H => PrV K H v (l, pr) := fun H1 e Q q =>
  h1 H1 e _ fun H2 e2 => h2 H2 (e.trans e2) _ fun H3 e3 => ⟨Nat.le_of_lt (small1000 (show 2 ≤ 1000 by decide)), fun p np => q _ _ ((e2.trans e3).trans (Ex.new np)) ⟨p, rfl, .of upd_same⟩⟩
theorem ed_var {K : PySem.W.Frag} {σ : L2.St} {H : Hp} {i : Nat} {v : V} {L : List (Int × Int)} (hs : σ[i]? = some (some v)) (h : PsA K H v L) : EvD (tVar i) σ H fun v H => PsA K H v L := ed_of (ev_var hs) fun H2 e => h.tk (.same e)
end Sea

set_option Elab.async false
set_option linter.all false
set_option maxRecDepth 100000
set_option maxHeartbeats 400000
namespace Sea
open PySem PySem.Spec PyProof.Rows L2 LamX NdefX ClX Evl StX
def tI (i : Int) : TE := tC (.int i)
def tP (a b : TE) : TE := tTup (tCons a (tCons b tNil))
def rPw : R2 := rI CPow fun i j => .int (i ^ j.toNat)
def rAd : R2 := rI0 fun i j => .int (i + j)
def tMn (a : TE) : TE := tUn (rU fun i => .int (-i)) a
/-- the seven odd passes -/
def oddT : TA := tCons (tP (tI 0) (tI 5)) (tCons (tP (tI 29) (tI 5)) (tCons (tP (tMn (tI 1)) (tI 5)) (tCons (tP (tI 3) (tI 0)) (tCons (tP (tI 3) (tOp rAd (tOp rPw (tI 10) (tI 6)) (tI 1))) (tCons (tP (tI 28) (tOp rPw (tI 10) (tI 6))) (tCons (tP (tI 1) (tI 1)) tNil))))))
theorem ev_tI {σ : L2.St} {H : Hp} {i : Int} : Ev (tI i) σ H (.int i) := ev_c
theorem ev_pw {σ : L2.St} {H : Hp} {a b : TE} {i j : Int} (ha : Ev a σ H (.int i)) (hb : Ev b σ H (.int j)) (h : CPow i j) : Ev (tOp rPw a b) σ H (.int (i ^ j.toNat)) := ev_op ha hb (rv_I h)
theorem ev_ad {σ : L2.St} {H : Hp} {a b : TE} {i j : Int} (ha : Ev a σ H (.int i)) (hb : Ev b σ H (.int j)) : Ev (tOp rAd a b) σ H (.int (i + j)) := ev_op ha hb rv_I0
theorem ev_mn {σ : L2.St} {H : Hp} {a : TE} {i : Int} (ha : Ev a σ H (.int i)) : Ev (tMn a) σ H (.int (-i)) := ev_un ha ru_neg
theorem odd_ev (K : PySem.W.Frag) (σ : L2.St) (H : Hp) : ∃ M : List (Int × Int), M.length = 7 ∧ EvPA K oddT σ H M := by
  refine ⟨_, ?_, ep_cons (ed_pair ev_tI ev_tI) (ep_cons (ed_pair ev_tI ev_tI) (ep_cons (ed_pair (ev_mn ev_tI) ev_tI) (ep_cons (ed_pair ev_tI ev_tI) (ep_cons (ed_pair ev_tI (ev_ad (ev_pw ev_tI ev_tI ⟨by decide, by decide, by decide⟩) ev_tI)) (ep_cons (ed_pair ev_tI (ev_pw ev_tI ev_tI ⟨by decide, by decide, by decide⟩)) (ep_cons (ed_pair ev_tI ev_tI) ep_nil))))))⟩
  rfl
theorem tLst_pa {K : PySem.W.Frag} {ta : TA} {σ : L2.St} {H : Hp} {M : List (Int × Int)} {Q : VK} (hM : M.length ≤ 1000) (h : EvPA K ta σ H M) (k : ∀ ws H2 l, Ex H H2 → PsV K H2 ws M → H2 l = none → Q (.ref l) (upd H2 l (.lst ws))) : tLst ta σ H Q :=
  h H (Ex.refl _) _ fun ws H2 e2 hws => ⟨Nat.le_of_lt (small1000 (by rw [hws.len]; exact hM)), fun l nl => k ws H2 l e2 hws nl⟩
theorem eu_ifT {t : TT} {ta tb : TE} {σ : L2.St} {H : Hp} {xs : List V} (h : EvT t σ H true) (h1 : EvU ta σ H xs) : EvU (tIf t ta tb) σ H xs := fun H1 e Q q => h H1 e _ fun H2 e2 => iteT (h1 H2 (e.trans e2) _ fun p H3 np e3 hp => q p H3 (fresh_back e2 np) (e2.trans e3) hp)
theorem eu_ifF {t : TT} {ta tb : TE} {σ : L2.St} {H : Hp} {xs : List V} (h : EvT t σ H false) (h1 : EvU tb σ H xs) : EvU (tIf t ta tb) σ H xs := fun H1 e Q q => h H1 e _ fun H2 e2 => iteF (h1 H2 (e.trans e2) _ fun p H3 np e3 hp => q p H3 (fresh_back e2 np) (e2.trans e3) hp)
theorem et_isN {σ : L2.St} {H : Hp} {i : Nat} {v : V} (hs : σ[i]? = some (some v)) : EvT (tTest (tOp (fun x y H Q => y = .non ∧ Q (.bl (decide (x = .non))) H) (tVar i) (tC .non))) σ H (decide (v = .non)) :=
  et_test (ev_op (ev_var hs) ev_c (fun H3 _ Q3 q3 => ⟨rfl, q3 H3 (Ex.refl _)⟩))
/-- what _law_error answers, as data -/
def errD : Option Nat → PyData
  | none => .tuple [.str "none"]
  | some j => .tuple [.str "tariff", .int (j : Nat)]
def errV : Option Nat → List V
  | none => [.str "none"]
  | some j => [.str "tariff", .int (j : Nat)]
theorem errDp {K : PySem.W.Frag} {H : Hp} {p : Addr} : ∀ o : Option Nat, H p = some (.tup (errV o)) → Dp K H (.ref p) (errD o)
  | none, h => .tup (.of h) (.cons (.str _) .nil)
  | some j, h => .tup (.of h) (.cons (.str _) (.cons (.int _) .nil))
theorem errSh : ∀ o : Option Nat, SeqAt.shaped (errD o) = true
  | none => by decide +kernel
  | some j => by
    show (((PyData.canLay0 (.str "tariff")) && (true && true)) && decide (max (PyData.depth (.str "tariff")) (max 0 0) + 1 ≤ 64)) = true
    decide +kernel
theorem eqv_self (d : PyData) (h : SeqAt.shaped d = true) : PyData.eqv d d = true := SeqAt.eqv_refl d (SeqAt.canLay_of_shaped h)
theorem dv_none {e : Expr} {cl : List (Str × Addr)} {c : Addr} {H : Hp} : DvOk (mkF e cl c .none) H := fun t z => by
  have z' : Value.none = Value.ref t := z
  cases z'
end Sea

set_option Elab.async false
set_option linter.all false
set_option maxRecDepth 100000
set_option maxHeartbeats 1000000
namespace Sea
open PySem PySem.Spec PyProof.Rows L2 LamX NdefX ClX Evl StX
/-! ### expressions that give data, all kept -/
def EvDp (K : PySem.W.Frag) (te : TE) (σ : L2.St) (H : Hp) (d : PyData) : Prop := EvD te σ H fun v H => Dp K H v d
def EvDpA (K : PySem.W.Frag) (ta : TA) (σ : L2.St) (H : Hp) (ds : List PyData) : Prop := ∀ H1, Ex H H1 → ∀ Q : List V → Hp → Prop, (∀ vs H2, Ex H1 H2 → DpAll K H2 vs ds → Q vs H2) → ta σ H1 Q
section
variable {K : PySem.W.Frag} {te tb tx : TE} {ta tr : TA} {σ : L2.St} {H : Hp} {d e : PyData} {ds : List PyData}
theorem edp_ev {v : V} (h : Ev te σ H v) (hd : ∀ H2, Ex H H2 → Dp K H2 v d) : EvDp K te σ H d := ed_of h hd
theorem edp_int {i : Int} (h : Ev te σ H (.int i)) : EvDp K te σ H (.int i) := edp_ev h fun _ _ => .int i
theorem edp_str {x : Str} : EvDp K (tC (.str x)) σ H (.str x) := edp_ev ev_c fun _ _ => .str x
theorem edp_ps {L : List (Int × Int)} (h : EvD te σ H fun v H => PsA K H v L) : EvDp K te σ H (psD L) := fun H1 e Q q => h H1 e _ fun v H2 e2 hv => q v H2 e2 hv.dp
theorem eda_nil : EvDpA K tNil σ H [] := fun H1 _ Q q => q [] H1 (Ex.refl _) .nil
theorem eda_cons (h : EvDp K tx σ H d) (hr : EvDpA K tr σ H ds) : EvDpA K (tCons tx tr) σ H (d :: ds) := fun H1 e Q q =>
  h H1 e _ fun v H2 e2 hv => hr H2 (e.trans e2) _ fun vs H3 e3 hvs => q _ _ (e2.trans e3) (.cons (dp_ex e3 hv) hvs)
theorem edp_lst (h : EvDpA K ta σ H ds) (hl : ds.length ≤ 1000) : EvDp K (tLst ta) σ H (.list ds) := fun H1 e Q q => h H1 e _ fun vs H2 e2 hvs => ⟨Nat.le_of_lt (small1000 (by rw [dps_len hvs]; exact hl)), fun p np => q _ _ (e2.trans (Ex.new np)) (.lst (.of upd_same) (dps_ex (Ex.new np) hvs))⟩
theorem edp_tup (h : EvDpA K ta σ H ds) (hl : ds.length ≤ 1000) : EvDp K (tTup ta) σ H (.tuple ds) := fun H1 e Q q => h H1 e _ fun vs H2 e2 hvs => ⟨Nat.le_of_lt (small1000 (by rw [dps_len hvs]; exact hl)), fun p np => q _ _ (e2.trans (Ex.new np)) (.tup (.of upd_same) (dps_ex (Ex.new np) hvs))⟩
theorem et_neD (h1 : EvDp K te σ H d) (h2 : EvDp K tb σ H e) (s1 : SeqAt.shaped d = true) (s2 : SeqAt.shaped e = true) : EvT (tTest (tOp (rNeD K) te tb)) σ H (!PyData.eqv d e) := fun H1 a Q q =>
  h1 H1 a _ fun v H2 e2 hv => h2 H2 (a.trans e2) _ fun u H3 e3 hu => ⟨d, e, dp_ex e3 hv, hu, s1, s2, _, rfl, q H3 (e2.trans e3)⟩
theorem et_same (h1 : EvDp K te σ H d) (h2 : EvDp K tb σ H d) (s1 : SeqAt.shaped d = true) : EvT (tTest (tOp (rNeD K) te tb)) σ H false := et_is (et_neD h1 h2 s1 s1) (by rw [eqv_self d s1]; rfl)
/-- one number of each pass, in a new tuple -/
theorem eu_col {L : List (Int × Int)} {f : Int × Int → Int} {ix : Int} {p : Addr} {vs : List V} {i : Nat} (hs : σ[i]? = some (some (.ref p))) (hp : SqT K H p vs) (hv : PsV K H vs L) (hl : L.length ≤ 100) (hf : ∀ x : Int × Int, atI [V.int x.1, V.int x.2] ix = some (.int (f x)))
    (hw : ∀ x, wipe ((wipe σ [16]).set 16 (some x)) [16] = wipe σ [16]) (hx : ∀ x, ((wipe σ [16]).set 16 (some x))[16]? = some (some x)) :
    EvU (tCB (fun xs H Q => ∃ p ys, xs = [V.ref p] ∧ ((SqL K H p ys ∧ ∀ l, H l = none → Q (.ref l) (upd H l (.tup ys))) ∨ (SqT K H p ys ∧ Q (.ref p) H))) (tCons (tLc (iTup K (tVar i)) (gName 16) tYes (tOp (rIxT K) (tVar 16) (tC (.int ix))) [16]) tNil)) σ H (L.map fun x => V.int (f x)) := by
  intro H1 e Q q
  refine ⟨_, hs, p, rfl, ⟨vs, ex_t e hp⟩, fun D nD => ?_⟩
  have hv1 := hv.tk (.same e)
  refine lc_tup (K := K) (a := p) (xs := vs) (fun j H' => Ex H1 H' ∧ H' D = some (.lst ((L.take j).map fun x => V.int (f x)))) ⟨Ex.new nD, upd_same⟩ (fun j H' _ z => ex_t (e.trans z.1) hp) ?_ ?_
  · rintro j x H' hxj ⟨sm, hD⟩
    obtain ⟨y, hLj, b, rfl, hb⟩ := hv1.get hxj
    refine ⟨hw _, ?_⟩
    refine iteT (B := True) ?_
    refine ⟨_, hx _, b, _, ix, _, rfl, rfl, ex_t sm hb, hf y, _, hD, ?_, Ex.mut sm nD, ?_⟩
    · rw [List.length_map, List.length_take]
      exact Nat.lt_of_le_of_lt (Nat.min_le_right _ _) (small1000 (by omega))
    · rw [upd_same, take_snoc hLj, List.map_append]
      rfl
  · rintro H' ⟨sm, hD⟩
    rw [hv.len, List.take_length] at hD
    exact ⟨D, _, rfl, .inl ⟨.of hD, fun l nl => q l _ (fresh_back sm nl) (sm.trans (Ex.new nl)) upd_same⟩⟩
end
theorem col_dp {K : PySem.W.Frag} {H : Hp} {f : Int × Int → Int} : ∀ L : List (Int × Int), DpAll K H (L.map fun x => V.int (f x)) (L.map fun x => PyData.int (f x))
  | [] => .nil
  | x :: r => .cons (.int _) (col_dp r)
theorem edp_col {K : PySem.W.Frag} {te : TE} {σ : L2.St} {H : Hp} {L : List (Int × Int)} {f : Int × Int → Int} (h : EvU te σ H (L.map fun x => V.int (f x))) : EvDp K te σ H (.tuple (L.map fun x => PyData.int (f x))) := fun H1 e Q q => h H1 e _ fun p H2 np e2 hp => q _ _ e2 (.tup (.of hp) (col_dp L))
/-- what the law awaits of the three properties -/
def dueD (L : List (Int × Int)) : PyData := .list [psD L, .tuple (L.map fun x => .int x.1), .tuple (L.map fun x => .int x.2)]
theorem dueI {L : List (Int × Int)} (hl : L.length ≤ 1000) : IntD 3 (dueD L) := by
  refine .lst (fun i d hd => ?_) (show 3 ≤ 1000 by decide)
  rcases i with _ | _ | _ | i
  · cases hd
    refine .tup (fun j e he => ?_) (by rw [List.length_map]; exact hl)
    rw [List.getElem?_map] at he
    cases hj : L[j]? with
    | none =>
      rw [hj] at he
      cases he
    | some x =>
      rw [hj] at he
      cases he
      refine .tup (fun k g hg => ?_) (show 2 ≤ 1000 by decide)
      rcases k with _ | _ | k
      · cases hg
        exact .int _ _
      · cases hg
        exact .int _ _
      · simp at hg
  · cases hd
    refine .tup (fun j e he => ?_) (by rw [List.length_map]; exact hl)
    rw [List.getElem?_map] at he
    cases hj : L[j]? with
    | none =>
      rw [hj] at he
      cases he
    | some x =>
      rw [hj] at he
      cases he
      exact .int _ _
  · cases hd
    refine .tup (fun j e he => ?_) (by rw [List.length_map]; exact hl)
    rw [List.getElem?_map] at he
    cases hj : L[j]? with
    | none =>
      rw [hj] at he
      cases he
    | some x =>
      rw [hj] at he
      cases he
      exact .int _ _
  · simp at hd
section
variable {K : PySem.W.Frag} {C cI cU : Addr} {te : TE} {σ : L2.St} {H : Hp} {L M : List (Int × Int)}
/-- e.passes of a tariff that e gives -/
theorem ed_prop (h : EvD te σ H fun v H => ∃ a p, v = .ref a ∧ Tar K C H a p M) : EvD (tProp C (getSp C "offers") [] E0 te) σ H fun v H => PsA K H v M := fun H1 e Q q => h H1 e _ fun v H2 e2 hv => by
  obtain ⟨a, p, rfl, ⟨dx, ha⟩, hp⟩ := hv
  exact ⟨a, dx, _, rfl, ha, a, dx, _, .ref p, rfl, ha, rfl, q _ _ e2 hp⟩
theorem ed_tar {i : Nat} {a p : Addr} (hs : σ[i]? = some (some (.ref a))) (t : Tar K C H a p L) : EvD (tVar i) σ H fun v H => ∃ a p, v = .ref a ∧ Tar K C H a p L := ed_of (ev_var hs) fun H2 e => ⟨a, p, rfl, t.same e⟩
theorem edp_cols {i : Nat} {a p : Addr} {f : Int × Int → Int} (hs : σ[i]? = some (some (.ref a))) (t : Tar K C H a p L) (hl : L.length ≤ 1000) : EvDp K (tProp C (spCol K C f) [] E0 (tVar i)) σ H (.tuple (L.map fun x => .int (f x))) := fun H1 e Q q => by
  have t1 := t.same e
  obtain ⟨dx, ha⟩ := t1.1
  exact ⟨_, hs, a, dx, _, rfl, ha, a, p, L, rfl, t1, hl, fun r H2 s2 hr => q _ _ s2 (.tup (.of hr) (col_dp L))⟩
theorem gM_ed {v0 : List V} {sp : Sp} (hb : bad M = none) (h : ∀ H1, Ex H H1 → ∀ Q : VK, gM K C cI H1 M Q E0 → te σ H1 Q) : EvD te σ H fun v H => ∃ a p, v = .ref a ∧ Tar K C H a p M := fun H1 e Q q =>
  h H1 e Q ⟨fun _ a p H' s' na t => q _ _ s' ⟨a, p, rfl, t⟩, fun i d H' h' => by
    rw [hb] at h'
    cases h'⟩
theorem ed_wp {i j l : Nat} {a p : Addr} {k : Nat} {z : Int} {x : Int × Int} (hi : σ[i]? = some (some (.ref a))) (hj : σ[j]? = some (some (.int (k : Nat)))) (hz : σ[l]? = some (some (.int z))) (t : Tar K C H a p L) (hbn : bad L = none) (hk : L[k]? = some x) (z1 : 1 ≤ z) (z2 : z ≤ 1000000) :
    EvD (tMeth C "with_price" (spWithPrice K C cI cU) [] E0 (tVar i) (tCons (tVar j) (tCons (tVar l) tNil))) σ H fun v H => ∃ a p, v = .ref a ∧ Tar K C H a p (L.take k ++ [(x.1, z)] ++ L.drop (k + 1)) :=
  gM_ed (v0 := []) (sp := spWithPrice K C cI cU) (cI := cI) (bad_set hbn hk z1 z2) fun H1 e Q g => by
    have t1 := t.same e
    obtain ⟨dx, ha⟩ := t1.1
    have hkl := (List.getElem?_eq_some_iff.mp hk).1
    refine ⟨_, hi, a, dx, _, rfl, ha, rfl, _, hj, _, hz, a, p, (k : Nat), z, L, rfl, t1, by have := bad_len hbn; omega, fun nb => absurd ⟨by omega, by omega⟩ nb, fun _ _ nb => absurd ⟨z1, z2⟩ nb, fun k' y hk' hy _ _ => ?_⟩
    obtain rfl : k' = k := by omega
    obtain rfl : x = y := Option.some.inj (hk.symm.trans hy)
    exact g
theorem ed_wo {i j : Nat} {a p : Addr} {k : Nat} (hi : σ[i]? = some (some (.ref a))) (hj : σ[j]? = some (some (.int (k : Nat)))) (t : Tar K C H a p L) (hbn : bad L = none) (hk : k < L.length) (hR : L.take k ++ L.drop (k + 1) ≠ []) :
    EvD (tMeth C "without" (spWithout K C cI cU) [] E0 (tVar i) (tCons (tVar j) tNil)) σ H fun v H => ∃ a p, v = .ref a ∧ Tar K C H a p (L.take k ++ L.drop (k + 1)) :=
  gM_ed (v0 := []) (sp := spWithout K C cI cU) (cI := cI) (bad_rest hbn k hR) fun H1 e Q g => by
    have t1 := t.same e
    obtain ⟨dx, ha⟩ := t1.1
    refine ⟨_, hi, a, dx, _, rfl, ha, rfl, _, hj, a, p, (k : Nat), L, rfl, t1, by have := bad_len hbn; omega, fun nb => absurd ⟨by omega, by omega⟩ nb, fun k' hk' _ => ?_⟩
    obtain rfl : k' = k := by omega
    exact g
end
theorem et_al {K : PySem.W.Frag} {ta : TA} {σ : L2.St} {H : Hp} {d : PyData} (hA : EvDpA K ta σ H [d, d]) (hd : IntD 3 d) : EvT (tNot (tB (tCall (spAl K 4) [] E0 ta))) σ H false := fun H1 e Q q =>
  hA H1 e (fun vs H2 => spAl K 4 (vs ++ []) H2 (fun x H3 => ∃ c, x = .bl c ∧ Q (!c) H3) E0) fun vs H2 e2 hvs => by
    cases hvs with
    | cons h1 hr =>
      cases hr with
      | cons h2 hr2 =>
        cases hr2
        exact ⟨3, _, _, d, by decide, rfl, h1, h2, hd, fun H5 s5 => ⟨true, rfl, q H5 (e2.trans s5)⟩⟩
end Sea

set_option Elab.async false
set_option linter.all false
set_option maxRecDepth 100000
set_option maxHeartbeats 1000000
namespace Sea
open PySem PySem.Spec PyProof.Rows L2 LamX NdefX ClX Evl StX
theorem pick2 (a b v : Int) (h0 : 0 ≤ v) (h1 : v < 2) : ∃ w, atI [V.int a, V.int b] v = some (.int w) ∧ (w = a ∨ w = b) := by
  rcases (show v = 0 ∨ v = 1 by omega) with rfl | rfl
  · exact ⟨a, rfl, .inl rfl⟩
  · exact ⟨b, rfl, .inr rfl⟩
theorem ev_eqD {K : PySem.W.Frag} {te tb : TE} {σ : L2.St} {H : Hp} {d : PyData} (h1 : EvDp K te σ H d) (h2 : EvDp K tb σ H d) (s1 : SeqAt.shaped d = true) : Ev (tOp (rEqD K) te tb) σ H (.bl true) := fun H1 a Q q =>
  h1 H1 a _ fun v H2 e2 hv => h2 H2 (a.trans e2) _ fun u H3 e3 hu => ⟨d, d, dp_ex e3 hv, hu, s1, s1, by
    rw [eqv_self d s1]
    exact q H3 (e2.trans e3)⟩
/-- what the three works answer -/
def wD (k : Int) : PyData := .list [.tuple [.str "pass"], .tuple [.str "pass"], .tuple [.str "tariff", .int k]]
theorem wSh (k : Int) : SeqAt.shaped (wD k) = true := by
  have e : SeqAt.shaped (wD k) = SeqAt.shaped (wD 0) := rfl
  rw [e]
  decide +kernel
def zD : PyData := .list [psD [(1, 7)], errD (some 0)]
theorem zSh : SeqAt.shaped zD = true := by decide +kernel
def cD : PyData := .list [.int 28, .int 1000000, .int 6]
theorem cSh : SeqAt.shaped cD = true := by decide +kernel
theorem passDp {K : PySem.W.Frag} {H : Hp} {p : Addr} (h : H p = some (.tup [.str "pass"])) : Dp K H (.ref p) (.tuple [.str "pass"]) := .tup (.of h) (.cons (.str _) .nil)
theorem tarDp {K : PySem.W.Frag} {H : Hp} {p : Addr} {k : Int} (h : H p = some (.tup [.str "tariff", .int k])) : Dp K H (.ref p) (.tuple [.str "tariff", .int k]) := .tup (.of h) (.cons (.str _) (.cons (.int _) .nil))
theorem lam_ne {f : Addr} {F : LF} : ∀ ps, LamO f F ≠ .tbl ps := Stands.no_tbl
theorem code_ne {c : Addr} {q : Str} : ∀ ps, CodeO c q ≠ .tbl ps := fun ps z => by
  unfold CodeO at z
  cases z
end Sea

set_option Elab.async false
set_option linter.all false
set_option maxRecDepth 100000
set_option maxHeartbeats 4000000
namespace Sea
open PySem PySem.Spec PyProof.Rows L2 LamX NdefX ClX Evl StX
abbrev NL : List Str := ["_law_script", "_law_h", "_law_turn", "_law_passes_here", "_law_k", "_law_odd_here", "_law_bad_here", "_law_results", "_law_error_here", "_law_tariff_here", "_law_due", "_law_price", "_law_rest", "_law_no", "_law_far", "_law_works", "_law_one", "_law_call"]
theorem scLaw : FnScope NL ["_law_script"] (defScope sLaw) := ⟨rfl, rfl, rfl, by decide +kernel, rfl, by decide +kernel, by decide +kernel⟩
/-- all that the law leans on -/
structure Gd (K : PySem.W.Frag) (mg : Str → Option Value) where
  C : Addr
  cU : Addr
  cP : Addr
  fI : Addr
  fT : Addr
  fP : Addr
  pP : Addr
  fV : Addr
  fWo : Addr
  fWp : Addr
  fSi : Addr
  pSi : Addr
  fTa : Addr
  fN : Addr
  fA : Addr
  fL : Addr
  pL : Addr
  fR : Addr
  pR : Addr
  fMx : Addr
  fDr : Addr
  fBa : Addr
  fEr : Addr
  Pt : Addr
  cs : Nat → Addr
  mc : Value
  mp : Value
  fdI : FuncData
  fdT : FuncData
  fdP : FuncData
  fdV : FuncData
  dWo : FuncData
  dWp : FuncData
  dSi : FuncData
  dTa : FuncData
  dN : FuncData
  dA : FuncData
  dL : FuncData
  dR : FuncData
  dMx : FuncData
  dDr : FuncData
  dBa : FuncData
  dEr : FuncData
  X : TX K mg C (cs 0) (cs 3) cP fI mc mp
  I : TMk K C fI fT fdI fdT
  Q : TP K C fP pP fdP
  V : TV K mg fV fdV
  M : TMe K C mc fWo fWp fSi pSi dWo dWp dSi
  A1 : TTa K mg fTa dTa
  N : TNx K mg fN dN
  A : TAl K mg fA dA
  E : TEr K mg cP cs
  prL : PropOf K C "lengths" pL fL
  uL : Fun K "lengths" "Tariff.lengths" sLengths fL dL
  prR : PropOf K C "prices" pR fR
  uR : Fun K "prices" "Tariff.prices" sPrices fR dR
  gMx : mg "_law_mix" = some (.ref fMx)
  kMx : PySem.W.keepIn K (.ref fMx) = true
  uMx : Fun K "_law_mix" "_law_mix" sMix fMx dMx
  gDr : mg "_law_passes" = some (.ref fDr)
  kDr : PySem.W.keepIn K (.ref fDr) = true
  uDr : Fun K "_law_passes" "_law_passes" sDrawn fDr dDr
  gBa : mg "_law_bad" = some (.ref fBa)
  kBa : PySem.W.keepIn K (.ref fBa) = true
  uBa : Fun K "_law_bad" "_law_bad" sBad fBa dBa
  gEr : mg "_law_error" = some (.ref fEr)
  kEr : PySem.W.keepIn K (.ref fEr) = true
  uEr : Fun K "_law_error" "_law_error" sErr fEr dEr
  mR : mg "range" = none
  mMin : mg "min" = none
  mL : mg "list" = none
section
variable {K : PySem.W.Frag} {mg : Str → Option Value}
theorem Gd.bMx (G : Gd K mg) : Binds K G.dMx ["_law_script", "_law_seed"] [] := G.uMx.binds (ps := ["_law_script", "_law_seed"]) fun _ _ _ _ _ _ us hl => match us, hl with | [_, _], _ => rfl
theorem Gd.bDr (G : Gd K mg) : Binds K G.dDr ["_law_h", "_law_most"] [] := G.uDr.binds (ps := ["_law_h", "_law_most"]) fun _ _ _ _ _ _ us hl => match us, hl with | [_, _], _ => rfl
theorem Gd.bBa (G : Gd K mg) : Binds K G.dBa ["_law_passes_here"] [] := G.uBa.binds (ps := ["_law_passes_here"]) fun _ _ _ _ _ _ us hl => match us, hl with | [_], _ => rfl
theorem Gd.bL (G : Gd K mg) : Binds K G.dL ["self"] [] := G.uL.binds (ps := ["self"]) fun _ _ _ _ _ _ us hl => match us, hl with | [_], _ => rfl
theorem Gd.bR (G : Gd K mg) : Binds K G.dR ["self"] [] := G.uR.binds (ps := ["self"]) fun _ _ _ _ _ _ us hl => match us, hl with | [_], _ => rfl
theorem bAl {fA : Addr} {fdA : FuncData} (T : TAl K mg fA fdA) : Binds K fdA ["_law_found", "_law_due"] [] := T.fu.binds (ps := ["_law_found", "_law_due"]) fun _ _ _ _ _ _ us hl => match us, hl with | [_, _], _ => rfl
end
section
variable {X : Cx} {e : Expr} {te : TE} {pos : Pos}
theorem pe_colL (G : Gd X.K X.mg) (hr : Room 2 X.A) (he : PE X e te) (hab : attributeBase e "lengths" X.env (eval e X.env) = eval e X.env := by rfl) : PE X (.Attribute e "lengths" pos) (tProp G.C (spCol X.K G.C Prod.fst) [] E0 te) :=
  pe_prop he G.X.cl G.prL (ok_lengths (k := 0) G.uL G.X) hr G.bL .nil pass0 hab
theorem pe_colP (G : Gd X.K X.mg) (hr : Room 2 X.A) (he : PE X e te) (hab : attributeBase e "prices" X.env (eval e X.env) = eval e X.env := by rfl) : PE X (.Attribute e "prices" pos) (tProp G.C (spCol X.K G.C Prod.snd) [] E0 te) :=
  pe_prop he G.X.cl G.prR (ok_prices (k := 0) G.uR G.X) hr G.bR .nil pass0 hab
end
theorem hf1 : ∀ y ∈ (lamS lam1).names, y.2 = .free → (defScope sLaw).names.lookup y.1 = some .cell ∨ (defScope sLaw).names.lookup y.1 = some .free := by decide +kernel
theorem hf2 : ∀ y ∈ (lamS lam2).names, y.2 = .free → (defScope sLaw).names.lookup y.1 = some .cell ∨ (defScope sLaw).names.lookup y.1 = some .free := by decide +kernel
theorem hf3 : ∀ y ∈ (lamS lam3).names, y.2 = .free → (defScope sLaw).names.lookup y.1 = some .cell ∨ (defScope sLaw).names.lookup y.1 = some .free := by decide +kernel
theorem hf4 : ∀ y ∈ (lamS lam4).names, y.2 = .free → (defScope sLaw).names.lookup y.1 = some .cell ∨ (defScope sLaw).names.lookup y.1 = some .free := by decide +kernel
theorem hf5 : ∀ y ∈ (lamS lam5).names, y.2 = .free → (defScope sLaw).names.lookup y.1 = some .cell ∨ (defScope sLaw).names.lookup y.1 = some .free := by decide +kernel
theorem hf6 : ∀ y ∈ (lamS lam6).names, y.2 = .free → (defScope sLaw).names.lookup y.1 = some .cell ∨ (defScope sLaw).names.lookup y.1 = some .free := by decide +kernel
theorem hr1 : ∀ y ∈ (["_law_results", "_law_passes_here"] : List Str), (y, NameKind.free) ∈ (lamS lam1).names := by decide +kernel
theorem hr2 : ∀ y ∈ (["_law_tariff_here", "_law_no"] : List Str), (y, NameKind.free) ∈ (lamS lam2).names := by decide +kernel
theorem hr3 : ∀ y ∈ (["_law_tariff_here", "_law_no", "_law_far"] : List Str), (y, NameKind.free) ∈ (lamS lam3).names := by decide +kernel
theorem hr4 : ∀ y ∈ (["_law_tariff_here", "_law_k", "_law_far"] : List Str), (y, NameKind.free) ∈ (lamS lam4).names := by decide +kernel
theorem hr5 : ∀ y ∈ (["_law_price"] : List Str), (y, NameKind.free) ∈ (lamS lam5).names := by decide +kernel
def spLaw (K : PySem.W.Frag) (Pt : Addr) : Sp := fun vs H Q _ => ∃ (a : Addr) (ns : List Int), vs = [.ref a] ∧ SqL K H a (ns.map V.int) ∧ ns.length ≤ 63 ∧ H Pt = some (.tbl #[]) ∧ ∀ H', Q (.bl true) H'
section
variable {P : Program} {w : World} {K : PySem.W.Frag} {mg : Str → Option Value} {base : Heap}
theorem ok_law {f cc : Addr} {oc kV doc pm ct : Value} {od an : Option Addr} {osl : Array (Option Value)} (G : Gd K mg) (lk : K.lookup f = some ⟨oc, od, .func (PySem.W.fnOf "law" "law" (defArgs sLaw) (defBody sLaw) (defScope sLaw) .none kV doc pm an (.ref cc) ct), osl⟩)
    (hcd : PySem.W.codeIn K (.ref cc) "law" = true) (TB : TabB base mg cc G.Pt) : FnOk P w K mg base CX0 9 f (PySem.W.fnOf "law" "law" (defArgs sLaw) (defBody sLaw) (defScope sLaw) .none kV doc pm an (.ref cc) ct) ["_law_script"] (spLaw K G.Pt) := by
  have hTm : (G.Pt, qLam) ∈ [(G.Pt, qLam)] := List.mem_singleton.mpr rfl
  have hTu : ∀ p ∈ [(G.Pt, qLam)], p.1 = G.Pt → p.2 = qLam := fun p hp _ => by rw [List.mem_singleton.mp hp]
  refine fn_of (N := NL) lk hcd scLaw (fun vs H Q E h => ?_) (fun A outer s H vs Q E hr h => ?_)
  · obtain ⟨a, ns, rfl, _⟩ := h
    rfl
  · have hu := hr.units
    have h1 := hr.mono (show 1 ≤ 8 by decide)
    have h2 := hr.mono (show 2 ≤ 8 by decide)
    have h4 := hr.mono (show 4 ≤ 8 by decide)
    have h6 := hr.mono (show 6 ≤ 8 by decide)
    have h8 := hr.mono (show 8 ≤ 8 by decide)
    suffices hh : ∃ t, PSs (cxOf CX0 P w K mg base NL "law" (defScope sLaw) f (.ref cc) A outer s H E).nox (defBody sLaw) t ∧ t { nx := fun _ H' => Q .non H', rt := Q } (start NL vs) H by
      obtain ⟨t, ht, hq⟩ := hh
      exact ⟨t, ht.nox, hq⟩
    refine ⟨_, (pss_cut (ps_set (i := 1) scLaw.nd rfl (.inl rfl) (pe_call (E := E0) (ok_mix (k := 0) G.uMx G.mL) h1 (by rfl) G.gMx G.kMx G.bMx .nil pass0 (pa_cons (pv 0) (pa_cons pe_int pa_nil))))
      (pss_cut (ps_for PassesOwn.never rfl (pi_range1 (by rfl) G.mR (pa_cons pe_int pa_nil)) (pg_name (i := 2) scLaw.nd rfl (.inl rfl)) (pss_cut (ps_set (i := 3) scLaw.nd rfl (.inr rfl) (pe_call (E := E0) (ok_drawn (k := 0) G.uDr G.N G.mR G.mMin G.X.mT) h2 (by rfl) G.gDr G.kDr G.bDr .nil pass0 (pa_cons (pv 1) (pa_cons pe_int pa_nil))))
      (pss_cut (ps_if (pt_cmpR op_eq (pe_next G.N h1 (by rfl) (pv 1) pe_int) pe_int (nomark _)) (pss_cut (ps_set (i := 4) scLaw.nd rfl (.inr rfl) (pe_next G.N h1 (by rfl) (pv 1) (pe_callB call_len_seq (by rfl) G.N.mN PySem.boot_len (pa_cons (pv 3) pa_nil))))
      (pss_cut (ps_set (i := 5) scLaw.nd rfl (.inl rfl) (pe_ixl (pe_lst (pa_cons (pe_tup (pa_cons pe_int (pa_cons pe_int pa_nil))) (pa_cons (pe_tup (pa_cons pe_int (pa_cons pe_int pa_nil))) (pa_cons (pe_tup (pa_cons (pe_un un_neg pe_int) (pa_cons pe_int pa_nil))) (pa_cons (pe_tup (pa_cons pe_int (pa_cons pe_int pa_nil))) (pa_cons (pe_tup (pa_cons pe_int (pa_cons (pe_op op_add (pe_op op_pow pe_int pe_int) pe_int) pa_nil))) (pa_cons (pe_tup (pa_cons pe_int (pa_cons (pe_op op_pow pe_int pe_int) pa_nil))) (pa_cons (pe_tup (pa_cons pe_int (pa_cons pe_int pa_nil))) pa_nil)))))))) (pe_next G.N h1 (by rfl) (pv 1) pe_int)))
      (pss_one (ps_set (i := 3) scLaw.nd rfl (.inr rfl) (pe_op op_catA (pe_op op_catA (pe_slice sl_tupA (pv 3) po_none (po_some (pv 4))) (pe_tup (pa_cons (pv 5) pa_nil))) (pe_slice sl_tupA (pv 3) (po_some (pe_op op_add (pv 4) pe_int)) po_none)))))) pss_nil)
      (pss_cut (ps_set (i := 3) scLaw.nd rfl (.inr rfl) (pe_ifExp (pt_cmpR op_eq (pe_next G.N h1 (by rfl) (pv 1) pe_int) pe_int (nomark _)) (pe_tup pa_nil) (pv 3)))
      (pss_cut (ps_asg (pe_tup (pa_cons (pe_call (E := E0) (ok_bad (k := 0) G.uBa G.N.mN G.mR) h1 (by rfl) G.gBa G.kBa G.bBa .nil pass0 (pa_cons (pv 3) pa_nil)) (pa_cons (pe_lst pa_nil) pa_nil))) (pg_tup rfl (pgs_cons (pg_name (i := 6) scLaw.nd rfl (.inl rfl)) (pgs_cons (pg_name (i := 7) scLaw.nd rfl (.inr rfl)) pgs_nil))))
      (pss_cut (ps_set (i := 8) scLaw.nd rfl (.inl rfl) (pe_give (ok_err G.uEr G.E (Nat.le_refl 7)) rfl h8 (by rfl) G.gEr G.kEr (pe_lamV (T := [(G.Pt, qLam)]) TB rfl hTm hTu hf1)))
      (pss_cut (ps_if (pt_cmpR (op_neD hu) (pv 8) (pe_ifExp (pt_cmpR op_isN (pv 6) pe_non (nomark _)) (pe_tup (pa_cons pe_str pa_nil)) (pe_tup (pa_cons pe_str (pa_cons (pv 6) pa_nil)))) (nomark _)) (pss_one (ps_ret pe_bl)) pss_nil)
      (pss_one (ps_if (pt_cmpR op_isN (pv 6) pe_non (nomark _)) (pss_cut (ps_asg (pe_tup (pa_cons (pe_ixl (pv 7) pe_int) (pa_cons (pe_next G.N h1 (by rfl) (pv 1) (pe_callB call_len_seq (by rfl) G.N.mN PySem.boot_len (pa_cons (pv 3) pa_nil))) pa_nil))) (pg_tup rfl (pgs_cons (pg_name (i := 9) scLaw.nd rfl (.inr rfl)) (pgs_cons (pg_name (i := 4) scLaw.nd rfl (.inr rfl)) pgs_nil))))
      (pss_cut (ps_set (i := 10) scLaw.nd rfl (.inl rfl) (pe_lst (pa_cons (pv 3) (pa_cons (pe_callTy call_tuple_of (by rfl) G.X.mT (by rfl) (pa_cons (pe_lc (own := [("_law_one", 16)]) (g := gName 16) (by rfl) scLaw.nd (pi_tup (pv 3)) (blkOk_by (own := [("_law_one", 16)]) (N := NL) (sc := defScope sLaw) (by decide +kernel)) (fun _ _ _ _ _ => pg_name (i := 16) scLaw.nd rfl (Or.inl rfl)) (fun _ _ _ _ _ => pts_nil) (fun _ _ _ _ _ => pe_ixtK K rfl (pv 16) pe_int)) pa_nil)) (pa_cons (pe_callTy call_tuple_of (by rfl) G.X.mT (by rfl) (pa_cons (pe_lc (own := [("_law_one", 16)]) (g := gName 16) (by rfl) scLaw.nd (pi_tup (pv 3)) (blkOk_by (own := [("_law_one", 16)]) (N := NL) (sc := defScope sLaw) (by decide +kernel)) (fun _ _ _ _ _ => pg_name (i := 16) scLaw.nd rfl (Or.inl rfl)) (fun _ _ _ _ _ => pts_nil) (fun _ _ _ _ _ => pe_ixtK K rfl (pv 16) pe_int)) pa_nil)) pa_nil)))))
      (pss_cut (ps_if (pt_not (pt_val (pe_call (E := E0) (ok_al G.A 4) h4 (by rfl) G.A.g G.A.kp (bAl G.A) .nil pass0 (pa_cons (pe_lst (pa_cons (pe_passes G.Q G.X.cl G.X.no (h2) (pv 9)) (pa_cons (pe_colL G h2 (pv 9)) (pa_cons (pe_colP G h2 (pv 9)) pa_nil)))) (pa_cons (pv 10) pa_nil))))) (pss_one (ps_ret pe_bl)) pss_nil)
      (pss_cut (ps_set (i := 11) scLaw.nd rfl (.inr rfl) (pe_op op_add pe_int (pe_next G.N h1 (by rfl) (pv 1) (pe_op op_pow pe_int pe_int))))
      (pss_cut (ps_if (pt_cmpR (op_neD hu) (pe_passes G.Q G.X.cl G.X.no (h2) (pe_meth (E := E0) (pv 9) G.X.cl G.M.mWp (ok_withPrice G.M.uWp G.X G.I G.Q G.V) h6 (bWp G.M) .nil passL (pa_cons (pv 4) (pa_cons (pv 11) pa_nil)))) (pe_op op_catA (pe_op op_catA (pe_slice sl_tupA (pv 3) po_none (po_some (pv 4))) (pe_tup (pa_cons (pe_tup (pa_cons (pe_ixt (pe_ixt (pv 3) (pv 4)) pe_int) (pa_cons (pv 11) pa_nil))) pa_nil))) (pe_slice sl_tupA (pv 3) (po_some (pe_op op_add (pv 4) pe_int)) po_none)) (nomark _)) (pss_one (ps_ret pe_bl)) pss_nil)
      (pss_cut (ps_set (i := 12) scLaw.nd rfl (.inl rfl) (pe_op op_catA (pe_slice sl_tupA (pv 3) po_none (po_some (pv 4))) (pe_slice sl_tupA (pv 3) (po_some (pe_op op_add (pv 4) pe_int)) po_none)))
      (pss_cut (ps_if (PW.pt (pw_and (pt_cmpR (op_neD hu) (pv 12) (pe_tup pa_nil) (nomark _)) (pw_and1 (pt_cmpR (op_neD hu) (pe_passes G.Q G.X.cl G.X.no (h2) (pe_meth (E := E0) (pv 9) G.X.cl G.M.mWo (ok_without G.M.uWo G.X G.I G.Q G.V) h6 (bWo G.M) .nil passL (pa_cons (pv 4) pa_nil))) (pv 12) (nomark _))))) (pss_one (ps_ret pe_bl)) pss_nil)
      (pss_cut (ps_asg (pe_tup (pa_cons (pe_ixl (pe_lst (pa_cons (pe_un un_neg pe_int) (pa_cons (pe_callB call_len_seq (by rfl) G.N.mN PySem.boot_len (pa_cons (pv 3) pa_nil)) pa_nil))) (pe_next G.N h1 (by rfl) (pv 1) pe_int)) (pa_cons (pe_ixl (pe_lst (pa_cons pe_int (pa_cons (pe_op op_add (pe_op op_pow pe_int pe_int) pe_int) pa_nil))) (pe_next G.N h1 (by rfl) (pv 1) pe_int)) pa_nil))) (pg_tup rfl (pgs_cons (pg_name (i := 13) scLaw.nd rfl (.inr rfl)) (pgs_cons (pg_name (i := 14) scLaw.nd rfl (.inr rfl)) pgs_nil))))
      (pss_cons (ps_set (i := 15) scLaw.nd rfl (.inl rfl) (pe_lst (pa_cons (pe_lamV (T := [(G.Pt, qLam)]) TB rfl hTm hTu hf2) (pa_cons (pe_lamD (T := [(G.Pt, qLam)]) TB rfl hTm hTu hf3 rfl rfl) pa_nil))))
      (pss_cons (ps_expr (pe_bm PySem.F.plainAttrs_list PySem.F.slot_list_append PySem.F.type_list_append mt_append (pv 15) (pa_cons (pe_lamV (T := [(G.Pt, qLam)]) TB rfl hTm hTu hf4) pa_nil)))
      (pss_cut (ps_if (pt_cmpR (op_neD hu) (pe_lcT (i := 17) (ok_err G.uEr G.E (Nat.le_refl 7)) rfl rfl scLaw.nd rfl (plainBlk_by (by decide +kernel)) rfl rfl G.gEr G.kEr h8 (pv 15)) (pe_lst (pa_cons (pe_tup (pa_cons pe_str pa_nil)) (pa_cons (pe_tup (pa_cons pe_str pa_nil)) (pa_cons (pe_tup (pa_cons pe_str (pa_cons (pv 4) pa_nil))) pa_nil)))) (nomark _)) (pss_one (ps_ret pe_bl)) pss_nil)
      (pss_one (ps_if (pt_cmpR (op_neD hu) (pe_give (ok_err G.uEr G.E (Nat.le_refl 7)) rfl h8 (by rfl) G.gEr G.kEr (pe_lamV (T := [(G.Pt, qLam)]) TB rfl hTm hTu hf5)) (pe_tup (pa_cons pe_str (pa_cons pe_int pa_nil))) (nomark _)) (pss_one (ps_ret pe_bl)) pss_nil))))))))))))) pss_nil)))))))))
      (pss_cut (ps_if (pt_cmpR (op_neD hu) (pe_lst (pa_cons (pe_passes G.Q G.X.cl G.X.no (h2) (pe_cmeth (E := E0) (pe_glob (v := .ref G.C) (by rfl) G.X.gC rfl) G.X.cr G.M.mSi ((ok_single G.M.uSi G.X G.I).raw (bSi G.M) .nil) h6 passL (pa_cons pe_int pa_nil))) (pa_cons (pe_give (ok_err G.uEr G.E (Nat.le_refl 7)) rfl h8 (by rfl) G.gEr G.kEr (pe_lamV (T := [(G.Pt, qLam)]) TB rfl hTm hTu hf6)) pa_nil))) (pe_lst (pa_cons (pe_tup (pa_cons (pe_tup (pa_cons pe_int (pa_cons pe_int pa_nil))) pa_nil)) (pa_cons (pe_tup (pa_cons pe_str (pa_cons pe_int pa_nil))) pa_nil))) (nomark _)) (pss_one (ps_ret pe_bl)) pss_nil)
      (pss_one (ps_ret (pe_cmpR (op_eqD hu) (pe_lst (pa_cons (pe_clc (by rfl) G.X.gC G.X.cr G.X.v1) (pa_cons (pe_clc (by rfl) G.X.gC G.X.cr G.X.v2) (pa_cons (pe_clc (by rfl) G.X.gC G.X.cr G.X.v3) pa_nil)))) (pe_lst (pa_cons pe_int (pa_cons (pe_op op_pow pe_int pe_int) (pa_cons pe_int pa_nil)))) (nomark _))))))), ?_⟩
    obtain ⟨a, ns, rfl, hS, hlen, hPt, q⟩ := h
    refine ⟨fun σ H' => ∃ (h c : Addr), σ = ([some (.ref a), some (.ref h), none, none, none, none, none, none, none, none, none, none, none, none, none, none, none, none] : L2.St) ∧ Dr H' h c ∧ Tabs [(G.Pt, qLam)] H', ?_, ?_⟩
    · exact ⟨_, rfl, a, ns, 1, rfl, hS, hlen, fun h c H' sm nh nc d => ⟨h, c, rfl, d, tabs_same (fun p hp => by rw [List.mem_singleton.mp hp]; exact TabS.nil hPt) sm⟩⟩
    rintro σ H1 ⟨h, c, rfl, d, hT⟩
    refine ⟨fun σ H' => (∃ v2 v3 v4 v5 v6 v7 v8 v9 v10 v11 v12 v13 v14 v15 v16 v17, σ = ([some (.ref a), some (.ref h), v2, v3, v4, v5, v6, v7, v8, v9, v10, v11, v12, v13, v14, v15, v16, v17] : L2.St)) ∧ Dr H' h c ∧ Tabs [(G.Pt, qLam)] H', ?_, ?_⟩
    · refine ⟨5, rfl, by decide, by decide, for_range (lo := 0) (n := (5 : Int).toNat) (fun i σ H' => (∃ v2 v3 v4 v5 v6 v7 v8 v9 v10 v11 v12 v13 v14 v15 v16 v17, σ = ([some (.ref a), some (.ref h), v2, v3, v4, v5, v6, v7, v8, v9, v10, v11, v12, v13, v14, v15, v16, v17] : L2.St)) ∧ Dr H' h c ∧ Tabs [(G.Pt, qLam)] H') ⟨⟨_, _, _, _, _, _, _, _, _, _, _, _, _, _, _, _, rfl⟩, d, hT⟩ ?_ fun σ H' z => z⟩
      rintro i σ H' hi ⟨⟨v2, v3, v4, v5, v6, v7, v8, v9, v10, v11, v12, v13, v14, v15, v16, v17, rfl⟩, d, hT⟩
      -- passes
      refine ⟨fun σ H' => ∃ (v : V) (L : List (Int × Int)), σ = ([some (.ref a), some (.ref h), some (.int (0 + (i : Int))), some v, v4, v5, v6, v7, v8, v9, v10, v11, v12, v13, v14, v15, v16, v17] : L2.St) ∧ PsA K H' v L ∧ 1 ≤ L.length ∧ L.length ≤ 7 ∧ Dr H' h c ∧ Tabs [(G.Pt, qLam)] H', ?_, ?_⟩
      · exact ⟨_, rfl, h, c, 7, rfl, by decide, by decide, d, fun v L H2 hL l1 l7 d2 k2 => ⟨v, L, rfl, hL, l1, by omega, d2, tabs_kp hT d k2⟩⟩
      rintro σ H2 ⟨v, L, rfl, hL, l1, l7, d2, hT2⟩
      refine ⟨fun σ H' => ∃ (v : V) (L : List (Int × Int)) (v4 v5 : Option V), σ = ([some (.ref a), some (.ref h), some (.int (0 + (i : Int))), some v, v4, v5, v6, v7, v8, v9, v10, v11, v12, v13, v14, v15, v16, v17] : L2.St) ∧ PsA K H' v L ∧ L.length ≤ 7 ∧ Dr H' h c ∧ Tabs [(G.Pt, qLam)] H', ?_, ?_⟩
      · refine ⟨_, rfl, h, c, 2, rfl, by decide, by decide, d2, fun x H3 x0 x1 d3 k3 => ⟨rfl, _, rfl, ?_⟩⟩
        have hL3 := hL.kp d2 k3
        have hT3 := tabs_kp hT2 d2 k3
        refine ite2 (fun _ => ?_) (fun _ => ⟨v, L, v4, v5, rfl, hL3, l7, d3, hT3⟩)
        obtain ⟨p, vs, rfl, hp, hv⟩ := id hL3
        have hll := hv.len
        refine ⟨fun σ H' => ∃ k : Nat, k < L.length ∧ σ = ([some (.ref a), some (.ref h), some (.int (0 + (i : Int))), some (.ref p), some (.int (k : Nat)), v5, v6, v7, v8, v9, v10, v11, v12, v13, v14, v15, v16, v17] : L2.St) ∧ PsA K H' (.ref p) L ∧ Dr H' h c ∧ Tabs [(G.Pt, qLam)] H', ?_, ?_⟩
        · refine ⟨_, rfl, _, rfl, p, vs, rfl, .inr hp, h, c, _, rfl, by omega, by omega, d3, fun k H4 k0 k1 d4 k4 => ?_⟩
          obtain ⟨n, rfl⟩ := Int.eq_ofNat_of_zero_le k0
          exact ⟨n, by omega, rfl, hL3.kp d3 k4, d4, tabs_kp hT3 d3 k4⟩
        rintro σ H4 ⟨k, hk, rfl, hL4, d4, hT4⟩
        refine ⟨fun σ H' => ∃ (o : V) (x : Int × Int), σ = ([some (.ref a), some (.ref h), some (.int (0 + (i : Int))), some (.ref p), some (.int (k : Nat)), some o, v6, v7, v8, v9, v10, v11, v12, v13, v14, v15, v16, v17] : L2.St) ∧ PrV K H' o x ∧ PsA K H' (.ref p) L ∧ Dr H' h c ∧ Tabs [(G.Pt, qLam)] H', ?_, ?_⟩
        · obtain ⟨M7, hM7, eP⟩ := odd_ev K [some (.ref a), some (.ref h), some (.int (0 + (i : Int))), some (.ref p), some (.int (k : Nat)), v5, v6, v7, v8, v9, v10, v11, v12, v13, v14, v15, v16, v17] H4
          show tLst oddT _ H4 (fun x H1 => tCall spNext [] E0 (tCons (tVar 1) (tCons (tC (.int 7)) tNil)) _ H1 (fun y H2 => rIxL K x y H2 _))
          refine tLst_pa (by rw [hM7]; decide) eP fun ws H5 l e5 hws nl => ?_
          have d5 : Dr H5 h c := d4.same e5
          have d6 := d5.new (o := .lst ws) nl
          have hn := d5.nh nl
          refine ⟨_, rfl, h, c, 7, rfl, by decide, by decide, d6, fun j H7 j0 j1 d7 k7 => ?_⟩
          obtain ⟨n, rfl⟩ := Int.eq_ofNat_of_zero_le j0
          have hn7 : n < ws.length := by
            rw [hws.len, hM7]
            omega
          obtain ⟨x, hx, hxr⟩ := hws.get (List.getElem?_eq_getElem hn7)
          refine ⟨l, ws, _, ws[n], rfl, rfl, SqL.of (k7 _ _ upd_same hn.1 hn.2), at_nat hn7 (List.getElem?_eq_getElem hn7), ?_⟩
          exact ⟨_, x, rfl, (hxr.tk (.new nl)).tk (d6.tk k7), ((hL4.tk (.same e5)).tk (.new nl)).kp d6 k7, d7, tabs_kp (tabs_same (tabs_same hT4 e5) (same_new nl)) d6 k7⟩
        rintro σ H5 ⟨o, x, rfl, ho, hL5, d5, hT5⟩
        refine (ed_cat (L := L.take k ++ [x]) (M := L.drop (k + 1)) (ed_cat (L := L.take k) (M := [x]) ?_ ?_ (by rw [List.length_take, List.length_singleton]; omega)) ?_ (by rw [List.length_append, List.length_take, List.length_drop, List.length_singleton]; omega)) H5 (Ex.refl _) _ fun u H6 e6 hu6 => ⟨u, _, _, _, rfl, hu6, ?_, d5.same e6, tabs_same hT5 e6⟩
        · rw [← cutP_to L k]
          exact ed_sl (ed_var rfl hL5) (fun _ _ => eo_none) fun _ _ => eo_some (ev_var rfl)
        · exact ed_oneV (ed_of (ev_var rfl) fun H6 e6 => ho.tk (.same e6))
        · rw [← cutP_from L (k + 1)]
          exact ed_sl (ed_var rfl hL5) (fun _ _ => eo_some (ev_op (ev_var rfl) ev_c rv_I0)) fun _ _ => eo_none
        · rw [List.length_append, List.length_append, List.length_take, List.length_drop, List.length_singleton]
          omega
      clear hL l1 l7 d2 hT2 v L H2
      clear v4 v5
      rintro σ H2 ⟨v, L, v4, v5, rfl, hL, l7, d2, hT2⟩
      refine ⟨fun σ H' => ∃ (v : V) (L : List (Int × Int)) (v4 v5 : Option V), σ = ([some (.ref a), some (.ref h), some (.int (0 + (i : Int))), some v, v4, v5, v6, v7, v8, v9, v10, v11, v12, v13, v14, v15, v16, v17] : L2.St) ∧ PsA K H' v L ∧ L.length ≤ 7 ∧ Dr H' h c ∧ Tabs [(G.Pt, qLam)] H', ?_, ?_⟩
      · refine ⟨_, rfl, h, c, 12, rfl, by decide, by decide, d2, fun x H3 x0 x1 d3 k3 => ⟨rfl, _, rfl, ?_⟩⟩
        have hL3 := hL.kp d2 k3
        have hT3 := tabs_kp hT2 d2 k3
        refine ite2 (fun _ => ?_) (fun _ => ⟨_, rfl, v, L, v4, v5, rfl, hL3, l7, d3, hT3⟩)
        refine ⟨Nat.zero_le _, fun p np => ⟨.ref p, [], v4, v5, rfl, ⟨p, [], rfl, .of upd_same, .nil⟩, Nat.zero_le _, d3.new np, tabs_same hT3 (same_new np)⟩⟩
      clear hL l7 d2 hT2 v L H2
      clear v4 v5
      rintro σ H2 ⟨v, L, v4, v5, rfl, hL, l7, d2, hT2⟩
      refine ⟨fun σ H' => ∃ (v : V) (L : List (Int × Int)) (r : Addr), σ = ([some (.ref a), some (.ref h), some (.int (0 + (i : Int))), some v, v4, v5, some (opV (bad L)), some (.ref r), v8, v9, v10, v11, v12, v13, v14, v15, v16, v17] : L2.St) ∧ PsA K H' v L ∧ L.length ≤ 7 ∧ Dr H' h c ∧ Tabs [(G.Pt, qLam)] H' ∧ H' r = some (.lst []) ∧ r ≠ h ∧ r ≠ c, ?_, ?_⟩
      · refine ⟨_, rfl, v, L, rfl, hL, l7, fun H3 s3 => ⟨Nat.zero_le _, fun r nr => ⟨Nat.le_of_lt (small1000 (show 2 ≤ 1000 by decide)), fun t nt => ?_⟩⟩⟩
        have d3 := d2.same s3
        have nn := d3.nh nr
        have nrt : r ≠ t := fun z => by
          rw [← z, upd_same] at nt
          cases nt
        exact ⟨t, _, rfl, .of upd_same, rfl, _, _, rfl, _, _, rfl, rfl, v, L, r, rfl, ((hL.tk (.same s3)).tk (.new nr)).tk (.new nt), l7, (d3.new nr).new nt, tabs_same (tabs_same (tabs_same hT2 s3) (same_new nr)) (same_new nt), by rw [upd_ne nrt, upd_same], nn.1, nn.2⟩
      clear hL l7 d2 hT2 v L H2
      rintro σ H2 ⟨v, L, r, rfl, hL, l7, d2, hT2, hr2, nrh, nrc⟩
      refine ⟨fun σ H' => ∃ (ea : Addr), σ = ([some (.ref a), some (.ref h), some (.int (0 + (i : Int))), some v, v4, v5, some (opV (bad L)), some (.ref r), some (.ref ea), v9, v10, v11, v12, v13, v14, v15, v16, v17] : L2.St) ∧ PsA K H' v L ∧ Dr H' h c ∧ Tabs [(G.Pt, qLam)] H' ∧ (H' ea = some (.tup (errV (bad L))) ∧ (bad L = none → ∃ (ta tp : Addr), H' r = some (.lst [.ref ta]) ∧ Tar K G.C H' ta tp L)), ?_, ?_⟩
      · refine ⟨hT2, fun f1 c1 H3 eN T3 nf hf hc => ?_⟩
        have hr3 : H3 r = some (.lst []) := eN _ _ hr2 fun ps z => by cases z
        have hL3 := hL.tk (.extN eN)
        have d3 := d2.extN eN
        refine ⟨f1, mkF lam1 _ c1 .none, ["_law_results", "_law_passes_here"], [7, 3], ts1 K G.C (G.cs 0), rfl, lok1 G.X G.I G.A1, hf, hc, dv_none, fun ok => Caps.made ok hf1 hr1 rfl, ?_⟩
        refine ⟨r, v, L, rfl, hr3, hL3, l7, fun hb ta tp H4 k4 hr4 ht ea H5 s5 he => ?_, fun j d H4 hb s4 hd => .inl ⟨rfl, d, j, rfl, hd, fun ea H5 s5 he => ?_⟩⟩
        · have tk4 : TK K H3 H4 := .but (fun b => b = r) (fun b o e n => k4 b o e n) fun b xs z => by
            rw [z]
            exact Rd.lst_no hr3
          have d4 : Dr H4 h c := by
            obtain ⟨n0, m, kk, ns', f1', f2', f3'⟩ := d3
            exact ⟨n0, m, kk, ns', k4 _ _ f1' nrh.symm, k4 _ _ f2' nrc.symm, f3'⟩
          have T4 : Tabs [(G.Pt, qLam)] H4 := tabs_but T3 fun b o e n => k4 b o e fun z => by
            rw [z, hr3] at e
            cases e
            exact n.1 _ rfl
          exact ⟨ea, rfl, (hL3.tk tk4).tk (.same s5), d4.same s5, tabs_same T4 s5, (by rw [hb]; exact he), fun _ => ⟨ta, tp, s5 _ _ hr4, ht.same s5⟩⟩
        · exact ⟨ea, rfl, (hL3.tk (.same s4)).tk (.same s5), (d3.same s4).same s5, tabs_same (tabs_same T3 s4) s5, (by rw [hb]; exact he), fun z => (by rw [hb] at z; cases z)⟩
      clear hL d2 hT2 hr2 H2
      rintro σ H2 ⟨ea, rfl, hL, d2, hT2, he2, hok⟩
      have eU : ∀ H', Ex H2 H' → EvU (tIf (tTest (tOp (fun x y H Q => y = .non ∧ Q (.bl (decide (x = .non))) H) (tVar 6) (tC .non))) (tTup (tCons (tC (.str "none")) tNil)) (tTup (tCons (tC (.str "tariff")) (tCons (tVar 6) tNil)))) [some (.ref a), some (.ref h), some (.int (0 + (i : Int))), some v, v4, v5, some (opV (bad L)), some (.ref r), some (.ref ea), v9, v10, v11, v12, v13, v14, v15, v16, v17] H' (errV (bad L)) := fun H' e' => by
        cases bad L with
        | none => exact eu_ifT (et_is (et_isN rfl) rfl) (eu_tup (ea_cons ev_c ea_nil) (show 1 ≤ 100000 by decide))
        | some j => exact eu_ifF (et_is (et_isN rfl) rfl) (eu_tup (ea_cons ev_c (ea_cons (ev_var rfl) ea_nil)) (show 2 ≤ 100000 by decide))
      refine ⟨fun σ H' => ∃ (ea : Addr), σ = ([some (.ref a), some (.ref h), some (.int (0 + (i : Int))), some v, v4, v5, some (opV (bad L)), some (.ref r), some (.ref ea), v9, v10, v11, v12, v13, v14, v15, v16, v17] : L2.St) ∧ PsA K H' v L ∧ Dr H' h c ∧ Tabs [(G.Pt, qLam)] H' ∧ (H' ea = some (.tup (errV (bad L))) ∧ (bad L = none → ∃ (ta tp : Addr), H' r = some (.lst [.ref ta]) ∧ Tar K G.C H' ta tp L)), ?_, ?_⟩
      · refine s_when (b := false) (et_is (et_test (ev_opU (ev_var rfl) (eU H2 (Ex.refl _)) fun p H3 h3 e3 => rv_neD (d := errD (bad L)) (e := errD (bad L)) (fun H4 e4 => errDp _ ((Ex.trans e3 e4) _ _ he2)) (fun H4 e4 => errDp _ (e4 _ _ h3)) (errSh _) (errSh _))) (by rw [eqv_self _ (errSh _)]; rfl)) (fun z => by cases z) fun _ H3 e3 => ?_
        exact ⟨ea, rfl, hL.tk (.same e3), d2.same e3, tabs_same hT2 e3, e3 _ _ he2, fun hb => let ⟨ta, tp, h1, h2⟩ := hok hb; ⟨ta, tp, e3 _ _ h1, h2.same e3⟩⟩
      clear eU hL d2 hT2 he2 hok H2 ea
      rintro σ H2 ⟨ea, rfl, hL, d2, hT2, he2, hok⟩
      refine s_when (b := decide (opV (bad L) = .non)) (et_isN rfl) (fun hb H3 e3 => ?_) (fun _ H3 e3 => ⟨⟨_, _, _, _, _, _, _, _, _, _, _, _, _, _, _, _, rfl⟩, d2.same e3, tabs_same hT2 e3⟩)
      have hbn : bad L = none := by
        cases hbl : bad L with
        | none => rfl
        | some j =>
          rw [hbl] at hb
          cases hb
      obtain ⟨ta, tp, hr2, ht2⟩ := hok hbn
      replace hL := hL.tk (.same e3)
      replace d2 := d2.same e3
      replace hT2 := tabs_same hT2 e3
      replace hr2 := e3 _ _ hr2
      replace ht2 := ht2.same e3
      clear hok he2 e3 hb
      clear H2
      revert hL d2 hT2 hr2 ht2
      generalize H3 = H2
      intro hL d2 hT2 hr2 ht2
      have hl6 := bad_len hbn
      have hl1 : 1 ≤ L.length := by
        cases L with
        | nil => cases hbn
        | cons _ _ => exact Nat.succ_pos _
      obtain ⟨p, vs, rfl, hp, hv⟩ := id hL
      have hll := hv.len
      refine ⟨fun σ H' => ∃ k : Nat, k < L.length ∧ σ = ([some (.ref a), some (.ref h), some (.int (0 + (i : Int))), some (.ref p), some (.int (k : Nat)), v5, some (opV (bad L)), some (.ref r), some (.ref ea), some (.ref ta), v10, v11, v12, v13, v14, v15, v16, v17] : L2.St) ∧ PsA K H' (.ref p) L ∧ Dr H' h c ∧ Tabs [(G.Pt, qLam)] H' ∧ Tar K G.C H' ta tp L, ?_, ?_⟩
      · refine ⟨_, rfl, r, [.ref ta], 0, .ref ta, rfl, rfl, SqL.of hr2, rfl, _, rfl, _, rfl, p, vs, rfl, .inr hp, h, c, _, rfl, by omega, by omega, d2, fun k H3 k0 k1 d3 k3 => ⟨Nat.le_of_lt (small1000 (show 2 ≤ 1000 by decide)), fun t nt => ?_⟩⟩
        obtain ⟨n, rfl⟩ := Int.eq_ofNat_of_zero_le k0
        exact ⟨t, _, rfl, .of upd_same, rfl, _, _, rfl, _, _, rfl, rfl, n, by omega, rfl, (hL.kp d2 k3).tk (.new nt), d3.new nt, tabs_same (tabs_kp hT2 d2 k3) (same_new nt), (ht2.kp d2 k3).same (same_new nt)⟩
      clear hr2 hL d2 hT2 ht2 hp hv hll vs H2
      rintro σ H2 ⟨k, hk, rfl, hL, d2, hT2, ht2⟩
      obtain ⟨p', vs, e, hp, hv⟩ := id hL
      cases e
      obtain ⟨x, hx⟩ : ∃ x, L[k]? = some x := ⟨_, List.getElem?_eq_getElem hk⟩
      refine ⟨fun σ H' => ∃ due : Addr, σ = ([some (.ref a), some (.ref h), some (.int (0 + (i : Int))), some (.ref p), some (.int (k : Nat)), v5, some (opV (bad L)), some (.ref r), some (.ref ea), some (.ref ta), some (.ref due), v11, v12, v13, v14, v15, v16, v17] : L2.St) ∧ PsA K H' (.ref p) L ∧ Dr H' h c ∧ Tabs [(G.Pt, qLam)] H' ∧ Tar K G.C H' ta tp L ∧ Dp K H' (.ref due) (dueD L), ?_, ?_⟩
      · have eD : EvDp K (tLst (tCons (tVar 3) (tCons (tCB (fun xs H Q => ∃ p ys, xs = [V.ref p] ∧ ((SqL K H p ys ∧ ∀ l, H l = none → Q (.ref l) (upd H l (.tup ys))) ∨ (SqT K H p ys ∧ Q (.ref p) H))) (tCons (tLc (iTup K (tVar 3)) (gName 16) tYes (tOp (rIxT K) (tVar 16) (tC (.int 0))) [16]) tNil))
            (tCons (tCB (fun xs H Q => ∃ p ys, xs = [V.ref p] ∧ ((SqL K H p ys ∧ ∀ l, H l = none → Q (.ref l) (upd H l (.tup ys))) ∨ (SqT K H p ys ∧ Q (.ref p) H))) (tCons (tLc (iTup K (tVar 3)) (gName 16) tYes (tOp (rIxT K) (tVar 16) (tC (.int 1))) [16]) tNil)) tNil)))) [some (.ref a), some (.ref h), some (.int (0 + (i : Int))), some (.ref p), some (.int (k : Nat)), v5, some (opV (bad L)), some (.ref r), some (.ref ea), some (.ref ta), v10, v11, v12, v13, v14, v15, v16, v17] H2 (dueD L) :=
          edp_lst (eda_cons (edp_ps (ed_var rfl hL)) (eda_cons (edp_col (f := Prod.fst) (eu_col rfl hp hv (by omega) (fun _ => rfl) (fun _ => rfl) (fun _ => rfl))) (eda_cons (edp_col (f := Prod.snd) (eu_col rfl hp hv (by omega) (fun _ => rfl) (fun _ => rfl) (fun _ => rfl))) eda_nil))) (show 3 ≤ 1000 by decide)
        refine eD H2 (Ex.refl _) _ fun u H3 e3 hu => ?_
        obtain ⟨due, rfl⟩ : ∃ due, u = V.ref due := by
          cases hu with
          | lst _ _ => exact ⟨_, rfl⟩
        exact ⟨due, rfl, hL.tk (.same e3), d2.same e3, tabs_same hT2 e3, ht2.same e3, hu⟩
      clear hL d2 hT2 ht2 hp hv vs H2
      rintro σ H2 ⟨due, rfl, hL, d2, hT2, ht2, hdu⟩
      refine ⟨fun σ H' => σ = ([some (.ref a), some (.ref h), some (.int (0 + (i : Int))), some (.ref p), some (.int (k : Nat)), v5, some (opV (bad L)), some (.ref r), some (.ref ea), some (.ref ta), some (.ref due), v11, v12, v13, v14, v15, v16, v17] : L2.St) ∧ PsA K H' (.ref p) L ∧ Dr H' h c ∧ Tabs [(G.Pt, qLam)] H' ∧ Tar K G.C H' ta tp L, ?_, ?_⟩
      · have eA : EvDpA K (tCons (tLst (tCons (tProp G.C (getSp G.C "offers") [] E0 (tVar 9)) (tCons (tProp G.C (spCol K G.C Prod.fst) [] E0 (tVar 9)) (tCons (tProp G.C (spCol K G.C Prod.snd) [] E0 (tVar 9)) tNil)))) (tCons (tVar 10) tNil)) [some (.ref a), some (.ref h), some (.int (0 + (i : Int))), some (.ref p), some (.int (k : Nat)), v5, some (opV (bad L)), some (.ref r), some (.ref ea), some (.ref ta), some (.ref due), v11, v12, v13, v14, v15, v16, v17] H2 [dueD L, dueD L] :=
          eda_cons (edp_lst (eda_cons (edp_ps (ed_prop (ed_tar rfl ht2))) (eda_cons (edp_cols rfl ht2 (by omega)) (eda_cons (edp_cols rfl ht2 (by omega)) eda_nil))) (show 3 ≤ 1000 by decide)) (eda_cons (edp_ev (ev_var rfl) fun H3 e3 => dp_ex e3 hdu) eda_nil)
        refine s_when (b := false) (et_al eA (dueI (by omega))) (fun z => by cases z) fun _ H3 e3 => ⟨rfl, hL.tk (.same e3), d2.same e3, tabs_same hT2 e3, ht2.same e3⟩
      clear hL d2 hT2 ht2 hdu H2
      rintro σ H2 ⟨rfl, hL, d2, hT2, ht2⟩
      refine ⟨fun σ H' => ∃ z : Int, 1 ≤ z ∧ z ≤ 1000000 ∧ σ = ([some (.ref a), some (.ref h), some (.int (0 + (i : Int))), some (.ref p), some (.int (k : Nat)), v5, some (opV (bad L)), some (.ref r), some (.ref ea), some (.ref ta), some (.ref due), some (.int z), v12, v13, v14, v15, v16, v17] : L2.St) ∧ PsA K H' (.ref p) L ∧ Dr H' h c ∧ Tabs [(G.Pt, qLam)] H' ∧ Tar K G.C H' ta tp L, ?_, ?_⟩
      · refine ⟨_, rfl, _, _, rfl, rfl, ⟨by decide, by decide, by decide⟩, h, c, _, rfl, by decide, by decide, d2, fun z H3 z0 z1 d3 k3 => ⟨_, _, rfl, rfl, 1 + z, by omega, ?_, rfl, hL.kp d2 k3, d3, tabs_kp hT2 d2 k3, ht2.kp d2 k3⟩⟩
        have e6 : (10 : Int) ^ (6 : Int).toNat = 1000000 := by decide
        rw [e6] at z1
        omega
      clear hL d2 hT2 ht2 H2
      rintro σ H2 ⟨z, z1, z2, rfl, hL, d2, hT2, ht2⟩
      obtain ⟨p', vs, e, hp, hv⟩ := id hL
      cases e
      have hkv : k < vs.length := by rw [hv.len]; exact hk
      obtain ⟨x', hx', b, hb1, hb2⟩ := hv.get (List.getElem?_eq_getElem hkv)
      obtain rfl : x = x' := Option.some.inj (hx.symm.trans hx')
      have hix : atI vs ((k : Nat) : Int) = some (.ref b) := at_nat hkv (by rw [List.getElem?_eq_getElem hkv, hb1])
      refine ⟨fun σ H' => σ = ([some (.ref a), some (.ref h), some (.int (0 + (i : Int))), some (.ref p), some (.int (k : Nat)), v5, some (opV (bad L)), some (.ref r), some (.ref ea), some (.ref ta), some (.ref due), some (.int z), v12, v13, v14, v15, v16, v17] : L2.St) ∧ PsA K H' (.ref p) L ∧ Dr H' h c ∧ Tabs [(G.Pt, qLam)] H' ∧ Tar K G.C H' ta tp L, ?_, ?_⟩
      · refine s_when (b := false) (et_same (d := psD (L.take k ++ [(x.1, z)] ++ L.drop (k + 1))) (edp_ps (ed_prop (ed_wp rfl rfl rfl ht2 hbn hx z1 z2))) (edp_ps (ed_cat (L := L.take k ++ [(x.1, z)]) (M := L.drop (k + 1)) (ed_cat (L := L.take k) (M := [(x.1, z)]) ?_ ?_ (by rw [List.length_take, List.length_singleton]; omega)) ?_ (by rw [List.length_append, List.length_take, List.length_drop, List.length_singleton]; omega))) (psD_sh _)) (fun z => by cases z) fun _ H3 e3 => ⟨rfl, hL.tk (.same e3), d2.same e3, tabs_same hT2 e3, ht2.same e3⟩
        · rw [← cutP_to L k]
          exact ed_sl (ed_var rfl hL) (fun _ _ => eo_none) fun _ _ => eo_some (ev_var rfl)
        · exact ed_one (fun H3 e3 => ev_op (ev_op (ev_var rfl) (ev_var rfl) (rv_ixT (ex_t e3 hp) hix)) ev_c (rv_ixT (ex_t e3 hb2) rfl)) fun H3 e3 => ev_var rfl
        · rw [← cutP_from L (k + 1)]
          exact ed_sl (ed_var rfl hL) (fun _ _ => eo_some (ev_op (ev_var rfl) ev_c rv_I0)) fun _ _ => eo_none
      clear hL d2 hT2 ht2 hp hv hkv hx' hb1 hb2 hix vs b H2
      rintro σ H2 ⟨rfl, hL, d2, hT2, ht2⟩
      refine ⟨fun σ H' => ∃ rs : V, σ = ([some (.ref a), some (.ref h), some (.int (0 + (i : Int))), some (.ref p), some (.int (k : Nat)), v5, some (opV (bad L)), some (.ref r), some (.ref ea), some (.ref ta), some (.ref due), some (.int z), some rs, v13, v14, v15, v16, v17] : L2.St) ∧ (PsA K H' (.ref p) L ∧ Dr H' h c ∧ Tabs [(G.Pt, qLam)] H' ∧ Tar K G.C H' ta tp L) ∧ PsA K H' rs (L.take k ++ L.drop (k + 1)), ?_, ?_⟩
      · refine (ed_cat (L := L.take k) (M := L.drop (k + 1)) ?_ ?_ (by rw [List.length_take, List.length_drop]; omega)) H2 (Ex.refl _) _ fun u H3 e3 hu => ⟨u, rfl, ⟨hL.tk (.same e3), d2.same e3, tabs_same hT2 e3, ht2.same e3⟩, hu⟩
        · rw [← cutP_to L k]
          exact ed_sl (ed_var rfl hL) (fun _ _ => eo_none) fun _ _ => eo_some (ev_var rfl)
        · rw [← cutP_from L (k + 1)]
          exact ed_sl (ed_var rfl hL) (fun _ _ => eo_some (ev_op (ev_var rfl) ev_c rv_I0)) fun _ _ => eo_none
      clear hL d2 hT2 ht2 H2
      rintro σ H2 ⟨rs, rfl, ⟨hL, d2, hT2, ht2⟩, hrs⟩
      refine ⟨fun σ H' => σ = ([some (.ref a), some (.ref h), some (.int (0 + (i : Int))), some (.ref p), some (.int (k : Nat)), v5, some (opV (bad L)), some (.ref r), some (.ref ea), some (.ref ta), some (.ref due), some (.int z), some rs, v13, v14, v15, v16, v17] : L2.St) ∧ PsA K H' (.ref p) L ∧ Dr H' h c ∧ Tabs [(G.Pt, qLam)] H' ∧ Tar K G.C H' ta tp L, ?_, ?_⟩
      · refine s_when (b := false) (et_is (et_and (a := !PyData.eqv (psD (L.take k ++ L.drop (k + 1))) (psD [])) (b := false) (et_neD (edp_ps (ed_var rfl hrs)) (edp_tup eda_nil (Nat.zero_le _)) (psD_sh _) (psD_sh [])) fun hq => ?_) (by simp)) (fun z => by cases z) fun _ H3 e3 => ⟨rfl, hL.tk (.same e3), d2.same e3, tabs_same hT2 e3, ht2.same e3⟩
        rw [psD_eq] at hq
        have hR : L.take k ++ L.drop (k + 1) ≠ [] := fun z => by
          rw [decide_eq_true z] at hq
          cases hq
        exact et_same (edp_ps (ed_prop (ed_wo rfl rfl ht2 hbn hk hR))) (edp_ps (ed_var rfl hrs)) (psD_sh _)
      clear hL d2 hT2 ht2 hrs H2
      rintro σ H2 ⟨rfl, hL, d2, hT2, ht2⟩
      refine ⟨fun σ H' => ∃ no far : Int, ¬ (0 ≤ no ∧ no < (L.length : Int)) ∧ ¬ (1 ≤ far ∧ far ≤ 1000000) ∧ σ = ([some (.ref a), some (.ref h), some (.int (0 + (i : Int))), some (.ref p), some (.int (k : Nat)), v5, some (opV (bad L)), some (.ref r), some (.ref ea), some (.ref ta), some (.ref due), some (.int z), some rs, some (.int no), some (.int far), v15, v16, v17] : L2.St) ∧ PsA K H' (.ref p) L ∧ Dr H' h c ∧ Tabs [(G.Pt, qLam)] H' ∧ Tar K G.C H' ta tp L, ?_, ?_⟩
      · obtain ⟨p', vs, e, hp, hv⟩ := id hL
        cases e
        have hll := hv.len
        refine ⟨_, rfl, _, rfl, p, vs, rfl, .inr hp, Nat.le_of_lt (small1000 (show 2 ≤ 1000 by decide)), fun l nl => ?_⟩
        have dl := d2.new (o := .lst [.int (-1), .int ((vs.length : Nat) : Int)]) nl
        have nn := d2.nh nl
        refine ⟨_, rfl, h, c, 2, rfl, by decide, by decide, dl, fun j H3 j0 j1 d3 k3 => ?_⟩
        obtain ⟨no, hno, hno2⟩ := pick2 (-1) ((vs.length : Nat) : Int) j j0 j1
        refine ⟨l, _, j, _, rfl, rfl, SqL.of (k3 _ _ upd_same nn.1 nn.2), hno, ?_⟩
        refine ⟨_, _, rfl, rfl, ⟨by decide, by decide, by decide⟩, _, _, rfl, rfl, Nat.le_of_lt (small1000 (show 2 ≤ 1000 by decide)), fun l2 nl2 => ?_⟩
        have dl2 := d3.new (o := .lst [.int 0, .int ((10 : Int) ^ (6 : Int).toNat + 1)]) nl2
        have nn2 := d3.nh nl2
        refine ⟨_, rfl, h, c, 2, rfl, by decide, by decide, dl2, fun j2 H4 j20 j21 d4 k4 => ?_⟩
        obtain ⟨far, hfar, hfar2⟩ := pick2 0 ((10 : Int) ^ (6 : Int).toNat + 1) j2 j20 j21
        refine ⟨l2, _, j2, _, rfl, rfl, SqL.of (k4 _ _ upd_same nn2.1 nn2.2), hfar, ?_⟩
        refine ⟨Nat.le_of_lt (small1000 (show 2 ≤ 1000 by decide)), fun t nt => ?_⟩
        have e6 : (10 : Int) ^ (6 : Int).toNat = 1000000 := by decide
        have hL4 := ((hL.tk (.new nl)).kp dl k3).tk (TK.new (K := K) (o := .lst [.int 0, .int ((10 : Int) ^ (6 : Int).toNat + 1)]) nl2)
        have ht4 := ((ht2.same (same_new nl)).kp dl k3).same (same_new (o := .lst [.int 0, .int ((10 : Int) ^ (6 : Int).toNat + 1)]) nl2)
        have hT4 := tabs_same (tabs_kp (tabs_same hT2 (same_new nl)) dl k3) (same_new (o := .lst [.int 0, .int ((10 : Int) ^ (6 : Int).toNat + 1)]) nl2)
        refine ⟨t, _, rfl, .of upd_same, rfl, _, _, rfl, _, _, rfl, rfl, no, far, fun hn => ?_, fun hf => ?_, rfl, (hL4.kp dl2 k4).tk (.new nt), d4.new nt, tabs_same (tabs_kp hT4 dl2 k4) (same_new nt), (ht4.kp dl2 k4).same (same_new nt)⟩
        · rcases hno2 with q | q
          · omega
          · omega
        · rw [e6] at hfar2
          rcases hfar2 with q | q
          · omega
          · omega
      clear hL d2 hT2 ht2 H2
      rintro σ H2 ⟨no, far, hno, hfar, rfl, hL, d2, hT2, ht2⟩
      refine ⟨hT2, fun f2 c2 Ha eA Ta nf2 ho2 hc2 => ⟨Ta, fun f3 c3 t3 Hb eB Tb nf3 nt3 ht3 ho3 hc3 => ⟨Nat.le_of_lt (small1000 (show 2 ≤ 1000 by decide)), fun D nD => ?_⟩⟩⟩
      have db : Dr Hb h c := (d2.extN eA).extN eB
      have nDD := db.nh nD
      have sD : Same Hb (upd Hb D (.lst [.ref f2, .ref f3])) := same_new nD
      refine ⟨.ref D, rfl, .inl ⟨rfl, _, SqL.of upd_same⟩, tabs_same Tb sD, fun f4 c4 Hc eC Tc nf4 ho4 hc4 => ?_⟩
      have hDc : Hc D = some (.lst [.ref f2, .ref f3]) := eC _ _ upd_same fun ps z => by cases z
      refine ⟨D, _, _, rfl, rfl, hDc, small1000 (show 2 ≤ 1000 by decide), ?_⟩
      have dc : Dr Hc h c := (db.same sD).extN eC
      have kD : ∀ b o, Hc b = some o → b ≠ D → (upd Hc D (.lst ([.ref f2, .ref f3] ++ [.ref f4]))) b = some o := fun b o e n => by
        rw [upd_ne n]
        exact e
      have nb : ∀ b o, Hb b = some o → (∀ ps, o ≠ .tbl ps) → (upd Hc D (.lst ([.ref f2, .ref f3] ++ [.ref f4]))) b = some o := fun b o e n => kD b o (eC _ _ (sD _ _ e) n) (ne_of_none e nD)
      have dd : Dr (upd Hc D (.lst ([.ref f2, .ref f3] ++ [.ref f4]))) h c := by
        obtain ⟨n0, m, kk, ns', f1', f2', f3'⟩ := dc
        exact ⟨n0, m, kk, ns', kD _ _ f1' nDD.1.symm, kD _ _ f2' nDD.2.symm, f3'⟩
      have Td : Tabs [(G.Pt, qLam)] (upd Hc D (.lst ([.ref f2, .ref f3] ++ [.ref f4]))) := tabs_but Tc fun b o e n => kD b o e fun z => by
        rw [z, hDc] at e
        cases e
        exact n.1 _ rfl
      have tkD : TK K Hc (upd Hc D (.lst ([.ref f2, .ref f3] ++ [.ref f4]))) := .but (fun b => b = D) kD fun b xs z => by
        rw [z]
        exact Rd.lst_no hDc
      have htc : Tar K G.C Hc ta tp L := (((ht2.extN eA).extN eB).same sD).extN eC
      have htd : Tar K G.C (upd Hc D (.lst ([.ref f2, .ref f3] ++ [.ref f4]))) ta tp L := by
        obtain ⟨⟨dx, hx⟩, hpp⟩ := htc
        refine ⟨⟨dx, kD _ _ hx fun z => ?_⟩, hpp.tk tkD⟩
        rw [z, hDc] at hx
        cases hx
      have g2 := nb _ _ (eB _ _ ho2 lam_ne) lam_ne
      have k2 := nb _ _ (eB _ _ hc2 code_ne) code_ne
      have g3 := nb _ _ ho3 lam_ne
      have k3 := nb _ _ hc3 code_ne
      have gt3 := nb _ _ ht3 (fun ps z => by cases z)
      have g4 := kD _ _ ho4 (fun z => by
        rw [z, hDc] at ho4
        have q := Option.some.inj ho4
        unfold LamO Stands at q
        cases q)
      have k4 := kD _ _ hc4 (fun z => by
        rw [z, hDc] at hc4
        have q := Option.some.inj hc4
        unfold CodeO at q
        cases q)
      have hDd : (upd Hc D (.lst ([.ref f2, .ref f3] ++ [.ref f4]))) D = some (.lst [.ref f2, .ref f3, .ref f4]) := upd_same
      revert dd Td htd g2 k2 g3 k3 gt3 g4 k4 hDd
      clear nb kD tkD htc hDc dc sD db nDD
      generalize (upd Hc D (.lst ([.ref f2, .ref f3] ++ [.ref f4]))) = H6
      intro dd Td htd g2 k2 g3 k3 gt3 g4 k4 hDd
      have l9 : L.length ≤ 900 := by omega
      refine ⟨fun σ H' => σ = ([some (.ref a), some (.ref h), some (.int (0 + (i : Int))), some (.ref p), some (.int (k : Nat)), v5, some (opV (bad L)), some (.ref r), some (.ref ea), some (.ref ta), some (.ref due), some (.int z), some rs, some (.int no), some (.int far), some (.ref D), v16, v17] : L2.St) ∧ Dr H' h c ∧ Tabs [(G.Pt, qLam)] H', ?_, ?_⟩
      · refine s_when (b := false) (et_same (d := wD (k : Nat)) (fun H7 e7 Q7 q7 => ?_) (edp_lst (eda_cons (edp_tup (eda_cons edp_str eda_nil) (by decide)) (eda_cons (edp_tup (eda_cons edp_str eda_nil) (by decide)) (eda_cons (edp_tup (eda_cons edp_str (eda_cons (edp_int (ev_var rfl)) eda_nil)) (show 2 ≤ 1000 by decide)) eda_nil))) (show 3 ≤ 1000 by decide)) (wSh _)) (fun z => by cases z) fun _ H7 e7 => ⟨rfl, dd.same e7, tabs_same Td e7⟩
        refine ⟨_, rfl, D, [.ref f2, .ref f3, .ref f4], rfl, show 3 ≤ 1000 by decide, ?_⟩
        refine ⟨.of (e7 _ _ hDd), f2, mkF lam2 _ c2 .none, ["_law_tariff_here", "_law_no"], [9, 13], ts2 K G.C (G.cs 0) (G.cs 3), rfl, lok2 G.X G.I G.Q G.V G.M, e7 _ _ g2, e7 _ _ k2, dv_none, fun ok => Caps.made ok hf2 hr2 rfl, ?_⟩
        refine ⟨ta, .int no, rfl, ta, tp, no, L, rfl, htd.same e7, l9, fun _ H8 s8 => .inr ⟨rfl, rfl, fun r1 H9 s9 h9 => ?_⟩, fun k' hk' hlt => absurd ⟨by omega, by omega⟩ hno⟩
        have e9 : Ex H6 H9 := (e7.trans s8).trans s9
        refine ⟨.of (e9 _ _ hDd), f3, mkF lam3 _ c3 (.ref t3), ["_law_tariff_here", "_law_no", "_law_far"], [9, 13, 14], ts3 K G.C (G.cs 0) (G.cs 3), rfl, lok3 G.X G.I G.Q G.V G.M, e9 _ _ g3, e9 _ _ k3, fun t z => ⟨0, ?_⟩, fun ok => Caps.made ok hf3 hr3 rfl, ?_⟩
        · have z' : Value.ref t3 = Value.ref t := z
          cases z'
          exact e9 _ _ gt3
        refine ⟨ta, .int no, .int far, rfl, ta, tp, no, far, L, rfl, htd.same e9, l9, fun _ H10 s10 => .inr ⟨rfl, rfl, fun r2 H11 s11 h11 => ?_⟩, fun h0 h1 _ => absurd ⟨h0, h1⟩ hno, fun k' x' hk' hx' _ _ => absurd ⟨by omega, by have := (List.getElem?_eq_some_iff.mp hx').1; omega⟩ hno⟩
        have e11 : Ex H6 H11 := (e9.trans s10).trans s11
        refine ⟨.of (e11 _ _ hDd), f4, mkF lam4 _ c4 .none, ["_law_tariff_here", "_law_k", "_law_far"], [9, 4, 14], ts3 K G.C (G.cs 0) (G.cs 3), rfl, lok4 G.X G.I G.Q G.V G.M, e11 _ _ g4, e11 _ _ k4, dv_none, fun ok => Caps.made ok hf4 hr4 rfl, ?_⟩
        refine ⟨ta, .int (k : Nat), .int far, rfl, ta, tp, (k : Nat), far, L, rfl, htd.same e11, l9, fun nk => absurd ⟨by omega, by omega⟩ nk, fun _ _ _ dx H12 s12 hdx => .inl ⟨rfl, dx, (k : Nat), rfl, hdx, fun r3 H13 s13 h13 => ?_⟩, fun k' x' _ _ y1 y2 => absurd ⟨y1, y2⟩ hfar⟩
        have e13 : Ex H6 H13 := (e11.trans s12).trans s13
        have w1 := passDp (K := K) ((Same.trans (Same.trans (Same.trans (Same.trans s10 s11) s12) s13) (Same.refl _)) _ _ h9)
        have w2 := passDp (K := K) ((Same.trans s12 s13) _ _ h11)
        have w3 := tarDp (K := K) h13
        refine ⟨.of (e13 _ _ hDd), fun D' nD' => q7 _ _ ?_ ?_⟩
        · exact (((((e7.trans s8).trans s9 |> fun _ => (Ex.trans (Ex.trans s8 s9) (Ex.trans s10 s11))).trans s12).trans s13).trans (Ex.new nD'))
        · exact .lst (.of upd_same) (dps_ex (Ex.new nD') (.cons w1 (.cons w2 (.cons w3 .nil))))
      clear dd Td htd g2 k2 g3 k3 gt3 g4 k4 hDd hL d2 hT2 ht2
      rintro σ H7 ⟨rfl, d2, hT2⟩
      refine ⟨hT2, fun f5 c5 H8 eN T3 nf hf hc => ⟨f5, mkF lam5 _ c5 .none, ["_law_price"], [11], ts5 (G.cs 0), rfl, lok5 G.X G.I G.Q G.V G.M, hf, hc, dv_none, fun ok => Caps.made ok hf5 hr5 rfl, z, rfl, z1, z2, fun dx H9 s9 hd => .inl ⟨rfl, dx, 0, rfl, hd, fun r5 H10 s10 h10 => ?_⟩⟩⟩
      refine (edp_tup (K := K) (eda_cons (edp_str (x := "tariff")) (eda_cons (edp_int (ev_c (v := .int 0))) eda_nil)) (show 2 ≤ 1000 by decide)) H10 (Ex.refl _) _ fun u H11 e11 hu => ⟨errD (some 0), errD (some 0), tarDp (e11 _ _ h10), hu, errSh _, errSh _, _, rfl, ?_⟩
      rw [eqv_self _ (errSh _)]
      refine iteF (A := True) ?_
      exact ⟨⟨_, _, _, _, _, _, _, _, _, _, _, _, _, _, _, _, rfl⟩, ((d2.extN eN).same s9).same (Same.trans s10 e11), tabs_same (tabs_same T3 s9) (Same.trans s10 e11)⟩
    rintro σ H1 ⟨⟨v2, v3, v4, v5, v6, v7, v8, v9, v10, v11, v12, v13, v14, v15, v16, v17, rfl⟩, d, hT⟩
    refine ⟨fun _ _ => True, ?_, ?_⟩
    · have hb7 : bad [(1, 7)] = none := by decide +kernel
      refine ⟨rfl, 7, rfl, fun _ ta tp H2 s2 na ht => ?_, fun j dx H2 hb => (by rw [hb7] at hb; cases hb)⟩
      obtain ⟨dx, ha⟩ := ht.1
      refine ⟨ta, dx, _, rfl, ha, ta, dx, _, .ref tp, rfl, ha, rfl, ?_⟩
      have d2 := d.same s2
      have hT2 := tabs_same hT s2
      refine ⟨hT2, fun f6 c6 H3 eN T3 nf ho hc => ⟨f6, mkF lam6 _ c6 .none, [], [], ts6 (G.cs 0), rfl, lok6 G.X G.I G.M, ho, hc, dv_none, fun ok => Caps.made ok hf6 (fun y hy => nomatch hy) rfl, rfl, fun dy H4 s4 hd => .inl ⟨rfl, dy, 0, rfl, hd, fun r6 H5 s5 h5 => ⟨Nat.le_of_lt (small1000 (show 2 ≤ 1000 by decide)), fun l nl => ?_⟩⟩⟩⟩
      have hp5 : PsA K H5 (.ref tp) [(1, 7)] := ((ht.2.tk (.extN eN)).tk (.same s4)).tk (.same s5)
      have hz : Dp K (upd H5 l (.lst [.ref tp, .ref r6])) (.ref l) zD := .lst (.of upd_same) (dps_ex (Ex.new nl) (.cons hp5.dp (.cons (tarDp (k := 0) h5) .nil)))
      refine (edp_lst (K := K) (eda_cons (edp_ps (ed_oneV (x := (1, 7)) (ed_pair (ev_c (v := .int 1)) (ev_c (v := .int 7))))) (eda_cons (edp_tup (eda_cons (edp_str (x := "tariff")) (eda_cons (edp_int (ev_c (v := .int 0))) eda_nil)) (show 2 ≤ 1000 by decide)) eda_nil)) (show 2 ≤ 1000 by decide)) _ (Ex.refl _) _ fun u H7 e7 hu => ⟨zD, zD, dp_ex e7 hz, hu, zSh, zSh, _, rfl, ?_⟩
      rw [eqv_self _ zSh]
      refine iteF (A := True) ?_
      trivial
    · rintro σ H2 _
      refine s_ret (v := .bl true) (ev_eqD (K := K) (d := cD) (edp_lst (eda_cons (edp_int ev_c) (eda_cons (edp_int ev_c) (eda_cons (edp_int ev_c) eda_nil))) (show 3 ≤ 1000 by decide)) (edp_lst (eda_cons (edp_int ev_c) (eda_cons (edp_int (i := 1000000) (ev_is (ev_op (ev_c (v := .int 10)) (ev_c (v := .int 6)) (rv_I (C := CPow) (g := fun i j => .int (i ^ j.toNat)) (i := 10) (j := 6) ⟨by decide, by decide, by decide⟩)) (by rw [show (10 : Int) ^ (6 : Int).toNat = 1000000 by decide]))) (eda_cons (edp_int ev_c) eda_nil))) (show 3 ≤ 1000 by decide)) cSh) fun H3 _ => q H3
end
end Sea

set_option Elab.async false
set_option linter.all false
set_option maxRecDepth 100000
set_option maxHeartbeats 8000000
namespace Sea
open PySem PySem.Spec PyProof.Rows L2 LamX NdefX ClX StX
theorem all_mk {l : PySem.W.OpenLaw} {w : World} {K : PySem.W.Frag} {h : Heap} {mg : Str → Option Value} {fa : Addr} (X : K.In h) (Gn : h.Ns mainGlobals mg) (hfa : mg "law" = some (.ref fa))
    {C cP c0 c1 c2 c3 c4 c5 c6 fI fT fP pP fL pL fR pR fWo fWp fSi pSi fV fTa fN fA fMx fDr fBa fEr fLaw cc Pt : Addr}
    {t0 : Tok} {t1 : Tok} {t2 : Tok} {nm q : Str} {xN : Addr} {xbs xbm xsub : List Value} {xsn : List Str} {xab : Bool} {xcol : Option Bool} {xdd : Option Addr} {xm0 xm1 xm2 xm3 xm5 : Option Value} {ocT : Value} {kVT : Value} {dcT : Value} {pmT : Value} {ctT : Value} {cdT : Value} {odT anT : Option Addr} {slT : Array (Option Value)} {ocI : Value} {kVI : Value} {dcI : Value} {pmI : Value} {ctI : Value} {cdI : Value} {odI anI : Option Addr} {slI : Array (Option Value)} {reP : List Value} {ocP : Value} {kVP : Value} {dcP : Value} {pmP : Value} {ctP : Value} {cdP : Value} {odP anP : Option Addr} {slP : Array (Option Value)} {reL : List Value} {ocL : Value} {kVL : Value} {dcL : Value} {pmL : Value} {ctL : Value} {cdL : Value} {odL anL : Option Addr} {slL : Array (Option Value)} {reR : List Value} {ocR : Value} {kVR : Value} {dcR : Value} {pmR : Value} {ctR : Value} {cdR : Value} {odR anR : Option Addr} {slR : Array (Option Value)} {ocWo : Value} {kVWo : Value} {dcWo : Value} {pmWo : Value} {ctWo : Value} {cdWo : Value} {odWo anWo : Option Addr} {slWo : Array (Option Value)} {ocWp : Value} {kVWp : Value} {dcWp : Value} {pmWp : Value} {ctWp : Value} {cdWp : Value} {odWp anWp : Option Addr} {slWp : Array (Option Value)} {reSi : List Value} {ocSi : Value} {kVSi : Value} {dcSi : Value} {pmSi : Value} {ctSi : Value} {cdSi : Value} {odSi anSi : Option Addr} {slSi : Array (Option Value)} {ocV : Value} {kVV : Value} {dcV : Value} {pmV : Value} {ctV : Value} {cdV : Value} {odV anV : Option Addr} {slV : Array (Option Value)} {ocTa : Value} {kVTa : Value} {dcTa : Value} {pmTa : Value} {ctTa : Value} {cdTa : Value} {odTa anTa : Option Addr} {slTa : Array (Option Value)} {ocN : Value} {kVN : Value} {dcN : Value} {pmN : Value} {ctN : Value} {cdN : Value} {odN anN : Option Addr} {slN : Array (Option Value)} {ocA : Value} {kVA : Value} {dcA : Value} {pmA : Value} {ctA : Value} {cdA : Value} {odA anA : Option Addr} {slA : Array (Option Value)} {ocMx : Value} {kVMx : Value} {dcMx : Value} {pmMx : Value} {ctMx : Value} {cdMx : Value} {odMx anMx : Option Addr} {slMx : Array (Option Value)} {ocDr : Value} {kVDr : Value} {dcDr : Value} {pmDr : Value} {ctDr : Value} {cdDr : Value} {odDr anDr : Option Addr} {slDr : Array (Option Value)} {ocBa : Value} {kVBa : Value} {dcBa : Value} {pmBa : Value} {ctBa : Value} {cdBa : Value} {odBa anBa : Option Addr} {slBa : Array (Option Value)} {ocEr : Value} {kVEr : Value} {dcEr : Value} {pmEr : Value} {ctEr : Value} {cdEr : Value} {odEr anEr : Option Addr} {slEr : Array (Option Value)} {ocLaw : Value} {kVLaw : Value} {dcLaw : Value} {pmLaw : Value} {ctLaw : Value} {odLaw anLaw : Option Addr} {slLaw : Array (Option Value)}
    (hT : h.get? Pt = some { cls := .none, data := .fields #[] })
    (aC : PySem.W.nsIn K mainGlobals "Tariff" = some (some (.ref C)))
    (aP : PySem.W.nsIn K mainGlobals "PassError" = some (some (.ref cP)))
    (a0 : PySem.W.nsIn K mainGlobals "InvalidTariff" = some (some (.ref c0)))
    (a1 : PySem.W.nsIn K mainGlobals "InvalidTravel" = some (some (.ref c1)))
    (a2 : PySem.W.nsIn K mainGlobals "InvalidCount" = some (some (.ref c2)))
    (a3 : PySem.W.nsIn K mainGlobals "UnknownPass" = some (some (.ref c3)))
    (a4 : PySem.W.nsIn K mainGlobals "InvalidPrices" = some (some (.ref c4)))
    (a5 : PySem.W.nsIn K mainGlobals "InvalidPlan" = some (some (.ref c5)))
    (a6 : PySem.W.nsIn K mainGlobals "Contradiction" = some (some (.ref c6)))
    (z_enumerate : PySem.W.nsIn K mainGlobals "enumerate" = some none)
    (z_len : PySem.W.nsIn K mainGlobals "len" = some none)
    (z_tuple : PySem.W.nsIn K mainGlobals "tuple" = some none)
    (z_max : PySem.W.nsIn K mainGlobals "max" = some none)
    (z_list : PySem.W.nsIn K mainGlobals "list" = some none)
    (z_range : PySem.W.nsIn K mainGlobals "range" = some none)
    (z_min : PySem.W.nsIn K mainGlobals "min" = some none)
    (z_isinstance : PySem.W.nsIn K mainGlobals "isinstance" = some none)
    (z_ValueError : PySem.W.nsIn K mainGlobals "ValueError" = some none)
    (z_dict : PySem.W.nsIn K mainGlobals "dict" = some none)
    (z_str : PySem.W.nsIn K mainGlobals "str" = some none)
    (z_int : PySem.W.nsIn K mainGlobals "int" = some none)
    (z_bool : PySem.W.nsIn K mainGlobals "bool" = some none)
    (pg : PySem.W.plainGet K C Str.empty = true)
    (hd : PySem.W.hasDictIn K C = true)
    (po : PySem.W.plainOver K C = true)
    (sa : PySem.W.findIn K (.ref C) "__setattr__" = some (some (.builtin "object.__setattr__")))
    (nO : PySem.W.findIn K (.ref C) "offers" = some none)
    (rd : PySem.W.readsIn K C (.type "type") = true)
    (ga : PySem.W.specialIn K (.ref C) "__getattribute__" = some (some (.builtin "type.__getattribute__")))
    (v0 : PySem.W.findCls K (.ref C) (.type "type") "MAX_LENGTH" = some (.val (.int 28 t0)))
    (v1 : PySem.W.findCls K (.ref C) (.type "type") "MAX_PRICE" = some (.val (.int 1000000 t1)))
    (v2 : PySem.W.findCls K (.ref C) (.type "type") "MAX_PASSES" = some (.val (.int 6 t2)))
    (xL : K.lookup c0 = some (excClassObj nm q c0 xN xbs xbm true xsn xsub xab xcol xdd xm0 xm1 xm2 xm3 xm5 "ValueError.__new__"))
    (xrv : PySem.HandSPX.refsVE xbm = true)
    (xsa : PySem.W.findIn K (.ref c0) "__setattr__" = some (some (.builtin "object.__setattr__")))
    (s0 : PySem.W.subIn K (.ref c0) (.type "BaseException") = some true)
    (y0 : PySem.W.typeIn K (.ref c0) = some (.type "type"))
    (kp0 : PySem.W.keepIn K (.ref c0) = true)
    (nI : PySem.W.findIn K (.ref c0) "index" = some none)
    (iI : PySem.W.findIn K (.ref c0) "__init__" = some (some (.ref fI)))
    (tI : PySem.W.typeIn K (.ref fI) = some (.type "function"))
    (prd : PySem.W.readsIn K cP (.type "type") = true)
    (pga : PySem.W.specialIn K (.ref cP) "__getattribute__" = some (some (.builtin "type.__getattribute__")))
    (pat : PySem.W.findCls K (.ref cP) (.type "type") "__init__" = some (.val (.builtin "ValueError.__init__")))
    (qU : PySem.W.excIn K c3 [.type "ValueError", .type "Exception", .type "BaseException", .type "object"] "ValueError.__new__" = true)
    (kU : PySem.W.keepIn K (.ref c3) = true)
    (sU : PySem.W.subIn K (.ref c3) (.type "BaseException") = some true)
    (yU : PySem.W.typeIn K (.ref c3) = some (.type "type"))
    (mk : PySem.W.makesIn K C = true)
    (kpC : PySem.W.keepIn K (.ref C) = true)
    (atT : PySem.W.findIn K (.ref C) "__init__" = some (some (.ref fT)))
    (ifT : PySem.W.isFn K (.ref fT) = true)
    (lT : K.lookup fT = some ⟨ocT, odT, .func (PySem.W.fnOf "__init__" "Tariff.__init__" (defArgs sInit) (defBody sInit) (defScope sInit) .none kVT dcT pmT anT cdT ctT), slT⟩)
    (cd_T : PySem.W.codeIn K cdT "Tariff.__init__" = true)
    (kp_T : PySem.W.keepIn K (.ref fT) = true)
    (lI : K.lookup fI = some ⟨ocI, odI, .func (PySem.W.fnOf "__init__" "InvalidTariff.__init__" (defArgs sIT) (defBody sIT) (defScope sIT) .none kVI dcI pmI anI cdI ctI), slI⟩)
    (cd_I : PySem.W.codeIn K cdI "InvalidTariff.__init__" = true)
    (kp_I : PySem.W.keepIn K (.ref fI) = true)
    (atP : PySem.W.findIn K (.ref C) "passes" = some (some (.ref pP)))
    (geP : PySem.W.specialIn K (.ref pP) "__get__" = some (some (.builtin "property.__get__")))
    (taP : PySem.W.takesIn K (.ref pP) = some true)
    (rcP : PySem.W.recIn K pP "property" = some (.ref fP :: reP))
    (lP : K.lookup fP = some ⟨ocP, odP, .func (PySem.W.fnOf "passes" "Tariff.passes" (defArgs sPasses) (defBody sPasses) (defScope sPasses) .none kVP dcP pmP anP cdP ctP), slP⟩)
    (cd_P : PySem.W.codeIn K cdP "Tariff.passes" = true)
    (kp_P : PySem.W.keepIn K (.ref fP) = true)
    (atL : PySem.W.findIn K (.ref C) "lengths" = some (some (.ref pL)))
    (geL : PySem.W.specialIn K (.ref pL) "__get__" = some (some (.builtin "property.__get__")))
    (taL : PySem.W.takesIn K (.ref pL) = some true)
    (rcL : PySem.W.recIn K pL "property" = some (.ref fL :: reL))
    (lL : K.lookup fL = some ⟨ocL, odL, .func (PySem.W.fnOf "lengths" "Tariff.lengths" (defArgs sLengths) (defBody sLengths) (defScope sLengths) .none kVL dcL pmL anL cdL ctL), slL⟩)
    (cd_L : PySem.W.codeIn K cdL "Tariff.lengths" = true)
    (kp_L : PySem.W.keepIn K (.ref fL) = true)
    (atR : PySem.W.findIn K (.ref C) "prices" = some (some (.ref pR)))
    (geR : PySem.W.specialIn K (.ref pR) "__get__" = some (some (.builtin "property.__get__")))
    (taR : PySem.W.takesIn K (.ref pR) = some true)
    (rcR : PySem.W.recIn K pR "property" = some (.ref fR :: reR))
    (lR : K.lookup fR = some ⟨ocR, odR, .func (PySem.W.fnOf "prices" "Tariff.prices" (defArgs sPrices) (defBody sPrices) (defScope sPrices) .none kVR dcR pmR anR cdR ctR), slR⟩)
    (cd_R : PySem.W.codeIn K cdR "Tariff.prices" = true)
    (kp_R : PySem.W.keepIn K (.ref fR) = true)
    (atWo : PySem.W.findIn K (.ref C) "without" = some (some (.ref fWo)))
    (ifWo : PySem.W.isFn K (.ref fWo) = true)
    (lWo : K.lookup fWo = some ⟨ocWo, odWo, .func (PySem.W.fnOf "without" "Tariff.without" (defArgs sWithout) (defBody sWithout) (defScope sWithout) .none kVWo dcWo pmWo anWo cdWo ctWo), slWo⟩)
    (cd_Wo : PySem.W.codeIn K cdWo "Tariff.without" = true)
    (kp_Wo : PySem.W.keepIn K (.ref fWo) = true)
    (atWp : PySem.W.findIn K (.ref C) "with_price" = some (some (.ref fWp)))
    (ifWp : PySem.W.isFn K (.ref fWp) = true)
    (lWp : K.lookup fWp = some ⟨ocWp, odWp, .func (PySem.W.fnOf "with_price" "Tariff.with_price" (defArgs sWithPrice) (defBody sWithPrice) (defScope sWithPrice) .none kVWp dcWp pmWp anWp cdWp ctWp), slWp⟩)
    (cd_Wp : PySem.W.codeIn K cdWp "Tariff.with_price" = true)
    (kp_Wp : PySem.W.keepIn K (.ref fWp) = true)
    (atSi : PySem.W.findCls K (.ref C) (.type "type") "single" = some (.get (.builtin "classmethod.__get__") (.ref pSi) .none (.ref C)))
    (rcSi : PySem.W.recIn K pSi "classmethod" = some (.ref fSi :: reSi))
    (fiSi : PySem.W.fnIn K fSi = true)
    (lSi : K.lookup fSi = some ⟨ocSi, odSi, .func (PySem.W.fnOf "single" "Tariff.single" (defArgs sSingle) (defBody sSingle) (defScope sSingle) .none kVSi dcSi pmSi anSi cdSi ctSi), slSi⟩)
    (cd_Si : PySem.W.codeIn K cdSi "Tariff.single" = true)
    (kp_Si : PySem.W.keepIn K (.ref fSi) = true)
    (atV : PySem.W.nsIn K mainGlobals "validate_pass" = some (some (.ref fV)))
    (lV : K.lookup fV = some ⟨ocV, odV, .func (PySem.W.fnOf "validate_pass" "validate_pass" (defArgs sValid) (defBody sValid) (defScope sValid) .none kVV dcV pmV anV cdV ctV), slV⟩)
    (cd_V : PySem.W.codeIn K cdV "validate_pass" = true)
    (kp_V : PySem.W.keepIn K (.ref fV) = true)
    (atTa : PySem.W.nsIn K mainGlobals "_law_tariff" = some (some (.ref fTa)))
    (lTa : K.lookup fTa = some ⟨ocTa, odTa, .func (PySem.W.fnOf "_law_tariff" "_law_tariff" (defArgs sTar) (defBody sTar) (defScope sTar) .none kVTa dcTa pmTa anTa cdTa ctTa), slTa⟩)
    (cd_Ta : PySem.W.codeIn K cdTa "_law_tariff" = true)
    (kp_Ta : PySem.W.keepIn K (.ref fTa) = true)
    (atN : PySem.W.nsIn K mainGlobals "_law_next" = some (some (.ref fN)))
    (lN : K.lookup fN = some ⟨ocN, odN, .func (PySem.W.fnOf "_law_next" "_law_next" (defArgs sNext) (defBody sNext) (defScope sNext) .none kVN dcN pmN anN cdN ctN), slN⟩)
    (cd_N : PySem.W.codeIn K cdN "_law_next" = true)
    (kp_N : PySem.W.keepIn K (.ref fN) = true)
    (atA : PySem.W.nsIn K mainGlobals "_law_alike" = some (some (.ref fA)))
    (lA : K.lookup fA = some ⟨ocA, odA, .func (PySem.W.fnOf "_law_alike" "_law_alike" (defArgs sAl) (defBody sAl) (defScope sAl) .none kVA dcA pmA anA cdA ctA), slA⟩)
    (cd_A : PySem.W.codeIn K cdA "_law_alike" = true)
    (kp_A : PySem.W.keepIn K (.ref fA) = true)
    (atMx : PySem.W.nsIn K mainGlobals "_law_mix" = some (some (.ref fMx)))
    (lMx : K.lookup fMx = some ⟨ocMx, odMx, .func (PySem.W.fnOf "_law_mix" "_law_mix" (defArgs sMix) (defBody sMix) (defScope sMix) .none kVMx dcMx pmMx anMx cdMx ctMx), slMx⟩)
    (cd_Mx : PySem.W.codeIn K cdMx "_law_mix" = true)
    (kp_Mx : PySem.W.keepIn K (.ref fMx) = true)
    (atDr : PySem.W.nsIn K mainGlobals "_law_passes" = some (some (.ref fDr)))
    (lDr : K.lookup fDr = some ⟨ocDr, odDr, .func (PySem.W.fnOf "_law_passes" "_law_passes" (defArgs sDrawn) (defBody sDrawn) (defScope sDrawn) .none kVDr dcDr pmDr anDr cdDr ctDr), slDr⟩)
    (cd_Dr : PySem.W.codeIn K cdDr "_law_passes" = true)
    (kp_Dr : PySem.W.keepIn K (.ref fDr) = true)
    (atBa : PySem.W.nsIn K mainGlobals "_law_bad" = some (some (.ref fBa)))
    (lBa : K.lookup fBa = some ⟨ocBa, odBa, .func (PySem.W.fnOf "_law_bad" "_law_bad" (defArgs sBad) (defBody sBad) (defScope sBad) .none kVBa dcBa pmBa anBa cdBa ctBa), slBa⟩)
    (cd_Ba : PySem.W.codeIn K cdBa "_law_bad" = true)
    (kp_Ba : PySem.W.keepIn K (.ref fBa) = true)
    (atEr : PySem.W.nsIn K mainGlobals "_law_error" = some (some (.ref fEr)))
    (lEr : K.lookup fEr = some ⟨ocEr, odEr, .func (PySem.W.fnOf "_law_error" "_law_error" (defArgs sErr) (defBody sErr) (defScope sErr) .none kVEr dcEr pmEr anEr cdEr ctEr), slEr⟩)
    (cd_Er : PySem.W.codeIn K cdEr "_law_error" = true)
    (kp_Er : PySem.W.keepIn K (.ref fEr) = true)
    (atLaw : PySem.W.nsIn K mainGlobals "law" = some (some (.ref fLaw)))
    (lLaw : K.lookup fLaw = some ⟨ocLaw, odLaw, .func (PySem.W.fnOf "law" "law" (defArgs sLaw) (defBody sLaw) (defScope sLaw) .none kVLaw dcLaw pmLaw anLaw (.ref cc) ctLaw), slLaw⟩)
    (cd_Law : PySem.W.codeIn K (.ref cc) "law" = true)
    (kp_Law : PySem.W.keepIn K (.ref fLaw) = true)
    (eg0 : PySem.W.findIn K (.ref c0) "__getattribute__" = some (some (.builtin "BaseException.__getattribute__")))
    (ek0 : PySem.W.findIn K (.ref c0) "__getattr__" = some none)
    (eh0 : PySem.W.hasDictIn K c0 = true)
    (ec0 : PySem.W.findIn K (.ref c0) "__class__" = some (some (.builtin "object.__class__")))
    (em0 : PySem.W.mroIn K c0 (.type "object") = some true)
    (k00 : PySem.W.kitOne K (.ref c0) (.ref c0) = some true)
    (k01 : PySem.W.kitOne K (.ref c0) (.ref c1) = some false)
    (k02 : PySem.W.kitOne K (.ref c0) (.ref c2) = some false)
    (k03 : PySem.W.kitOne K (.ref c0) (.ref c3) = some false)
    (k04 : PySem.W.kitOne K (.ref c0) (.ref c4) = some false)
    (k05 : PySem.W.kitOne K (.ref c0) (.ref c5) = some false)
    (k06 : PySem.W.kitOne K (.ref c0) (.ref c6) = some false)
    (kv0 : PySem.W.kitOne K (.ref c0) (.type "ValueError") = some true)
    (sp0 : PySem.W.subIn K (.ref c0) (.ref cP) = some true)
    (eg3 : PySem.W.findIn K (.ref c3) "__getattribute__" = some (some (.builtin "BaseException.__getattribute__")))
    (ek3 : PySem.W.findIn K (.ref c3) "__getattr__" = some none)
    (eh3 : PySem.W.hasDictIn K c3 = true)
    (ec3 : PySem.W.findIn K (.ref c3) "__class__" = some (some (.builtin "object.__class__")))
    (em3 : PySem.W.mroIn K c3 (.type "object") = some true)
    (k30 : PySem.W.kitOne K (.ref c3) (.ref c0) = some false)
    (k31 : PySem.W.kitOne K (.ref c3) (.ref c1) = some false)
    (k32 : PySem.W.kitOne K (.ref c3) (.ref c2) = some false)
    (k33 : PySem.W.kitOne K (.ref c3) (.ref c3) = some true)
    (k34 : PySem.W.kitOne K (.ref c3) (.ref c4) = some false)
    (k35 : PySem.W.kitOne K (.ref c3) (.ref c5) = some false)
    (k36 : PySem.W.kitOne K (.ref c3) (.ref c6) = some false)
    (kv3 : PySem.W.kitOne K (.ref c3) (.type "ValueError") = some true)
    (sp3 : PySem.W.subIn K (.ref c3) (.ref cP) = some true)
    (ecn : PySem.W.specialIn K (.builtin "object.__class__") "__get__" = some (some (.builtin "getset_descriptor.__get__")))
    (ect : PySem.W.takesIn K (.builtin "object.__class__") = some true)
    (sP : PySem.W.subIn K (.ref cP) (.type "BaseException") = some true)
    (hP : PySem.W.hasDictIn K cP = true)
    (yP : PySem.W.typeIn K (.ref cP) = some (.type "type"))
    (nT : K.lookup Pt = none)
    (hH : PySem.W.codeHdIn K cc Pt = true)
    : LawAtS l w K CX0 9 63 "_law_script" mg fa h := by
  have e := hfa.symm.trans (PySem.W.mg_of X Gn atLaw)
  cases e
  have oex : OexC K c0 := ⟨⟨_, _, _, _, _, _, _, _, _, _, _, _, _, _, _, xL, xrv⟩, xsa, s0, y0, kp0⟩
  have exm : ∀ c, PySem.W.subIn K (.ref c) (.ref cP) = some true → PySem.W.exmOne K (.ref c) (.ref cP) = some true := fun c hc => PySem.W.exm_ref sP hP yP hc
  let cs : Nat → Addr := fun i => [c0, c1, c2, c3, c4, c5, c6].getD i c0
  let G : Gd K mg := {
    C := C, cU := c3, cP := cP, fI := fI, fT := fT, fP := fP, pP := pP, fV := fV, fWo := fWo, fWp := fWp, fSi := fSi, pSi := pSi, fTa := fTa, fN := fN, fA := fA, fL := fL, pL := pL, fR := fR, pR := pR, fMx := fMx, fDr := fDr, fBa := fBa, fEr := fEr, Pt := Pt, cs := cs, mc := (.type "type"), mp := (.type "type")
    fdI := _, fdT := _, fdP := _, fdV := _, dWo := _, dWp := _, dSi := _, dTa := _, dN := _, dA := _, dL := _, dR := _, dMx := _, dDr := _, dBa := _, dEr := _
    X := { cl := ⟨pg, hd, po, sa⟩, no := nO, gC := PySem.W.mg_of X Gn aC, cr := ⟨rd, ga⟩, v1 := ⟨_, v0, ⟨_, rfl⟩⟩, v2 := ⟨_, v1, ⟨_, rfl⟩⟩, v3 := ⟨_, v2, ⟨_, rfl⟩⟩, mE := PySem.W.mg_none_of X Gn z_enumerate, mN := PySem.W.mg_none_of X Gn z_len, mT := PySem.W.mg_none_of X Gn z_tuple, xI := oex, nI := nI, gI := PySem.W.mg_of X Gn a0, iI := iI, tI := tI, pI := ⟨PySem.W.mg_of X Gn aP, prd, pga, pat⟩, qU := qU, gU := PySem.W.mg_of X Gn a3, kU := kU, sU := sU, yU := yU }
    I := { mkf := ⟨mk, atT, ifT, kpC⟩, fT := fun_mk (st := sInit) lT cd_T kp_T, fI := fun_mk (st := sIT) lI cd_I kp_I }
    Q := { pr := ⟨atP, geP, taP, ⟨_, rcP⟩⟩, fu := fun_mk (st := sPasses) lP cd_P kp_P }
    V := { g := PySem.W.mg_of X Gn atV, kp := kp_V, fu := fun_mk (st := sValid) lV cd_V kp_V }
    M := { mWo := ⟨atWo, ifWo, kp_Wo⟩, uWo := fun_mk (st := sWithout) lWo cd_Wo kp_Wo, mWp := ⟨atWp, ifWp, kp_Wp⟩, uWp := fun_mk (st := sWithPrice) lWp cd_Wp kp_Wp, mSi := ⟨atSi, ⟨_, rcSi⟩, fiSi⟩, uSi := fun_mk (st := sSingle) lSi cd_Si kp_Si }
    A1 := { g := PySem.W.mg_of X Gn atTa, kp := kp_Ta, fu := fun_mk (st := sTar) lTa cd_Ta kp_Ta, mN := PySem.W.mg_none_of X Gn z_len, mL := PySem.W.mg_none_of X Gn z_list }
    N := { g := PySem.W.mg_of X Gn atN, kp := kp_N, fu := fun_mk (st := sNext) lN cd_N kp_N, mM := PySem.W.mg_none_of X Gn z_max, mN := PySem.W.mg_none_of X Gn z_len }
    A := { g := PySem.W.mg_of X Gn atA, kp := kp_A, fu := fun_mk (st := sAl) lA cd_A kp_A, mI := PySem.W.mg_none_of X Gn z_isinstance, mN := PySem.W.mg_none_of X Gn z_len, mR := PySem.W.mg_none_of X Gn z_range, m_dict := PySem.W.mg_none_of X Gn z_dict, m_list := PySem.W.mg_none_of X Gn z_list, m_tuple := PySem.W.mg_none_of X Gn z_tuple, m_str := PySem.W.mg_none_of X Gn z_str, m_int := PySem.W.mg_none_of X Gn z_int, m_bool := PySem.W.mg_none_of X Gn z_bool }
    E := { g0 := PySem.W.mg_of X Gn a0, g1 := PySem.W.mg_of X Gn a1, g2 := PySem.W.mg_of X Gn a2, g3 := PySem.W.mg_of X Gn a3, g4 := PySem.W.mg_of X Gn a4, g5 := PySem.W.mg_of X Gn a5, g6 := PySem.W.mg_of X Gn a6, gP := PySem.W.mg_of X Gn aP, mI := PySem.W.mg_none_of X Gn z_isinstance, mV := PySem.W.mg_none_of X Gn z_ValueError, e0 := ⟨eg0, ek0, s0, eh0, ec0, ecn, ect, em0⟩, e3 := ⟨eg3, ek3, sU, eh3, ec3, ecn, ect, em3⟩, f0 := ⟨eg0, ek0, s0, eh0⟩, n0 := nI
           k0 := fun i hi => by
             rcases (show i = 0 ∨ i = 1 ∨ i = 2 ∨ i = 3 ∨ i = 4 ∨ i = 5 ∨ i = 6 by omega) with rfl | rfl | rfl | rfl | rfl | rfl | rfl
             · exact k00
             · exact k01
             · exact k02
             · exact k03
             · exact k04
             · exact k05
             · exact k06
           k3 := fun i hi => by
             rcases (show i = 0 ∨ i = 1 ∨ i = 2 ∨ i = 3 ∨ i = 4 ∨ i = 5 ∨ i = 6 by omega) with rfl | rfl | rfl | rfl | rfl | rfl | rfl
             · exact k30
             · exact k31
             · exact k32
             · exact k33
             · exact k34
             · exact k35
             · exact k36
           v0 := kv0, v3 := kv3, x0 := exm c0 sp0, x3 := exm c3 sp3 }
    prL := ⟨atL, geL, taL, ⟨_, rcL⟩⟩, uL := fun_mk (st := sLengths) lL cd_L kp_L, prR := ⟨atR, geR, taR, ⟨_, rcR⟩⟩, uR := fun_mk (st := sPrices) lR cd_R kp_R
    gMx := PySem.W.mg_of X Gn atMx, kMx := kp_Mx, uMx := fun_mk (st := sMix) lMx cd_Mx kp_Mx, gDr := PySem.W.mg_of X Gn atDr, kDr := kp_Dr, uDr := fun_mk (st := sDrawn) lDr cd_Dr kp_Dr, gBa := PySem.W.mg_of X Gn atBa, kBa := kp_Ba, uBa := fun_mk (st := sBad) lBa cd_Ba kp_Ba, gEr := PySem.W.mg_of X Gn atEr, kEr := kp_Er, uEr := fun_mk (st := sErr) lEr cd_Er kp_Er
    mR := PySem.W.mg_none_of X Gn z_range, mMin := PySem.W.mg_none_of X Gn z_min, mL := PySem.W.mg_none_of X Gn z_list }
  refine ⟨_, [(cc, Pt)], spLaw K Pt, fun p hp => ?_, fun p hp => ?_, fun p hp => ?_, fun s v => .of_eq rfl, fun H a ns hl _ hH hS => ⟨a, ns, rfl, hS, hl, hH (cc, Pt) (List.Mem.head _), fun _ => rfl⟩, fun base _ _ hB => ok_law (P := l.prog) (w := w) (base := base) G lLaw cd_Law (hB (cc, Pt) (List.Mem.head _))⟩
  · rw [List.mem_singleton.mp hp]
    exact hT
  · rw [List.mem_singleton.mp hp]
    exact nT
  · rw [List.mem_singleton.mp hp]
    exact PySem.W.codeHd_of_K X hH
end Sea

open PySem PySem.W PyProof.Rows in
set_option maxRecDepth 100000 in
set_option maxHeartbeats 0 in
theorem PySem.Challenge.cw_seasonpass_k01_tariffs_validated_holds : PySem.Challenge.rw_seasonpass_k01_tariffs_validated.Holds := by
  w_on; o_law; k_head; (case hw => w_witness2)
  k_fill
  refine LamX.walk_ofTs (l := PySem.Challenge.rw_seasonpass_k01_tariffs_validated) (n := 63) (k := 9) (x := "_law_script") (CX := fun _ => L2.CX0) rfl (by decide) rfl ⟨rfl, by decide, by decide⟩ (fun w h Y => PySem.W.km_in_of Y) ?F (fun _ _ _ _ _ z => z)
  case F =>
    intro w mg fa h Y KX G hmg
    refine' Sea.all_mk KX G hmg ?hT ?aC ?aP ?a0 ?a1 ?a2 ?a3 ?a4 ?a5 ?a6 ?z_enumerate ?z_len ?z_tuple ?z_max ?z_list ?z_range ?z_min ?z_isinstance ?z_ValueError ?z_dict ?z_str ?z_int ?z_bool ?pg ?hd ?po ?sa ?nO ?rd ?ga ?v0 ?v1 ?v2 ?xL ?xrv ?xsa ?s0 ?y0 ?kp0 ?nI ?iI ?tI ?prd ?pga ?pat ?qU ?kU ?sU ?yU ?mk ?kpC ?atT ?ifT ?lT ?cd_T ?kp_T ?lI ?cd_I ?kp_I ?atP ?geP ?taP ?rcP ?lP ?cd_P ?kp_P ?atL ?geL ?taL ?rcL ?lL ?cd_L ?kp_L ?atR ?geR ?taR ?rcR ?lR ?cd_R ?kp_R ?atWo ?ifWo ?lWo ?cd_Wo ?kp_Wo ?atWp ?ifWp ?lWp ?cd_Wp ?kp_Wp ?atSi ?rcSi ?fiSi ?lSi ?cd_Si ?kp_Si ?atV ?lV ?cd_V ?kp_V ?atTa ?lTa ?cd_Ta ?kp_Ta ?atN ?lN ?cd_N ?kp_N ?atA ?lA ?cd_A ?kp_A ?atMx ?lMx ?cd_Mx ?kp_Mx ?atDr ?lDr ?cd_Dr ?kp_Dr ?atBa ?lBa ?cd_Ba ?kp_Ba ?atEr ?lEr ?cd_Er ?kp_Er ?atLaw ?lLaw ?cd_Law ?kp_Law ?eg0 ?ek0 ?eh0 ?ec0 ?em0 ?k00 ?k01 ?k02 ?k03 ?k04 ?k05 ?k06 ?kv0 ?sp0 ?eg3 ?ek3 ?eh3 ?ec3 ?em3 ?k30 ?k31 ?k32 ?k33 ?k34 ?k35 ?k36 ?kv3 ?sp3 ?ecn ?ect ?sP ?hP ?yP ?nT ?hH
    (case hT => exact PySem.W.km_tabs_of Y _ (List.Mem.head _))
    (case aC => k_is)
    (case aP => k_is)
    (case a0 => k_is)
    (case a1 => k_is)
    (case a2 => k_is)
    (case a3 => k_is)
    (case a4 => k_is)
    (case a5 => k_is)
    (case a6 => k_is)
    (case z_enumerate => k_is)
    (case z_len => k_is)
    (case z_tuple => k_is)
    (case z_max => k_is)
    (case z_list => k_is)
    (case z_range => k_is)
    (case z_min => k_is)
    (case z_isinstance => k_is)
    (case z_ValueError => k_is)
    (case z_dict => k_is)
    (case z_str => k_is)
    (case z_int => k_is)
    (case z_bool => k_is)
    (case pg => k_is)
    (case hd => k_is)
    (case po => k_is)
    (case sa => k_is)
    (case nO => k_is)
    (case rd => k_is)
    (case ga => k_is)
    (case v0 => k_is)
    (case v1 => k_is)
    (case v2 => k_is)
    (case xL => k_is)
    (case xrv => first | rfl | decide +kernel)
    (case xsa => k_is)
    (case s0 => k_is)
    (case y0 => k_is)
    (case kp0 => k_is)
    (case nI => k_is)
    (case iI => k_is)
    (case tI => k_is)
    (case prd => k_is)
    (case pga => k_is)
    (case pat => k_is)
    (case qU => first | k_is | kernel_rfl | rfl)
    (case kU => k_is)
    (case sU => k_is)
    (case yU => k_is)
    (case mk => k_is)
    (case kpC => k_is)
    (case atT => k_is)
    (case ifT => k_is)
    (case lT => k_is)
    (case cd_T => k_is)
    (case kp_T => k_is)
    (case lI => k_is)
    (case cd_I => k_is)
    (case kp_I => k_is)
    (case atP => k_is)
    (case geP => k_is)
    (case taP => k_is)
    (case rcP => k_is)
    (case lP => k_is)
    (case cd_P => k_is)
    (case kp_P => k_is)
    (case atL => k_is)
    (case geL => k_is)
    (case taL => k_is)
    (case rcL => k_is)
    (case lL => k_is)
    (case cd_L => k_is)
    (case kp_L => k_is)
    (case atR => k_is)
    (case geR => k_is)
    (case taR => k_is)
    (case rcR => k_is)
    (case lR => k_is)
    (case cd_R => k_is)
    (case kp_R => k_is)
    (case atWo => k_is)
    (case ifWo => k_is)
    (case lWo => k_is)
    (case cd_Wo => k_is)
    (case kp_Wo => k_is)
    (case atWp => k_is)
    (case ifWp => k_is)
    (case lWp => k_is)
    (case cd_Wp => k_is)
    (case kp_Wp => k_is)
    (case atSi => k_is)
    (case rcSi => k_is)
    (case fiSi => k_is)
    (case lSi => k_is)
    (case cd_Si => k_is)
    (case kp_Si => k_is)
    (case atV => k_is)
    (case lV => k_is)
    (case cd_V => k_is)
    (case kp_V => k_is)
    (case atTa => k_is)
    (case lTa => k_is)
    (case cd_Ta => k_is)
    (case kp_Ta => k_is)
    (case atN => k_is)
    (case lN => k_is)
    (case cd_N => k_is)
    (case kp_N => k_is)
    (case atA => k_is)
    (case lA => k_is)
    (case cd_A => k_is)
    (case kp_A => k_is)
    (case atMx => k_is)
    (case lMx => k_is)
    (case cd_Mx => k_is)
    (case kp_Mx => k_is)
    (case atDr => k_is)
    (case lDr => k_is)
    (case cd_Dr => k_is)
    (case kp_Dr => k_is)
    (case atBa => k_is)
    (case lBa => k_is)
    (case cd_Ba => k_is)
    (case kp_Ba => k_is)
    (case atEr => k_is)
    (case lEr => k_is)
    (case cd_Er => k_is)
    (case kp_Er => k_is)
    (case atLaw => k_is)
    (case lLaw => k_is)
    (case cd_Law => k_is)
    (case kp_Law => k_is)
    (case eg0 => k_is)
    (case ek0 => k_is)
    (case eh0 => k_is)
    (case ec0 => k_is)
    (case em0 => k_is)
    (case k00 => first | kernel_rfl | rfl | decide +kernel)
    (case k01 => first | kernel_rfl | rfl | decide +kernel)
    (case k02 => first | kernel_rfl | rfl | decide +kernel)
    (case k03 => first | kernel_rfl | rfl | decide +kernel)
    (case k04 => first | kernel_rfl | rfl | decide +kernel)
    (case k05 => first | kernel_rfl | rfl | decide +kernel)
    (case k06 => first | kernel_rfl | rfl | decide +kernel)
    (case kv0 => first | kernel_rfl | rfl | decide +kernel)
    (case sp0 => k_is)
    (case eg3 => k_is)
    (case ek3 => k_is)
    (case eh3 => k_is)
    (case ec3 => k_is)
    (case em3 => k_is)
    (case k30 => first | kernel_rfl | rfl | decide +kernel)
    (case k31 => first | kernel_rfl | rfl | decide +kernel)
    (case k32 => first | kernel_rfl | rfl | decide +kernel)
    (case k33 => first | kernel_rfl | rfl | decide +kernel)
    (case k34 => first | kernel_rfl | rfl | decide +kernel)
    (case k35 => first | kernel_rfl | rfl | decide +kernel)
    (case k36 => first | kernel_rfl | rfl | decide +kernel)
    (case kv3 => first | kernel_rfl | rfl | decide +kernel)
    (case sp3 => k_is)
    (case ecn => k_is)
    (case ect => k_is)
    (case sP => k_is)
    (case hP => k_is)
    (case yP => k_is)
    (case nT => first | rfl | kernel_rfl)
    (case hH => first | kernel_rfl | rfl)
#print axioms PySem.Challenge.cw_seasonpass_k01_tariffs_validated_holds

