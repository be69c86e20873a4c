import PyProof.Rows.All
import Wide.All
import OpenK.AllK
import Wide.FinOn
import HandS.ForMost
import HandS.ForExc
import HandS.Lambda
import HandS.EndTab
import HandS.Style
import HandS.TupAny
import HandS.Zip
import HandS.Walk
import HandS.Flow
import HandS.GenList
import HandS.GenOver
import PyProof.GenComp
import PyProof.GenArm
import PyProof.GenQ
import PyProof.CodeObjX
import PyProof.TupleOfGen
import PyProof.ConsumeS
import PyProof.MinMaxWalk
import HandS.Conv
import HandS.Steps
import HandS.ExcOwn
import HandS.Defaults
import KE.GoesMore
import PyProof.Rows.EnumRows
import KE.KNestM
import PySem.Challenge.RW_treestack_k17_rings_of_places
set_option Elab.async false
set_option linter.all false
set_option maxRecDepth 100000
set_option maxHeartbeats 4000000
/-! own layer, part 1: lambdas as values; a comprehension that may lean on the def around it -/
namespace Y
open PySem PySem.Spec PyProof.Rows L2 LamX

/-- a lambda's function object stands at f, its code object at c' -/
def LamO (f c' : Addr) (q : Str) (params : Arguments) (body : Expr) (scope : Scope) (cl : List (Str × Addr)) : HO :=
  .ext fun h => ∃ pm ctv : Value, h.get? f = some (PySem.W.kla_obj "<lambda>" q params body scope cl pm c' ctv)

section
variable {X : Cx} {pins : List (Addr × Obj)} {σ : L2.St} {H : Hp} {s : Shared}

/-- a fresh function object of a lambda is laid and told -/
theorem laid_lam {f c' : Addr} {q : Str} {params : Arguments} {body : Expr} {scope : Scope} {cl : List (Str × Addr)} {pm ctv : Value} {tk : Nat}
    (I : Inv X pins σ H s) (hf : f = s.heap.objs.size) :
    Inv X pins σ (upd H f (LamO f c' q params body scope cl)) { s with heap := s.heap.push (PySem.W.kla_obj "<lambda>" q params body scope cl pm c' ctv), toks := tk } := by
  subst hf
  have e0 : (s.heap.push (PySem.W.kla_obj "<lambda>" q params body scope cl pm c' ctv)).get? s.heap.objs.size = some (PySem.W.kla_obj "<lambda>" q params body scope cl pm c' ctv) := Heap.get?_push_size _ rfl
  refine I.laid (t' := tk) (fun b o e => Heap.get?_push_of_some _ e) (Nat.le_refl _) ?_
  exact ⟨⟨pm, ctv, e0⟩, ⟨_, e0⟩, fun h1 h2 ⟨a, b, e⟩ st => ⟨a, b, st _ e⟩⟩

theorem lam_make3 {T : List (Addr × Str)} {c P : Addr} {params : Arguments} {body : Expr} {scope : Scope} {pos : Pos} {E : Value → Shared → Prop} {Q : Value → Shared → Prop}
    (I : Inv X pins σ H s) (TB : TabB X.base X.mg c P) (hcode : X.env.code = .ref c)
    (hm : (P, X.env.qual ++ "<lambda>") ∈ T) (hu : ∀ p ∈ T, p.1 = P → p.2 = X.env.qual ++ "<lambda>") (hT : Tabs T H)
    (hdef : defaultsOf params X.env = ([], [])) (hfree : ∀ y ∈ scope.names, y.2 = .free → ∃ c, X.env.cells.lookup y.1 = some c)
    (h : ∀ (f c' : Addr) (H1 : Hp) (s' : Shared), Inv X pins σ H1 s' → ExtN H H1 → (∀ b, H1 b = none → H b = none) → Tabs T H1 → H f = none →
      H1 f = some (LamO f c' (X.env.qual ++ "<lambda>") params body scope (cloFrom X.env.cells scope.names [])) → H1 c' = some (CodeO c' (X.env.qual ++ "<lambda>")) → Q (.ref f) s') :
    wpAny (model X.prog X.w) X.A (eval (.Lambda params body scope pos) X.env) Q E s := by
  obtain ⟨ps, tabP, okP, named⟩ := hT _ hm
  refine PySem.W.kla_eval hdef ?_
  have rawP : s.heap.get? P = some { cls := .none, data := .fields ps } := I.hok P _ tabP
  -- the end, from a state in which the table is right
  have close : ∀ (c' : Addr) (ctv : Value) (H0 : Hp) (h' : Heap) (tk : Tok), Inv X pins σ H0 { s with heap := h', toks := tk } → ExtN H H0 → (∀ b, H0 b = none → H b = none) → Tabs T H0 →
      H0 c' = some (CodeO c' (X.env.qual ++ "<lambda>")) →
      Q (.ref h'.objs.size) { s with heap := h'.push (PySem.W.kla_obj "<lambda>" (X.env.qual ++ "<lambda>") params body scope (cloFrom X.env.cells scope.names []) ((X.mg "__name__").getD .none) c' ctv), toks := tk } := by
    intro c' ctv H0 h' tk J e1 e2 e3 e4
    have fr : H0 h'.objs.size = none := J.hok.fresh (Nat.le_refl _)
    have st : ∀ b o, H0 b = some o → upd H0 h'.objs.size (LamO h'.objs.size c' (X.env.qual ++ "<lambda>") params body scope (cloFrom X.env.cells scope.names [])) b = some o := fun b o e => by
      rw [upd_ne (ne_of_none e fr)]; exact e
    refine h h'.objs.size c' _ _ (laid_lam (s := { s with heap := h', toks := tk }) (tk := tk) J rfl) (e1.trans (ExtN.of st)) (fun b hb => e2 b ?_) (e3.ext st) (e2 _ fr) upd_same (st _ _ e4)
    by_cases z : b = h'.objs.size
    · rw [z]; exact fr
    · rw [upd_ne z] at hb; exact hb
  cases hc : codeAmong pos ps.toList with
  | some cv =>
    obtain ⟨c', rfl, hco⟩ := named pos cv hc
    refine PySem.W.kla_makeFunctionHit (mg := X.mg) (c := c) (P := P) (ps := ps) (closure_ok hfree) I.ok.glob (I.mod.glob.keeps I.bk) hcode (TB.code.keeps I.bk) rawP okP hc (TB.bm.keeps I.bk) ?_
    intro ctv h' tk hx hsz
    exact close c' ctv H h' tk (I.kept fun b o e => hx b o e) (ExtN.refl H) (fun _ q => q) hT hco
  | none =>
    refine PySem.W.kla_makeFunction (mg := X.mg) (c := c) (P := P) (ps := ps) (closure_ok hfree) I.ok.glob (I.mod.glob.keeps I.bk) hcode (TB.code.keeps I.bk) rawP okP hc TB.gP (TB.bm.keeps I.bk) ?_
    intro c' ctv h' tk hx hge hlt hrec htb
    obtain ⟨c2, oc, vs, t, e2, hoc, hd, hv⟩ := hrec
    cases e2
    have nC : H c' = none := I.hok.fresh hge
    have J := inv_table (t' := tk) (more := #[rawInt pos.line, rawInt pos.col, .ref c']) (h' := h') I tabP (fun b o hb e => hx b o hb e) htb hge ⟨oc, vs, t, hoc, hd, hv⟩
    have toL : (ps ++ #[rawInt pos.line, rawInt pos.col, .ref c']).toList = ps.toList ++ [rawInt pos.line, rawInt pos.col, .ref c'] := by simp
    have hE : ExtN H (upd (upd H P (.tbl (ps ++ #[rawInt pos.line, rawInt pos.col, .ref c']))) c' (CodeO c' (X.env.qual ++ "<lambda>"))) := by
      intro b o e n
      have n1 : b ≠ c' := ne_of_none e nC
      have n2 : b ≠ P := fun z => n ps (by rw [z, tabP] at e; exact (Option.some.inj e).symm)
      rw [upd_ne n1, upd_ne n2]; exact e
    refine close c' ctv _ h' tk J hE (fun b hb => ?_) (fun p hp => ?_) upd_same
    · by_cases z1 : b = c'
      · rw [z1]; exact nC
      · rw [upd_ne z1] at hb
        by_cases z2 : b = P
        · rw [z2, upd_same] at hb; cases hb
        · rw [upd_ne z2] at hb; exact hb
    · by_cases hb : p.1 = P
      · rw [hu p hp hb, hb]
        refine ⟨_, by rw [upd_ne (ne_of_none tabP nC), upd_same], by rw [toL]; exact PySem.TriplesOk_snoc _ _ _ _ okP, ?_⟩
        intro p' cv hcv
        rw [toL] at hcv
        rcases among_app _ okP hcv with z | z
        · obtain ⟨c0, e1, e3⟩ := named p' cv z
          exact ⟨c0, e1, hE _ _ e3 codeO_ne⟩
        · exact ⟨c', z, upd_same⟩
      · obtain ⟨ps', a1, a2, a3⟩ := hT p hp
        refine ⟨ps', by rw [upd_ne (ne_of_none a1 nC), upd_ne hb]; exact a1, a2, ?_⟩
        intro p' cv hcv
        obtain ⟨c0, e1, e3⟩ := a3 p' cv hcv
        exact ⟨c0, e1, hE _ _ e3 codeO_ne⟩
end

/-- lambda: body, as a value -/
def tLamV (T : List (Addr × Str)) (q : Str) (params : Arguments) (body : Expr) (scope : Scope) (cl : List (Str × Addr)) : TE := fun σ H Q =>
  Tabs T H ∧ ∀ f c' H1, ExtN H H1 → (∀ b, H1 b = none → H b = none) → Tabs T H1 → H f = none → H1 f = some (LamO f c' q params body scope cl) → H1 c' = some (CodeO c' q) → Q (.ref f) H1
theorem pe_lamV {X : Cx} {T : List (Addr × Str)} {c P : Addr} {params : Arguments} {body : Expr} {scope : Scope} {pos : Pos}
    (TB : TabB X.base X.mg c P) (hcode : X.env.code = .ref c) (hm : (P, X.env.qual ++ "<lambda>") ∈ T) (hu : ∀ p ∈ T, p.1 = P → p.2 = X.env.qual ++ "<lambda>")
    (hdef : defaultsOf params X.env = ([], [])) (L : LamS X.env.scope scope) :
    PE X (.Lambda params body scope pos) (tLamV T (X.env.qual ++ "<lambda>") params body scope (cloFrom X.env.cells scope.names [])) := by
  refine ⟨fun pins s σ H Q I h => ?_⟩
  obtain ⟨hT, h⟩ := h
  refine lam_make3 I TB hcode hm hu hT hdef (L.has I.ok) ?_
  intro f c' H1 s' J e1 e2 e3 e4 e5 e6
  exact ⟨.ref f, H1, J, rfl, h f c' H1 e1 e2 e3 e4 e5 e6⟩

/-- what is known of a lambda whose body's reading is t -/
structure LamGood (X : Cx) (k : Nat) (params : Arguments) (body : Expr) (scope : Scope) (t : XK → TE) : Prop where
  L : LamS X.env.scope scope
  bind : ∀ (q : Str) (cl : List (Str × Addr)) (pm cv ctv : Value), bindArgs (PySem.W.kla_fn "<lambda>" q params body scope cl pm cv ctv) ⟨[], []⟩ = pure []
  body : ∀ (A : Around) (outer : List Env) (s : Shared) (H : Hp) (E : XK) (f c' : Addr), Room k (A.deeper (lamEnv X scope s.heap.objs.size f c')) → PE (lamCx X A outer s H E scope f c') body (t E)

section
variable {X : Cx} {pins : List (Addr × Obj)} {σ : L2.St} {H HZ : Hp} {s s1 : Shared}
/-- x(), in the def that got the lambda as a value -/
theorem pe_act3 {CXg : CXT} {Eg : XK} {Ng : List Str} {qg : Str} {sg : Scope} {g f c' : Addr} {cdg : Value} {params : Arguments} {body : Expr} {scope : Scope} {t : XK → TE} {k i : Nat} {a : Str} {pn : List (Addr × Obj)} {xe : Value → Shared → Prop} {W : WX} {E : XK} {p1 p2 : Pos}
    (I : Inv X pins σ H s) (G : LamGood X k params body scope t)
    (tk : Takes ((cxOf CXg X.prog X.w X.K X.mg X.base Ng qg sg g cdg X.A X.stack s H Eg).tr pn xe) W) (hW : ∀ cls d σ' H', E cls d H' → W cls d σ' H') (hr : Room (k + 1) (X.A.deeper (envOfC qg sg s.heap.objs.size g cdg)))
    (hN : Ng[i]? = some a) (hv : Vis sg a) (hd : (a == ("__debug__" : Str)) = false := by decide) (hcd : (a == ("__classdict__" : Str)) = false := by decide) :
    PE ((cxOf CXg X.prog X.w X.K X.mg X.base Ng qg sg g cdg X.A X.stack s H Eg).tr pn xe) (.Call (.Name a p1) [] [] p2)
      (fun σZ HZ Q => σZ[i]? = some (some (.ref f)) ∧ (HZ f = some (LamO f c' (X.env.qual ++ "<lambda>") params body scope (cloFrom X.env.cells scope.names [])) ∧ HZ c' = some (CodeO c' (X.env.qual ++ "<lambda>"))) ∧ t E σ HZ Q) := by
  refine ⟨fun pinsZ sZ σZ HZ Q IZ h => ?_⟩
  obtain ⟨hs, ⟨hf, hc⟩, ht⟩ := h
  have look := (pe_var (X := (cxOf CXg X.prog X.w X.K X.mg X.base Ng qg sg g cdg X.A X.stack s H Eg).tr pn xe) (pos := p1) (i := i) hN hv hd hcd).run pinsZ sZ σZ HZ (fun v H1 => v = .ref f ∧ H1 = HZ) IZ ⟨.ref f, hs, rfl, rfl⟩
  refine wpAny_Call_Name_kw (thn look ?_)
  rintro u s1 ⟨v, H1, I1, r1, rfl, rfl⟩
  obtain rfl : u = Value.ref f := r1
  obtain ⟨⟨pm, ctv, ofn⟩, _, _⟩ := I1.hok f _ hf
  obtain ⟨⟨oc, vs, tt, hoc, hdc, hvc⟩, _, _⟩ := I1.hok c' _ hc
  refine PySem.W.callWith_F0 ⟨_, _, _, _, ofn⟩ ?_
  have un : Un (frs X.stack) [] H H1 s.heap s1.heap := I1.base
  have go : codeAny (model X.prog X.w) (X.A.deeper (envOfC qg sg s.heap.objs.size g cdg)) (.call (.ref f) ⟨[], []⟩) (CR (L2.CX X.prog X.w) (envOfC qg sg s.heap.objs.size g cdg :: X.stack) X.prog X.w H1 s1 Q E) s1 := by
    refine PySem.W.kla_callFunE hr.depth ofn rfl G.L.co G.L.gen rfl ⟨c', oc, vs, tt, rfl, hoc, hdc, hvc⟩ ?_
    rw [G.bind]
    refine wpAny_pure (wpAny_newFunctionEnv (fun y hy => (G.L.own y hy).2) (fun y hy => absurd hy (by simp)) ?_ G.L.kind)
    intro h₁ hns hsb
    refine ⟨I1.nolimit.fresh _ hsb, ?_⟩
    have kp : ∀ b o, s1.heap.get? b = some o → h₁.get? b = some o := fun b o e => hsb.extBut b o (Nat.ne_of_lt (Heap.lt_size e)) (Heap.get?_push_of_some _ e)
    have J := lam_start2 (A := X.A.deeper (envOfC qg sg s.heap.objs.size g cdg)) (outer := envOfC qg sg s.heap.objs.size g cdg :: X.stack) (E := E) (scope := scope) (f := f) (c' := c') (tk := s1.toks + ([] : List (Str × Value)).length) I G.L I1.env0 hr.hd un hns kp
    show codeAny _ _ (.expr body (lamEnv X scope s1.heap.objs.size f c')) _ _
    refine PySem.W.kla_codeExpr (wpAny_mono ((G.body _ _ s1 H1 E f c' (hr.deeper _)).run [] _ _ H1 Q J ht) ?_ fun e s' hq => hq)
    rintro v s' ⟨w', H', J', rv, q⟩
    exact ⟨w', H', J'.os, J'.bare, J'.base, J'.hok, rv, q⟩
  have pass : Passes (L2.CX X.prog X.w) ((cxOf CXg X.prog X.w X.K X.mg X.base Ng qg sg g cdg X.A X.stack s H Eg).tr pn xe) E := passes_call tk hW
  refine wpAny_call (codeAny_mono go ?_)
  intro r s' hq
  cases r with
  | error e => exact pass pinsZ σZ H1 s1 e s' I1 hq
  | ok fl =>
    cases fl with
    | ret u => exact I1.after hq
    | next => exact hq.elim
    | brk => exact hq.elim
    | cont => exact hq.elim
end
end Y

set_option Elab.async false
set_option linter.all false
set_option maxRecDepth 100000
set_option maxHeartbeats 4000000
namespace Y
open PySem PySem.Spec L2 LamX

/-- a block within X (or X itself): the same run, another frame -/
abbrev inner (X : Cx) (s0 : Shared) (h0 : Hp) (en : Env) (ou : List Env) (ex : List Addr) (fn : Str → Bool) (pn : List (Addr × Obj)) (xe : Value → Shared → Prop) : Cx :=
  { X with s_0 := s0, H_0 := h0, env := en, outer := ou, ex := ex, fn := fn, pn := pn, xe := xe }

/-- what told(v) asks of v -/
def rTold (X : Cx) (k : Nat) (CS : Addr) (ret : Str) (σ : St) (v : V) (H1 : Hp) (Q : VK) : Prop :=
  ∃ (f c' : Addr) (params : Arguments) (body : Expr) (scope : Scope) (t : XK → TE), v = .ref f ∧ LamGood X k params body scope t ∧
    H1 f = some (LamO f c' (X.env.qual ++ "<lambda>") params body scope (cloFrom X.env.cells scope.names [])) ∧ H1 c' = some (CodeO c' (X.env.qual ++ "<lambda>")) ∧
    t (fun cls _ H' => ∃ b, PySem.W.exmOne X.K cls (.ref CS) = some b ∧ (b = true → Q (.str ret) H') ∧ (b = false → False)) σ H1 Q
/-- told(e): e hands on a lambda of X; its body is read where X's names stand as pr says -/
def tTold (X : Cx) (k : Nat) (CS : Addr) (ret : Str) (pr : St → St) (te : TE) : TE := fun σ H Q => te σ H fun v H1 => rTold X k CS ret (pr σ) v H1 Q

theorem pe_toldI {X : Cx} {s0 : Shared} {h0 : Hp} {en : Env} {ou : List Env} {ex : List Addr} {fn : Str → Bool} {pn : List (Addr × Obj)} {xe : Value → Shared → Prop}
    {k : Nat} {x a ee ret : Str} {st : Stmt} {g CS : Addr} {fd : FuncData} {Ng : List Str} {e : Expr} {te : TE} {pr : St → St} {p pos p1 p2 p3 p4 p5 p6 p7 p8 : Pos} {j : Nat}
    (back : ∀ (pins : List (Addr × Obj)) (σ : St) (H : Hp) (s : Shared), Inv (inner X s0 h0 en ou ex fn pn xe) pins σ H s → ∃ pins', Inv X pins' (pr σ) H s)
    (hg : Gl (inner X s0 h0 en ou ex fn pn xe) x) (hm : X.mg x = some (.ref g)) (F : Fun X.K x x st g fd) (hb : L2.Binds X.K fd [a] []) (Sg : FnScope Ng [a] (defScope st)) (hNg : Ng[0]? = some a) (hva : Vis (defScope st) a)
    (hbody : defBody st = [.Try [.Return (some (.Call (.Name a p1) [] [] p2)) p3] [.ExceptHandler (some (.Name ee p4)) none [.Return (some (.Constant (.str ret) j p5)) p6] p7] [] [] p8])
    (h0a : ∀ f : Addr, (L2.start Ng [V.ref f])[0]? = some (some (V.ref f)))
    (hge : (defScope st).names.lookup ee = some .globalImplicit) (hme : X.mg ee = some (.ref CS)) (hr : Room (k + 2) X.A) (args : PA (inner X s0 h0 en ou ex fn pn xe) [e] (tCons te tNil))
    (hde : (ee == ("__debug__" : Str)) = false := by decide) (hdb : (x == ("__debug__" : Str)) = false := by decide) (hd : (a == ("__debug__" : Str)) = false := by decide) (hcd : (a == ("__classdict__" : Str)) = false := by decide)
    (hse : starEach [e] en = (false, eval e en) :: starEach [] en := by rfl) (hpl : (backTo pos (starEach ([] : List Expr) en)).any (·.1) = false := by rfl) :
    PE (inner X s0 h0 en ou ex fn pn xe) (.Call (.Name x p) [e] [] pos) (tTold X k CS ret pr te) := by
  obtain ⟨oc, od, kV, doc, pm, an, cdv, ct, osl, rfl, lk, hcg⟩ := F.ex
  refine ⟨fun pins s σ H Q I h => ?_⟩
  refine wpAny_Call_Name_kw (ld_glob I hg hm ?_ hdb)
  have h' : (tCons te tNil) σ H (fun vs H1 => match vs with | [v] => rTold X k CS ret (pr σ) v H1 Q | _ => False) := h
  refine PySem.W.callWith_K (h₀ := X.base) I.ok.mod.kin F.kp (thn (args.run pos pins s σ H _ I h') ?_) hse hpl
  rintro us s1 ⟨vs, H1, I1, r1, q1⟩
  refine ⟨I1.kIn, ?_⟩
  obtain ⟨v, rfl, q1⟩ : ∃ v, vs = [v] ∧ rTold X k CS ret (pr σ) v H1 Q := by
    match vs, q1 with
    | [v], q => exact ⟨v, rfl, q⟩
  obtain ⟨f, c', params, body, scope, t, rfl, G, hf, hc, ht⟩ := q1
  obtain ⟨pins', J⟩ := back _ _ _ _ I1
  cases r1 with
  | cons ra rb =>
  cases rb
  obtain rfl := (show _ = Value.ref f from ra)
  have go : codeAny (model X.prog X.w) X.A (.call (.ref g) ⟨[.ref f], []⟩) (CR C8.CX0 X.stack X.prog X.w H1 s1 Q C8.E0) s1 := by
    refine run_ofS (N := Ng) (ps := [a]) (us := [.ref f]) (vs := [.ref f]) lk hcg Sg hr I1.env0 (hb s1 [.ref f] I1.kIn rfl) (.cons rfl .nil) rfl ?_
    intro hr'
    have gives := told_gives (X := X) (Ng := Ng) (x := x) (a := a) (e := ee) (q := X.env.qual ++ "<lambda>") (ret := ret) (sg := defScope st) (g := g) (CS := CS) (cdg := cdv) (j := j) (p1 := p1) (p2 := p2) (p3 := p3) (p4 := p4) (p5 := p5) (p6 := p6) (p7 := p7) (p8 := p8) hge hme hde h0a
    obtain ⟨t', ht', hq'⟩ := gives f c' s1 H1 Q (fun E H' Q' => H' f = some (LamO f c' (X.env.qual ++ "<lambda>") params body scope (cloFrom X.env.cells scope.names [])) ∧ t E (pr σ) H' Q')
      (fun W pn xe E p1 p2 tk hW => ⟨fun pinsZ sZ σZ HZ QZ IZ z => (pe_act3 (i := 0) J G tk hW hr' hNg hva hd hcd).run pinsZ sZ σZ HZ QZ IZ ⟨z.1, ⟨z.2.2.1, z.2.1⟩, z.2.2.2⟩⟩) hc ⟨hf, ht⟩
    exact ⟨t', by rw [hbody]; exact ht'.nox, hq'⟩
  refine wpAny_call (codeAny_mono go ?_)
  intro r s2 hq
  cases r with
  | error e => exact (show False from hq).elim
  | ok fl =>
    cases fl with
    | ret u => exact I1.after hq
    | next => exact hq.elim
    | brk => exact hq.elim
    | cont => exact hq.elim
end Y

set_option Elab.async false
set_option linter.all false
set_option maxRecDepth 100000
set_option maxHeartbeats 4000000
namespace Y
open PySem PySem.Spec L2 LamX

/-- every state of a block of X that was entered at s is a state of X, with X's names as they stood -/
def Back (X : Cx) (σ : St) (H : Hp) (s : Shared) (scope : Scope) (cenv : Env) (fp : List Addr) : Prop :=
  ∀ (pins' : List (Addr × Obj)) (σ' : St) (H' : Hp) (s' : Shared), Inv (X.blk s H scope cenv fp) pins' σ' H' s' → ∃ pins, Inv X pins σ H' s'

section
variable {X : Cx}
/-- as tLc; the parts may lean on the names of the def around -/
def tLcX (wi : TI) (g : TG) (tt : St → TT) (te : St → TE) (vs : List Nat) : TE := fun σ H Q => tLc wi g (tt σ) (te σ) vs σ H Q

theorem lc_coreX {pins : List (Addr × Obj)} {s : Shared} {σ : St} {H : Hp} {Q : VK} {elt tg iter : Expr} {ifs : List Expr} {scope : Scope} {own : List (Str × Nat)} {pos pos' : Pos} {wi : TI} {g : TG} {tt : TT} {te : TE} {use : Option (Value → Sem Unit)} {Qf : Value → Shared → Prop}
    (calm : X.calm = true) (nd : X.N.Nodup) (I : Inv X pins σ H s) (hi : PI X tg iter wi) (ok : BlkOk X.N X.env.scope scope own)
    (hg : ∀ s H C cl fp, Back X σ H s scope (compEnvC scope cl C X.env) fp → PG (X.blk s H scope (compEnvC scope cl C X.env) fp) tg g)
    (ht : ∀ s H C cl fp, Back X σ H s scope (compEnvC scope cl C X.env) fp → PTs (X.blk s H scope (compEnvC scope cl C X.env) fp) ifs tt)
    (he : ∀ s H C cl fp, Back X σ H s scope (compEnvC scope cl C X.env) fp → PE (X.blk s H scope (compEnvC scope cl C X.env) fp) elt te)
    (hs : ∀ x, foldedSetIterable iter X.env x = pure x) (h : tLc wi g tt te (own.map (·.2)) σ H Q)
    (fin : ∀ D C s' m H', Inv X pins σ H' s' → Q (.ref D) H' → s'.heap.Ns C m → FpOk X pins H' C → compPost (model X.prog X.w) X.A X.xe use Qf (.ref D) C (.ok .next) s') :
    wpAny (model X.prog X.w) X.A (comprehension (.ListComp elt [⟨tg, iter, ifs, 0⟩] scope pos) scope X.env pos' (newList []) false (eval iter X.env) use) Qf X.xe s := by
  have capt : ∀ y ∈ scope.names, y.2 = .free → ∃ c, X.env.cells.lookup y.1 = some c := fun y hy e =>
    (ok.free y hy e).elim (fun k => I.ok.has _ (.inl k)) (fun k => I.ok.has _ (.inr k))
  have first : wpAny (model X.prog X.w) X.A (eval iter X.env) _ X.xe s := hi.run pins s σ H _ I h
  refine wpAny_comprehension_free (use := use) rfl hs (closure_ok capt) ok.kind (fun y hy e => (ok.uniq y hy).trans (congrArg some e)) (thn first ?_)
  intro xv s1 hx
  refine thn hx ?_
  rintro itv s2 ⟨it, fp, tn, J, H2, rfl, I2, T, st2, f2, q⟩
  refine wpAny_newObj_type (newEnv_comp ?_) (Nat.zero_le _)
  -- the new list stands at D
  have hDn : H2 s2.heap.objs.size = none := I2.hok.fresh (Nat.le_refl _)
  obtain ⟨W, ⟨m0, w0⟩, turn⟩ := q _ hDn
  generalize eD : s2.heap.objs.size = D at hDn w0 turn ⊢
  obtain ⟨s3, es3⟩ : ∃ s3 : Shared, s3 = { s2 with heap := s2.heap.push { cls := .type "list", data := .seq ([] : List Value).toArray } } := ⟨_, rfl⟩
  have heap3 : s3.heap = s2.heap.push { cls := .type "list", data := .seq ([] : List Value).toArray } := by rw [es3]
  have grow3 : ∀ b o, s2.heap.get? b = some o → s3.heap.get? b = some o := fun b o e => by rw [heap3]; exact Heap.get?_push_of_some _ e
  have I3 : Inv X pins σ (upd H2 D (.lst [])) s3 := by
    have new : s3.heap.get? D = some { cls := .type "list", data := .seq ([] : List Value).toArray } := by rw [heap3, ← eD]; exact Heap.get?_push_size _ rfl
    have lay := I2.laid (a := D) (o := .lst []) (h' := s3.heap) (t' := s2.toks) grow3 (Nat.le_of_eq eD) ⟨Nat.zero_le _, [], 0, .nil, new⟩
    rw [es3] at lay ⊢
    exact lay
  have small : ∀ b ∈ fp, b < s2.heap.objs.size := fun b hb => let ⟨_, e, _⟩ := T.obj _ _ st2 b hb; Heap.lt_size e
  have f3 : ∀ b ∈ fp, FpOk X pins (upd H2 D (.lst [])) b ∧ b < s3.heap.objs.size := fun b hb => by
    have lt := small b hb
    constructor
    · refine ⟨?_, (f2 b hb).2⟩
      rw [upd_ne (fun z => Nat.ne_of_lt lt (z.trans eD.symm))]
      exact (f2 b hb).1
    · rw [heap3, Heap.size_push]; exact Nat.lt_succ_of_lt lt
  have st3 : tn 0 s3.heap := T.keep _ _ _ st2 fun b _ o e => grow3 b o e
  have I4 := block_start I3 ok nd f3
  obtain ⟨cl, ecl⟩ : ∃ cl, cl = cellsFrom (s3.heap.objs.size + 1) scope.names (cloFrom X.env.cells scope.names []) := ⟨_, rfl⟩
  obtain ⟨H3, eH3⟩ : ∃ H3, H3 = upd H2 D (.lst []) := ⟨_, rfl⟩
  obtain ⟨s4, es4⟩ : ∃ s4 : Shared, s4 = { s3 with heap := pushCells (s3.heap.push { cls := .type "dict", data := .dict #[] }) scope.names } := ⟨_, rfl⟩
  rw [← ecl, ← eH3, ← es4] at I4
  rw [← eH3] at I3 f3 w0
  have goal : codeAny (model X.prog X.w) X.A (.compStart (.ListComp elt [⟨tg, iter, ifs, 0⟩] scope pos) 0 (.ref it) (.ref D) (compEnvC scope cl s3.heap.objs.size X.env)) (compPost (model X.prog X.w) X.A X.xe use Qf (.ref D) s3.heap.objs.size) s4 := by
    obtain ⟨B, eB⟩ : ∃ B : Cx, B = X.blk s3 H3 scope (compEnvC scope cl s3.heap.objs.size X.env) fp := ⟨_, rfl⟩
    have home : ∀ {pins' σ' H' s'}, Inv (X.blk s3 H3 scope (compEnvC scope cl s3.heap.objs.size X.env) fp) pins' σ' H' s' → Inv X pins σ H' s' := fun J =>
      I3.call' (ch := fp) J.os J.base J.hok J.bare fun b hb => ⟨(f3 b hb).1.2.2.2.1, (f3 b hb).1.2.1, (f3 b hb).1.2.2.2.2.1, (f3 b hb).1.2.2.2.2.2⟩
    have bk : Back X σ H3 s3 scope (compEnvC scope cl s3.heap.objs.size X.env) fp := fun pins' σ' H' s' J => ⟨pins, home J⟩
    have PG' := hg s3 H3 s3.heap.objs.size cl fp bk
    have PT' := ht s3 H3 s3.heap.objs.size cl fp bk
    have PE' := he s3 H3 s3.heap.objs.size cl fp bk
    have out : ∀ b ∈ fp, H3 b = none := fun b hb => (f3 b hb).1.1
    have grow4 : ∀ b o, s3.heap.get? b = some o → s4.heap.get? b = some o := fun b o e => by rw [es4]; exact pushCells_keeps _ _ _ _ (Heap.get?_push_of_some _ e)
    have st4 : tn 0 s4.heap := T.keep _ _ _ st3 fun b _ o e => grow4 b o e
    have okfp : ∀ {σ' : St} {H' : Hp} {s' : Shared}, Inv (X.blk s3 H3 scope (compEnvC scope cl s3.heap.objs.size X.env) fp) [] σ' H' s' → (∀ b ∈ fp, H' b = none) → ∀ b ∈ fp, FpOk (X.blk s3 H3 scope (compEnvC scope cl s3.heap.objs.size X.env) fp) [] H' b :=
      fun J z b hb => ⟨z b hb, (J.ok.exf b hb).1, J.ok.exfs b hb, .inl hb, (J.ok.exf b hb).2, fun p hp => absurd (show p ∈ ([] : List (Addr × Obj)) ++ [] from hp) (by simp)⟩
    have loop : codeAny (model X.prog X.w) X.A (.compLoop (.ListComp elt [⟨tg, iter, ifs, 0⟩] scope pos) 0 (.ref it) (.ref D) (compEnvC scope cl s3.heap.objs.size X.env)) (compPost (model X.prog X.w) X.A X.xe use Qf (.ref D) s3.heap.objs.size) s4 := by
      refine compLoop_any (fun n s' => ∃ i H', Inv (X.blk s3 H3 scope (compEnvC scope cl s3.heap.objs.size X.env) fp) [] (wipe σ (own.map (·.2))) H' s' ∧ tn i s'.heap ∧ (∀ b ∈ fp, H' b = none) ∧ W i n H') ?_ m0 ⟨0, H3, I4, st4, out, w0⟩
      rintro n s5 ⟨i, H5, I5, st5, n5, w5⟩
      rcases turn i n H5 w5 with ⟨stop, qq⟩ | ⟨go, Nx, hNx, step⟩
      · refine thnF (T.done (X.blk s3 H3 scope (compEnvC scope cl s3.heap.objs.size X.env) fp) rfl rfl rfl calm i [] s5 _ H5 (fun _ _ => False) I5 (okfp I5 n5) st5 stop) ?_
        rintro r s6 ⟨rfl, I6⟩
        obtain ⟨m, hn, _⟩ := I6.loc
        have free6 : H5 s3.heap.objs.size = none := I6.free
        exact fin D s3.heap.objs.size s6 m H5 (home I6) qq hn (I3.fpOk (Nat.le_refl _) free6)
      · refine thnF (T.item (X.blk s3 H3 scope (compEnvC scope cl s3.heap.objs.size X.env) fp) rfl rfl rfl calm i [] s5 _ H5 (fun _ _ => False) I5 (okfp I5 n5) st5 go) ?_
        rintro r s6 ⟨u, rfl, h6⟩
        refine thnF h6 ?_
        rintro _ s7 ⟨x, H7, I7, r7, y7, st7, n7⟩
        have J7 := I7.pinned (okfp I7 n7) (T.obj _ _ st7)
        refine thnF (PG'.run _ s7 _ H7 x u _ J7 r7 (step x H7 y7)) ?_
        rintro _ s8 ⟨σ8, H8, I8, hw8, q8⟩
        refine thnF (PT'.run _ s8 σ8 H8 _ I8 q8) ?_
        rintro b s9 ⟨H9, I9, q9⟩
        have close : ∀ {s' : Shared} {H' : Hp}, Inv (X.blk s3 H3 scope (compEnvC scope cl s3.heap.objs.size X.env) fp) ([] ++ pinsAt fp s7.heap) σ8 H' s' → Nx H' →
            ∃ m, m < n ∧ ∃ i H', Inv (X.blk s3 H3 scope (compEnvC scope cl s3.heap.objs.size X.env) fp) [] (wipe σ (own.map (·.2))) H' s' ∧ tn i s'.heap ∧ (∀ b ∈ fp, H' b = none) ∧ W i m H' := by
          intro s' H' J nx
          obtain ⟨m', lt, w'⟩ := hNx H' nx
          have pinned : ∀ b ∈ fp, ∀ o, s7.heap.get? b = some o → s'.heap.get? b = some o ∧ H' b = none := fun b hb o e =>
            let z := J.pin (b, o) (List.mem_append_right _ (List.mem_append_right _ (mem_pinsAt hb e))); ⟨z.1, z.2.1⟩
          have len8 : (wipe σ (own.map (·.2))).length = σ8.length := by rw [← hw8, wipe_length]
          refine ⟨m', lt, i + 1, H', (J.unpinned (pins := [])).weak len8 (fun j v e => ?_), T.keep _ _ _ st7 fun b hb o e => (pinned b hb o e).1, fun b hb => ?_, w'⟩
          · rw [← hw8] at e; exact (wipe_some e).1
          · obtain ⟨o, e, _⟩ := T.obj _ _ st7 b hb
            exact (pinned b hb o e).2
        cases b with
        | false =>
          simp only [Bool.false_eq_true, if_false] at q9 ⊢
          exact close I9 q9
        | true =>
          simp only [if_true] at q9 ⊢
          refine thnF (PE'.run _ s9 σ8 H9 _ I9 q9) ?_
          rintro z s10 ⟨yv, H10, I10, r10, acc, hD10, hz10, nx⟩
          exact app_ok (X := X.blk s3 H3 scope (compEnvC scope cl s3.heap.objs.size X.env) fp) I10 hD10 hz10 r10 fun s11 I11 => close I11 nx
    exact codeAny_compStart_list loop (T.self X.A 0 _ _ _ st4 loop)
  rw [es4, ecl, es3] at goal

  exact goal

/-- [elt for tg in iter if ..] as a value; the parts may lean on the def around -/
theorem pe_lcX {elt tg iter : Expr} {ifs : List Expr} {scope : Scope} {own : List (Str × Nat)} {pos : Pos} {wi : TI} {g : TG} {tt : St → TT} {te : St → TE} (calm : X.calm = true) (nd : X.N.Nodup) (hi : PI X tg iter wi) (ok : BlkOk X.N X.env.scope scope own)
    (hg : ∀ σ s H C cl fp, Back X σ H s scope (compEnvC scope cl C X.env) fp → PG (X.blk s H scope (compEnvC scope cl C X.env) fp) tg g)
    (ht : ∀ σ s H C cl fp, Back X σ H s scope (compEnvC scope cl C X.env) fp → PTs (X.blk s H scope (compEnvC scope cl C X.env) fp) ifs (tt σ))
    (he : ∀ σ s H C cl fp, Back X σ H s scope (compEnvC scope cl C X.env) fp → PE (X.blk s H scope (compEnvC scope cl C X.env) fp) elt (te σ))
    (hs : ∀ x, foldedSetIterable iter X.env x = pure x := by intro _; rfl) :
    PE X (.ListComp elt [⟨tg, iter, ifs, 0⟩] scope pos) (tLcX wi g tt te (own.map (·.2))) := by
  refine ⟨fun pins s σ H Q I h => ?_⟩
  rw [eval_ListComp]
  refine lc_coreX calm nd I hi ok (hg σ) (ht σ) (he σ) hs h ?_
  intro D C s' m H' J q hn f
  refine ⟨m, hn, fun h'' sb => ⟨.ref D, H', ?_, rfl, q⟩⟩
  exact J.turned (t' := s'.toks) (fun b o hb e => (sb.2 b hb).trans e) f.1 f.2.1 f.2.2.2.1 f.2.2.2.2.1 f.2.2.2.2.2
end
end Y

set_option Elab.async false
set_option linter.all false
set_option maxRecDepth 100000
set_option maxHeartbeats 4000000
namespace Y
open PySem PySem.Spec L2 LamX

theorem over_genLoop {A : Around} {elt : Expr} {g : Comprehension} {scope : Scope} {pos : Pos} {it acc : Value} {env : Env} :
    A.over (.compLoop (.GeneratorExp elt [g] scope pos) 0 it acc env) [] = A.deeper env := by
  rfl
theorem over_genStart {A : Around} {elt : Expr} {g : Comprehension} {scope : Scope} {pos : Pos} {it acc : Value} {env : Env} :
    A.over (.compStart (.GeneratorExp elt [g] scope pos) 0 it acc env) [] = A.deeper env := by
  rfl

/-- the frame of a generator expression of X -/
abbrev gEnv (X : Cx) (scope : Scope) (C : Addr) (code : Value) : Env := genEnv scope (cloFrom X.env.cells scope.names []) C code builtinsNs X.env
/-- its context: made at sc, woken around A, its iterator's objects at fp -/
def genCx (X : Cx) (A : Around) (sc : Shared) (H1 : Hp) (scope : Scope) (C : Addr) (code : Value) (fp : List Addr) : Cx where
  prog := X.prog
  w := X.w
  K := X.K
  mg := X.mg
  base := X.base
  A := A.deeper (gEnv X scope C code)
  N := X.N
  s_0 := sc
  H_0 := H1
  env := gEnv X scope C code
  outer := X.stack
  stack := gEnv X scope C code :: X.stack
  ex := fp
  fn := fun _ => false
  calm := true
  pn := []
  xe := fun _ _ => False

section
variable {X : Cx} {pins : List (Addr × Obj)} {σ : St} {H : Hp} {s : Shared}
theorem gen_start {A : Around} {scope : Scope} {own : List (Str × Nat)} {C : Addr} {code : Value} {fp : List Addr} {s2 : Shared} {m : Str → Option Value}
    (I : Inv X pins σ H s) (ok : BlkOk X.N X.env.scope scope own) (nocell : ∀ y ∈ scope.names, y.2 ≠ .cell) (nd : X.N.Nodup)
    (hh : A.handled = none) (hfr : A.frames = some X.stack) (hfp : ∀ b ∈ fp, FpOk X pins H b ∧ b < s.heap.objs.size)
    (hC : s.heap.objs.size ≤ C) (kp : ∀ b o, s.heap.get? b = some o → s2.heap.get? b = some o) (hn : s2.heap.Ns C m) (hos : s2.os = s.os) (hba : PyProof.Rows.AllBare s2.gens) :
    Inv (genCx X A s H scope C code fp) [] (wipe σ (own.map (·.2))) H s2 := by
  have capt : ∀ y ∈ scope.names, y.2 = .free → ∃ c, X.env.cells.lookup y.1 = some c := fun y hy e =>
    (ok.free y hy e).elim (fun k => I.ok.has _ (.inl k)) (fun k => I.ok.has _ (.inr k))
  have cm : ∀ {y c}, (cloFrom X.env.cells scope.names []).lookup y = some c → X.env.cells.lookup y = some c := fun {y c} e => by
    rcases cloFrom_mem (PySem.mem_of_lookup e) with hm | ⟨h1, h2⟩
    · cases hm
    · obtain ⟨c1, hc⟩ := capt _ h1 rfl
      have hc : X.env.cells.lookup y = some c1 := hc
      have e2 : c = c1 := by
        rw [h2, hc] <;> rfl
      rw [e2]; exact hc
  have look : ∀ {y}, scope.names.lookup y = some .free → ∃ c, (cloFrom X.env.cells scope.names []).lookup y = some c := fun {y} hl =>
    mem_lookup (cloFrom_has (cells := X.env.cells) (acc := []) (show (y, NameKind.free) ∈ scope.names from PySem.mem_of_lookup hl))
  have cellK : ∀ {c : Addr} {v : Option Value}, s.heap.IsCell c v → s2.heap.IsCell c v := fun {c v} ⟨o, ho, hd⟩ => ⟨o, kp _ _ ho, hd⟩
  have okZ : (genCx X A s H scope C code fp).Ok := by
    refine ⟨I.ok.mod, ok.kind, I.ok.glob, rfl, hC, ?_, ?_, ?_, fun _ => hh, Around.frames_deeper hfr, .inr ⟨rfl, rfl⟩, ?_, I.bs, Nat.le_trans I.ok.bsz I.sz, ?_, ?_, I.stack, I.stkFree⟩
    · intro y z c e1 e2
      exact I.ok.inj y z c (cm e1) (cm e2)
    · intro y hy
      have hy : scope.names.lookup y = some .cell ∨ scope.names.lookup y = some .free := hy
      rcases hy with hy | hy
      · exact absurd rfl (nocell _ (PySem.mem_of_lookup hy))
      · exact look hy
    · intro y c z _
      exact nomatch (show false = true from z)
    · intro b hb
      obtain ⟨f, lt⟩ := hfp b hb
      exact ⟨fun z => by (have z : b = C := z); rw [z] at lt; exact Nat.lt_irrefl _ (Nat.lt_of_lt_of_le lt hC), fun y c e => f.2.2.2.2.1 y c (cm e)⟩
    · intro b o e hb
      obtain ⟨f, _⟩ := hfp b hb
      rcases f.2.2.2.1 with z | z
      · exact I.ok.noex b o e z
      · exact Nat.lt_irrefl _ (Nat.lt_of_lt_of_le (Nat.lt_of_lt_of_le (Heap.lt_size e) I.ok.bsz) z)
    · intro b hb hm
      obtain ⟨f, _⟩ := hfp b hb
      rcases List.mem_cons.mp (I.stkSub b hm) with z | z
      · exact f.2.1 z
      · exact f.2.2.1 z
  refine ⟨okZ, hos, hba, Un.kept kp, ⟨m, hn, ?_⟩, ?_, I.hok.fresh hC, fun y c e => I.freeC y c (cm e), fun q hq => absurd (show q ∈ ([] : List (Addr × Obj)) ++ [] from hq) (by simp), I.hok.kept kp, ?_⟩
  · intro i y v e1 e2 e3
    obtain ⟨e2, ni⟩ := wipe_some e2
    have e3 : Vis scope y := e3
    have isOwn : ∀ {k : NameKind}, scope.names.lookup y = some k → (k = .local ∨ k = .cell) → False := fun {k} hk hkk => by
      rcases ok.own _ (PySem.mem_of_lookup hk) hkk with z | z
      · obtain ⟨p, hp, ep⟩ := List.mem_map.mp z
        have ep : p.1 = y := ep
        have := ok.ix p hp
        rw [ep] at this
        have ij : i = p.2 := L2.nodup_ix nd e1 this
        exact ni (List.mem_map.mpr ⟨p, hp, ij.symm⟩)
      · exact z (List.mem_of_getElem? e1)
    rcases e3 with k | k | k
    · exact (isOwn k (.inl rfl)).elim
    · exact (isOwn k (.inr rfl)).elim
    · obtain ⟨mm, hnm, hl⟩ := I.loc
      have hvis : Vis X.env.scope y := (ok.free _ (PySem.mem_of_lookup k) rfl).elim (fun k => .inr (.inl k)) (fun k => .inr (.inr k))
      obtain ⟨w', r, q⟩ := hl i y v e1 e2 hvis
      obtain ⟨c2, h2⟩ := look k
      refine ⟨w', r, .inr ⟨.inr k, c2, h2, ?_⟩⟩
      have c1 := cm h2
      rcases q with ⟨k', _⟩ | ⟨_, c3, e', z⟩
      · have k' : X.env.scope.names.lookup y = some .local := k'
        rcases ok.free _ (PySem.mem_of_lookup k) rfl with k2 | k2 <;> rw [show X.env.scope.names.lookup y = _ from k2] at k' <;> cases k'
      · rw [c1] at e'
        cases e'
        exact cellK z
  · intro y c e
    obtain ⟨w', z⟩ := I.cell y c (cm e)
    exact ⟨w', cellK z⟩
  · show (wipe σ (own.map (·.2))).length = X.N.length
    rw [wipe_length]; exact I.len
end

/-- what all that a generator expression hands out comes to -/
def tGx (wi : TI) (g : TG) (tt : TT) (te : TE) (vs : List Nat) (J : It) (H1 : Hp) (σ : St) (cont : List V → Hp → Prop) : Prop :=
  ∃ W : Nat → Nat → List V → Hp → Prop, (∃ m, W 0 m [] H1) ∧ ∀ i m ys H, W i m ys H →
    (J.stop i H ∧ cont ys H) ∨ (J.go i H ∧ ∃ Nx : List V → Hp → Prop, (∀ ys' H', Nx ys' H' → ∃ m', m' < m ∧ W (i + 1) m' ys' H') ∧ ∀ x H', J.yld i H x H' → g x (wipe σ vs) H' fun σ2 H2 => wipe σ2 vs = wipe σ vs ∧ tt σ2 H2 fun b H3 =>
      if b = true then te σ2 H3 fun y H4 => ys.length < sizeLine ∧ Nx (ys ++ [y]) H4 else Nx ys H3)

section
variable {X : Cx}
/-- the run of a generator expression, woken around A by the one who fills the list at S -/
theorem gen_seg {A : Around} {sc : Shared} {H1 : Hp} {scope : Scope} {C : Addr} {code : Value} {fp : List Addr} {elt tg iter : Expr} {ifs : List Expr} {pos : Pos} {it S a : Addr} {g : Nat} {go : Obj} {tn : Nat → Heap → Prop} {J : It} {gT : TG} {tt : TT} {te : TE}
    {vs : List Nat} {cont : List V → Hp → Prop} {EX : XK} {σ0 : St} {W : Nat → Nat → List V → Hp → Prop}
    (T : Turn X.prog X.w X.K tg J fp it tn) (PGt : PG (genCx X A sc H1 scope C code fp) tg gT) (PTt : PTs (genCx X A sc H1 scope C code fp) ifs tt) (PEt : PE (genCx X A sc H1 scope C code fp) elt te)
    (co : scope.isCoroutine = false) (hSa : S ≠ a) (hSf : S ∉ fp) (haf : a ∉ fp) (hAp : Apart (genCx X A sc H1 scope C code fp) S) (hgo : ∀ h : Heap, h.get? a = some go → h.IsGen a g)
    (turn : ∀ i m ys H, W i m ys H →
      (J.stop i H ∧ cont ys H) ∨ (J.go i H ∧ ∃ Nx : List V → Hp → Prop, (∀ ys' H', Nx ys' H' → ∃ m', m' < m ∧ W (i + 1) m' ys' H') ∧ ∀ x H', J.yld i H x H' → gT x (wipe σ0 vs) H' fun σ2 H2 => wipe σ2 vs = wipe σ0 vs ∧ tt σ2 H2 fun b H3 =>
        if b = true then te σ2 H3 fun y H4 => ys.length < sizeLine ∧ Nx (ys ++ [y]) H4 else Nx ys H3)) :
    ∀ (m n i : Nat) (ys : List V) (H : Hp) (s₀ s : Shared), n + ys.length = sizeLine → W i m ys H → GI (genCx X A sc H1 scope C code fp) S [(a, go)] ys (wipe σ0 vs) H s → tn i s.heap → (∀ b ∈ fp, H b = none) →
      Seg (model X.prog X.w) A (REnd X.prog X.w X.stack H1 sc fp S a g cont EX) (YItem sc S a g) n s₀
        (.compLoop (.GeneratorExp elt [⟨tg, iter, ifs, 0⟩] scope pos) 0 (.ref it) .none (gEnv X scope C code))
        ((model X.prog X.w).den (.compLoop (.GeneratorExp elt [⟨tg, iter, ifs, 0⟩] scope pos) 0 (.ref it) .none (gEnv X scope C code))) [] s := by
  intro m
  induction m using Nat.strongRecOn with
  | _ m ih =>
  intro n i ys H s₀ s hn w G st nfp
  obtain ⟨acc, c, r, I⟩ := G
  have okfp : ∀ {σ' : St} {H' : Hp} {s' : Shared}, Inv (genCx X A sc H1 scope C code fp) ((S, lstObj acc c) :: [(a, go)]) σ' H' s' → (∀ b ∈ fp, H' b = none) → ∀ b ∈ fp, FpOk (genCx X A sc H1 scope C code fp) ((S, lstObj acc c) :: [(a, go)]) H' b := by
    intro σ' H' s' I' z b hb
    refine ⟨z b hb, (I'.ok.exf b hb).1, I'.ok.exfs b hb, .inl hb, (I'.ok.exf b hb).2, fun p hp => ?_⟩
    have hp : p ∈ (S, lstObj acc c) :: [(a, go)] := hp
    rcases List.mem_cons.mp hp with e | e
    · rw [e]; intro q; have q : S = b := q; rw [← q] at hb; exact hSf hb
    · rw [List.mem_singleton.mp e]; intro q; have q : a = b := q; rw [← q] at hb; exact haf hb
  show Seg _ A _ _ _ s₀ _ ((compTurn (.GeneratorExp elt [⟨tg, iter, ifs, 0⟩] scope pos) 0 (.ref it) .none (gEnv X scope C code)).onRaise (leaving (gEnv X scope C code))) [] s
  rw [compTurn_gen, Sem.onRaise_eq_wrap]
  refine seg_bind_wrap (wpAny_standAt ?_)
  rcases turn i m ys H w with ⟨stop, fin⟩ | ⟨goes, Nx, hNx, step⟩
  · refine seg_bind_wrap (thn (T.done (genCx X A sc H1 scope C code fp) rfl rfl rfl rfl i _ s _ H _ I (okfp I nfp) st stop) ?_)
    rintro r1 s1 ⟨rfl, I1⟩
    refine seg_end (.ok .next) (.inl ⟨.inr rfl, H, ys, acc, c, I1.os, I1.bare, I1.base, I1.hok, ?_⟩)
    obtain ⟨p1, p2, _⟩ := I1.pin (S, lstObj acc c) (List.mem_append_right _ List.mem_cons_self)
    refine ⟨p2, p1, r, ?_, fin⟩
    omega
  · refine seg_bind_wrap (thn (T.item (genCx X A sc H1 scope C code fp) rfl rfl rfl rfl i _ s _ H _ I (okfp I nfp) st goes) ?_)
    rintro r1 s1 ⟨u, rfl, h1⟩
    refine seg_bind_wrap (thn h1 ?_)
    rintro _ s2 ⟨x, H2, I2, r2, y2, st2, n2⟩
    have J2 := I2.pinned (okfp I2 n2) (T.obj _ _ st2)
    refine seg_bind_wrap (wpAny_mono (PGt.run _ s2 _ H2 x u _ J2 r2 (step x H2 y2)) ?_ (fun _ _ z => (show False from z).elim))
    rintro _ s3 ⟨σ3, H3, I3, hw3, q3⟩
    refine seg_bind_wrap (wpAny_mono (PTt.run _ s3 σ3 H3 _ I3 q3) ?_ (fun _ _ z => (show False from z).elim))
    rintro b s4 ⟨H4, I4, q4⟩
    have len3 : (wipe σ0 vs).length = σ3.length := by rw [← hw3, wipe_length]
    have stay : ∀ {ac : Array Value} {cc : Nat} {s' : Shared} {H' : Hp}, Inv (genCx X A sc H1 scope C code fp) ((S, lstObj ac cc) :: ([(a, go)] ++ pinsAt fp s2.heap)) σ3 H' s' →
        Inv (genCx X A sc H1 scope C code fp) ((S, lstObj ac cc) :: [(a, go)]) (wipe σ0 vs) H' s' ∧ tn (i + 1) s'.heap ∧ (∀ b ∈ fp, H' b = none) := by
      intro ac cc s' H' K
      have pinned : ∀ b ∈ fp, ∀ o, s2.heap.get? b = some o → s'.heap.get? b = some o ∧ H' b = none := fun b hb o e =>
        let z := K.pin (b, o) (List.mem_append_right _ (List.mem_cons_of_mem _ (List.mem_append_right _ (mem_pinsAt hb e)))); ⟨z.1, z.2.1⟩
      have K' : Inv (genCx X A sc H1 scope C code fp) (((S, lstObj ac cc) :: [(a, go)]) ++ pinsAt fp s2.heap) σ3 H' s' := K
      refine ⟨(K'.unpinned).weak len3 (fun j v e => ?_), T.keep _ _ _ st2 fun b hb o e => (pinned b hb o e).1, fun b hb => ?_⟩
      · rw [← hw3] at e; exact (wipe_some e).1
      · obtain ⟨o, e, _⟩ := T.obj _ _ st2 b hb
        exact (pinned b hb o e).2
    cases b with
    | false =>
      simp only [Bool.false_eq_true, if_false] at q4 ⊢
      obtain ⟨m', lt, w'⟩ := hNx _ _ q4
      obtain ⟨I5, st5, n5⟩ := stay (ac := acc) (cc := c) I4
      exact seg_again rfl (ih m' lt n (i + 1) ys H4 s₀ s4 hn w' ⟨acc, c, r, I5⟩ st5 n5)
    | true =>
      simp only [if_true] at q4 ⊢
      have hy : ∀ v, yieldOut (gEnv X scope C code) v = yieldValue v := fun v => by
        have e : (gEnv X scope C code).scope.isCoroutine = false := co
        simp only [yieldOut, e, Bool.false_eq_true, if_false]
      simp only [hy]
      rw [Sem.bind_eq_wrap', Sem.bind_eq_wrap', Sem.wrap_wrap, Sem.wrap_wrap]
      refine seg_wrap (wpAny_mono (PEt.run _ s4 σ3 H4 _ I4 q4) ?_ (fun _ _ z => (show False from z).elim))
      rintro v s5 ⟨yv, H5, I5, r5, lt5, nx⟩
      obtain ⟨m', lt, w'⟩ := hNx _ _ nx
      obtain ⟨n', rfl⟩ : ∃ n', n = n' + 1 := ⟨n - 1, by omega⟩
      refine seg_at (seg_yield rfl rfl rfl ?_)
      have I5' : Inv (genCx X A sc H1 scope C code fp) ((S, lstObj acc c) :: ([(a, go)] ++ pinsAt fp s2.heap)) σ3 H5 s5 := I5
      have pS := I5'.pin (S, lstObj acc c) (List.mem_append_right _ List.mem_cons_self)
      have pa := I5'.pin (a, go) (List.mem_append_right _ (List.mem_cons_of_mem _ List.mem_cons_self))
      have lenA : ys.length = acc.size := by have := r.length; simpa using this
      refine ⟨I5.os, I5.bare, I5.nolimit, hgo _ pa.1, ⟨acc, c, pS.1, by rw [← lenA]; omega⟩, fun s' z => ?_⟩
      have hip : ∀ p ∈ [(a, go)] ++ pinsAt fp s2.heap, p.1 ≠ S := by
        intro p hp
        rcases List.mem_append.mp hp with e | e
        · rw [List.mem_singleton.mp e]; exact hSa.symm
        · exact fun q => hSf (q ▸ (of_pinsAt e).1)
      have G6 : GI (genCx X A sc H1 scope C code fp) S ([(a, go)] ++ pinsAt fp s2.heap) (ys ++ [yv]) σ3 H5 s' :=
        GI.woken (fun p hp => absurd (show p ∈ ([] : List (Addr × Obj)) from hp) (by simp)) hip hAp ⟨acc, c, r, I5'⟩ r5 z
      obtain ⟨acc', c', r6, I6⟩ := G6
      obtain ⟨I7, st7, n7⟩ := stay I6
      exact seg_again rfl (ih m' lt n' (i + 1) (ys ++ [yv]) H5 s' s' (by rw [List.length_append, List.length_singleton]; omega) w' ⟨acc', c', r6, I7⟩ st7 n7)
end
end Y

set_option Elab.async false
set_option linter.all false
set_option maxRecDepth 100000
set_option maxHeartbeats 4000000
namespace Y
open PySem PySem.Spec L2 LamX

/-- all but tables stay, nothing goes, the tables are right -/
structure Grows (T : List (Addr × Str)) (H H' : Hp) : Prop where
  ext : ExtN H H'
  dom : ∀ b, H' b = none → H b = none
  tabs : Tabs T H'
theorem Grows.refl {T : List (Addr × Str)} {H : Hp} (h : Tabs T H) : Grows T H H := ⟨ExtN.refl H, fun _ q => q, h⟩

section
variable {X : Cx} {pins : List (Addr × Obj)} {σ : St} {H : Hp} {s : Shared}
/-- the code object of a generator expression, made or found -/
theorem gen_code {T : List (Addr × Str)} {c P : Addr} {scope : Scope} {pos : Pos} {E : Value → Shared → Prop} {Q : Value → Shared → Prop}
    (I : Inv X pins σ H s) (TB : TabB X.base X.mg c P) (hcode : X.env.code = .ref c)
    (hm : (P, X.env.qual ++ "<genexpr>") ∈ T) (hu : ∀ p ∈ T, p.1 = P → p.2 = X.env.qual ++ "<genexpr>") (hT : Tabs T H)
    (h : ∀ (code : Value) (H1 : Hp) (s' : Shared), Inv X pins σ H1 s' → Grows T H H1 → (∀ b o, b ≠ P → s.heap.get? b = some o → s'.heap.get? b = some o) → s.heap.objs.size ≤ s'.heap.objs.size →
      (∀ b, b < s.heap.objs.size → H b = none → H1 b = none) → H P ≠ none → Q code s') :
    wpAny (model X.prog X.w) X.A (genexprCode X.env pos (X.env.qual ++ "<genexpr>") scope) Q E s := by
  obtain ⟨ps, tabP, okP, named⟩ := hT _ hm
  have rawP : s.heap.get? P = some { cls := .none, data := .fields ps } := I.hok P _ tabP
  have hd : PySem.W.CodeHd s.heap c P := TB.code.keeps I.bk
  have some' : H P ≠ none := by rw [tabP]; simp
  cases hc : codeAmong pos ps.toList with
  | some cv => exact wpAny_genexprCode_hit hcode (hd.code rawP okP) hc (h cv H s I (Grows.refl hT) (fun _ _ _ e => e) (Nat.le_refl _) (fun _ _ e => e) some')
  | none =>
    refine wpAny_genexprCodeX hcode (hd.code rawP okP) (hd.tab rawP) hc ?_
    intro c' h' tk hx hge hlt hco hrec htab _
    obtain ⟨c2, oc, vs, t, e2, hoc, hdat, hv⟩ := hrec
    cases e2
    obtain ⟨o1, v1, f1, tf, fl, tg, inF, tx, tt, op, _, _, _, _, _, _, _, _, _, htr, _⟩ := hco
    have nC : H c' = none := I.hok.fresh hge
    have J := inv_table (t' := tk) (more := #[rawInt pos.line, rawInt pos.col, .ref c']) (h' := h') I tabP (fun b o hb e => hx b o hb e) htab.2 hge ⟨oc, vs, t, hoc, hdat, hv⟩
    have toL : (ps ++ #[rawInt pos.line, rawInt pos.col, .ref c']).toList = ps.toList ++ [rawInt pos.line, rawInt pos.col, .ref c'] := by simp
    have hE : ExtN H (upd (upd H P (.tbl (ps ++ #[rawInt pos.line, rawInt pos.col, .ref c']))) c' (CodeO c' (X.env.qual ++ "<genexpr>"))) := by
      intro b o e n
      have n1 : b ≠ c' := ne_of_none e nC
      have n2 : b ≠ P := fun z => n ps (by rw [z, tabP] at e; exact (Option.some.inj e).symm)
      rw [upd_ne n1, upd_ne n2]; exact e
    refine h _ _ _ J ⟨hE, fun b hb => ?_, fun p hp => ?_⟩ (fun b o hb e => hx b o hb e) (Nat.le_trans hge (Nat.le_of_lt hlt)) (fun b lt e => ?_) some'
    · by_cases z1 : b = c'
      · rw [z1]; exact nC
      · rw [upd_ne z1] at hb
        by_cases z2 : b = P
        · rw [z2, upd_same] at hb; cases hb
        · rw [upd_ne z2] at hb; exact hb
    · by_cases hb : p.1 = P
      · rw [hu p hp hb, hb]
        refine ⟨_, by rw [upd_ne (ne_of_none tabP nC), upd_same], htr, ?_⟩
        intro p' cv hcv
        rw [toL] at hcv
        rcases among_app _ okP hcv with z | z
        · obtain ⟨c0, e1, e3⟩ := named p' cv z
          exact ⟨c0, e1, hE _ _ e3 codeO_ne⟩
        · exact ⟨c', z, upd_same⟩
      · obtain ⟨ps', a1, a2, a3⟩ := hT p hp
        refine ⟨ps', by rw [upd_ne (ne_of_none a1 nC), upd_ne hb]; exact a1, a2, ?_⟩
        intro p' cv hcv
        obtain ⟨c0, e1, e3⟩ := a3 p' cv hcv
        exact ⟨c0, e1, hE _ _ e3 codeO_ne⟩
    · have n1 : b ≠ c' := Nat.ne_of_lt (Nat.lt_of_lt_of_le lt hge)
      have n2 : b ≠ P := fun z => by rw [z, tabP] at e; cases e
      rw [upd_ne n1, upd_ne n2]; exact e
end

/-- a generator expression's scope -/
structure GxOk (scope : Scope) : Prop where
  co : scope.isCoroutine = false
  nocell : ∀ y ∈ scope.names, y.2 ≠ .cell
  dot : scope.names.lookup (".0" : Str) = some NameKind.local
def gxC (scope : Scope) : Bool := !scope.isCoroutine && scope.names.all (fun y => !decide (y.2 = .cell)) && decide (scope.names.lookup (".0" : Str) = some NameKind.local)
theorem gxOk_by {scope : Scope} (h : gxC scope = true) : GxOk scope := by
  unfold gxC at h
  simp only [Bool.and_eq_true, Bool.not_eq_true', decide_eq_true_eq, List.all_eq_true, decide_eq_false_iff_not] at h
  exact ⟨h.1.1, h.1.2, h.2⟩

def tGen (T : List (Addr × Str)) (wi : TI) (g : TG) (tt : TT) (te : TE) (vs : List Nat) : TGen := fun σ H cont =>
  wi σ H fun J H1 => Tabs T H1 ∧ ∀ H2, Grows T H1 H2 → tGx wi g tt te vs J H2 σ cont

section
variable {X : Cx}
theorem pgen_gx {T : List (Addr × Str)} {c P : Addr} {k : Nat} {elt tg iter : Expr} {ifs : List Expr} {scope : Scope} {own : List (Str × Nat)} {pos : Pos} {wi : TI} {g : TG} {tt : TT} {te : TE} {EX : XK}
    (hr : Room k X.A) (TB : TabB X.base X.mg c P) (hcode : X.env.code = .ref c) (hm : (P, X.env.qual ++ "<genexpr>") ∈ T) (hu : ∀ p ∈ T, p.1 = P → p.2 = X.env.qual ++ "<genexpr>")
    (nd : X.N.Nodup) (hi : PI X tg iter wi) (ok : BlkOk X.N X.env.scope scope own) (gx : GxOk scope)
    (hg : ∀ A sc H C code fp, Room k (Around.deeper A (gEnv X scope C code)) → PG (genCx X A sc H scope C code fp) tg g)
    (ht : ∀ A sc H C code fp, Room k (Around.deeper A (gEnv X scope C code)) → PTs (genCx X A sc H scope C code fp) ifs tt)
    (he : ∀ A sc H C code fp, Room k (Around.deeper A (gEnv X scope C code)) → PE (genCx X A sc H scope C code fp) elt te)
    (hs : ∀ x, genFold iter X.env x = pure x := by intro _; rfl) :
    PGen X (k + 1) (.GeneratorExp elt [⟨tg, iter, ifs, 0⟩] scope pos) (tGen T wi g tt te (own.map (·.2))) EX := by
  refine ⟨fun pins s σ H cont I h => ?_⟩
  have capt : ∀ y ∈ scope.names, y.2 = .free → ∃ c, X.env.cells.lookup y.1 = some c := fun y hy e =>
    (ok.free y hy e).elim (fun k => I.ok.has _ (.inl k)) (fun k => I.ok.has _ (.inr k))
  have room : X.A.depth < recursionLimit := by have := hr.dp; omega
  refine wpAny_GeneratorExp_make gx.co (closure_ok capt) gx.nocell gx.dot ok.kind room (thn (hi.run pins s σ H _ I h) ?_) hs
  intro xv s1 hx
  refine thn hx ?_
  rintro itv s2 ⟨it, fp, tn, J, H2, rfl, I2, Tn, st2, f2, hT, q⟩
  have small : ∀ b ∈ fp, b < s2.heap.objs.size := fun b hb => let ⟨_, e, _⟩ := Tn.obj _ _ st2 b hb; Heap.lt_size e
  refine ⟨I2.nolimit, gen_code I2 TB hcode hm hu hT ?_⟩
  intro code H3 s3 I3 gr k3 sz3 nn hP
  have st3 : tn 0 s3.heap := Tn.keep _ _ _ st2 fun b hb o e => k3 b o (fun z => hP (by rw [← z]; exact (f2 b hb).1)) e
  have f3 : ∀ b ∈ fp, FpOk X pins H3 b ∧ b < s3.heap.objs.size := fun b hb => ⟨⟨nn b (small b hb) (f2 b hb).1, (f2 b hb).2⟩, Nat.lt_of_lt_of_le (small b hb) sz3⟩
  obtain ⟨bm, ob, e1, e2, e3, e4, e5, e6, e7, e8⟩ := TB.bm
  refine PySem.wpAny_builtinsFor (m := X.mg) (by rw [I3.ok.glob]; exact I3.mod.glob.keeps I3.bk) e1 e2 (I3.bk _ _ e5) e6 e7 e8 ?_
  intro h' hn' hs'
  -- what stands behind the making
  obtain ⟨go, ego⟩ : ∃ go : Obj, go = { cls := .type "generator", data := .fields #[.int s3.gens.size 0, .str "<genexpr>" (s3.toks + 1), .str (X.env.qual ++ "<genexpr>") (s3.toks + 1 + 1)] } := ⟨_, rfl⟩
  rw [← ego]
  have hsz : h'.objs.size = s3.heap.objs.size + 1 := by rw [hs'.1, Heap.size_push]
  have kf : ∀ b o, s3.heap.get? b = some o → h'.get? b = some o := fun b o e => hs'.extBut b o (Nat.ne_of_lt (Heap.lt_size e)) (Heap.get?_push_of_some _ e)
  have kp : ∀ b o, s3.heap.get? b = some o → (h'.push go).get? b = some o := fun b o e => Heap.get?_push_of_some _ (kf b o e)
  have hgo : (h'.push go).get? h'.objs.size = some go := by rw [ego]; exact Heap.get?_push_size _ rfl
  have isgen : ∀ h : Heap, h.get? h'.objs.size = some go → h.IsGen h'.objs.size s3.gens.size := fun h e => ⟨go, _, _, e, by rw [ego], by rw [ego], by rw [ego]⟩
  have bare' : PyProof.Rows.AllBare (s3.gens.push (.fresh (.compStart (.GeneratorExp elt [⟨tg, iter, ifs, 0⟩] scope pos) 0 (.ref it) .none (genEnv scope (cloFrom X.env.cells scope.names []) s3.heap.objs.size code builtinsNs X.env)))) := PyProof.Rows.AllBare.push I3.bare rfl
  refine ⟨H3, s3, fp, I3, fun b hb => ⟨(f3 b hb).1.2.2.2.1, (f3 b hb).1.2.1, (f3 b hb).1.2.2.2.2.1, (f3 b hb).1.2.2.2.2.2⟩, h'.objs.size, s3.gens.size, _, rfl, by omega, by rw [Heap.size_push]; exact Nat.lt_succ_self _, isgen _ hgo, Array.getElem?_push_size .., rfl, bare', I3.nolimit.keeps kp, kp, ?_⟩
  intro A S s5 hrw hfr hS hk5 hSo hos hba
  have hSz : h'.objs.size < S := by
    have : (h'.push go).objs.size ≤ S := hS
    rw [Heap.size_push] at this
    exact this
  have hC : s3.heap.objs.size < h'.objs.size := by omega
  have kp5 : ∀ b o, s3.heap.get? b = some o → s5.heap.get? b = some o := fun b o e => hk5 b o (kp b o e)
  have hn5 : s5.heap.Ns s3.heap.objs.size (fun y => if y = ".0" then some (.ref it) else none) := (hn'.push go).keeps hk5
  have deep : Room k (A.deeper (gEnv X scope s3.heap.objs.size code)) := hrw.deeper _
  have I5 := gen_start (A := A) (code := code) (C := s3.heap.objs.size) I3 ok gx.nocell nd hrw.hd hfr f3 (Nat.le_refl _) kp5 hn5 hos hba
  have st5 : tn 0 s5.heap := Tn.keep _ _ _ st3 fun b _ o e => kp5 b o e
  obtain ⟨cS, heS⟩ := hSo
  have hea : s5.heap.get? h'.objs.size = some go := hk5 _ _ hgo
  have young : ∀ b, s3.heap.objs.size < b → H3 b = none ∧ b ≠ s3.heap.objs.size ∧ b ∉ frs X.stack ∧ s3.heap.objs.size ≤ b ∧ (∀ y c, (cloFrom X.env.cells scope.names []).lookup y = some c → c ≠ b) ∧ b ∉ fp := by
    intro b hb
    refine ⟨I3.hok.fresh (Nat.le_of_lt hb), Nat.ne_of_gt hb, fun hm => ?_, Nat.le_of_lt hb, fun y c e z => ?_, fun hm => Nat.lt_irrefl _ (Nat.lt_trans hb (f3 b hm).2)⟩
    · rcases List.mem_cons.mp (I3.stkSub b hm) with z | z
      · have := I3.lt
        rw [← z] at this
        exact Nat.lt_irrefl _ (Nat.lt_trans hb this)
      · exact I3.nofs (Nat.le_of_lt hb) z
    · obtain ⟨v, q5⟩ := I5.cell y c e
      rcases cloFrom_mem (PySem.mem_of_lookup e) with hm' | ⟨h1, h2⟩
      · cases hm'
      · obtain ⟨c1, hc1⟩ := capt _ h1 rfl
        have hc1 : X.env.cells.lookup y = some c1 := hc1
        have ec : c = c1 := by
          rw [h2, hc1] <;> rfl
        obtain ⟨v2, o2, ho2, _⟩ := I3.cell y c1 hc1
        have := Heap.lt_size ho2
        rw [← ec, z] at this
        exact Nat.lt_irrefl _ (Nat.lt_trans hb this)
  obtain ⟨a1, a2, a3, a4, a5, a6⟩ := young h'.objs.size hC
  obtain ⟨b1, b2, b3, b4, b5, b6⟩ := young S (Nat.lt_trans hC hSz)
  have G5 : GI (genCx X A s3 H3 scope s3.heap.objs.size code fp) S [(h'.objs.size, go)] [] (wipe σ (own.map (·.2))) H3 s5 := by
    refine ⟨#[], cS, .nil, I5.pins_of fun p hp => ?_⟩
    have hp : p ∈ [(S, lstObj #[] cS), (h'.objs.size, go)] := hp
    rcases List.mem_cons.mp hp with z | z
    · rw [z]; exact ⟨heS, b1, b2, b3, fun v q => by cases q⟩
    · rw [List.mem_singleton.mp z]; exact ⟨hea, a1, a2, a3, fun v q => by rw [ego] at q; cases q⟩
  have hAp : Apart (genCx X A s3 H3 scope s3.heap.objs.size code fp) S := ⟨b4, b2, b5⟩
  obtain ⟨W, ⟨m0, w0⟩, turn⟩ := q H3 gr
  have loop := fun s₀ => gen_seg (EX := EX) (σ0 := σ) Tn (hg A s3 H3 s3.heap.objs.size code fp deep) (ht A s3 H3 s3.heap.objs.size code fp deep) (he A s3 H3 s3.heap.objs.size code fp deep) gx.co (Nat.ne_of_gt hSz) b6 a6 hAp isgen turn m0 sizeLine 0 [] H3 s₀ s5 (by simp) w0 G5 st5 (fun b hb => (f3 b hb).1.1) (iter := iter) (pos := pos)
  show Seg _ A _ _ _ s5 _ ((compStart (.GeneratorExp elt [⟨tg, iter, ifs, 0⟩] scope pos) 0 (.ref it) .none (gEnv X scope s3.heap.objs.size code)).onRaise (leaving (gEnv X scope s3.heap.objs.size code))) [] s5
  unfold compStart
  rw [Sem.onRaise_eq_wrap]
  show Seg _ A _ _ _ s5 _ ((ask >>= _).wrap _ _ _ _) [] s5
  refine seg_bind_wrap (wpAny_askSetting ?_)
  split
  · exact seg_again rfl (loop s5)
  · refine seg_bind_wrap (wpAny_rule ?_)
    show Seg _ A _ _ _ s5 _ ((standAt iter.pos >>= _).wrap _ _ _ _) [] s5
    exact seg_bind_wrap (wpAny_standAt (seg_bind_wrap (Tn.self _ 0 s5 _ _ st5 (seg_again rfl (loop s5)))))
end
end Y

set_option Elab.async false
set_option linter.all false
set_option maxRecDepth 100000
set_option maxHeartbeats 4000000
namespace Y
open PySem PySem.Spec L2 LamX
open PyProof.Rows (AllBare)

section
variable {P : Program} {w : World} {outer : List Env} {H : Hp} {sc s : Shared} {ex : List Addr} {Q : List V → Hp → Prop} {EX : XK} {A : Around} {k : Nat} {u : Value} {E : Value → Shared → Prop}
/-- all items of a generator that has not begun -/
theorem collect_new {Q' : List Value → Shared → Prop} (hr : Room (k + 2) A) (hfr : A.frames = some outer) (h : GMade P w k outer H sc ex Q EX u s)
    (hQ : ∀ s' acc H' ys, Vals ys acc → ys.length ≤ sizeLine → s'.os = sc.os → AllBare s'.gens → Un (frs outer) ex H H' sc.heap s'.heap → HOk P w H' s'.heap → Q ys H' → Q' acc s')
    (hexc : ∀ e s' g, CX P w outer H sc EX e s' → NotStop (model P w) e s'.heap ∧ E e (s'.setGen g .finished)) :
    wpAny (model P w) A (collect u) Q' E s := by
  obtain ⟨a, g, c, rfl, ha1, ha2, hg, hgs, hos, hb, hl, hkp, wake⟩ := h
  have hSa : s.heap.objs.size ≠ a := Nat.ne_of_gt ha2
  have hcl : cStatics < s.heap.objs.size := let ⟨_, hn, _⟩ := hl; hn.lt
  have hSc : s.heap.objs.size ≠ cStatics := Nat.ne_of_gt hcl
  unfold collect
  refine wpAny_bind (wpAny_runValue (codeAny_builtin F.entry_proto_collect ?_))
  rw [Around.under_plainId F.plain_proto_collect _]
  show wpAny _ A.in1 (newList [] >>= fun l => again (.builtin "list.__iadd__" ⟨[l, .ref a], []⟩)) _ _ s
  refine wpAny_bind (wpAny_newObj_type ?_)
  refine wpAny_pure ⟨plainId_quiet F.plain_list_iadd _, codeAny_builtin F.entry_list_iadd ?_⟩
  rw [Around.under_plainId F.plain_list_iadd _]
  have k1 : ∀ b o, s.heap.get? b = some o → (s.heap.push { cls := .type "list", data := .seq ([] : List Value).toArray }).get? b = some o := fun b o e => Heap.get?_push_of_some _ e
  have up : ∀ (h : Heap) (f : Obj → Obj), (∀ b o, s.heap.get? b = some o → h.get? b = some o) → ∀ b o, s.heap.get? b = some o → (h.update s.heap.objs.size f).get? b = some o := fun h f q b o e =>
    (Heap.get?_update_other _ _ (Ne.symm (Nat.ne_of_lt (Heap.lt_size e)))).trans (q b o e)
  have gty : ∀ {h : Heap}, (∀ b o, s.heap.get? b = some o → h.get? b = some o) → h.IsGen a g := fun {h} q => hg.keeps q
  show wpAny _ A.in1 (Builtin.List.listExtendWith (.ref s.heap.objs.size) (.ref a) (.ref s.heap.objs.size)) _ _ _
  unfold Builtin.List.listExtendWith
  refine wpAny_bind (wpAny_typeOf (Heap.IsGen.typeIs (s := { s with heap := _ }) (gty k1)) ?_)
  have n1 : Builtin.List.listSameRef (.ref s.heap.objs.size) (.ref a) = false := by simp [Builtin.List.listSameRef, hSa]
  have n2 : (Value.type "generator" == Value.type "list") = false := by decide
  have n3 : (Value.type "generator" == Value.type "tuple") = false := by decide
  simp only [n1, n2, n3, Bool.or_false, Bool.false_eq_true, if_false]
  refine wpAny_bind (wpAny_pyIter_gen (s := { s with heap := _ }) (gty k1) ?_)
  refine wpAny_bind (wpAny_holding ?_)
  unfold Builtin.List.listLengthHint
  refine wpAny_bind (wpAny_specialOf (Heap.IsGen.typeIs (s := { s with heap := _ }) (gty k1)) F.gen_no_len ?_)
  show wpAny _ A.in1 (specialOf (Value.ref a) (Str.ofString "__length_hint__") >>= _) _ _ _
  refine wpAny_bind (wpAny_specialOf (Heap.IsGen.typeIs (s := { s with heap := _ }) (gty k1)) F.gen_no_hint ?_)
  refine wpAny_pure ?_
  show wpAny _ A.in1 (rule "list.extend.makes-room" >>= fun _ => Builtin.List.listTouch (.ref s.heap.objs.size) >>= fun _ =>
    again (.builtin "list.extend.loop" ⟨[.ref s.heap.objs.size, .ref a, .ref s.heap.objs.size], []⟩)) _ _ _
  refine wpAny_bind (wpAny_rule ?_)
  have hS1 : (s.heap.push { cls := .type "list", data := .seq ([] : List Value).toArray }).get? s.heap.objs.size = some { cls := .type "list", data := .seq ([] : List Value).toArray } := Heap.get?_push_size _ rfl
  refine wpAny_bind ?_
  show wpAny _ A.in1 (updateSeq s.heap.objs.size (·.push .none) >>= fun _ => updateSeq s.heap.objs.size (·.pop)) _ _ _
  refine wpAny_bind (wpAny_updateSeq hS1 rfl ?_)
  have hS2 := Heap.get?_update_self (Obj.mapSeq (·.push Value.none)) hS1 rfl
  refine wpAny_updateSeq hS2 rfl ?_
  have hS3 := Heap.get?_update_self (Obj.mapSeq (·.pop)) hS2 rfl
  have k3 := up _ (Obj.mapSeq (·.pop)) (up _ (Obj.mapSeq (·.push Value.none)) k1)
  refine wpAny_pure ⟨plainId_quiet F.plain_extend_loop _, ?_⟩
  refine drain (P := P) (w := w) (outer := outer) (H := H) (sc := sc) (ex := ex) (Q := Q) (EX := EX) (A := A) (g := g) hr.hd (by have := hr.dp; show A.depth < _; omega) hSa hSc ?_ ?_ sizeLine _ (gty k3) (hl.keeps k3) ⟨_, hgs, rfl, ?_⟩
  · intro s' acc c H' ys q1 q2 q3 q4 q5 q6 q7 q8 q9
    show wpAny _ A (load s.heap.objs.size >>= _) _ _ s'
    refine wpAny_bind (wpAny_load q1 ?_)
    exact wpAny_pure (hQ s' acc.toList H' ys q2 q3 q4 q5 q6 q7 q9)
  · intro e s' hc
    exact hexc e s' g hc
  · refine wake _ _ _ ⟨hr.hd, ?_, ?_⟩ hfr (Nat.le_refl _) k3 ⟨_, hS3⟩ hos (L2.allBare_setGen (s := { s with heap := _ }) hb rfl)
    · have := hr.dp
      show A.depth + 3 * k + 5 < _
      omega
    · have := hr.un
      show A.units + 1 + 1 + 16 * k + 200 < _
      omega
end
end Y

set_option Elab.async false
set_option linter.all false
set_option maxRecDepth 100000
set_option maxHeartbeats 4000000
namespace Y
open PySem PySem.Spec L2 LamX
open PyProof.Rows (AllBare)

section
variable {P : Program} {w : World} {outer : List Env} {H : Hp} {sc s : Shared} {ex : List Addr} {Q : List V → Hp → Prop} {EX : XK} {A : Around} {k : Nat} {u : Value} {E : Value → Shared → Prop}
theorem code_tuple_newG {a : Addr} {Q₁ : Value → Shared → Prop} (hr : Room (k + 2) A.in1) (hfr : A.in1.frames = some outer) (h : GMade P w k outer H sc ex Q EX (.ref a) s)
    (hQ : ∀ (s' : Shared) (acc : List Value) (H' : Hp) (ys : List V), Vals ys acc → ys.length ≤ sizeLine → s'.os = sc.os → AllBare s'.gens → Un (frs outer) ex H H' sc.heap s'.heap → HOk P w H' s'.heap → Q ys H' →
      Q₁ (.ref s'.heap.objs.size) { s' with heap := s'.heap.push { cls := .type "tuple", data := .seq acc.toArray } })
    (hexc : ∀ (e : Value) (s' : Shared) (g : Nat), CX P w outer H sc EX e s' → NotStop (model P w) e s'.heap ∧ E e (s'.setGen g .finished)) :
    codeAny (model P w) A (.call (.builtin "tuple.__new__") ⟨[.type "tuple", .ref a], []⟩) (wants Q₁ E) s := by
  refine codeAny_of_tree ?_
  show wpAny _ A.in1 (do checkBuiltinCall "tuple.__new__" ⟨[.type "tuple", .ref a], []⟩; again (.builtin "tuple.__new__" ⟨[.type "tuple", .ref a], []⟩)) _ _ s
  refine wpAny_bind (wpAny_of_eq (F.newCall_tuple_1 _) (wpAny_pure ⟨plainId_quiet F.plain_tuple_new _, codeAny_builtin F.entry_tuple_new ?_⟩))
  rw [Around.under_plainId F.plain_tuple_new _]
  have hsub := sub_tuple_self
  have hinit := init_tuple_lookup
  have hmh := madeHere_tuple
  have hTI : s.TypeIs (.ref a) "generator" := by
    obtain ⟨a', g, c, e, _, _, hg, _⟩ := id h
    cases e
    exact Heap.IsGen.typeIs hg
  wp_walk using wpAny_typeOf hTI, collect_new hr hfr h
  · intro s' acc H' ys q1 q2 q3 q4 q5 q6 q7
    show wpAny _ _ (Builtin.Tuple.tupleExact acc.toArray >>= fun v => ret v) _ _ _
    unfold Builtin.Tuple.tupleExact
    have hl := q1.length
    refine wpAny_bind (wpAny_newObj_type ?_ (by show acc.toArray.size ≤ sizeLine; simp; omega))
    exact wpAny_pure (hQ s' acc H' ys q1 q2 q3 q4 q5 q6 q7)
  all_goals exact hexc
theorem call_tuple_newG {Q₁ : Value → Shared → Prop} (hr : Room (k + 4) A) (hfr : A.frames = some outer) (h : GMade P w k outer H sc ex Q EX u s)
    (hQ : ∀ (s' : Shared) (acc : List Value) (H' : Hp) (ys : List V), Vals ys acc → ys.length ≤ sizeLine → s'.os = sc.os → AllBare s'.gens → Un (frs outer) ex H H' sc.heap s'.heap → HOk P w H' s'.heap → Q ys H' →
      Q₁ (.ref s'.heap.objs.size) { s' with heap := s'.heap.push { cls := .type "tuple", data := .seq acc.toArray } })
    (hexc : ∀ (e : Value) (s' : Shared) (g : Nat), CX P w outer H sc EX e s' → NotStop (model P w) e s'.heap ∧ E e (s'.setGen g .finished)) :
    wpAny (model P w) A (call (.type "tuple") [u]) Q₁ E s := by
  obtain ⟨a, rfl⟩ : ∃ a, u = .ref a := let ⟨a, _, _, e, _⟩ := h; ⟨a, e⟩
  refine callType_codes (Q₁ := fun obj s₁ => s₁.TypeIs obj "tuple" ∧ Q₁ obj s₁) F.called_tuple (F.typeCall_tuple_1 _) F.entry_object_init
    (code_tuple_newG (k := k) ⟨hr.hd, ?_, ?_⟩ hfr h (fun s' acc H' ys q1 q2 q3 q4 q5 q6 q7 => ⟨⟨_, Heap.get?_push_size _ rfl, rfl⟩, hQ s' acc H' ys q1 q2 q3 q4 q5 q6 q7⟩) hexc) ?_
  · have := hr.dp
    show A.depth + 3 * (k + 2) + 5 < _
    omega
  · have := hr.un
    show A.units + 1 + 1 + 16 * (k + 2) + 200 < _
    omega
  · intro obj s₁ h₁
    exact ⟨h₁.1, F.args_object_init_2 obj _, object_init_meets F.called_tuple.init.lookup F.called_tuple.made (by decide) P w A.in1 _ s₁ ⟨h₁.1, rfl, h₁.2⟩⟩
end

section
variable {X : Cx} {k : Nat} {p pos : Pos}
/-- behind the draining: a new tuple is tracked -/
theorem drainedT {pins : List (Addr × Obj)} {σ : St} {H H' : Hp} {sc s' : Shared} {ex : List Addr} {acc : List Value} {out : List V} (I : Inv X pins σ H sc) (hlen : out.length ≤ sizeLine) (r : Vals out acc)
    (hex : ExOk X pins ex) (os : s'.os = sc.os) (hb : AllBare s'.gens) (un : Un (frs X.stack) ex H H' sc.heap s'.heap) (hok : HOk X.prog X.w H' s'.heap) :
    Inv X pins σ (upd H' s'.heap.objs.size (.tup out)) { s' with heap := s'.heap.push { cls := .type "tuple", data := .seq acc.toArray } } := by
  have J : Inv X pins σ H' s' := I.call' (ch := ex) os un hok hb hex
  have e0 : (s'.heap.push { cls := .type "tuple", data := .seq acc.toArray }).get? s'.heap.objs.size = some { cls := .type "tuple", data := .seq acc.toArray } := Heap.get?_push_size _ rfl
  exact J.laid (t' := s'.toks) (fun b o e => Heap.get?_push_of_some _ e) (Nat.le_refl _) ⟨hlen, acc, r, _, e0, rfl, _, rfl⟩
def tTupG (tg : TGen) : TE := fun σ H Q => tg σ H fun out H2 => ∀ p, H2 p = none → Q (.ref p) (upd H2 p (.tup out))
/-- no exception: what the consumer of a generator is told -/
theorem no_exc {P : Program} {w : World} {outer : List Env} {H : Hp} {s : Shared} {e : Value} {s' : Shared} (c : CX P w outer H s E0 e s') : False := by
  obtain ⟨_, _, _, _, _, _, _, _, _, _, _, _, z⟩ := c
  exact z.elim
/-- tuple(g) -/
theorem pe_tupG {e : Expr} {tg : TGen} (h : PGen X k e tg E0) (hr : Room (k + 4) X.A) (hg : Gl X "tuple") (hmg : X.mg "tuple" = none)
    (he : starEach [e] X.env = (false, eval e X.env) :: starEach [] X.env := by rfl) : PE X (.Call (.Name "tuple" p) [e] [] pos) (tTupG tg) := by
  refine ⟨fun pins s σ H Q I hq => ?_⟩
  refine wpAny_Call_Name_kw (ld_blt I hg hmg (by decide +kernel : bootBuiltins "tuple" = some (.type "tuple")) ?_ (by decide) (by decide))
  refine PyProof.Rows.callWith_type1 ?_ he rfl
  rw [he]
  show wpAny _ _ (spliced ((false, eval e X.env) :: backTo pos (starEach [] X.env))) _ _ s
  refine Calls.spliced_cons (thn (h.run pins s σ H _ I hq) ?_)
  rintro u s1 ⟨H1, sc, ex, I1, hex, hG⟩
  refine Calls.spliced_nil ?_
  refine call_tuple_newG hr I1.ok.frames hG ?_ (fun e s' g c => (no_exc c).elim)
  intro s' acc H' ys q1 q2 q3 q4 q5 q6 q7
  exact ⟨.ref s'.heap.objs.size, upd H' s'.heap.objs.size (.tup ys), drainedT I1 q2 q1 hex q3 q4 q5 q6, rfl, q7 _ (q6.fresh (Nat.le_refl _))⟩
end
end Y

set_option Elab.async false
set_option linter.all false
set_option maxRecDepth 100000
set_option maxHeartbeats 4000000
namespace Y
open PySem PySem.Spec L2 LamX
open PyProof.Rows (AllBare)

/-- the consumer has been at work: its object at S may have changed -/
structure Wrk (SS : List Addr) (s s' : Shared) : Prop where
  os : s'.os = s.os
  bare : AllBare s'.gens
  keep : ∀ b o, b ∉ SS → s.heap.get? b = some o → s'.heap.get? b = some o
  own : ∃ ps : List (Addr × Obj), ps.map (·.1) = SS ∧ ∀ p ∈ ps, s'.heap.get? p.1 = some p.2 ∧ ∀ v, p.2.data ≠ .cell v

/-- the state within X as it stands behind j items -/
def Mid (P : Program) (w : World) (outer : List Env) (H1 : Hp) (sc : Shared) (ex SS : List Addr) (R : Hp → Prop) (s : Shared) : Prop :=
  s.os = sc.os ∧ AllBare s.gens ∧ ∃ H', Un (frs outer) ex H1 H' sc.heap s.heap ∧ HOk P w H' s.heap ∧ (∀ S ∈ SS, H' S = none ∧ sc.heap.objs.size ≤ S) ∧ R H'

def YN (P : Program) (w : World) (outer : List Env) (H1 : Hp) (sc : Shared) (ex : List Addr) (SS : List Addr) (a : Addr) (g : Nat) (ys : List V) (out : Nat → Hp → Prop) : Protocol := fun n s₀ v s1 kap =>
  s1.heap.NoLimit ∧ s1.heap.IsGen a g ∧ (∀ b ∈ SS, ∀ o, s₀.heap.get? b = some o → s1.heap.get? b = some o) ∧
  (∃ j y, n + 1 + j = ys.length ∧ ys[j]? = some y ∧ RelV y v ∧ Mid P w outer H1 sc ex SS (out j) s1) ∧
  (∃ ps : List (Addr × Obj), ps.map (·.1) = SS ∧ ∀ p ∈ ps, s1.heap.get? p.1 = some p.2 ∧ ∀ v, p.2.data ≠ .cell v) ∧ ∀ s', Wrk SS s1 s' → kap (.send .none) s'
def RN (P : Program) (w : World) (outer : List Env) (H1 : Hp) (sc : Shared) (ex : List Addr) (SS : List Addr) (cont : Hp → Prop) : GenEnd := fun n s₀ r s1 =>
  ((r = .ok (.ret .none) ∨ r = .ok .next) ∧ (n = 0 ∧ (∀ b ∈ SS, ∀ o, s₀.heap.get? b = some o → s1.heap.get? b = some o) ∧ Mid P w outer H1 sc ex SS cont s1)) ∨ ∃ e, r = .error e ∧ False

/-- what a generator expression hands out when that is known: ys; out: behind each item, cont: behind all -/
def tGxN (wi : TI) (g : TG) (tt : TT) (te : TE) (vs : List Nat) (J : It) (H1 : Hp) (σ : St) (ys : List V) (out : Nat → Hp → Prop) (cont : Hp → Prop) : Prop :=
  ∃ W : Nat → Nat → Nat → Hp → Prop, (∃ m, W 0 m 0 H1) ∧ ∀ i m j H, W i m j H →
    (J.stop i H ∧ j = ys.length ∧ cont H) ∨ (J.go i H ∧ ∃ Nx : Nat → Hp → Prop, (∀ j' H', Nx j' H' → ∃ m', m' < m ∧ W (i + 1) m' j' H') ∧ ∀ x H', J.yld i H x H' → g x (wipe σ vs) H' fun σ2 H2 => wipe σ2 vs = wipe σ vs ∧ tt σ2 H2 fun b H3 =>
      if b = true then te σ2 H3 fun y H4 => ys[j]? = some y ∧ out j H4 ∧ Nx (j + 1) H4 else Nx j H3)

section
variable {X : Cx}
theorem gen_segN {A : Around} {sc : Shared} {H1 : Hp} {scope : Scope} {C : Addr} {code : Value} {fp : List Addr} {elt tg iter : Expr} {ifs : List Expr} {pos : Pos} {it a : Addr} {SS : List Addr} {g : Nat} {go : Obj} {tn : Nat → Heap → Prop} {J : It} {gT : TG} {tt : TT} {te : TE}
    {vs : List Nat} {ys : List V} {out : Nat → Hp → Prop} {cont : Hp → Prop} {σ0 : St} {W : Nat → Nat → Nat → Hp → Prop}
    (T : Turn X.prog X.w X.K tg J fp it tn) (PGt : PG (genCx X A sc H1 scope C code fp) tg gT) (PTt : PTs (genCx X A sc H1 scope C code fp) ifs tt) (PEt : PE (genCx X A sc H1 scope C code fp) elt te)
    (co : scope.isCoroutine = false) (hSa : a ∉ SS) (hSf : ∀ S ∈ SS, S ∉ fp) (haf : a ∉ fp) (hAp : ∀ S ∈ SS, Apart (genCx X A sc H1 scope C code fp) S ∧ S ∉ frs X.stack) (hgo : ∀ h : Heap, h.get? a = some go → h.IsGen a g)
    (turn : ∀ i m j H, W i m j H →
      (J.stop i H ∧ j = ys.length ∧ cont H) ∨ (J.go i H ∧ ∃ Nx : Nat → Hp → Prop, (∀ j' H', Nx j' H' → ∃ m', m' < m ∧ W (i + 1) m' j' H') ∧ ∀ x H', J.yld i H x H' → gT x (wipe σ0 vs) H' fun σ2 H2 => wipe σ2 vs = wipe σ0 vs ∧ tt σ2 H2 fun b H3 =>
        if b = true then te σ2 H3 fun y H4 => ys[j]? = some y ∧ out j H4 ∧ Nx (j + 1) H4 else Nx j H3)) :
    ∀ (m n i j : Nat) (H : Hp) (s₀ s : Shared) (ps : List (Addr × Obj)), ps.map (·.1) = SS → n + j = ys.length → W i m j H → Inv (genCx X A sc H1 scope C code fp) (ps ++ [(a, go)]) (wipe σ0 vs) H s → (∀ p ∈ ps, ∀ o', s₀.heap.get? p.1 = some o' → o' = p.2) → tn i s.heap → (∀ b ∈ fp, H b = none) →
      Seg (model X.prog X.w) A (RN X.prog X.w X.stack H1 sc fp SS cont) (YN X.prog X.w X.stack H1 sc fp SS a g ys out) n s₀
        (.compLoop (.GeneratorExp elt [⟨tg, iter, ifs, 0⟩] scope pos) 0 (.ref it) .none (gEnv X scope C code))
        ((model X.prog X.w).den (.compLoop (.GeneratorExp elt [⟨tg, iter, ifs, 0⟩] scope pos) 0 (.ref it) .none (gEnv X scope C code))) [] s := by
  intro m
  induction m using Nat.strongRecOn with
  | _ m ih =>
  intro n i j H s₀ s ps hps hn w I hs0 st nfp
  have inSS : ∀ p ∈ ps, p.1 ∈ SS := fun p hp => by rw [← hps]; exact List.mem_map.mpr ⟨p, hp, rfl⟩
  have mid : ∀ {ps : List (Addr × Obj)} {σ' : St} {H' : Hp} {s' : Shared} {R : Hp → Prop}, Inv (genCx X A sc H1 scope C code fp) ps σ' H' s' → (∀ S ∈ SS, H' S = none) → R H' → Mid X.prog X.w X.stack H1 sc fp SS R s' := fun J z r => ⟨J.os, J.bare, _, J.base, J.hok, fun S hS => ⟨z S hS, (hAp S hS).1.1⟩, r⟩
  have same : ∀ {s' : Shared}, (∀ p ∈ ps, s'.heap.get? p.1 = some p.2) → ∀ b ∈ SS, ∀ o', s₀.heap.get? b = some o' → s'.heap.get? b = some o' := fun e b hb o' z => by
    rw [← hps] at hb
    obtain ⟨p, hp, rfl⟩ := List.mem_map.mp hb
    rw [hs0 p hp o' z]; exact e p hp
  have okfp : ∀ {σ' : St} {H' : Hp} {s' : Shared}, Inv (genCx X A sc H1 scope C code fp) (ps ++ [(a, go)]) σ' H' s' → (∀ b ∈ fp, H' b = none) → ∀ b ∈ fp, FpOk (genCx X A sc H1 scope C code fp) (ps ++ [(a, go)]) H' b := by
    intro σ' H' s' I' z b hb
    refine ⟨z b hb, (I'.ok.exf b hb).1, I'.ok.exfs b hb, .inl hb, (I'.ok.exf b hb).2, fun p hp => ?_⟩
    have hp : p ∈ ps ++ [(a, go)] := hp
    rcases List.mem_append.mp hp with e | e
    · intro q; rw [← q] at hb; exact hSf _ (inSS p e) hb
    · rw [List.mem_singleton.mp e]; intro q; have q : a = b := q; rw [← q] at hb; exact haf hb
  show Seg _ A _ _ _ s₀ _ ((compTurn (.GeneratorExp elt [⟨tg, iter, ifs, 0⟩] scope pos) 0 (.ref it) .none (gEnv X scope C code)).onRaise (leaving (gEnv X scope C code))) [] s
  rw [compTurn_gen, Sem.onRaise_eq_wrap]
  refine seg_bind_wrap (wpAny_standAt ?_)
  rcases turn i m j H w with ⟨stop, all, fin⟩ | ⟨goes, Nx, hNx, step⟩
  · refine seg_bind_wrap (thn (T.done (genCx X A sc H1 scope C code fp) rfl rfl rfl rfl i _ s _ H _ I (okfp I nfp) st stop) ?_)
    rintro r1 s1 ⟨rfl, I1⟩
    exact seg_end (.ok .next) (.inl ⟨.inr rfl, by omega, same (fun p hp => (I1.pin p (List.mem_append_right _ (List.mem_append_left _ hp))).1), mid I1 (fun S hS => by
      rw [← hps] at hS
      obtain ⟨p, hp, rfl⟩ := List.mem_map.mp hS
      exact (I1.pin p (List.mem_append_right _ (List.mem_append_left _ hp))).2.1) fin⟩)
  · refine seg_bind_wrap (thn (T.item (genCx X A sc H1 scope C code fp) rfl rfl rfl rfl i _ s _ H _ I (okfp I nfp) st goes) ?_)
    rintro r1 s1 ⟨u, rfl, h1⟩
    refine seg_bind_wrap (thn h1 ?_)
    rintro _ s2 ⟨x, H2, I2, r2, y2, st2, n2⟩
    have J2 := I2.pinned (okfp I2 n2) (T.obj _ _ st2)
    refine seg_bind_wrap (wpAny_mono (PGt.run _ s2 _ H2 x u _ J2 r2 (step x H2 y2)) ?_ (fun _ _ z => (show False from z).elim))
    rintro _ s3 ⟨σ3, H3, I3, hw3, q3⟩
    refine seg_bind_wrap (wpAny_mono (PTt.run _ s3 σ3 H3 _ I3 q3) ?_ (fun _ _ z => (show False from z).elim))
    rintro b s4 ⟨H4, I4, q4⟩
    have len3 : (wipe σ0 vs).length = σ3.length := by rw [← hw3, wipe_length]
    have stay : ∀ {pp : List (Addr × Obj)} {s' : Shared} {H' : Hp}, Inv (genCx X A sc H1 scope C code fp) ((pp ++ [(a, go)]) ++ pinsAt fp s2.heap) σ3 H' s' →
        Inv (genCx X A sc H1 scope C code fp) (pp ++ [(a, go)]) (wipe σ0 vs) H' s' ∧ tn (i + 1) s'.heap ∧ (∀ b ∈ fp, H' b = none) := by
      intro pp s' H' K
      have pinned : ∀ b ∈ fp, ∀ o, s2.heap.get? b = some o → s'.heap.get? b = some o ∧ H' b = none := fun b hb o e =>
        let z := K.pin (b, o) (List.mem_append_right _ (List.mem_append_right _ (mem_pinsAt hb e))); ⟨z.1, z.2.1⟩
      refine ⟨(K.unpinned).weak len3 (fun j v e => ?_), T.keep _ _ _ st2 fun b hb o e => (pinned b hb o e).1, fun b hb => ?_⟩
      · rw [← hw3] at e; exact (wipe_some e).1
      · obtain ⟨o, e, _⟩ := T.obj _ _ st2 b hb
        exact (pinned b hb o e).2
    cases b with
    | false =>
      simp only [Bool.false_eq_true, if_false] at q4 ⊢
      obtain ⟨m', lt, w'⟩ := hNx _ _ q4
      obtain ⟨I5, st5, n5⟩ := stay (pp := ps) I4
      exact seg_again rfl (ih m' lt n (i + 1) j H4 s₀ s4 ps hps hn w' I5 hs0 st5 n5)
    | true =>
      simp only [if_true] at q4 ⊢
      have hy : ∀ v, yieldOut (gEnv X scope C code) v = yieldValue v := fun v => by
        have e : (gEnv X scope C code).scope.isCoroutine = false := co
        simp only [yieldOut, e, Bool.false_eq_true, if_false]
      simp only [hy]
      rw [Sem.bind_eq_wrap', Sem.bind_eq_wrap', Sem.wrap_wrap, Sem.wrap_wrap]
      refine seg_wrap (wpAny_mono (PEt.run _ s4 σ3 H4 _ I4 q4) ?_ (fun _ _ z => (show False from z).elim))
      rintro v s5 ⟨yv, H5, I5, r5, atj, outj, nx⟩
      obtain ⟨m', lt, w'⟩ := hNx _ _ nx
      have jl : j < ys.length := (List.getElem?_eq_some_iff.mp atj).1
      obtain ⟨n', rfl⟩ : ∃ n', n = n' + 1 := ⟨n - 1, by omega⟩
      refine seg_at (seg_yield rfl rfl rfl ?_)
      have I5' : Inv (genCx X A sc H1 scope C code fp) ((ps ++ [(a, go)]) ++ pinsAt fp s2.heap) σ3 H5 s5 := I5
      have pS : ∀ p ∈ ps, _ := fun p hp => I5'.pin p (List.mem_append_right _ (List.mem_append_left _ (List.mem_append_left _ hp)))
      have pa := I5'.pin (a, go) (List.mem_append_right _ (List.mem_append_left _ (List.mem_append_right _ List.mem_cons_self)))
      have hS1 : ∀ S ∈ SS, H5 S = none := fun S hS => by
        rw [← hps] at hS
        obtain ⟨p, hp, rfl⟩ := List.mem_map.mp hS
        exact (pS p hp).2.1
      refine ⟨I5.nolimit, hgo _ pa.1, same (fun p hp => (pS p hp).1), ⟨j, yv, by omega, atj, r5, mid I5 hS1 outj⟩, ⟨ps, hps, fun p hp => ⟨(pS p hp).1, (pS p hp).2.2.2.2⟩⟩, fun s' z => ?_⟩
      have hip : ∀ p ∈ [(a, go)] ++ pinsAt fp s2.heap, p.1 ∉ SS := by
        intro p hp
        rcases List.mem_append.mp hp with e | e
        · rw [List.mem_singleton.mp e]; exact hSa
        · exact fun q => hSf _ q (of_pinsAt e).1
      have I6 : Inv (genCx X A sc H1 scope C code fp) ([(a, go)] ++ pinsAt fp s2.heap) σ3 H5 s5 := I5'.pins_of fun p hp => I5'.pin p (List.mem_append_right _ (by
        rcases List.mem_append.mp hp with e | e
        · exact List.mem_append_left _ (List.mem_append_right _ e)
        · exact List.mem_append_right _ e))
      have hS0 : ∀ S ∈ SS, H5 S = none := fun S hS => by
        rw [← hps] at hS
        obtain ⟨p, hp, rfl⟩ := List.mem_map.mp hS
        exact (pS p hp).2.1
      have nt : ∀ b u, H5 b = some u → b ∉ SS := fun b u q hb => by rw [hS0 b hb] at q; cases q
      have U : Un (frs (genCx X A sc H1 scope C code fp).stack) SS H5 H5 s5.heap s'.heap :=
        ⟨fun b o e _ _ hx => z.keep b o hx e, fun b o e _ _ hx => ⟨o.slots, z.keep b o hx e⟩, fun _ _ _ n _ => n, fun b o e hx => ⟨o, z.keep b o hx e⟩, fun _ _ q => q, fun _ _ _ q => q, fun b ps q => ⟨#[], by rw [q]; simp⟩⟩
      have hok' : HOk X.prog X.w H5 s'.heap := fun b u q => (I6.hok b u q).stay (fun c v hc y => z.keep c v (by
        rcases hc with y | y
        · rw [y]; exact nt b u q
        · exact nt c _ y) y) (fun _ y => y) fun _ _ y => y
      have I7 : Inv (genCx X A sc H1 scope C code fp) ([(a, go)] ++ pinsAt fp s2.heap) σ3 H5 s' := I6.call' (ch := SS) z.os U hok' z.bare (by
        intro b hb
        refine ⟨.inr (hAp b hb).1.1, (hAp b hb).1.2.1, (hAp b hb).1.2.2, fun p hp q => hip p hp (by rw [q]; exact hb)⟩)
      obtain ⟨p2, ep2, in2⟩ := z.own
      have in2' : ∀ p ∈ p2, p.1 ∈ SS := fun p hp => by rw [← ep2]; exact List.mem_map.mpr ⟨p, hp, rfl⟩
      have I8 : Inv (genCx X A sc H1 scope C code fp) ((p2 ++ [(a, go)]) ++ pinsAt fp s2.heap) σ3 H5 s' := I7.pins_of fun p hp => by
        have hp : p ∈ (p2 ++ [(a, go)]) ++ pinsAt fp s2.heap := hp
        rw [List.append_assoc] at hp
        rcases List.mem_append.mp hp with e | e
        · have m2 := in2' p e
          exact ⟨(in2 p e).1, hS0 _ m2, (hAp _ m2).1.2.1, (hAp _ m2).2, (in2 p e).2⟩
        · exact I7.pin p e
      obtain ⟨I9, st9, n9⟩ := stay I8
      exact seg_again rfl (ih m' lt n' (i + 1) (j + 1) H5 s' s' p2 ep2 (by omega) w' I9 (fun p hp o' e => by rw [(in2 p hp).1] at e; exact (Option.some.inj e).symm) st9 n9)
end
end Y

set_option Elab.async false
set_option linter.all false
set_option maxRecDepth 100000
set_option maxHeartbeats 4000000
namespace Y
open PySem PySem.Spec L2 LamX
open PyProof.Rows (AllBare)

/-- a generator that has not begun, its items known -/
def GMadeN (P : Program) (w : World) (k : Nat) (outer : List Env) (H : Hp) (s : Shared) (ex : List Addr) (ys : List V) (out : Nat → Hp → Prop) (cont : Hp → Prop) (u : Value) (s' : Shared) : Prop :=
  ∃ (a : Addr) (g : Nat) (c : Code), u = .ref a ∧ s.heap.objs.size ≤ a ∧ a < s'.heap.objs.size ∧ s'.heap.IsGen a g ∧ s'.gens[g]? = some (.fresh c) ∧ s'.os = s.os ∧ AllBare s'.gens ∧ s'.heap.NoLimit ∧ (∀ b o, s.heap.get? b = some o → s'.heap.get? b = some o) ∧
    ∀ (A : Around) (ps : List (Addr × Obj)) (s2 : Shared), Room k A → A.frames = some outer → (∀ p ∈ ps, s'.heap.objs.size ≤ p.1) → (∀ b o, s'.heap.get? b = some o → s2.heap.get? b = some o) →
      (∀ p ∈ ps, s2.heap.get? p.1 = some p.2 ∧ ∀ v, p.2.data ≠ .cell v) → s2.os = s.os → AllBare s2.gens →
      Seg (model P w) A (RN P w outer H s ex (ps.map (·.1)) cont) (YN P w outer H s ex (ps.map (·.1)) a g ys out) ys.length s2 c ((model P w).den c) [] s2

abbrev TGN := St → Hp → (List V → (Nat → Hp → Prop) → (Hp → Prop) → Prop) → Prop
structure PGN (X : Cx) (k : Nat) (e : Expr) (tg : TGN) : Prop where
  run : ∀ (pins : List (Addr × Obj)) (s : Shared) (σ : St) (H : Hp) (K : List V → (Nat → Hp → Prop) → (Hp → Prop) → Prop), Inv X pins σ H s → tg σ H K → wpAny (model X.prog X.w) X.A (eval e X.env)
    (fun u s' => ∃ H1 sc ex ys out cont, Inv X pins σ H1 sc ∧ ExOk X pins ex ∧ GMadeN X.prog X.w k X.stack H1 sc ex ys out cont u s' ∧ K ys out cont) X.xe s

def tGenN (T : List (Addr × Str)) (wi : TI) (g : TG) (tt : TT) (te : TE) (vs : List Nat) : TGN := fun σ H K =>
  wi σ H fun J H1 => Tabs T H1 ∧ ∀ H2, Grows T H1 H2 → ∃ ys out cont, tGxN wi g tt te vs J H2 σ ys out cont ∧ K ys out cont

section
variable {X : Cx}
theorem pgen_gxN {T : List (Addr × Str)} {c P : Addr} {k : Nat} {elt tg iter : Expr} {ifs : List Expr} {scope : Scope} {own : List (Str × Nat)} {pos : Pos} {wi : TI} {g : TG} {tt : TT} {te : TE}
    (hr : Room k X.A) (TB : TabB X.base X.mg c P) (hcode : X.env.code = .ref c) (hm : (P, X.env.qual ++ "<genexpr>") ∈ T) (hu : ∀ p ∈ T, p.1 = P → p.2 = X.env.qual ++ "<genexpr>")
    (nd : X.N.Nodup) (hi : PI X tg iter wi) (ok : BlkOk X.N X.env.scope scope own) (gx : GxOk scope)
    (hg : ∀ A sc H C code fp, Room k (Around.deeper A (gEnv X scope C code)) → PG (genCx X A sc H scope C code fp) tg g)
    (ht : ∀ A sc H C code fp, Room k (Around.deeper A (gEnv X scope C code)) → PTs (genCx X A sc H scope C code fp) ifs tt)
    (he : ∀ A sc H C code fp, Room k (Around.deeper A (gEnv X scope C code)) → PE (genCx X A sc H scope C code fp) elt te)
    (hs : ∀ x, genFold iter X.env x = pure x := by intro _; rfl) :
    PGN X (k + 1) (.GeneratorExp elt [⟨tg, iter, ifs, 0⟩] scope pos) (tGenN T wi g tt te (own.map (·.2))) := by
  refine ⟨fun pins s σ H K I h => ?_⟩
  have capt : ∀ y ∈ scope.names, y.2 = .free → ∃ c, X.env.cells.lookup y.1 = some c := fun y hy e =>
    (ok.free y hy e).elim (fun k => I.ok.has _ (.inl k)) (fun k => I.ok.has _ (.inr k))
  have room : X.A.depth < recursionLimit := by have := hr.dp; omega
  refine wpAny_GeneratorExp_make gx.co (closure_ok capt) gx.nocell gx.dot ok.kind room (thn (hi.run pins s σ H _ I h) ?_) hs
  intro xv s1 hx
  refine thn hx ?_
  rintro itv s2 ⟨it, fp, tn, J, H2, rfl, I2, Tn, st2, f2, hT, q⟩
  have small : ∀ b ∈ fp, b < s2.heap.objs.size := fun b hb => let ⟨_, e, _⟩ := Tn.obj _ _ st2 b hb; Heap.lt_size e
  refine ⟨I2.nolimit, gen_code I2 TB hcode hm hu hT ?_⟩
  intro code H3 s3 I3 gr k3 sz3 nn hP
  have st3 : tn 0 s3.heap := Tn.keep _ _ _ st2 fun b hb o e => k3 b o (fun z => hP (by rw [← z]; exact (f2 b hb).1)) e
  have f3 : ∀ b ∈ fp, FpOk X pins H3 b ∧ b < s3.heap.objs.size := fun b hb => ⟨⟨nn b (small b hb) (f2 b hb).1, (f2 b hb).2⟩, Nat.lt_of_lt_of_le (small b hb) sz3⟩
  obtain ⟨bm, ob, e1, e2, e3, e4, e5, e6, e7, e8⟩ := TB.bm
  refine PySem.wpAny_builtinsFor (m := X.mg) (by rw [I3.ok.glob]; exact I3.mod.glob.keeps I3.bk) e1 e2 (I3.bk _ _ e5) e6 e7 e8 ?_
  intro h' hn' hs'
  obtain ⟨go, ego⟩ : ∃ go : Obj, go = { cls := .type "generator", data := .fields #[.int s3.gens.size 0, .str "<genexpr>" (s3.toks + 1), .str (X.env.qual ++ "<genexpr>") (s3.toks + 1 + 1)] } := ⟨_, rfl⟩
  rw [← ego]
  have hsz : h'.objs.size = s3.heap.objs.size + 1 := by rw [hs'.1, Heap.size_push]
  have kf : ∀ b o, s3.heap.get? b = some o → h'.get? b = some o := fun b o e => hs'.extBut b o (Nat.ne_of_lt (Heap.lt_size e)) (Heap.get?_push_of_some _ e)
  have kp : ∀ b o, s3.heap.get? b = some o → (h'.push go).get? b = some o := fun b o e => Heap.get?_push_of_some _ (kf b o e)
  have hgo : (h'.push go).get? h'.objs.size = some go := by rw [ego]; exact Heap.get?_push_size _ rfl
  have isgen : ∀ h : Heap, h.get? h'.objs.size = some go → h.IsGen h'.objs.size s3.gens.size := fun h e => ⟨go, _, _, e, by rw [ego], by rw [ego], by rw [ego]⟩
  have bare' : AllBare (s3.gens.push (.fresh (.compStart (.GeneratorExp elt [⟨tg, iter, ifs, 0⟩] scope pos) 0 (.ref it) .none (genEnv scope (cloFrom X.env.cells scope.names []) s3.heap.objs.size code builtinsNs X.env)))) := PyProof.Rows.AllBare.push I3.bare rfl
  obtain ⟨ys, out, cont, ⟨W, ⟨m0, w0⟩, turn⟩, qK⟩ := q H3 gr
  refine ⟨H3, s3, fp, ys, out, cont, I3, fun b hb => ⟨(f3 b hb).1.2.2.2.1, (f3 b hb).1.2.1, (f3 b hb).1.2.2.2.2.1, (f3 b hb).1.2.2.2.2.2⟩, ⟨h'.objs.size, s3.gens.size, _, rfl, by omega, by rw [Heap.size_push]; exact Nat.lt_succ_self _, isgen _ hgo, Array.getElem?_push_size .., rfl, bare', I3.nolimit.keeps kp, kp, ?_⟩, qK⟩
  intro A ps s5 hrw hfr hS hk5 hSo hos hba
  have hSz : ∀ p ∈ ps, h'.objs.size < p.1 := fun p hp => by
    have : (h'.push go).objs.size ≤ p.1 := hS p hp
    rw [Heap.size_push] at this
    exact this
  have hC : s3.heap.objs.size < h'.objs.size := by omega
  have kp5 : ∀ b o, s3.heap.get? b = some o → s5.heap.get? b = some o := fun b o e => hk5 b o (kp b o e)
  have hn5 : s5.heap.Ns s3.heap.objs.size (fun y => if y = ".0" then some (.ref it) else none) := (hn'.push go).keeps hk5
  have deep : Room k (A.deeper (gEnv X scope s3.heap.objs.size code)) := hrw.deeper _
  have I5 := gen_start (A := A) (code := code) (C := s3.heap.objs.size) I3 ok gx.nocell nd hrw.hd hfr f3 (Nat.le_refl _) kp5 hn5 hos hba
  have st5 : tn 0 s5.heap := Tn.keep _ _ _ st3 fun b _ o e => kp5 b o e
  have hea : s5.heap.get? h'.objs.size = some go := hk5 _ _ hgo
  have young : ∀ b, s3.heap.objs.size < b → H3 b = none ∧ b ≠ s3.heap.objs.size ∧ b ∉ frs X.stack ∧ s3.heap.objs.size ≤ b ∧ (∀ y c, (cloFrom X.env.cells scope.names []).lookup y = some c → c ≠ b) ∧ b ∉ fp := by
    intro b hb
    refine ⟨I3.hok.fresh (Nat.le_of_lt hb), Nat.ne_of_gt hb, fun hm => ?_, Nat.le_of_lt hb, fun y c e z => ?_, fun hm => Nat.lt_irrefl _ (Nat.lt_trans hb (f3 b hm).2)⟩
    · rcases List.mem_cons.mp (I3.stkSub b hm) with z | z
      · have := I3.lt
        rw [← z] at this
        exact Nat.lt_irrefl _ (Nat.lt_trans hb this)
      · exact I3.nofs (Nat.le_of_lt hb) z
    · obtain ⟨v, q5⟩ := I5.cell y c e
      rcases cloFrom_mem (PySem.mem_of_lookup e) with hm' | ⟨h1, h2⟩
      · cases hm'
      · obtain ⟨c1, hc1⟩ := capt _ h1 rfl
        have hc1 : X.env.cells.lookup y = some c1 := hc1
        have ec : c = c1 := by
          rw [h2, hc1] <;> rfl
        obtain ⟨v2, o2, ho2, _⟩ := I3.cell y c1 hc1
        have := Heap.lt_size ho2
        rw [← ec, z] at this
        exact Nat.lt_irrefl _ (Nat.lt_trans hb this)
  obtain ⟨a1, a2, a3, a4, a5, a6⟩ := young h'.objs.size hC
  have youngS : ∀ p ∈ ps, _ := fun p hp => young p.1 (Nat.lt_trans hC (hSz p hp))
  have I6 : Inv (genCx X A s3 H3 scope s3.heap.objs.size code fp) (ps ++ [(h'.objs.size, go)]) (wipe σ (own.map (·.2))) H3 s5 := by
    refine I5.pins_of fun p hp => ?_
    have hp : p ∈ ps ++ [(h'.objs.size, go)] := hp
    rcases List.mem_append.mp hp with z | z
    · obtain ⟨b1, b2, b3, _⟩ := youngS p z
      exact ⟨(hSo p z).1, b1, b2, b3, (hSo p z).2⟩
    · rw [List.mem_singleton.mp z]; exact ⟨hea, a1, a2, a3, fun v q => by rw [ego] at q; cases q⟩
  have ofS : ∀ S ∈ ps.map (·.1), ∃ p ∈ ps, p.1 = S := fun S hS => let ⟨p, hp, e⟩ := List.mem_map.mp hS; ⟨p, hp, e⟩
  have loop := fun s₀ (h0 : ∀ p ∈ ps, ∀ o', s₀.heap.get? p.1 = some o' → o' = p.2) => gen_segN (σ0 := σ) (SS := ps.map (·.1)) Tn (hg A s3 H3 s3.heap.objs.size code fp deep) (ht A s3 H3 s3.heap.objs.size code fp deep) (he A s3 H3 s3.heap.objs.size code fp deep) gx.co
    (fun z => by obtain ⟨p, hp, e⟩ := ofS _ z; exact Nat.lt_irrefl _ (by have := hSz p hp; rw [e] at this; exact this))
    (fun S hS => by obtain ⟨p, hp, e⟩ := ofS _ hS; rw [← e]; exact (youngS p hp).2.2.2.2.2) a6
    (fun S hS => by obtain ⟨p, hp, e⟩ := ofS _ hS; obtain ⟨b1, b2, b3, b4, b5, b6⟩ := youngS p hp; rw [← e]; exact ⟨⟨b4, b2, b5⟩, b3⟩) isgen turn m0 ys.length 0 0 H3 s₀ s5 ps rfl (by simp) w0 I6 h0 st5 (fun b hb => (f3 b hb).1.1) (iter := iter) (pos := pos)
  have self0 : ∀ p ∈ ps, ∀ o', s5.heap.get? p.1 = some o' → o' = p.2 := fun p hp o' e => by rw [(hSo p hp).1] at e; exact (Option.some.inj e).symm
  show Seg _ A _ _ _ s5 _ ((compStart (.GeneratorExp elt [⟨tg, iter, ifs, 0⟩] scope pos) 0 (.ref it) .none (gEnv X scope s3.heap.objs.size code)).onRaise (leaving (gEnv X scope s3.heap.objs.size code))) [] s5
  unfold compStart
  rw [Sem.onRaise_eq_wrap]
  show Seg _ A _ _ _ s5 _ ((ask >>= _).wrap _ _ _ _) [] s5
  refine seg_bind_wrap (wpAny_askSetting ?_)
  split
  · exact seg_again rfl (loop s5 self0)
  · refine seg_bind_wrap (wpAny_rule ?_)
    show Seg _ A _ _ _ s5 _ ((standAt iter.pos >>= _).wrap _ _ _ _) [] s5
    exact seg_bind_wrap (wpAny_standAt (seg_bind_wrap (Tn.self _ 0 s5 _ _ st5 (seg_again rfl (loop s5 self0)))))
end

/-! ### the consumer's side -/
section
variable {P : Program} {w : World} {outer : List Env} {H1 : Hp} {sc : Shared} {ex : List Addr} {SS : List Addr} {a : Addr} {g : Nat} {ys : List V} {out : Nat → Hp → Prop} {cont : Hp → Prop}
/-- the generator stands, j items are out; A: around the consumer's code -/
def Src (P : Program) (w : World) (outer : List Env) (H1 : Hp) (sc : Shared) (ex SS : List Addr) (a : Addr) (g : Nat) (ys : List V) (out : Nat → Hp → Prop) (cont : Hp → Prop) (A : Around) (j : Nat) (s : Shared) : Prop :=
  s.heap.IsGen a g ∧ s.heap.NoLimit ∧ j ≤ ys.length ∧ ∃ gs, s.gens[g]? = some gs ∧ gs.Goes (model P w) A.in1 (RN P w outer H1 sc ex SS cont) (YN P w outer H1 sc ex SS a g ys out) (ys.length - j) (.send .none) (s.setGen g .running)

theorem Mid.at {R : Hp → Prop} {s : Shared} {S : Addr} (m : Mid P w outer H1 sc ex SS R s) (hS : S ∈ SS) {h' : Heap} {tk : Nat} (k : ∀ b o, b ≠ S → s.heap.get? b = some o → h'.get? b = some o) (hS' : ∃ o, h'.get? S = some o) : Mid P w outer H1 sc ex SS R { s with heap := h', toks := tk } := by
  obtain ⟨m1, m2, H', m3, m4, m5, m6⟩ := m
  obtain ⟨n1, n2⟩ := m5 S hS
  have old : ∀ b o, sc.heap.get? b = some o → b ≠ S := fun b o e => Nat.ne_of_lt (Nat.lt_of_lt_of_le (Heap.lt_size e) n2)
  have nt : ∀ b u, H' b = some u → b ≠ S := fun b u q hb => by rw [hb, n1] at q; cases q
  have nfr : ∀ b, b ∈ frs outer → True := fun _ _ => trivial
  refine ⟨m1, m2, H', ⟨fun b o e a c d => k b o (old b o e) (m3.keep b o e a c d), fun b o e a c d => ?_, m3.free, fun b o e d => ?_, m3.tups, m3.frzs, m3.tbls⟩, fun b u q => (m4 b u q).stay (fun c v hc y => k c v (by
        rcases hc with y | y
        · rw [y]; exact nt b u q
        · exact nt c _ y) y) (fun _ y => y) fun _ _ y => y, m5, m6⟩
  · obtain ⟨sl, e2⟩ := m3.slot b o e a c d
    exact ⟨sl, k b _ (old b o e) e2⟩
  · obtain ⟨o2, e2⟩ := m3.there b o e d
    exact ⟨o2, k b o2 (old b o e) e2⟩
theorem Mid.gen {R : Hp → Prop} {s : Shared} (m : Mid P w outer H1 sc ex SS R s) {x : GenState} (hx : x.bare = true) : Mid P w outer H1 sc ex SS R (s.setGen g x) :=
  ⟨m.1, L2.allBare_setGen m.2.1 hx, m.2.2⟩
theorem Mid.kept {R : Hp → Prop} {s : Shared} {h' : Heap} {tk : Nat} (m : Mid P w outer H1 sc ex SS R s) (k : ∀ b o, s.heap.get? b = some o → h'.get? b = some o) : Mid P w outer H1 sc ex SS R { s with heap := h', toks := tk } := by
  obtain ⟨m1, m2, H', m3, m4, m5⟩ := m
  exact ⟨m1, m2, H', m3.trans (Un.kept k), m4.kept k, m5⟩

theorem src_next {A : Around} {j : Nat} {s : Shared} {Q : Option Value → Shared → Prop} {E : Value → Shared → Prop} (hh : A.handled = none) (hd : A.depth < recursionLimit) (h : Src P w outer H1 sc ex SS a g ys out cont A j s)
    (hY : ∀ v y s', ys[j]? = some y → RelV y v → Mid P w outer H1 sc ex SS (out j) s' → (∀ b ∈ SS, ∀ o, s.heap.get? b = some o → s'.heap.get? b = some o) →
      (∀ s2, Wrk SS s' s2 → s2.gens = s'.gens → s2.heap.IsGen a g → s2.heap.NoLimit → Src P w outer H1 sc ex SS a g ys out cont A (j + 1) s2) → s'.heap.IsGen a g → s'.heap.NoLimit → Q (some v) s')
    (hE : ∀ s', j = ys.length → Mid P w outer H1 sc ex SS cont s' → (∀ b ∈ SS, ∀ o, s.heap.get? b = some o → s'.heap.get? b = some o) → Q none s') :
    wpAny (model P w) A (pyNext (.ref a)) Q E s := by
  obtain ⟨hg, hl, hj, gs, hgs, hgo⟩ := h
  have hgl : g < s.gens.size := (Array.getElem?_eq_some_iff.mp hgs).1
  refine GenW.wpAny_gsz (n := g + 1) hgl (next_genG (A := A) (F := fun n s₀ s1 => n = 0 ∧ (∀ b ∈ SS, ∀ o, s₀.heap.get? b = some o → s1.heap.get? b = some o) ∧ Mid P w outer H1 sc ex SS cont s1) (Er := fun _ _ => False) hh hl hd hg hgs hgo ?_ ?_ ?_)
  · rintro v s₁ gs' hbare ⟨y1, y2, y3, ⟨j', y, e1, e2, e3, e4⟩, y5, hk⟩ hsz
    have hj2 : j' < ys.length := (List.getElem?_eq_some_iff.mp e2).1
    have hlt : j < ys.length := by
      refine Nat.lt_of_le_of_ne hj fun e => ?_
      rw [e, Nat.sub_self] at hk
      exact hk s₁ ⟨rfl, e4.2.1, fun _ _ _ e => e, y5⟩
    have ej : j' = j := by omega
    subst ej
    obtain ⟨m, em⟩ : ∃ m, ys.length - j' = m + 1 := ⟨ys.length - j' - 1, by omega⟩
    rw [em] at hk
    have hsz1 : g < s₁.gens.size := by
      have q : (s₁.setGen g gs').gens.size = s₁.gens.size := GenW.setGen_size _ _ _
      have hsz' : g + 1 ≤ (s₁.setGen g gs').gens.size := hsz
      omega
    refine hY v y (s₁.setGen g gs') e2 e3 (e4.gen hbare) y3 ?_ y2 y1
    intro s2 z zg z1 z2
    refine ⟨z1, z2, hlt, gs', by rw [zg]; exact L2.setGen_at hsz1, ?_⟩
    have em' : ys.length - (j' + 1) = m := by omega
    rw [em']
    refine hk (s2.setGen g .running) ⟨z.os, L2.allBare_setGen z.bare rfl, z.keep, z.own⟩
  · rintro s₁ ⟨p1, p2, p3⟩ h' hk hsz
    exact hE _ (by omega) ((p3.gen (x := .finished) rfl).kept (tk := s₁.toks) hk) (fun b hb o e => hk b o (p2 b hb o e))
  · exact fun _ _ z => z.elim
end
end Y

set_option Elab.async false
set_option linter.all false
set_option maxRecDepth 100000
set_option maxHeartbeats 4000000
namespace Y
open PySem PySem.Spec L2 LamX
open PyProof.Rows (AllBare)

section
variable {P : Program} {w : World} {outer : List Env} {H1 : Hp} {sc s : Shared} {ex : List Addr} {a : Addr} {g : Nat} {out : Nat → Hp → Prop} {cont : Hp → Prop} {R : Result → Shared → Prop} {A : Around}
/-- any(..), from the j-th item on -/
theorem any_loopG {bs : List Bool} (hh : A.handled = none) (hd : A.depth < recursionLimit)
    (hend : ∀ s', Mid P w outer H1 sc ex [] cont s' → bs.any id = false → R (.ok (.ret (.bool false))) s')
    (hyes : ∀ j s', bs[j]? = some true → Mid P w outer H1 sc ex [] (out j) s' → R (.ok (.ret (.bool true))) s') :
    ∀ (k j : Nat) (s : Shared), bs.length - j = k → (∀ i, i < j → bs[i]? = some false) → Src P w outer H1 sc ex [] a g (bs.map V.bl) out cont A.in1 j s →
      codeAny (model P w) A (.builtin "any.loop" ⟨[.ref a], []⟩) R s := by
  intro k
  induction k with
  | zero =>
    intro j s hk hpre h
    have hj : j = bs.length := by have := h.2.2.1; simp at this; omega
    refine codeAny_builtin F.entry_any_loop ?_
    rw [Around.under_plainId F.plain_any_loop _]
    show wpAny _ A.in1 (pyNext (.ref a) >>= _) _ _ s
    refine wpAny_bind (src_next (A := A.in1) hh hd h ?_ ?_)
    · intro v y s' e1
      have := (List.getElem?_eq_some_iff.mp e1).1
      simp at this
      omega
    · intro s' _ m _
      refine wpAny_bind (wpAny_rule (wpAny_pure (hend s' m ?_)))
      rw [List.any_eq_false]
      intro b hb hb2
      obtain ⟨i, hi, e⟩ := List.getElem_of_mem hb
      have := hpre i (by omega)
      rw [List.getElem?_eq_getElem hi] at this
      rw [e] at this
      simp only [id] at hb2
      rw [hb2] at this
      cases this
  | succ k ih =>
    intro j s hk hpre h
    have hlt : j < bs.length := by omega
    refine codeAny_builtin F.entry_any_loop ?_
    rw [Around.under_plainId F.plain_any_loop _]
    show wpAny _ A.in1 (pyNext (.ref a) >>= _) _ _ s
    refine wpAny_bind (src_next (A := A.in1) hh hd h ?_ ?_)
    · intro v y s' e1 r m _ go g1 g2
      rw [List.getElem?_map, List.getElem?_eq_getElem hlt] at e1
      cases e1
      obtain rfl := (show v = Value.bool (bs[j]) from r)
      refine wpAny_bind (wpAny_holding (wpAny_truthy_bool ?_))
      refine wpAny_bind (wpAny_letGo ?_)
      cases hb : bs[j] with
      | true =>
        simp only [if_true]
        exact wpAny_bind (wpAny_rule (wpAny_pure (hyes j s' (by rw [List.getElem?_eq_getElem hlt, hb]) m)))
      | false =>
        simp only [Bool.false_eq_true, if_false]
        refine wpAny_pure ⟨plainId_quiet F.plain_any_loop _, ih (j + 1) s' (by omega) (fun i hi => ?_) (go s' ⟨rfl, m.2.1, fun _ _ _ e => e, [], rfl, fun p hp => absurd hp (by simp)⟩ rfl g1 g2)⟩
        by_cases e : i = j
        · rw [e, List.getElem?_eq_getElem hlt, hb]
        · exact hpre i (by omega)
    · intro s' e
      simp at e
      omega
/-- all(..), from the j-th item on -/
theorem all_loopG {bs : List Bool} (hh : A.handled = none) (hd : A.depth < recursionLimit)
    (hend : ∀ s', Mid P w outer H1 sc ex [] cont s' → bs.all id = true → R (.ok (.ret (.bool true))) s')
    (hno : ∀ j s', bs[j]? = some false → Mid P w outer H1 sc ex [] (out j) s' → R (.ok (.ret (.bool false))) s') :
    ∀ (k j : Nat) (s : Shared), bs.length - j = k → (∀ i, i < j → bs[i]? = some true) → Src P w outer H1 sc ex [] a g (bs.map V.bl) out cont A.in1 j s →
      codeAny (model P w) A (.builtin "all.loop" ⟨[.ref a], []⟩) R s := by
  intro k
  induction k with
  | zero =>
    intro j s hk hpre h
    have hj : j = bs.length := by have := h.2.2.1; simp at this; omega
    refine codeAny_builtin F.entry_all_loop ?_
    rw [Around.under_plainId F.plain_all_loop _]
    show wpAny _ A.in1 (pyNext (.ref a) >>= _) _ _ s
    refine wpAny_bind (src_next (A := A.in1) hh hd h ?_ ?_)
    · intro v y s' e1
      have := (List.getElem?_eq_some_iff.mp e1).1
      simp at this
      omega
    · intro s' _ m _
      refine wpAny_bind (wpAny_rule (wpAny_pure (hend s' m ?_)))
      rw [List.all_eq_true]
      intro b hb
      obtain ⟨i, hi, e⟩ := List.getElem_of_mem hb
      have := hpre i (by omega)
      rw [List.getElem?_eq_getElem hi, e] at this
      exact (Option.some.inj this)
  | succ k ih =>
    intro j s hk hpre h
    have hlt : j < bs.length := by omega
    refine codeAny_builtin F.entry_all_loop ?_
    rw [Around.under_plainId F.plain_all_loop _]
    show wpAny _ A.in1 (pyNext (.ref a) >>= _) _ _ s
    refine wpAny_bind (src_next (A := A.in1) hh hd h ?_ ?_)
    · intro v y s' e1 r m _ go g1 g2
      rw [List.getElem?_map, List.getElem?_eq_getElem hlt] at e1
      cases e1
      obtain rfl := (show v = Value.bool (bs[j]) from r)
      refine wpAny_bind (wpAny_holding (wpAny_truthy_bool ?_))
      refine wpAny_bind (wpAny_letGo ?_)
      cases hb : bs[j] with
      | false =>
        simp only [Bool.false_eq_true, if_false]
        exact wpAny_bind (wpAny_rule (wpAny_pure (hno j s' (by rw [List.getElem?_eq_getElem hlt, hb]) m)))
      | true =>
        simp only [if_true]
        refine wpAny_pure ⟨plainId_quiet F.plain_all_loop _, ih (j + 1) s' (by omega) (fun i hi => ?_) (go s' ⟨rfl, m.2.1, fun _ _ _ e => e, [], rfl, fun p hp => absurd hp (by simp)⟩ rfl g1 g2)⟩
        by_cases e : i = j
        · rw [e, List.getElem?_eq_getElem hlt, hb]
        · exact hpre i (by omega)
    · intro s' e
      simp at e
      omega

/-- a generator just made, seen by a consumer whose own objects are ps -/
theorem src_of {k : Nat} {ys : List V} {a : Addr} {u : Value} {ps : List (Addr × Obj)} {s1 s2 : Shared} (h : GMadeN P w k outer H1 sc ex ys out cont u s1) (hr : Room k A.in1) (hfr : A.in1.frames = some outer)
    (hps : ∀ p ∈ ps, s1.heap.objs.size ≤ p.1) (kp : ∀ b o, s1.heap.get? b = some o → s2.heap.get? b = some o) (hpo : ∀ p ∈ ps, s2.heap.get? p.1 = some p.2 ∧ ∀ v, p.2.data ≠ .cell v) (hos : s2.os = s1.os) (hgs : s2.gens = s1.gens) :
    ∃ a g, u = .ref a ∧ s1.heap.IsGen a g ∧ Src P w outer H1 sc ex (ps.map (·.1)) a g ys out cont A 0 s2 := by
  obtain ⟨a, g, c, rfl, ha1, ha2, hg, hgn, hos1, hb, hl, hkp, wake⟩ := h
  refine ⟨a, g, rfl, hg, hg.keeps kp, hl.keeps kp, Nat.zero_le _, .fresh c, by rw [hgs]; exact hgn, rfl, ?_⟩
  have hb2 : AllBare s2.gens := by rw [hgs]; exact hb
  exact wake A.in1 ps (s2.setGen g .running) hr hfr hps kp hpo (hos.trans hos1) (L2.allBare_setGen hb2 rfl)
end

section
variable {X : Cx} {k : Nat} {p pos : Pos}
theorem mid_inv {pins : List (Addr × Obj)} {σ : St} {H1 : Hp} {sc s' : Shared} {ex SS : List Addr} {R : Hp → Prop} (I : Inv X pins σ H1 sc) (hex : ExOk X pins ex) (m : Mid X.prog X.w X.stack H1 sc ex SS R s') : ∃ H', Inv X pins σ H' s' ∧ R H' := by
  obtain ⟨m1, m2, H', m3, m4, _, m5⟩ := m
  exact ⟨H', I.call' (ch := ex) m1 m3 m4 m2 hex, m5⟩
theorem room_in1 {A : Around} (hr : Room (k + 1) A) : Room k A.in1 := hr.in1

/-- any(g): bs, the truth values that it would hand out -/
def tAnyG (tg : TGN) : TE := fun σ H Q => tg σ H fun ys out cont => ∃ bs : List Bool, ys = bs.map V.bl ∧ (∀ H', cont H' → bs.any id = false → Q (.bl false) H') ∧ ∀ j H', bs[j]? = some true → out j H' → Q (.bl true) H'
def tAllG (tg : TGN) : TE := fun σ H Q => tg σ H fun ys out cont => ∃ bs : List Bool, ys = bs.map V.bl ∧ (∀ H', cont H' → bs.all id = true → Q (.bl true) H') ∧ ∀ j H', bs[j]? = some false → out j H' → Q (.bl false) H'
theorem pe_anyG {e : Expr} {tg : TGN} (h : PGN X k e tg) (hr : Room (k + 4) X.A) (hg : Gl X "any") (hmg : X.mg "any" = none)
    (he : starEach [e] X.env = (false, eval e X.env) :: starEach [] X.env := by rfl) : PE X (.Call (.Name "any" p) [e] [] pos) (tAnyG tg) := by
  refine ⟨fun pins s σ H Q I hq => ?_⟩
  refine wpAny_Call_Name_kw (ld_blt I hg hmg (by decide +kernel : bootBuiltins "any" = some (.builtin "any")) ?_ (by decide) (by decide))
  refine PyProof.Rows.callWith_builtin1 ?_ he rfl
  rw [he]
  show wpAny _ _ (spliced ((false, eval e X.env) :: backTo pos (starEach [] X.env))) _ _ s
  refine Calls.spliced_cons (thn (h.run pins s σ H _ I hq) ?_)
  rintro u s1 ⟨H1, sc, ex, ys, out, cont, I1, hex, hG, bs, rfl, q1, q2⟩
  refine Calls.spliced_nil ?_
  obtain ⟨a, g, rfl, _, S0⟩ := src_of (A := X.A.in1) (ps := []) (s2 := s1) (a := 0) hG ((Room.in1 (Room.in1 (hr.mono (by omega) : Room (k + 2) X.A)))) I1.ok.frames (fun p hp => absurd hp (by simp)) (fun _ _ e => e) (fun p hp => absurd hp (by simp)) rfl rfl
  refine call_function_tree F.kind_any F.plain_any F.entry_any (F.args_any1 _) ?_
  unfold Builtin.«any»
  refine wpAny_bind (m := oneArg "any" _) (wpAny_pure ?_)
  refine wpAny_bind (wpAny_pyIter_gen S0.1 ?_)
  refine wpAny_pure ⟨plainId_quiet F.plain_any_loop _, any_loopG (A := X.A) hr.hd (by have := hr.dp; show X.A.depth < _; omega) ?_ ?_ bs.length 0 s1 (by simp) (fun i hi => absurd hi (by omega)) S0⟩
  · intro s' m hb
    obtain ⟨H', I', c'⟩ := mid_inv I1 hex m
    exact ⟨.bl false, H', I', rfl, q1 H' c' hb⟩
  · intro j s' hj m
    obtain ⟨H', I', c'⟩ := mid_inv I1 hex m
    exact ⟨.bl true, H', I', rfl, q2 j H' hj c'⟩
theorem pe_allG {e : Expr} {tg : TGN} (h : PGN X k e tg) (hr : Room (k + 4) X.A) (hg : Gl X "all") (hmg : X.mg "all" = none)
    (he : starEach [e] X.env = (false, eval e X.env) :: starEach [] X.env := by rfl) : PE X (.Call (.Name "all" p) [e] [] pos) (tAllG tg) := by
  refine ⟨fun pins s σ H Q I hq => ?_⟩
  refine wpAny_Call_Name_kw (ld_blt I hg hmg (by decide +kernel : bootBuiltins "all" = some (.builtin "all")) ?_ (by decide) (by decide))
  refine PyProof.Rows.callWith_builtin1 ?_ he rfl
  rw [he]
  show wpAny _ _ (spliced ((false, eval e X.env) :: backTo pos (starEach [] X.env))) _ _ s
  refine Calls.spliced_cons (thn (h.run pins s σ H _ I hq) ?_)
  rintro u s1 ⟨H1, sc, ex, ys, out, cont, I1, hex, hG, bs, rfl, q1, q2⟩
  refine Calls.spliced_nil ?_
  obtain ⟨a, g, rfl, _, S0⟩ := src_of (A := X.A.in1) (ps := []) (s2 := s1) (a := 0) hG ((Room.in1 (Room.in1 (hr.mono (by omega) : Room (k + 2) X.A)))) I1.ok.frames (fun p hp => absurd hp (by simp)) (fun _ _ e => e) (fun p hp => absurd hp (by simp)) rfl rfl
  refine call_function_tree F.kind_all F.plain_all F.entry_all (F.args_all1 _) ?_
  unfold Builtin.«all»
  refine wpAny_bind (m := oneArg "all" _) (wpAny_pure ?_)
  refine wpAny_bind (wpAny_pyIter_gen S0.1 ?_)
  refine wpAny_pure ⟨plainId_quiet F.plain_all_loop _, all_loopG (A := X.A) hr.hd (by have := hr.dp; show X.A.depth < _; omega) ?_ ?_ bs.length 0 s1 (by simp) (fun i hi => absurd hi (by omega)) S0⟩
  · intro s' m hb
    obtain ⟨H', I', c'⟩ := mid_inv I1 hex m
    exact ⟨.bl true, H', I', rfl, q1 H' c' hb⟩
  · intro j s' hj m
    obtain ⟨H', I', c'⟩ := mid_inv I1 hex m
    exact ⟨.bl false, H', I', rfl, q2 j H' hj c'⟩
end
end Y

set_option Elab.async false
set_option linter.all false
set_option maxRecDepth 100000
set_option maxHeartbeats 4000000
namespace Y
open PySem PySem.Spec L2 LamX
open PyProof.Rows (AllBare)

section
variable {P : Program} {w : World} {outer : List Env} {H1 : Hp} {sc s : Shared} {ex : List Addr} {a : Addr} {g : Nat} {out : Nat → Hp → Prop} {cont : Hp → Prop} {R : Result → Shared → Prop} {A : Around}

/-- min(..): the best so far stands twice in the list at S -/
theorem min_loopG {ns : List Int} {S : Addr} (hh : A.handled = none) (hd : A.depth < recursionLimit)
    (hend : ∀ (s' : Shared) (v : Int) (t : Tok) (c : Nat), Mid P w outer H1 sc ex [S] cont s' → s'.heap.get? S = some (lstObj #[] c) → v ∈ ns → (∀ y ∈ ns, v ≤ y) → R (.ok (.ret (.int v t))) s') :
    ∀ (k j : Nat) (s : Shared) (v : Int) (t : Tok) (c : Nat), ns.length - j = k → v ∈ ns.take j → (∀ y ∈ ns.take j, v ≤ y) → s.heap.get? S = some (lstObj #[.int v t, .int v t] c) →
      Src P w outer H1 sc ex [S] a g (ns.map V.int) out cont A.in1 j s → codeAny (model P w) A (.builtin "min.loop" ⟨[.ref a, .none, .ref S], []⟩) R s := by
  have hname : (toString "min" ++ toString ".loop" : String) = "min.loop" := by decide
  intro k
  induction k with
  | zero =>
    intro j s v t c hk hv hle hS h
    have hj : j = ns.length := by have := h.2.2.1; simp at this; omega
    refine codeAny_builtin F.entry_min_loop ?_
    rw [Around.under_plainId F.plain_min_loop _]
    show wpAny _ A.in1 (seqItems? (.ref S) >>= _) _ _ s
    refine wpAny_bind (wpAny_seqItems hS rfl ?_)
    show wpAny _ A.in1 (tryCatch (pyNext (.ref a)) _ >>= _) _ _ s
    refine wpAny_bind (wpAny_tryCatch (src_next (A := A.in1) hh hd h ?_ ?_))
    · intro v y s' e1
      have := (List.getElem?_eq_some_iff.mp e1).1
      simp at this
      omega
    · intro s' _ m keep
      have hS' := keep S (by simp) _ hS
      show wpAny _ A.in1 (updateSeq S (fun _ => #[]) >>= _) _ _ _
      refine wpAny_bind ?_
      refine wpAny_updateSeq hS' rfl (wpAny_bind (wpAny_letGo (wpAny_pure ?_)))
      rw [hj, List.take_length] at hv hle
      exact hend _ v t _ (m.at (by simp) (fun b o hb e => (Heap.get?_update_other _ _ (Ne.symm hb)).trans e) ⟨_, Heap.get?_update_self _ hS' rfl⟩) (Heap.get?_update_self _ hS' rfl) hv hle
  | succ k ih =>
    intro j s v t c hk hv hle hS h
    have hlt : j < ns.length := by omega
    have tk : ns.take (j + 1) = ns.take j ++ [ns[j]] := by rw [List.take_succ, List.getElem?_eq_getElem hlt]; rfl
    refine codeAny_builtin F.entry_min_loop ?_
    rw [Around.under_plainId F.plain_min_loop _]
    show wpAny _ A.in1 (seqItems? (.ref S) >>= _) _ _ s
    refine wpAny_bind (wpAny_seqItems hS rfl ?_)
    show wpAny _ A.in1 (tryCatch (pyNext (.ref a)) _ >>= _) _ _ s
    refine wpAny_bind (wpAny_tryCatch (src_next (A := A.in1) hh hd h ?_ ?_))
    · intro vv y s' e1 r m keep go g1 g2
      rw [List.getElem?_map, List.getElem?_eq_getElem hlt] at e1
      cases e1
      obtain ⟨t2, rfl⟩ := (show ∃ t2, vv = Value.int (ns[j]) t2 from r)
      have hS' := keep S (by simp) _ hS
      have hcmp : CmpOf P w A.in1 .Lt (fun i x => ∃ t', x = Value.int (if i = 0 then ns[j] else v) t') _ := CmpOf.ints_lt (fun i => if i = 0 then ns[j] else v) (fun i v h => h)
      show wpAny _ A.in1 (tryCatch (holding [Value.int (ns[j]) t2, Value.int (ns[j]) t2] (richCompare .Lt (Value.int (ns[j]) t2) (Value.int v t) >>= _)) _ >>= _) _ _ _
      refine wpAny_bind (wpAny_tryCatch (wpAny_holding (wpAny_bind (hcmp 0 1 _ _ _ _ _ ⟨t2, rfl⟩ ⟨t, rfl⟩ ?_))))
      refine wpAny_bind (wpAny_holding (wpAny_truthy_bool ?_))
      refine wpAny_bind (wpAny_letGo (wpAny_pure ?_))
      simp only [if_true, Nat.one_ne_zero, if_false]
      have self : ∀ (o : Obj) (h' : Heap), (∀ v, o.data ≠ .cell v) → h'.get? S = some o → (∀ b o, b ≠ S → s'.heap.get? b = some o → h'.get? b = some o) → Wrk [S] s' { s' with heap := h' } := fun o h' nc e kp =>
        ⟨rfl, m.2.1, fun b o hb e => kp b o (fun z => hb (by rw [z]; exact List.mem_singleton.mpr rfl)) e, [(S, o)], rfl, fun p hp => by rw [List.mem_singleton.mp hp]; exact ⟨e, nc⟩⟩
      by_cases hb : ns[j] < v
      · have hb' : decide (ns[j] < v) = true := decide_eq_true hb
        rw [hb']
        simp only [if_true]
        refine wpAny_bind ?_
        refine wpAny_updateSeq hS' rfl (wpAny_bind (wpAny_letGo ?_))
        rw [hname]
        have oth : ∀ b o, b ≠ S → s'.heap.get? b = some o → (s'.heap.update S (Obj.mapSeq fun _ => #[Value.int (ns[j]) t2, Value.int (ns[j]) t2])).get? b = some o := fun b o hb e => (Heap.get?_update_other _ _ (Ne.symm hb)).trans e
        have neS : S ≠ a := by
          intro z
          obtain ⟨o, _, _, eo, ec, _⟩ := g1
          rw [z] at hS'
          rw [hS'] at eo
          cases eo
          injection (show Value.type "list" = Value.type "generator" from ec) with e2
          exact absurd e2 (by decide)
        have neC : S ≠ cStatics := by
          intro z
          obtain ⟨_, ⟨o, _, _, eo, ed, _⟩, _⟩ := g2
          rw [z] at hS'
          rw [hS'] at eo
          cases eo
          cases ed
        refine wpAny_pure ⟨plainId_quiet F.plain_min_loop _, ih (j + 1) _ (ns[j]) t2 _ (by omega) (by rw [tk]; exact List.mem_append_right _ List.mem_cons_self) ?_ (Heap.get?_update_self _ hS' rfl)
          (go _ (self _ _ (fun v q => by cases q) (Heap.get?_update_self _ hS' rfl) oth) rfl ?_ ?_)⟩
        · intro y hy
          rw [tk] at hy
          rcases List.mem_append.mp hy with z | z
          · have := hle y z; omega
          · have := List.mem_singleton.mp z; omega
        · obtain ⟨o, nm, qn, eo, r⟩ := g1
          exact ⟨o, nm, qn, oth _ _ (Ne.symm neS) eo, r⟩
        · obtain ⟨mc, hns, hnn⟩ := g2
          exact ⟨mc, hns.at' fun o e => oth _ o (Ne.symm neC) e, hnn⟩
      · have hb' : decide (ns[j] < v) = false := decide_eq_false hb
        rw [hb']
        simp only [Bool.false_eq_true, if_false]
        refine wpAny_bind (wpAny_letGo ?_)
        rw [hname]
        refine wpAny_pure ⟨plainId_quiet F.plain_min_loop _, ih (j + 1) _ v t c (by omega) (by rw [tk]; exact List.mem_append_left _ hv) ?_ hS' (go s' (self _ _ (fun v q => by cases q) hS' fun _ _ _ e => e) rfl g1 g2)⟩
        intro y hy
        rw [tk] at hy
        rcases List.mem_append.mp hy with z | z
        · exact hle y z
        · have := List.mem_singleton.mp z; omega
    · intro s' e
      simp at e
      omega
/-- min(..), from the beginning -/
theorem min_firstG {ns : List Int} {S : Addr} (hh : A.handled = none) (hd : A.depth < recursionLimit) (hpos : 0 < ns.length)
    (hend : ∀ (s' : Shared) (v : Int) (t : Tok) (c : Nat), Mid P w outer H1 sc ex [S] cont s' → s'.heap.get? S = some (lstObj #[] c) → v ∈ ns → (∀ y ∈ ns, v ≤ y) → R (.ok (.ret (.int v t))) s') {s : Shared} {c : Nat} (tk0 : Nat)
    (hS : s.heap.get? S = some (lstObj #[] c)) (h : Src P w outer H1 sc ex [S] a g (ns.map V.int) out cont A.in1 0 s) : codeAny (model P w) A (.builtin "min.loop" ⟨[.ref a, .none, .ref S], []⟩) R s := by
  have hname : (toString "min" ++ toString ".loop" : String) = "min.loop" := by decide
  refine codeAny_builtin F.entry_min_loop ?_
  rw [Around.under_plainId F.plain_min_loop _]
  show wpAny _ A.in1 (seqItems? (.ref S) >>= _) _ _ s
  refine wpAny_bind (wpAny_seqItems hS rfl ?_)
  show wpAny _ A.in1 (tryCatch (pyNext (.ref a)) _ >>= _) _ _ s
  refine wpAny_bind (wpAny_tryCatch (src_next (A := A.in1) hh hd h ?_ ?_))
  · intro vv y s' e1 r m keep go g1 g2
    rw [List.getElem?_map, List.getElem?_eq_getElem hpos] at e1
    cases e1
    obtain ⟨t2, rfl⟩ := (show ∃ t2, vv = Value.int (ns[0]) t2 from r)
    have hS' := keep S (by simp) _ hS
    show wpAny _ A.in1 (updateSeq S (fun _ => #[Value.int (ns[0]) t2, Value.int (ns[0]) t2]) >>= _) _ _ _
    refine wpAny_bind ?_
    refine wpAny_updateSeq hS' rfl ?_
    rw [hname]
    have oth : ∀ b o, b ≠ S → s'.heap.get? b = some o → (s'.heap.update S (Obj.mapSeq fun _ => #[Value.int (ns[0]) t2, Value.int (ns[0]) t2])).get? b = some o := fun b o hb e => (Heap.get?_update_other _ _ (Ne.symm hb)).trans e
    have neS : S ≠ a := by
      intro z
      obtain ⟨o, _, _, eo, ec, _⟩ := g1
      rw [z] at hS'
      rw [hS'] at eo
      cases eo
      injection (show Value.type "list" = Value.type "generator" from ec) with e2
      exact absurd e2 (by decide)
    have neC : S ≠ cStatics := by
      intro z
      obtain ⟨_, ⟨o, _, _, eo, ed, _⟩, _⟩ := g2
      rw [z] at hS'
      rw [hS'] at eo
      cases eo
      cases ed
    have tk : ns.take 1 = [ns[0]] := by
      have := List.take_succ (l := ns) (i := 0)
      rw [List.getElem?_eq_getElem hpos] at this
      simpa using this
    refine wpAny_pure ⟨plainId_quiet F.plain_min_loop _, min_loopG hh hd hend (ns.length - 1) 1 _ (ns[0]) t2 _ rfl (by rw [tk]; exact List.mem_cons_self) (fun y hy => by rw [tk] at hy; have := List.mem_singleton.mp hy; omega) (Heap.get?_update_self _ hS' rfl)
      (go _ ⟨rfl, m.2.1, fun b o hb e => oth b o (fun z => hb (by rw [z]; exact List.mem_singleton.mpr rfl)) e, [(S, _)], rfl, fun p hp => by rw [List.mem_singleton.mp hp]; exact ⟨Heap.get?_update_self _ hS' rfl, fun v q => by cases q⟩⟩ rfl ?_ ?_)⟩
    · obtain ⟨o, nm, qn, eo, r⟩ := g1
      exact ⟨o, nm, qn, oth _ _ (Ne.symm neS) eo, r⟩
    · obtain ⟨mc, hns, hnn⟩ := g2
      exact ⟨mc, hns.at' fun o e => oth _ o (Ne.symm neC) e, hnn⟩
  · intro s' e
    simp at e
    omega

/-- max(..): the best so far stands twice in the list at S -/
theorem max_loopG {ns : List Int} {S : Addr} (hh : A.handled = none) (hd : A.depth < recursionLimit)
    (hend : ∀ (s' : Shared) (v : Int) (t : Tok) (c : Nat), Mid P w outer H1 sc ex [S] cont s' → s'.heap.get? S = some (lstObj #[] c) → v ∈ ns → (∀ y ∈ ns, y ≤ v) → R (.ok (.ret (.int v t))) s') :
    ∀ (k j : Nat) (s : Shared) (v : Int) (t : Tok) (c : Nat), ns.length - j = k → v ∈ ns.take j → (∀ y ∈ ns.take j, y ≤ v) → s.heap.get? S = some (lstObj #[.int v t, .int v t] c) →
      Src P w outer H1 sc ex [S] a g (ns.map V.int) out cont A.in1 j s → codeAny (model P w) A (.builtin "max.loop" ⟨[.ref a, .none, .ref S], []⟩) R s := by
  have hname : (toString "max" ++ toString ".loop" : String) = "max.loop" := by decide
  intro k
  induction k with
  | zero =>
    intro j s v t c hk hv hle hS h
    have hj : j = ns.length := by have := h.2.2.1; simp at this; omega
    refine codeAny_builtin F.entry_max_loop ?_
    rw [Around.under_plainId F.plain_max_loop _]
    show wpAny _ A.in1 (seqItems? (.ref S) >>= _) _ _ s
    refine wpAny_bind (wpAny_seqItems hS rfl ?_)
    show wpAny _ A.in1 (tryCatch (pyNext (.ref a)) _ >>= _) _ _ s
    refine wpAny_bind (wpAny_tryCatch (src_next (A := A.in1) hh hd h ?_ ?_))
    · intro v y s' e1
      have := (List.getElem?_eq_some_iff.mp e1).1
      simp at this
      omega
    · intro s' _ m keep
      have hS' := keep S (by simp) _ hS
      show wpAny _ A.in1 (updateSeq S (fun _ => #[]) >>= _) _ _ _
      refine wpAny_bind ?_
      refine wpAny_updateSeq hS' rfl (wpAny_bind (wpAny_letGo (wpAny_pure ?_)))
      rw [hj, List.take_length] at hv hle
      exact hend _ v t _ (m.at (by simp) (fun b o hb e => (Heap.get?_update_other _ _ (Ne.symm hb)).trans e) ⟨_, Heap.get?_update_self _ hS' rfl⟩) (Heap.get?_update_self _ hS' rfl) hv hle
  | succ k ih =>
    intro j s v t c hk hv hle hS h
    have hlt : j < ns.length := by omega
    have tk : ns.take (j + 1) = ns.take j ++ [ns[j]] := by rw [List.take_succ, List.getElem?_eq_getElem hlt]; rfl
    refine codeAny_builtin F.entry_max_loop ?_
    rw [Around.under_plainId F.plain_max_loop _]
    show wpAny _ A.in1 (seqItems? (.ref S) >>= _) _ _ s
    refine wpAny_bind (wpAny_seqItems hS rfl ?_)
    show wpAny _ A.in1 (tryCatch (pyNext (.ref a)) _ >>= _) _ _ s
    refine wpAny_bind (wpAny_tryCatch (src_next (A := A.in1) hh hd h ?_ ?_))
    · intro vv y s' e1 r m keep go g1 g2
      rw [List.getElem?_map, List.getElem?_eq_getElem hlt] at e1
      cases e1
      obtain ⟨t2, rfl⟩ := (show ∃ t2, vv = Value.int (ns[j]) t2 from r)
      have hS' := keep S (by simp) _ hS
      have hcmp : CmpOf P w A.in1 .Gt (fun i x => ∃ t', x = Value.int (if i = 0 then ns[j] else v) t') _ := CmpOf.ints_gt (fun i => if i = 0 then ns[j] else v) (fun i v h => h)
      show wpAny _ A.in1 (tryCatch (holding [Value.int (ns[j]) t2, Value.int (ns[j]) t2] (richCompare .Gt (Value.int (ns[j]) t2) (Value.int v t) >>= _)) _ >>= _) _ _ _
      refine wpAny_bind (wpAny_tryCatch (wpAny_holding (wpAny_bind (hcmp 0 1 _ _ _ _ _ ⟨t2, rfl⟩ ⟨t, rfl⟩ ?_))))
      refine wpAny_bind (wpAny_holding (wpAny_truthy_bool ?_))
      refine wpAny_bind (wpAny_letGo (wpAny_pure ?_))
      simp only [if_true, Nat.one_ne_zero, if_false]
      have self : ∀ (o : Obj) (h' : Heap), (∀ v, o.data ≠ .cell v) → h'.get? S = some o → (∀ b o, b ≠ S → s'.heap.get? b = some o → h'.get? b = some o) → Wrk [S] s' { s' with heap := h' } := fun o h' nc e kp =>
        ⟨rfl, m.2.1, fun b o hb e => kp b o (fun z => hb (by rw [z]; exact List.mem_singleton.mpr rfl)) e, [(S, o)], rfl, fun p hp => by rw [List.mem_singleton.mp hp]; exact ⟨e, nc⟩⟩
      by_cases hb : v < ns[j]
      · have hb' : decide (v < ns[j]) = true := decide_eq_true hb
        rw [hb']
        simp only [if_true]
        refine wpAny_bind ?_
        refine wpAny_updateSeq hS' rfl (wpAny_bind (wpAny_letGo ?_))
        rw [hname]
        have oth : ∀ b o, b ≠ S → s'.heap.get? b = some o → (s'.heap.update S (Obj.mapSeq fun _ => #[Value.int (ns[j]) t2, Value.int (ns[j]) t2])).get? b = some o := fun b o hb e => (Heap.get?_update_other _ _ (Ne.symm hb)).trans e
        have neS : S ≠ a := by
          intro z
          obtain ⟨o, _, _, eo, ec, _⟩ := g1
          rw [z] at hS'
          rw [hS'] at eo
          cases eo
          injection (show Value.type "list" = Value.type "generator" from ec) with e2
          exact absurd e2 (by decide)
        have neC : S ≠ cStatics := by
          intro z
          obtain ⟨_, ⟨o, _, _, eo, ed, _⟩, _⟩ := g2
          rw [z] at hS'
          rw [hS'] at eo
          cases eo
          cases ed
        refine wpAny_pure ⟨plainId_quiet F.plain_max_loop _, ih (j + 1) _ (ns[j]) t2 _ (by omega) (by rw [tk]; exact List.mem_append_right _ List.mem_cons_self) ?_ (Heap.get?_update_self _ hS' rfl)
          (go _ (self _ _ (fun v q => by cases q) (Heap.get?_update_self _ hS' rfl) oth) rfl ?_ ?_)⟩
        · intro y hy
          rw [tk] at hy
          rcases List.mem_append.mp hy with z | z
          · have := hle y z; omega
          · have := List.mem_singleton.mp z; omega
        · obtain ⟨o, nm, qn, eo, r⟩ := g1
          exact ⟨o, nm, qn, oth _ _ (Ne.symm neS) eo, r⟩
        · obtain ⟨mc, hns, hnn⟩ := g2
          exact ⟨mc, hns.at' fun o e => oth _ o (Ne.symm neC) e, hnn⟩
      · have hb' : decide (v < ns[j]) = false := decide_eq_false hb
        rw [hb']
        simp only [Bool.false_eq_true, if_false]
        refine wpAny_bind (wpAny_letGo ?_)
        rw [hname]
        refine wpAny_pure ⟨plainId_quiet F.plain_max_loop _, ih (j + 1) _ v t c (by omega) (by rw [tk]; exact List.mem_append_left _ hv) ?_ hS' (go s' (self _ _ (fun v q => by cases q) hS' fun _ _ _ e => e) rfl g1 g2)⟩
        intro y hy
        rw [tk] at hy
        rcases List.mem_append.mp hy with z | z
        · exact hle y z
        · have := List.mem_singleton.mp z; omega
    · intro s' e
      simp at e
      omega
/-- max(..), from the beginning -/
theorem max_firstG {ns : List Int} {S : Addr} (hh : A.handled = none) (hd : A.depth < recursionLimit) (hpos : 0 < ns.length)
    (hend : ∀ (s' : Shared) (v : Int) (t : Tok) (c : Nat), Mid P w outer H1 sc ex [S] cont s' → s'.heap.get? S = some (lstObj #[] c) → v ∈ ns → (∀ y ∈ ns, y ≤ v) → R (.ok (.ret (.int v t))) s') {s : Shared} {c : Nat} (tk0 : Nat)
    (hS : s.heap.get? S = some (lstObj #[] c)) (h : Src P w outer H1 sc ex [S] a g (ns.map V.int) out cont A.in1 0 s) : codeAny (model P w) A (.builtin "max.loop" ⟨[.ref a, .none, .ref S], []⟩) R s := by
  have hname : (toString "max" ++ toString ".loop" : String) = "max.loop" := by decide
  refine codeAny_builtin F.entry_max_loop ?_
  rw [Around.under_plainId F.plain_max_loop _]
  show wpAny _ A.in1 (seqItems? (.ref S) >>= _) _ _ s
  refine wpAny_bind (wpAny_seqItems hS rfl ?_)
  show wpAny _ A.in1 (tryCatch (pyNext (.ref a)) _ >>= _) _ _ s
  refine wpAny_bind (wpAny_tryCatch (src_next (A := A.in1) hh hd h ?_ ?_))
  · intro vv y s' e1 r m keep go g1 g2
    rw [List.getElem?_map, List.getElem?_eq_getElem hpos] at e1
    cases e1
    obtain ⟨t2, rfl⟩ := (show ∃ t2, vv = Value.int (ns[0]) t2 from r)
    have hS' := keep S (by simp) _ hS
    show wpAny _ A.in1 (updateSeq S (fun _ => #[Value.int (ns[0]) t2, Value.int (ns[0]) t2]) >>= _) _ _ _
    refine wpAny_bind ?_
    refine wpAny_updateSeq hS' rfl ?_
    rw [hname]
    have oth : ∀ b o, b ≠ S → s'.heap.get? b = some o → (s'.heap.update S (Obj.mapSeq fun _ => #[Value.int (ns[0]) t2, Value.int (ns[0]) t2])).get? b = some o := fun b o hb e => (Heap.get?_update_other _ _ (Ne.symm hb)).trans e
    have neS : S ≠ a := by
      intro z
      obtain ⟨o, _, _, eo, ec, _⟩ := g1
      rw [z] at hS'
      rw [hS'] at eo
      cases eo
      injection (show Value.type "list" = Value.type "generator" from ec) with e2
      exact absurd e2 (by decide)
    have neC : S ≠ cStatics := by
      intro z
      obtain ⟨_, ⟨o, _, _, eo, ed, _⟩, _⟩ := g2
      rw [z] at hS'
      rw [hS'] at eo
      cases eo
      cases ed
    have tk : ns.take 1 = [ns[0]] := by
      have := List.take_succ (l := ns) (i := 0)
      rw [List.getElem?_eq_getElem hpos] at this
      simpa using this
    refine wpAny_pure ⟨plainId_quiet F.plain_max_loop _, max_loopG hh hd hend (ns.length - 1) 1 _ (ns[0]) t2 _ rfl (by rw [tk]; exact List.mem_cons_self) (fun y hy => by rw [tk] at hy; have := List.mem_singleton.mp hy; omega) (Heap.get?_update_self _ hS' rfl)
      (go _ ⟨rfl, m.2.1, fun b o hb e => oth b o (fun z => hb (by rw [z]; exact List.mem_singleton.mpr rfl)) e, [(S, _)], rfl, fun p hp => by rw [List.mem_singleton.mp hp]; exact ⟨Heap.get?_update_self _ hS' rfl, fun v q => by cases q⟩⟩ rfl ?_ ?_)⟩
    · obtain ⟨o, nm, qn, eo, r⟩ := g1
      exact ⟨o, nm, qn, oth _ _ (Ne.symm neS) eo, r⟩
    · obtain ⟨mc, hns, hnn⟩ := g2
      exact ⟨mc, hns.at' fun o e => oth _ o (Ne.symm neC) e, hnn⟩
  · intro s' e
    simp at e
    omega
end

/-- min(g), g hands out the ints ns -/
def tMinG (tg : TGN) : TE := fun σ H Q => tg σ H fun ys out cont => ∃ ns : List Int, ys = ns.map V.int ∧ 0 < ns.length ∧ ∀ H' v, cont H' → v ∈ ns → (∀ y ∈ ns, v ≤ y) → Q (.int v) H'
theorem pe_minG {X : Cx} {k : Nat} {p pos : Pos} {e : Expr} {tg : TGN} (h : PGN X k e tg) (hr : Room (k + 4) X.A) (hg : Gl X "min") (hmg : X.mg "min" = none)
    (he : starEach [e] X.env = (false, eval e X.env) :: starEach [] X.env := by rfl) : PE X (.Call (.Name "min" p) [e] [] pos) (tMinG tg) := by
  refine ⟨fun pins s σ H Q I hq => ?_⟩
  refine wpAny_Call_Name_kw (ld_blt I hg hmg (by decide +kernel : bootBuiltins "min" = some (.builtin "min")) ?_ (by decide) (by decide))
  refine PyProof.Rows.callWith_builtin1 ?_ he rfl
  rw [he]
  show wpAny _ _ (spliced ((false, eval e X.env) :: backTo pos (starEach [] X.env))) _ _ s
  refine Calls.spliced_cons (thn (h.run pins s σ H _ I hq) ?_)
  rintro u s1 ⟨H1, sc, ex, ys, out, cont, I1, hex, hG, ns, rfl, hpos, q⟩
  refine Calls.spliced_nil ?_
  have hsc : sc.heap.objs.size ≤ s1.heap.objs.size := let ⟨_, _, _, _, h1, h2, _⟩ := hG; Nat.le_trans h1 (Nat.le_of_lt h2)
  have hname : (toString "min" ++ toString ".loop" : String) = "min.loop" := by decide
  have new0 : (s1.heap.push { cls := .type "list", data := .seq ([] : List Value).toArray }).get? s1.heap.objs.size = some (lstObj #[] 0) := Heap.get?_push_size _ rfl
  obtain ⟨a, g, rfl, gen1, S0⟩ := src_of (A := X.A.in1) (ps := [(s1.heap.objs.size, lstObj #[] 0)]) (s2 := { s1 with heap := s1.heap.push { cls := .type "list", data := .seq ([] : List Value).toArray } }) (a := 0) hG ((Room.in1 (Room.in1 (hr.mono (by omega) : Room (k + 2) X.A)))) I1.ok.frames
    (fun p hp => by rw [List.mem_singleton.mp hp]; exact Nat.le_refl _) (fun _ _ e => Heap.get?_push_of_some _ e) (fun p hp => by rw [List.mem_singleton.mp hp]; exact ⟨new0, fun v q => by cases q⟩) rfl rfl
  refine call_function_tree F.kind_min F.plain_min F.entry_min (F.args_min1 _) ?_
  show wpAny _ X.A.in1 (Builtin.Builtins.bindParams "min" ["key", "default"] 0 ⟨[], []⟩ >>= _) _ _ s1
  refine wpAny_bind (wpAny_of_eq (show Builtin.Builtins.bindParams "min" ["key", "default"] 0 ⟨[], []⟩ = pure [none, none] from rfl) ?_)
  refine wpAny_bind (wpAny_pure ?_)
  refine wpAny_bind (wpAny_pyIter_gen gen1 ?_)
  refine wpAny_bind (wpAny_newObj_type ?_)
  rw [hname]
  refine wpAny_pure ⟨plainId_quiet F.plain_min_loop _, min_firstG (A := X.A) hr.hd (by have := hr.dp; show X.A.depth < _; omega) hpos ?_ s1.toks new0 S0⟩
  intro s' v t c m e hv hle
  obtain ⟨H', I', c'⟩ := mid_inv I1 hex m
  exact ⟨.int v, H', I', ⟨t, rfl⟩, q H' v c' hv hle⟩

/-- max(g), g hands out the ints ns -/
def tMaxG (tg : TGN) : TE := fun σ H Q => tg σ H fun ys out cont => ∃ ns : List Int, ys = ns.map V.int ∧ 0 < ns.length ∧ ∀ H' v, cont H' → v ∈ ns → (∀ y ∈ ns, y ≤ v) → Q (.int v) H'
theorem pe_maxG {X : Cx} {k : Nat} {p pos : Pos} {e : Expr} {tg : TGN} (h : PGN X k e tg) (hr : Room (k + 4) X.A) (hg : Gl X "max") (hmg : X.mg "max" = none)
    (he : starEach [e] X.env = (false, eval e X.env) :: starEach [] X.env := by rfl) : PE X (.Call (.Name "max" p) [e] [] pos) (tMaxG tg) := by
  refine ⟨fun pins s σ H Q I hq => ?_⟩
  refine wpAny_Call_Name_kw (ld_blt I hg hmg (by decide +kernel : bootBuiltins "max" = some (.builtin "max")) ?_ (by decide) (by decide))
  refine PyProof.Rows.callWith_builtin1 ?_ he rfl
  rw [he]
  show wpAny _ _ (spliced ((false, eval e X.env) :: backTo pos (starEach [] X.env))) _ _ s
  refine Calls.spliced_cons (thn (h.run pins s σ H _ I hq) ?_)
  rintro u s1 ⟨H1, sc, ex, ys, out, cont, I1, hex, hG, ns, rfl, hpos, q⟩
  refine Calls.spliced_nil ?_
  have hsc : sc.heap.objs.size ≤ s1.heap.objs.size := let ⟨_, _, _, _, h1, h2, _⟩ := hG; Nat.le_trans h1 (Nat.le_of_lt h2)
  have hname : (toString "max" ++ toString ".loop" : String) = "max.loop" := by decide
  have new0 : (s1.heap.push { cls := .type "list", data := .seq ([] : List Value).toArray }).get? s1.heap.objs.size = some (lstObj #[] 0) := Heap.get?_push_size _ rfl
  obtain ⟨a, g, rfl, gen1, S0⟩ := src_of (A := X.A.in1) (ps := [(s1.heap.objs.size, lstObj #[] 0)]) (s2 := { s1 with heap := s1.heap.push { cls := .type "list", data := .seq ([] : List Value).toArray } }) (a := 0) hG ((Room.in1 (Room.in1 (hr.mono (by omega) : Room (k + 2) X.A)))) I1.ok.frames
    (fun p hp => by rw [List.mem_singleton.mp hp]; exact Nat.le_refl _) (fun _ _ e => Heap.get?_push_of_some _ e) (fun p hp => by rw [List.mem_singleton.mp hp]; exact ⟨new0, fun v q => by cases q⟩) rfl rfl
  refine call_function_tree F.kind_max F.plain_max F.entry_max (F.args_max1 _) ?_
  show wpAny _ X.A.in1 (Builtin.Builtins.bindParams "max" ["key", "default"] 0 ⟨[], []⟩ >>= _) _ _ s1
  refine wpAny_bind (wpAny_of_eq (show Builtin.Builtins.bindParams "max" ["key", "default"] 0 ⟨[], []⟩ = pure [none, none] from rfl) ?_)
  refine wpAny_bind (wpAny_pure ?_)
  refine wpAny_bind (wpAny_pyIter_gen gen1 ?_)
  refine wpAny_bind (wpAny_newObj_type ?_)
  rw [hname]
  refine wpAny_pure ⟨plainId_quiet F.plain_max_loop _, max_firstG (A := X.A) hr.hd (by have := hr.dp; show X.A.depth < _; omega) hpos ?_ s1.toks new0 S0⟩
  intro s' v t c m e hv hle
  obtain ⟨H', I', c'⟩ := mid_inv I1 hex m
  exact ⟨.int v, H', I', ⟨t, rfl⟩, q H' v c' hv hle⟩
end Y

set_option Elab.async false
set_option linter.all false
set_option maxRecDepth 100000
set_option maxHeartbeats 4000000
/-! own layer: what may change in a heap; rules by values; small wrappers -/
namespace Y
open PySem PySem.Spec L2 LamX
abbrev FS := List (Str × V)

/-! ### what changes -/
def isTbl : HO → Bool
  | .tbl _ => true
  | _ => false
theorem isTbl_ne {o : HO} (h : isTbl o = false) : ∀ ps, o ≠ .tbl ps := fun ps e => by rw [e] at h; cases h
/-- all but S (and tables) stays; nothing goes -/
structure Chg (T : List (Addr × Str)) (S : Addr → Prop) (H H' : Hp) : Prop where
  keep : ∀ b o, H b = some o → ¬ S b → (∀ ps, o ≠ .tbl ps) → H' b = some o
  dom : ∀ b, H' b = none → H b = none
  tabs : Tabs T H → Tabs T H'
def nil : Addr → Prop := fun _ => False
section
variable {T : List (Addr × Str)} {S S' : Addr → Prop} {H H1 H2 H' : Hp} {a b l p : Addr} {o u : HO}
theorem Chg.look (c : Chg T S H H') (h : H b = some o) (n : ¬ S b) (nt : isTbl o = false) : H' b = some o := c.keep b o h n (isTbl_ne nt)
theorem Chg.refl (H : Hp) : Chg T S H H := ⟨fun _ _ h _ _ => h, fun _ h => h, fun h => h⟩
theorem Chg.trans (c : Chg T S H H1) (d : Chg T S' H1 H2) (s : ∀ b, S' b → S b ∨ H b = none) : Chg T S H H2 :=
  ⟨fun b o h n nt => d.keep b o (c.keep b o h n nt) (fun z => (s b z).elim n fun e => by rw [e] at h; cases h) nt, fun b h => c.dom b (d.dom b h), fun h => d.tabs (c.tabs h)⟩
theorem Chg.mono (c : Chg T S H H') (s : ∀ b, S b → S' b ∨ H b = none) : Chg T S' H H' :=
  ⟨fun b o h n nt => c.keep b o h (fun z => (s b z).elim n fun e => by rw [e] at h; cases h) nt, c.dom, c.tabs⟩
theorem Chg.any (c : Chg T nil H H') : Chg T S H H' := c.mono fun _ h => h.elim
theorem Chg.ofGrows (g : Grows T H H') : Chg T S H H' := ⟨fun b o h _ nt => g.ext b o h nt, g.dom, fun _ => g.tabs⟩
theorem Chg.seqL {K : PySem.W.Frag} {xs : List V} (c : Chg T S H H') (h : SqL K H a xs) (n : ¬ S a) : SqL K H' a xs := by
  rcases h with (h | ⟨ob, h⟩) | h
  · exact .inl (.inl (c.look h n rfl))
  · exact .inl (.inr ⟨ob, c.look h n rfl⟩)
  · exact .inr h

/-- something new at p -/
structure Nw (H : Hp) (p : Addr) (o : HO) (H' : Hp) : Prop where
  eq : H' = upd H p o
  new : H p = none
theorem Nw.at (n : Nw H p o H') : H' p = some o := by rw [n.eq]; exact upd_same
theorem Nw.look (n : Nw H p o H') (h : H b = some u) : H' b = some u := by rw [n.eq, upd_ne (ne_of_none h n.new)]; exact h
theorem Nw.dom (n : Nw H p o H') (h : H' b = none) : H b = none := by
  rw [n.eq] at h
  by_cases e : b = p
  · rw [e]; exact n.new
  · rwa [upd_ne e] at h
theorem Nw.chg (n : Nw H p o H') : Chg T S H H' := ⟨fun _ _ h _ _ => n.look h, fun _ h => n.dom h, fun h => h.ext fun _ _ e => n.look e⟩
theorem Nw.ne (n : Nw H p o H') (h : H b = some u) : b ≠ p := ne_of_none h n.new
/-- what stood at l is another thing -/
structure Wr (H : Hp) (l : Addr) (o : HO) (H' : Hp) : Prop where
  eq : H' = upd H l o
  old : ∃ u, H l = some u ∧ isTbl u = false ∧ ∀ φ, u ≠ .ext φ
theorem Wr.at (n : Wr H l o H') : H' l = some o := by rw [n.eq]; exact upd_same
theorem Wr.look (n : Wr H l o H') (h : H b = some u) (d : b ≠ l) : H' b = some u := by rw [n.eq, upd_ne d]; exact h
theorem Wr.dom (n : Wr H l o H') (h : H' b = none) : H b = none := by
  rw [n.eq] at h
  by_cases e : b = l
  · rw [e, upd_same] at h; cases h
  · rwa [upd_ne e] at h
theorem Wr.chg (n : Wr H l o H') (s : S l) : Chg T S H H' := by
  obtain ⟨u, e, t, x⟩ := n.old
  refine ⟨fun b o h m _ => n.look h fun z => m (z ▸ s), fun _ h => n.dom h, fun h p hp => ?_⟩
  obtain ⟨ps, h1, h2, h3⟩ := h p hp
  refine ⟨ps, n.look h1 fun z => ?_, h2, fun pos cv hc => ?_⟩
  · rw [z, e] at h1
    exact isTbl_ne t ps (Option.some.inj h1)
  · obtain ⟨c, e1, e2⟩ := h3 pos cv hc
    refine ⟨c, e1, n.look e2 fun z => ?_⟩
    rw [z, e] at e2
    exact x _ (Option.some.inj e2)
theorem nw_all {Q : Addr → Hp → Prop} (h : ∀ p H', Nw H p o H' → Q p H') : ∀ p, H p = none → Q p (upd H p o) := fun p hp => h p _ ⟨rfl, hp⟩
theorem wr_all {Q : Hp → Prop} (ho : H l = some u) (t : isTbl u = false) (x : ∀ φ, u ≠ .ext φ) (h : ∀ H', Wr H l o H' → Q H') : Q (upd H l o) := h _ ⟨rfl, u, ho, t, x⟩
end

/-! ### readings made weaker -/
def up (t : TE) : TE := fun σ H Q => ∃ Q0 : VK, t σ H Q0 ∧ ∀ v H', Q0 v H' → Q v H'
def upA (t : TA) : TA := fun σ H Q => ∃ Q0 : List V → Hp → Prop, t σ H Q0 ∧ ∀ v H', Q0 v H' → Q v H'
section
variable {X : Cx} {e : Expr} {es : List Expr} {t t' : TE} {ta : TA} {st : Stmt} {ts ts' : TS}
theorem peU (h : PE X e t) : PE X e (up t) := ⟨fun pins s σ H Q I ⟨Q0, a, b⟩ => thn (h.run pins s σ H Q0 I a) fun u s' ⟨v, H', J, r, q⟩ => ⟨v, H', J, r, b v H' q⟩⟩
theorem paU (h : PA X es ta) : PA X es (upA ta) := ⟨fun pos pins s σ H Q I ⟨Q0, a, b⟩ => thn (h.run pos pins s σ H Q0 I a) fun u s' ⟨v, H', J, r, q⟩ => ⟨v, H', J, r, b v H' q⟩⟩
theorem peI (h : PE X e t) (i : ∀ σ H Q, t' σ H Q → t σ H Q) : PE X e t' := ⟨fun pins s σ H Q I q => h.run pins s σ H Q I (i σ H Q q)⟩
theorem psI (h : PS X st ts) (i : ∀ D σ H, ts' D σ H → ts D σ H) : PS X st ts' := ⟨fun pins s σ H D I q => h.run pins s σ H D I (i D σ H q)⟩
end

section
variable {X : Cx} {e o value : Expr} {es : List Expr} {f m : Str} {te to tv ti : TE} {ta : TA} {C : Addr} {pos pos' tpos : Pos}
/-- o.f of an instance of the class at C -/
def tF (C : Addr) (f : Str) (te : TE) : TE := fun σ H Q => te σ H fun x H1 => ∃ p dx fs v, x = .ref p ∧ H1 p = some (.ins C dx fs) ∧ fs.lookup f = some v ∧ Q v H1
theorem pe_f (cl : Cls X.K C) (na : NoAttr X.K C f) (he : PE X e te) (hb : attributeBase e f X.env (eval e X.env) = eval e X.env := by rfl) : PE X (.Attribute e f pos) (tF C f te) :=
  peI (pe_fld (peU he) hb) fun σ H Q h => ⟨_, h, fun v H1 ⟨p, dx, fs, w, a, b, c, d⟩ => ⟨p, C, dx, fs, w, a, b, cl, na, c, d⟩⟩
/-- o.f = value -/
def sF (C : Addr) (f : Str) (to tv : TE) : TS := fun D σ H => tv σ H fun y H1 => to σ H1 fun x H2 => ∃ p dx fs, x = .ref p ∧ H2 p = some (.ins C dx fs) ∧ fs.length < 1000 ∧ ∀ H', Wr H2 p (.ins C dx (putF f y fs)) H' → D.nx σ H'
def upE2 (to : TE) : TE := up to
theorem ps_f (cl : Cls X.K C) (na : NoAttr X.K C f) (ho : PE X o to) (hv : PE X value tv) (hs : swapsWith value (some (.Attribute o f pos')) pos.line X.env = pure false := by rfl) : PS X (.Assign [.Attribute o f pos'] value pos) (sF C f to tv) :=
  psI (ps_fld (peU ho) (peU hv) hs) fun D σ H h => ⟨_, h, fun y H1 h1 => ⟨_, h1, fun x H2 ⟨p, dx, fs, a, b, c, d⟩ => ⟨p, C, dx, fs, a, b, cl, na, c, wr_all b rfl (fun _ z => nomatch z) d⟩⟩⟩
/-- o.f += value -/
def sFA (C : Addr) (f : Str) (rd : V → V → Hp → VK → Prop) (to tv : TE) : TS := fun D σ H => to σ H fun x H1 => ∃ p dx fs v, x = .ref p ∧ H1 p = some (.ins C dx fs) ∧ fs.lookup f = some v ∧
  tv σ H1 fun y H2 => rd v y H2 fun z H3 => ∃ dx' fs', H3 p = some (.ins C dx' fs') ∧ fs'.length < 1000 ∧ ∀ H', Wr H3 p (.ins C dx' (putF f z fs')) H' → D.nx σ H'
theorem ps_fa {op : Operator} {rd : V → V → Hp → VK → Prop} (cl : Cls X.K C) (na : NoAttr X.K C f) (hop : InOp X op rd) (ho : PE X o to) (hv : PE X value tv)
    (hm : ∀ x y H Q Q', (∀ v H', Q v H' → Q' v H') → rd x y H Q → rd x y H Q' := by
      intro x y H Q Q' i ⟨a, b, e1, e2, q⟩; exact ⟨a, b, e1, e2, i _ _ q⟩) : PS X (.AugAssign (.Attribute o f tpos) op value pos) (sFA C f rd to tv) :=
  psI (ps_fldaug (peU ho) (peU hv) hop) fun D σ H h => ⟨_, h, fun x H1 ⟨p, dx, fs, v, a, b, c, d⟩ => ⟨p, C, dx, fs, v, a, b, cl, na, c, ⟨_, d, fun y H2 h2 => hm _ _ _ _ _ (fun z H3 ⟨dx', fs', e1, e2, e3⟩ => ⟨dx', fs', e1, e2, wr_all e1 rfl (fun _ z => nomatch z) e3⟩) h2⟩⟩⟩
def tTu (t : TA) : TE := fun σ H Q => t σ H fun xs H1 => xs.length ≤ sizeLine ∧ ∀ p H', Nw H1 p (.tup xs) H' → Q (.ref p) H'
def tLs (t : TA) : TE := fun σ H Q => t σ H fun xs H1 => xs.length ≤ sizeLine ∧ ∀ p H', Nw H1 p (.lst xs) H' → Q (.ref p) H'
theorem pe_tu {x1} (h : PA X es ta) : PE X (.Tuple es x1 pos) (tTu ta) := peI (pe_tup (paU h)) fun σ H Q q => ⟨_, q, fun xs H1 ⟨a, b⟩ => ⟨a, nw_all b⟩⟩
theorem pe_ls (h : PA X es ta) : PE X (.List es pos) (tLs ta) := peI (pe_lst (paU h)) fun σ H Q q => ⟨_, q, fun xs H1 ⟨a, b⟩ => ⟨a, nw_all b⟩⟩
/-- C(..): the new instance is empty -/
structure Mkd (H : Hp) (C x dx : Addr) (H' : Hp) : Prop where
  eq : H' = upd (upd H dx (.own x)) x (.ins C dx [])
  nx : H x = none
  nd : H dx = none
  ne : dx ≠ x
theorem Mkd.at {H H' : Hp} {C x dx : Addr} (m : Mkd H C x dx H') : H' x = some (.ins C dx []) := by rw [m.eq]; exact upd_same
theorem Mkd.look {H H' : Hp} {C x dx b : Addr} {u : HO} (m : Mkd H C x dx H') (h : H b = some u) : H' b = some u := by
  rw [m.eq, upd_ne (ne_of_none h m.nx), upd_ne (ne_of_none h m.nd)]; exact h
theorem Mkd.dom {H H' : Hp} {C x dx b : Addr} (m : Mkd H C x dx H') (h : H' b = none) : H b = none := by
  rw [m.eq] at h
  by_cases e : b = x
  · rw [e]; exact m.nx
  · rw [upd_ne e] at h
    by_cases e2 : b = dx
    · rw [e2]; exact m.nd
    · rwa [upd_ne e2] at h
theorem Mkd.chg {T : List (Addr × Str)} {S : Addr → Prop} {H H' : Hp} {C x dx : Addr} (m : Mkd H C x dx H') : Chg T S H H' := ⟨fun _ _ h _ _ => m.look h, fun _ h => m.dom h, fun h => h.ext fun _ _ e => m.look e⟩
def tMk (C : Addr) (sp : Sp) (dvs : List V) (E : XK) (t : TA) : TE := fun σ H Q => t σ H fun vs H1 => ∀ x dx H', Mkd H1 C x dx H' → sp (.ref x :: (vs ++ dvs)) H' (fun v H2 => v = .non ∧ Q (.ref x) H2) E
theorem pe_mk {CX : CXT} {k : Nat} {fi : Addr} {fd : FuncData} {ps : List Str} {sp : Sp} {dvs : List V} {ds : List Value} {E : XK} {x : Str} {p : Pos} (M : Mk X.K C fi) (F : FnOk X.prog X.w X.K X.mg X.base CX k fi fd ps sp) (hr : Room (k + 1) X.A) (hg : Gl X x) (hm : X.mg x = some (.ref C)) (hb : Binds X.K fd ps ds) (hd : Vals dvs ds) (hx : Passes CX X E)
    (ha : PA X (e :: es) ta) (hdb : (x == ("__debug__" : Str)) = false := by decide) (he : starEach (e :: es) X.env = (false, eval e X.env) :: starEach es X.env := by rfl) (hpl : (backTo pos (starEach es X.env)).any (·.1) = false := by rfl) :
    PE X (.Call (.Name x p) (e :: es) [] pos) (tMk C sp dvs E ta) := peI (pe_make M F hr hg hm hb hd hx (paU ha) (hdb := hdb) (he := he) (hpl := hpl)) fun σ H Q q => ⟨_, q, fun vs H1 h x dx nx nd ne => h x dx _ ⟨rfl, nx, nd, ne⟩⟩
theorem pe_mk0 {CX : CXT} {k : Nat} {fi : Addr} {fd : FuncData} {ps : List Str} {sp : Sp} {dvs : List V} {ds : List Value} {E : XK} {x : Str} {p : Pos} (M : Mk X.K C fi) (F : FnOk X.prog X.w X.K X.mg X.base CX k fi fd ps sp) (hr : Room (k + 1) X.A) (hg : Gl X x) (hm : X.mg x = some (.ref C)) (hb : Binds X.K fd ps ds) (hd : Vals dvs ds) (hx : Passes CX X E)
    (hdb : (x == ("__debug__" : Str)) = false := by decide) :
    PE X (.Call (.Name x p) [] [] pos) (tMk C sp dvs E tNil) := peI (pe_make0 M F hr hg hm hb hd hx (hdb := hdb)) fun σ H Q q => fun x dx nx nd ne => q x dx _ ⟨rfl, nx, nd, ne⟩
end
end Y

set_option Elab.async false
set_option linter.all false
set_option maxRecDepth 100000
set_option maxHeartbeats 4000000
/-! own layer: operators, calls and subscripts by values -/
namespace Y
open PySem PySem.Spec L2 LamX

/-- r is a tuple of xs, new or not -/
structure Tp (K : PySem.W.Frag) (H : Hp) (r : Addr) (xs : List V) (H' : Hp) : Prop where
  same : ∀ b o, H b = some o → H' b = some o
  dom : ∀ b, H' b = none → H b = none
  sq : SqT K H' r xs
theorem Tp.chg {K : PySem.W.Frag} {H H' : Hp} {r : Addr} {xs : List V} {T : List (Addr × Str)} {S : Addr → Prop} (t : Tp K H r xs H') : Chg T S H H' := ⟨fun b o h _ _ => t.same b o h, t.dom, fun h => h.ext t.same⟩
theorem Tp.old {K : PySem.W.Frag} {H : Hp} {r : Addr} {xs : List V} (h : SqT K H r xs) : Tp K H r xs H := ⟨fun _ _ h => h, fun _ h => h, h⟩
theorem Tp.new {K : PySem.W.Frag} {H : Hp} {r : Addr} {xs : List V} (h : H r = none) : Tp K H r xs (upd H r (.tup xs)) :=
  have n : Nw H r (.tup xs) (upd H r (.tup xs)) := ⟨rfl, h⟩
  ⟨fun _ _ e => n.look e, fun _ e => n.dom e, SqT.of n.at⟩

section
variable {X : Cx}
theorem opI2 {f : Value → Value → Sem Value} {r r' : R2} (h : OpR X f r) (i : ∀ x y H Q, r' x y H Q → r x y H Q) : OpR X f r' := fun pins s σ H x y v u Q I rx ry q => h pins s σ H x y v u Q I rx ry (i x y H Q q)
theorem opOr {f : Value → Value → Sem Value} {r r' : R2} (h : OpR X f r) (h' : OpR X f r') : OpR X f (fun x y H Q => r x y H Q ∨ r' x y H Q) := fun pins s σ H x y v u Q I rx ry q =>
  q.elim (h pins s σ H x y v u Q I rx ry) (h' pins s σ H x y v u Q I rx ry)
theorem crI {f : Value} {r r' : List V → Hp → VK → Prop} (h : CallR X f r) (i : ∀ xs H Q, r' xs H Q → r xs H Q) : CallR X f r' := fun pins s σ H xs us Q I r q => h pins s σ H xs us Q I r (i xs H Q q)
theorem crOr {f : Value} {r r' : List V → Hp → VK → Prop} (h : CallR X f r) (h' : CallR X f r') : CallR X f (fun xs H Q => r xs H Q ∨ r' xs H Q) := fun pins s σ H xs us Q I rr q =>
  q.elim (h pins s σ H xs us Q I rr) (h' pins s σ H xs us Q I rr)

/-! ### + * -/
def uAdd (K : PySem.W.Frag) : R2 := fun x y H Q => match x, y with
  | .int i, .int j => Q (.int (i + j)) H
  | .str a, .str b => a.length + b.length ≤ sizeLine ∧ Q (.str (a ++ b)) H
  | .int i, .bl k => Q (.int (i + PyProof.Rows.b2i k)) H
  | .ref a, .ref b => (∃ xs ys, H a = some (.lst xs) ∧ H b = some (.lst ys) ∧ xs.length + ys.length ≤ sizeLine ∧ ∀ p H', Nw H p (.lst (xs ++ ys)) H' → Q (.ref p) H') ∨
    (∃ xs ys, SqT K H a xs ∧ SqT K H b ys ∧ xs.length + ys.length ≤ sizeLine ∧ ∀ r H', Tp K H r (xs ++ ys) H' → Q (.ref r) H')
  | _, _ => False
theorem op_add : OpR X (binaryOp .Add) (uAdd X.K) := by
  intro pins s σ H x y v u Q I rx ry h
  cases x <;> cases y <;> simp only [uAdd] at h <;> first
    | exact h.elim
    | exact L2.op_add pins s σ H _ _ v u Q I rx ry ⟨_, _, rfl, rfl, h⟩
    | exact L2.op_add_str pins s σ H _ _ v u Q I rx ry ⟨_, _, rfl, rfl, h⟩
    | exact L2.op_add_ib pins s σ H _ _ v u Q I rx ry ⟨_, _, rfl, rfl, h⟩
    | skip
  rcases h with ⟨xs, ys, h1, h2, h3, h4⟩ | ⟨xs, ys, h1, h2, h3, h4⟩
  · exact L2.op_cat pins s σ H _ _ v u Q I rx ry ⟨_, _, xs, ys, rfl, rfl, h1, h2, h3, nw_all h4⟩
  · refine L2.op_catA pins s σ H _ _ v u Q I rx ry ⟨_, _, xs, ys, rfl, rfl, h1, h2, h3, fun e => h4 _ _ (Tp.old ?_), fun _ e => h4 _ _ (Tp.old ?_), fun _ _ p hp => h4 _ _ (Tp.new hp)⟩
    · rw [e]; exact h2
    · rw [e, List.append_nil]; exact h1
def uMul : R2 := fun x y H Q => match x, y with
  | .int i, .int j => CMul i j ∧ Q (.int (i * j)) H
  | .ref l, .int k => ∃ xs, H l = some (.lst xs) ∧ -(2 ^ 63) ≤ k ∧ k < 2 ^ 63 ∧ xs.length * k.toNat ≤ sizeLine ∧ ∀ p H', Nw H p (.lst (List.replicate k.toNat xs).flatten) H' → Q (.ref p) H'
  | _, _ => False
theorem op_mul : OpR X (binaryOp .Mult) uMul := by
  intro pins s σ H x y v u Q I rx ry h
  cases x <;> cases y <;> simp only [uMul] at h <;> first
    | exact h.elim
    | exact L2.op_mul pins s σ H _ _ v u Q I rx ry ⟨_, _, rfl, rfl, h⟩
    | skip
  obtain ⟨xs, h1, h2, h3, h4, h5⟩ := h
  exact L2.op_rep pins s σ H _ _ v u Q I rx ry ⟨_, _, xs, rfl, rfl, h1, h2, h3, h4, nw_all h5⟩
def uI (g : Int → Int → V) : R2 := fun x y H Q => match x, y with
  | .int i, .int j => Q (g i j) H
  | _, _ => False
def uIC (C : Int → Int → Prop) (g : Int → Int → V) : R2 := fun x y H Q => match x, y with
  | .int i, .int j => C i j ∧ Q (g i j) H
  | _, _ => False
theorem uI_of {f : Value → Value → Sem Value} {g : Int → Int → V} (h : OpR X f (rI0 g)) : OpR X f (uI g) := opI2 h fun x y H Q q => by
  cases x <;> cases y <;> simp only [uI] at q <;> first | exact q.elim | exact ⟨_, _, rfl, rfl, q⟩
theorem uIC_of {f : Value → Value → Sem Value} {C : Int → Int → Prop} {g : Int → Int → V} (h : OpR X f (rI C g)) : OpR X f (uIC C g) := opI2 h fun x y H Q q => by
  cases x <;> cases y <;> simp only [uIC] at q <;> first | exact q.elim | exact ⟨_, _, rfl, rfl, q⟩
theorem op_sub : OpR X (binaryOp .Sub) (uI fun i j => .int (i - j)) := uI_of L2.op_sub
theorem op_mod : OpR X (binaryOp .Mod) (uIC (fun _ j => 0 < j) fun i j => .int (i % j)) := uIC_of L2.op_mod
theorem op_fdiv : OpR X (binaryOp .FloorDiv) (uIC CDiv fun i j => .int (i / j)) := uIC_of L2.op_fdiv
theorem op_pow : OpR X (binaryOp .Pow) (uIC CPow fun i j => .int (i ^ j.toNat)) := uIC_of L2.op_pow

/-! ### comparisons -/
def uLt : R2 := uI fun i j => .bl (decide (i < j))
def uLe : R2 := uI fun i j => .bl (decide (i ≤ j))
def uGt : R2 := uI fun i j => .bl (decide (j < i))
def uGe : R2 := uI fun i j => .bl (decide (j ≤ i))
theorem op_lt : OpR X (compareOp .Lt) uLt := uI_of L2.op_lt
theorem op_le : OpR X (compareOp .LtE) uLe := uI_of L2.op_le
theorem op_gt : OpR X (compareOp .Gt) uGt := uI_of L2.op_gt
theorem op_ge : OpR X (compareOp .GtE) uGe := uI_of L2.op_ge
/-- ==: flat things, or data of any depth -/
def uEq (K : PySem.W.Frag) : R2 := fun x y H Q => rEq x y H Q ∨ rEqD K x y H Q
def uNe (K : PySem.W.Frag) : R2 := fun x y H Q => rNe x y H Q ∨ rNeD K x y H Q
theorem op_eq (hu : X.A.units + 64 < cLine) : OpR X (compareOp .Eq) (uEq X.K) := opOr L2.op_eq (L2.op_eqD hu)
theorem op_ne (hu : X.A.units + 64 < cLine) : OpR X (compareOp .NotEq) (uNe X.K) := opOr L2.op_ne (L2.op_neD hu)
def uIsN : R2 := fun x y H Q => y = .non ∧ Q (.bl (decide (x = .non))) H
def uNotN : R2 := fun x y H Q => y = .non ∧ Q (.bl (!decide (x = .non))) H
theorem op_isN : OpR X (compareOp .Is) uIsN := L2.op_isN
theorem op_notN : OpR X (compareOp .IsNot) uNotN := L2.op_notN

/-! ### calls of built-ins -/
def uLen (K : PySem.W.Frag) : List V → Hp → VK → Prop := fun xs H Q => (∃ p ys, xs = [.ref p] ∧ (SqL K H p ys ∨ SqT K H p ys) ∧ Q (.int ys.length) H) ∨ ∃ z, xs = [.str z] ∧ z.length ≤ sizeLine ∧ Q (.int z.length) H
theorem call_len : CallR X (.builtin "len") (uLen X.K) := crOr L2.call_len_seq L2.call_len_str
def uList (K : PySem.W.Frag) : List V → Hp → VK → Prop := fun xs H Q => ∃ p ys, xs = [.ref p] ∧ (SqL K H p ys ∨ SqT K H p ys) ∧ ∀ l H', Nw H l (.lst ys) H' → Q (.ref l) H'
theorem call_list : CallR X (.type "list") (uList X.K) := crI L2.call_list_of fun xs H Q ⟨p, ys, e, h, q⟩ => ⟨p, ys, e, h, nw_all q⟩
def uTuple (K : PySem.W.Frag) : List V → Hp → VK → Prop := fun xs H Q => ∃ p ys, xs = [.ref p] ∧ ((SqL K H p ys ∧ ∀ l H', Nw H l (.tup ys) H' → Q (.ref l) H') ∨ (SqT K H p ys ∧ Q (.ref p) H))
theorem call_tuple : CallR X (.type "tuple") (uTuple X.K) := crI L2.call_tuple_of fun xs H Q ⟨p, ys, e, h⟩ => ⟨p, ys, e, h.elim (fun ⟨a, b⟩ => .inl ⟨a, nw_all b⟩) .inr⟩

/-! ### subscripts -/
def uSl (K : PySem.W.Frag) : V → Option Int → Option Int → Hp → VK → Prop := fun x lo hi H Q => (∃ a xs, x = .ref a ∧ SqL K H a xs ∧ ∀ p H', Nw H p (.lst (cutV xs lo hi)) H' → Q (.ref p) H') ∨
  ∃ a xs, x = .ref a ∧ SqT K H a xs ∧ ∀ r H', Tp K H r (cutV xs lo hi) H' → Q (.ref r) H'
theorem slI {r r' : V → Option Int → Option Int → Hp → VK → Prop} (h : SlR X r) (i : ∀ x lo hi H Q, r' x lo hi H Q → r x lo hi H Q) : SlR X r' := fun pins s σ H x v vl vu lo hi sl Q I rx hs p1 p2 q => h pins s σ H x v vl vu lo hi sl Q I rx hs p1 p2 (i _ _ _ _ _ q)
theorem sl_any : SlR X (uSl X.K) := SlR.or (slI L2.sl_list fun x lo hi H Q ⟨a, xs, e, h, q⟩ => ⟨a, xs, e, h, nw_all q⟩)
  (slI L2.sl_tupA fun x lo hi H Q ⟨a, xs, e, h, q⟩ => ⟨a, xs, e, h, fun w => q _ _ (Tp.old (by
    have : cutV xs lo hi = xs := by unfold cutV; rw [w.1, w.2]; simp
    rw [this]; exact h)), fun _ p hp => q _ _ (Tp.new hp)⟩)
def uSet : TSet := fun o i v H Q => ∃ p xs k j, o = .ref p ∧ i = .int k ∧ H p = some (.lst xs) ∧ ixN xs.length k = some j ∧ ∀ H', Wr H p (.lst (xs.set j v)) H' → Q H'
theorem set_lst : PSet X uSet := by
  intro pins s σ H o i v vo vi vv Q I ro ri rv q
  obtain ⟨p, xs, k, j, e1, e2, e3, e4, e5⟩ := q
  exact L2.set_list pins s σ H o i v vo vi vv Q I ro ri rv ⟨p, xs, k, j, e1, e2, e3, e4, wr_all e3 rfl (fun _ z => nomatch z) e5⟩
variable {o e : Expr} {es : List Expr} {to te : TE} {ta : TA} {apos cpos pos : Pos}
/-- o.append(e) -/
def tApp (to te : TE) : TE := fun σ H Q => to σ H fun x H1 => ∃ l xs0, x = .ref l ∧ H1 l = some (.lst xs0) ∧ te σ H1 fun y H2 => ∃ xs, H2 l = some (.lst xs) ∧ xs.length < sizeLine ∧ ∀ H', Wr H2 l (.lst (xs ++ [y])) H' → Q .non H'
theorem app_i {K : PySem.W.Frag} : ∀ σ H Q, tApp to te σ H Q → tBM K "list" rAppend (up to) (tCons (up te) tNil) σ H Q := fun σ H Q h =>
    ⟨_, h, fun x H1 ⟨l, xs0, e1, e2, h2⟩ => ⟨by subst e1; exact .inl ⟨rfl, _, SqL.of e2⟩, ⟨_, h2, fun y H2 ⟨xs, a, b, c⟩ => ⟨l, xs, y, e1, rfl, a, b, wr_all a rfl (fun _ z => nomatch z) c⟩⟩⟩⟩
/-- o.pop() -/
def tPop (to : TE) : TE := fun σ H Q => to σ H fun x H1 => ∃ l xs y, x = .ref l ∧ H1 l = some (.lst (xs ++ [y])) ∧ ∀ H', Wr H1 l (.lst xs) H' → Q y H'
theorem pop_i {K : PySem.W.Frag} : ∀ σ H Q, tPop to σ H Q → tBM0 K "list" rPop (up to) σ H Q := fun σ H Q h =>
    ⟨_, h, fun x H1 ⟨l, xs, y, e1, e2, h2⟩ => ⟨by subst e1; exact .inl ⟨rfl, _, SqL.of e2⟩, l, xs ++ [y], y, e1, rfl, e2, by simp, by
      rw [List.dropLast_concat]; exact wr_all e2 rfl (fun _ z => nomatch z) h2⟩⟩
/-- l[::-1] -/
def tRev (K : PySem.W.Frag) (te : TE) : TE := fun σ H Q => te σ H fun x H1 => ∃ a xs, x = .ref a ∧ SqL K H1 a xs ∧ ∀ p H', Nw H1 p (.lst xs.reverse) H' → Q (.ref p) H'
theorem pe_rev {k : Nat} {p1 p2 p3 pos : Pos} (he : PE X e te) : PE X (.Subscript e (.Slice none none (some (.UnaryOp .USub (.Constant (.int 1) k p1) p2)) p3) pos) (tRev X.K te) :=
  peI (pe_revL (peU he)) fun σ H Q h => ⟨_, h, fun x H1 ⟨a, xs, e1, e2, q⟩ => ⟨a, xs, e1, e2, nw_all q⟩⟩
/-- what a for walks: a list or a tuple -/
def iSeq (K : PySem.W.Frag) (tl : TE) : TI := fun σ H R => tl σ H fun x H1 => ∃ a, x = .ref a ∧ (((∃ xs, SqL K H1 a xs) ∧ R (Itl K a) H1) ∨ ((∃ xs, SqT K H1 a xs) ∧ R (Itt K a) H1))
theorem piI {tg it : Expr} {wi wi' : TI} (h : PI X tg it wi) (i : ∀ σ H R, wi' σ H R → wi σ H R) : PI X tg it wi' := ⟨fun pins s σ H R I q => h.run pins s σ H R I (i σ H R q)⟩
theorem pi_lst {tg : Expr} (he : PE X e te) : PI X tg e (fun σ H R => te σ H fun x H1 => ∃ a xs, x = .ref a ∧ SqL X.K H1 a xs ∧ R (Itl X.K a) H1) :=
  piI (pi_list (peU he)) fun σ H R h => ⟨_, h, fun x H1 ⟨a, xs, e1, e2, q⟩ => ⟨a, e1, ⟨xs, e2⟩, q⟩⟩
/-- x += y of lists; of ints -/
def uIAdd : TIp := fun x y H Q => match x, y with
  | .int i, .int j => Q (.int (i + j)) H
  | .ref l, .ref b => ∃ xs zs, H l = some (.lst xs) ∧ H b = some (.lst zs) ∧ xs.length + zs.length ≤ sizeLine ∧ ∀ H', Wr H l (.lst (xs ++ zs)) H' → Q (.ref l) H'
  | _, _ => False
theorem ip_add : PIp X .Add uIAdd := by
  intro pins s σ H x y u v Q I rx ry h
  cases x <;> cases y <;> simp only [uIAdd] at h <;> first
    | exact h.elim
    | exact L2.ip_add pins s σ H _ _ u v Q I rx ry ⟨_, _, rfl, rfl, h⟩
    | skip
  obtain ⟨xs, zs, h1, h2, h3, h4⟩ := h
  exact iop_ext pins s σ H _ _ u v Q I rx ry ⟨_, _, xs, zs, rfl, rfl, h1, h2, h3, wr_all h1 rfl (fun _ z => nomatch z) h4⟩
end
end Y

set_option Elab.async false
set_option linter.all false
set_option maxRecDepth 100000
set_option maxHeartbeats 4000000
/-! own layer: defs whose code object is known; lambdas as values; what told gives -/
namespace Y
open PySem PySem.Spec L2 LamX
abbrev E0 : XK := C8.E0

/-! ### defs -/
/-- a def of the text as it stands behind the top, its code object at c, its defaults dvs -/
structure DF (K : PySem.W.Frag) (x qual : Str) (st : Stmt) (f c : Addr) (fd : FuncData) (dvs : List V) : Prop where
  ex : ∃ (oc : Value) (od : Option Addr) (dV kV doc pm : Value) (an : Option Addr) (ct : Value) (osl : Array (Option Value)),
    fd = PySem.W.fnOf x qual (defArgs st) (defBody st) (defScope st) dV kV doc pm an (.ref c) ct ∧ K.lookup f = some ⟨oc, od, .func fd, osl⟩ ∧ PySem.W.codeIn K (.ref c) qual = true ∧ DflV K dV dvs
  kp : PySem.W.keepIn K (.ref f) = true
section
variable {P : Program} {w : World} {K : PySem.W.Frag} {mg : Str → Option Value} {base : Heap} {x qual : Str} {st : Stmt} {f c : Addr} {fd : FuncData} {dvs : List V}
theorem df_mk {oc : Value} {od an : Option Addr} {osl : Array (Option Value)} {dV kV doc pm ct : Value} (l : K.lookup f = some ⟨oc, od, .func (PySem.W.fnOf x qual (defArgs st) (defBody st) (defScope st) dV kV doc pm an (.ref c) ct), osl⟩)
    (h : PySem.W.codeIn K (.ref c) qual = true) (k : PySem.W.keepIn K (.ref f) = true) (d : DflV K dV dvs) : DF K x qual st f c (PySem.W.fnOf x qual (defArgs st) (defBody st) (defScope st) dV kV doc pm an (.ref c) ct) dvs :=
  ⟨⟨oc, od, dV, kV, doc, pm, an, ct, osl, rfl, l, h, d⟩, k⟩
theorem DF.fund (F : DF K x qual st f c fd dvs) : FunD K x qual (defArgs st) (defBody st) (defScope st) dvs [] f fd := by
  obtain ⟨oc, od, dV, kV, doc, pm, an, ct, osl, e, l, h, d⟩ := F.ex
  exact ⟨⟨oc, od, dV, kV, doc, pm, an, .ref c, ct, osl, e, l, h, d, .inl rfl⟩, F.kp⟩
theorem DF.fn (F : DF K x qual st f c fd []) : L2.Fun K x qual st f fd := by
  obtain ⟨oc, od, dV, kV, doc, pm, an, ct, osl, e, l, h, d⟩ := F.ex
  rcases d with ⟨_, rfl⟩ | ⟨z, _⟩
  · exact ⟨⟨oc, od, kV, doc, pm, an, .ref c, ct, osl, e, l, h⟩, F.kp⟩
  · exact (z rfl).elim
theorem DF.ok {N ps : List Str} {k : Nat} {sp : Sp} (F : DF K x qual st f c fd dvs) (S : FnScope N ps (defScope st)) (len : ∀ vs H Q E, sp vs H Q E → vs.length = ps.length)
    (hbody : ∀ (A : Around) (outer : List Env) (s : Shared) (H : Hp) (vs : List V) (Q : VK) (E : XK), Room k (A.deeper (PyProof.Rows.envOfC qual (defScope st) s.heap.objs.size f (.ref c))) → sp vs H Q E →
      ∃ t, PSs (cxOf (L2.CX P w) P w K mg base N qual (defScope st) f (.ref c) A outer s H E) (defBody st) t ∧ t { nx := fun _ H' => Q .non H', rt := Q } (start N vs) H) : FnOk P w K mg base (L2.CX P w) (k + 1) f fd ps sp := by
  obtain ⟨oc, od, dV, kV, doc, pm, an, ct, osl, rfl, lk, hcd, _⟩ := F.ex
  exact fn_of lk hcd S len fun A outer s H vs Q E hr hsp => hbody A outer s H vs Q E hr hsp
end
section
variable {X : Cx} {E : XK}
theorem passD (hs : X.stack = X.env :: X.outer) (hf : X.env.frame = some X.env.locals) (hex : X.ex = []) {E₁ : Value → Shared → Prop}
    (hx : X.xe = fun e s' => wpAny (model X.prog X.w) X.A (leaving X.env e) (fun _ s'' => L2.CX X.prog X.w X.outer X.H_0 X.s_0 E e s'') E₁ s') : Passes (L2.CX X.prog X.w) X E :=
  passes_call (takes_of hs hf hex hx) fun _ _ _ _ z => z
theorem passN : Passes (L2.CX X.prog X.w) X E0 := L2.passL
end

/-! ### lambdas -/
/-- f is a lambda of X, its body's reading is t -/
def IsLam (X : Cx) (k : Nat) (H : Hp) (f : Addr) (t : XK → TE) : Prop := ∃ (c' : Addr) (params : Arguments) (body : Expr) (scope : Scope), LamGood X k params body scope t ∧
  H f = some (LamO f c' (X.env.qual ++ "<lambda>") params body scope (cloFrom X.env.cells scope.names [])) ∧ H c' = some (CodeO c' (X.env.qual ++ "<lambda>"))
def isExt : HO → Bool
  | .ext _ => true
  | _ => false
theorem IsLam.chg {X : Cx} {k : Nat} {H H' : Hp} {f : Addr} {t : XK → TE} {T : List (Addr × Str)} {S : Addr → Prop} (L : IsLam X k H f t) (c : Chg T S H H') (hS : ∀ b, S b → ∀ o, H b = some o → isExt o = false) : IsLam X k H' f t := by
  obtain ⟨c', params, body, scope, G, h1, h2⟩ := L
  exact ⟨c', params, body, scope, G, c.look h1 (fun z => nomatch hS _ z _ h1) rfl, c.look h2 (fun z => nomatch hS _ z _ h2) rfl⟩
theorem IsLam.same {X : Cx} {k : Nat} {H H' : Hp} {f : Addr} {t : XK → TE} (L : IsLam X k H f t) (c : ∀ b o, H b = some o → H' b = some o) : IsLam X k H' f t := by
  obtain ⟨c', params, body, scope, G, h1, h2⟩ := L
  exact ⟨c', params, body, scope, G, c _ _ h1, c _ _ h2⟩
def tLamG (X : Cx) (k : Nat) (T : List (Addr × Str)) (t : XK → TE) : TE := fun σ H Q => Tabs T H ∧ ∀ f H1, Grows T H H1 → H f = none → IsLam X k H1 f t → Q (.ref f) H1
theorem pe_lamG {X : Cx} {T : List (Addr × Str)} {k : Nat} {c P : Addr} {params : Arguments} {body : Expr} {scope : Scope} {pos : Pos} {t : XK → TE}
    (TB : TabB X.base X.mg c P) (hcode : X.env.code = .ref c) (hm : (P, X.env.qual ++ "<lambda>") ∈ T) (hu : ∀ p ∈ T, p.1 = P → p.2 = X.env.qual ++ "<lambda>")
    (hdef : defaultsOf params X.env = ([], [])) (G : LamGood X k params body scope t) : PE X (.Lambda params body scope pos) (tLamG X k T t) :=
  peI (pe_lamV TB hcode hm hu hdef G.L) fun σ H Q ⟨h, q⟩ => ⟨h, fun f c' H1 e1 e2 e3 e4 e5 e6 => q f H1 ⟨e1, e2, e3⟩ e4 ⟨c', params, body, scope, G, e5, e6⟩⟩

/-- told(e), e a lambda of X -/
def ErrTo (X : Cx) (CS : Addr) (ret : Str) (Q : VK) : XK := fun cls _ H' => ∃ b, PySem.W.exmOne X.K cls (.ref CS) = some b ∧ (b = true → Q (.str ret) H') ∧ (b = false → False)
theorem err_to {X : Cx} {CS : Addr} {ret : Str} {Q : VK} {d : Option Addr} {H : Hp} (hm : PySem.W.exmOne X.K (.ref CS) (.ref CS) = some true) (q : Q (.str ret) H) : ErrTo X CS ret Q (.ref CS) d H := ⟨true, hm, fun _ => q, fun z => nomatch z⟩
def tTo (X : Cx) (k : Nat) (CS : Addr) (ret : Str) (pr : L2.St → L2.St) (te : TE) : TE := fun σ H Q => te σ H fun v H1 => ∃ f t, v = .ref f ∧ IsLam X k H1 f t ∧ t (ErrTo X CS ret Q) (pr σ) H1 Q
theorem tTo_i {X : Cx} {k : Nat} {CS : Addr} {ret : Str} {pr : L2.St → L2.St} {te : TE} : ∀ σ H Q, tTo X k CS ret pr te σ H Q → tTold X k CS ret pr (up te) σ H Q := fun σ H Q h =>
  ⟨_, h, fun v H1 ⟨f, t, e, ⟨c', params, body, scope, G, h1, h2⟩, q⟩ => ⟨f, c', params, body, scope, t, e, G, h1, h2, q⟩⟩
section
variable {X : Cx} {k : Nat} {x a ee ret : Str} {st : Stmt} {g CS c : Addr} {fd : FuncData} {Ng : List Str} {e : Expr} {te : TE} {p pos p1 p2 p3 p4 p5 p6 p7 p8 : Pos} {j : Nat}
/-- _law_told(e) in X -/
theorem pe_toD (F : DF X.K x x st g c fd []) (hm : X.mg x = some (.ref g)) (hb : L2.Binds X.K fd [a] []) (Sg : FnScope Ng [a] (defScope st)) (hme : X.mg ee = some (.ref CS)) (hr : Room (k + 2) X.A) (he : PE X e te)
    (hg : Gl X x) (hNg : Ng[0]? = some a) (hva : Vis (defScope st) a)
    (hbody : defBody st = [.Try [.Return (some (.Call (.Name a p1) [] [] p2)) p3] [.ExceptHandler (some (.Name ee p4)) none [.Return (some (.Constant (.str ret) j p5)) p6] p7] [] [] p8])
    (h0a : ∀ f : Addr, (L2.start Ng [V.ref f])[0]? = some (some (V.ref f))) (hge : (defScope st).names.lookup ee = some .globalImplicit)
    (hde : (ee == ("__debug__" : Str)) = false := by decide) (hdb : (x == ("__debug__" : Str)) = false := by decide) (hd : (a == ("__debug__" : Str)) = false := by decide) (hcd : (a == ("__classdict__" : Str)) = false := by decide)
    (hse : starEach [e] X.env = (false, eval e X.env) :: starEach [] X.env := by rfl) (hpl : (backTo pos (starEach ([] : List Expr) X.env)).any (·.1) = false := by rfl) :
    PE X (.Call (.Name x p) [e] [] pos) (tTo X k CS ret id te) :=
  peI (pe_toldI (X := X) (s0 := X.s_0) (h0 := X.H_0) (en := X.env) (ou := X.outer) (ex := X.ex) (fn := X.fn) (pn := X.pn) (xe := X.xe) (pr := id) (k := k) (CS := CS) (fun pins σ H s I => ⟨pins, I⟩) hg hm F.fn hb Sg hNg hva hbody h0a hge hme hr (pa_cons (peU he) pa_nil (hs := hse)) hde hdb hd hcd hse hpl) tTo_i
/-- _law_told(e) in a comprehension's block in X -/
theorem pe_toB {σ0 : L2.St} {s : Shared} {H : Hp} {scope : Scope} {en : Env} {fp : List Addr} (bk : Back X σ0 H s scope en fp) (F : DF X.K x x st g c fd []) (hm : X.mg x = some (.ref g)) (hb : L2.Binds X.K fd [a] []) (Sg : FnScope Ng [a] (defScope st)) (hme : X.mg ee = some (.ref CS)) (hr : Room (k + 2) X.A) (he : PE (X.blk s H scope en fp) e te)
    (hg : Gl (X.blk s H scope en fp) x) (hNg : Ng[0]? = some a) (hva : Vis (defScope st) a)
    (hbody : defBody st = [.Try [.Return (some (.Call (.Name a p1) [] [] p2)) p3] [.ExceptHandler (some (.Name ee p4)) none [.Return (some (.Constant (.str ret) j p5)) p6] p7] [] [] p8])
    (h0a : ∀ f : Addr, (L2.start Ng [V.ref f])[0]? = some (some (V.ref f))) (hge : (defScope st).names.lookup ee = some .globalImplicit)
    (hde : (ee == ("__debug__" : Str)) = false := by decide) (hdb : (x == ("__debug__" : Str)) = false := by decide) (hd : (a == ("__debug__" : Str)) = false := by decide) (hcd : (a == ("__classdict__" : Str)) = false := by decide)
    (hse : starEach [e] en = (false, eval e en) :: starEach [] en := by rfl) (hpl : (backTo pos (starEach ([] : List Expr) en)).any (·.1) = false := by rfl) :
    PE (X.blk s H scope en fp) (.Call (.Name x p) [e] [] pos) (tTo X k CS ret (fun _ => σ0) te) :=
  peI (pe_toldI (X := X) (s0 := (X.blk s H scope en fp).s_0) (h0 := (X.blk s H scope en fp).H_0) (en := en) (ou := (X.blk s H scope en fp).outer) (ex := (X.blk s H scope en fp).ex) (fn := (X.blk s H scope en fp).fn) (pn := (X.blk s H scope en fp).pn) (xe := (X.blk s H scope en fp).xe) (pr := fun _ => σ0) (k := k) (CS := CS) (fun pins σ H s I => bk pins σ H s I) hg hm F.fn hb Sg hNg hva hbody h0a hge hme hr (pa_cons (peU he) pa_nil (hs := hse)) hde hdb hd hcd hse hpl) tTo_i
end
theorem hu_nd {T : List (Addr × Str)} {P : Addr} {q : Str} (nd : (T.map (·.1)).Nodup) (m : (P, q) ∈ T) : ∀ p ∈ T, p.1 = P → p.2 = q := by
  induction T with
  | nil => cases m
  | cons t T ih =>
    simp only [List.map_cons, List.nodup_cons] at nd
    intro p hp e
    rcases List.mem_cons.mp hp with rfl | hp2
    · rcases List.mem_cons.mp m with z | z
      · rw [← z]
      · exact (nd.1 (e ▸ List.mem_map_of_mem z)).elim
    · rcases List.mem_cons.mp m with z | z
      · subst z; exact (nd.1 (List.mem_map.mpr ⟨p, hp2, e⟩)).elim
      · exact ih nd.2 z p hp2 e
end Y

set_option Elab.async false
set_option linter.all false
set_option maxRecDepth 100000
set_option maxHeartbeats 4000000
namespace Y
open PySem PySem.Spec L2 LamX
/-- for over a list or a tuple -/
theorem pi_seq {X : Cx} {tg l : Expr} {tl : TE} (hl : PE X l tl) : PI X tg l (iSeq X.K tl) := by
  refine ⟨fun pins s σ H R I h => ?_⟩
  refine thn (hl.run pins s σ H _ I h) fun v s1 ⟨x, H1, I1, r1, q1⟩ => ?_
  obtain ⟨a, e, q1⟩ := q1
  subst e
  cases r1
  rcases q1 with ⟨⟨xs, hq⟩, q⟩ | ⟨⟨xs, hq⟩, q⟩
  · obtain ⟨its, rv, p, hz⟩ := I1.list hq
    refine wpAny_pyIter_list p.isList ?_
    refine ⟨s1.heap.objs.size, [s1.heap.objs.size], _, _, H1, rfl, I1.kept (t' := s1.toks) fun b o e => Heap.get?_push_of_some _ e, turn_list a _, ⟨_, Heap.get?_push_size _ rfl, rfl, rfl⟩, fun b hb => ?_, q⟩
    have e : b = s1.heap.objs.size := by simpa using hb
    subst e
    exact I1.fpOk (Nat.le_refl _) (I1.hok.fresh (Nat.le_refl _))
  · obtain ⟨its, rv, p, hz⟩ := I1.tuple hq
    refine wpAny_pyIter_tuple (show s1.heap.IsTuple a its.toArray from p) ?_
    refine ⟨s1.heap.objs.size, [s1.heap.objs.size], _, _, H1, rfl, I1.kept (t' := s1.toks) fun b o e => Heap.get?_push_of_some _ e, turn_tuple a _, ⟨_, Heap.get?_push_size _ rfl, rfl, rfl⟩, fun b hb => ?_, q⟩
    have e : b = s1.heap.objs.size := by simpa using hb
    subst e
    exact I1.fpOk (Nat.le_refl _) (I1.hok.fresh (Nat.le_refl _))
theorem okNo {P : Program} {w : World} {K : PySem.W.Frag} {mg : Str → Option Value} {base : Heap} {CX : CXT} {k : Nat} {f : Addr} {fd : FuncData} {ps : List Str} : FnOk P w K mg base CX k f fd ps (fun _ _ _ _ => False) :=
  ⟨fun _ _ _ _ z => z.elim, fun _ _ _ _ _ _ _ _ _ _ _ _ _ z => z.elim⟩
/-! ### small -/
theorem upd_upd {H : Hp} {a : Addr} {x y : HO} : upd (upd H a x) a y = upd H a y := by
  funext b
  unfold upd
  split <;> rfl
theorem Wr.trans {H H1 H2 : Hp} {l : Addr} {o u : HO} (a : Wr H l o H1) (b : Wr H1 l u H2) : Wr H l u H2 := ⟨by rw [b.eq, a.eq, upd_upd], a.old⟩
theorem ne_obj {H : Hp} {a b : Addr} {o u : HO} (h : H a = some o) (h2 : H b = some u) (n : o ≠ u) : a ≠ b := fun e => by
  rw [e, h2] at h
  exact n (Option.some.inj h).symm
def kd : HO → Nat
  | .lst _ => 0
  | .tup _ => 1
  | .ins C _ _ => 10 + C
  | .ext _ => 2
  | .tbl _ => 3
  | _ => 4
theorem ne_kd {H : Hp} {a b : Addr} {o u : HO} (h : H a = some o) (h2 : H b = some u) (n : kd o ≠ kd u) : a ≠ b := ne_obj h h2 fun e => n (by rw [e])
theorem nin_nil {b : Addr} : ¬ b ∈ ([] : List Addr) := fun z => nomatch z
theorem nin_cons {b a : Addr} {l : List Addr} (h : b ≠ a) (t : ¬ b ∈ l) : ¬ b ∈ a :: l := fun z => (List.mem_cons.mp z).elim h t
abbrev In (l : List Addr) : Addr → Prop := fun b => b ∈ l
theorem ite_i {c : Prop} [Decidable c] {A B : Prop} (h1 : c → A) (h2 : ¬ c → B) : if c then A else B := by split <;> (rename_i h; first | exact h1 h | exact h2 h)
theorem ite_d {p : Prop} {i : Decidable p} {A B : Prop} (h1 : p → A) (h2 : ¬ p → B) : if decide p = true then A else B := ite_i (fun h => h1 (of_decide_eq_true h)) fun h => h2 fun z => h (decide_eq_true z)
theorem ite_nd {p : Prop} {i : Decidable p} {A B : Prop} (h1 : ¬ p → A) (h2 : p → B) : if (!decide p) = true then A else B := ite_i (fun h => h1 (by simpa using h)) fun h => h2 (by simpa using h)
theorem ite_t {b : Bool} {A B : Prop} (h : b = true) (h1 : A) : if b = true then A else B := by rw [if_pos h]; exact h1
theorem ite_f {b : Bool} {A B : Prop} (h : b = false) (h1 : B) : if b = true then A else B := by rw [if_neg (by rw [h]; simp)]; exact h1
theorem ite_eqt {b : Bool} {A B : Prop} (h1 : b = true → A) (h2 : b = false → B) : if b = true then A else B := by cases b <;> simp_all
/-! ### by values -/
section
variable {X : Cx}
def uInt : List V → Hp → VK → Prop := fun xs H Q => match xs with
  | [.int i] => Q (.int i) H
  | [.bl k] => Q (.int (if k then 1 else 0)) H
  | _ => False
theorem call_int1 : CallR X (.type "int") uInt := crI L2.call_int1 fun xs H Q h => by
  unfold uInt at h
  split at h
  · exact .inl ⟨_, rfl, h⟩
  · exact .inr ⟨_, rfl, h⟩
  · exact h.elim
def uInt1 (g : Int → V) : List V → Hp → VK → Prop := fun xs H Q => match xs with
  | [.int i] => Q (g i) H
  | _ => False
def uInt2 (g : Int → Int → V) : List V → Hp → VK → Prop := fun xs H Q => match xs with
  | [.int i, .int j] => Q (g i j) H
  | _ => False
theorem call_abs : CallR X (.builtin "abs") (uInt1 fun i => .int (if i < 0 then -i else i)) := crI L2.call_abs fun xs H Q h => by
  unfold uInt1 at h
  split at h
  · exact ⟨_, rfl, h⟩
  · exact h.elim
theorem min_i {i j : Int} : (if j < i then j else i) = min i j := by split <;> omega
theorem max_i {i j : Int} : (if j > i then j else i) = max i j := by split <;> omega
theorem call_min2 (hc : X.calm = true) : CallR X (.builtin "min") (uInt2 fun i j => .int (min i j)) := crI (L2.call_min2 hc) fun xs H Q h => by
  unfold uInt2 at h
  split at h
  · exact ⟨_, _, rfl, by rw [min_i]; exact h⟩
  · exact h.elim
theorem call_max2 (hc : X.calm = true) : CallR X (.builtin "max") (uInt2 fun i j => .int (max i j)) := crI (L2.call_max2 hc) fun xs H Q h => by
  unfold uInt2 at h
  split at h
  · exact ⟨_, _, rfl, by rw [max_i]; exact h⟩
  · exact h.elim
def vEq (K : PySem.W.Frag) (f : Bool → Bool) : R2 := fun x y H Q => match x, y with
  | .int i, .int j => Q (.bl (f (decide (i = j)))) H
  | .str i, .str j => Q (.bl (f (decide (i = j)))) H
  | .bl i, .bl j => Q (.bl (f (decide (i = j)))) H
  | .non, .non => Q (.bl (f true)) H
  | x, y => (scal x y = true ∧ Q (.bl (f (decide (x = y)))) H) ∨ ∃ d e, Dp K H x d ∧ Dp K H y e ∧ SeqAt.shaped d = true ∧ SeqAt.shaped e = true ∧ Q (.bl (f (PyData.eqv d e))) H
theorem vEq_i {K : PySem.W.Frag} {f : Bool → Bool} {x y : V} {H : Hp} {Q : VK} (h : vEq K f x y H Q) : (scal x y = true ∧ Q (.bl (f (decide (x = y)))) H) ∨ ∃ d e, Dp K H x d ∧ Dp K H y e ∧ SeqAt.shaped d = true ∧ SeqAt.shaped e = true ∧ Q (.bl (f (PyData.eqv d e))) H := by
  unfold vEq at h
  split at h
  · exact .inl ⟨rfl, by simpa only [V.int.injEq] using h⟩
  · exact .inl ⟨rfl, by simpa only [V.str.injEq] using h⟩
  · exact .inl ⟨rfl, by simpa only [V.bl.injEq] using h⟩
  · exact .inl ⟨rfl, by simpa using h⟩
  · exact h
theorem op_eqV (hu : X.A.units + 64 < cLine) : OpR X (compareOp .Eq) (vEq X.K id) := opI2 (op_eq hu) fun x y H Q h => vEq_i h
theorem op_neV (hu : X.A.units + 64 < cLine) : OpR X (compareOp .NotEq) (vEq X.K not) := opI2 (op_ne hu) fun x y H Q h => vEq_i h
end
section
variable {X : Cx}
/-- a[i] of a list, a tuple, a text -/
def uIx (K : PySem.W.Frag) : R2 := fun x y H Q => match x, y with
  | .ref p, .int i => ∃ xs v, (SqL K H p xs ∨ SqT K H p xs) ∧ atI xs i = some v ∧ Q v H
  | .str z, .int i => ∃ c, z.length ≤ sizeLine ∧ atI z.cps.toList i = some c ∧ Q (.str ⟨#[c]⟩) H
  | _, _ => False
theorem ix_any : IxR X (uIx X.K) := by
  intro value slice pins s σ H x y v u Q I rx ry h hs
  refine ix_seq value slice pins s σ H x y v u Q I rx ry ?_ hs
  unfold uIx at h
  split at h
  · obtain ⟨xs, v, h1 | h1, h2, h3⟩ := h
    · exact .inl ⟨_, xs, _, v, rfl, rfl, h1, h2, h3⟩
    · exact .inr (.inl ⟨_, xs, _, v, rfl, rfl, h1, h2, h3⟩)
  · obtain ⟨c, h1, h2, h3⟩ := h
    exact .inr (.inr ⟨_, _, c, rfl, rfl, h1, h2, h3⟩)
  · exact h.elim
end
theorem le_line {n : Nat} (h : n ≤ 16777216) : n ≤ sizeLine := h
end Y

set_option Elab.async false
set_option linter.all false
set_option maxRecDepth 100000
set_option maxHeartbeats 4000000
/-! own layer: list comprehensions by an invariant, the list's own object at D -/
namespace Y
open PySem PySem.Spec L2 LamX
/-- what a comprehension of iterator J asks -/
def LcW (J : It) (g : TG) (tt : TT) (te : TE) (vs : List Nat) (σ : L2.St) (H1 : Hp) (D : Addr) (Qd : Hp → Prop) : Prop := ∃ W : Nat → Nat → Hp → Prop, (∃ m, W 0 m (upd H1 D (.lst []))) ∧ ∀ i m H, W i m H →
  (J.stop i H ∧ Qd H) ∨ (J.go i H ∧ ∃ Nx : Hp → Prop, (∀ H', Nx H' → ∃ m', m' < m ∧ W (i + 1) m' H') ∧ ∀ x H', J.yld i H x H' → g x (wipe σ vs) H' fun σ2 H2 => wipe σ2 vs = wipe σ vs ∧ tt σ2 H2 fun b H3 =>
    if b = true then te σ2 H3 fun y H4 => ∃ acc, H4 D = some (.lst acc) ∧ acc.length < sizeLine ∧ Nx (upd H4 D (.lst (acc ++ [y]))) else Nx H3)
/-- one turn of a comprehension whose state ahead of turn i is Pv i -/
def LcTurn (g : TG) (tt : TT) (te : TE) (vs : List Nat) (σ : L2.St) (D : Addr) (Pn : Hp → Prop) (x : V) (H : Hp) : Prop := ∀ (Nx : V → Hp → Prop) (Sk : Hp → Prop),
  (∀ y H4 acc, H4 D = some (.lst acc) → acc.length < sizeLine → (∀ H', Wr H4 D (.lst (acc ++ [y])) H' → Pn H') → Nx y H4) → (∀ H', Pn H' → Sk H') →
  g x (wipe σ vs) H fun σ2 H2 => wipe σ2 vs = wipe σ vs ∧ tt σ2 H2 fun b H3 => if b = true then te σ2 H3 Nx else Sk H3
section
variable {K : PySem.W.Frag} {a : Addr} {xs : List V} {g : TG} {tt : TT} {te : TE} {vs : List Nat} {σ : L2.St} {H1 : Hp} {D : Addr} {Qd : Hp → Prop}
theorem LcTurn.at {Pn : Hp → Prop} {x : V} {H : Hp} (t : LcTurn g tt te vs σ D Pn x H) : g x (wipe σ vs) H fun σ2 H2 => wipe σ2 vs = wipe σ vs ∧ tt σ2 H2 fun b H3 =>
    if b = true then te σ2 H3 fun y H4 => ∃ acc, H4 D = some (.lst acc) ∧ acc.length < sizeLine ∧ Pn (upd H4 D (.lst (acc ++ [y]))) else Pn H3 :=
  t _ _ (fun y H4 acc e l h => ⟨acc, e, l, h _ ⟨rfl, _, e, rfl, fun _ z => nomatch z⟩⟩) fun H' h => h
theorem lcl (Pv : Nat → Hp → Prop) (hD : H1 D = none) (h0 : ∀ H', Nw H1 D (.lst []) H' → Pv 0 H') (hl : ∀ i H, i ≤ xs.length → Pv i H → SqL K H a xs) (hd : ∀ H, Pv xs.length H → Qd H)
    (hs : ∀ i x H, xs[i]? = some x → Pv i H → LcTurn g tt te vs σ D (Pv (i + 1)) x H) : LcW (Itl K a) g tt te vs σ H1 D Qd :=
  lc_list Pv (h0 _ ⟨rfl, hD⟩) hl (fun i x H hx p => (hs i x H hx p).at) hd
theorem lcr {lo : Int} {n : Nat} (Pv : Nat → Hp → Prop) (hD : H1 D = none) (h0 : ∀ H', Nw H1 D (.lst []) H' → Pv 0 H') (hd : ∀ H, Pv n H → Qd H)
    (hs : ∀ i H, i < n → Pv i H → LcTurn g tt te vs σ D (Pv (i + 1)) (.int (lo + i)) H) : LcW (Itr lo n) g tt te vs σ H1 D Qd :=
  lc_range Pv (h0 _ ⟨rfl, hD⟩) (fun i H hx p => (hs i H hx p).at) hd
theorem lct (Pv : Nat → Hp → Prop) (hD : H1 D = none) (h0 : ∀ H', Nw H1 D (.lst []) H' → Pv 0 H') (hl : ∀ i H, i ≤ xs.length → Pv i H → SqT K H a xs) (hd : ∀ H, Pv xs.length H → Qd H)
    (hs : ∀ i x H, xs[i]? = some x → Pv i H → LcTurn g tt te vs σ D (Pv (i + 1)) x H) : LcW (Itt K a) g tt te vs σ H1 D Qd := by
  refine ⟨fun i m H => m = xs.length - i ∧ i ≤ xs.length ∧ Pv i H, ⟨xs.length, by simp, Nat.zero_le _, h0 _ ⟨rfl, hD⟩⟩, ?_⟩
  rintro i m H ⟨rfl, hi, p⟩
  have hq := hl i H hi p
  by_cases hlt : i < xs.length
  · refine .inr ⟨⟨xs, xs[i], hq, List.getElem?_eq_getElem hlt⟩, fun H' => Pv (i + 1) H', fun H' p' => ⟨xs.length - (i + 1), by omega, rfl, hlt, p'⟩, ?_⟩
    rintro x H' ⟨rfl, hx⟩
    exact (hs i x _ (hx xs hq) p).at
  · have e : i = xs.length := by omega
    exact .inl ⟨⟨xs, hq, by omega⟩, hd H (e ▸ p)⟩
end
end Y

set_option Elab.async false
set_option linter.all false
set_option maxRecDepth 100000
set_option maxHeartbeats 4000000
/-! own layer: == of data -/
namespace Y
open PySem PySem.Spec L2 LamX
mutual
/-- data without truths and dicts: == is sameness -/
def clean : PyData → Bool
  | .none | .int _ | .str _ => true
  | .bool _ | .dict _ => false
  | .list xs | .tuple xs => cleanAll xs
def cleanAll : List PyData → Bool
  | [] => true
  | x :: xs => clean x && cleanAll xs
end
mutual
theorem eqv_clean : ∀ d e : PyData, clean d = true → clean e = true → (PyData.eqv d e = true ↔ d = e)
  | .none, e, _, he => by cases e <;> simp_all [PyData.eqv, clean]
  | .bool _, _, h, _ => by simp [clean] at h
  | .dict _, _, h, _ => by simp [clean] at h
  | .int i, e, _, he => by cases e <;> simp_all [PyData.eqv, clean]
  | .str i, e, _, he => by cases e <;> simp_all [PyData.eqv, clean]
  | .list xs, e, hd, he => by
    cases e <;> simp_all [PyData.eqv, clean]
    rename_i ys
    exact eqvAll_clean xs ys hd he
  | .tuple xs, e, hd, he => by
    cases e <;> simp_all [PyData.eqv, clean]
    rename_i ys
    exact eqvAll_clean xs ys hd he
theorem eqvAll_clean : ∀ ds es : List PyData, cleanAll ds = true → cleanAll es = true → (PyData.eqvAll ds es = true ↔ ds = es)
  | [], es, _, _ => by cases es <;> simp [PyData.eqvAll]
  | x :: xs, es, hd, he => by
    cases es with
    | nil => simp [PyData.eqvAll]
    | cons y ys =>
      simp only [cleanAll, Bool.and_eq_true] at hd he
      simp only [PyData.eqvAll, Bool.and_eq_true, List.cons.injEq, eqv_clean x y hd.1 he.1, eqvAll_clean xs ys hd.2 he.2]
end
theorem eqv_dec {d e : PyData} (hd : clean d = true) (he : clean e = true) {p : Prop} [Decidable p] (h : d = e ↔ p) : PyData.eqv d e = decide p := by
  rw [Bool.eq_iff_iff, eqv_clean d e hd he, h]
  simp
/-- scalars as data -/
def sd : V → PyData
  | .int i => .int i
  | .str x => .str x
  | .bl b => .bool b
  | _ => .none
/-- an int, None or a short text -/
def flat : V → Bool
  | .int _ => true
  | .non => true
  | .str x => PyData.strOk x
  | _ => false
theorem clean_l {xs : List PyData} (h : cleanAll xs = true) : clean (.list xs) = true := h
theorem clean_t {xs : List PyData} (h : cleanAll xs = true) : clean (.tuple xs) = true := h
theorem sd_inj {x y : V} (hx : flat x = true) (hy : flat y = true) (h : sd x = sd y) : x = y := by
  cases x <;> cases y <;> simp_all [sd, flat]
theorem clean_sd {x : V} (hx : flat x = true) : clean (sd x) = true := by cases x <;> simp_all [sd, flat, clean]
theorem cleanAll_sd : ∀ {xs : List V}, (∀ x ∈ xs, flat x = true) → cleanAll (xs.map sd) = true
  | [], _ => rfl
  | x :: xs, h => by
    simp only [List.map_cons, cleanAll, Bool.and_eq_true]
    exact ⟨clean_sd (h x (by simp)), cleanAll_sd fun y hy => h y (by simp [hy])⟩
theorem canLay_sd {x : V} (hx : flat x = true) : (sd x).canLay0 = true := by cases x <;> simp_all [sd, flat, PyData.canLay0]
theorem canLayAll_sd : ∀ {xs : List V}, (∀ x ∈ xs, flat x = true) → PyData.canLayAll0 (xs.map sd) = true
  | [], _ => rfl
  | x :: xs, h => by
    simp only [List.map_cons, PyData.canLayAll0, Bool.and_eq_true]
    exact ⟨canLay_sd (h x (by simp)), canLayAll_sd fun y hy => h y (by simp [hy])⟩
theorem depth_sd {x : V} : (sd x).depth = 0 := by cases x <;> simp [sd, PyData.depth]
theorem depthAll_sd : ∀ {xs : List V}, PyData.depthAll (xs.map sd) = 0
  | [] => by simp [PyData.depthAll]
  | x :: xs => by simp only [List.map_cons, PyData.depthAll, depth_sd, depthAll_sd]; rfl
theorem shaped_sd {x : V} (hx : flat x = true) : SeqAt.shaped (sd x) = true := by
  simp only [SeqAt.shaped, canLay_sd hx, depth_sd, Bool.true_and, decide_eq_true_eq]; omega
theorem shaped_list {xs : List V} (h : ∀ x ∈ xs, flat x = true) : SeqAt.shaped (.list (xs.map sd)) = true := by
  simp only [SeqAt.shaped, PyData.canLay0, canLayAll_sd h, PyData.depth, depthAll_sd, Bool.true_and, decide_eq_true_eq]; omega
theorem shaped_tup {xs : List V} (h : ∀ x ∈ xs, flat x = true) : SeqAt.shaped (.tuple (xs.map sd)) = true := by
  simp only [SeqAt.shaped, PyData.canLay0, canLayAll_sd h, PyData.depth, depthAll_sd, Bool.true_and, decide_eq_true_eq]; omega
section
variable {K : PySem.W.Frag} {H : Hp} {a b : Addr} {xs ys : List V} {f : Bool → Bool} {Q : VK} {x y : V}
theorem dp_flat (hx : flat x = true) : Dp K H x (sd x) := by
  cases x <;> simp_all [flat, sd] <;> constructor
theorem dps_flat : ∀ {xs : List V}, (∀ x ∈ xs, flat x = true) → DpAll K H xs (xs.map sd)
  | [], _ => .nil
  | x :: xs, h => .cons (dp_flat (h x (by simp))) (dps_flat fun y hy => h y (by simp [hy]))
theorem map_sd_inj : ∀ {xs ys : List V}, (∀ x ∈ xs, flat x = true) → (∀ x ∈ ys, flat x = true) → xs.map sd = ys.map sd → xs = ys
  | [], [], _, _, _ => rfl
  | [], _ :: _, _, _, h => by simp at h
  | _ :: _, [], _, _, h => by simp at h
  | x :: xs, y :: ys, hx, hy, h => by
    simp only [List.map_cons, List.cons.injEq] at h
    rw [sd_inj (hx x (by simp)) (hy y (by simp)) h.1, map_sd_inj (fun z hz => hx z (by simp [hz])) (fun z hz => hy z (by simp [hz])) h.2]
/-- == of two lists of scalars -/
theorem veq_ll (h1 : SqL K H a xs) (h2 : SqL K H b ys) (hx : ∀ x ∈ xs, flat x = true) (hy : ∀ x ∈ ys, flat x = true) {p : Prop} [Decidable p] (hp : xs = ys ↔ p) (q : Q (.bl (f (decide p))) H) : vEq K f (.ref a) (.ref b) H Q := by
  refine .inr ⟨_, _, .lst h1 (dps_flat hx), .lst h2 (dps_flat hy), shaped_list hx, shaped_list hy, ?_⟩
  rw [eqv_dec (p := p) (clean_l (cleanAll_sd hx)) (clean_l (cleanAll_sd hy)) ⟨fun e => hp.mp (map_sd_inj hx hy (by simpa using e)), fun e => by rw [hp.mpr e]⟩]
  exact q
theorem veq_tt (h1 : SqT K H a xs) (h2 : SqT K H b ys) (hx : ∀ x ∈ xs, flat x = true) (hy : ∀ x ∈ ys, flat x = true) {p : Prop} [Decidable p] (hp : xs = ys ↔ p) (q : Q (.bl (f (decide p))) H) : vEq K f (.ref a) (.ref b) H Q := by
  refine .inr ⟨_, _, .tup h1 (dps_flat hx), .tup h2 (dps_flat hy), shaped_tup hx, shaped_tup hy, ?_⟩
  rw [eqv_dec (p := p) (clean_t (cleanAll_sd hx)) (clean_t (cleanAll_sd hy)) ⟨fun e => hp.mp (map_sd_inj hx hy (by simpa using e)), fun e => by rw [hp.mpr e]⟩]
  exact q
/-- == of data in general -/
def _root_.L2.V.isRef : L2.V → Bool
  | .ref _ => true
  | _ => false
theorem veq_d {d e : PyData} (n : (x.isRef || y.isRef) = true) (h1 : Dp K H x d) (h2 : Dp K H y e) (s1 : SeqAt.shaped d = true) (s2 : SeqAt.shaped e = true) {b : Bool} (hb : PyData.eqv d e = b) (q : Q (.bl (f b)) H) : vEq K f x y H Q := by
  have : (scal x y = true ∧ Q (.bl (f (decide (x = y)))) H) ∨ ∃ d e, Dp K H x d ∧ Dp K H y e ∧ SeqAt.shaped d = true ∧ SeqAt.shaped e = true ∧ Q (.bl (f (PyData.eqv d e))) H :=
    .inr ⟨d, e, h1, h2, s1, s2, by rw [hb]; exact q⟩
  unfold vEq
  cases x <;> cases y <;> first | exact this | simp [V.isRef] at n
theorem ints_flat {ns : List Int} : ∀ x ∈ ns.map V.int, flat x = true := fun x h => by
  obtain ⟨n, _, rfl⟩ := List.mem_map.mp h
  rfl
theorem ints_inj {xs ys : List Int} : xs.map V.int = ys.map V.int ↔ xs = ys :=
  ⟨fun h => (List.map_inj_right fun _ _ e => V.int.inj e).mp h, fun h => by rw [h]⟩
end
/-! ### parts of lists -/
section
variable {xs : List V}
theorem cut_to {k : Int} (h : 0 ≤ k) : cutV xs none (some k) = xs.take k.toNat := by
  have e : ¬ k < 0 := by omega
  simp only [cutV, HT.sIx, if_neg e, Nat.sub_zero, List.drop_zero]
  by_cases l : k.toNat ≤ xs.length
  · rw [Nat.min_eq_left l]
  · rw [Nat.min_eq_right (by omega), List.take_of_length_le (Nat.le_refl _), List.take_of_length_le (by omega)]
theorem cut_from {k : Int} (h : 0 ≤ k) : cutV xs (some k) none = xs.drop k.toNat := by
  have e : ¬ k < 0 := by omega
  simp only [cutV, HT.sIx, if_neg e]
  by_cases l : k.toNat ≤ xs.length
  · rw [Nat.min_eq_left l, List.take_of_length_le (by simp)]
  · rw [Nat.min_eq_right (by omega), List.drop_of_length_le (by omega), List.drop_of_length_le (by omega)]; simp
theorem cut_all : cutV xs none none = xs := by simp [cutV, HT.sIx]
theorem cut_both {i j : Int} (h : 0 ≤ i) (h2 : 0 ≤ j) : cutV xs (some i) (some j) = (xs.take j.toNat).drop i.toNat := by
  have e : ¬ i < 0 := by omega
  have e2 : ¬ j < 0 := by omega
  simp only [cutV, HT.sIx, if_neg e, if_neg e2]
  rw [List.drop_take]
  by_cases l : i.toNat ≤ xs.length
  · rw [Nat.min_eq_left l]
    by_cases l2 : j.toNat ≤ xs.length
    · rw [Nat.min_eq_left l2]
    · rw [Nat.min_eq_right (by omega), List.take_of_length_le (by simp), List.take_of_length_le (by simp; omega)]
  · rw [Nat.min_eq_right (by omega : xs.length ≤ i.toNat), List.drop_of_length_le (by omega), List.drop_of_length_le (by omega)]; simp
theorem cut_last : cutV xs none (some (-1)) = xs.dropLast := by
  simp only [cutV, HT.sIx, Nat.sub_zero, List.drop_zero, List.dropLast_eq_take]
  rw [if_pos (by omega)]
  congr 1
  omega
/-- the i-th from the first on, or back from the last -/
theorem atI_nat {α : Type} {xs : List α} {i : Int} (h : 0 ≤ i) (l : i < xs.length) : atI xs i = xs[i.toNat]? := by
  simp only [atI, ixN, if_pos h, if_pos l, Option.bind_some]
theorem atI_back {α : Type} {xs : List α} {i : Int} (h : i < 0) (l : -(xs.length : Int) ≤ i) : atI xs i = xs[(i + xs.length).toNat]? := by
  simp only [atI, ixN, if_neg (by omega : ¬ 0 ≤ i), if_pos l, Option.bind_some]
theorem atI_m1 {α : Type} {xs : List α} {x : α} : atI (xs ++ [x]) (-1) = some x := by
  rw [atI_back (by omega) (by simp; omega)]
  have : ((-1 : Int) + ((xs ++ [x]).length : Nat)).toNat = xs.length := by simp only [List.length_append, List.length_singleton]; omega
  rw [this]; simp
theorem atI_0 {α : Type} {xs : List α} {x : α} : atI (x :: xs) 0 = some x := by
  rw [atI_nat (by omega) (by simp only [List.length_cons]; omega)]; rfl
theorem ixN_nat {n : Nat} {i : Int} (h : 0 ≤ i) (l : i < n) : ixN n i = some i.toNat := by
  simp only [ixN, if_pos h, if_pos l]
end
/-! ### steps of change -/
section
variable {T : List (Addr × Str)} {S S' : Addr → Prop} {H G H' : Hp} {p l C dx : Addr} {o : HO} {K : PySem.W.Frag} {xs : List V}
theorem Chg.nw (n : Nw G p o H') (c : Chg T S H G) : Chg T S H H' := c.trans (S' := nil) n.chg fun _ z => z.elim
theorem Chg.mkd (n : Mkd G C p dx H') (c : Chg T S H G) : Chg T S H H' := c.trans (S' := nil) n.chg fun _ z => z.elim
theorem Chg.tp (n : Tp K G p xs H') (c : Chg T S H G) : Chg T S H H' := c.trans (S' := nil) n.chg fun _ z => z.elim
theorem Chg.wr (n : Wr G l o H') (c : Chg T S H G) (h : S l ∨ H l = none) : Chg T S H H' := c.trans (S' := In [l]) (n.chg (by simp [In])) fun b z => by
  have : b = l := by simpa [In] using z
  rw [this]; exact h
theorem Chg.ch (n : Chg T S' G H') (c : Chg T S H G) (h : ∀ b, S' b → S b ∨ H b = none) : Chg T S H H' := c.trans n h
theorem Chg.gr (n : Grows T G H') (c : Chg T S H G) : Chg T S H H' := c.trans (S' := nil) (.ofGrows n) fun _ z => z.elim
theorem sub_nil0 : ∀ b, nil b → S b ∨ H b = none := fun _ z => z.elim
theorem sub_nil : ∀ b, In [] b → S b ∨ H b = none := fun _ z => nomatch z
theorem sub_cons {ls : List Addr} (h : S l ∨ H l = none) (t : ∀ b, In ls b → S b ∨ H b = none) : ∀ b, In (l :: ls) b → S b ∨ H b = none := fun b z => by
  rcases List.mem_cons.mp z with e | z
  · rw [e]; exact h
  · exact t b z
theorem Grows.look (g : Grows T H H') {b : Addr} {u : HO} (h : H b = some u) (nt : isTbl u = false) : H' b = some u := g.ext b u h (isTbl_ne nt)
theorem SqL.keep {H H' : Hp} {a : Addr} (h : SqL K H a xs) (k : ∀ o, H a = some o → isTbl o = false → H' a = some o) : SqL K H' a xs := by
  rcases h with (h | ⟨ob, h⟩) | h
  · exact .inl (.inl (k _ h rfl))
  · exact .inl (.inr ⟨ob, k _ h rfl⟩)
  · exact .inr h
end
/-! ### calls by values -/
section
variable {X : Cx}
def vLen (K : PySem.W.Frag) : List V → Hp → VK → Prop := fun xs H Q => match xs with
  | [.ref p] => ∃ ys, (SqL K H p ys ∨ SqT K H p ys) ∧ Q (.int (ys.length : Nat)) H
  | [.str z] => z.length ≤ sizeLine ∧ Q (.int (z.length : Nat)) H
  | _ => False
theorem call_lenV : CallR X (.builtin "len") (vLen X.K) := crI call_len fun xs H Q h => by
  unfold vLen at h
  split at h
  · obtain ⟨ys, a, b⟩ := h
    exact .inl ⟨_, ys, rfl, a, b⟩
  · exact .inr ⟨_, rfl, h⟩
  · exact h.elim
def vList (K : PySem.W.Frag) : List V → Hp → VK → Prop := fun xs H Q => match xs with
  | [.ref p] => ∃ ys, (SqL K H p ys ∨ SqT K H p ys) ∧ ∀ l H', Nw H l (.lst ys) H' → Q (.ref l) H'
  | _ => False
theorem call_listV : CallR X (.type "list") (vList X.K) := crI call_list fun xs H Q h => by
  unfold vList at h
  split at h
  · obtain ⟨ys, a, b⟩ := h
    exact ⟨_, ys, rfl, a, b⟩
  · exact h.elim
def vTuple (K : PySem.W.Frag) : List V → Hp → VK → Prop := fun xs H Q => match xs with
  | [.ref p] => (∃ ys, SqL K H p ys ∧ ∀ l H', Nw H l (.tup ys) H' → Q (.ref l) H') ∨ (∃ ys, SqT K H p ys ∧ Q (.ref p) H)
  | _ => False
theorem call_tupleV : CallR X (.type "tuple") (vTuple X.K) := crI call_tuple fun xs H Q h => by
  unfold vTuple at h
  split at h
  · rcases h with ⟨ys, a, b⟩ | ⟨ys, a, b⟩
    · exact ⟨_, ys, rfl, .inl ⟨a, b⟩⟩
    · exact ⟨_, ys, rfl, .inr ⟨a, b⟩⟩
  · exact h.elim
end
/-! ### x op= y of ints -/
section
variable {X : Cx}
def uIp (C : Int → Int → Prop) (f : Int → Int → Int) : TIp := fun x y H Q => match x, y with
  | .int i, .int j => C i j ∧ Q (.int (f i j)) H
  | _, _ => False
def uIp0 (f : Int → Int → Int) : TIp := fun x y H Q => match x, y with
  | .int i, .int j => Q (.int (f i j)) H
  | _, _ => False
theorem ip_sub : PIp X .Sub (uIp0 fun i j => i - j) := by
  intro pins s σ H x y u v Q I rx ry h
  cases x <;> cases y <;> simp only [uIp0] at h <;> first
    | exact h.elim
    | exact L2.ip_sub pins s σ H _ _ u v Q I rx ry ⟨_, _, rfl, rfl, h⟩
theorem ip_mult : PIp X .Mult (uIp CMul fun i j => i * j) := by
  intro pins s σ H x y v u Q I r1 r2 h
  cases x <;> cases y <;> simp only [uIp] at h <;> first
    | exact h.elim
    | skip
  obtain ⟨t, rfl⟩ := r1
  obtain ⟨t', rfl⟩ := r2
  exact PySem.P.imul_int ⟨.int _, H, I.tok _, ⟨_, rfl⟩, h.2⟩ h.1.ok
theorem ip_floordiv : PIp X .FloorDiv (uIp CDiv fun i j => i / j) := by
  intro pins s σ H x y v u Q I r1 r2 h
  cases x <;> cases y <;> simp only [uIp] at h <;> first
    | exact h.elim
    | skip
  obtain ⟨t, rfl⟩ := r1
  obtain ⟨t', rfl⟩ := r2
  rename_i i j
  have h1 : (0 : Int) < j := h.1.1
  have h2 : j < 1073741824 := h.1.2
  exact PyProof.Rows.ifloordiv_int (by omega) (by rw [Int.fdiv_eq_ediv_of_nonneg i (by omega)]; exact ⟨.int _, H, I.tok _, ⟨_, rfl⟩, h.2⟩) (.inl (PyProof.noPylong_small (by omega)))
theorem ip_mod : PIp X .Mod (uIp (fun _ j => 0 < j) fun i j => i % j) := by
  intro pins s σ H x y v u Q I r1 r2 h
  cases x <;> cases y <;> simp only [uIp] at h <;> first
    | exact h.elim
    | skip
  obtain ⟨t, rfl⟩ := r1
  obtain ⟨t', rfl⟩ := r2
  rename_i i j
  have h1 : (0 : Int) < j := h.1
  exact PyProof.Rows.imod_int (by omega) (by rw [Int.fmod_eq_emod_of_nonneg i (by omega)]; exact ⟨.int _, H, I.tok _, ⟨_, rfl⟩, h.2⟩)
end
/-! ### while -/
def WhN (Pv : L2.St → Hp → Prop) (μ : L2.St → Hp → Nat) (m : Nat) (D : Ends) (tb : TS) (σ : L2.St) (H1 : Hp) : Prop :=
  ∃ N : L2.St → Hp → Prop, (∀ σ' H', N σ' H' → ∃ m', m' < m ∧ m' = μ σ' H' ∧ Pv σ' H') ∧ tb { D with nx := N, ct := N, bk := D.nx } σ H1
theorem wh_step {Pv : L2.St → Hp → Prop} {μ : L2.St → Hp → Nat} {m : Nat} {D : Ends} {tb : TS} {σ : L2.St} {H1 : Hp}
    (h : tb { D with nx := fun σ' H' => Pv σ' H' ∧ μ σ' H' < m, ct := fun σ' H' => Pv σ' H' ∧ μ σ' H' < m, bk := D.nx } σ H1) : WhN Pv μ m D tb σ H1 := ⟨_, fun _ _ z => ⟨_, z.2, rfl, z.1⟩, h⟩
theorem while_n {c : TT} {tb : TS} {D : Ends} {σ : L2.St} {H : Hp} (Pv : L2.St → Hp → Prop) (μ : L2.St → Hp → Nat) (h0 : Pv σ H)
    (hs : ∀ σ H, Pv σ H → c σ H fun b H1 => if b = true then WhN Pv μ (μ σ H) D tb σ H1 else D.nx σ H1) : tWhile c tb D σ H := by
  refine ⟨fun m σ H => m = μ σ H ∧ Pv σ H, ⟨_, rfl, h0⟩, ?_⟩
  rintro m σ H ⟨rfl, p⟩
  exact hs σ H p
end Y

set_option Elab.async false
set_option linter.all false
set_option maxRecDepth 100000
set_option maxHeartbeats 4000000
/-! own layer: generator expressions by an invariant -/
namespace Y
open PySem PySem.Spec L2 LamX
/-- one turn of a generator expression that has handed on ys -/
def GxTurn (g : TG) (tt : TT) (te : TE) (vs : List Nat) (σ : L2.St) (ys : List V) (Pn : List V → Hp → Prop) (x : V) (H : Hp) : Prop := ∀ (Nx : V → Hp → Prop) (Sk : Hp → Prop),
  (∀ y H4, ys.length < sizeLine → Pn (ys ++ [y]) H4 → Nx y H4) → (∀ H', Pn ys H' → Sk H') →
  g x (wipe σ vs) H fun σ2 H2 => wipe σ2 vs = wipe σ vs ∧ tt σ2 H2 fun b H3 => if b = true then te σ2 H3 Nx else Sk H3
section
variable {K : PySem.W.Frag} {a : Addr} {xs : List V} {g : TG} {tt : TT} {te : TE} {vs : List Nat} {σ : L2.St} {H1 : Hp} {wi : TI} {cont : List V → Hp → Prop}
theorem GxTurn.at {Pn : List V → Hp → Prop} {x : V} {H : Hp} {ys : List V} (t : GxTurn g tt te vs σ ys Pn x H) : g x (wipe σ vs) H fun σ2 H2 => wipe σ2 vs = wipe σ vs ∧ tt σ2 H2 fun b H3 =>
    if b = true then te σ2 H3 fun y H4 => ys.length < sizeLine ∧ Pn (ys ++ [y]) H4 else Pn ys H3 :=
  t _ _ (fun y H4 l h => ⟨l, h⟩) fun H' h => h
theorem gxr {lo : Int} {n : Nat} (Pv : Nat → List V → Hp → Prop) (h0 : Pv 0 [] H1) (hd : ∀ ys H, Pv n ys H → cont ys H)
    (hs : ∀ i ys H, i < n → Pv i ys H → GxTurn g tt te vs σ ys (Pv (i + 1)) (.int (lo + i)) H) : tGx wi g tt te vs (Itr lo n) H1 σ cont := by
  refine ⟨fun i m ys H => m = n - i ∧ i ≤ n ∧ Pv i ys H, ⟨n, by simp, Nat.zero_le _, h0⟩, ?_⟩
  rintro i m ys H ⟨rfl, hi, p⟩
  by_cases hlt : i < n
  · refine .inr ⟨hlt, fun ys' H' => Pv (i + 1) ys' H', fun ys' H' p' => ⟨n - (i + 1), by omega, rfl, hlt, p'⟩, ?_⟩
    rintro x H' ⟨rfl, rfl⟩
    exact (hs i ys _ hlt p).at
  · have e : i = n := by omega
    exact .inl ⟨by show n ≤ i; omega, hd ys H (e ▸ p)⟩
theorem gxl (Pv : Nat → List V → Hp → Prop) (h0 : Pv 0 [] H1) (hl : ∀ i ys H, i ≤ xs.length → Pv i ys H → SqL K H a xs) (hd : ∀ ys H, Pv xs.length ys H → cont ys H)
    (hs : ∀ i x ys H, xs[i]? = some x → Pv i ys H → GxTurn g tt te vs σ ys (Pv (i + 1)) x H) : tGx wi g tt te vs (Itl K a) H1 σ cont := by
  refine ⟨fun i m ys H => m = xs.length - i ∧ i ≤ xs.length ∧ Pv i ys H, ⟨xs.length, by simp, Nat.zero_le _, h0⟩, ?_⟩
  rintro i m ys H ⟨rfl, hi, p⟩
  have hq := hl i ys H hi p
  by_cases hlt : i < xs.length
  · refine .inr ⟨⟨xs, xs[i], hq, List.getElem?_eq_getElem hlt⟩, fun ys' H' => Pv (i + 1) ys' H', fun ys' H' p' => ⟨xs.length - (i + 1), by omega, rfl, hlt, p'⟩, ?_⟩
    rintro x H' ⟨rfl, hx⟩
    exact (hs i x ys _ (hx xs hq) p).at
  · have e : i = xs.length := by omega
    exact .inl ⟨⟨xs, hq, by omega⟩, hd ys H (e ▸ p)⟩
theorem gxt (Pv : Nat → List V → Hp → Prop) (h0 : Pv 0 [] H1) (hl : ∀ i ys H, i ≤ xs.length → Pv i ys H → SqT K H a xs) (hd : ∀ ys H, Pv xs.length ys H → cont ys H)
    (hs : ∀ i x ys H, xs[i]? = some x → Pv i ys H → GxTurn g tt te vs σ ys (Pv (i + 1)) x H) : tGx wi g tt te vs (Itt K a) H1 σ cont := by
  refine ⟨fun i m ys H => m = xs.length - i ∧ i ≤ xs.length ∧ Pv i ys H, ⟨xs.length, by simp, Nat.zero_le _, h0⟩, ?_⟩
  rintro i m ys H ⟨rfl, hi, p⟩
  have hq := hl i ys H hi p
  by_cases hlt : i < xs.length
  · refine .inr ⟨⟨xs, xs[i], hq, List.getElem?_eq_getElem hlt⟩, fun ys' H' => Pv (i + 1) ys' H', fun ys' H' p' => ⟨xs.length - (i + 1), by omega, rfl, hlt, p'⟩, ?_⟩
    rintro x H' ⟨rfl, hx⟩
    exact (hs i x ys _ (hx xs hq) p).at
  · have e : i = xs.length := by omega
    exact .inl ⟨⟨xs, hq, by omega⟩, hd ys H (e ▸ p)⟩
/-- one turn of one whose items are known: the j-th of ys is due -/
def GxNTurn (g : TG) (tt : TT) (te : TE) (vs : List Nat) (σ : L2.St) (ys : List V) (out : Nat → Hp → Prop) (j : Nat) (Pn : Nat → Hp → Prop) (x : V) (H : Hp) : Prop := ∀ (Nx : V → Hp → Prop) (Sk : Hp → Prop),
  (∀ y H4, ys[j]? = some y → out j H4 → Pn (j + 1) H4 → Nx y H4) → (∀ H', Pn j H' → Sk H') →
  g x (wipe σ vs) H fun σ2 H2 => wipe σ2 vs = wipe σ vs ∧ tt σ2 H2 fun b H3 => if b = true then te σ2 H3 Nx else Sk H3
theorem GxNTurn.at {Pn : Nat → Hp → Prop} {x : V} {H : Hp} {ys : List V} {out : Nat → Hp → Prop} {j : Nat} (t : GxNTurn g tt te vs σ ys out j Pn x H) : g x (wipe σ vs) H fun σ2 H2 => wipe σ2 vs = wipe σ vs ∧ tt σ2 H2 fun b H3 =>
    if b = true then te σ2 H3 fun y H4 => ys[j]? = some y ∧ out j H4 ∧ Pn (j + 1) H4 else Pn j H3 :=
  t _ _ (fun y H4 a b c => ⟨a, b, c⟩) fun H' h => h
variable {ys : List V} {out : Nat → Hp → Prop} {ct : Hp → Prop}
theorem gnr {lo : Int} {n : Nat} (Pv : Nat → Nat → Hp → Prop) (h0 : Pv 0 0 H1) (hd : ∀ j H, Pv n j H → j = ys.length ∧ ct H)
    (hs : ∀ i j H, i < n → Pv i j H → GxNTurn g tt te vs σ ys out j (Pv (i + 1)) (.int (lo + i)) H) : tGxN wi g tt te vs (Itr lo n) H1 σ ys out ct := by
  refine ⟨fun i m j H => m = n - i ∧ i ≤ n ∧ Pv i j H, ⟨n, by simp, Nat.zero_le _, h0⟩, ?_⟩
  rintro i m j H ⟨rfl, hi, p⟩
  by_cases hlt : i < n
  · refine .inr ⟨hlt, fun j' H' => Pv (i + 1) j' H', fun j' H' p' => ⟨n - (i + 1), by omega, rfl, hlt, p'⟩, ?_⟩
    rintro x H' ⟨rfl, rfl⟩
    exact (hs i j _ hlt p).at
  · have e : i = n := by omega
    obtain ⟨a, b⟩ := hd j H (e ▸ p)
    exact .inl ⟨by show n ≤ i; omega, a, b⟩
theorem gnl (Pv : Nat → Nat → Hp → Prop) (h0 : Pv 0 0 H1) (hl : ∀ i j H, i ≤ xs.length → Pv i j H → SqL K H a xs) (hd : ∀ j H, Pv xs.length j H → j = ys.length ∧ ct H)
    (hs : ∀ i x j H, xs[i]? = some x → Pv i j H → GxNTurn g tt te vs σ ys out j (Pv (i + 1)) x H) : tGxN wi g tt te vs (Itl K a) H1 σ ys out ct := by
  refine ⟨fun i m j H => m = xs.length - i ∧ i ≤ xs.length ∧ Pv i j H, ⟨xs.length, by simp, Nat.zero_le _, h0⟩, ?_⟩
  rintro i m j H ⟨rfl, hi, p⟩
  have hq := hl i j H hi p
  by_cases hlt : i < xs.length
  · refine .inr ⟨⟨xs, xs[i], hq, List.getElem?_eq_getElem hlt⟩, fun j' H' => Pv (i + 1) j' H', fun j' H' p' => ⟨xs.length - (i + 1), by omega, rfl, hlt, p'⟩, ?_⟩
    rintro x H' ⟨rfl, hx⟩
    exact (hs i x j _ (hx xs hq) p).at
  · have e : i = xs.length := by omega
    obtain ⟨a, b⟩ := hd j H (e ▸ p)
    exact .inl ⟨⟨xs, hq, by omega⟩, a, b⟩
theorem gnt (Pv : Nat → Nat → Hp → Prop) (h0 : Pv 0 0 H1) (hl : ∀ i j H, i ≤ xs.length → Pv i j H → SqT K H a xs) (hd : ∀ j H, Pv xs.length j H → j = ys.length ∧ ct H)
    (hs : ∀ i x j H, xs[i]? = some x → Pv i j H → GxNTurn g tt te vs σ ys out j (Pv (i + 1)) x H) : tGxN wi g tt te vs (Itt K a) H1 σ ys out ct := by
  refine ⟨fun i m j H => m = xs.length - i ∧ i ≤ xs.length ∧ Pv i j H, ⟨xs.length, by simp, Nat.zero_le _, h0⟩, ?_⟩
  rintro i m j H ⟨rfl, hi, p⟩
  have hq := hl i j H hi p
  by_cases hlt : i < xs.length
  · refine .inr ⟨⟨xs, xs[i], hq, List.getElem?_eq_getElem hlt⟩, fun j' H' => Pv (i + 1) j' H', fun j' H' p' => ⟨xs.length - (i + 1), by omega, rfl, hlt, p'⟩, ?_⟩
    rintro x H' ⟨rfl, hx⟩
    exact (hs i x j _ (hx xs hq) p).at
  · have e : i = xs.length := by omega
    obtain ⟨a, b⟩ := hd j H (e ▸ p)
    exact .inl ⟨⟨xs, hq, by omega⟩, a, b⟩
end
end Y

set_option Elab.async false
set_option linter.all false
set_option maxRecDepth 100000
/-! own layer: the rules with the text's K named ahead -/
namespace Y
open PySem PySem.Spec L2 LamX
section
variable {X : Cx} {K : PySem.W.Frag} (hK : X.K = K)
include hK
theorem op_addK : OpR X (binaryOp .Add) (uAdd K) := hK ▸ op_add
theorem op_eqK (hu : X.A.units + 64 < cLine) : OpR X (compareOp .Eq) (vEq K id) := hK ▸ op_eqV hu
theorem op_neK (hu : X.A.units + 64 < cLine) : OpR X (compareOp .NotEq) (vEq K not) := hK ▸ op_neV hu
theorem lenK : CallR X (.builtin "len") (vLen K) := hK ▸ call_lenV
theorem listK : CallR X (.type "list") (vList K) := hK ▸ call_listV
theorem tupleK : CallR X (.type "tuple") (vTuple K) := hK ▸ call_tupleV
theorem slK : SlR X (uSl K) := hK ▸ sl_any
theorem ixK : IxR X (uIx K) := hK ▸ ix_any
theorem pi_seqK {tg l : Expr} {tl : TE} (hl : PE X l tl) : PI X tg l (iSeq K tl) := hK ▸ pi_seq hl
theorem pe_revK {e : Expr} {te : TE} {k : Nat} {p1 p2 p3 pos : Pos} (he : PE X e te) : PE X (.Subscript e (.Slice none none (some (.UnaryOp .USub (.Constant (.int 1) k p1) p2)) p3) pos) (tRev K te) := hK ▸ pe_rev he
end
section
variable {K : PySem.W.Frag} {H H' : Hp} {a p l : Addr} {xs ys : List V} {o u : HO} {T : List (Addr × Str)} {S : Addr → Prop}
theorem SqT.keep (h : SqT K H a xs) (k : ∀ o, H a = some o → isTbl o = false → kd o ≠ 0 → H' a = some o) : SqT K H' a xs := by
  rcases h with (h | ⟨ob, h⟩) | h
  · exact .inl (.inl (k _ h rfl (by simp [kd])))
  · exact .inl (.inr ⟨ob, k _ h rfl (by simp [kd])⟩)
  · exact .inr h
theorem SqT.nw (n : Nw H p o H') (h : SqT K H a xs) : SqT K H' a xs := Y.SqT.keep h fun _ e _ _ => n.look e
theorem SqT.tp (n : Tp K H p ys H') (h : SqT K H a xs) : SqT K H' a xs := Y.SqT.keep h fun _ e _ _ => n.same _ _ e
theorem SqT.mkd {C dx : Addr} (n : Mkd H C p dx H') (h : SqT K H a xs) : SqT K H' a xs := Y.SqT.keep h fun _ e _ _ => n.look e
theorem SqT.wrl {zs : List V} (n : Wr H l o H') (e : H l = some (.lst zs)) (h : SqT K H a xs) : SqT K H' a xs := Y.SqT.keep h fun o e2 _ k => n.look e2 fun z => k (by rw [z, e] at e2; cases e2; rfl)
theorem SqT.chg (c : Chg T S H H') (h : SqT K H a xs) (n : ¬ S a) : SqT K H' a xs := Y.SqT.keep h fun _ e t _ => c.look e n t
theorem SqL.nw (n : Nw H p o H') (h : SqL K H a xs) : SqL K H' a xs := Y.SqL.keep h fun _ e _ => n.look e
theorem SqL.tp (n : Tp K H p ys H') (h : SqL K H a xs) : SqL K H' a xs := Y.SqL.keep h fun _ e _ => n.same _ _ e
theorem SqL.mkd {C dx : Addr} (n : Mkd H C p dx H') (h : SqL K H a xs) : SqL K H' a xs := Y.SqL.keep h fun _ e _ => n.look e
theorem SqL.wr (n : Wr H l o H') (h : SqL K H a xs) (d : a ≠ l) : SqL K H' a xs := Y.SqL.keep h fun _ e _ => n.look e d
end
theorem lt1000 {n : Nat} (h : Nat.ble (n + 1) 1000 = true) : n < 1000 := Nat.le_of_ble_eq_true h
theorem ne_fr {H : Hp} {b p : Addr} {u : HO} (n : H p = none) (h : H b = some u) : b ≠ p := ne_of_none h n
/-! ### lists -/
theorem snocRec {α : Type} {P : List α → Prop} (n : P []) (s : ∀ xs x, P xs → P (xs ++ [x])) (xs : List α) : P xs := by
  have : ∀ k (xs : List α), xs.length = k → P xs := by
    intro k
    induction k with
    | zero => intro xs h; rw [List.length_eq_zero_iff.mp h]; exact n
    | succ k ih =>
      intro xs h
      rcases List.eq_nil_or_concat xs with e | ⟨ys, y, e⟩
      · rw [e] at h; simp at h
      · rw [List.concat_eq_append] at e
        subst e
        exact s _ _ (ih ys (by simp at h; omega))
  exact this _ xs rfl
inductive All2 {α β : Type} (R : α → β → Prop) : List α → List β → Prop
  | nil : All2 R [] []
  | cons {a b as bs} : R a b → All2 R as bs → All2 R (a :: as) (b :: bs)
theorem All2.imp {α β : Type} {R S : α → β → Prop} {as : List α} {bs : List β} (h : All2 R as bs) (i : ∀ a b, R a b → S a b) : All2 S as bs := by
  induction h with
  | nil => exact .nil
  | cons r _ ih => exact .cons (i _ _ r) ih
theorem All2.len {α β : Type} {R : α → β → Prop} {as : List α} {bs : List β} (h : All2 R as bs) : as.length = bs.length := by
  induction h with
  | nil => rfl
  | cons r _ ih => simp [ih]
theorem All2.app {α β : Type} {R : α → β → Prop} {as as' : List α} {bs bs' : List β} (h : All2 R as bs) (h' : All2 R as' bs') : All2 R (as ++ as') (bs ++ bs') := by
  induction h with
  | nil => exact h'
  | cons r _ ih => exact .cons r ih
theorem All2.snoc {α β : Type} {R : α → β → Prop} {as : List α} {bs : List β} {a : α} {b : β} (h : All2 R as bs) (r : R a b) : All2 R (as ++ [a]) (bs ++ [b]) := h.app (.cons r .nil)
theorem All2.get {α β : Type} {R : α → β → Prop} {as : List α} {bs : List β} (h : All2 R as bs) {i : Nat} {b : β} (e : bs[i]? = some b) : ∃ a, as[i]? = some a ∧ R a b := by
  induction h generalizing i with
  | nil => simp at e
  | cons r _ ih =>
    cases i with
    | zero => simp at e; subst e; exact ⟨_, rfl, r⟩
    | succ i => exact ih (by simpa using e)
theorem All2.getL {α β : Type} {R : α → β → Prop} {as : List α} {bs : List β} (h : All2 R as bs) {i : Nat} {a : α} (e : as[i]? = some a) : ∃ b, bs[i]? = some b ∧ R a b := by
  induction h generalizing i with
  | nil => simp at e
  | cons r _ ih =>
    cases i with
    | zero => simp at e; subst e; exact ⟨_, rfl, r⟩
    | succ i => exact ih (by simpa using e)
theorem All2.rev {α β : Type} {R : α → β → Prop} {as : List α} {bs : List β} (h : All2 R as bs) : All2 R as.reverse bs.reverse := by
  induction h with
  | nil => exact .nil
  | cons r _ ih => simpa using ih.snoc r
theorem All2.unsnoc {α β : Type} {R : α → β → Prop} {as : List α} {bs : List β} {b : β} (h : All2 R as (bs ++ [b])) : ∃ as' a, as = as' ++ [a] ∧ All2 R as' bs ∧ R a b := by
  have r := h.rev
  rw [List.reverse_append] at r
  generalize hs : as.reverse = ss at r
  cases r with
  | cons x y =>
    rename_i a as2
    refine ⟨as2.reverse, a, by rw [← List.reverse_reverse as, hs]; simp, ?_, x⟩
    have := y.rev
    simpa using this
theorem lt_line {n : Nat} (h : n < 16777216) : n < sizeLine := h
theorem pg_tupK {X : Cx} {K : PySem.W.Frag} {es : List Expr} {k : Nat} {t : TGs} {n : Nat} {pos : Pos} (hK : X.K = K) (hc : X.calm = true) (h : PGs X es t)
    (hn : (assignEach es X.env).length = n := by rfl) (hst : (assignEach es X.env).findIdx? (·.1) = none := by rfl) : PG X (.Tuple es k pos) (gTup K n t) := hK ▸ pg_tup hc h hn hst
end Y

set_option Elab.async false
set_option linter.all false
set_option maxRecDepth 100000
set_option maxHeartbeats 4000000
/-! own layer: enumerate over a tuple, and over a list or a tuple -/
namespace Y
open PySem PySem.Spec L2 LamX
theorem meets_enum1 {v : Value} {o : Obj} {H : Heap → Prop} (B : Begins v o H) :
    Meets (Builtin.«enumerate.__new__» ⟨[.type "enumerate", v], []⟩) (fun _ R s => H s.heap ∧
      R (.ok (.ret (.ref (s.heap.push o).objs.size))) { s with heap := (s.heap.push o).push { cls := .type "enumerate", data := .fields #[.none, .bool false, .ref s.heap.objs.size, rawInt 0, .none, .none] } }) :=
  .of_wp fun prog w A R s h => by
    obtain ⟨hp, g, d, tk, os⟩ := s; obtain ⟨h1, h⟩ := h
    have hsub := sub_enumerate
    have q1 : ∀ {A' : Around} {E : Value → Shared → Prop} {Q : Value → Shared → Prop}, Q (.ref hp.objs.size) ⟨hp.push o, g, d, tk, os⟩ → wpAny (model prog w) A' (pyIter v) Q E ⟨hp, g, d, tk, os⟩ :=
      fun q => B.iter prog w _ _ ⟨hp, g, d, tk, os⟩ _ h1 q
    wp_walk using q1
    refine wpAny_stack_any fun st => wpAny_pure ?_
    split
    · rename_i c _ _ _ _ _
      cases (c == Value.type "enumerate")
      · wp_walk using q1
        exact ⟨_, rfl, h⟩
      · wp_walk using q1
        exact ⟨_, rfl, h⟩
    · wp_walk using q1
      exact ⟨_, rfl, h⟩
section
variable {prog : Program} {w : World} {A : Around} {E : Value → Shared → Prop} {s : Shared}
theorem enum_begins1 {v : Value} {o : Obj} {H : Heap → Prop} {Q : Value → Shared → Prop} (B : Begins v o H) (h1 : H s.heap)
    (h : ∀ h', IsEnum h' (s.heap.objs.size + 1) s.heap.objs.size 0 .none → h'.get? s.heap.objs.size = some o → h'.objs.size = s.heap.objs.size + 2 →
      (∀ b o, s.heap.get? b = some o → h'.get? b = some o) → Q (.ref (s.heap.objs.size + 1)) { s with heap := h' }) :
    wpAny (model prog w) A (call (.type "enumerate") [v]) Q E s := by
  refine callType_new F.called_enumerate (by decide) (F.typeCall_enumerate_1 _) (F.newCall_enumerate_1 _) (fun obj => F.args_object_init_2 obj _) F.entry_enumerate_new
    (meets_enum1 B) ⟨h1, ?_⟩
  have hz : (s.heap.push o).objs.size = s.heap.objs.size + 1 := Heap.size_push ..
  show _ ∧ _
  rw [hz]
  have he : IsEnum ((s.heap.push o).push { cls := .type "enumerate", data := .fields #[.none, .bool false, .ref s.heap.objs.size, rawInt 0, .none, .none] }) (s.heap.objs.size + 1) s.heap.objs.size 0 .none := by
    have := Heap.get?_push_size (s.heap.push o) (o := { cls := .type "enumerate", data := .fields #[.none, .bool false, .ref s.heap.objs.size, rawInt 0, .none, .none] }) rfl
    rw [hz] at this; exact this
  refine ⟨⟨_, he, rfl⟩, h _ he (Heap.get?_push_of_some _ (Heap.get?_push_size _ B.free)) (by rw [Heap.size_push, hz]) fun b o x => Heap.get?_push_of_some _ (Heap.get?_push_of_some _ x)⟩
end
/-- the tuple at a, each item in a new pair -/
def IteT (K : PySem.W.Frag) (a : Addr) : It :=
  ⟨fun i H => ∃ (xs : List V) (x : V), SqT K H a xs ∧ xs[i]? = some x, fun i H v H' => ∃ T x, v = .ref T ∧ H T = none ∧ H' = upd H T (.tup [.int (i : Nat), x]) ∧ ∀ xs, SqT K H a xs → xs[i]? = some x, fun i H => ∃ xs : List V, SqT K H a xs ∧ xs.length ≤ i⟩
theorem turn_enumT {P : Program} {w : World} {K : PySem.W.Frag} {elts : List Expr} {kk : Nat} {tpos : Pos} (a e it : Addr) :
    Turn P w K (.Tuple elts kk tpos) (IteT K a) [e, it] e (fun i h => (∃ old, IsEnum h e it ((i : Nat) : Int) old) ∧ h.IsTupleIter it a i ∧ e ≠ it ∧ a ≠ it ∧ a ≠ e) where
  mem := by simp
  obj := fun i h st b hb => by
    obtain ⟨⟨old, he⟩, ⟨o, ho, hc, hd⟩, _⟩ := st
    have e' : b = e ∨ b = it := by simpa using hb
    rcases e' with z | z
    · rw [z]; exact ⟨_, he, fun v q => nomatch q⟩
    · rw [z]; exact ⟨o, ho, fun v q => by rw [hd] at q; cases q⟩
  keep := fun i h h' st k => let ⟨⟨old, he⟩, hi, hne⟩ := st; ⟨⟨old, k e (by simp) _ he⟩, hi.at fun o q => k it (by simp) o q, hne⟩
  item := by
    intro X hP hw hK hc i pins s σ H E I hf st hg
    subst hP hw hK
    obtain ⟨⟨old, he⟩, hit, hne, hai, hae⟩ := st
    obtain ⟨xs, x, hq, hx⟩ := hg
    obtain ⟨its, rv, p, hz⟩ := I.tuple hq
    obtain ⟨u, hu, ru⟩ := rv.get hx
    have hel : e < s.heap.objs.size := Heap.lt_size he
    have hil : it < s.heap.objs.size := by obtain ⟨_, q, _⟩ := hit; exact Heap.lt_size q
    have hlt : i < its.toArray.size := by
      have : i < its.length := (List.getElem?_eq_some_iff.mp hu).1
      simpa using this
    have DD := Draws.tuple (prog := X.prog) (w := X.w) (A := X.A.in1) (show X.A.in1.handled = none from I.ok.hd hc) it a hai its.toArray
    refine wpAny_pyNext_enum_itemD DD he ⟨hit, p⟩ hlt hne (by simp [hne, Ne.symm hae]) fun x' h' tk hx' ho hit' hT hsz hk => ?_
    obtain rfl : u = x' := by
      have hx2 : its.toArray[i]? = some x' := hx'
      rw [List.getElem?_toArray, hu] at hx2
      exact Option.some.inj hx2
    refine ⟨_, rfl, wpAny_letOwnedTupleGo_enum (s := { s with heap := h', toks := tk + 1 }) ho fun h'' he' sb => ?_⟩
    have hT2 : h''.get? s.heap.objs.size = some { cls := .type "tuple", data := .seq #[.int i tk, u] } := (sb.2 _ (Nat.ne_of_gt hel)).trans hT
    have new : ObjOk X.prog X.w (upd H s.heap.objs.size (.tup [.int (i : Nat), x])) h'' s.heap.objs.size (.tup [.int (i : Nat), x]) :=
      ⟨by show 2 ≤ sizeLine; decide, [.int i tk, u], .cons ⟨_, rfl⟩ (.cons ru .nil), ⟨_, hT2, rfl, _, rfl⟩⟩
    have I1 : Inv X pins σ (upd H s.heap.objs.size (.tup [.int (i : Nat), x])) { s with heap := h'', toks := tk + 1 } :=
      I.turnedNew (ch := [e, it]) (fun b ob hb q => (sb.2 b (fun z => hb (by simp [z]))).trans (hk b ob (fun z => hb (by simp [z])) (fun z => hb (by simp [z])) q)) hf (Nat.le_refl _) new
    refine ⟨.ref s.heap.objs.size, _, I1, rfl, ⟨_, x, rfl, I.hok.fresh (Nat.le_refl _), rfl, fun ys hy => by rw [I.tuple_inj hy hq]; exact hx⟩, ⟨⟨u, ?_⟩, hit'.1.at fun o q => (sb.2 it (Ne.symm hne)).trans q, hne, hai, hae⟩, fun b hb => ?_⟩
    · have e1 : ((i + 1 : Nat) : Int) = (i : Int) + 1 := by omega
      rw [e1]; exact he'
    · have hb' : b < s.heap.objs.size := by
        have e' : b = e ∨ b = it := by simpa using hb
        rcases e' with z | z
        · rw [z]; exact hel
        · rw [z]; exact hil
      rw [upd_ne (Nat.ne_of_lt hb')]
      exact (hf b hb).1
  done := by
    intro X hP hw hK hc i pins s σ H E I hf st hg
    subst hP hw hK
    obtain ⟨⟨old, he⟩, hit, hne, hai, hae⟩ := st
    obtain ⟨xs, hq, hx⟩ := hg
    obtain ⟨its, rv, p, hz⟩ := I.tuple hq
    obtain ⟨f0, f1, f2, f3, f4, f5⟩ := hf it (by simp)
    have hl := rv.length
    have hT : s.TypeIs (.ref e) "enumerate" := ⟨_, he, rfl⟩
    unfold pyNext
    refine wpAny_bind (wpAny_attempt (wpAny_callSpecial?_slot (name := Str.ofString "__next__") hT F.slot_enumerate_next
      (wpAny_call_entry F.slot_enumerate_next hT F.entry_enumerate_next ?_ (F.args_enumerate_next_1 _))))
    show wpAny _ _ (field (.ref e) 2 >>= _) _ _ _
    refine wpAny_bind (wpAny_field he rfl (x := .ref it) rfl ?_)
    refine wpAny_bind (wpAny_nextOf_tuple_end (I.ok.hd hc) hit (show s.heap.IsTuple a its.toArray from p) (by simp; omega) fun h' x he' hx' => ?_)
    obtain ⟨o, ho, hcl⟩ := hx'
    refine wpAny_bind (wpAny_isInstance (T := "StopIteration") (b := true) ⟨o, ho, hcl⟩ isSubtype_stop ?_)
    exact wpAny_pure ⟨rfl, I.turned (t' := s.toks) (fun b o hb q => he' b o hb q) f0 f1 f3 f4 f5⟩
  self := fun A i s Q E st h => let ⟨⟨_, he⟩, _⟩ := st; wpAny_pyIter_enum he h

/-- enumerate over a list or a tuple -/
def iEnumA (K : PySem.W.Frag) (ta : TA) : TI := fun σ H R => ta σ H fun vs H1 => ∃ a, vs = [.ref a] ∧ (((∃ xs, SqL K H1 a xs) ∧ R (Ite K a) H1) ∨ ((∃ xs, SqT K H1 a xs) ∧ R (IteT K a) H1))
theorem pi_enumK {X : Cx} {K : PySem.W.Frag} (hK : X.K = K) {e : Expr} {ta : TA} {p pos tpos : Pos} {elts : List Expr} {kk : Nat} (hg : Gl X "enumerate") (hm : X.mg "enumerate" = none) (ha : PA X [e] ta) (hs : starEach [e] X.env = [(false, eval e X.env)] := by rfl) :
    PI X (.Tuple elts kk tpos) (.Call (.Name "enumerate" p) [e] [] pos) (iEnumA K ta) := by
  subst hK
  refine ⟨fun pins s σ H R I h => ?_⟩
  refine PyProof.Rows.Call_ (ld_blt I hg hm PyProof.Rows.boot_enumerate (PyProof.Rows.callWith_type1 (thn (ha.run pos pins s σ H _ I h) fun us s1 ⟨vs, H1, I1, r1, q1⟩ => ?_) hs rfl))
  obtain ⟨a, ex, q1⟩ := q1
  subst ex
  cases r1 with
  | cons r rr =>
    cases rr
    cases r
    have fp : ∀ b ∈ [s1.heap.objs.size + 1, s1.heap.objs.size], s1.heap.objs.size ≤ b := by
      intro b hb
      have e' : b = s1.heap.objs.size + 1 ∨ b = s1.heap.objs.size := by simpa using hb
      rcases e' with z | z
      · rw [z]; exact Nat.le_add_right _ _
      · rw [z]; exact Nat.le_refl _
    rcases q1 with ⟨⟨xs, hq⟩, q⟩ | ⟨⟨xs, hq⟩, q⟩
    · obtain ⟨its, rv, p', hz⟩ := I1.list hq
      refine call_enumerate_list p'.isList fun h' he hit hsz hk => wpAny_pyIter_enum he ?_
      have I2 : Inv X pins σ H1 { s1 with heap := h' } := I1.kept (t' := s1.toks) hk
      exact ⟨s1.heap.objs.size + 1, [s1.heap.objs.size + 1, s1.heap.objs.size], _, _, H1, rfl, I2, turn_enum a (s1.heap.objs.size + 1) s1.heap.objs.size, ⟨⟨.none, he⟩, hit, Nat.succ_ne_self _⟩, fun b hb => I1.fpOk (fp b hb) (I1.hok.fresh (fp b hb)), q⟩
    · obtain ⟨its, rv, p', hz⟩ := I1.tuple hq
      refine enum_begins1 (begins_tuple a its.toArray) p' fun h' he hit hsz hk => wpAny_pyIter_enum he ?_
      have I2 : Inv X pins σ H1 { s1 with heap := h' } := I1.kept (t' := s1.toks) hk
      have hl : a < s1.heap.objs.size := by obtain ⟨_, q, _⟩ := p'; exact Heap.lt_size q
      exact ⟨s1.heap.objs.size + 1, [s1.heap.objs.size + 1, s1.heap.objs.size], _, _, H1, rfl, I2, turn_enumT a (s1.heap.objs.size + 1) s1.heap.objs.size, ⟨⟨.none, he⟩, ⟨_, hit, rfl, rfl⟩, Nat.succ_ne_self _, Nat.ne_of_lt hl, Nat.ne_of_lt (Nat.lt_succ_of_lt hl)⟩, fun b hb => I1.fpOk (fp b hb) (I1.hok.fresh (fp b hb)), q⟩
theorem walk_enumT {K : PySem.W.Frag} {a : Addr} {xs : List V} : Walk (IteT K a) xs.length (fun H => SqT K H a xs) (YPair (fun i => some (.int (i : Nat))) (fun i => xs[i]?)) := by
  refine ⟨fun i _ hi q => ⟨xs, xs[i], q, by simp [hi]⟩, fun _ q => ⟨xs, q, Nat.le_refl _⟩, fun i H v H' _ q y => ?_⟩
  obtain ⟨T, x, h1, h2, h3, h4⟩ := y
  exact ⟨T, .int (i : Nat), x, h1, h2, h3, rfl, h4 xs q⟩
theorem for_enumL {K : PySem.W.Frag} {a : Addr} {xs : List V} {g : TG} {tb : TS} {D : Ends} {σ : L2.St} {H : Hp} (Pv : Nat → L2.St → Hp → Prop) (h0 : Pv 0 σ H) (hl : ∀ i σ H, i ≤ xs.length → Pv i σ H → SqL K H a xs)
    (hs : ∀ i x σ H, xs[i]? = some x → Pv i σ H → ∀ t H', Nw H t (.tup [.int (i : Nat), x]) H' → g (.ref t) σ H' fun σ2 H2 => tb { D with nx := Pv (i + 1), ct := Pv (i + 1), bk := D.nx } σ2 H2) (hd : ∀ σ H, Pv xs.length σ H → D.nx σ H) :
    ∃ W : Nat → Nat → L2.St → Hp → Prop, (∃ m, W 0 m σ H) ∧ ∀ i m σ H, W i m σ H →
      ((Ite K a).stop i H ∧ D.nx σ H) ∨ ((Ite K a).go i H ∧ ∃ N : L2.St → Hp → Prop, (∀ σ' H', N σ' H' → ∃ m', m' < m ∧ W (i + 1) m' σ' H') ∧ ∀ x H', (Ite K a).yld i H x H' → g x σ H' fun σ2 H2 => tb { D with nx := N, ct := N, bk := D.nx } σ2 H2) := by
  refine ⟨fun i m σ H => m = xs.length - i ∧ i ≤ xs.length ∧ Pv i σ H, ⟨xs.length, by simp, Nat.zero_le _, h0⟩, ?_⟩
  rintro i m σ H ⟨rfl, hi, p⟩
  have q := hl i σ H hi p
  by_cases hlt : i < xs.length
  · refine .inr ⟨⟨xs, xs[i], q, List.getElem?_eq_getElem hlt⟩, fun σ' H' => Pv (i + 1) σ' H', fun σ' H' p' => ⟨xs.length - (i + 1), by omega, rfl, hlt, p'⟩, ?_⟩
    rintro v H' ⟨t, x, rfl, hn, rfl, hx⟩
    exact hs i x σ H (hx xs q) p t _ ⟨rfl, hn⟩
  · have e : i = xs.length := by omega
    exact .inl ⟨⟨xs, q, by omega⟩, hd σ H (e ▸ p)⟩
theorem for_enumT {K : PySem.W.Frag} {a : Addr} {xs : List V} {g : TG} {tb : TS} {D : Ends} {σ : L2.St} {H : Hp} (Pv : Nat → L2.St → Hp → Prop) (h0 : Pv 0 σ H) (hl : ∀ i σ H, i ≤ xs.length → Pv i σ H → SqT K H a xs)
    (hs : ∀ i x σ H, xs[i]? = some x → Pv i σ H → ∀ t H', Nw H t (.tup [.int (i : Nat), x]) H' → g (.ref t) σ H' fun σ2 H2 => tb { D with nx := Pv (i + 1), ct := Pv (i + 1), bk := D.nx } σ2 H2) (hd : ∀ σ H, Pv xs.length σ H → D.nx σ H) :
    ∃ W : Nat → Nat → L2.St → Hp → Prop, (∃ m, W 0 m σ H) ∧ ∀ i m σ H, W i m σ H →
      ((IteT K a).stop i H ∧ D.nx σ H) ∨ ((IteT K a).go i H ∧ ∃ N : L2.St → Hp → Prop, (∀ σ' H', N σ' H' → ∃ m', m' < m ∧ W (i + 1) m' σ' H') ∧ ∀ x H', (IteT K a).yld i H x H' → g x σ H' fun σ2 H2 => tb { D with nx := N, ct := N, bk := D.nx } σ2 H2) := by
  refine ⟨fun i m σ H => m = xs.length - i ∧ i ≤ xs.length ∧ Pv i σ H, ⟨xs.length, by simp, Nat.zero_le _, h0⟩, ?_⟩
  rintro i m σ H ⟨rfl, hi, p⟩
  have q := hl i σ H hi p
  by_cases hlt : i < xs.length
  · refine .inr ⟨⟨xs, xs[i], q, List.getElem?_eq_getElem hlt⟩, fun σ' H' => Pv (i + 1) σ' H', fun σ' H' p' => ⟨xs.length - (i + 1), by omega, rfl, hlt, p'⟩, ?_⟩
    rintro v H' ⟨t, x, rfl, hn, rfl, hx⟩
    exact hs i x σ H (hx xs q) p t _ ⟨rfl, hn⟩
  · have e : i = xs.length := by omega
    exact .inl ⟨⟨xs, q, by omega⟩, hd σ H (e ▸ p)⟩
theorem lce {K : PySem.W.Frag} {a : Addr} {xs : List V} {g : TG} {tt : TT} {te : TE} {vs : List Nat} {σ : L2.St} {H1 : Hp} {D : Addr} {Qd : Hp → Prop} (Pv : Nat → Hp → Prop) (hD : H1 D = none) (h0 : ∀ H', Nw H1 D (.lst []) H' → Pv 0 H') (hl : ∀ i H, i ≤ xs.length → Pv i H → SqL K H a xs) (hd : ∀ H, Pv xs.length H → Qd H)
    (hs : ∀ i x H, xs[i]? = some x → Pv i H → ∀ t H', Nw H t (.tup [.int (i : Nat), x]) H' → LcTurn g tt te vs σ D (Pv (i + 1)) (.ref t) H') : LcW (Ite K a) g tt te vs σ H1 D Qd := by
  refine ⟨fun i m H => m = xs.length - i ∧ i ≤ xs.length ∧ Pv i H, ⟨xs.length, by simp, Nat.zero_le _, h0 _ ⟨rfl, hD⟩⟩, ?_⟩
  rintro i m H ⟨rfl, hi, p⟩
  have hq := hl i H hi p
  by_cases hlt : i < xs.length
  · refine .inr ⟨⟨xs, xs[i], hq, List.getElem?_eq_getElem hlt⟩, fun H' => Pv (i + 1) H', fun H' p' => ⟨xs.length - (i + 1), by omega, rfl, hlt, p'⟩, ?_⟩
    rintro v H' ⟨t, x, rfl, hn, rfl, hx⟩
    exact (hs i x _ (hx xs hq) p t _ ⟨rfl, hn⟩).at
  · have e : i = xs.length := by omega
    exact .inl ⟨⟨xs, hq, by omega⟩, hd H (e ▸ p)⟩
theorem lceT {K : PySem.W.Frag} {a : Addr} {xs : List V} {g : TG} {tt : TT} {te : TE} {vs : List Nat} {σ : L2.St} {H1 : Hp} {D : Addr} {Qd : Hp → Prop} (Pv : Nat → Hp → Prop) (hD : H1 D = none) (h0 : ∀ H', Nw H1 D (.lst []) H' → Pv 0 H') (hl : ∀ i H, i ≤ xs.length → Pv i H → SqT K H a xs) (hd : ∀ H, Pv xs.length H → Qd H)
    (hs : ∀ i x H, xs[i]? = some x → Pv i H → ∀ t H', Nw H t (.tup [.int (i : Nat), x]) H' → LcTurn g tt te vs σ D (Pv (i + 1)) (.ref t) H') : LcW (IteT K a) g tt te vs σ H1 D Qd := by
  refine ⟨fun i m H => m = xs.length - i ∧ i ≤ xs.length ∧ Pv i H, ⟨xs.length, by simp, Nat.zero_le _, h0 _ ⟨rfl, hD⟩⟩, ?_⟩
  rintro i m H ⟨rfl, hi, p⟩
  have hq := hl i H hi p
  by_cases hlt : i < xs.length
  · refine .inr ⟨⟨xs, xs[i], hq, List.getElem?_eq_getElem hlt⟩, fun H' => Pv (i + 1) H', fun H' p' => ⟨xs.length - (i + 1), by omega, rfl, hlt, p'⟩, ?_⟩
    rintro v H' ⟨t, x, rfl, hn, rfl, hx⟩
    exact (hs i x _ (hx xs hq) p t _ ⟨rfl, hn⟩).at
  · have e : i = xs.length := by omega
    exact .inl ⟨⟨xs, hq, by omega⟩, hd H (e ▸ p)⟩
/-! ### list(range(..)) -/
section
variable {X : Cx} {a b : Expr} {ta tb : TE} {p p2 pos pos2 : Pos}
def tLRg (mk : List V → HO) (ta : TE) : TE := fun σ H Q => ta σ H fun x H1 => ∃ n : Int, x = .int n ∧ (-16777216 ≤ n ∧ n ≤ 16777216) ∧ ∀ q H2, Nw H1 q (mk (rgV 0 n)) H2 → Q (.ref q) H2
def tLRg2 (mk : List V → HO) (ta tb : TE) : TE := fun σ H Q => ta σ H fun x H1 => tb σ H1 fun y H2 => ∃ i j : Int, x = .int i ∧ y = .int j ∧ (-8388608 ≤ i ∧ i ≤ 8388608) ∧ (-8388608 ≤ j ∧ j ≤ 8388608) ∧ ∀ q H3, Nw H2 q (mk (rgV i j)) H3 → Q (.ref q) H3
theorem rg_ok1 {n : Int} (h : -16777216 ≤ n ∧ n ≤ 16777216) : RgOk 0 n := ⟨by omega, by omega, by omega, by omega, by omega⟩
theorem rg_ok2 {i j : Int} (h : -8388608 ≤ i ∧ i ≤ 8388608) (h2 : -8388608 ≤ j ∧ j ≤ 8388608) : RgOk i j := ⟨by omega, by omega, by omega, by omega, by omega⟩
theorem pe_listRg1 (hc : X.calm = true) (hg : Gl X "list") (hm : X.mg "list" = none) (hg2 : Gl X "range") (hm2 : X.mg "range" = none) (ha : PE X a ta) (na : starEach [a] X.env = (false, eval a X.env) :: starEach [] X.env := by rfl) (na2 : starEach [.Call (.Name "range" p) [a] [] pos] X.env = (false, eval (.Call (.Name "range" p) [a] [] pos) X.env) :: starEach [] X.env := by rfl) :
    PE X (.Call (.Name "list" p2) [.Call (.Name "range" p) [a] [] pos] [] pos2) (tLRg .lst ta) :=
  peI (pe_listRg hc hg hm (prg_1 hg2 hm2 (peU ha) na) na2) fun σ H Q h => ⟨_, h, fun x H1 ⟨n, e, o, q⟩ => ⟨n, e, rg_ok1 o, fun r f => q r _ ⟨rfl, f⟩⟩⟩
theorem pe_tupRg1 (hc : X.calm = true) (hg : Gl X "tuple") (hm : X.mg "tuple" = none) (hg2 : Gl X "range") (hm2 : X.mg "range" = none) (ha : PE X a ta) (na : starEach [a] X.env = (false, eval a X.env) :: starEach [] X.env := by rfl) (na2 : starEach [.Call (.Name "range" p) [a] [] pos] X.env = (false, eval (.Call (.Name "range" p) [a] [] pos) X.env) :: starEach [] X.env := by rfl) :
    PE X (.Call (.Name "tuple" p2) [.Call (.Name "range" p) [a] [] pos] [] pos2) (tLRg .tup ta) :=
  peI (pe_tupRg hc hg hm (prg_1 hg2 hm2 (peU ha) na) na2) fun σ H Q h => ⟨_, h, fun x H1 ⟨n, e, o, q⟩ => ⟨n, e, rg_ok1 o, fun r f => q r _ ⟨rfl, f⟩⟩⟩
end
/-! ### a list or a tuple -/
abbrev SqA (K : PySem.W.Frag) (H : Hp) (a : Addr) (xs : List V) : Prop := SqL K H a xs ∨ SqT K H a xs
theorem SqA.ofL {K : PySem.W.Frag} {H : Hp} {a : Addr} {xs : List V} (h : H a = some (.lst xs)) : SqA K H a xs := .inl (SqL.of h)
theorem SqA.ofT {K : PySem.W.Frag} {H : Hp} {a : Addr} {xs : List V} (h : H a = some (.tup xs)) : SqA K H a xs := .inr (SqT.of h)
theorem SqA.chg {K : PySem.W.Frag} {H H' : Hp} {a : Addr} {xs : List V} {T : List (Addr × Str)} {S : Addr → Prop} (h : SqA K H a xs) (c : Chg T S H H') (n : ¬ S a) : SqA K H' a xs :=
  h.imp (fun q => c.seqL q n) fun q => SqT.chg c q n
theorem SqA.keepN {K : PySem.W.Frag} {H H' : Hp} {a : Addr} {xs : List V} {T : List (Addr × Str)} (h : SqA K H a xs) (c : Chg T nil H H') : SqA K H' a xs := h.chg c id
theorem for_enumA {K : PySem.W.Frag} {a : Addr} {xs : List V} {g : TG} {tb : TS} {D : Ends} {σ : L2.St} {H : Hp} {T : List (Addr × Str)} {H0 : Hp} (sq : SqA K H0 a xs) (c0 : Chg T nil H0 H) (Pv : Nat → L2.St → Hp → Prop) (h0 : Pv 0 σ H) (hl : ∀ i σ' H', Pv i σ' H' → Chg T nil H0 H')
    (hs : ∀ i x σ H, xs[i]? = some x → Pv i σ H → ∀ t H', Nw H t (.tup [.int (i : Nat), x]) H' → g (.ref t) σ H' fun σ2 H2 => tb { D with nx := Pv (i + 1), ct := Pv (i + 1), bk := D.nx } σ2 H2) (hd : ∀ σ H, Pv xs.length σ H → D.nx σ H) :
    ((∃ xs, SqL K H a xs) ∧ ∃ W : Nat → Nat → L2.St → Hp → Prop, (∃ m, W 0 m σ H) ∧ ∀ i m σ H, W i m σ H →
      ((Ite K a).stop i H ∧ D.nx σ H) ∨ ((Ite K a).go i H ∧ ∃ N : L2.St → Hp → Prop, (∀ σ' H', N σ' H' → ∃ m', m' < m ∧ W (i + 1) m' σ' H') ∧ ∀ x H', (Ite K a).yld i H x H' → g x σ H' fun σ2 H2 => tb { D with nx := N, ct := N, bk := D.nx } σ2 H2)) ∨ ((∃ xs, SqT K H a xs) ∧ ∃ W : Nat → Nat → L2.St → Hp → Prop, (∃ m, W 0 m σ H) ∧ ∀ i m σ H, W i m σ H →
      ((IteT K a).stop i H ∧ D.nx σ H) ∨ ((IteT K a).go i H ∧ ∃ N : L2.St → Hp → Prop, (∀ σ' H', N σ' H' → ∃ m', m' < m ∧ W (i + 1) m' σ' H') ∧ ∀ x H', (IteT K a).yld i H x H' → g x σ H' fun σ2 H2 => tb { D with nx := N, ct := N, bk := D.nx } σ2 H2)) := by
  rcases sq with q | q
  · exact .inl ⟨⟨_, c0.seqL q id⟩, for_enumL Pv h0 (fun i σ' H' hi p => (hl i σ' H' p).seqL q id) hs hd⟩
  · exact .inr ⟨⟨_, SqT.chg c0 q id⟩, for_enumT Pv h0 (fun i σ' H' hi p => SqT.chg (hl i σ' H' p) q id) hs hd⟩
/-! ### objects of different sorts -/
def kdn : HO → Nat
  | .lst _ => 0
  | .tup _ => 1
  | .ins _ _ _ => 2
  | .ext _ => 3
  | .tbl _ => 4
  | _ => 5
def kdne (o u : HO) : Bool := !(Nat.beq (kdn o) (kdn u))
theorem ne_kdn {H : Hp} {a b : Addr} {o u : HO} (h : H a = some o) (h2 : H b = some u) (n : kdne o u = true) : a ≠ b := ne_obj h h2 fun e => by
  subst e
  simp [kdne] at n
/-- what stands where two ways meet -/
theorem join {t : TS} {D : Ends} {σ : L2.St} {H : Hp} (Xv : L2.St → Hp → Prop) (hx : ∀ σ H, Xv σ H → D.nx σ H) (hw : ∀ N : L2.St → Hp → Prop, (∀ σ H, Xv σ H → N σ H) → t { D with nx := N } σ H) : t D σ H := hw D.nx hx
theorem join2 {a b : TS} {D : Ends} {σ : L2.St} {H : Hp} (Xv : L2.St → Hp → Prop) (hx : ∀ σ H, Xv σ H → b D σ H) (hw : ∀ N : L2.St → Hp → Prop, (∀ σ H, Xv σ H → N σ H) → a { D with nx := N } σ H) : tSeq a b D σ H := hw _ hx
theorem join_if {A B : TS} {D : Ends} {σ : L2.St} {H : Hp} {c : Prop} {i : Decidable c} (Xv : L2.St → Hp → Prop) (hx : ∀ σ H, Xv σ H → D.nx σ H) (hw : ∀ N : L2.St → Hp → Prop, (∀ σ H, Xv σ H → N σ H) → if c then A { D with nx := N } σ H else B { D with nx := N } σ H) : if c then A D σ H else B D σ H := hw D.nx hx
end Y

set_option Elab.async false
set_option linter.all false
set_option maxRecDepth 100000
set_option maxHeartbeats 4000000
/-! own layer: many things on one heap, each with its own cells -/
namespace Y
open PySem PySem.Spec L2 LamX
/-- a thing: what is said of it holds as long as its cells stay -/
def isTup : HO → Bool
  | .tup _ => true
  | _ => false
structure Obj (T : List (Addr × Str)) (F : List Addr) (P : Hp → Prop) : Prop where
  keep : ∀ S H H', Chg T S H H' → (∀ x ∈ F, ¬ S x) → (∀ x, S x → ∀ o, H x = some o → isTup o = false) → P H → P H'
  live : ∀ H, P H → ∀ x ∈ F, ∃ o, H x = some o ∧ isTup o = false
abbrev Th := List Addr × (Hp → Prop)
def Apt (a b : Th) : Prop := ∀ x ∈ a.1, ¬ x ∈ b.1
theorem Apt.symm {a b : Th} (h : Apt a b) : Apt b a := fun x hb ha => h x ha hb
/-- since H0 but S0 was changed; the things in L stand in H, apart from one another -/
structure Wd (T : List (Addr × Str)) (S0 : Addr → Prop) (H0 H : Hp) (L : List Th) : Prop where
  chg : Chg T S0 H0 H
  all : ∀ o ∈ L, Obj T o.1 o.2 ∧ o.2 H
  mine : ∀ o ∈ L, ∀ x ∈ o.1, S0 x ∨ H0 x = none
  apt : L.Pairwise Apt
section
variable {T : List (Addr × Str)} {S S0 : Addr → Prop} {H0 H H' : Hp} {a b c d e : Th} {F F' : List Addr} {P P' : Hp → Prop} {R L : List Th}
theorem wd0 (c : Chg T S0 H0 H) : Wd T S0 H0 H [] := ⟨c, (fun _ h => nomatch h), (fun _ h => nomatch h), .nil⟩
theorem Wd.hd (w : Wd T S0 H0 H ((F, P) :: R)) : P H := (w.all _ List.mem_cons_self).2
theorem Wd.get (w : Wd T S0 H0 H L) (h : (F, P) ∈ L) : P H := (w.all _ h).2
theorem Wd.perm (w : Wd T S0 H0 H L) {L' : List Th} (p : L.Perm L') : Wd T S0 H0 H L' :=
  ⟨w.chg, fun o h => w.all o (p.mem_iff.mpr h), fun o h => w.mine o (p.mem_iff.mpr h), p.pairwise w.apt fun h => h.symm⟩
theorem Wd.to2 (w : Wd T S0 H0 H (a :: b :: R)) : Wd T S0 H0 H (b :: a :: R) := w.perm (.swap _ _ _)
theorem Wd.to3 (w : Wd T S0 H0 H (a :: b :: c :: R)) : Wd T S0 H0 H (c :: a :: b :: R) := w.perm (((List.Perm.swap c b R).cons a).trans (.swap c a _))
theorem Wd.to4 (w : Wd T S0 H0 H (a :: b :: c :: d :: R)) : Wd T S0 H0 H (d :: a :: b :: c :: R) := w.perm ((((List.Perm.swap d c R).cons b).trans (.swap d b _)).cons a |>.trans (.swap d a _))
theorem Wd.to5 (w : Wd T S0 H0 H (a :: b :: c :: d :: e :: R)) : Wd T S0 H0 H (e :: a :: b :: c :: d :: R) := w.perm (((((List.Perm.swap e d R).cons c).trans (.swap e c _)).cons b |>.trans (.swap e b _)).cons a |>.trans (.swap e a _))
theorem Wd.tail (w : Wd T S0 H0 H (a :: R)) : Wd T S0 H0 H R := ⟨w.chg, fun o h => w.all o (List.mem_cons_of_mem _ h), fun o h => w.mine o (List.mem_cons_of_mem _ h), (List.pairwise_cons.mp w.apt).2⟩
/-- the first thing is changed -/
theorem Wd.step (w : Wd T S0 H0 H ((F, P) :: R)) (c : Chg T S H H') (hS : ∀ x, S x → x ∈ F ∨ H x = none) (o : Obj T F' P') (p : P' H') (hF : ∀ x ∈ F', x ∈ F ∨ H x = none) : Wd T S0 H0 H' ((F', P') :: R) := by
  have hp := List.pairwise_cons.mp w.apt
  have off : ∀ q ∈ R, ∀ x ∈ q.1, ¬ (x ∈ F ∨ H x = none) := by
    intro q hq x hx z
    obtain ⟨oq, pq⟩ := w.all q (List.mem_cons_of_mem _ hq)
    rcases z with z | z
    · exact hp.1 q hq x z hx
    · obtain ⟨o, e, _⟩ := oq.live H pq x hx
      rw [e] at z; cases z
  have nt : ∀ x, S x → ∀ o, H x = some o → isTup o = false := by
    intro x hx o e
    rcases hS x hx with z | z
    · obtain ⟨op, pp⟩ := w.all _ (List.mem_cons_self)
      obtain ⟨o2, e2, t⟩ := op.live H pp x z
      rw [e] at e2; cases e2; exact t
    · rw [e] at z; cases z
  have old : ∀ x, x ∈ F ∨ H x = none → S0 x ∨ H0 x = none := fun x h => h.elim (fun h => w.mine _ List.mem_cons_self x h) fun h => .inr (w.chg.dom _ h)
  refine ⟨w.chg.trans c fun x h => old x (hS x h), fun q hq => ?_, fun q hq => ?_, List.pairwise_cons.mpr ⟨fun q hq x hx hx2 => off q hq x hx2 (hF x hx), hp.2⟩⟩
  · rcases List.mem_cons.mp hq with rfl | z
    · exact ⟨o, p⟩
    · obtain ⟨oq, pq⟩ := w.all q (List.mem_cons_of_mem _ z)
      exact ⟨oq, oq.keep S H H' c (fun x hx hs => off q z x hx (hS x hs)) nt pq⟩
  · rcases List.mem_cons.mp hq with rfl | z
    · exact fun x hx => old x (hF x hx)
    · exact w.mine q (List.mem_cons_of_mem _ z)
/-- nothing of them is changed -/
theorem Wd.idle (w : Wd T S0 H0 H L) (c : Chg T nil H H') : Wd T S0 H0 H' L := ⟨w.chg.trans c (fun _ z => z.elim), fun o h => ⟨(w.all o h).1, (w.all o h).1.keep nil H H' c (fun _ _ z => z) (fun _ z => z.elim) (w.all o h).2⟩, w.mine, w.apt⟩
/-- one more -/
theorem Wd.add (w : Wd T S0 H0 H R) (c : Chg T S H H') (hS : ∀ x, S x → H x = none) (o : Obj T F P) (p : P H') (hF : ∀ x ∈ F, H x = none) : Wd T S0 H0 H' ((F, P) :: R) := by
  have w0 : Wd T S0 H0 H (([], fun _ => True) :: R) := ⟨w.chg, fun q hq => by
    rcases List.mem_cons.mp hq with rfl | z
    · exact ⟨⟨fun _ _ _ _ _ _ _ => trivial, (fun _ _ _ h => nomatch h)⟩, trivial⟩
    · exact w.all q z, fun q hq => by
    rcases List.mem_cons.mp hq with rfl | z
    · exact (fun x h => nomatch h)
    · exact w.mine q z, List.pairwise_cons.mpr ⟨(fun _ _ _ h => nomatch h), w.apt⟩⟩
  exact w0.step c (fun x h => .inr (hS x h)) o p fun x h => .inr (hF x h)
theorem Wd.add0 (w : Wd T S0 H0 H R) (c : Chg T nil H H') (o : Obj T F P) (p : P H') (hF : ∀ x ∈ F, H x = none) : Wd T S0 H0 H' ((F, P) :: R) := w.add c (fun _ h => h.elim) o p hF
/-- a thing that was there ahead -/
theorem Wd.own (w : Wd T S0 H0 H R) (o : Obj T F P) (p : P H) (m : ∀ x ∈ F, S0 x) (n : ∀ q ∈ R, ∀ x ∈ F, ¬ x ∈ q.1) : Wd T S0 H0 H ((F, P) :: R) :=
  ⟨w.chg, fun q hq => by
    rcases List.mem_cons.mp hq with rfl | z
    · exact ⟨o, p⟩
    · exact w.all q z, fun q hq => by
    rcases List.mem_cons.mp hq with rfl | z
    · exact fun x h => .inl (m x h)
    · exact w.mine q z, List.pairwise_cons.mpr ⟨fun q hq x hx => n q hq x hx, w.apt⟩⟩
end
/-- one cell -/
theorem obj_at {T : List (Addr × Str)} {a : Addr} {o : HO} (n : isTbl o = false) (t : isTup o = false) : Obj T [a] (fun H => H a = some o) :=
  ⟨fun S H H' c h _ e => c.look e (h a (by simp)) n, fun H e x hx => by simp at hx; subst hx; exact ⟨_, e, t⟩⟩
/-- a tuple stays -/
theorem obj_tup {T : List (Addr × Str)} {a : Addr} {xs : List V} : Obj T [] (fun H => H a = some (.tup xs)) :=
  ⟨fun S H H' c _ h e => c.look e (fun z => nomatch h a z _ e) rfl, fun H e x hx => nomatch hx⟩
theorem obj_true {T : List (Addr × Str)} : Obj T [] (fun _ => True) := ⟨fun _ _ _ _ _ _ _ => trivial, (fun _ _ _ h => nomatch h)⟩
abbrev TupIs (t : Addr) (xs : List V) : Th := ([], fun H => H t = some (.tup xs))
abbrev LstIs (a : Addr) (xs : List V) : Th := ([a], fun H => H a = some (.lst xs))
section
variable {T : List (Addr × Str)} {S S0 : Addr → Prop} {H0 H H' : Hp} {t a : Addr} {xs ys : List V} {R : List Th}
theorem Wd.tup (w : Wd T S0 H0 H R) (n : Nw H t (.tup xs) H') : Wd T S0 H0 H' (TupIs t xs :: R) := w.add0 n.chg obj_tup n.at (fun _ h => nomatch h)
theorem Wd.tupAt (w : Wd T S0 H0 H R) (e : H t = some (.tup xs)) : Wd T S0 H0 H (TupIs t xs :: R) := w.add0 (.refl _) obj_tup e (fun _ h => nomatch h)
theorem Wd.lst (w : Wd T S0 H0 H R) (n : Nw H a (.lst xs) H') : Wd T S0 H0 H' (LstIs a xs :: R) := w.add0 n.chg (obj_at rfl rfl) n.at (fun x h => by simp at h; subst h; exact n.new)
theorem Wd.wr (w : Wd T S0 H0 H (LstIs a xs :: R)) (n : Wr H a (.lst ys) H') : Wd T S0 H0 H' (LstIs a ys :: R) := w.step (n.chg (S := In [a]) (by simp [In])) (fun x h => .inl h) (obj_at rfl rfl) n.at (fun x h => .inl h)
end
theorem perm_to {α : Type} (L : List α) (x : α) (R : List α) : (L ++ x :: R).Perm (x :: (L ++ R)) := List.perm_middle
section
variable {T : List (Addr × Str)} {S0 : Addr → Prop} {H0 H : Hp} {a b c d e f g h i : Th} {R : List Th}
theorem Wd.to6 (w : Wd T S0 H0 H (a :: b :: c :: d :: e :: f :: R)) : Wd T S0 H0 H (f :: a :: b :: c :: d :: e :: R) := w.perm (perm_to [a, b, c, d, e] f R)
theorem Wd.to7 (w : Wd T S0 H0 H (a :: b :: c :: d :: e :: f :: g :: R)) : Wd T S0 H0 H (g :: a :: b :: c :: d :: e :: f :: R) := w.perm (perm_to [a, b, c, d, e, f] g R)
theorem Wd.to8 (w : Wd T S0 H0 H (a :: b :: c :: d :: e :: f :: g :: h :: R)) : Wd T S0 H0 H (h :: a :: b :: c :: d :: e :: f :: g :: R) := w.perm (perm_to [a, b, c, d, e, f, g] h R)
theorem Wd.to9 (w : Wd T S0 H0 H (a :: b :: c :: d :: e :: f :: g :: h :: i :: R)) : Wd T S0 H0 H (i :: a :: b :: c :: d :: e :: f :: g :: h :: R) := w.perm (perm_to [a, b, c, d, e, f, g, h] i R)
end
def forBody : Stmt → List Stmt
  | .For _ _ b _ _ => b
  | _ => []
section
variable {T : List (Addr × Str)} {S0 : Addr → Prop} {H0 H : Hp} {a b c d e f g h i j k l m n o p : Th} {R : List Th}
theorem Wd.to10 (w : Wd T S0 H0 H (a :: b :: c :: d :: e :: f :: g :: h :: i :: j :: R)) : Wd T S0 H0 H (j :: a :: b :: c :: d :: e :: f :: g :: h :: i :: R) := w.perm (perm_to [a, b, c, d, e, f, g, h, i] j R)
theorem Wd.to11 (w : Wd T S0 H0 H (a :: b :: c :: d :: e :: f :: g :: h :: i :: j :: k :: R)) : Wd T S0 H0 H (k :: a :: b :: c :: d :: e :: f :: g :: h :: i :: j :: R) := w.perm (perm_to [a, b, c, d, e, f, g, h, i, j] k R)
theorem Wd.to12 (w : Wd T S0 H0 H (a :: b :: c :: d :: e :: f :: g :: h :: i :: j :: k :: l :: R)) : Wd T S0 H0 H (l :: a :: b :: c :: d :: e :: f :: g :: h :: i :: j :: k :: R) := w.perm (perm_to [a, b, c, d, e, f, g, h, i, j, k] l R)
theorem Wd.to13 (w : Wd T S0 H0 H (a :: b :: c :: d :: e :: f :: g :: h :: i :: j :: k :: l :: m :: R)) : Wd T S0 H0 H (m :: a :: b :: c :: d :: e :: f :: g :: h :: i :: j :: k :: l :: R) := w.perm (perm_to [a, b, c, d, e, f, g, h, i, j, k, l] m R)
theorem Wd.to14 (w : Wd T S0 H0 H (a :: b :: c :: d :: e :: f :: g :: h :: i :: j :: k :: l :: m :: n :: R)) : Wd T S0 H0 H (n :: a :: b :: c :: d :: e :: f :: g :: h :: i :: j :: k :: l :: m :: R) := w.perm (perm_to [a, b, c, d, e, f, g, h, i, j, k, l, m] n R)
theorem Wd.to15 (w : Wd T S0 H0 H (a :: b :: c :: d :: e :: f :: g :: h :: i :: j :: k :: l :: m :: n :: o :: R)) : Wd T S0 H0 H (o :: a :: b :: c :: d :: e :: f :: g :: h :: i :: j :: k :: l :: m :: n :: R) := w.perm (perm_to [a, b, c, d, e, f, g, h, i, j, k, l, m, n] o R)
end
end Y

set_option Elab.async false
set_option linter.all false
set_option maxRecDepth 100000
set_option maxHeartbeats 4000000
/-! own layer: told(lambda: e) at once, the reading without the place -/
namespace Y
open PySem PySem.Spec L2 LamX
def ErrK (K : PySem.W.Frag) (CS : Addr) (ret : Str) (Q : VK) : XK := fun cls _ H' => ∃ b, PySem.W.exmOne K cls (.ref CS) = some b ∧ (b = true → Q (.str ret) H') ∧ (b = false → False)
theorem err_k {K : PySem.W.Frag} {CS : Addr} {ret : Str} {Q : VK} {d : Option Addr} {H : Hp} (hm : PySem.W.exmOne K (.ref CS) (.ref CS) = some true) (q : Q (.str ret) H) : ErrK K CS ret Q (.ref CS) d H := ⟨true, hm, fun _ => q, fun z => nomatch z⟩
def tToL (K : PySem.W.Frag) (T : List (Addr × Str)) (CS : Addr) (ret : Str) (t : XK → TE) : TE := fun σ H Q => Tabs T H ∧ ∀ H1, Grows T H H1 → t (ErrK K CS ret Q) σ H1 Q
theorem pe_toL {X : Cx} {K : PySem.W.Frag} {T : List (Addr × Str)} {k : Nat} {x a ee ret : Str} {st : Stmt} {g CS c c0 P0 : Addr} {fd : FuncData} {Ng : List Str} {p pos p1 p2 p3 p4 p5 p6 p7 p8 lp : Pos} {j : Nat} {params : Arguments} {body : Expr} {scope : Scope} {t : XK → TE}
    (hK : X.K = K) (F : DF X.K x x st g c fd []) (hm : X.mg x = some (.ref g)) (hb : L2.Binds X.K fd [a] []) (Sg : FnScope Ng [a] (defScope st)) (hme : X.mg ee = some (.ref CS)) (hr : Room (k + 2) X.A)
    (TB : TabB X.base X.mg c0 P0) (hcode : X.env.code = .ref c0) (hmt : (P0, X.env.qual ++ "<lambda>") ∈ T) (hu : ∀ p ∈ T, p.1 = P0 → p.2 = X.env.qual ++ "<lambda>")
    (hdef : defaultsOf params X.env = ([], [])) (G : LamGood X k params body scope t)
    (hg : Gl X x) (hNg : Ng[0]? = some a) (hva : Vis (defScope st) a)
    (hbody : defBody st = [.Try [.Return (some (.Call (.Name a p1) [] [] p2)) p3] [.ExceptHandler (some (.Name ee p4)) none [.Return (some (.Constant (.str ret) j p5)) p6] p7] [] [] p8])
    (h0a : ∀ f : Addr, (L2.start Ng [V.ref f])[0]? = some (some (V.ref f))) (hge : (defScope st).names.lookup ee = some .globalImplicit)
    (hde : (ee == ("__debug__" : Str)) = false := by decide) (hdb : (x == ("__debug__" : Str)) = false := by decide) (hd : (a == ("__debug__" : Str)) = false := by decide) (hcd : (a == ("__classdict__" : Str)) = false := by decide)
    (hse : starEach [.Lambda params body scope lp] X.env = (false, eval (.Lambda params body scope lp) X.env) :: starEach [] X.env := by rfl) (hpl : (backTo pos (starEach ([] : List Expr) X.env)).any (·.1) = false := by rfl) :
    PE X (.Call (.Name x p) [.Lambda params body scope lp] [] pos) (tToL K T CS ret t) := by
  subst hK
  exact peI (pe_toD F hm hb Sg hme hr (pe_lamG TB hcode hmt hu hdef G) hg hNg hva hbody h0a hge hde hdb hd hcd hse hpl) fun σ H Q h => ⟨h.1, fun f H1 g1 nf L => ⟨f, t, rfl, L, h.2 H1 g1⟩⟩
theorem cr_minK {X : Cx} {K : PySem.W.Frag} (hK : X.K = K) (hc : X.calm = true) : CallR X (.builtin "min") (rMin K) := hK ▸ cr_min hc
theorem cr_maxK {X : Cx} {K : PySem.W.Frag} (hK : X.K = K) (hc : X.calm = true) : CallR X (.builtin "max") (rMax K) := hK ▸ cr_max hc
end Y

set_option Elab.async false
set_option linter.all false
set_option maxRecDepth 100000
set_option maxHeartbeats 4000000
/-! the text of k17_rings_of_places: statements, scopes, what the top has written -/
namespace Z
open PySem PySem.Spec L2 LamX
abbrev prg : Program := PySem.Challenge.pw_treestack_k17_rings_of_places
def top (i : Nat) : Stmt := PySem.Challenge.pw_treestack_k17_rings_of_places.main.body.getD i (.Pass ⟨0, 0, 0, 0⟩)
abbrev s_Ring___init__ : Stmt := inClass (top 5) 0
def N_Ring___init__ : List Str := ["self", "room", "size"]
theorem sc_Ring___init__ : FnScope N_Ring___init__ ["self", "room"] (defScope s_Ring___init__) := C8.fnScope_by (by decide +kernel)
abbrev s_Ring_spot_of : Stmt := inClass (top 5) 1
def N_Ring_spot_of : List Str := ["self", "place"]
theorem sc_Ring_spot_of : FnScope N_Ring_spot_of ["self", "place"] (defScope s_Ring_spot_of) := C8.fnScope_by (by decide +kernel)
abbrev s_Ring_check_some : Stmt := inClass (top 5) 2
def N_Ring_check_some : List Str := ["self"]
theorem sc_Ring_check_some : FnScope N_Ring_check_some ["self"] (defScope s_Ring_check_some) := C8.fnScope_by (by decide +kernel)
abbrev s_Ring_grow_twice : Stmt := inClass (top 5) 3
def N_Ring_grow_twice : List Str := ["self", "items"]
theorem sc_Ring_grow_twice : FnScope N_Ring_grow_twice ["self"] (defScope s_Ring_grow_twice) := C8.fnScope_by (by decide +kernel)
abbrev s_Ring_put_last : Stmt := inClass (top 5) 4
def N_Ring_put_last : List Str := ["self", "item"]
theorem sc_Ring_put_last : FnScope N_Ring_put_last ["self", "item"] (defScope s_Ring_put_last) := C8.fnScope_by (by decide +kernel)
abbrev s_Ring_put_first : Stmt := inClass (top 5) 5
def N_Ring_put_first : List Str := ["self", "item"]
theorem sc_Ring_put_first : FnScope N_Ring_put_first ["self", "item"] (defScope s_Ring_put_first) := C8.fnScope_by (by decide +kernel)
abbrev s_Ring_check_put : Stmt := inClass (top 5) 6
def N_Ring_check_put : List Str := ["self", "item"]
theorem sc_Ring_check_put : FnScope N_Ring_check_put ["self", "item"] (defScope s_Ring_check_put) := C8.fnScope_by (by decide +kernel)
abbrev s_Ring_take_first : Stmt := inClass (top 5) 7
def N_Ring_take_first : List Str := ["self", "found"]
theorem sc_Ring_take_first : FnScope N_Ring_take_first ["self"] (defScope s_Ring_take_first) := C8.fnScope_by (by decide +kernel)
abbrev s_Ring_take_last : Stmt := inClass (top 5) 8
def N_Ring_take_last : List Str := ["self", "spot", "found"]
theorem sc_Ring_take_last : FnScope N_Ring_take_last ["self"] (defScope s_Ring_take_last) := C8.fnScope_by (by decide +kernel)
abbrev s_Ring_item_at : Stmt := inClass (top 5) 9
def N_Ring_item_at : List Str := ["self", "place"]
theorem sc_Ring_item_at : FnScope N_Ring_item_at ["self", "place"] (defScope s_Ring_item_at) := C8.fnScope_by (by decide +kernel)
abbrev s_Ring_all_items : Stmt := inClass (top 5) 10
def N_Ring_all_items : List Str := ["self", "place"]
theorem sc_Ring_all_items : FnScope N_Ring_all_items ["self"] (defScope s_Ring_all_items) := C8.fnScope_by (by decide +kernel)
abbrev s_Ring_turn_by : Stmt := inClass (top 5) 11
def N_Ring_turn_by : List Str := ["self", "steps", "items", "cut"]
theorem sc_Ring_turn_by : FnScope N_Ring_turn_by ["self", "steps"] (defScope s_Ring_turn_by) := C8.fnScope_by (by decide +kernel)
abbrev s_Ring_room_left : Stmt := inClass (top 5) 12
def N_Ring_room_left : List Str := ["self"]
theorem sc_Ring_room_left : FnScope N_Ring_room_left ["self"] (defScope s_Ring_room_left) := C8.fnScope_by (by decide +kernel)
abbrev s_Last___init__ : Stmt := inClass (top 6) 0
def N_Last___init__ : List Str := ["self", "kept"]
theorem sc_Last___init__ : FnScope N_Last___init__ ["self", "kept"] (defScope s_Last___init__) := C8.fnScope_by (by decide +kernel)
abbrev s_Last_put : Stmt := inClass (top 6) 1
def N_Last_put : List Str := ["self", "item", "found"]
theorem sc_Last_put : FnScope N_Last_put ["self", "item"] (defScope s_Last_put) := C8.fnScope_by (by decide +kernel)
abbrev s_Last_item_from : Stmt := inClass (top 6) 2
def N_Last_item_from : List Str := ["self", "number", "first"]
theorem sc_Last_item_from : FnScope N_Last_item_from ["self", "number"] (defScope s_Last_item_from) := C8.fnScope_by (by decide +kernel)
abbrev s_Queue___init__ : Stmt := inClass (top 7) 0
def N_Queue___init__ : List Str := ["self"]
theorem sc_Queue___init__ : FnScope N_Queue___init__ ["self"] (defScope s_Queue___init__) := C8.fnScope_by (by decide +kernel)
abbrev s_Queue_put : Stmt := inClass (top 7) 1
def N_Queue_put : List Str := ["self", "value"]
theorem sc_Queue_put : FnScope N_Queue_put ["self", "value"] (defScope s_Queue_put) := C8.fnScope_by (by decide +kernel)
abbrev s_Queue_take_value : Stmt := inClass (top 7) 2
def N_Queue_take_value : List Str := ["self", "value", "least"]
theorem sc_Queue_take_value : FnScope N_Queue_take_value ["self"] (defScope s_Queue_take_value) := C8.fnScope_by (by decide +kernel)
abbrev s_Queue_least_value : Stmt := inClass (top 7) 3
def N_Queue_least_value : List Str := ["self", "row"]
theorem sc_Queue_least_value : FnScope N_Queue_least_value ["self"] (defScope s_Queue_least_value) := C8.fnScope_by (by decide +kernel)
abbrev s_Queue_value_count : Stmt := inClass (top 7) 4
def N_Queue_value_count : List Str := ["self"]
theorem sc_Queue_value_count : FnScope N_Queue_value_count ["self"] (defScope s_Queue_value_count) := C8.fnScope_by (by decide +kernel)
abbrev s_least_windows : Stmt := top 8
def N_least_windows : List Str := ["values", "long", "ring", "found", "place", "value"]
theorem sc_least_windows : FnScope N_least_windows ["values", "long"] (defScope s_least_windows) := C8.fnScope_by (by decide +kernel)
abbrev s_last_of_ring : Stmt := top 9
def N_last_of_ring : List Str := ["many", "step", "left", "here", "found"]
theorem sc_last_of_ring : FnScope N_last_of_ring ["many", "step"] (defScope s_last_of_ring) := C8.fnScope_by (by decide +kernel)
abbrev s_next_greater : Stmt := top 10
def N_next_greater : List Str := ["values", "found", "left", "place", "value", "old"]
theorem sc_next_greater : FnScope N_next_greater ["values"] (defScope s_next_greater) := C8.fnScope_by (by decide +kernel)
abbrev s__law_dice : Stmt := top 12
def N__law_dice : List Str := ["cell"]
theorem sc__law_dice : FnScope N__law_dice ["cell"] (defScope s__law_dice) := C8.fnScope_by (by decide +kernel)
abbrev s__law_roll : Stmt := top 13
def N__law_roll : List Str := ["dice", "many", "found"]
theorem sc__law_roll : FnScope N__law_roll ["dice", "many"] (defScope s__law_roll) := C8.fnScope_by (by decide +kernel)
abbrev s__law_rounds : Stmt := top 14
def N__law_rounds : List Str := ["script", "most", "cells", "cell"]
theorem sc__law_rounds : FnScope N__law_rounds ["script", "most"] (defScope s__law_rounds) := C8.fnScope_by (by decide +kernel)
abbrev s__law_told : Stmt := top 15
def N__law_told : List Str := ["what"]
theorem sc__law_told : FnScope N__law_told ["what"] (defScope s__law_told) := C8.fnScope_by (by decide +kernel)
abbrev s__law_size : Stmt := top 16
def N__law_size : List Str := ["room", "found"]
theorem sc__law_size : FnScope N__law_size ["room"] (defScope s__law_size) := C8.fnScope_by (by decide +kernel)
abbrev s__law_ring : Stmt := top 17
def N__law_ring : List Str := ["dice", "room", "ring", "own", "size", "step", "sort", "item", "good", "flag", "steps", "cut", "k"]
theorem sc__law_ring : FnScope N__law_ring ["dice"] (defScope s__law_ring) := C8.fnScope_by (by decide +kernel)
abbrev s__law_plain : Stmt := top 18
def N__law_plain : List Str := ["ring", "full", "last", "queue", "k", "item", "value", "told", "bad", "f"]
theorem sc__law_plain : FnScope N__law_plain [] (defScope s__law_plain) := C8.fnScope_by (by decide +kernel)
abbrev s_law : Stmt := top 19
def N_law : List Str := ["script", "dice", "kept", "came", "last", "step", "item", "due", "numbers", "number", "queue", "own", "poured", "outs", "value", "values", "k", "long", "many", "left", "found", "turn", "greater", "j"]
theorem sc_law : FnScope N_law ["script"] (defScope s_law) := C8.fnScope_by (by decide +kernel)
structure Env (w : World) (K : PySem.W.Frag) (mg : Str → Option Value) (base : Heap) : Type where
  C_RingError : Addr
  mg_RingError : mg "RingError" = some (.ref C_RingError)
  x_RingError : PySem.W.excIn K C_RingError [.type "ValueError", .type "Exception", .type "BaseException", .type "object"] "ValueError.__new__" = true
  k_RingError : PySem.W.keepIn K (.ref C_RingError) = true
  bb_RingError : PySem.W.subIn K (.ref C_RingError) (.type "BaseException") = some true
  tt_RingError : PySem.W.typeIn K (.ref C_RingError) = some (.type "type")
  ex_RingError : PySem.W.exmOne K (.ref C_RingError) (.ref C_RingError) = some true
  C_Ring : Addr
  mg_Ring : mg "Ring" = some (.ref C_Ring)
  cl_Ring : Cls K C_Ring
  na_Ring_places : NoAttr K C_Ring "places"
  na_Ring_start : NoAttr K C_Ring "start"
  na_Ring_many : NoAttr K C_Ring "many"
  C_Last : Addr
  mg_Last : mg "Last" = some (.ref C_Last)
  cl_Last : Cls K C_Last
  na_Last_ring : NoAttr K C_Last "ring"
  na_Last_kept : NoAttr K C_Last "kept"
  na_Last_came : NoAttr K C_Last "came"
  C_Queue : Addr
  mg_Queue : mg "Queue" = some (.ref C_Queue)
  cl_Queue : Cls K C_Queue
  na_Queue_ins : NoAttr K C_Queue "ins"
  na_Queue_outs : NoAttr K C_Queue "outs"
  na_Queue_poured : NoAttr K C_Queue "poured"
  f_Ring___init__ : Addr
  c_Ring___init__ : Addr
  fd_Ring___init__ : FuncData
  F_Ring___init__ : Y.DF K "__init__" "Ring.__init__" s_Ring___init__ f_Ring___init__ c_Ring___init__ fd_Ring___init__ [(.int 4)]
  b_Ring___init__ : Binds K fd_Ring___init__ ["self", "room"] []
  ds1_Ring___init__ : List Value
  dn1_Ring___init__ : Vals [(.int 4)] ds1_Ring___init__
  b1_Ring___init__ : Binds K fd_Ring___init__ ["self", "room"] ds1_Ring___init__
  mk_Ring : Mk K C_Ring f_Ring___init__
  f_Ring_spot_of : Addr
  c_Ring_spot_of : Addr
  fd_Ring_spot_of : FuncData
  F_Ring_spot_of : Y.DF K "spot_of" "Ring.spot_of" s_Ring_spot_of f_Ring_spot_of c_Ring_spot_of fd_Ring_spot_of []
  b_Ring_spot_of : Binds K fd_Ring_spot_of ["self", "place"] []
  me_Ring_spot_of : Meth K C_Ring "spot_of" f_Ring_spot_of
  f_Ring_check_some : Addr
  c_Ring_check_some : Addr
  fd_Ring_check_some : FuncData
  F_Ring_check_some : Y.DF K "check_some" "Ring.check_some" s_Ring_check_some f_Ring_check_some c_Ring_check_some fd_Ring_check_some []
  b_Ring_check_some : Binds K fd_Ring_check_some ["self"] []
  me_Ring_check_some : Meth K C_Ring "check_some" f_Ring_check_some
  f_Ring_grow_twice : Addr
  c_Ring_grow_twice : Addr
  fd_Ring_grow_twice : FuncData
  F_Ring_grow_twice : Y.DF K "grow_twice" "Ring.grow_twice" s_Ring_grow_twice f_Ring_grow_twice c_Ring_grow_twice fd_Ring_grow_twice []
  b_Ring_grow_twice : Binds K fd_Ring_grow_twice ["self"] []
  me_Ring_grow_twice : Meth K C_Ring "grow_twice" f_Ring_grow_twice
  f_Ring_put_last : Addr
  c_Ring_put_last : Addr
  fd_Ring_put_last : FuncData
  F_Ring_put_last : Y.DF K "put_last" "Ring.put_last" s_Ring_put_last f_Ring_put_last c_Ring_put_last fd_Ring_put_last []
  b_Ring_put_last : Binds K fd_Ring_put_last ["self", "item"] []
  me_Ring_put_last : Meth K C_Ring "put_last" f_Ring_put_last
  f_Ring_put_first : Addr
  c_Ring_put_first : Addr
  fd_Ring_put_first : FuncData
  F_Ring_put_first : Y.DF K "put_first" "Ring.put_first" s_Ring_put_first f_Ring_put_first c_Ring_put_first fd_Ring_put_first []
  b_Ring_put_first : Binds K fd_Ring_put_first ["self", "item"] []
  me_Ring_put_first : Meth K C_Ring "put_first" f_Ring_put_first
  f_Ring_check_put : Addr
  c_Ring_check_put : Addr
  fd_Ring_check_put : FuncData
  F_Ring_check_put : Y.DF K "check_put" "Ring.check_put" s_Ring_check_put f_Ring_check_put c_Ring_check_put fd_Ring_check_put []
  b_Ring_check_put : Binds K fd_Ring_check_put ["self", "item"] []
  me_Ring_check_put : Meth K C_Ring "check_put" f_Ring_check_put
  f_Ring_take_first : Addr
  c_Ring_take_first : Addr
  fd_Ring_take_first : FuncData
  F_Ring_take_first : Y.DF K "take_first" "Ring.take_first" s_Ring_take_first f_Ring_take_first c_Ring_take_first fd_Ring_take_first []
  b_Ring_take_first : Binds K fd_Ring_take_first ["self"] []
  me_Ring_take_first : Meth K C_Ring "take_first" f_Ring_take_first
  f_Ring_take_last : Addr
  c_Ring_take_last : Addr
  fd_Ring_take_last : FuncData
  F_Ring_take_last : Y.DF K "take_last" "Ring.take_last" s_Ring_take_last f_Ring_take_last c_Ring_take_last fd_Ring_take_last []
  b_Ring_take_last : Binds K fd_Ring_take_last ["self"] []
  me_Ring_take_last : Meth K C_Ring "take_last" f_Ring_take_last
  f_Ring_item_at : Addr
  c_Ring_item_at : Addr
  fd_Ring_item_at : FuncData
  F_Ring_item_at : Y.DF K "item_at" "Ring.item_at" s_Ring_item_at f_Ring_item_at c_Ring_item_at fd_Ring_item_at []
  b_Ring_item_at : Binds K fd_Ring_item_at ["self", "place"] []
  me_Ring_item_at : Meth K C_Ring "item_at" f_Ring_item_at
  f_Ring_all_items : Addr
  c_Ring_all_items : Addr
  fd_Ring_all_items : FuncData
  F_Ring_all_items : Y.DF K "all_items" "Ring.all_items" s_Ring_all_items f_Ring_all_items c_Ring_all_items fd_Ring_all_items []
  b_Ring_all_items : Binds K fd_Ring_all_items ["self"] []
  me_Ring_all_items : Meth K C_Ring "all_items" f_Ring_all_items
  P_Ring_all_items : Addr
  tb_Ring_all_items : TabB base mg c_Ring_all_items P_Ring_all_items
  f_Ring_turn_by : Addr
  c_Ring_turn_by : Addr
  fd_Ring_turn_by : FuncData
  F_Ring_turn_by : Y.DF K "turn_by" "Ring.turn_by" s_Ring_turn_by f_Ring_turn_by c_Ring_turn_by fd_Ring_turn_by []
  b_Ring_turn_by : Binds K fd_Ring_turn_by ["self", "steps"] []
  me_Ring_turn_by : Meth K C_Ring "turn_by" f_Ring_turn_by
  f_Ring_room_left : Addr
  c_Ring_room_left : Addr
  fd_Ring_room_left : FuncData
  F_Ring_room_left : Y.DF K "room_left" "Ring.room_left" s_Ring_room_left f_Ring_room_left c_Ring_room_left fd_Ring_room_left []
  b_Ring_room_left : Binds K fd_Ring_room_left ["self"] []
  me_Ring_room_left : Meth K C_Ring "room_left" f_Ring_room_left
  f_Last___init__ : Addr
  c_Last___init__ : Addr
  fd_Last___init__ : FuncData
  F_Last___init__ : Y.DF K "__init__" "Last.__init__" s_Last___init__ f_Last___init__ c_Last___init__ fd_Last___init__ []
  b_Last___init__ : Binds K fd_Last___init__ ["self", "kept"] []
  mk_Last : Mk K C_Last f_Last___init__
  f_Last_put : Addr
  c_Last_put : Addr
  fd_Last_put : FuncData
  F_Last_put : Y.DF K "put" "Last.put" s_Last_put f_Last_put c_Last_put fd_Last_put []
  b_Last_put : Binds K fd_Last_put ["self", "item"] []
  me_Last_put : Meth K C_Last "put" f_Last_put
  f_Last_item_from : Addr
  c_Last_item_from : Addr
  fd_Last_item_from : FuncData
  F_Last_item_from : Y.DF K "item_from" "Last.item_from" s_Last_item_from f_Last_item_from c_Last_item_from fd_Last_item_from []
  b_Last_item_from : Binds K fd_Last_item_from ["self", "number"] []
  me_Last_item_from : Meth K C_Last "item_from" f_Last_item_from
  f_Queue___init__ : Addr
  c_Queue___init__ : Addr
  fd_Queue___init__ : FuncData
  F_Queue___init__ : Y.DF K "__init__" "Queue.__init__" s_Queue___init__ f_Queue___init__ c_Queue___init__ fd_Queue___init__ []
  b_Queue___init__ : Binds K fd_Queue___init__ ["self"] []
  mk_Queue : Mk K C_Queue f_Queue___init__
  f_Queue_put : Addr
  c_Queue_put : Addr
  fd_Queue_put : FuncData
  F_Queue_put : Y.DF K "put" "Queue.put" s_Queue_put f_Queue_put c_Queue_put fd_Queue_put []
  b_Queue_put : Binds K fd_Queue_put ["self", "value"] []
  me_Queue_put : Meth K C_Queue "put" f_Queue_put
  f_Queue_take_value : Addr
  c_Queue_take_value : Addr
  fd_Queue_take_value : FuncData
  F_Queue_take_value : Y.DF K "take_value" "Queue.take_value" s_Queue_take_value f_Queue_take_value c_Queue_take_value fd_Queue_take_value []
  b_Queue_take_value : Binds K fd_Queue_take_value ["self"] []
  me_Queue_take_value : Meth K C_Queue "take_value" f_Queue_take_value
  f_Queue_least_value : Addr
  c_Queue_least_value : Addr
  fd_Queue_least_value : FuncData
  F_Queue_least_value : Y.DF K "least_value" "Queue.least_value" s_Queue_least_value f_Queue_least_value c_Queue_least_value fd_Queue_least_value []
  b_Queue_least_value : Binds K fd_Queue_least_value ["self"] []
  me_Queue_least_value : Meth K C_Queue "least_value" f_Queue_least_value
  P_Queue_least_value : Addr
  tb_Queue_least_value : TabB base mg c_Queue_least_value P_Queue_least_value
  f_Queue_value_count : Addr
  c_Queue_value_count : Addr
  fd_Queue_value_count : FuncData
  F_Queue_value_count : Y.DF K "value_count" "Queue.value_count" s_Queue_value_count f_Queue_value_count c_Queue_value_count fd_Queue_value_count []
  b_Queue_value_count : Binds K fd_Queue_value_count ["self"] []
  me_Queue_value_count : Meth K C_Queue "value_count" f_Queue_value_count
  f_least_windows : Addr
  c_least_windows : Addr
  fd_least_windows : FuncData
  F_least_windows : Y.DF K "least_windows" "least_windows" s_least_windows f_least_windows c_least_windows fd_least_windows []
  b_least_windows : Binds K fd_least_windows ["values", "long"] []
  mg_least_windows : mg "least_windows" = some (.ref f_least_windows)
  f_last_of_ring : Addr
  c_last_of_ring : Addr
  fd_last_of_ring : FuncData
  F_last_of_ring : Y.DF K "last_of_ring" "last_of_ring" s_last_of_ring f_last_of_ring c_last_of_ring fd_last_of_ring []
  b_last_of_ring : Binds K fd_last_of_ring ["many", "step"] []
  mg_last_of_ring : mg "last_of_ring" = some (.ref f_last_of_ring)
  f_next_greater : Addr
  c_next_greater : Addr
  fd_next_greater : FuncData
  F_next_greater : Y.DF K "next_greater" "next_greater" s_next_greater f_next_greater c_next_greater fd_next_greater []
  b_next_greater : Binds K fd_next_greater ["values"] []
  mg_next_greater : mg "next_greater" = some (.ref f_next_greater)
  f__law_dice : Addr
  c__law_dice : Addr
  fd__law_dice : FuncData
  F__law_dice : Y.DF K "_law_dice" "_law_dice" s__law_dice f__law_dice c__law_dice fd__law_dice []
  b__law_dice : Binds K fd__law_dice ["cell"] []
  mg__law_dice : mg "_law_dice" = some (.ref f__law_dice)
  f__law_roll : Addr
  c__law_roll : Addr
  fd__law_roll : FuncData
  F__law_roll : Y.DF K "_law_roll" "_law_roll" s__law_roll f__law_roll c__law_roll fd__law_roll []
  b__law_roll : Binds K fd__law_roll ["dice", "many"] []
  mg__law_roll : mg "_law_roll" = some (.ref f__law_roll)
  f__law_rounds : Addr
  c__law_rounds : Addr
  fd__law_rounds : FuncData
  F__law_rounds : Y.DF K "_law_rounds" "_law_rounds" s__law_rounds f__law_rounds c__law_rounds fd__law_rounds []
  b__law_rounds : Binds K fd__law_rounds ["script", "most"] []
  mg__law_rounds : mg "_law_rounds" = some (.ref f__law_rounds)
  f__law_told : Addr
  c__law_told : Addr
  fd__law_told : FuncData
  F__law_told : Y.DF K "_law_told" "_law_told" s__law_told f__law_told c__law_told fd__law_told []
  b__law_told : Binds K fd__law_told ["what"] []
  mg__law_told : mg "_law_told" = some (.ref f__law_told)
  f__law_size : Addr
  c__law_size : Addr
  fd__law_size : FuncData
  F__law_size : Y.DF K "_law_size" "_law_size" s__law_size f__law_size c__law_size fd__law_size []
  b__law_size : Binds K fd__law_size ["room"] []
  mg__law_size : mg "_law_size" = some (.ref f__law_size)
  f__law_ring : Addr
  c__law_ring : Addr
  fd__law_ring : FuncData
  F__law_ring : Y.DF K "_law_ring" "_law_ring" s__law_ring f__law_ring c__law_ring fd__law_ring []
  b__law_ring : Binds K fd__law_ring ["dice"] []
  mg__law_ring : mg "_law_ring" = some (.ref f__law_ring)
  P__law_ring : Addr
  tb__law_ring : TabB base mg c__law_ring P__law_ring
  f__law_plain : Addr
  c__law_plain : Addr
  fd__law_plain : FuncData
  F__law_plain : Y.DF K "_law_plain" "_law_plain" s__law_plain f__law_plain c__law_plain fd__law_plain []
  b__law_plain : Binds K fd__law_plain [] []
  mg__law_plain : mg "_law_plain" = some (.ref f__law_plain)
  P__law_plain : Addr
  tb__law_plain : TabB base mg c__law_plain P__law_plain
  f_law : Addr
  c_law : Addr
  fd_law : FuncData
  F_law : Y.DF K "law" "law" s_law f_law c_law fd_law []
  b_law : Binds K fd_law ["script"] []
  mg_law : mg "law" = some (.ref f_law)
  P_law : Addr
  tb_law : TabB base mg c_law P_law
  pnd : [P_Ring_all_items, P_Queue_least_value, P__law_ring, P__law_plain, P_law].Nodup
  u_MOST_ROOM : Value
  mg_MOST_ROOM : mg "MOST_ROOM" = some u_MOST_ROOM
  rv_MOST_ROOM : RelV (.int 256) u_MOST_ROOM
  no_len : mg "len" = none
  no_list : mg "list" = none
  no_tuple : mg "tuple" = none
  no_range : mg "range" = none
  no_min : mg "min" = none
  no_enumerate : mg "enumerate" = none
  no_int : mg "int" = none
  no_abs : mg "abs" = none
  no_max : mg "max" = none
section
variable {w : World} {K : PySem.W.Frag} {mg : Str → Option Value} {base : Heap} (T : Env w K mg base)
def Env.tabs : List (Addr × Str) := [(T.P_Ring_all_items, "Ring.all_items.<locals>.<genexpr>"), (T.P_Queue_least_value, "Queue.least_value.<locals>.<genexpr>"), (T.P__law_ring, "_law_ring.<locals>.<lambda>"), (T.P__law_plain, "_law_plain.<locals>.<lambda>"), (T.P_law, "law.<locals>.<lambda>")]
theorem Env.tm_Ring_all_items : (T.P_Ring_all_items, ("Ring.all_items.<locals>.<genexpr>" : Str)) ∈ T.tabs := by simp only [Env.tabs, List.mem_cons, true_or, or_true]
theorem Env.tu_Ring_all_items : ∀ p ∈ T.tabs, p.1 = T.P_Ring_all_items → p.2 = ("Ring.all_items.<locals>.<genexpr>" : Str) := Y.hu_nd T.pnd T.tm_Ring_all_items
theorem Env.tm_Queue_least_value : (T.P_Queue_least_value, ("Queue.least_value.<locals>.<genexpr>" : Str)) ∈ T.tabs := by simp only [Env.tabs, List.mem_cons, true_or, or_true]
theorem Env.tu_Queue_least_value : ∀ p ∈ T.tabs, p.1 = T.P_Queue_least_value → p.2 = ("Queue.least_value.<locals>.<genexpr>" : Str) := Y.hu_nd T.pnd T.tm_Queue_least_value
theorem Env.tm__law_ring : (T.P__law_ring, ("_law_ring.<locals>.<lambda>" : Str)) ∈ T.tabs := by simp only [Env.tabs, List.mem_cons, true_or, or_true]
theorem Env.tu__law_ring : ∀ p ∈ T.tabs, p.1 = T.P__law_ring → p.2 = ("_law_ring.<locals>.<lambda>" : Str) := Y.hu_nd T.pnd T.tm__law_ring
theorem Env.tm__law_plain : (T.P__law_plain, ("_law_plain.<locals>.<lambda>" : Str)) ∈ T.tabs := by simp only [Env.tabs, List.mem_cons, true_or, or_true]
theorem Env.tu__law_plain : ∀ p ∈ T.tabs, p.1 = T.P__law_plain → p.2 = ("_law_plain.<locals>.<lambda>" : Str) := Y.hu_nd T.pnd T.tm__law_plain
theorem Env.tm_law : (T.P_law, ("law.<locals>.<lambda>" : Str)) ∈ T.tabs := by simp only [Env.tabs, List.mem_cons, true_or, or_true]
theorem Env.tu_law : ∀ p ∈ T.tabs, p.1 = T.P_law → p.2 = ("law.<locals>.<lambda>" : Str) := Y.hu_nd T.pnd T.tm_law
end
end Z

set_option Elab.async false
set_option linter.all false
set_option maxRecDepth 100000
set_option maxHeartbeats 4000000
set_option pp.maxSteps 1200
namespace Z
open PySem PySem.Spec L2 LamX Y
local macro_rules | `(tactic| walk_at "lk") => `(tactic| first
  | assumption
  | exact Nw.at (by assumption)
  | exact Wr.at (by assumption)
  | exact Mkd.at (by assumption)
  | exact Nw.look (by assumption) (by walk_at "lk")
  | exact Mkd.look (by assumption) (by walk_at "lk")
  | exact Wr.look (by assumption) (by walk_at "lk") (by walk_at "ne")
  | exact Chg.look (by assumption) (by walk_at "lk") (by walk_at "nin") rfl
  | exact Tp.same (by assumption) _ _ (by walk_at "lk")
  | exact Grows.look (by assumption) (by walk_at "lk") rfl
  | fail)
local macro_rules | `(tactic| walk_at "ne") => `(tactic| first
  | assumption
  | exact Ne.symm (by assumption)
  | exact Nw.ne (by assumption) (by walk_at "lk")
  | exact Ne.symm (Nw.ne (by assumption) (by walk_at "lk"))
  | exact ne_fr (by assumption) (by walk_at "lk")
  | exact Ne.symm (ne_fr (by assumption) (by walk_at "lk"))
  | exact ne_fr (Mkd.nx (by assumption)) (by walk_at "lk")
  | exact Ne.symm (ne_fr (Mkd.nx (by assumption)) (by walk_at "lk"))
  | exact ne_kdn (by assumption) (by walk_at "lk") rfl
  | exact Ne.symm (ne_kdn (by assumption) (by walk_at "lk") rfl)
  | fail)
local macro_rules | `(tactic| walk_at "nin") => `(tactic| first
  | exact nin_nil
  | exact id
  | exact nin_cons (by walk_at "ne") (by walk_at "nin")
  | fail)
local macro_rules | `(tactic| walk_at "fr") => `(tactic| first
  | assumption
  | exact Nw.new (by assumption)
  | exact Mkd.nx (by assumption)
  | exact Nw.dom (by assumption) (by walk_at "fr")
  | exact Wr.dom (by assumption) (by walk_at "fr")
  | exact Mkd.dom (by assumption) (by walk_at "fr")
  | exact Chg.dom (by assumption) _ (by walk_at "fr")
  | exact Tp.dom (by assumption) _ (by walk_at "fr")
  | exact Grows.dom (by assumption) _ (by walk_at "fr")
  | fail)
local macro_rules | `(tactic| walk_at "mem") => `(tactic| first
  | assumption
  | exact List.mem_cons_self
  | (apply List.mem_cons_of_mem; walk_at "mem")
  | fail)
local macro_rules | `(tactic| walk_at "in") => `(tactic| first
  | assumption
  | (apply Or.inl; walk_at "mem")
  | (apply Or.inr; walk_at "fr")
  | fail)
local macro_rules | `(tactic| walk_at "sub") => `(tactic| first
  | exact sub_nil0
  | exact sub_nil
  | exact sub_cons (by walk_at "in") (by walk_at "sub")
  | fail)
local macro_rules | `(tactic| walk_at "chg") => `(tactic| first
  | assumption
  | exact Chg.refl _
  | exact Chg.nw (by assumption) (by walk_at "chg")
  | exact Chg.mkd (by assumption) (by walk_at "chg")
  | exact Chg.tp (by assumption) (by walk_at "chg")
  | exact Chg.gr (by assumption) (by walk_at "chg")
  | exact Chg.wr (by assumption) (by walk_at "chg") (by walk_at "in")
  | exact Chg.ch (by assumption) (by walk_at "chg") (by walk_at "sub")
  | fail)
local macro_rules | `(tactic| walk_at "sq") => `(tactic| first
  | assumption
  | exact SqL.of (by walk_at "lk")
  | exact Chg.seqL (by assumption) (by walk_at "sq") (by walk_at "nin")
  | exact SqL.nw (by assumption) (by walk_at "sq")
  | exact SqL.tp (by assumption) (by walk_at "sq")
  | exact SqL.mkd (by assumption) (by walk_at "sq")
  | exact SqL.wr (by assumption) (by walk_at "sq") (by walk_at "ne")
  | fail)
local macro_rules | `(tactic| walk_at "sqt") => `(tactic| first
  | assumption
  | exact SqT.of (by walk_at "lk")
  | exact Tp.sq (by assumption)
  | exact SqT.nw (by assumption) (by walk_at "sqt")
  | exact SqT.tp (by assumption) (by walk_at "sqt")
  | exact SqT.mkd (by assumption) (by walk_at "sqt")
  | exact SqT.chg (by assumption) (by walk_at "sqt") (by walk_at "nin")
  | fail)
local macro_rules | `(tactic| walk_at "seq") => `(tactic| first
  | assumption
  | exact .inl (by walk_at "sq")
  | exact .inr (by walk_at "sqt")
  | exact SqA.keepN (T := Env.tabs (by assumption)) (by assumption) (by walk_at "chg")
  | fail)
local macro_rules | `(tactic| walk_at "go") => `(tactic| repeat first
  | refine ⟨_, rfl, ?_⟩
  | refine ⟨_, _, _, _, rfl, And.intro (by walk_at "lk") (And.intro rfl ?_)⟩
  | refine ⟨_, _, _, rfl, And.intro (by walk_at "lk") (And.intro (by walk_at "side") ?_)⟩
  | refine ⟨_, _, And.intro rfl (And.intro rfl ?_)⟩
  | refine ⟨_, _, And.intro rfl (And.intro (by walk_at "lk") ?_)⟩
  | refine ⟨_, _, _, And.intro rfl (And.intro (by walk_at "lk") ?_)⟩
  | refine ⟨_, And.intro (by walk_at "lk") (And.intro (by walk_at "side") ?_)⟩
  | refine ⟨_, _, And.intro (by walk_at "lk") (And.intro (by walk_at "side") ?_)⟩
  | refine ⟨_, _, And.intro (by walk_at "seq") (And.intro rfl ?_)⟩
  | refine ⟨_, And.intro (by walk_at "seq") ?_⟩
  | refine ⟨_, And.intro (by walk_at "lk") (And.intro (by walk_at "side") (And.intro (by walk_at "side") (And.intro (by walk_at "side") ?_)))⟩
  | refine .inl ⟨_, _, And.intro (by walk_at "lk") (And.intro (by walk_at "lk") (And.intro (by walk_at "side") ?_))⟩
  | refine .inr ⟨_, _, And.intro (by walk_at "sqt") (And.intro (by walk_at "sqt") (And.intro (by walk_at "side") ?_))⟩
  | refine .inl ⟨_, And.intro (by walk_at "sq") ?_⟩
  | refine .inr ⟨_, And.intro (by walk_at "sqt") ?_⟩
  | refine ⟨_, _, _, _, rfl, rfl, And.intro (by walk_at "lk") (And.intro rfl ?_)⟩
  | refine fun H' (n : Wr _ _ _ H') => ?_
  | refine fun p H' (n : Nw _ p _ H') => ?_
  | refine fun r H' (n : Tp _ _ r _ H') => ?_
  | refine fun x dx H' (n : Mkd _ _ x dx H') => ?_
  | refine .inl ⟨_, _, rfl, And.intro (by walk_at "sq") (fun p H' (n : Nw _ p _ H') => ?_)⟩
  | refine .inr ⟨_, _, rfl, And.intro (by walk_at "sqt") (fun r H' (n : Tp _ _ r _ H') => ?_)⟩
  | refine ⟨_, _, rfl, And.intro (by walk_at "sq") (fun p H' (n : Nw _ p _ H') => ?_)⟩
  | refine .inl (And.intro ⟨_, by walk_at "sq"⟩ ?_)
  | refine .inr (And.intro ⟨_, by walk_at "sqt"⟩ ?_)
  | refine ⟨_, _, rfl, And.intro (by walk_at "sqt") (And.intro rfl ?_)⟩
  | refine ⟨_, _, And.intro rfl ?_⟩
  | refine ⟨_, _, _, And.intro rfl ?_⟩
  | refine And.intro rfl ?_
  | (refine ite_t ?_ ?_; exact rfl)
  | (refine ite_f ?_ ?_; exact rfl)
  | refine And.intro (by walk_at "side") ?_)
local macro_rules | `(tactic| walk_at "side") => `(tactic| first
  | exact (rfl : _ = _)
  | decide
  | exact lt1000 rfl
  | with_reducible assumption
  | exact ⟨by omega, by omega⟩
  | exact .inl ⟨by omega, by omega⟩
  | exact .inr ⟨by omega, by omega⟩
  | omega
  | (apply le_line; omega)
  | (apply lt_line; omega)
  | (apply le_line; simp <;> omega)
  | (apply lt_line; simp <;> omega)
  | fail)
local macro_rules | `(tactic| walk_at "if") => `(tactic| first
  | refine ite_nd ?_ ?_
  | refine ite_d ?_ ?_
  | refine ite_eqt ?_ ?_
  | fail)
local macro_rules | `(tactic| walk_at "roll") => `(tactic| first
  | (refine And.intro (show Dice _ _ from ⟨_, _, _, by walk_at "lk"⟩) (And.intro (by walk_at "side") (And.intro (by walk_at "side") (fun r H' r0 r1 ro => ?_))); obtain ⟨a', b', c', w⟩ := ro)
  | fail)
local macro_rules | `(tactic| walk_at "run") => `(tactic| (walk_at "go"; repeat (walk_at "roll"; walk_at "go")))
local macro_rules | `(tactic| walk_at "dp") => `(tactic| first
  | exact Dp.non
  | exact Dp.int _
  | exact Dp.str _
  | exact Dp.bl _
  | exact DpAll.nil
  | exact DpAll.cons (by walk_at "dp") (by walk_at "dp")
  | exact Dp.tup (by walk_at "sqt") (by walk_at "dp")
  | exact Dp.lst (by walk_at "sq") (by walk_at "dp")
  | fail)

section
variable {w : World} {K : PySem.W.Frag} {mg : Str → Option Value} {base : Heap}
/-- the dice stand at d -/
def Dice (H : Hp) (d : Addr) : Prop := ∃ a b c : Int, H d = some (.lst [.int a, .int b, .int c])
def sp__law_dice (T : Env w K mg base) : Sp := fun vs H Q _ => match vs with
  | [.int _] => ∀ d H' a b c, Nw H d (.lst [.int a, .int b, .int c]) H' → Q (.ref d) H'
  | _ => False
theorem ok__law_dice (T : Env w K mg base) : FnOk prg w K mg base (L2.CX prg w) 8 T.f__law_dice T.fd__law_dice ["cell"] (sp__law_dice T) := by
  refine T.F__law_dice.ok sc__law_dice (fun vs H Q E h => by unfold sp__law_dice at h; split at h <;> first | rfl | exact h.elim) fun A outer s H vs Q E hr h => ?_
  refine ⟨_, (pss_cons (ps_if (pt_chain Y.op_lt Y.op_lt (pe_op Y.op_sub pe_int pe_int) (pv 0) pe_int) (pss_one (ps_ret (Y.pe_ls (pa_cons (pe_callB Y.call_abs (by rfl) T.no_abs (by decide +kernel) (pa_cons (pv 0) pa_nil)) (pa_cons pe_int (pa_cons pe_int pa_nil)))))) pss_nil)
  (pss_one (ps_ret (Y.pe_ls (pa_cons (pv 0) (pa_cons (pe_op (Y.op_addK (K := K) rfl) pe_int (pe_op Y.op_mod (pe_callTy Y.call_int1 (by rfl) T.no_int (by decide +kernel) (pa_cons (pv 0) pa_nil)) pe_int)) (pa_cons (pe_callTy Y.call_int1 (by rfl) T.no_int (by decide +kernel) (pa_cons (pe_cmpR Y.op_ge (pv 0) (pe_op Y.op_pow pe_int pe_int) (nomark _)) pa_nil)) pa_nil))))))), ?_⟩
  unfold sp__law_dice at h
  split at h
  next i =>
    walk_at "go"
    walk_at "if"
    · intro c
      walk_at "go"
      walk_at "if"
      · intro c2
        walk_at "go"
        exact h _ _ _ _ _ (by assumption)
      · intro c2
        walk_at "go"
        exact h _ _ _ _ _ (by assumption)
    · intro c
      walk_at "go"
      exact h _ _ _ _ _ (by assumption)
  next => exact h.elim
/-- the dice have gone on -/
def Rolled (H : Hp) (d : Addr) (H' : Hp) : Prop := ∃ a b c : Int, Wr H d (.lst [.int a, .int b, .int c]) H'
theorem Rolled.dice {H H' : Hp} {d : Addr} (r : Rolled H d H') : Dice H' d := let ⟨a, b, c, h⟩ := r; ⟨a, b, c, h.at⟩
theorem Rolled.chg {H H' : Hp} {d : Addr} (r : Rolled H d H') {T : List (Addr × Str)} : Chg T (In [d]) H H' := let ⟨_, _, _, h⟩ := r; h.chg (by simp)
def sp__law_roll (T : Env w K mg base) : Sp := fun vs H Q _ => match vs with
  | [.ref d, .int m] => Dice H d ∧ 1 ≤ m ∧ m ≤ 100000000 ∧ ∀ r H', 0 ≤ r → r < m → Rolled H d H' → Q (.int r) H'
  | _ => False
theorem ok__law_roll (T : Env w K mg base) : FnOk prg w K mg base (L2.CX prg w) 8 T.f__law_roll T.fd__law_roll ["dice", "many"] (sp__law_roll T) := by
  refine T.F__law_roll.ok sc__law_roll (fun vs H Q E h => by unfold sp__law_roll at h; split at h <;> first | rfl | exact h.elim) fun A outer s H vs Q E hr h => ?_
  refine ⟨_, (pss_cons (ps_if (PW.pt (pw_or (pt_cmpR (Y.op_eqK (K := K) rfl hr.units) (pe_ix (Y.ixK (K := K) rfl) (pv 0) pe_int (fun _ _ => rfl)) pe_int (nomark _)) (pw_or1 (PW.pt (pw_and (pt_cmpR (Y.op_eqK (K := K) rfl hr.units) (pe_ix (Y.ixK (K := K) rfl) (pv 0) pe_int (fun _ _ => rfl)) pe_int (nomark _)) (pw_and1 (pt_cmpR Y.op_gt (pe_ix (Y.ixK (K := K) rfl) (pv 0) pe_int (fun _ _ => rfl)) pe_int (nomark _)))))))) (pss_cons (ps_set (i := 2) sc__law_roll.nd rfl (Or.inl rfl) (pe_op Y.op_mod (pe_callTy Y.call_int1 (by rfl) T.no_int (by decide +kernel) (pa_cons (pe_ix (Y.ixK (K := K) rfl) (pv 0) pe_int (fun _ _ => rfl)) pa_nil)) (pv 1)))
  (pss_cons (ps_asg (pe_op Y.op_fdiv (pe_ix (Y.ixK (K := K) rfl) (pv 0) pe_int (fun _ _ => rfl)) (pv 1)) (pg_sub (pv 0) pe_int Y.set_lst))
  (pss_one (ps_ret (pv 2))))) pss_nil)
  (pss_cons (ps_asg pe_int (pg_sub (pv 0) pe_int Y.set_lst))
  (pss_cons (ps_if (pt_cmpR Y.op_gt (pv 1) pe_int (nomark _)) (pss_one (ps_ret (pe_op Y.op_mod (pe_callTy Y.call_int1 (by rfl) T.no_int (by decide +kernel) (pa_cons (pe_op (Y.op_addK (K := K) rfl) (pe_op Y.op_mul (pe_call (Y.okNo (k := 0)) (hr.mono (by decide)) rfl T.mg__law_roll T.F__law_roll.kp T.b__law_roll .nil (Y.passD rfl rfl rfl rfl) (pa_cons (pv 0) (pa_cons (pe_op (Y.op_addK (K := K) rfl) (pe_op Y.op_fdiv (pv 1) pe_int) pe_int) pa_nil))) pe_int) (pe_call (Y.okNo (k := 0)) (hr.mono (by decide)) rfl T.mg__law_roll T.F__law_roll.kp T.b__law_roll .nil (Y.passD rfl rfl rfl rfl) (pa_cons (pv 0) (pa_cons pe_int pa_nil)))) pa_nil)) (pv 1)))) pss_nil)
  (pss_cons (ps_asg (pe_op Y.op_mod (pe_callTy Y.call_int1 (by rfl) T.no_int (by decide +kernel) (pa_cons (pe_op (Y.op_addK (K := K) rfl) (pe_op (Y.op_addK (K := K) rfl) (pe_op Y.op_mul (pe_ix (Y.ixK (K := K) rfl) (pv 0) pe_int (fun _ _ => rfl)) pe_int) (pe_op Y.op_mul (pe_ix (Y.ixK (K := K) rfl) (pv 0) pe_int (fun _ _ => rfl)) pe_int)) pe_int) pa_nil)) pe_int) (pg_sub (pv 0) pe_int Y.set_lst))
  (pss_cons (ps_asg (pe_op (Y.op_addK (K := K) rfl) (pe_ix (Y.ixK (K := K) rfl) (pv 0) pe_int (fun _ _ => rfl)) pe_int) (pg_sub (pv 0) pe_int Y.set_lst))
  (pss_one (ps_ret (pe_op Y.op_mod (pe_callTy Y.call_int1 (by rfl) T.no_int (by decide +kernel) (pa_cons (pe_op Y.op_fdiv (pe_ix (Y.ixK (K := K) rfl) (pv 0) pe_int (fun _ _ => rfl)) pe_int) pa_nil)) (pv 1))))))))), ?_⟩
  unfold sp__law_roll at h
  split at h
  next d m =>
    obtain ⟨⟨a, b, c, hd⟩, m1, m2, h⟩ := h
    have rd : ∀ r : Int, 0 ≤ r % m ∧ r % m < m := fun r => ⟨Int.emod_nonneg _ (by omega), Int.emod_lt_of_pos _ (by omega)⟩
    have low : ∀ H3, Rolled H d H3 → ∀ z : Int, Q (.int (z % m)) H3 := fun H3 r z => h _ _ (rd z).1 (rd z).2 r
    have pA : ∀ H', Wr H d (.lst [.int (a / m), .int b, .int c]) H' → Q (.int (a % m)) H' := fun H' n => h _ _ (rd a).1 (rd a).2 ⟨_, _, _, n⟩
    walk_at "go"
    walk_at "if"
    · intro c2
      walk_at "go"
      exact pA _ (by assumption)
    · intro c2
      walk_at "go"
      walk_at "if"
      · intro c1
        walk_at "go"
        walk_at "if"
        · intro a1
          walk_at "go"
          exact pA _ (by assumption)
        · intro a1
          walk_at "go"
          walk_at "if"
          · intro z; omega
          · intro _
            walk_at "go"
            exact low _ ⟨_, _, _, Wr.trans (Wr.trans (by assumption) (by assumption)) (by assumption)⟩ _
      · intro c1
        walk_at "go"
        walk_at "if"
        · intro z; omega
        · intro _
          walk_at "go"
          exact low _ ⟨_, _, _, Wr.trans (Wr.trans (by assumption) (by assumption)) (by assumption)⟩ _
  next => exact h.elim
def sp__law_rounds (T : Env w K mg base) : Sp := fun vs H Q _ => match vs with
  | [.ref a, .int m] => m = 1 ∧ (∃ ns : List Int, SqL K H a (ns.map V.int)) ∧ ∀ l d H', Chg T.tabs nil H H' → H l = none → H d = none → l ≠ d → H' l = some (.lst [.ref d]) → Dice H' d → Q (.ref l) H'
  | _ => False
theorem rounds_one {X : List Int} (h : X ≠ []) : ∃ i, cutV (X.map V.int) none (some 1) = [V.int i] := by
  cases X with
  | nil => exact (h rfl).elim
  | cons i X => exact ⟨i, by rw [cut_to (by omega)]; simp⟩
theorem ok__law_rounds (T : Env w K mg base) : FnOk prg w K mg base (L2.CX prg w) 16 T.f__law_rounds T.fd__law_rounds ["script", "most"] (sp__law_rounds T) := by
  refine T.F__law_rounds.ok sc__law_rounds (fun vs H Q E h => by unfold sp__law_rounds at h; split at h <;> first | rfl | exact h.elim) fun A outer s H vs Q E hr h => ?_
  refine ⟨_, (pss_cons (ps_set (i := 2) sc__law_rounds.nd rfl (Or.inl rfl) (pe_slice (Y.slK (K := K) rfl) (pv 0) po_none (po_some (pv 1))))
  (pss_cons (ps_if (pt_cmpR (Y.op_eqK (K := K) rfl hr.units) (pv 2) (Y.pe_ls pa_nil) (nomark _)) (pss_one (ps_set (i := 2) sc__law_rounds.nd rfl (Or.inl rfl) (Y.pe_ls (pa_cons pe_int pa_nil)))) pss_nil)
  (pss_one (ps_ret (pe_lc (own := [("cell", 3)]) rfl sc__law_rounds.nd (Y.pi_seqK (K := K) rfl (pv 2)) (blkOk_by (own := [("cell", 3)]) (N := N__law_rounds) (sc := defScope s__law_rounds) (by decide +kernel)) (fun _ _ _ _ _ => (pg_name (i := 3) sc__law_rounds.nd rfl (Or.inl rfl))) (fun _ _ _ _ _ => pts_nil) (fun _ _ _ _ _ => (pe_call (ok__law_dice T) (hr.mono (by decide)) rfl T.mg__law_dice T.F__law_dice.kp T.b__law_dice .nil Y.passN (pa_cons (pv 3) pa_nil)))))))), ?_⟩
  unfold sp__law_rounds at h
  split at h
  next a m =>
    obtain ⟨rfl, ⟨ns, hs⟩, h⟩ := h
    walk_at "go"
    rename_i c H1 n1 e H2 n2
    have nl : ∀ (G : Hp) (c2 : Addr) (i : Int), G c2 = some (.lst [.int i]) → Chg T.tabs nil H G → ∀ D, G D = none →
        LcW (Itl K c2) (gName 3) tYes (tCall (sp__law_dice T) [] Y.E0 (tCons (tVar 3) tNil)) [3] [some (.ref a), some (.int 1), some (.ref c2), none] G D (fun H' => Q (.ref D) H') := by
      intro G c2 i hc cg D hD
      refine lcl (xs := [.int i]) (fun j H' => (j = 0 ∧ Nw G D (.lst []) H') ∨ (j = 1 ∧ ∃ d H3 a b c, ∃ H2, Nw G D (.lst []) H2 ∧ Nw H2 d (.lst [.int a, .int b, .int c]) H3 ∧ Wr H3 D (.lst [.ref d]) H')) hD (fun H' n => .inl ⟨rfl, n⟩) ?_ ?_ ?_
      · rintro j H' - (⟨-, n⟩ | ⟨-, d, H3, x, y, z, H2, n, n2, n3⟩)
        · walk_at "sq"
        · walk_at "sq"
      · rintro H' (⟨z, -⟩ | ⟨-, d, H3, x, y, z, H2, n, n2, n3⟩)
        · cases z
        · have nD : H D = none := cg.dom _ hD
          have nd : H2 d = none := n2.new
          have c1 : Chg T.tabs nil H H' := by walk_at "chg"
          exact h _ d _ c1 nD (cg.dom _ (n.dom n2.new)) (by walk_at "ne") (by walk_at "lk") ⟨_, _, _, by walk_at "lk"⟩
      · rintro j x H' hx (⟨rfl, n⟩ | ⟨rfl, -⟩)
        · obtain rfl : V.int i = x := by simpa using hx
          intro Nx Sk hN hS
          walk_at "go"
          intro d H2 a b c n2
          exact hN _ _ _ (by walk_at "lk") (by decide) fun H' n3 => .inr ⟨rfl, _, _, _, _, _, _, n, n2, n3⟩
        · simp at hx
    refine veq_ll (by walk_at "sq") (by walk_at "sq") ?_ (by simp) (p := ns = []) ?_ ?_
    · rw [cut_to (by omega)]
      intro x hx
      exact ints_flat x (List.mem_of_mem_take hx)
    · rw [cut_to (by omega)]
      cases ns <;> simp
    walk_at "go"
    walk_at "if"
    · intro z
      walk_at "go"
      exact fun D hD => nl _ _ _ (by walk_at "lk") (by walk_at "chg") D hD
    · intro z
      obtain ⟨i, e⟩ := rounds_one z
      rw [e] at n1
      walk_at "go"
      exact fun D hD => nl _ _ _ (by walk_at "lk") (by walk_at "chg") D hD
  next => exact h.elim
end
end Z


set_option Elab.async false
set_option linter.all false
set_option maxRecDepth 100000
set_option maxHeartbeats 4000000
set_option pp.maxSteps 1500
namespace Z
open PySem PySem.Spec L2 LamX Y
local macro_rules | `(tactic| walk_at "lk") => `(tactic| first
  | assumption
  | exact Nw.at (by assumption)
  | exact Wr.at (by assumption)
  | exact Mkd.at (by assumption)
  | exact Nw.look (by assumption) (by walk_at "lk")
  | exact Mkd.look (by assumption) (by walk_at "lk")
  | exact Wr.look (by assumption) (by walk_at "lk") (by walk_at "ne")
  | exact Chg.look (by assumption) (by walk_at "lk") (by walk_at "nin") rfl
  | exact Tp.same (by assumption) _ _ (by walk_at "lk")
  | exact Grows.look (by assumption) (by walk_at "lk") rfl
  | fail)
local macro_rules | `(tactic| walk_at "ne") => `(tactic| first
  | assumption
  | exact Ne.symm (by assumption)
  | exact Nw.ne (by assumption) (by walk_at "lk")
  | exact Ne.symm (Nw.ne (by assumption) (by walk_at "lk"))
  | exact ne_fr (by assumption) (by walk_at "lk")
  | exact Ne.symm (ne_fr (by assumption) (by walk_at "lk"))
  | exact ne_fr (Mkd.nx (by assumption)) (by walk_at "lk")
  | exact Ne.symm (ne_fr (Mkd.nx (by assumption)) (by walk_at "lk"))
  | exact ne_kdn (by assumption) (by walk_at "lk") rfl
  | exact Ne.symm (ne_kdn (by assumption) (by walk_at "lk") rfl)
  | fail)
local macro_rules | `(tactic| walk_at "nin") => `(tactic| first
  | exact nin_nil
  | exact id
  | exact nin_cons (by walk_at "ne") (by walk_at "nin")
  | fail)
local macro_rules | `(tactic| walk_at "fr") => `(tactic| first
  | assumption
  | exact Nw.new (by assumption)
  | exact Mkd.nx (by assumption)
  | exact Nw.dom (by assumption) (by walk_at "fr")
  | exact Wr.dom (by assumption) (by walk_at "fr")
  | exact Mkd.dom (by assumption) (by walk_at "fr")
  | exact Chg.dom (by assumption) _ (by walk_at "fr")
  | exact Tp.dom (by assumption) _ (by walk_at "fr")
  | exact Grows.dom (by assumption) _ (by walk_at "fr")
  | fail)
local macro_rules | `(tactic| walk_at "mem") => `(tactic| first
  | assumption
  | exact List.mem_cons_self
  | (apply List.mem_cons_of_mem; walk_at "mem")
  | fail)
local macro_rules | `(tactic| walk_at "in") => `(tactic| first
  | assumption
  | (apply Or.inl; walk_at "mem")
  | (apply Or.inr; walk_at "fr")
  | fail)
local macro_rules | `(tactic| walk_at "sub") => `(tactic| first
  | exact sub_nil0
  | exact sub_nil
  | exact sub_cons (by walk_at "in") (by walk_at "sub")
  | fail)
local macro_rules | `(tactic| walk_at "chg") => `(tactic| first
  | assumption
  | exact Chg.refl _
  | exact Chg.nw (by assumption) (by walk_at "chg")
  | exact Chg.mkd (by assumption) (by walk_at "chg")
  | exact Chg.tp (by assumption) (by walk_at "chg")
  | exact Chg.gr (by assumption) (by walk_at "chg")
  | exact Chg.wr (by assumption) (by walk_at "chg") (by walk_at "in")
  | exact Chg.ch (by assumption) (by walk_at "chg") (by walk_at "sub")
  | fail)
local macro_rules | `(tactic| walk_at "sq") => `(tactic| first
  | assumption
  | exact SqL.of (by walk_at "lk")
  | exact Chg.seqL (by assumption) (by walk_at "sq") (by walk_at "nin")
  | exact SqL.nw (by assumption) (by walk_at "sq")
  | exact SqL.tp (by assumption) (by walk_at "sq")
  | exact SqL.mkd (by assumption) (by walk_at "sq")
  | exact SqL.wr (by assumption) (by walk_at "sq") (by walk_at "ne")
  | fail)
local macro_rules | `(tactic| walk_at "sqt") => `(tactic| first
  | assumption
  | exact SqT.of (by walk_at "lk")
  | exact Tp.sq (by assumption)
  | exact SqT.nw (by assumption) (by walk_at "sqt")
  | exact SqT.tp (by assumption) (by walk_at "sqt")
  | exact SqT.mkd (by assumption) (by walk_at "sqt")
  | exact SqT.chg (by assumption) (by walk_at "sqt") (by walk_at "nin")
  | fail)
local macro_rules | `(tactic| walk_at "seq") => `(tactic| first
  | assumption
  | exact .inl (by walk_at "sq")
  | exact .inr (by walk_at "sqt")
  | exact SqA.keepN (T := Env.tabs (by assumption)) (by assumption) (by walk_at "chg")
  | fail)
local macro_rules | `(tactic| walk_at "go") => `(tactic| repeat first
  | refine ⟨_, rfl, ?_⟩
  | refine ⟨_, _, _, _, rfl, And.intro (by walk_at "lk") (And.intro rfl ?_)⟩
  | refine ⟨_, _, _, rfl, And.intro (by walk_at "lk") (And.intro (by walk_at "side") ?_)⟩
  | refine ⟨_, _, And.intro rfl (And.intro rfl ?_)⟩
  | refine ⟨_, _, And.intro rfl (And.intro (by walk_at "lk") ?_)⟩
  | refine ⟨_, _, _, And.intro rfl (And.intro (by walk_at "lk") ?_)⟩
  | refine ⟨_, And.intro (by walk_at "lk") (And.intro (by walk_at "side") ?_)⟩
  | refine ⟨_, _, And.intro (by walk_at "lk") (And.intro (by walk_at "side") ?_)⟩
  | refine ⟨_, _, And.intro (by walk_at "seq") (And.intro rfl ?_)⟩
  | refine ⟨_, And.intro (by walk_at "seq") ?_⟩
  | refine ⟨_, And.intro (by walk_at "lk") (And.intro (by walk_at "side") (And.intro (by walk_at "side") (And.intro (by walk_at "side") ?_)))⟩
  | refine .inl ⟨_, _, And.intro (by walk_at "lk") (And.intro (by walk_at "lk") (And.intro (by walk_at "side") ?_))⟩
  | refine .inr ⟨_, _, And.intro (by walk_at "sqt") (And.intro (by walk_at "sqt") (And.intro (by walk_at "side") ?_))⟩
  | refine .inl ⟨_, And.intro (by walk_at "sq") ?_⟩
  | refine .inr ⟨_, And.intro (by walk_at "sqt") ?_⟩
  | refine ⟨_, _, _, _, rfl, rfl, And.intro (by walk_at "lk") (And.intro rfl ?_)⟩
  | refine fun H' (n : Wr _ _ _ H') => ?_
  | refine fun p H' (n : Nw _ p _ H') => ?_
  | refine fun r H' (n : Tp _ _ r _ H') => ?_
  | refine fun x dx H' (n : Mkd _ _ x dx H') => ?_
  | refine .inl ⟨_, _, rfl, And.intro (by walk_at "sq") (fun p H' (n : Nw _ p _ H') => ?_)⟩
  | refine .inr ⟨_, _, rfl, And.intro (by walk_at "sqt") (fun r H' (n : Tp _ _ r _ H') => ?_)⟩
  | refine ⟨_, _, rfl, And.intro (by walk_at "sq") (fun p H' (n : Nw _ p _ H') => ?_)⟩
  | refine .inl (And.intro ⟨_, by walk_at "sq"⟩ ?_)
  | refine .inr (And.intro ⟨_, by walk_at "sqt"⟩ ?_)
  | refine ⟨_, _, rfl, And.intro (by walk_at "sqt") (And.intro rfl ?_)⟩
  | refine ⟨_, _, And.intro rfl ?_⟩
  | refine ⟨_, _, _, And.intro rfl ?_⟩
  | refine And.intro rfl ?_
  | (refine ite_t ?_ ?_; exact rfl)
  | (refine ite_f ?_ ?_; exact rfl)
  | refine And.intro (by walk_at "side") ?_)
local macro_rules | `(tactic| walk_at "side") => `(tactic| first
  | exact (rfl : _ = _)
  | decide
  | exact lt1000 rfl
  | with_reducible assumption
  | exact ⟨by omega, by omega⟩
  | exact .inl ⟨by omega, by omega⟩
  | exact .inr ⟨by omega, by omega⟩
  | omega
  | (apply le_line; omega)
  | (apply lt_line; omega)
  | (apply le_line; simp <;> omega)
  | (apply lt_line; simp <;> omega)
  | fail)
local macro_rules | `(tactic| walk_at "if") => `(tactic| first
  | refine ite_nd ?_ ?_
  | refine ite_d ?_ ?_
  | refine ite_eqt ?_ ?_
  | fail)
local macro_rules | `(tactic| walk_at "roll") => `(tactic| first
  | (refine And.intro (show Dice _ _ from ⟨_, _, _, by walk_at "lk"⟩) (And.intro (by walk_at "side") (And.intro (by walk_at "side") (fun r H' r0 r1 ro => ?_))); obtain ⟨a', b', c', w⟩ := ro)
  | fail)
local macro_rules | `(tactic| walk_at "run") => `(tactic| (walk_at "go"; repeat (walk_at "roll"; walk_at "go")))
local macro_rules | `(tactic| walk_at "dp") => `(tactic| first
  | exact Dp.non
  | exact Dp.int _
  | exact Dp.str _
  | exact Dp.bl _
  | exact DpAll.nil
  | exact DpAll.cons (by walk_at "dp") (by walk_at "dp")
  | exact Dp.tup (by walk_at "sqt") (by walk_at "dp")
  | exact Dp.lst (by walk_at "sq") (by walk_at "dp")
  | fail)

section
variable {w : World} {K : PySem.W.Frag} {mg : Str → Option Value} {base : Heap}
def dbl (f r : Nat) : Nat := if h : f < r ∧ 0 < f then dbl (2 * f) r else f
termination_by r - f
theorem dbl_go {f r : Nat} (h : f < r) (p : 0 < f) : dbl (2 * f) r = dbl f r := by
  conv => rhs; unfold dbl
  rw [dif_pos ⟨h, p⟩]
theorem dbl_end {f r : Nat} (h : r ≤ f) : dbl f r = f := by
  unfold dbl
  rw [dif_neg (by omega)]
def fsR (l : Addr) (st n : Int) : FS := [("places", .ref l), ("start", .int st), ("many", .int n)]
/-- the ring's own parts -/
structure RawAt (C : Addr) (H : Hp) (p dx l : Addr) (st n : Int) (pl : List V) : Prop where
  ins : H p = some (.ins C dx (fsR l st n))
  lst : H l = some (.lst pl)
/-- own is what stands in the places from st on -/
structure Held (pl : List V) (st : Int) (own : List V) : Prop where
  pos : 0 < pl.length
  big : pl.length ≤ 512
  st0 : 0 ≤ st
  st1 : st < pl.length
  fits : own.length ≤ pl.length
  at_ : ∀ i : Nat, i < own.length → pl[((st + i) % pl.length).toNat]? = own[i]?
/-- a ring at p, its places at l -/
def RingAt (C : Addr) (H : Hp) (p l : Addr) (own : List V) (cap : Nat) : Prop := ∃ dx st pl, RawAt C H p dx l st own.length pl ∧ Held pl st own ∧ pl.length = cap
def sp_Ring_spot_of (T : Env w K mg base) : Sp := fun vs H Q _ => match vs with
  | [.ref p, .int k] => ∃ dx l st n pl, RawAt T.C_Ring H p dx l st n pl ∧ 0 < pl.length ∧ Q (.int ((st + k) % (pl.length : Int))) H
  | _ => False
theorem ok_Ring_spot_of (T : Env w K mg base) : FnOk prg w K mg base (L2.CX prg w) 8 T.f_Ring_spot_of T.fd_Ring_spot_of ["self", "place"] (sp_Ring_spot_of T) := by
  refine T.F_Ring_spot_of.ok sc_Ring_spot_of (fun vs H Q E h => by unfold sp_Ring_spot_of at h; split at h <;> first | rfl | exact h.elim) fun A outer s H vs Q E hr h => ?_
  refine ⟨_, (pss_one (ps_ret (pe_op Y.op_mod (pe_op (Y.op_addK (K := K) rfl) (Y.pe_f T.cl_Ring T.na_Ring_start (pv 0)) (pv 1)) (pe_callB (Y.lenK (K := K) rfl) (by rfl) T.no_len (by decide +kernel) (pa_cons (Y.pe_f T.cl_Ring T.na_Ring_places (pv 0)) pa_nil))))), ?_⟩
  unfold sp_Ring_spot_of at h
  split at h
  next p k =>
    obtain ⟨dx, l, st, n, pl, ⟨h1, h2⟩, h3, h⟩ := h
    walk_at "go"
    exact h
  next => exact h.elim
def sp_Ring_check_some (T : Env w K mg base) : Sp := fun vs H Q E => match vs with
  | [.ref p] => ∃ dx l st n pl, RawAt T.C_Ring H p dx l st n pl ∧ (n = 0 → E (.ref T.C_RingError) none H) ∧ (n ≠ 0 → Q .non H)
  | _ => False
theorem ok_Ring_check_some (T : Env w K mg base) : FnOk prg w K mg base (L2.CX prg w) 8 T.f_Ring_check_some T.fd_Ring_check_some ["self"] (sp_Ring_check_some T) := by
  refine T.F_Ring_check_some.ok sc_Ring_check_some (fun vs H Q E h => by unfold sp_Ring_check_some at h; split at h <;> first | rfl | exact h.elim) fun A outer s H vs Q E hr h => ?_
  refine ⟨_, (pss_one (ps_if (pt_cmpR (Y.op_eqK (K := K) rfl hr.units) (Y.pe_f T.cl_Ring T.na_Ring_many (pv 0)) pe_int (nomark _)) (pss_one (ps_raise rfl (takes_of rfl rfl rfl rfl) (pmk_own PySem.F.excBase_ValueError T.x_RingError T.mg_RingError T.k_RingError (raises_own T.bb_RingError T.tt_RingError) rfl))) pss_nil)), ?_⟩
  unfold sp_Ring_check_some at h
  split at h
  next p =>
    obtain ⟨dx, l, st, n, pl, ⟨h1, h2⟩, h3, h⟩ := h
    walk_at "go"
    walk_at "if"
    · intro c
      exact h3 c
    · intro c
      exact h c
  next => exact h.elim
def sp_Ring___init__ (T : Env w K mg base) : Sp := fun vs H Q E => match vs with
  | [.ref p, .int r] => ∃ dx, H p = some (.ins T.C_Ring dx []) ∧ (¬ (1 ≤ r ∧ r ≤ 256) → E (.ref T.C_RingError) none H) ∧
      (1 ≤ r → r ≤ 256 → ∀ l H', Chg T.tabs (In [p]) H H' → H l = none → RingAt T.C_Ring H' p l [] (dbl 1 r.toNat) → Q .non H')
  | _ => False
theorem ok_Ring___init__ (T : Env w K mg base) : FnOk prg w K mg base (L2.CX prg w) 8 T.f_Ring___init__ T.fd_Ring___init__ ["self", "room"] (sp_Ring___init__ T) := by
  refine T.F_Ring___init__.ok sc_Ring___init__ (fun vs H Q E h => by unfold sp_Ring___init__ at h; split at h <;> first | rfl | exact h.elim) fun A outer s H vs Q E hr h => ?_
  refine ⟨_, (pss_cons (ps_if (pt_not (pt_chain Y.op_le Y.op_le pe_int (pv 1) (pe_glob rfl T.mg_MOST_ROOM T.rv_MOST_ROOM))) (pss_one (ps_raise rfl (takes_of rfl rfl rfl rfl) (pmk_own PySem.F.excBase_ValueError T.x_RingError T.mg_RingError T.k_RingError (raises_own T.bb_RingError T.tt_RingError) rfl))) pss_nil)
  (pss_cons (ps_set (i := 2) sc_Ring___init__.nd rfl (Or.inl rfl) pe_int)
  (pss_cons (ps_while (passes_of rfl) (pt_cmpR Y.op_lt (pv 2) (pv 1) (nomark _)) (pss_one (ps_aug (i := 2) sc_Ring___init__.nd rfl (Or.inl rfl) pe_int Y.ip_mult)))
  (pss_cons (Y.ps_f T.cl_Ring T.na_Ring_places (pv 0) (pe_op Y.op_mul (Y.pe_ls (pa_cons pe_non pa_nil)) (pv 2)))
  (pss_cons (Y.ps_f T.cl_Ring T.na_Ring_start (pv 0) pe_int)
  (pss_one (Y.ps_f T.cl_Ring T.na_Ring_many (pv 0) pe_int))))))), ?_⟩
  unfold sp_Ring___init__ at h
  split at h
  next p r =>
    obtain ⟨dx, h1, h2, h⟩ := h
    walk_at "go"
    walk_at "if"
    · intro c1
      walk_at "go"
      walk_at "if"
      · intro c2; simp at c2
        exact h2 (by omega)
      · intro c2
        have r2 : r ≤ 256 := by simpa using c2
        walk_at "go"
        refine while_n (fun σ H' => ∃ f : Nat, σ = [some (.ref p), some (.int r), some (.int f)] ∧ H' = H ∧ 0 < f ∧ f ≤ 512 ∧ (f = 1 ∨ f < 2 * r.toNat) ∧ dbl f r.toNat = dbl 1 r.toNat)
          (fun σ _ => match σ with | [_, _, some (.int f)] => (r - f).toNat | _ => 0) ⟨1, rfl, rfl, by decide, by decide, .inl rfl, rfl⟩ ?_
        rintro σ H' ⟨f, rfl, rfl, f1, f2, f3, f4⟩
        walk_at "go"
        walk_at "if"
        · intro c3
          refine wh_step ?_
          walk_at "go"
          refine ⟨⟨2 * f, ?_, rfl, by omega, by omega, .inr (by omega), by rw [dbl_go (by omega) f1]; exact f4⟩, ?_⟩
          · show [_, _, some (V.int (↑f * 2))] = _
            rw [show (f : Int) * 2 = ((2 * f : Nat) : Int) by omega]
          · show (r - (f : Int) * 2).toNat < (r - (f : Int)).toNat
            omega
        · intro c3
          walk_at "go"
          rename_i l H1 n1 H2 n2 H3 n3 H4 n4
          rw [List.flatten_replicate_singleton, Int.toNat_natCast] at n1
          have ef : dbl 1 r.toNat = f := by rw [← f4, dbl_end (by omega)]
          refine h c1 r2 l H4 (by walk_at "chg") (by walk_at "fr") ⟨dx, 0, List.replicate f .non, ⟨by walk_at "lk", by walk_at "lk"⟩, ⟨by simp; omega, by simp; omega, by omega, by simp; omega, by simp, by simp⟩, by simp [ef]⟩
    · intro c1
      walk_at "go"
      exact h2 (by omega)
  next => exact h.elim
/-! ### all_items -/
theorem held_get {pl own : List V} {st : Int} (h : Held pl st own) {i : Nat} (hi : i < own.length) : atI pl ((st + (i : Int)) % (pl.length : Int)) = own[i]? := by
  have h1 := h.pos
  rw [atI_nat (Int.emod_nonneg _ (by omega)) (Int.emod_lt_of_pos _ (by omega)), h.at_ i hi]
theorem RingAt.raw {C : Addr} {H : Hp} {p l : Addr} {own : List V} {cap : Nat} (r : RingAt C H p l own cap) : ∃ dx st pl, RawAt C H p dx l st own.length pl ∧ Held pl st own ∧ pl.length = cap := r
theorem RawAt.chg {C : Addr} {H H' : Hp} {p dx l : Addr} {st n : Int} {pl : List V} {T : List (Addr × Str)} {S : Addr → Prop} (r : RawAt C H p dx l st n pl) (c : Chg T S H H') (h1 : ¬ S p) (h2 : ¬ S l) : RawAt C H' p dx l st n pl :=
  ⟨c.look r.ins h1 rfl, c.look r.lst h2 rfl⟩
theorem RingAt.chg {C : Addr} {H H' : Hp} {p l : Addr} {own : List V} {cap : Nat} {T : List (Addr × Str)} {S : Addr → Prop} (r : RingAt C H p l own cap) (c : Chg T S H H') (h1 : ¬ S p) (h2 : ¬ S l) : RingAt C H' p l own cap :=
  let ⟨dx, st, pl, a, b, e⟩ := r; ⟨dx, st, pl, a.chg c h1 h2, b, e⟩
def sp_Ring_all_items (T : Env w K mg base) : Sp := fun vs H Q _ => match vs with
  | [.ref p] => ∃ l own cap, RingAt T.C_Ring H p l own cap ∧ Tabs T.tabs H ∧ ∀ r H', Chg T.tabs nil H H' → H r = none → H' r = some (.tup own) → Q (.ref r) H'
  | _ => False
theorem ok_Ring_all_items (T : Env w K mg base) : FnOk prg w K mg base (L2.CX prg w) 16 T.f_Ring_all_items T.fd_Ring_all_items ["self"] (sp_Ring_all_items T) := by
  refine T.F_Ring_all_items.ok sc_Ring_all_items (fun vs H Q E h => by unfold sp_Ring_all_items at h; split at h <;> first | rfl | exact h.elim) fun A outer s H vs Q E hr h => ?_
  refine ⟨_, (pss_one (ps_ret (Y.pe_tupG (Y.pgen_gx (k := 8) (own := [("place", 1)]) (hr.mono (by decide)) T.tb_Ring_all_items rfl T.tm_Ring_all_items T.tu_Ring_all_items sc_Ring_all_items.nd (pi_range1 rfl T.no_range (pa_cons (Y.pe_f T.cl_Ring T.na_Ring_many (pv 0)) pa_nil)) (blkOk_by (own := [("place", 1)]) (N := N_Ring_all_items) (sc := defScope s_Ring_all_items) (by decide +kernel)) (Y.gxOk_by (by decide +kernel)) (fun _ _ _ _ _ _ hr => (pg_name (i := 1) sc_Ring_all_items.nd rfl (Or.inl rfl))) (fun _ _ _ _ _ _ hr => pts_nil) (fun _ _ _ _ _ _ hr => (pe_ix (Y.ixK (K := K) rfl) (Y.pe_f T.cl_Ring T.na_Ring_places (pv 0)) (pe_meth (pv 0) T.cl_Ring T.me_Ring_spot_of (ok_Ring_spot_of T) (hr.mono (by decide)) T.b_Ring_spot_of .nil Y.passN (pa_cons (pv 1) pa_nil)) (fun _ _ => rfl)))) (hr.mono (by decide)) rfl T.no_tuple))), ?_⟩
  unfold sp_Ring_all_items at h
  split at h
  next p =>
    obtain ⟨l, own, cap, ⟨dx, st, pl, ⟨h1, h2⟩, hh, hc⟩, ht, h⟩ := h
    walk_at "go"
    have e1 : (↑own.length : Int).toNat = own.length := by omega
    rw [e1]
    refine ⟨by have := hh.fits; have := hh.big; omega, ht, fun H2 g => ?_⟩
    have k1 : RawAt T.C_Ring H2 p dx l st own.length pl := ⟨g.look h1 rfl, g.look h2 rfl⟩
    refine gxr (fun i ys H' => H' = H2 ∧ ys = own.take i) ⟨rfl, rfl⟩ ?_ ?_
    · rintro ys H' ⟨rfl, rfl⟩
      refine nw_all fun r H3 n => ?_
      rw [List.take_length] at n
      exact h r H3 (by walk_at "chg") (by walk_at "fr") (by walk_at "lk")
    · rintro i ys H' hi ⟨rfl, rfl⟩ Nx Sk hN hS
      obtain ⟨h1, h2⟩ := k1
      walk_at "go"
      refine ⟨_, _, _, _, _, ⟨by walk_at "lk", by walk_at "lk"⟩, hh.pos, ⟨_, own[i], by walk_at "seq", ?_, hN _ _ ?_ ⟨rfl, ?_⟩⟩⟩
      · rw [Int.zero_add, held_get hh hi]; exact List.getElem?_eq_getElem hi
      · have := hh.fits; have := hh.big; simp only [List.length_take]; exact Nat.lt_of_lt_of_le (by omega) (le_line (n := 513) (by omega))
      · rw [List.take_add_one, List.getElem?_eq_getElem hi]; rfl
  next => exact h.elim
end
end Z


set_option Elab.async false
set_option linter.all false
set_option maxRecDepth 100000
set_option maxHeartbeats 4000000
set_option pp.maxSteps 1500
namespace Z
open PySem PySem.Spec L2 LamX Y
local macro_rules | `(tactic| walk_at "lk") => `(tactic| first
  | assumption
  | exact Nw.at (by assumption)
  | exact Wr.at (by assumption)
  | exact Mkd.at (by assumption)
  | exact Nw.look (by assumption) (by walk_at "lk")
  | exact Mkd.look (by assumption) (by walk_at "lk")
  | exact Wr.look (by assumption) (by walk_at "lk") (by walk_at "ne")
  | exact Chg.look (by assumption) (by walk_at "lk") (by walk_at "nin") rfl
  | exact Tp.same (by assumption) _ _ (by walk_at "lk")
  | exact Grows.look (by assumption) (by walk_at "lk") rfl
  | fail)
local macro_rules | `(tactic| walk_at "ne") => `(tactic| first
  | assumption
  | exact Ne.symm (by assumption)
  | exact Nw.ne (by assumption) (by walk_at "lk")
  | exact Ne.symm (Nw.ne (by assumption) (by walk_at "lk"))
  | exact ne_fr (by assumption) (by walk_at "lk")
  | exact Ne.symm (ne_fr (by assumption) (by walk_at "lk"))
  | exact ne_fr (Mkd.nx (by assumption)) (by walk_at "lk")
  | exact Ne.symm (ne_fr (Mkd.nx (by assumption)) (by walk_at "lk"))
  | exact ne_kdn (by assumption) (by walk_at "lk") rfl
  | exact Ne.symm (ne_kdn (by assumption) (by walk_at "lk") rfl)
  | fail)
local macro_rules | `(tactic| walk_at "nin") => `(tactic| first
  | exact nin_nil
  | exact id
  | exact nin_cons (by walk_at "ne") (by walk_at "nin")
  | fail)
local macro_rules | `(tactic| walk_at "fr") => `(tactic| first
  | assumption
  | exact Nw.new (by assumption)
  | exact Mkd.nx (by assumption)
  | exact Nw.dom (by assumption) (by walk_at "fr")
  | exact Wr.dom (by assumption) (by walk_at "fr")
  | exact Mkd.dom (by assumption) (by walk_at "fr")
  | exact Chg.dom (by assumption) _ (by walk_at "fr")
  | exact Tp.dom (by assumption) _ (by walk_at "fr")
  | exact Grows.dom (by assumption) _ (by walk_at "fr")
  | fail)
local macro_rules | `(tactic| walk_at "mem") => `(tactic| first
  | assumption
  | exact List.mem_cons_self
  | (apply List.mem_cons_of_mem; walk_at "mem")
  | fail)
local macro_rules | `(tactic| walk_at "in") => `(tactic| first
  | assumption
  | (apply Or.inl; walk_at "mem")
  | (apply Or.inr; walk_at "fr")
  | fail)
local macro_rules | `(tactic| walk_at "sub") => `(tactic| first
  | exact sub_nil0
  | exact sub_nil
  | exact sub_cons (by walk_at "in") (by walk_at "sub")
  | fail)
local macro_rules | `(tactic| walk_at "chg") => `(tactic| first
  | assumption
  | exact Chg.refl _
  | exact Chg.nw (by assumption) (by walk_at "chg")
  | exact Chg.mkd (by assumption) (by walk_at "chg")
  | exact Chg.tp (by assumption) (by walk_at "chg")
  | exact Chg.gr (by assumption) (by walk_at "chg")
  | exact Chg.wr (by assumption) (by walk_at "chg") (by walk_at "in")
  | exact Chg.ch (by assumption) (by walk_at "chg") (by walk_at "sub")
  | fail)
local macro_rules | `(tactic| walk_at "sq") => `(tactic| first
  | assumption
  | exact SqL.of (by walk_at "lk")
  | exact Chg.seqL (by assumption) (by walk_at "sq") (by walk_at "nin")
  | exact SqL.nw (by assumption) (by walk_at "sq")
  | exact SqL.tp (by assumption) (by walk_at "sq")
  | exact SqL.mkd (by assumption) (by walk_at "sq")
  | exact SqL.wr (by assumption) (by walk_at "sq") (by walk_at "ne")
  | fail)
local macro_rules | `(tactic| walk_at "sqt") => `(tactic| first
  | assumption
  | exact SqT.of (by walk_at "lk")
  | exact Tp.sq (by assumption)
  | exact SqT.nw (by assumption) (by walk_at "sqt")
  | exact SqT.tp (by assumption) (by walk_at "sqt")
  | exact SqT.mkd (by assumption) (by walk_at "sqt")
  | exact SqT.chg (by assumption) (by walk_at "sqt") (by walk_at "nin")
  | fail)
local macro_rules | `(tactic| walk_at "seq") => `(tactic| first
  | assumption
  | exact .inl (by walk_at "sq")
  | exact .inr (by walk_at "sqt")
  | exact SqA.keepN (T := Env.tabs (by assumption)) (by assumption) (by walk_at "chg")
  | fail)
local macro_rules | `(tactic| walk_at "go") => `(tactic| repeat first
  | refine ⟨_, rfl, ?_⟩
  | refine ⟨_, _, _, _, rfl, And.intro (by walk_at "lk") (And.intro rfl ?_)⟩
  | refine ⟨_, _, _, rfl, And.intro (by walk_at "lk") (And.intro (by walk_at "side") ?_)⟩
  | refine ⟨_, _, And.intro rfl (And.intro rfl ?_)⟩
  | refine ⟨_, _, And.intro rfl (And.intro (by walk_at "lk") ?_)⟩
  | refine ⟨_, _, _, And.intro rfl (And.intro (by walk_at "lk") ?_)⟩
  | refine ⟨_, And.intro (by walk_at "lk") (And.intro (by walk_at "side") ?_)⟩
  | refine ⟨_, _, And.intro (by walk_at "lk") (And.intro (by walk_at "side") ?_)⟩
  | refine ⟨_, _, And.intro (by walk_at "seq") (And.intro rfl ?_)⟩
  | refine ⟨_, And.intro (by walk_at "seq") ?_⟩
  | refine ⟨_, And.intro (by walk_at "lk") (And.intro (by walk_at "side") (And.intro (by walk_at "side") (And.intro (by walk_at "side") ?_)))⟩
  | refine .inl ⟨_, _, And.intro (by walk_at "lk") (And.intro (by walk_at "lk") (And.intro (by walk_at "side") ?_))⟩
  | refine .inr ⟨_, _, And.intro (by walk_at "sqt") (And.intro (by walk_at "sqt") (And.intro (by walk_at "side") ?_))⟩
  | refine .inl ⟨_, And.intro (by walk_at "sq") ?_⟩
  | refine .inr ⟨_, And.intro (by walk_at "sqt") ?_⟩
  | refine ⟨_, _, _, _, rfl, rfl, And.intro (by walk_at "lk") (And.intro rfl ?_)⟩
  | refine fun H' (n : Wr _ _ _ H') => ?_
  | refine fun p H' (n : Nw _ p _ H') => ?_
  | refine fun r H' (n : Tp _ _ r _ H') => ?_
  | refine fun x dx H' (n : Mkd _ _ x dx H') => ?_
  | refine .inl ⟨_, _, rfl, And.intro (by walk_at "sq") (fun p H' (n : Nw _ p _ H') => ?_)⟩
  | refine .inr ⟨_, _, rfl, And.intro (by walk_at "sqt") (fun r H' (n : Tp _ _ r _ H') => ?_)⟩
  | refine ⟨_, _, rfl, And.intro (by walk_at "sq") (fun p H' (n : Nw _ p _ H') => ?_)⟩
  | refine .inl (And.intro ⟨_, by walk_at "sq"⟩ ?_)
  | refine .inr (And.intro ⟨_, by walk_at "sqt"⟩ ?_)
  | refine ⟨_, _, rfl, And.intro (by walk_at "sqt") (And.intro rfl ?_)⟩
  | refine ⟨_, _, And.intro rfl ?_⟩
  | refine ⟨_, _, _, And.intro rfl ?_⟩
  | refine And.intro rfl ?_
  | (refine ite_t ?_ ?_; exact rfl)
  | (refine ite_f ?_ ?_; exact rfl)
  | refine And.intro (by walk_at "side") ?_)
local macro_rules | `(tactic| walk_at "side") => `(tactic| first
  | exact (rfl : _ = _)
  | decide
  | exact lt1000 rfl
  | with_reducible assumption
  | exact ⟨by omega, by omega⟩
  | exact .inl ⟨by omega, by omega⟩
  | exact .inr ⟨by omega, by omega⟩
  | omega
  | (apply le_line; omega)
  | (apply lt_line; omega)
  | (apply le_line; simp <;> omega)
  | (apply lt_line; simp <;> omega)
  | fail)
local macro_rules | `(tactic| walk_at "if") => `(tactic| first
  | refine ite_nd ?_ ?_
  | refine ite_d ?_ ?_
  | refine ite_eqt ?_ ?_
  | fail)
local macro_rules | `(tactic| walk_at "roll") => `(tactic| first
  | (refine And.intro (show Dice _ _ from ⟨_, _, _, by walk_at "lk"⟩) (And.intro (by walk_at "side") (And.intro (by walk_at "side") (fun r H' r0 r1 ro => ?_))); obtain ⟨a', b', c', w⟩ := ro)
  | fail)
local macro_rules | `(tactic| walk_at "run") => `(tactic| (walk_at "go"; repeat (walk_at "roll"; walk_at "go")))
local macro_rules | `(tactic| walk_at "dp") => `(tactic| first
  | exact Dp.non
  | exact Dp.int _
  | exact Dp.str _
  | exact Dp.bl _
  | exact DpAll.nil
  | exact DpAll.cons (by walk_at "dp") (by walk_at "dp")
  | exact Dp.tup (by walk_at "sqt") (by walk_at "dp")
  | exact Dp.lst (by walk_at "sq") (by walk_at "dp")
  | fail)

section
variable {w : World} {K : PySem.W.Frag} {mg : Str → Option Value} {base : Heap}
/-! ### the plain law of a ring's places -/
theorem modw {st L i : Int} (h0 : 0 ≤ st) (h1 : st < L) (i0 : 0 ≤ i) (i1 : i ≤ L) : (st + i) % L = if st + i < L then st + i else st + i - L := by
  split
  · exact Int.emod_eq_of_lt (by omega) (by omega)
  · rw [← Int.sub_emod_right]
    exact Int.emod_eq_of_lt (by omega) (by omega)
theorem modp {st L : Int} (h0 : 0 ≤ st) (h1 : st < L) : (st - 1) % L = if st = 0 then L - 1 else st - 1 := by
  split
  · rename_i h
    rw [h, show (0 : Int) - 1 = -1 by omega, ← Int.add_emod_right, Int.emod_eq_of_lt (by omega) (by omega)]
    omega
  · exact Int.emod_eq_of_lt (by omega) (by omega)
/-- where the i-th is -/
def plc (st L : Int) (i : Nat) : Nat := (if st + i < L then st + i else st + i - L).toNat
theorem Held.slot {pl own : List V} {st : Int} (h : Held pl st own) {i : Nat} (hi : i ≤ pl.length) : ((st + (i : Int)) % (pl.length : Int)).toNat = plc st pl.length i := by
  unfold plc
  rw [modw h.st0 h.st1 (by omega) (by omega)]
theorem Held.of {pl own : List V} {st : Int} (pos : 0 < pl.length) (big : pl.length ≤ 512) (st0 : 0 ≤ st) (st1 : st < pl.length) (fits : own.length ≤ pl.length) (h : ∀ i : Nat, i < own.length → pl[plc st pl.length i]? = own[i]?) : Held pl st own :=
  ⟨pos, big, st0, st1, fits, fun i hi => by rw [modw st0 st1 (by omega) (by omega)]; exact h i hi⟩
theorem Held.get {pl own : List V} {st : Int} (h : Held pl st own) {i : Nat} (hi : i < own.length) : pl[plc st pl.length i]? = own[i]? := by
  rw [← h.slot (by have := h.fits; omega)]; exact h.at_ i hi
theorem held_last {pl own : List V} {st : Int} {v : V} (h : Held pl st own) (hl : own.length < pl.length) : Held (pl.set ((st + (own.length : Int)) % (pl.length : Int)).toNat v) st (own ++ [v]) := by
  have a1 := h.pos; have a2 := h.big; have a3 := h.st0; have a4 := h.st1
  rw [h.slot (by omega)]
  refine .of (by simp; omega) (by simp; omega) h.st0 (by simp; omega) (by simp; omega) fun i hi => ?_
  simp only [List.length_set, List.length_append, List.length_singleton] at hi ⊢
  rw [List.getElem?_set, List.getElem?_append]
  by_cases e : i < own.length
  · rw [if_neg (by unfold plc; split <;> split <;> omega), if_pos e, h.get e]
  · have : i = own.length := by omega
    subst this
    rw [if_pos rfl, if_pos (by unfold plc; split <;> omega), if_neg (by omega)]
    simp
theorem held_first {pl own : List V} {st : Int} {v : V} (h : Held pl st own) (hl : own.length < pl.length) : Held (pl.set ((st - 1) % (pl.length : Int)).toNat v) ((st - 1) % (pl.length : Int)) (v :: own) := by
  have a1 := h.pos; have a2 := h.big; have a3 := h.st0; have a4 := h.st1
  rw [modp h.st0 h.st1]
  refine .of (by simp; omega) (by simp; omega) (by split <;> omega) (by simp; split <;> omega) (by simp; omega) fun i hi => ?_
  simp only [List.length_set, List.length_cons] at hi ⊢
  rw [List.getElem?_set]
  cases i with
  | zero =>
    rw [if_pos (by unfold plc; split <;> split <;> omega), if_pos (by split <;> omega)]
    rfl
  | succ i =>
    rw [if_neg (by unfold plc; split <;> split <;> omega), List.getElem?_cons_succ, ← h.get (by omega)]
    congr 1
    unfold plc
    split <;> split <;> split <;> omega
theorem held_tail {pl own : List V} {st : Int} {x v : V} (h : Held pl st (x :: own)) : Held (pl.set st.toNat v) ((st + 1) % (pl.length : Int)) own := by
  have a1 := h.pos; have a2 := h.big; have a3 := h.st0; have a4 := h.st1; have a5 := h.fits
  simp only [List.length_cons] at a5
  rw [modw h.st0 h.st1 (by omega) (by omega)]
  refine .of (by simp; omega) (by simp; omega) (by split <;> omega) (by simp; split <;> omega) (by simp; omega) fun i hi => ?_
  simp only [List.length_set] at hi ⊢
  have g := h.get (i := i + 1) (by simp; omega)
  rw [List.getElem?_cons_succ] at g
  rw [List.getElem?_set, if_neg (by unfold plc; split <;> split <;> omega), ← g]
  congr 1
  unfold plc
  split <;> split <;> split <;> omega
theorem held_init {pl own : List V} {st : Int} {x v : V} (h : Held pl st (own ++ [x])) : Held (pl.set ((st + (own.length : Int)) % (pl.length : Int)).toNat v) st own := by
  have a1 := h.pos; have a2 := h.big; have a3 := h.st0; have a4 := h.st1; have a5 := h.fits
  simp only [List.length_append, List.length_singleton] at a5
  rw [h.slot (by omega)]
  refine .of (by simp; omega) (by simp; omega) h.st0 (by simp; omega) (by simp; omega) fun i hi => ?_
  simp only [List.length_set] at hi ⊢
  have g := h.get (i := i) (by simp; omega)
  rw [List.getElem?_append_left hi] at g
  rw [List.getElem?_set, if_neg (by unfold plc; split <;> split <;> omega), ← g]
theorem held_head {pl own : List V} {st : Int} {x : V} (h : Held pl st (x :: own)) : atI pl st = some x := by
  have g := held_get h (i := 0) (by simp)
  rw [show st + ((0 : Nat) : Int) = st by omega, Int.emod_eq_of_lt h.st0 h.st1] at g
  exact g
theorem held_fresh {own : List V} {k : Nat} (pos : 0 < own.length + k) (big : own.length + k ≤ 512) : Held (own ++ List.replicate k .non) 0 own := by
  refine .of (by simp; omega) (by simp; omega) (by omega) (by simp; omega) (by simp) fun i hi => ?_
  simp only [List.length_append, List.length_replicate]
  rw [List.getElem?_append_left (by unfold plc; split <;> omega)]
  congr 1
  unfold plc
  split <;> omega
end
end Z


set_option Elab.async false
set_option linter.all false
set_option maxRecDepth 100000
set_option maxHeartbeats 4000000
set_option pp.maxSteps 700
namespace Z
open PySem PySem.Spec L2 LamX Y
local macro_rules | `(tactic| walk_at "lk") => `(tactic| first
  | assumption
  | exact Nw.at (by assumption)
  | exact Wr.at (by assumption)
  | exact Mkd.at (by assumption)
  | exact Nw.look (by assumption) (by walk_at "lk")
  | exact Mkd.look (by assumption) (by walk_at "lk")
  | exact Wr.look (by assumption) (by walk_at "lk") (by walk_at "ne")
  | exact Chg.look (by assumption) (by walk_at "lk") (by walk_at "nin") rfl
  | exact Tp.same (by assumption) _ _ (by walk_at "lk")
  | exact Grows.look (by assumption) (by walk_at "lk") rfl
  | fail)
local macro_rules | `(tactic| walk_at "ne") => `(tactic| first
  | assumption
  | exact Ne.symm (by assumption)
  | exact Nw.ne (by assumption) (by walk_at "lk")
  | exact Ne.symm (Nw.ne (by assumption) (by walk_at "lk"))
  | exact ne_fr (by assumption) (by walk_at "lk")
  | exact Ne.symm (ne_fr (by assumption) (by walk_at "lk"))
  | exact ne_fr (Mkd.nx (by assumption)) (by walk_at "lk")
  | exact Ne.symm (ne_fr (Mkd.nx (by assumption)) (by walk_at "lk"))
  | exact ne_kdn (by assumption) (by walk_at "lk") rfl
  | exact Ne.symm (ne_kdn (by assumption) (by walk_at "lk") rfl)
  | fail)
local macro_rules | `(tactic| walk_at "nin") => `(tactic| first
  | exact nin_nil
  | exact id
  | exact nin_cons (by walk_at "ne") (by walk_at "nin")
  | fail)
local macro_rules | `(tactic| walk_at "fr") => `(tactic| first
  | assumption
  | exact Nw.new (by assumption)
  | exact Mkd.nx (by assumption)
  | exact Nw.dom (by assumption) (by walk_at "fr")
  | exact Wr.dom (by assumption) (by walk_at "fr")
  | exact Mkd.dom (by assumption) (by walk_at "fr")
  | exact Chg.dom (by assumption) _ (by walk_at "fr")
  | exact Tp.dom (by assumption) _ (by walk_at "fr")
  | exact Grows.dom (by assumption) _ (by walk_at "fr")
  | fail)
local macro_rules | `(tactic| walk_at "mem") => `(tactic| first
  | assumption
  | exact List.mem_cons_self
  | (apply List.mem_cons_of_mem; walk_at "mem")
  | fail)
local macro_rules | `(tactic| walk_at "in") => `(tactic| first
  | assumption
  | (apply Or.inl; walk_at "mem")
  | (apply Or.inr; walk_at "fr")
  | fail)
local macro_rules | `(tactic| walk_at "sub") => `(tactic| first
  | exact sub_nil0
  | exact sub_nil
  | exact sub_cons (by walk_at "in") (by walk_at "sub")
  | fail)
local macro_rules | `(tactic| walk_at "chg") => `(tactic| first
  | assumption
  | exact Chg.refl _
  | exact Chg.nw (by assumption) (by walk_at "chg")
  | exact Chg.mkd (by assumption) (by walk_at "chg")
  | exact Chg.tp (by assumption) (by walk_at "chg")
  | exact Chg.gr (by assumption) (by walk_at "chg")
  | exact Chg.wr (by assumption) (by walk_at "chg") (by walk_at "in")
  | exact Chg.ch (by assumption) (by walk_at "chg") (by walk_at "sub")
  | fail)
local macro_rules | `(tactic| walk_at "sq") => `(tactic| first
  | assumption
  | exact SqL.of (by walk_at "lk")
  | exact Chg.seqL (by assumption) (by walk_at "sq") (by walk_at "nin")
  | exact SqL.nw (by assumption) (by walk_at "sq")
  | exact SqL.tp (by assumption) (by walk_at "sq")
  | exact SqL.mkd (by assumption) (by walk_at "sq")
  | exact SqL.wr (by assumption) (by walk_at "sq") (by walk_at "ne")
  | fail)
local macro_rules | `(tactic| walk_at "sqt") => `(tactic| first
  | assumption
  | exact SqT.of (by walk_at "lk")
  | exact Tp.sq (by assumption)
  | exact SqT.nw (by assumption) (by walk_at "sqt")
  | exact SqT.tp (by assumption) (by walk_at "sqt")
  | exact SqT.mkd (by assumption) (by walk_at "sqt")
  | exact SqT.chg (by assumption) (by walk_at "sqt") (by walk_at "nin")
  | fail)
local macro_rules | `(tactic| walk_at "seq") => `(tactic| first
  | assumption
  | exact .inl (by walk_at "sq")
  | exact .inr (by walk_at "sqt")
  | exact SqA.keepN (T := Env.tabs (by assumption)) (by assumption) (by walk_at "chg")
  | fail)
local macro_rules | `(tactic| walk_at "go") => `(tactic| repeat first
  | refine ⟨_, rfl, ?_⟩
  | refine ⟨_, _, _, _, rfl, And.intro (by walk_at "lk") (And.intro rfl ?_)⟩
  | refine ⟨_, _, _, rfl, And.intro (by walk_at "lk") (And.intro (by walk_at "side") ?_)⟩
  | refine ⟨_, _, And.intro rfl (And.intro rfl ?_)⟩
  | refine ⟨_, _, And.intro rfl (And.intro (by walk_at "lk") ?_)⟩
  | refine ⟨_, _, _, And.intro rfl (And.intro (by walk_at "lk") ?_)⟩
  | refine ⟨_, And.intro (by walk_at "lk") (And.intro (by walk_at "side") ?_)⟩
  | refine ⟨_, _, And.intro (by walk_at "lk") (And.intro (by walk_at "side") ?_)⟩
  | refine ⟨_, _, And.intro (by walk_at "seq") (And.intro rfl ?_)⟩
  | refine ⟨_, And.intro (by walk_at "seq") ?_⟩
  | refine ⟨_, And.intro (by walk_at "lk") (And.intro (by walk_at "side") (And.intro (by walk_at "side") (And.intro (by walk_at "side") ?_)))⟩
  | refine .inl ⟨_, _, And.intro (by walk_at "lk") (And.intro (by walk_at "lk") (And.intro (by walk_at "side") ?_))⟩
  | refine .inr ⟨_, _, And.intro (by walk_at "sqt") (And.intro (by walk_at "sqt") (And.intro (by walk_at "side") ?_))⟩
  | refine .inl ⟨_, And.intro (by walk_at "sq") ?_⟩
  | refine .inr ⟨_, And.intro (by walk_at "sqt") ?_⟩
  | refine ⟨_, _, _, _, rfl, rfl, And.intro (by walk_at "lk") (And.intro rfl ?_)⟩
  | refine fun H' (n : Wr _ _ _ H') => ?_
  | refine fun p H' (n : Nw _ p _ H') => ?_
  | refine fun r H' (n : Tp _ _ r _ H') => ?_
  | refine fun x dx H' (n : Mkd _ _ x dx H') => ?_
  | refine .inl ⟨_, _, rfl, And.intro (by walk_at "sq") (fun p H' (n : Nw _ p _ H') => ?_)⟩
  | refine .inr ⟨_, _, rfl, And.intro (by walk_at "sqt") (fun r H' (n : Tp _ _ r _ H') => ?_)⟩
  | refine ⟨_, _, rfl, And.intro (by walk_at "sq") (fun p H' (n : Nw _ p _ H') => ?_)⟩
  | refine .inl (And.intro ⟨_, by walk_at "sq"⟩ ?_)
  | refine .inr (And.intro ⟨_, by walk_at "sqt"⟩ ?_)
  | refine ⟨_, _, rfl, And.intro (by walk_at "sqt") (And.intro rfl ?_)⟩
  | refine ⟨_, _, And.intro rfl ?_⟩
  | refine ⟨_, _, _, And.intro rfl ?_⟩
  | refine And.intro rfl ?_
  | (refine ite_t ?_ ?_; exact rfl)
  | (refine ite_f ?_ ?_; exact rfl)
  | refine And.intro (by walk_at "side") ?_)
local macro_rules | `(tactic| walk_at "side") => `(tactic| first
  | exact (rfl : _ = _)
  | decide
  | exact lt1000 rfl
  | with_reducible assumption
  | exact ⟨by omega, by omega⟩
  | exact .inl ⟨by omega, by omega⟩
  | exact .inr ⟨by omega, by omega⟩
  | omega
  | (apply le_line; omega)
  | (apply lt_line; omega)
  | (apply le_line; simp <;> omega)
  | (apply lt_line; simp <;> omega)
  | fail)
local macro_rules | `(tactic| walk_at "if") => `(tactic| first
  | refine ite_nd ?_ ?_
  | refine ite_d ?_ ?_
  | refine ite_eqt ?_ ?_
  | fail)
local macro_rules | `(tactic| walk_at "roll") => `(tactic| first
  | (refine And.intro (show Dice _ _ from ⟨_, _, _, by walk_at "lk"⟩) (And.intro (by walk_at "side") (And.intro (by walk_at "side") (fun r H' r0 r1 ro => ?_))); obtain ⟨a', b', c', w⟩ := ro)
  | fail)
local macro_rules | `(tactic| walk_at "run") => `(tactic| (walk_at "go"; repeat (walk_at "roll"; walk_at "go")))
local macro_rules | `(tactic| walk_at "dp") => `(tactic| first
  | exact Dp.non
  | exact Dp.int _
  | exact Dp.str _
  | exact Dp.bl _
  | exact DpAll.nil
  | exact DpAll.cons (by walk_at "dp") (by walk_at "dp")
  | exact Dp.tup (by walk_at "sqt") (by walk_at "dp")
  | exact Dp.lst (by walk_at "sq") (by walk_at "dp")
  | fail)

section
variable {w : World} {K : PySem.W.Frag} {mg : Str → Option Value} {base : Heap}
theorem rep1 {α : Type} {n : Nat} {x : α} : (List.replicate (↑n : Int).toNat [x]).flatten = List.replicate n x := by rw [List.flatten_replicate_singleton, Int.toNat_natCast]
def sp_Ring_grow_twice (T : Env w K mg base) : Sp := fun vs H Q _ => match vs with
  | [.ref p] => ∃ l own cap, RingAt T.C_Ring H p l own cap ∧ own.length = cap ∧ cap ≤ 256 ∧ Tabs T.tabs H ∧ ∀ l' H', Chg T.tabs (In [p]) H H' → H l' = none → RingAt T.C_Ring H' p l' own (2 * cap) → Q .non H'
  | _ => False
theorem ok_Ring_grow_twice (T : Env w K mg base) : FnOk prg w K mg base (L2.CX prg w) 24 T.f_Ring_grow_twice T.fd_Ring_grow_twice ["self"] (sp_Ring_grow_twice T) := by
  refine T.F_Ring_grow_twice.ok sc_Ring_grow_twice (fun vs H Q E h => by unfold sp_Ring_grow_twice at h; split at h <;> first | rfl | exact h.elim) fun A outer s H vs Q E hr h => ?_
  refine ⟨_, (pss_cons (ps_set (i := 1) sc_Ring_grow_twice.nd rfl (Or.inl rfl) (pe_callTy (Y.listK (K := K) rfl) (by rfl) T.no_list (by decide +kernel) (pa_cons (pe_meth0 (pv 0) T.cl_Ring T.me_Ring_all_items (ok_Ring_all_items T) (hr.mono (by decide)) T.b_Ring_all_items .nil (Y.passD rfl rfl rfl rfl)) pa_nil)))
  (pss_cons (Y.ps_f T.cl_Ring T.na_Ring_places (pv 0) (pe_op (Y.op_addK (K := K) rfl) (pv 1) (pe_op Y.op_mul (Y.pe_ls (pa_cons pe_non pa_nil)) (pe_callB (Y.lenK (K := K) rfl) (by rfl) T.no_len (by decide +kernel) (pa_cons (pv 1) pa_nil)))))
  (pss_one (Y.ps_f T.cl_Ring T.na_Ring_start (pv 0) pe_int)))), ?_⟩
  unfold sp_Ring_grow_twice at h
  split at h
  next p =>
    obtain ⟨l, own, cap, hr0, hc, hb, ht, h⟩ := h
    obtain ⟨dx, st, pl, ⟨h1, h2⟩, hh, e⟩ := id hr0
    walk_at "go"
    refine ⟨_, _, _, hr0, ht, fun r H1 c1 n1 l1 => ?_⟩
    have f1 := hh.pos
    walk_at "go"
    rename_i l1' G1 m1 l2' G2 m2 l3' G3 m3 l4' G4 m4 G5 m5 G6 m6
    refine h l4' G6 (by walk_at "chg") (by walk_at "fr") ⟨dx, 0, own ++ List.replicate own.length .non, ⟨by walk_at "lk", by rw [← rep1]; walk_at "lk"⟩, held_fresh (by omega) (by omega), by simp; omega⟩
  next => exact h.elim
def sp_Ring_check_put (T : Env w K mg base) : Sp := fun vs H Q E => match vs with
  | [.ref p, v] => ∃ l own cap, RingAt T.C_Ring H p l own cap ∧ Tabs T.tabs H ∧ ((v = .non ∨ 256 ≤ own.length) → E (.ref T.C_RingError) none H) ∧
      (v ≠ .non → own.length < 256 → ∀ l' cap' H', Chg T.tabs (In [p]) H H' → (l' = l ∨ H l' = none) → RingAt T.C_Ring H' p l' own cap' → own.length < cap' → cap' = (if own.length = cap then 2 * cap else cap) → Q .non H')
  | _ => False
theorem ok_Ring_check_put (T : Env w K mg base) : FnOk prg w K mg base (L2.CX prg w) 32 T.f_Ring_check_put T.fd_Ring_check_put ["self", "item"] (sp_Ring_check_put T) := by
  refine T.F_Ring_check_put.ok sc_Ring_check_put (fun vs H Q E h => by unfold sp_Ring_check_put at h; split at h <;> first | rfl | exact h.elim) fun A outer s H vs Q E hr h => ?_
  refine ⟨_, (pss_cons (ps_if (PW.pt (pw_or (pt_cmpR Y.op_isN (pv 1) pe_non (nomark _)) (pw_or1 (pt_cmpR Y.op_ge (Y.pe_f T.cl_Ring T.na_Ring_many (pv 0)) (pe_glob rfl T.mg_MOST_ROOM T.rv_MOST_ROOM) (nomark _))))) (pss_one (ps_raise rfl (takes_of rfl rfl rfl rfl) (pmk_own PySem.F.excBase_ValueError T.x_RingError T.mg_RingError T.k_RingError (raises_own T.bb_RingError T.tt_RingError) rfl))) pss_nil)
  (pss_one (ps_if (pt_cmpR (Y.op_eqK (K := K) rfl hr.units) (Y.pe_f T.cl_Ring T.na_Ring_many (pv 0)) (pe_callB (Y.lenK (K := K) rfl) (by rfl) T.no_len (by decide +kernel) (pa_cons (Y.pe_f T.cl_Ring T.na_Ring_places (pv 0)) pa_nil)) (nomark _)) (pss_one (ps_expr (pe_meth0 (pv 0) T.cl_Ring T.me_Ring_grow_twice (ok_Ring_grow_twice T) (hr.mono (by decide)) T.b_Ring_grow_twice .nil (Y.passD rfl rfl rfl rfl)))) pss_nil))), ?_⟩
  unfold sp_Ring_check_put at h
  split at h
  next p v =>
    obtain ⟨l, own, cap, hr0, ht, hE, h⟩ := h
    obtain ⟨dx, st, pl, ⟨h1, h2⟩, hh, e⟩ := id hr0
    have rest : v ≠ V.non → own.length < 256 → ∀ G, (own.length = cap → ∀ l' H', Chg T.tabs (In [p]) H H' → H l' = none → RingAt T.C_Ring H' p l' own (2 * cap) → G H') → (own.length ≠ cap → G H) → (G = Q .non) → True := fun _ _ _ _ _ _ => trivial
    have fl := hh.fits
    have f1 := hh.pos
    have f2 := hh.big
    walk_at "go"
    walk_at "if"
    · intro c
      exact hE (.inl c)
    · intro c
      walk_at "go"
      walk_at "if"
      · intro c2
        exact hE (.inr (by omega))
      · intro c2
        walk_at "go"
        walk_at "if"
        · intro c3
          walk_at "go"
          refine ⟨_, _, _, hr0, by omega, by omega, ht, fun l' H' a1 a2 a3 => ?_⟩
          exact h c (by omega) _ _ _ a1 (.inr a2) a3 (by omega) (by rw [if_pos (by omega)])
        · intro c3
          walk_at "go"
          exact h c (by omega) l cap H (.refl _) (.inl rfl) hr0 (by omega) (by rw [if_neg (by omega)])
  next => exact h.elim
end
end Z


set_option Elab.async false
set_option linter.all false
set_option maxRecDepth 100000
set_option maxHeartbeats 4000000
set_option pp.maxSteps 700
namespace Z
open PySem PySem.Spec L2 LamX Y
local macro_rules | `(tactic| walk_at "lk") => `(tactic| first
  | assumption
  | exact Nw.at (by assumption)
  | exact Wr.at (by assumption)
  | exact Mkd.at (by assumption)
  | exact Nw.look (by assumption) (by walk_at "lk")
  | exact Mkd.look (by assumption) (by walk_at "lk")
  | exact Wr.look (by assumption) (by walk_at "lk") (by walk_at "ne")
  | exact Chg.look (by assumption) (by walk_at "lk") (by walk_at "nin") rfl
  | exact Tp.same (by assumption) _ _ (by walk_at "lk")
  | exact Grows.look (by assumption) (by walk_at "lk") rfl
  | fail)
local macro_rules | `(tactic| walk_at "ne") => `(tactic| first
  | assumption
  | exact Ne.symm (by assumption)
  | exact Nw.ne (by assumption) (by walk_at "lk")
  | exact Ne.symm (Nw.ne (by assumption) (by walk_at "lk"))
  | exact ne_fr (by assumption) (by walk_at "lk")
  | exact Ne.symm (ne_fr (by assumption) (by walk_at "lk"))
  | exact ne_fr (Mkd.nx (by assumption)) (by walk_at "lk")
  | exact Ne.symm (ne_fr (Mkd.nx (by assumption)) (by walk_at "lk"))
  | exact ne_kdn (by assumption) (by walk_at "lk") rfl
  | exact Ne.symm (ne_kdn (by assumption) (by walk_at "lk") rfl)
  | fail)
local macro_rules | `(tactic| walk_at "nin") => `(tactic| first
  | exact nin_nil
  | exact id
  | exact nin_cons (by walk_at "ne") (by walk_at "nin")
  | fail)
local macro_rules | `(tactic| walk_at "fr") => `(tactic| first
  | assumption
  | exact Nw.new (by assumption)
  | exact Mkd.nx (by assumption)
  | exact Nw.dom (by assumption) (by walk_at "fr")
  | exact Wr.dom (by assumption) (by walk_at "fr")
  | exact Mkd.dom (by assumption) (by walk_at "fr")
  | exact Chg.dom (by assumption) _ (by walk_at "fr")
  | exact Tp.dom (by assumption) _ (by walk_at "fr")
  | exact Grows.dom (by assumption) _ (by walk_at "fr")
  | fail)
local macro_rules | `(tactic| walk_at "mem") => `(tactic| first
  | assumption
  | exact List.mem_cons_self
  | (apply List.mem_cons_of_mem; walk_at "mem")
  | fail)
local macro_rules | `(tactic| walk_at "in") => `(tactic| first
  | assumption
  | (apply Or.inl; walk_at "mem")
  | (apply Or.inr; walk_at "fr")
  | fail)
local macro_rules | `(tactic| walk_at "sub") => `(tactic| first
  | exact sub_nil0
  | exact sub_nil
  | exact sub_cons (by walk_at "in") (by walk_at "sub")
  | fail)
local macro_rules | `(tactic| walk_at "chg") => `(tactic| first
  | assumption
  | exact Chg.refl _
  | exact Chg.nw (by assumption) (by walk_at "chg")
  | exact Chg.mkd (by assumption) (by walk_at "chg")
  | exact Chg.tp (by assumption) (by walk_at "chg")
  | exact Chg.gr (by assumption) (by walk_at "chg")
  | exact Chg.wr (by assumption) (by walk_at "chg") (by walk_at "in")
  | exact Chg.ch (by assumption) (by walk_at "chg") (by walk_at "sub")
  | fail)
local macro_rules | `(tactic| walk_at "sq") => `(tactic| first
  | assumption
  | exact SqL.of (by walk_at "lk")
  | exact Chg.seqL (by assumption) (by walk_at "sq") (by walk_at "nin")
  | exact SqL.nw (by assumption) (by walk_at "sq")
  | exact SqL.tp (by assumption) (by walk_at "sq")
  | exact SqL.mkd (by assumption) (by walk_at "sq")
  | exact SqL.wr (by assumption) (by walk_at "sq") (by walk_at "ne")
  | fail)
local macro_rules | `(tactic| walk_at "sqt") => `(tactic| first
  | assumption
  | exact SqT.of (by walk_at "lk")
  | exact Tp.sq (by assumption)
  | exact SqT.nw (by assumption) (by walk_at "sqt")
  | exact SqT.tp (by assumption) (by walk_at "sqt")
  | exact SqT.mkd (by assumption) (by walk_at "sqt")
  | exact SqT.chg (by assumption) (by walk_at "sqt") (by walk_at "nin")
  | fail)
local macro_rules | `(tactic| walk_at "seq") => `(tactic| first
  | assumption
  | exact .inl (by walk_at "sq")
  | exact .inr (by walk_at "sqt")
  | exact SqA.keepN (T := Env.tabs (by assumption)) (by assumption) (by walk_at "chg")
  | fail)
local macro_rules | `(tactic| walk_at "go") => `(tactic| repeat first
  | refine ⟨_, rfl, ?_⟩
  | refine ⟨_, _, _, _, rfl, And.intro (by walk_at "lk") (And.intro rfl ?_)⟩
  | refine ⟨_, _, _, rfl, And.intro (by walk_at "lk") (And.intro (by walk_at "side") ?_)⟩
  | refine ⟨_, _, And.intro rfl (And.intro rfl ?_)⟩
  | refine ⟨_, _, And.intro rfl (And.intro (by walk_at "lk") ?_)⟩
  | refine ⟨_, _, _, And.intro rfl (And.intro (by walk_at "lk") ?_)⟩
  | refine ⟨_, And.intro (by walk_at "lk") (And.intro (by walk_at "side") ?_)⟩
  | refine ⟨_, _, And.intro (by walk_at "lk") (And.intro (by walk_at "side") ?_)⟩
  | refine ⟨_, _, And.intro (by walk_at "seq") (And.intro rfl ?_)⟩
  | refine ⟨_, And.intro (by walk_at "seq") ?_⟩
  | refine ⟨_, And.intro (by walk_at "lk") (And.intro (by walk_at "side") (And.intro (by walk_at "side") (And.intro (by walk_at "side") ?_)))⟩
  | refine .inl ⟨_, _, And.intro (by walk_at "lk") (And.intro (by walk_at "lk") (And.intro (by walk_at "side") ?_))⟩
  | refine .inr ⟨_, _, And.intro (by walk_at "sqt") (And.intro (by walk_at "sqt") (And.intro (by walk_at "side") ?_))⟩
  | refine .inl ⟨_, And.intro (by walk_at "sq") ?_⟩
  | refine .inr ⟨_, And.intro (by walk_at "sqt") ?_⟩
  | refine ⟨_, _, _, _, rfl, rfl, And.intro (by walk_at "lk") (And.intro rfl ?_)⟩
  | refine fun H' (n : Wr _ _ _ H') => ?_
  | refine fun p H' (n : Nw _ p _ H') => ?_
  | refine fun r H' (n : Tp _ _ r _ H') => ?_
  | refine fun x dx H' (n : Mkd _ _ x dx H') => ?_
  | refine .inl ⟨_, _, rfl, And.intro (by walk_at "sq") (fun p H' (n : Nw _ p _ H') => ?_)⟩
  | refine .inr ⟨_, _, rfl, And.intro (by walk_at "sqt") (fun r H' (n : Tp _ _ r _ H') => ?_)⟩
  | refine ⟨_, _, rfl, And.intro (by walk_at "sq") (fun p H' (n : Nw _ p _ H') => ?_)⟩
  | refine .inl (And.intro ⟨_, by walk_at "sq"⟩ ?_)
  | refine .inr (And.intro ⟨_, by walk_at "sqt"⟩ ?_)
  | refine ⟨_, _, rfl, And.intro (by walk_at "sqt") (And.intro rfl ?_)⟩
  | refine ⟨_, _, And.intro rfl ?_⟩
  | refine ⟨_, _, _, And.intro rfl ?_⟩
  | refine And.intro rfl ?_
  | (refine ite_t ?_ ?_; exact rfl)
  | (refine ite_f ?_ ?_; exact rfl)
  | refine And.intro (by walk_at "side") ?_)
local macro_rules | `(tactic| walk_at "side") => `(tactic| first
  | exact (rfl : _ = _)
  | decide
  | exact lt1000 rfl
  | with_reducible assumption
  | exact ⟨by omega, by omega⟩
  | exact .inl ⟨by omega, by omega⟩
  | exact .inr ⟨by omega, by omega⟩
  | omega
  | (apply le_line; omega)
  | (apply lt_line; omega)
  | (apply le_line; simp <;> omega)
  | (apply lt_line; simp <;> omega)
  | fail)
local macro_rules | `(tactic| walk_at "if") => `(tactic| first
  | refine ite_nd ?_ ?_
  | refine ite_d ?_ ?_
  | refine ite_eqt ?_ ?_
  | fail)
local macro_rules | `(tactic| walk_at "roll") => `(tactic| first
  | (refine And.intro (show Dice _ _ from ⟨_, _, _, by walk_at "lk"⟩) (And.intro (by walk_at "side") (And.intro (by walk_at "side") (fun r H' r0 r1 ro => ?_))); obtain ⟨a', b', c', w⟩ := ro)
  | fail)
local macro_rules | `(tactic| walk_at "run") => `(tactic| (walk_at "go"; repeat (walk_at "roll"; walk_at "go")))
local macro_rules | `(tactic| walk_at "dp") => `(tactic| first
  | exact Dp.non
  | exact Dp.int _
  | exact Dp.str _
  | exact Dp.bl _
  | exact DpAll.nil
  | exact DpAll.cons (by walk_at "dp") (by walk_at "dp")
  | exact Dp.tup (by walk_at "sqt") (by walk_at "dp")
  | exact Dp.lst (by walk_at "sq") (by walk_at "dp")
  | fail)

section
variable {w : World} {K : PySem.W.Frag} {mg : Str → Option Value} {base : Heap}
/-- room after one more -/
def capN (n cap : Nat) : Nat := if n = cap then 2 * cap else cap
theorem RawAt.n {C : Addr} {H : Hp} {p dx l : Addr} {st n m : Int} {pl : List V} (r : RawAt C H p dx l st n pl) (e : n = m) : RawAt C H p dx l st m pl := e ▸ r
def PutOk (T : Env w K mg base) (p : Addr) (v : V) (own' : List V → List V) (H : Hp) (Q : VK) (E : XK) : Prop := ∃ l own cap, RingAt T.C_Ring H p l own cap ∧ Tabs T.tabs H ∧ ((v = .non ∨ 256 ≤ own.length) → E (.ref T.C_RingError) none H) ∧
      (v ≠ .non → own.length < 256 → ∀ l' H', Chg T.tabs (In [p, l]) H H' → (l' = l ∨ H l' = none) → RingAt T.C_Ring H' p l' (own' own) (capN own.length cap) → Q .non H')
def sp_Ring_put_last (T : Env w K mg base) : Sp := fun vs H Q E => match vs with
  | [.ref p, v] => PutOk T p v (fun own => own ++ [v]) H Q E
  | _ => False
def sp_Ring_put_first (T : Env w K mg base) : Sp := fun vs H Q E => match vs with
  | [.ref p, v] => PutOk T p v (fun own => v :: own) H Q E
  | _ => False
theorem ok_Ring_put_last (T : Env w K mg base) : FnOk prg w K mg base (L2.CX prg w) 40 T.f_Ring_put_last T.fd_Ring_put_last ["self", "item"] (sp_Ring_put_last T) := by
  refine T.F_Ring_put_last.ok sc_Ring_put_last (fun vs H Q E h => by unfold sp_Ring_put_last at h; split at h <;> first | rfl | exact h.elim) fun A outer s H vs Q E hr h => ?_
  refine ⟨_, (pss_cons (ps_expr (pe_meth (pv 0) T.cl_Ring T.me_Ring_check_put (ok_Ring_check_put T) (hr.mono (by decide)) T.b_Ring_check_put .nil (Y.passD rfl rfl rfl rfl) (pa_cons (pv 1) pa_nil)))
  (pss_cons (ps_asg (pv 1) (pg_sub (Y.pe_f T.cl_Ring T.na_Ring_places (pv 0)) (pe_meth (pv 0) T.cl_Ring T.me_Ring_spot_of (ok_Ring_spot_of T) (hr.mono (by decide)) T.b_Ring_spot_of .nil (Y.passD rfl rfl rfl rfl) (pa_cons (Y.pe_f T.cl_Ring T.na_Ring_many (pv 0)) pa_nil)) Y.set_lst))
  (pss_one (Y.ps_fa T.cl_Ring T.na_Ring_many in_add (pv 0) pe_int)))), ?_⟩
  unfold sp_Ring_put_last at h
  split at h
  next p v =>
    obtain ⟨l, own, cap, hr0, ht, hE, h⟩ := h
    walk_at "go"
    obtain ⟨dx0, st0, pl0, ⟨h1, h2⟩, -, -⟩ := id hr0
    walk_at "go"
    refine ⟨_, _, _, hr0, ht, hE, fun e1 e2 l' cap' H1 c1 e3 hr1 e4 e5 => ?_⟩
    obtain ⟨dx, st, pl, ⟨h1, h2⟩, hh, e⟩ := id hr1
    have f1 := hh.pos
    walk_at "go"
    refine ⟨_, _, _, _, _, ⟨h1, h2⟩, hh.pos, ?_⟩
    refine ⟨_, _, _, _, rfl, rfl, by walk_at "lk", ixN_nat (Int.emod_nonneg _ (by omega)) (Int.emod_lt_of_pos _ (by omega)), ?_⟩
    walk_at "go"
    rename_i H2 n2 H3 n3
    have i1 : l' ∈ [p, l] ∨ H l' = none := by rcases e3 with rfl | e3 <;> simp_all
    have q : RawAt T.C_Ring H3 p dx l' st (own.length + 1) (pl.set ((st + (own.length : Int)) % (pl.length : Int)).toNat v) := ⟨by walk_at "lk", by walk_at "lk"⟩
    have q2 : Chg T.tabs (In [p, l]) H H3 := by walk_at "chg"
    exact h e1 e2 l' H3 q2 e3 ⟨dx, st, _, q.n (by simp), held_last hh (by omega), by simp [e, e5, capN]⟩
  next => exact h.elim
theorem ok_Ring_put_first (T : Env w K mg base) : FnOk prg w K mg base (L2.CX prg w) 40 T.f_Ring_put_first T.fd_Ring_put_first ["self", "item"] (sp_Ring_put_first T) := by
  refine T.F_Ring_put_first.ok sc_Ring_put_first (fun vs H Q E h => by unfold sp_Ring_put_first at h; split at h <;> first | rfl | exact h.elim) fun A outer s H vs Q E hr h => ?_
  refine ⟨_, (pss_cons (ps_expr (pe_meth (pv 0) T.cl_Ring T.me_Ring_check_put (ok_Ring_check_put T) (hr.mono (by decide)) T.b_Ring_check_put .nil (Y.passD rfl rfl rfl rfl) (pa_cons (pv 1) pa_nil)))
  (pss_cons (Y.ps_f T.cl_Ring T.na_Ring_start (pv 0) (pe_op Y.op_mod (pe_op Y.op_sub (Y.pe_f T.cl_Ring T.na_Ring_start (pv 0)) pe_int) (pe_callB (Y.lenK (K := K) rfl) (by rfl) T.no_len (by decide +kernel) (pa_cons (Y.pe_f T.cl_Ring T.na_Ring_places (pv 0)) pa_nil))))
  (pss_cons (ps_asg (pv 1) (pg_sub (Y.pe_f T.cl_Ring T.na_Ring_places (pv 0)) (Y.pe_f T.cl_Ring T.na_Ring_start (pv 0)) Y.set_lst))
  (pss_one (Y.ps_fa T.cl_Ring T.na_Ring_many in_add (pv 0) pe_int))))), ?_⟩
  unfold sp_Ring_put_first at h
  split at h
  next p v =>
    obtain ⟨l, own, cap, hr0, ht, hE, h⟩ := h
    walk_at "go"
    obtain ⟨dx0, st0, pl0, ⟨h1, h2⟩, -, -⟩ := id hr0
    walk_at "go"
    refine ⟨_, _, _, hr0, ht, hE, fun e1 e2 l' cap' H1 c1 e3 hr1 e4 e5 => ?_⟩
    obtain ⟨dx, st, pl, ⟨h1, h2⟩, hh, e⟩ := id hr1
    have f1 := hh.pos
    walk_at "go"
    refine ⟨_, _, _, _, rfl, rfl, by walk_at "lk", ixN_nat (Int.emod_nonneg _ (by omega)) (Int.emod_lt_of_pos _ (by omega)), ?_⟩
    walk_at "go"
    rename_i H2 n2 H3 n3 H4 n4
    have i1 : l' ∈ [p, l] ∨ H l' = none := by rcases e3 with rfl | e3 <;> simp_all
    have q : RawAt T.C_Ring H4 p dx l' ((st - 1) % (pl.length : Int)) (own.length + 1) (pl.set ((st - 1) % (pl.length : Int)).toNat v) := ⟨by walk_at "lk", by walk_at "lk"⟩
    have q2 : Chg T.tabs (In [p, l]) H H4 := by walk_at "chg"
    exact h e1 e2 l' H4 q2 e3 ⟨dx, _, _, q.n (by simp), held_first hh (by omega), by simp [e, e5, capN]⟩
  next => exact h.elim
def TakeOk (T : Env w K mg base) (p : Addr) (f : List V → Option (V × List V)) (H : Hp) (Q : VK) (E : XK) : Prop := ∃ l own cap, RingAt T.C_Ring H p l own cap ∧ (f own = none → E (.ref T.C_RingError) none H) ∧
      (∀ v own', f own = some (v, own') → ∀ H', Chg T.tabs (In [p, l]) H H' → RingAt T.C_Ring H' p l own' cap → Q v H')
def uncons : List V → Option (V × List V)
  | [] => none
  | x :: xs => some (x, xs)
def unsnoc (xs : List V) : Option (V × List V) := xs.getLast?.map fun x => (x, xs.dropLast)
theorem unsnoc_app {xs : List V} {x : V} : unsnoc (xs ++ [x]) = some (x, xs) := by simp [unsnoc]
def sp_Ring_take_first (T : Env w K mg base) : Sp := fun vs H Q E => match vs with
  | [.ref p] => TakeOk T p uncons H Q E
  | _ => False
def sp_Ring_take_last (T : Env w K mg base) : Sp := fun vs H Q E => match vs with
  | [.ref p] => TakeOk T p unsnoc H Q E
  | _ => False
theorem ok_Ring_take_first (T : Env w K mg base) : FnOk prg w K mg base (L2.CX prg w) 16 T.f_Ring_take_first T.fd_Ring_take_first ["self"] (sp_Ring_take_first T) := by
  refine T.F_Ring_take_first.ok sc_Ring_take_first (fun vs H Q E h => by unfold sp_Ring_take_first at h; split at h <;> first | rfl | exact h.elim) fun A outer s H vs Q E hr h => ?_
  refine ⟨_, (pss_cons (ps_expr (pe_meth0 (pv 0) T.cl_Ring T.me_Ring_check_some (ok_Ring_check_some T) (hr.mono (by decide)) T.b_Ring_check_some .nil (Y.passD rfl rfl rfl rfl)))
  (pss_cons (ps_set (i := 1) sc_Ring_take_first.nd rfl (Or.inl rfl) (pe_ix (Y.ixK (K := K) rfl) (Y.pe_f T.cl_Ring T.na_Ring_places (pv 0)) (Y.pe_f T.cl_Ring T.na_Ring_start (pv 0)) (fun _ _ => rfl)))
  (pss_cons (ps_asg pe_non (pg_sub (Y.pe_f T.cl_Ring T.na_Ring_places (pv 0)) (Y.pe_f T.cl_Ring T.na_Ring_start (pv 0)) Y.set_lst))
  (pss_cons (Y.ps_f T.cl_Ring T.na_Ring_start (pv 0) (pe_meth (pv 0) T.cl_Ring T.me_Ring_spot_of (ok_Ring_spot_of T) (hr.mono (by decide)) T.b_Ring_spot_of .nil (Y.passD rfl rfl rfl rfl) (pa_cons pe_int pa_nil)))
  (pss_cons (Y.ps_fa T.cl_Ring T.na_Ring_many in_sub (pv 0) pe_int)
  (pss_one (ps_ret (pv 1)))))))), ?_⟩
  unfold sp_Ring_take_first at h
  split at h
  next p =>
    obtain ⟨l, own, cap, hr0, hE, h⟩ := h
    obtain ⟨dx, st, pl, ⟨h1, h2⟩, hh, e⟩ := id hr0
    walk_at "go"
    refine ⟨_, _, _, _, _, ⟨h1, h2⟩, fun z => hE ?_, fun z => ?_⟩
    · cases own <;> simp_all [uncons]; omega
    cases own with
    | nil => simp at z
    | cons x own =>
      have f1 := hh.pos; have f2 := hh.st0; have f3 := hh.st1
      walk_at "go"
      refine ⟨_, _, by walk_at "seq", held_head hh, ?_⟩
      walk_at "go"
      refine ⟨_, _, _, _, rfl, rfl, by walk_at "lk", ixN_nat (by omega) (by omega), ?_⟩
      walk_at "go"
      refine ⟨_, _, _, _, _, ⟨by walk_at "lk", by walk_at "lk"⟩, by simp; omega, ?_⟩
      walk_at "go"
      rename_i H2 n2 H3 n3 H4 n4
      refine h _ _ rfl H4 (by walk_at "chg") ⟨dx, (st + 1) % pl.length, pl.set st.toNat .non, ?_, held_tail (v := .non) hh, by simp [e]⟩
      have q : RawAt T.C_Ring H4 p dx l ((st + 1) % ((pl.set st.toNat .non).length : Nat)) (((x :: own).length : Nat) - 1) (pl.set st.toNat .non) := ⟨by walk_at "lk", by walk_at "lk"⟩
      rw [List.length_set] at q
      exact q.n (by simp)
  next => exact h.elim
theorem ok_Ring_take_last (T : Env w K mg base) : FnOk prg w K mg base (L2.CX prg w) 16 T.f_Ring_take_last T.fd_Ring_take_last ["self"] (sp_Ring_take_last T) := by
  refine T.F_Ring_take_last.ok sc_Ring_take_last (fun vs H Q E h => by unfold sp_Ring_take_last at h; split at h <;> first | rfl | exact h.elim) fun A outer s H vs Q E hr h => ?_
  refine ⟨_, (pss_cons (ps_expr (pe_meth0 (pv 0) T.cl_Ring T.me_Ring_check_some (ok_Ring_check_some T) (hr.mono (by decide)) T.b_Ring_check_some .nil (Y.passD rfl rfl rfl rfl)))
  (pss_cons (Y.ps_fa T.cl_Ring T.na_Ring_many in_sub (pv 0) pe_int)
  (pss_cons (ps_set (i := 1) sc_Ring_take_last.nd rfl (Or.inl rfl) (pe_meth (pv 0) T.cl_Ring T.me_Ring_spot_of (ok_Ring_spot_of T) (hr.mono (by decide)) T.b_Ring_spot_of .nil (Y.passD rfl rfl rfl rfl) (pa_cons (Y.pe_f T.cl_Ring T.na_Ring_many (pv 0)) pa_nil)))
  (pss_cons (ps_set (i := 2) sc_Ring_take_last.nd rfl (Or.inl rfl) (pe_ix (Y.ixK (K := K) rfl) (Y.pe_f T.cl_Ring T.na_Ring_places (pv 0)) (pv 1) (fun _ _ => rfl)))
  (pss_cons (ps_asg pe_non (pg_sub (Y.pe_f T.cl_Ring T.na_Ring_places (pv 0)) (pv 1) Y.set_lst))
  (pss_one (ps_ret (pv 2)))))))), ?_⟩
  unfold sp_Ring_take_last at h
  split at h
  next p =>
    obtain ⟨l, own, cap, hr0, hE, h⟩ := h
    obtain ⟨dx, st, pl, ⟨h1, h2⟩, hh, e⟩ := id hr0
    walk_at "go"
    refine ⟨_, _, _, _, _, ⟨h1, h2⟩, fun z => hE ?_, fun z => ?_⟩
    · have : own = [] := by cases own <;> simp_all; omega
      rw [this]; rfl
    rcases List.eq_nil_or_concat own with e0 | ⟨own1, x, e0⟩
    · rw [e0] at z; simp at z
    · rw [List.concat_eq_append] at e0
      subst e0
      have f1 := hh.pos; have f2 := hh.st0; have f3 := hh.st1
      walk_at "go"
      refine ⟨_, _, _, _, _, ⟨by walk_at "lk", by walk_at "lk"⟩, by omega, ?_⟩
      have en : (((own1 ++ [x]).length : Nat) : Int) - 1 = own1.length := by simp
      have hg : atI pl ((st + ((((own1 ++ [x]).length : Nat) : Int) - 1)) % (pl.length : Int)) = some x := by rw [en, held_get hh (by simp)]; simp
      walk_at "go"
      refine ⟨_, _, by walk_at "seq", hg, ?_⟩
      walk_at "go"
      refine ⟨_, _, _, _, rfl, rfl, by walk_at "lk", ixN_nat (Int.emod_nonneg _ (by omega)) (Int.emod_lt_of_pos _ (by omega)), ?_⟩
      walk_at "go"
      rename_i H2 n2 H3 n3
      refine h _ _ unsnoc_app H3 (by walk_at "chg") ⟨dx, st, pl.set ((st + (own1.length : Int)) % (pl.length : Int)).toNat .non, ?_, held_init (v := .non) hh, by simp [e]⟩
      have q : RawAt T.C_Ring H3 p dx l st ((((own1 ++ [x]).length : Nat) : Int) - 1) (pl.set ((st + ((((own1 ++ [x]).length : Nat) : Int) - 1)) % (pl.length : Int)).toNat .non) := ⟨by walk_at "lk", by walk_at "lk"⟩
      rw [en] at q
      exact q
  next => exact h.elim
end
end Z


set_option Elab.async false
set_option linter.all false
set_option maxRecDepth 100000
set_option maxHeartbeats 4000000
set_option pp.maxSteps 700
namespace Z
open PySem PySem.Spec L2 LamX Y
local macro_rules | `(tactic| walk_at "lk") => `(tactic| first
  | assumption
  | exact Nw.at (by assumption)
  | exact Wr.at (by assumption)
  | exact Mkd.at (by assumption)
  | exact Nw.look (by assumption) (by walk_at "lk")
  | exact Mkd.look (by assumption) (by walk_at "lk")
  | exact Wr.look (by assumption) (by walk_at "lk") (by walk_at "ne")
  | exact Chg.look (by assumption) (by walk_at "lk") (by walk_at "nin") rfl
  | exact Tp.same (by assumption) _ _ (by walk_at "lk")
  | exact Grows.look (by assumption) (by walk_at "lk") rfl
  | fail)
local macro_rules | `(tactic| walk_at "ne") => `(tactic| first
  | assumption
  | exact Ne.symm (by assumption)
  | exact Nw.ne (by assumption) (by walk_at "lk")
  | exact Ne.symm (Nw.ne (by assumption) (by walk_at "lk"))
  | exact ne_fr (by assumption) (by walk_at "lk")
  | exact Ne.symm (ne_fr (by assumption) (by walk_at "lk"))
  | exact ne_fr (Mkd.nx (by assumption)) (by walk_at "lk")
  | exact Ne.symm (ne_fr (Mkd.nx (by assumption)) (by walk_at "lk"))
  | exact ne_kdn (by assumption) (by walk_at "lk") rfl
  | exact Ne.symm (ne_kdn (by assumption) (by walk_at "lk") rfl)
  | fail)
local macro_rules | `(tactic| walk_at "nin") => `(tactic| first
  | exact nin_nil
  | exact id
  | exact nin_cons (by walk_at "ne") (by walk_at "nin")
  | fail)
local macro_rules | `(tactic| walk_at "fr") => `(tactic| first
  | assumption
  | exact Nw.new (by assumption)
  | exact Mkd.nx (by assumption)
  | exact Nw.dom (by assumption) (by walk_at "fr")
  | exact Wr.dom (by assumption) (by walk_at "fr")
  | exact Mkd.dom (by assumption) (by walk_at "fr")
  | exact Chg.dom (by assumption) _ (by walk_at "fr")
  | exact Tp.dom (by assumption) _ (by walk_at "fr")
  | exact Grows.dom (by assumption) _ (by walk_at "fr")
  | fail)
local macro_rules | `(tactic| walk_at "mem") => `(tactic| first
  | assumption
  | exact List.mem_cons_self
  | (apply List.mem_cons_of_mem; walk_at "mem")
  | fail)
local macro_rules | `(tactic| walk_at "in") => `(tactic| first
  | assumption
  | (apply Or.inl; walk_at "mem")
  | (apply Or.inr; walk_at "fr")
  | fail)
local macro_rules | `(tactic| walk_at "sub") => `(tactic| first
  | exact sub_nil0
  | exact sub_nil
  | exact sub_cons (by walk_at "in") (by walk_at "sub")
  | fail)
local macro_rules | `(tactic| walk_at "chg") => `(tactic| first
  | assumption
  | exact Chg.refl _
  | exact Chg.nw (by assumption) (by walk_at "chg")
  | exact Chg.mkd (by assumption) (by walk_at "chg")
  | exact Chg.tp (by assumption) (by walk_at "chg")
  | exact Chg.gr (by assumption) (by walk_at "chg")
  | exact Chg.wr (by assumption) (by walk_at "chg") (by walk_at "in")
  | exact Chg.ch (by assumption) (by walk_at "chg") (by walk_at "sub")
  | fail)
local macro_rules | `(tactic| walk_at "sq") => `(tactic| first
  | assumption
  | exact SqL.of (by walk_at "lk")
  | exact Chg.seqL (by assumption) (by walk_at "sq") (by walk_at "nin")
  | exact SqL.nw (by assumption) (by walk_at "sq")
  | exact SqL.tp (by assumption) (by walk_at "sq")
  | exact SqL.mkd (by assumption) (by walk_at "sq")
  | exact SqL.wr (by assumption) (by walk_at "sq") (by walk_at "ne")
  | fail)
local macro_rules | `(tactic| walk_at "sqt") => `(tactic| first
  | assumption
  | exact SqT.of (by walk_at "lk")
  | exact Tp.sq (by assumption)
  | exact SqT.nw (by assumption) (by walk_at "sqt")
  | exact SqT.tp (by assumption) (by walk_at "sqt")
  | exact SqT.mkd (by assumption) (by walk_at "sqt")
  | exact SqT.chg (by assumption) (by walk_at "sqt") (by walk_at "nin")
  | fail)
local macro_rules | `(tactic| walk_at "seq") => `(tactic| first
  | assumption
  | exact .inl (by walk_at "sq")
  | exact .inr (by walk_at "sqt")
  | exact SqA.keepN (T := Env.tabs (by assumption)) (by assumption) (by walk_at "chg")
  | fail)
local macro_rules | `(tactic| walk_at "go") => `(tactic| repeat first
  | refine ⟨_, rfl, ?_⟩
  | refine ⟨_, _, _, _, rfl, And.intro (by walk_at "lk") (And.intro rfl ?_)⟩
  | refine ⟨_, _, _, rfl, And.intro (by walk_at "lk") (And.intro (by walk_at "side") ?_)⟩
  | refine ⟨_, _, And.intro rfl (And.intro rfl ?_)⟩
  | refine ⟨_, _, And.intro rfl (And.intro (by walk_at "lk") ?_)⟩
  | refine ⟨_, _, _, And.intro rfl (And.intro (by walk_at "lk") ?_)⟩
  | refine ⟨_, And.intro (by walk_at "lk") (And.intro (by walk_at "side") ?_)⟩
  | refine ⟨_, _, And.intro (by walk_at "lk") (And.intro (by walk_at "side") ?_)⟩
  | refine ⟨_, _, And.intro (by walk_at "seq") (And.intro rfl ?_)⟩
  | refine ⟨_, And.intro (by walk_at "seq") ?_⟩
  | refine ⟨_, And.intro (by walk_at "lk") (And.intro (by walk_at "side") (And.intro (by walk_at "side") (And.intro (by walk_at "side") ?_)))⟩
  | refine .inl ⟨_, _, And.intro (by walk_at "lk") (And.intro (by walk_at "lk") (And.intro (by walk_at "side") ?_))⟩
  | refine .inr ⟨_, _, And.intro (by walk_at "sqt") (And.intro (by walk_at "sqt") (And.intro (by walk_at "side") ?_))⟩
  | refine .inl ⟨_, And.intro (by walk_at "sq") ?_⟩
  | refine .inr ⟨_, And.intro (by walk_at "sqt") ?_⟩
  | refine ⟨_, _, _, _, rfl, rfl, And.intro (by walk_at "lk") (And.intro rfl ?_)⟩
  | refine fun H' (n : Wr _ _ _ H') => ?_
  | refine fun p H' (n : Nw _ p _ H') => ?_
  | refine fun r H' (n : Tp _ _ r _ H') => ?_
  | refine fun x dx H' (n : Mkd _ _ x dx H') => ?_
  | refine .inl ⟨_, _, rfl, And.intro (by walk_at "sq") (fun p H' (n : Nw _ p _ H') => ?_)⟩
  | refine .inr ⟨_, _, rfl, And.intro (by walk_at "sqt") (fun r H' (n : Tp _ _ r _ H') => ?_)⟩
  | refine ⟨_, _, rfl, And.intro (by walk_at "sq") (fun p H' (n : Nw _ p _ H') => ?_)⟩
  | refine .inl (And.intro ⟨_, by walk_at "sq"⟩ ?_)
  | refine .inr (And.intro ⟨_, by walk_at "sqt"⟩ ?_)
  | refine ⟨_, _, rfl, And.intro (by walk_at "sqt") (And.intro rfl ?_)⟩
  | refine ⟨_, _, And.intro rfl ?_⟩
  | refine ⟨_, _, _, And.intro rfl ?_⟩
  | refine And.intro rfl ?_
  | (refine ite_t ?_ ?_; exact rfl)
  | (refine ite_f ?_ ?_; exact rfl)
  | refine And.intro (by walk_at "side") ?_)
local macro_rules | `(tactic| walk_at "side") => `(tactic| first
  | exact (rfl : _ = _)
  | decide
  | exact lt1000 rfl
  | with_reducible assumption
  | exact ⟨by omega, by omega⟩
  | exact .inl ⟨by omega, by omega⟩
  | exact .inr ⟨by omega, by omega⟩
  | omega
  | (apply le_line; omega)
  | (apply lt_line; omega)
  | (apply le_line; simp <;> omega)
  | (apply lt_line; simp <;> omega)
  | fail)
local macro_rules | `(tactic| walk_at "if") => `(tactic| first
  | refine ite_nd ?_ ?_
  | refine ite_d ?_ ?_
  | refine ite_eqt ?_ ?_
  | fail)
local macro_rules | `(tactic| walk_at "roll") => `(tactic| first
  | (refine And.intro (show Dice _ _ from ⟨_, _, _, by walk_at "lk"⟩) (And.intro (by walk_at "side") (And.intro (by walk_at "side") (fun r H' r0 r1 ro => ?_))); obtain ⟨a', b', c', w⟩ := ro)
  | fail)
local macro_rules | `(tactic| walk_at "run") => `(tactic| (walk_at "go"; repeat (walk_at "roll"; walk_at "go")))
local macro_rules | `(tactic| walk_at "dp") => `(tactic| first
  | exact Dp.non
  | exact Dp.int _
  | exact Dp.str _
  | exact Dp.bl _
  | exact DpAll.nil
  | exact DpAll.cons (by walk_at "dp") (by walk_at "dp")
  | exact Dp.tup (by walk_at "sqt") (by walk_at "dp")
  | exact Dp.lst (by walk_at "sq") (by walk_at "dp")
  | fail)

section
variable {w : World} {K : PySem.W.Frag} {mg : Str → Option Value} {base : Heap}
/-- the item at a place, from 0 on or from -1 back -/
def sp_Ring_item_at (T : Env w K mg base) : Sp := fun vs H Q E => match vs with
  | [.ref p, .int k] => ∃ l own cap, RingAt T.C_Ring H p l own cap ∧ (atI own k = none → E (.ref T.C_RingError) none H) ∧ (∀ v, atI own k = some v → Q v H)
  | _ => False
theorem atI_none {α : Type} {xs : List α} {k : Int} (h : ¬ (-(xs.length : Int) ≤ k ∧ k < xs.length)) : atI xs k = none := by
  unfold atI ixN
  split
  · rw [if_neg (by omega)]; rfl
  · rw [if_neg (by omega)]; rfl
theorem held_item {pl own : List V} {st k : Int} (h : Held pl st own) (k0 : -(own.length : Int) ≤ k) (k1 : k < own.length) :
    ∃ v, atI own k = some v ∧ atI pl ((st + (if 0 ≤ k then k else k + own.length)) % (pl.length : Int)) = some v := by
  by_cases c : 0 ≤ k
  · obtain ⟨i, rfl⟩ : ∃ i : Nat, k = i := ⟨k.toNat, by omega⟩
    rw [if_pos c, held_get h (by omega), atI_nat c k1, Int.toNat_natCast]
    exact ⟨own[i], List.getElem?_eq_getElem (by omega), List.getElem?_eq_getElem (by omega)⟩
  · obtain ⟨i, hi⟩ : ∃ i : Nat, k + own.length = i := ⟨(k + own.length).toNat, by omega⟩
    rw [if_neg c, hi, held_get h (by omega), atI_back (by omega) (by omega), hi, Int.toNat_natCast]
    exact ⟨own[i], List.getElem?_eq_getElem (by omega), List.getElem?_eq_getElem (by omega)⟩
theorem ok_Ring_item_at (T : Env w K mg base) : FnOk prg w K mg base (L2.CX prg w) 16 T.f_Ring_item_at T.fd_Ring_item_at ["self", "place"] (sp_Ring_item_at T) := by
  refine T.F_Ring_item_at.ok sc_Ring_item_at (fun vs H Q E h => by unfold sp_Ring_item_at at h; split at h <;> first | rfl | exact h.elim) fun A outer s H vs Q E hr h => ?_
  refine ⟨_, (pss_cons (ps_if (pt_not (pt_chain Y.op_le Y.op_lt (pe_op Y.op_sub pe_int (Y.pe_f T.cl_Ring T.na_Ring_many (pv 0))) (pv 1) (Y.pe_f T.cl_Ring T.na_Ring_many (pv 0)))) (pss_one (ps_raise rfl (takes_of rfl rfl rfl rfl) (pmk_own PySem.F.excBase_ValueError T.x_RingError T.mg_RingError T.k_RingError (raises_own T.bb_RingError T.tt_RingError) rfl))) pss_nil)
  (pss_one (ps_ret (pe_ix (Y.ixK (K := K) rfl) (Y.pe_f T.cl_Ring T.na_Ring_places (pv 0)) (pe_meth (pv 0) T.cl_Ring T.me_Ring_spot_of (ok_Ring_spot_of T) (hr.mono (by decide)) T.b_Ring_spot_of .nil (Y.passD rfl rfl rfl rfl) (pa_cons (pe_ifExp (pt_cmpR Y.op_ge (pv 1) pe_int (nomark _)) (pv 1) (pe_op (Y.op_addK (K := K) rfl) (pv 1) (Y.pe_f T.cl_Ring T.na_Ring_many (pv 0)))) pa_nil)) (fun _ _ => rfl))))), ?_⟩
  unfold sp_Ring_item_at at h
  split at h
  next p k =>
    obtain ⟨l, own, cap, hr0, hE, h⟩ := h
    obtain ⟨dx, st, pl, ⟨h1, h2⟩, hh, e⟩ := id hr0
    have f1 := hh.pos
    have hn : ¬ (-(own.length : Int) ≤ k ∧ k < own.length) → E (.ref T.C_RingError) none H := fun z => hE (atI_none z)
    walk_at "go"
    walk_at "if"
    · intro c1
      walk_at "go"
      walk_at "if"
      · intro c2
        exact hn (by simp at c2; omega)
      · intro c2
        have k1 : k < own.length := by simpa using c2
        have k0 : -(own.length : Int) ≤ k := by omega
        obtain ⟨v, e1, e2⟩ := held_item hh k0 k1
        walk_at "go"
        walk_at "if"
        · intro c3
          rw [if_pos c3] at e2
          walk_at "go"
          refine ⟨_, _, _, _, _, ⟨h1, h2⟩, hh.pos, ?_⟩
          exact ⟨_, _, .inl (.of h2), e2, h _ e1⟩
        · intro c3
          rw [if_neg c3] at e2
          walk_at "go"
          refine ⟨_, _, _, _, _, ⟨h1, h2⟩, hh.pos, ?_⟩
          exact ⟨_, _, .inl (.of h2), e2, h _ e1⟩
    · intro c1
      walk_at "go"
      exact hn (by omega)
  next => exact h.elim
def sp_Ring_room_left (T : Env w K mg base) : Sp := fun vs H Q E => match vs with
  | [.ref p] => ∃ l own cap, RingAt T.C_Ring H p l own cap ∧ Q (.int ((cap : Int) - own.length)) H
  | _ => False
theorem ok_Ring_room_left (T : Env w K mg base) : FnOk prg w K mg base (L2.CX prg w) 8 T.f_Ring_room_left T.fd_Ring_room_left ["self"] (sp_Ring_room_left T) := by
  refine T.F_Ring_room_left.ok sc_Ring_room_left (fun vs H Q E h => by unfold sp_Ring_room_left at h; split at h <;> first | rfl | exact h.elim) fun A outer s H vs Q E hr h => ?_
  refine ⟨_, (pss_one (ps_ret (pe_op Y.op_sub (pe_callB (Y.lenK (K := K) rfl) (by rfl) T.no_len (by decide +kernel) (pa_cons (Y.pe_f T.cl_Ring T.na_Ring_places (pv 0)) pa_nil)) (Y.pe_f T.cl_Ring T.na_Ring_many (pv 0))))), ?_⟩
  unfold sp_Ring_room_left at h
  split at h
  next p =>
    obtain ⟨l, own, cap, hr0, h⟩ := h
    obtain ⟨dx, st, pl, ⟨h1, h2⟩, hh, e⟩ := id hr0
    walk_at "go"
    rw [← e] at h
    exact h
  next => exact h.elim
/-- own, turned -/
def turn (own : List V) (k : Int) : List V := own.drop (k % own.length).toNat ++ own.take (k % own.length).toNat
def sp_Ring_turn_by (T : Env w K mg base) : Sp := fun vs H Q E => match vs with
  | [.ref p, .int k] => ∃ l own cap, RingAt T.C_Ring H p l own cap ∧ Tabs T.tabs H ∧ (own = [] → E (.ref T.C_RingError) none H) ∧
      (own ≠ [] → ∀ l' H', Chg T.tabs (In [p]) H H' → H l' = none → RingAt T.C_Ring H' p l' (turn own k) cap → (∃ dx, H' p = some (.ins T.C_Ring dx (fsR l' 0 own.length))) → Q .non H')
  | _ => False
theorem ok_Ring_turn_by (T : Env w K mg base) : FnOk prg w K mg base (L2.CX prg w) 24 T.f_Ring_turn_by T.fd_Ring_turn_by ["self", "steps"] (sp_Ring_turn_by T) := by
  refine T.F_Ring_turn_by.ok sc_Ring_turn_by (fun vs H Q E h => by unfold sp_Ring_turn_by at h; split at h <;> first | rfl | exact h.elim) fun A outer s H vs Q E hr h => ?_
  refine ⟨_, (pss_cons (ps_expr (pe_meth0 (pv 0) T.cl_Ring T.me_Ring_check_some (ok_Ring_check_some T) (hr.mono (by decide)) T.b_Ring_check_some .nil (Y.passD rfl rfl rfl rfl)))
  (pss_cons (ps_set (i := 2) sc_Ring_turn_by.nd rfl (Or.inl rfl) (pe_meth0 (pv 0) T.cl_Ring T.me_Ring_all_items (ok_Ring_all_items T) (hr.mono (by decide)) T.b_Ring_all_items .nil (Y.passD rfl rfl rfl rfl)))
  (pss_cons (ps_set (i := 3) sc_Ring_turn_by.nd rfl (Or.inl rfl) (pe_op Y.op_mod (pv 1) (Y.pe_f T.cl_Ring T.na_Ring_many (pv 0))))
  (pss_cons (Y.ps_f T.cl_Ring T.na_Ring_places (pv 0) (pe_op (Y.op_addK (K := K) rfl) (pe_callTy (Y.listK (K := K) rfl) (by rfl) T.no_list (by decide +kernel) (pa_cons (pe_op (Y.op_addK (K := K) rfl) (pe_slice (Y.slK (K := K) rfl) (pv 2) (po_some (pv 3)) po_none) (pe_slice (Y.slK (K := K) rfl) (pv 2) po_none (po_some (pv 3)))) pa_nil)) (pe_op Y.op_mul (Y.pe_ls (pa_cons pe_non pa_nil)) (pe_op Y.op_sub (pe_callB (Y.lenK (K := K) rfl) (by rfl) T.no_len (by decide +kernel) (pa_cons (Y.pe_f T.cl_Ring T.na_Ring_places (pv 0)) pa_nil)) (Y.pe_f T.cl_Ring T.na_Ring_many (pv 0))))))
  (pss_one (Y.ps_f T.cl_Ring T.na_Ring_start (pv 0) pe_int)))))), ?_⟩
  unfold sp_Ring_turn_by at h
  split at h
  next p k =>
    obtain ⟨l, own, cap, hr0, ht, hE, h⟩ := h
    obtain ⟨dx, st, pl, ⟨h1, h2⟩, hh, e⟩ := id hr0
    have f1 := hh.pos; have f2 := hh.fits; have f3 := hh.big
    walk_at "go"
    refine ⟨_, _, _, _, _, ⟨h1, h2⟩, fun z => hE (by cases own <;> simp_all; omega), fun z => ?_⟩
    have ne : own ≠ [] := by intro z2; rw [z2] at z; simp at z
    have hl : 0 < own.length := List.length_pos_iff.mpr ne
    walk_at "go"
    refine ⟨_, _, _, hr0, ht, fun r H1 c1 n1 l1 => ?_⟩
    have m0 : 0 ≤ k % (own.length : Int) := Int.emod_nonneg _ (by omega)
    have m1 : k % (own.length : Int) < own.length := Int.emod_lt_of_pos _ (by omega)
    walk_at "go"
    rename_i r1 G1 g1 r2 G2 g2
    rw [cut_from m0] at g1
    rw [cut_to m0] at g2
    have q1 : SqT K G2 r1 (own.drop (k % (own.length : Int)).toNat) := by walk_at "sqt"
    refine .inr ⟨_, _, q1, g2.sq, le_line (by simp only [List.length_drop, List.length_take]; omega), ?_⟩
    walk_at "go"
    have tl : (turn own k).length = own.length := by simp only [turn, List.length_append, List.length_drop, List.length_take]; omega
    rename_i r3 G3 g3 r4 G4 g4 r5 G5 g5 r6 G6 g6 r7 G7 g7 G8 g8 G9 g9
    have ek : ((pl.length : Int) - own.length).toNat = pl.length - own.length := by omega
    rw [List.flatten_replicate_singleton, ek] at g7
    have q : RawAt T.C_Ring G9 p dx r7 0 own.length (turn own k ++ List.replicate (pl.length - own.length) .non) := ⟨by walk_at "lk", by walk_at "lk"⟩
    have q0 : H r7 = none := by walk_at "fr"
    have q2 : Chg T.tabs (In [p]) H G9 := by walk_at "chg"
    exact h ne r7 G9 q2 q0 ⟨dx, _, _, q.n (by rw [tl]), held_fresh (by omega) (by omega), by simp; omega⟩ ⟨dx, q.ins⟩
  next => exact h.elim
end
end Z


set_option Elab.async false
set_option linter.all false
set_option maxRecDepth 100000
set_option maxHeartbeats 4000000
set_option pp.maxSteps 700
namespace Z
open PySem PySem.Spec L2 LamX Y
local macro_rules | `(tactic| walk_at "lk") => `(tactic| first
  | assumption
  | exact Nw.at (by assumption)
  | exact Wr.at (by assumption)
  | exact Mkd.at (by assumption)
  | exact Nw.look (by assumption) (by walk_at "lk")
  | exact Mkd.look (by assumption) (by walk_at "lk")
  | exact Wr.look (by assumption) (by walk_at "lk") (by walk_at "ne")
  | exact Chg.look (by assumption) (by walk_at "lk") (by walk_at "nin") rfl
  | exact Tp.same (by assumption) _ _ (by walk_at "lk")
  | exact Grows.look (by assumption) (by walk_at "lk") rfl
  | fail)
local macro_rules | `(tactic| walk_at "ne") => `(tactic| first
  | assumption
  | exact Ne.symm (by assumption)
  | exact Nw.ne (by assumption) (by walk_at "lk")
  | exact Ne.symm (Nw.ne (by assumption) (by walk_at "lk"))
  | exact ne_fr (by assumption) (by walk_at "lk")
  | exact Ne.symm (ne_fr (by assumption) (by walk_at "lk"))
  | exact ne_fr (Mkd.nx (by assumption)) (by walk_at "lk")
  | exact Ne.symm (ne_fr (Mkd.nx (by assumption)) (by walk_at "lk"))
  | exact ne_kdn (by assumption) (by walk_at "lk") rfl
  | exact Ne.symm (ne_kdn (by assumption) (by walk_at "lk") rfl)
  | fail)
local macro_rules | `(tactic| walk_at "nin") => `(tactic| first
  | exact nin_nil
  | exact id
  | exact nin_cons (by walk_at "ne") (by walk_at "nin")
  | fail)
local macro_rules | `(tactic| walk_at "fr") => `(tactic| first
  | assumption
  | exact Nw.new (by assumption)
  | exact Mkd.nx (by assumption)
  | exact Nw.dom (by assumption) (by walk_at "fr")
  | exact Wr.dom (by assumption) (by walk_at "fr")
  | exact Mkd.dom (by assumption) (by walk_at "fr")
  | exact Chg.dom (by assumption) _ (by walk_at "fr")
  | exact Tp.dom (by assumption) _ (by walk_at "fr")
  | exact Grows.dom (by assumption) _ (by walk_at "fr")
  | fail)
local macro_rules | `(tactic| walk_at "mem") => `(tactic| first
  | assumption
  | exact List.mem_cons_self
  | (apply List.mem_cons_of_mem; walk_at "mem")
  | fail)
local macro_rules | `(tactic| walk_at "in") => `(tactic| first
  | assumption
  | (apply Or.inl; walk_at "mem")
  | (apply Or.inr; walk_at "fr")
  | fail)
local macro_rules | `(tactic| walk_at "sub") => `(tactic| first
  | exact sub_nil0
  | exact sub_nil
  | exact sub_cons (by walk_at "in") (by walk_at "sub")
  | fail)
local macro_rules | `(tactic| walk_at "chg") => `(tactic| first
  | assumption
  | exact Chg.refl _
  | exact Chg.nw (by assumption) (by walk_at "chg")
  | exact Chg.mkd (by assumption) (by walk_at "chg")
  | exact Chg.tp (by assumption) (by walk_at "chg")
  | exact Chg.gr (by assumption) (by walk_at "chg")
  | exact Chg.wr (by assumption) (by walk_at "chg") (by walk_at "in")
  | exact Chg.ch (by assumption) (by walk_at "chg") (by walk_at "sub")
  | fail)
local macro_rules | `(tactic| walk_at "sq") => `(tactic| first
  | assumption
  | exact SqL.of (by walk_at "lk")
  | exact Chg.seqL (by assumption) (by walk_at "sq") (by walk_at "nin")
  | exact SqL.nw (by assumption) (by walk_at "sq")
  | exact SqL.tp (by assumption) (by walk_at "sq")
  | exact SqL.mkd (by assumption) (by walk_at "sq")
  | exact SqL.wr (by assumption) (by walk_at "sq") (by walk_at "ne")
  | fail)
local macro_rules | `(tactic| walk_at "sqt") => `(tactic| first
  | assumption
  | exact SqT.of (by walk_at "lk")
  | exact Tp.sq (by assumption)
  | exact SqT.nw (by assumption) (by walk_at "sqt")
  | exact SqT.tp (by assumption) (by walk_at "sqt")
  | exact SqT.mkd (by assumption) (by walk_at "sqt")
  | exact SqT.chg (by assumption) (by walk_at "sqt") (by walk_at "nin")
  | fail)
local macro_rules | `(tactic| walk_at "seq") => `(tactic| first
  | assumption
  | exact .inl (by walk_at "sq")
  | exact .inr (by walk_at "sqt")
  | exact SqA.keepN (T := Env.tabs (by assumption)) (by assumption) (by walk_at "chg")
  | fail)
local macro_rules | `(tactic| walk_at "go") => `(tactic| repeat first
  | refine ⟨_, rfl, ?_⟩
  | refine ⟨_, _, _, _, rfl, And.intro (by walk_at "lk") (And.intro rfl ?_)⟩
  | refine ⟨_, _, _, rfl, And.intro (by walk_at "lk") (And.intro (by walk_at "side") ?_)⟩
  | refine ⟨_, _, And.intro rfl (And.intro rfl ?_)⟩
  | refine ⟨_, _, And.intro rfl (And.intro (by walk_at "lk") ?_)⟩
  | refine ⟨_, _, _, And.intro rfl (And.intro (by walk_at "lk") ?_)⟩
  | refine ⟨_, And.intro (by walk_at "lk") (And.intro (by walk_at "side") ?_)⟩
  | refine ⟨_, _, And.intro (by walk_at "lk") (And.intro (by walk_at "side") ?_)⟩
  | refine ⟨_, _, And.intro (by walk_at "seq") (And.intro rfl ?_)⟩
  | refine ⟨_, And.intro (by walk_at "seq") ?_⟩
  | refine ⟨_, And.intro (by walk_at "lk") (And.intro (by walk_at "side") (And.intro (by walk_at "side") (And.intro (by walk_at "side") ?_)))⟩
  | refine .inl ⟨_, _, And.intro (by walk_at "lk") (And.intro (by walk_at "lk") (And.intro (by walk_at "side") ?_))⟩
  | refine .inr ⟨_, _, And.intro (by walk_at "sqt") (And.intro (by walk_at "sqt") (And.intro (by walk_at "side") ?_))⟩
  | refine .inl ⟨_, And.intro (by walk_at "sq") ?_⟩
  | refine .inr ⟨_, And.intro (by walk_at "sqt") ?_⟩
  | refine ⟨_, _, _, _, rfl, rfl, And.intro (by walk_at "lk") (And.intro rfl ?_)⟩
  | refine fun H' (n : Wr _ _ _ H') => ?_
  | refine fun p H' (n : Nw _ p _ H') => ?_
  | refine fun r H' (n : Tp _ _ r _ H') => ?_
  | refine fun x dx H' (n : Mkd _ _ x dx H') => ?_
  | refine .inl ⟨_, _, rfl, And.intro (by walk_at "sq") (fun p H' (n : Nw _ p _ H') => ?_)⟩
  | refine .inr ⟨_, _, rfl, And.intro (by walk_at "sqt") (fun r H' (n : Tp _ _ r _ H') => ?_)⟩
  | refine ⟨_, _, rfl, And.intro (by walk_at "sq") (fun p H' (n : Nw _ p _ H') => ?_)⟩
  | refine .inl (And.intro ⟨_, by walk_at "sq"⟩ ?_)
  | refine .inr (And.intro ⟨_, by walk_at "sqt"⟩ ?_)
  | refine ⟨_, _, rfl, And.intro (by walk_at "sqt") (And.intro rfl ?_)⟩
  | refine ⟨_, _, And.intro rfl ?_⟩
  | refine ⟨_, _, _, And.intro rfl ?_⟩
  | refine And.intro rfl ?_
  | (refine ite_t ?_ ?_; exact rfl)
  | (refine ite_f ?_ ?_; exact rfl)
  | refine And.intro (by walk_at "side") ?_)
local macro_rules | `(tactic| walk_at "side") => `(tactic| first
  | exact (rfl : _ = _)
  | decide
  | exact lt1000 rfl
  | with_reducible assumption
  | exact ⟨by omega, by omega⟩
  | exact .inl ⟨by omega, by omega⟩
  | exact .inr ⟨by omega, by omega⟩
  | omega
  | (apply le_line; omega)
  | (apply lt_line; omega)
  | (apply le_line; simp <;> omega)
  | (apply lt_line; simp <;> omega)
  | fail)
local macro_rules | `(tactic| walk_at "if") => `(tactic| first
  | refine ite_nd ?_ ?_
  | refine ite_d ?_ ?_
  | refine ite_eqt ?_ ?_
  | fail)
local macro_rules | `(tactic| walk_at "roll") => `(tactic| first
  | (refine And.intro (show Dice _ _ from ⟨_, _, _, by walk_at "lk"⟩) (And.intro (by walk_at "side") (And.intro (by walk_at "side") (fun r H' r0 r1 ro => ?_))); obtain ⟨a', b', c', w⟩ := ro)
  | fail)
local macro_rules | `(tactic| walk_at "run") => `(tactic| (walk_at "go"; repeat (walk_at "roll"; walk_at "go")))
local macro_rules | `(tactic| walk_at "dp") => `(tactic| first
  | exact Dp.non
  | exact Dp.int _
  | exact Dp.str _
  | exact Dp.bl _
  | exact DpAll.nil
  | exact DpAll.cons (by walk_at "dp") (by walk_at "dp")
  | exact Dp.tup (by walk_at "sqt") (by walk_at "dp")
  | exact Dp.lst (by walk_at "sq") (by walk_at "dp")
  | fail)

section
variable {w : World} {K : PySem.W.Frag} {mg : Str → Option Value} {base : Heap}
def fsL (p : Addr) (k n : Int) : FS := [("ring", .ref p), ("kept", .int k), ("came", .int n)]
structure LastAt (T : Env w K mg base) (H : Hp) (q p l : Addr) (own : List V) (k n : Nat) : Prop where
  obj : ∃ dx, H q = some (.ins T.C_Last dx (fsL p k n))
  ring : ∃ cap, RingAt T.C_Ring H p l own cap
  le : own.length ≤ k
  k1 : 1 ≤ k
  k2 : k ≤ 256
  ne : q ≠ p
theorem LastAt.chg {T : Env w K mg base} {H H' : Hp} {q p l : Addr} {own : List V} {k n : Nat} {tb : List (Addr × Str)} {S : Addr → Prop} (r : LastAt T H q p l own k n) (c : Chg tb S H H') (h1 : ¬ S q) (h2 : ¬ S p) (h3 : ¬ S l) : LastAt T H' q p l own k n :=
  ⟨let ⟨dx, a⟩ := r.obj; ⟨dx, c.look a h1 rfl⟩, let ⟨cap, a⟩ := r.ring; ⟨cap, a.chg c h2 h3⟩, r.le, r.k1, r.k2, r.ne⟩
def sp_Last___init__ (T : Env w K mg base) : Sp := fun vs H Q E => match vs with
  | [.ref q, .int k] => (∃ dx, H q = some (.ins T.C_Last dx [])) ∧ (¬ (1 ≤ k ∧ k ≤ 256) → ∀ H', Chg T.tabs nil H H' → E (.ref T.C_RingError) none H') ∧
      (1 ≤ k → k ≤ 256 → ∀ p l H', Chg T.tabs (In [q]) H H' → H p = none → H l = none → LastAt T H' q p l [] k.toNat 0 → Q .non H')
  | _ => False
theorem ok_Last___init__ (T : Env w K mg base) : FnOk prg w K mg base (L2.CX prg w) 16 T.f_Last___init__ T.fd_Last___init__ ["self", "kept"] (sp_Last___init__ T) := by
  refine T.F_Last___init__.ok sc_Last___init__ (fun vs H Q E h => by unfold sp_Last___init__ at h; split at h <;> first | rfl | exact h.elim) fun A outer s H vs Q E hr h => ?_
  refine ⟨_, (pss_cons (Y.ps_f T.cl_Last T.na_Last_ring (pv 0) (Y.pe_mk T.mk_Ring (ok_Ring___init__ T) (hr.mono (by decide)) rfl T.mg_Ring T.b_Ring___init__ .nil (Y.passD rfl rfl rfl rfl) (pa_cons (pv 1) pa_nil)))
  (pss_cons (Y.ps_f T.cl_Last T.na_Last_kept (pv 0) (pv 1))
  (pss_one (Y.ps_f T.cl_Last T.na_Last_came (pv 0) pe_int)))), ?_⟩
  unfold sp_Last___init__ at h
  split at h
  next q k =>
    obtain ⟨⟨dx, h1⟩, hE, h⟩ := h
    walk_at "go"
    refine ⟨_, by walk_at "lk", fun z => hE z _ (by walk_at "chg"), fun k1 k2 l H1 c1 n1 r1 => ⟨rfl, ?_⟩⟩
    rename_i p dx0 H0 n0
    walk_at "go"
    rename_i H2 n2 H3 n3 H4 n4
    have fp : H p = none := by walk_at "fr"
    have fl : H l = none := by walk_at "fr"
    have a1 : q ≠ p := by walk_at "ne"
    have a2 : q ≠ l := by walk_at "ne"
    have q1 : Chg T.tabs (In [q]) H1 H4 := by walk_at "chg"
    have q2 : H4 q = some (.ins T.C_Last dx (fsL p k 0)) := by walk_at "lk"
    have q3 : Chg T.tabs (In [q]) H H4 := .ch q1 (.ch c1 (.mkd n0 (.refl _)) (sub_cons (.inr fp) sub_nil)) (by walk_at "sub")
    exact h k1 k2 p l H4 q3 fp fl ⟨⟨dx, by rw [q2, Int.toNat_of_nonneg (by omega)]; rfl⟩, ⟨_, r1.chg q1 (by simpa [Y.In] using a1.symm) (by simpa [Y.In] using a2.symm)⟩, by simp, by omega, by omega, a1⟩
  next => exact h.elim
/-- what is kept behind one more -/
def pushK (own : List V) (k : Nat) (v : V) : List V := (if own.length = k then own.drop 1 else own) ++ [v]
def dropK (own : List V) (k : Nat) : V := if own.length = k then own.headD .non else .non
def sp_Last_put (T : Env w K mg base) : Sp := fun vs H Q E => match vs with
  | [.ref q, v] => ∃ p l own k n, LastAt T H q p l own k n ∧ Tabs T.tabs H ∧ (v = .non → E (.ref T.C_RingError) none H) ∧
      (v ≠ .non → ∀ l' H', Chg T.tabs (In [q, p, l]) H H' → (l' = l ∨ H l' = none) → LastAt T H' q p l' (pushK own k v) k (n + 1) → Q (dropK own k) H')
  | _ => False
theorem ok_Last_put (T : Env w K mg base) : FnOk prg w K mg base (L2.CX prg w) 48 T.f_Last_put T.fd_Last_put ["self", "item"] (sp_Last_put T) := by
  refine T.F_Last_put.ok sc_Last_put (fun vs H Q E h => by unfold sp_Last_put at h; split at h <;> first | rfl | exact h.elim) fun A outer s H vs Q E hr h => ?_
  refine ⟨_, (pss_cons (ps_if (pt_cmpR Y.op_isN (pv 1) pe_non (nomark _)) (pss_one (ps_raise rfl (takes_of rfl rfl rfl rfl) (pmk_own PySem.F.excBase_ValueError T.x_RingError T.mg_RingError T.k_RingError (raises_own T.bb_RingError T.tt_RingError) rfl))) pss_nil)
  (pss_cons (ps_set (i := 2) sc_Last_put.nd rfl (Or.inl rfl) (pe_ifExp (pt_cmpR (Y.op_eqK (K := K) rfl hr.units) (Y.pe_f T.cl_Ring T.na_Ring_many (Y.pe_f T.cl_Last T.na_Last_ring (pv 0))) (Y.pe_f T.cl_Last T.na_Last_kept (pv 0)) (nomark _)) (pe_meth0 (Y.pe_f T.cl_Last T.na_Last_ring (pv 0)) T.cl_Ring T.me_Ring_take_first (ok_Ring_take_first T) (hr.mono (by decide)) T.b_Ring_take_first .nil (Y.passD rfl rfl rfl rfl)) pe_non))
  (pss_cons (ps_expr (pe_meth (Y.pe_f T.cl_Last T.na_Last_ring (pv 0)) T.cl_Ring T.me_Ring_put_last (ok_Ring_put_last T) (hr.mono (by decide)) T.b_Ring_put_last .nil (Y.passD rfl rfl rfl rfl) (pa_cons (pv 1) pa_nil)))
  (pss_cons (Y.ps_fa T.cl_Last T.na_Last_came in_add (pv 0) pe_int)
  (pss_one (ps_ret (pv 2))))))), ?_⟩
  unfold sp_Last_put at h
  split at h
  next q v =>
    obtain ⟨p, l, own, k, n, hl, ht, hE, h⟩ := h
    obtain ⟨⟨dx, h1⟩, ⟨cap, hr⟩, le, k1, k2, ne⟩ := id hl
    obtain ⟨dx0, st0, pl0, ⟨h2, h3⟩, hh, e⟩ := id hr
    walk_at "go"
    walk_at "if"
    · intro c
      exact hE c
    · intro c
      walk_at "go"
      walk_at "if"
      · intro c2
        have nn : own ≠ [] := by intro z; rw [z] at c2; simp at c2; omega
        obtain ⟨x, own1, rfl⟩ := List.exists_cons_of_ne_nil nn
        walk_at "go"
        refine ⟨_, _, _, hr, (fun z => nomatch z), fun v1 own1' e1 H1 c3 r1 => ?_⟩
        obtain ⟨rfl, rfl⟩ : x = v1 ∧ own1 = own1' := by simpa [uncons] using e1
        have d1 : p ≠ l := by walk_at "ne"
        have d2 : q ≠ l := by walk_at "ne"
        have t1 : Tabs T.tabs H1 := c3.tabs ht
        have o1 : H1 q = some (.ins T.C_Last dx (fsL p k n)) := by walk_at "lk"
        obtain ⟨dx1, st1, pl1, ⟨h4, h5⟩, -, -⟩ := id r1
        walk_at "go"
        refine ⟨_, _, _, r1, t1, fun z => ?_, fun e2 e3 l' H2 c4 e4 r2 => ?_⟩
        · rcases z with z | z
          · exact (c z).elim
          · simp at c2; omega
        have o2 : H2 q = some (.ins T.C_Last dx (fsL p k n)) := by walk_at "lk"
        walk_at "go"
        rename_i H3 n3
        have fl : l' = l ∨ H l' = none := e4.imp id fun z => c3.dom _ z
        have d3 : q ≠ l' := by rcases fl with rfl | z; exact d2; walk_at "ne"
        have q3 : H3 q = some (.ins T.C_Last dx (fsL p k (n + 1))) := by walk_at "lk"
        have q4 : Chg T.tabs (In [q]) H2 H3 := by walk_at "chg"
        have q5 : Chg T.tabs (In [q, p, l]) H H3 := by walk_at "chg"
        have ek : pushK (x :: own1) k v = own1 ++ [v] := by unfold pushK; rw [if_pos (by omega)]; rfl
        have ed : dropK (x :: own1) k = x := by unfold dropK; rw [if_pos (by omega)]; rfl
        rw [ek, ed] at h
        exact h c l' H3 q5 fl ⟨⟨dx, q3⟩, ⟨_, r2.chg q4 (by simpa [Y.In] using ne.symm) (by simpa [Y.In] using d3.symm)⟩, by simp at c2 ⊢; omega, k1, k2, ne⟩
      · intro c2
        walk_at "go"
        have d1 : p ≠ l := by walk_at "ne"
        have d2 : q ≠ l := by walk_at "ne"
        refine ⟨_, _, _, hr, ht, fun z => ?_, fun e2 e3 l' H2 c4 fl r2 => ?_⟩
        · rcases z with z | z
          · exact (c z).elim
          · omega
        have o2 : H2 q = some (.ins T.C_Last dx (fsL p k n)) := by walk_at "lk"
        walk_at "go"
        rename_i H3 n3
        have d3 : q ≠ l' := by rcases fl with rfl | z; exact d2; walk_at "ne"
        have q3 : H3 q = some (.ins T.C_Last dx (fsL p k (n + 1))) := by walk_at "lk"
        have q4 : Chg T.tabs (In [q]) H2 H3 := by walk_at "chg"
        have q5 : Chg T.tabs (In [q, p, l]) H H3 := by walk_at "chg"
        have ek : pushK own k v = own ++ [v] := by unfold pushK; rw [if_neg (by omega)]
        have ed : dropK own k = .non := by unfold dropK; rw [if_neg (by omega)]
        rw [ek, ed] at h
        exact h c l' H3 q5 fl ⟨⟨dx, q3⟩, ⟨_, r2.chg q4 (by simpa [Y.In] using ne.symm) (by simpa [Y.In] using d3.symm)⟩, by simp; omega, k1, k2, ne⟩
  next => exact h.elim
def sp_Last_item_from (T : Env w K mg base) : Sp := fun vs H Q E => match vs with
  | [.ref q, .int m] => ∃ p l own k n, LastAt T H q p l own k n ∧ (¬ ((n : Int) - own.length ≤ m ∧ m < n) → E (.ref T.C_RingError) none H) ∧
      ((n : Int) - own.length ≤ m → m < n → ∀ v, atI own (m - ((n : Int) - own.length)) = some v → Q v H)
  | _ => False
theorem ok_Last_item_from (T : Env w K mg base) : FnOk prg w K mg base (L2.CX prg w) 24 T.f_Last_item_from T.fd_Last_item_from ["self", "number"] (sp_Last_item_from T) := by
  refine T.F_Last_item_from.ok sc_Last_item_from (fun vs H Q E h => by unfold sp_Last_item_from at h; split at h <;> first | rfl | exact h.elim) fun A outer s H vs Q E hr h => ?_
  refine ⟨_, (pss_cons (ps_set (i := 2) sc_Last_item_from.nd rfl (Or.inl rfl) (pe_op Y.op_sub (Y.pe_f T.cl_Last T.na_Last_came (pv 0)) (Y.pe_f T.cl_Ring T.na_Ring_many (Y.pe_f T.cl_Last T.na_Last_ring (pv 0)))))
  (pss_cons (ps_if (pt_not (pt_chain Y.op_le Y.op_lt (pv 2) (pv 1) (Y.pe_f T.cl_Last T.na_Last_came (pv 0)))) (pss_one (ps_raise rfl (takes_of rfl rfl rfl rfl) (pmk_own PySem.F.excBase_ValueError T.x_RingError T.mg_RingError T.k_RingError (raises_own T.bb_RingError T.tt_RingError) rfl))) pss_nil)
  (pss_one (ps_ret (pe_meth (Y.pe_f T.cl_Last T.na_Last_ring (pv 0)) T.cl_Ring T.me_Ring_item_at (ok_Ring_item_at T) (hr.mono (by decide)) T.b_Ring_item_at .nil (Y.passD rfl rfl rfl rfl) (pa_cons (pe_op Y.op_sub (pv 1) (pv 2)) pa_nil)))))), ?_⟩
  unfold sp_Last_item_from at h
  split at h
  next q m =>
    obtain ⟨p, l, own, k, n, hl, hE, h⟩ := h
    obtain ⟨⟨dx, h1⟩, ⟨cap, hr⟩, le, k1, k2, ne⟩ := id hl
    obtain ⟨dx0, st0, pl0, ⟨h2, h3⟩, hh, e⟩ := id hr
    walk_at "go"
    walk_at "if"
    · intro c1
      walk_at "go"
      walk_at "if"
      · intro c2
        exact hE (by simp at c2; omega)
      · intro c2
        have c3 : m < n := by simpa using c2
        walk_at "go"
        refine ⟨_, _, _, hr, fun z => ?_, h c1 c3⟩
        rw [atI_nat (by omega) (by omega), List.getElem?_eq_none_iff] at z
        omega
    · intro c1
      walk_at "go"
      exact hE (by omega)
  next => exact h.elim
end
end Z


set_option Elab.async false
set_option linter.all false
set_option maxRecDepth 100000
set_option maxHeartbeats 4000000
set_option pp.maxSteps 1100
namespace Z
open PySem PySem.Spec L2 LamX Y
local macro_rules | `(tactic| walk_at "lk") => `(tactic| first
  | assumption
  | exact Nw.at (by assumption)
  | exact Wr.at (by assumption)
  | exact Mkd.at (by assumption)
  | exact Nw.look (by assumption) (by walk_at "lk")
  | exact Mkd.look (by assumption) (by walk_at "lk")
  | exact Wr.look (by assumption) (by walk_at "lk") (by walk_at "ne")
  | exact Chg.look (by assumption) (by walk_at "lk") (by walk_at "nin") rfl
  | exact Tp.same (by assumption) _ _ (by walk_at "lk")
  | exact Grows.look (by assumption) (by walk_at "lk") rfl
  | fail)
local macro_rules | `(tactic| walk_at "ne") => `(tactic| first
  | assumption
  | exact Ne.symm (by assumption)
  | exact Nw.ne (by assumption) (by walk_at "lk")
  | exact Ne.symm (Nw.ne (by assumption) (by walk_at "lk"))
  | exact ne_fr (by assumption) (by walk_at "lk")
  | exact Ne.symm (ne_fr (by assumption) (by walk_at "lk"))
  | exact ne_fr (Mkd.nx (by assumption)) (by walk_at "lk")
  | exact Ne.symm (ne_fr (Mkd.nx (by assumption)) (by walk_at "lk"))
  | exact ne_kdn (by assumption) (by walk_at "lk") rfl
  | exact Ne.symm (ne_kdn (by assumption) (by walk_at "lk") rfl)
  | fail)
local macro_rules | `(tactic| walk_at "nin") => `(tactic| first
  | exact nin_nil
  | exact id
  | exact nin_cons (by walk_at "ne") (by walk_at "nin")
  | fail)
local macro_rules | `(tactic| walk_at "fr") => `(tactic| first
  | assumption
  | exact Nw.new (by assumption)
  | exact Mkd.nx (by assumption)
  | exact Nw.dom (by assumption) (by walk_at "fr")
  | exact Wr.dom (by assumption) (by walk_at "fr")
  | exact Mkd.dom (by assumption) (by walk_at "fr")
  | exact Chg.dom (by assumption) _ (by walk_at "fr")
  | exact Tp.dom (by assumption) _ (by walk_at "fr")
  | exact Grows.dom (by assumption) _ (by walk_at "fr")
  | fail)
local macro_rules | `(tactic| walk_at "mem") => `(tactic| first
  | assumption
  | exact List.mem_cons_self
  | (apply List.mem_cons_of_mem; walk_at "mem")
  | fail)
local macro_rules | `(tactic| walk_at "in") => `(tactic| first
  | assumption
  | (apply Or.inl; walk_at "mem")
  | (apply Or.inr; walk_at "fr")
  | fail)
local macro_rules | `(tactic| walk_at "sub") => `(tactic| first
  | exact sub_nil0
  | exact sub_nil
  | exact sub_cons (by walk_at "in") (by walk_at "sub")
  | fail)
local macro_rules | `(tactic| walk_at "chg") => `(tactic| first
  | assumption
  | exact Chg.refl _
  | exact Chg.nw (by assumption) (by walk_at "chg")
  | exact Chg.mkd (by assumption) (by walk_at "chg")
  | exact Chg.tp (by assumption) (by walk_at "chg")
  | exact Chg.gr (by assumption) (by walk_at "chg")
  | exact Chg.wr (by assumption) (by walk_at "chg") (by walk_at "in")
  | exact Chg.ch (by assumption) (by walk_at "chg") (by walk_at "sub")
  | fail)
local macro_rules | `(tactic| walk_at "sq") => `(tactic| first
  | assumption
  | exact SqL.of (by walk_at "lk")
  | exact Chg.seqL (by assumption) (by walk_at "sq") (by walk_at "nin")
  | exact SqL.nw (by assumption) (by walk_at "sq")
  | exact SqL.tp (by assumption) (by walk_at "sq")
  | exact SqL.mkd (by assumption) (by walk_at "sq")
  | exact SqL.wr (by assumption) (by walk_at "sq") (by walk_at "ne")
  | fail)
local macro_rules | `(tactic| walk_at "sqt") => `(tactic| first
  | assumption
  | exact SqT.of (by walk_at "lk")
  | exact Tp.sq (by assumption)
  | exact SqT.nw (by assumption) (by walk_at "sqt")
  | exact SqT.tp (by assumption) (by walk_at "sqt")
  | exact SqT.mkd (by assumption) (by walk_at "sqt")
  | exact SqT.chg (by assumption) (by walk_at "sqt") (by walk_at "nin")
  | fail)
local macro_rules | `(tactic| walk_at "seq") => `(tactic| first
  | assumption
  | exact .inl (by walk_at "sq")
  | exact .inr (by walk_at "sqt")
  | exact SqA.keepN (T := Env.tabs (by assumption)) (by assumption) (by walk_at "chg")
  | fail)
local macro_rules | `(tactic| walk_at "go") => `(tactic| repeat first
  | refine ⟨_, rfl, ?_⟩
  | refine ⟨_, _, _, _, rfl, And.intro (by walk_at "lk") (And.intro rfl ?_)⟩
  | refine ⟨_, _, _, rfl, And.intro (by walk_at "lk") (And.intro (by walk_at "side") ?_)⟩
  | refine ⟨_, _, And.intro rfl (And.intro rfl ?_)⟩
  | refine ⟨_, _, And.intro rfl (And.intro (by walk_at "lk") ?_)⟩
  | refine ⟨_, _, _, And.intro rfl (And.intro (by walk_at "lk") ?_)⟩
  | refine ⟨_, And.intro (by walk_at "lk") (And.intro (by walk_at "side") ?_)⟩
  | refine ⟨_, _, And.intro (by walk_at "lk") (And.intro (by walk_at "side") ?_)⟩
  | refine ⟨_, _, And.intro (by walk_at "seq") (And.intro rfl ?_)⟩
  | refine ⟨_, And.intro (by walk_at "seq") ?_⟩
  | refine ⟨_, And.intro (by walk_at "lk") (And.intro (by walk_at "side") (And.intro (by walk_at "side") (And.intro (by walk_at "side") ?_)))⟩
  | refine .inl ⟨_, _, And.intro (by walk_at "lk") (And.intro (by walk_at "lk") (And.intro (by walk_at "side") ?_))⟩
  | refine .inr ⟨_, _, And.intro (by walk_at "sqt") (And.intro (by walk_at "sqt") (And.intro (by walk_at "side") ?_))⟩
  | refine .inl ⟨_, And.intro (by walk_at "sq") ?_⟩
  | refine .inr ⟨_, And.intro (by walk_at "sqt") ?_⟩
  | refine ⟨_, _, _, _, rfl, rfl, And.intro (by walk_at "lk") (And.intro rfl ?_)⟩
  | refine fun H' (n : Wr _ _ _ H') => ?_
  | refine fun p H' (n : Nw _ p _ H') => ?_
  | refine fun r H' (n : Tp _ _ r _ H') => ?_
  | refine fun x dx H' (n : Mkd _ _ x dx H') => ?_
  | refine .inl ⟨_, _, rfl, And.intro (by walk_at "sq") (fun p H' (n : Nw _ p _ H') => ?_)⟩
  | refine .inr ⟨_, _, rfl, And.intro (by walk_at "sqt") (fun r H' (n : Tp _ _ r _ H') => ?_)⟩
  | refine ⟨_, _, rfl, And.intro (by walk_at "sq") (fun p H' (n : Nw _ p _ H') => ?_)⟩
  | refine .inl (And.intro ⟨_, by walk_at "sq"⟩ ?_)
  | refine .inr (And.intro ⟨_, by walk_at "sqt"⟩ ?_)
  | refine ⟨_, _, rfl, And.intro (by walk_at "sqt") (And.intro rfl ?_)⟩
  | refine ⟨_, _, And.intro rfl ?_⟩
  | refine ⟨_, _, _, And.intro rfl ?_⟩
  | refine And.intro rfl ?_
  | (refine ite_t ?_ ?_; exact rfl)
  | (refine ite_f ?_ ?_; exact rfl)
  | refine And.intro (by walk_at "side") ?_)
local macro_rules | `(tactic| walk_at "side") => `(tactic| first
  | exact (rfl : _ = _)
  | decide
  | exact lt1000 rfl
  | with_reducible assumption
  | exact ⟨by omega, by omega⟩
  | exact .inl ⟨by omega, by omega⟩
  | exact .inr ⟨by omega, by omega⟩
  | omega
  | (apply le_line; omega)
  | (apply lt_line; omega)
  | (apply le_line; simp <;> omega)
  | (apply lt_line; simp <;> omega)
  | fail)
local macro_rules | `(tactic| walk_at "if") => `(tactic| first
  | refine ite_nd ?_ ?_
  | refine ite_d ?_ ?_
  | refine ite_eqt ?_ ?_
  | fail)
local macro_rules | `(tactic| walk_at "roll") => `(tactic| first
  | (refine And.intro (show Dice _ _ from ⟨_, _, _, by walk_at "lk"⟩) (And.intro (by walk_at "side") (And.intro (by walk_at "side") (fun r H' r0 r1 ro => ?_))); obtain ⟨a', b', c', w⟩ := ro)
  | fail)
local macro_rules | `(tactic| walk_at "run") => `(tactic| (walk_at "go"; repeat (walk_at "roll"; walk_at "go")))
local macro_rules | `(tactic| walk_at "dp") => `(tactic| first
  | exact Dp.non
  | exact Dp.int _
  | exact Dp.str _
  | exact Dp.bl _
  | exact DpAll.nil
  | exact DpAll.cons (by walk_at "dp") (by walk_at "dp")
  | exact Dp.tup (by walk_at "sqt") (by walk_at "dp")
  | exact Dp.lst (by walk_at "sq") (by walk_at "dp")
  | fail)

section
variable {w : World} {K : PySem.W.Frag} {mg : Str → Option Value} {base : Heap}
/-- a row behind rows: the value, the least so far -/
def lastMin (ps : List (Int × Int)) (v : Int) : Int := match ps.getLast? with
  | none => v
  | some p => min v p.2
def addRow (ps : List (Int × Int)) (v : Int) : List (Int × Int) := ps ++ [(v, lastMin ps v)]
def rows (vs : List Int) : List (Int × Int) := vs.foldl addRow []
theorem rows_snoc {vs : List Int} {v : Int} : rows (vs ++ [v]) = addRow (rows vs) v := by simp [rows]
theorem rows_len {vs : List Int} : (rows vs).length = vs.length := by
  refine snocRec (P := fun vs => (rows vs).length = vs.length) rfl (fun vs v ih => ?_) vs
  rw [rows_snoc]; simp [addRow, ih]
/-- the least of vs -/
def leastI : List Int → Int
  | [] => 0
  | x :: xs => xs.foldl min x
theorem foldl_min_snoc (vs : List Int) (x v : Int) : (vs ++ [v]).foldl min x = min v (vs.foldl min x) := by
  rw [List.foldl_append]; simp [Int.min_comm]
theorem rows_lastMin {vs : List Int} : ∀ v, lastMin (rows vs) v = leastI (vs ++ [v]) := by
  refine snocRec (P := fun vs => ∀ v, lastMin (rows vs) v = leastI (vs ++ [v])) (fun _ => rfl) (fun vs u ih v => ?_) vs
  rw [rows_snoc, addRow, ih, lastMin, List.getLast?_append, List.getLast?_singleton, Option.some_or]
  show min v (leastI (vs ++ [u])) = leastI ((vs ++ [u]) ++ [v])
  cases hv : vs ++ [u] with
  | nil => simp at hv
  | cons y ys => show min v (ys.foldl min y) = (ys ++ [v]).foldl min y; rw [foldl_min_snoc]
theorem rows_add {vs : List Int} {v : Int} : addRow (rows vs) v = rows vs ++ [(v, leastI (vs ++ [v]))] := by rw [addRow, rows_lastMin]
theorem least_snoc {vs : List Int} (n : vs ≠ []) (v : Int) : min v (leastI vs) = leastI (vs ++ [v]) := by
  cases vs with
  | nil => exact (n rfl).elim
  | cons x xs => exact (foldl_min_snoc xs x v).symm
theorem rows_nil {vs : List Int} : rows vs = [] ↔ vs = [] := by
  rw [← List.length_eq_zero_iff, rows_len, List.length_eq_zero_iff]
/-- what stands at the rows' places -/
def RowAt (H : Hp) (t : V) (p : Int × Int) : Prop := ∃ a, t = V.ref a ∧ H a = some (.tup [.int p.1, .int p.2])
abbrev RowsAt (H : Hp) (ts : List V) (ps : List (Int × Int)) : Prop := All2 (RowAt H) ts ps
theorem RowsAt.keep {H H' : Hp} {ts : List V} {ps : List (Int × Int)} (r : RowsAt H ts ps) (k : ∀ b o, H b = some o → kd o = 1 → isTbl o = false → H' b = some o) : RowsAt H' ts ps := All2.imp r fun _ _ ⟨a, e, h⟩ => ⟨a, e, k _ _ h rfl rfl⟩
theorem RowsAt.dp {H : Hp} {ts : List V} {ps : List (Int × Int)} (r : RowsAt H ts ps) : DpAll K H ts (ps.map fun p => .tuple [.int p.1, .int p.2]) := by
  induction r with
  | nil => exact .nil
  | cons h _ ih =>
    obtain ⟨a, rfl, h⟩ := h
    exact .cons (.tup (.of h) (.cons (.int _) (.cons (.int _) .nil))) ih
theorem rows_shaped (ps : List (Int × Int)) : SeqAt.shaped (.list (ps.map fun p => .tuple [.int p.1, .int p.2])) = true := by
  have h1 : ∀ ps : List (Int × Int), PyData.canLayAll0 (ps.map fun p => .tuple [.int p.1, .int p.2]) = true := by
    intro ps
    induction ps with
    | nil => rfl
    | cons p ps ih => simp only [List.map_cons, PyData.canLayAll0, PyData.canLay0, ih]; rfl
  have h2 : ∀ ps : List (Int × Int), PyData.depthAll (ps.map fun p => .tuple [.int p.1, .int p.2]) ≤ 1 := by
    intro ps
    induction ps with
    | nil => simp [PyData.depthAll]
    | cons p ps ih => simp only [List.map_cons, PyData.depthAll, PyData.depth]; omega
  simp only [SeqAt.shaped, PyData.canLay0, h1, PyData.depth, Bool.true_and, decide_eq_true_eq]
  exact decide_eq_true (by have := h2 ps; omega)
theorem rows_fst {vs : List Int} : (rows vs).map (·.1) = vs := by
  refine snocRec (P := fun vs => (rows vs).map (·.1) = vs) rfl (fun vs v ih => ?_) vs
  rw [rows_snoc, addRow, List.map_append, ih]; rfl
/-- rows == [] -/
theorem veq_rows {H : Hp} {a b : Addr} {ts : List V} {ps : List (Int × Int)} {f : Bool → Bool} {Q : VK} (h1 : H a = some (.lst ts)) (h2 : H b = some (.lst [])) (r : RowsAt H ts ps) (q : Q (.bl (f (decide (ps = [])))) H) : vEq K f (.ref a) (.ref b) H Q := by
  refine veq_d rfl (.lst (.of h1) r.dp) (.lst (.of h2) .nil) (rows_shaped ps) (rows_shaped []) (b := decide (ps = [])) ?_ q
  cases ps with
  | nil => rfl
  | cons p ps => rfl
def fsQ (a b : Addr) (n : Int) : FS := [("ins", .ref a), ("outs", .ref b), ("poured", .int n)]
/-- a queue at q, its rows at a and b: ins the values put since, outs those poured, the last first -/
structure QueueAt (T : Env w K mg base) (H : Hp) (q a b : Addr) (ins outs : List Int) (n : Int) : Prop where
  obj : ∃ dx, H q = some (.ins T.C_Queue dx (fsQ a b n))
  ia : ∃ ts, H a = some (.lst ts) ∧ RowsAt H ts (rows ins)
  ob : ∃ ts, H b = some (.lst ts) ∧ RowsAt H ts (rows outs)
  ne : a ≠ b
  fit : ins.length ≤ 1000 ∧ outs.length ≤ 1000
def sp_Queue___init__ (T : Env w K mg base) : Sp := fun vs H Q E => match vs with
  | [.ref q] => (∃ dx, H q = some (.ins T.C_Queue dx [])) ∧ ∀ a b H', Chg T.tabs (Y.In [q]) H H' → H a = none → H b = none → QueueAt T H' q a b [] [] 0 → Q .non H'
  | _ => False
theorem ok_Queue___init__ (T : Env w K mg base) : FnOk prg w K mg base (L2.CX prg w) 8 T.f_Queue___init__ T.fd_Queue___init__ ["self"] (sp_Queue___init__ T) := by
  refine T.F_Queue___init__.ok sc_Queue___init__ (fun vs H Q E h => by unfold sp_Queue___init__ at h; split at h <;> first | rfl | exact h.elim) fun A outer s H vs Q E hr h => ?_
  refine ⟨_, (pss_cons (Y.ps_f T.cl_Queue T.na_Queue_ins (pv 0) (Y.pe_ls pa_nil))
  (pss_cons (Y.ps_f T.cl_Queue T.na_Queue_outs (pv 0) (Y.pe_ls pa_nil))
  (pss_one (Y.ps_f T.cl_Queue T.na_Queue_poured (pv 0) pe_int)))), ?_⟩
  unfold sp_Queue___init__ at h
  split at h
  next q =>
    obtain ⟨⟨dx, h1⟩, h⟩ := h
    walk_at "go"
    rename_i a H1 n1 H2 n2 b H3 n3 H4 n4 H5 n5
    have fa : H a = none := by walk_at "fr"
    have fb : H b = none := by walk_at "fr"
    have q1 : H5 q = some (.ins T.C_Queue dx (fsQ a b 0)) := by walk_at "lk"
    have q2 : H5 a = some (.lst []) := by walk_at "lk"
    have q3 : H5 b = some (.lst []) := by walk_at "lk"
    have q4 : a ≠ b := by walk_at "ne"
    have c : Chg T.tabs (Y.In [q]) H H5 := by walk_at "chg"
    exact h a b H5 c fa fb ⟨⟨dx, q1⟩, ⟨_, q2, .nil⟩, ⟨_, q3, .nil⟩, q4, by decide⟩
  next => exact h.elim
def sp_Queue_put (T : Env w K mg base) : Sp := fun vs H Q E => match vs with
  | [.ref q, .int v] => ∃ a b ins outs n, QueueAt T H q a b ins outs n ∧ ins.length < 1000 ∧ ∀ H', Chg T.tabs (Y.In [a]) H H' → QueueAt T H' q a b (ins ++ [v]) outs n → Q .non H'
  | _ => False
theorem ok_Queue_put (T : Env w K mg base) : FnOk prg w K mg base (L2.CX prg w) 8 T.f_Queue_put T.fd_Queue_put ["self", "value"] (sp_Queue_put T) := by
  refine T.F_Queue_put.ok sc_Queue_put (fun vs H Q E h => by unfold sp_Queue_put at h; split at h <;> first | rfl | exact h.elim) fun A outer s H vs Q E hr h => ?_
  refine ⟨_, (pss_one (ps_expr (peI (pe_bm PySem.F.plainAttrs_list PySem.F.slot_list_append PySem.F.type_list_append mt_append (peU (Y.pe_f T.cl_Queue T.na_Queue_ins (pv 0))) (pa_cons (peU (Y.pe_tu (pa_cons (pv 1) (pa_cons (pe_ifExp (pt_cmpR (Y.op_neK (K := K) rfl hr.units) (Y.pe_f T.cl_Queue T.na_Queue_ins (pv 0)) (Y.pe_ls pa_nil) (nomark _)) (pe_callB (Y.call_min2 rfl) (by rfl) T.no_min (by decide +kernel) (pa_cons (pv 1) (pa_cons (pe_ix (Y.ixK (K := K) rfl) (pe_ix (Y.ixK (K := K) rfl) (Y.pe_f T.cl_Queue T.na_Queue_ins (pv 0)) (pe_un un_neg pe_int) (fun _ _ => rfl)) pe_int (fun _ _ => rfl)) pa_nil))) (pv 1)) pa_nil)))) pa_nil)) Y.app_i))), ?_⟩
  unfold sp_Queue_put at h
  split at h
  next q v =>
    obtain ⟨a, b, ins, outs, n, ⟨⟨dx, h1⟩, ⟨ts, h2, r2⟩, ⟨us, h3, r3⟩, ne, ft⟩, hl, h⟩ := h
    have el : ts.length = ins.length := by rw [All2.len r2, rows_len]
    walk_at "go"
    refine veq_rows (by walk_at "lk") (by walk_at "lk") (RowsAt.keep r2 fun b o e _ _ => by walk_at "lk") ?_
    walk_at "go"
    rename_i e0 H1 n1
    have fin : ∀ (m : Int) (t : Addr) (H2 H3 : Hp), m = leastI (ins ++ [v]) → Nw H1 t (.tup [.int v, .int m]) H2 → Wr H2 a (.lst (ts ++ [.ref t])) H3 → Q .non H3 := by
      intro m t H2 H3 em n2 n3
      have q1 : H3 q = some (.ins T.C_Queue dx (fsQ a b n)) := by walk_at "lk"
      have q2 : H3 a = some (.lst (ts ++ [.ref t])) := by walk_at "lk"
      have q3 : H3 b = some (.lst us) := by walk_at "lk"
      have q4 : H3 t = some (.tup [.int v, .int m]) := by walk_at "lk"
      have c : Chg T.tabs (Y.In [a]) H H3 := by walk_at "chg"
      have kp : ∀ g o, H g = some o → kd o = 1 → isTbl o = false → H3 g = some o := fun g o e1 e2 e3 => c.look e1 (by
        have : g ≠ a := ne_kd e1 h2 (by rw [e2]; simp [kd])
        simpa [Y.In] using this) e3
      refine h H3 c ⟨⟨dx, q1⟩, ⟨_, q2, ?_⟩, ⟨_, q3, RowsAt.keep r3 kp⟩, ne, ?_⟩
      · rw [rows_snoc, rows_add, ← em]
        exact All2.snoc (RowsAt.keep r2 kp) ⟨t, rfl, q4⟩
      · simp only [List.length_append, List.length_singleton]; omega
    walk_at "if"
    · intro c
      have ni : ins ≠ [] := fun z => c (rows_nil.mpr z)
      rcases List.eq_nil_or_concat ins with e1 | ⟨ins0, u, e1⟩
      · exact (ni e1).elim
      · rw [List.concat_eq_append] at e1
        have er : rows ins = rows ins0 ++ [(u, leastI ins)] := by rw [e1, rows_snoc, rows_add]
        rw [er] at r2
        obtain ⟨ts0, t, et, ra, ⟨t0, et0, ht0⟩⟩ := All2.unsnoc r2
        subst et et0
        walk_at "go"
        refine ⟨_, _, by walk_at "seq", atI_m1, ?_⟩
        have el2 : ts0.length + 1 = ins.length := by simpa using el
        walk_at "go"
        exact fin _ _ _ _ (least_snoc ni v) (by assumption) (by assumption)
    · intro c
      have ni : ins = [] := rows_nil.mp c
      walk_at "go"
      exact fin _ _ _ _ (by rw [ni]) (by assumption) (by assumption)
  next => exact h.elim
def sp_Queue_value_count (T : Env w K mg base) : Sp := fun vs H Q E => match vs with
  | [.ref q] => ∃ a b ins outs n, QueueAt T H q a b ins outs n ∧ Q (.int ((ins.length : Int) + outs.length)) H
  | _ => False
theorem ok_Queue_value_count (T : Env w K mg base) : FnOk prg w K mg base (L2.CX prg w) 8 T.f_Queue_value_count T.fd_Queue_value_count ["self"] (sp_Queue_value_count T) := by
  refine T.F_Queue_value_count.ok sc_Queue_value_count (fun vs H Q E h => by unfold sp_Queue_value_count at h; split at h <;> first | rfl | exact h.elim) fun A outer s H vs Q E hr h => ?_
  refine ⟨_, (pss_one (ps_ret (pe_op (Y.op_addK (K := K) rfl) (pe_callB (Y.lenK (K := K) rfl) (by rfl) T.no_len (by decide +kernel) (pa_cons (Y.pe_f T.cl_Queue T.na_Queue_ins (pv 0)) pa_nil)) (pe_callB (Y.lenK (K := K) rfl) (by rfl) T.no_len (by decide +kernel) (pa_cons (Y.pe_f T.cl_Queue T.na_Queue_outs (pv 0)) pa_nil))))), ?_⟩
  unfold sp_Queue_value_count at h
  split at h
  next q =>
    obtain ⟨a, b, ins, outs, n, ⟨⟨dx, h1⟩, ⟨ts, h2, r2⟩, ⟨us, h3, r3⟩, ne, ft⟩, h⟩ := h
    have e1 : ts.length = ins.length := by rw [All2.len r2, rows_len]
    have e2 : us.length = outs.length := by rw [All2.len r3, rows_len]
    walk_at "go"
    rw [← e1, ← e2] at h
    exact h
  next => exact h.elim
def sp_Queue_take_value (T : Env w K mg base) : Sp := fun vs H Q E => match vs with
  | [.ref q] => ∃ a b ins outs n, QueueAt T H q a b ins outs n ∧ (ins = [] → outs = [] → ∀ H', Chg T.tabs nil H H' → E (.ref T.C_RingError) none H') ∧
      (∀ o x, outs = o ++ [x] → ∀ H', Chg T.tabs (Y.In [q, b]) H H' → QueueAt T H' q a b ins o n → Q (.int x) H') ∧
      (∀ x xs, outs = [] → ins = x :: xs → ∀ a' H', Chg T.tabs (Y.In [q, b]) H H' → H a' = none → QueueAt T H' q a' b [] xs.reverse (n + 1) → Q (.int x) H')
  | _ => False
theorem ok_Queue_take_value (T : Env w K mg base) : FnOk prg w K mg base (L2.CX prg w) 8 T.f_Queue_take_value T.fd_Queue_take_value ["self"] (sp_Queue_take_value T) := by
  refine T.F_Queue_take_value.ok sc_Queue_take_value (fun vs H Q E h => by unfold sp_Queue_take_value at h; split at h <;> first | rfl | exact h.elim) fun A outer s H vs Q E hr h => ?_
  refine ⟨_, (pss_cons (ps_if (PW.pt (pw_and (pt_cmpR (Y.op_eqK (K := K) rfl hr.units) (Y.pe_f T.cl_Queue T.na_Queue_ins (pv 0)) (Y.pe_ls pa_nil) (nomark _)) (pw_and1 (pt_cmpR (Y.op_eqK (K := K) rfl hr.units) (Y.pe_f T.cl_Queue T.na_Queue_outs (pv 0)) (Y.pe_ls pa_nil) (nomark _))))) (pss_one (ps_raise rfl (takes_of rfl rfl rfl rfl) (pmk_own PySem.F.excBase_ValueError T.x_RingError T.mg_RingError T.k_RingError (raises_own T.bb_RingError T.tt_RingError) rfl))) pss_nil)
  (pss_cons (ps_if (pt_cmpR (Y.op_eqK (K := K) rfl hr.units) (Y.pe_f T.cl_Queue T.na_Queue_outs (pv 0)) (Y.pe_ls pa_nil) (nomark _)) (pss_cons (ps_for (passes_of rfl) rfl (Y.pi_seqK (K := K) rfl (Y.pe_revK (K := K) rfl (Y.pe_f T.cl_Queue T.na_Queue_ins (pv 0)))) (Y.pg_tupK (K := K) (n := 2) rfl rfl (pgs_cons (pg_name (i := 1) sc_Queue_take_value.nd rfl (Or.inl rfl)) (pgs_cons (pg_name (i := 2) sc_Queue_take_value.nd rfl (Or.inl rfl)) pgs_nil))) (pss_one (ps_expr (peI (pe_bm PySem.F.plainAttrs_list PySem.F.slot_list_append PySem.F.type_list_append mt_append (peU (Y.pe_f T.cl_Queue T.na_Queue_outs (pv 0))) (pa_cons (peU (Y.pe_tu (pa_cons (pv 1) (pa_cons (pe_ifExp (pt_cmpR (Y.op_neK (K := K) rfl hr.units) (Y.pe_f T.cl_Queue T.na_Queue_outs (pv 0)) (Y.pe_ls pa_nil) (nomark _)) (pe_callB (Y.call_min2 rfl) (by rfl) T.no_min (by decide +kernel) (pa_cons (pv 1) (pa_cons (pe_ix (Y.ixK (K := K) rfl) (pe_ix (Y.ixK (K := K) rfl) (Y.pe_f T.cl_Queue T.na_Queue_outs (pv 0)) (pe_un un_neg pe_int) (fun _ _ => rfl)) pe_int (fun _ _ => rfl)) pa_nil))) (pv 1)) pa_nil)))) pa_nil)) Y.app_i))))
  (pss_cons (Y.ps_f T.cl_Queue T.na_Queue_ins (pv 0) (Y.pe_ls pa_nil))
  (pss_one (Y.ps_fa T.cl_Queue T.na_Queue_poured in_add (pv 0) pe_int)))) pss_nil)
  (pss_one (ps_ret (pe_ix (Y.ixK (K := K) rfl) (peI (pe_bm0 PySem.F.plainAttrs_list PySem.F.slot_list_pop PySem.F.type_list_pop mt_pop (peU (Y.pe_f T.cl_Queue T.na_Queue_outs (pv 0)))) Y.pop_i) pe_int (fun _ _ => rfl)))))), ?_⟩
  unfold sp_Queue_take_value at h
  split at h
  next q =>
    obtain ⟨a, b, ins, outs, n, ⟨⟨dx, h1⟩, ⟨ts, h2, r2⟩, ⟨us, h3, r3⟩, ne, ft⟩, hE, hO, hI⟩ := h
    have el : ts.length = ins.length := by rw [All2.len r2, rows_len]
    have eu : us.length = outs.length := by rw [All2.len r3, rows_len]
    -- what popping leaves
    have pop : ∀ (G G' : Hp) (o : List Int) (x : Int) (us0 : List V), Wr G b (.lst us0) G' → outs = o ++ [x] → Chg T.tabs nil H G → RowsAt H us0 (rows o) → Q (.int x) G' := by
      intro G G' o x us0 wr eo cg ro
      have c : Chg T.tabs (Y.In [b]) H G' := .wr wr cg.any (by walk_at "in")
      have kp : ∀ g o, H g = some o → kd o = 1 → isTbl o = false → G' g = some o := fun g o e1 e2 e3 => c.look e1 (by
        have : g ≠ b := ne_kd e1 h3 (by rw [e2]; simp [kd])
        simpa [Y.In] using this) e3
      have q1 : G' q = some (.ins T.C_Queue dx (fsQ a b n)) := by walk_at "lk"
      have q2 : G' a = some (.lst ts) := by walk_at "lk"
      refine hO o x eo G' (c.mono fun g hg => .inl (by simp [Y.In] at hg ⊢; exact .inr hg)) ⟨⟨dx, q1⟩, ⟨_, q2, RowsAt.keep r2 kp⟩, ⟨_, wr.at, RowsAt.keep ro kp⟩, ne, ?_⟩
      have := ft.2; rw [eo] at this; simp at this; omega
    have split : outs ≠ [] → ∃ o x us0 t0, outs = o ++ [x] ∧ us = us0 ++ [.ref t0] ∧ RowsAt H us0 (rows o) ∧ ∃ m, H t0 = some (.tup [.int x, .int m]) := by
      intro no
      rcases List.eq_nil_or_concat outs with e1 | ⟨o, u, e1⟩
      · exact (no e1).elim
      · rw [List.concat_eq_append] at e1
        rw [e1, rows_snoc, rows_add] at r3
        obtain ⟨ts0, t, et, ra, ⟨t0, et0, ht0⟩⟩ := All2.unsnoc r3
        exact ⟨o, u, ts0, t0, e1, by rw [et, et0], ra, _, ht0⟩
    have r2k : ∀ G, Chg T.tabs nil H G → RowsAt G ts (rows ins) := fun G c => RowsAt.keep r2 fun g o e _ t => c.look e id t
    have r3k : ∀ G, Chg T.tabs nil H G → RowsAt G us (rows outs) := fun G c => RowsAt.keep r3 fun g o e _ t => c.look e id t
    walk_at "go"
    refine veq_rows (by walk_at "lk") (by walk_at "lk") (r2k _ (by walk_at "chg")) ?_
    walk_at "go"
    walk_at "if"
    · intro c1
      have ei : ins = [] := rows_nil.mp c1
      walk_at "go"
      refine veq_rows (by walk_at "lk") (by walk_at "lk") (r3k _ (by walk_at "chg")) ?_
      walk_at "go"
      walk_at "if"
      · intro c2
        exact hE ei (rows_nil.mp c2) _ (by walk_at "chg")
      · intro c2
        walk_at "go"
        refine veq_rows (by walk_at "lk") (by walk_at "lk") (r3k _ (by walk_at "chg")) ?_
        walk_at "go"
        walk_at "if"
        · intro c3
          exact (c2 c3).elim
        · intro c3
          obtain ⟨o, x, us0, t0, eo, rfl, ro, m, ht0⟩ := split fun z => c2 (rows_nil.mpr z)
          walk_at "go"
          exact pop _ _ o x us0 (by assumption) eo (by walk_at "chg") ro
    · intro c1
      walk_at "go"
      refine veq_rows (by walk_at "lk") (by walk_at "lk") (r3k _ (by walk_at "chg")) ?_
      walk_at "go"
      walk_at "if"
      · intro c2
        walk_at "go"
        rename_i e0 H1 n1 e1 H2 n2 r H3 n3
        have eo : outs = [] := rows_nil.mp c2
        have eus : us = [] := by rw [eo] at eu; exact List.length_eq_zero_iff.mp eu
        subst eus
        have hr : H3 r = some (.lst ts.reverse) := by walk_at "lk"
        have hq3 : H3 q = some (.ins T.C_Queue dx (fsQ a b n)) := by walk_at "lk"
        have hb3 : H3 b = some (.lst []) := by walk_at "lk"
        have nrb : r ≠ b := by walk_at "ne"
        have fresh : ∀ G, Chg T.tabs (Y.In [b]) H3 G → RowsAt G ts (rows ins) := fun G c => RowsAt.keep r2 fun g o e k t => c.look (by walk_at "lk") (by
          have : g ≠ b := ne_kd e h3 (by rw [k]; simp [kd])
          simpa [Y.In] using this) t
        refine for_list (xs := ts.reverse) (fun i σ G => ∃ us1 x1 x2, σ = [some (.ref q), x1, x2] ∧ Chg T.tabs (Y.In [b]) H3 G ∧ G b = some (.lst us1) ∧ RowsAt G us1 (rows (ins.reverse.take i))) ⟨[], _, _, rfl, .refl _, hb3, .nil⟩ ?_ ?_ ?_
        · rintro i σ G - ⟨us1, x1, x2, -, c, -, -⟩
          exact .of (c.look hr (by simpa [Y.In] using nrb) rfl)
        · rintro i x σ G hx ⟨us1, x1, x2, rfl, c, hb, rb⟩
          have rv := All2.rev (fresh G c)
          obtain ⟨⟨v, m⟩, hp, t, rfl, ht⟩ := All2.getL rv hx
          have hv : ins.reverse[i]? = some v := by
            have := congrArg (fun l => l.reverse[i]?) (rows_fst (vs := ins))
            simp only [← List.map_reverse, List.getElem?_map, hp] at this
            exact this.symm
          have hq : G q = some (.ins T.C_Queue dx (fsQ a b n)) := by walk_at "lk"
          walk_at "go"
          refine veq_rows (by walk_at "lk") (by walk_at "lk") (RowsAt.keep rb fun b o e _ _ => by walk_at "lk") ?_
          walk_at "go"
          rename_i e2 G1 m1
          have el3 : us1.length = (ins.reverse.take i).length := by rw [All2.len rb, rows_len]
          have el4 : us1.length ≤ 1000 := by rw [el3, List.length_take, List.length_reverse]; have := ft.1; omega
          have et : ins.reverse.take (i + 1) = ins.reverse.take i ++ [v] := by rw [List.take_add_one, hv]; rfl
          have fin : ∀ (m2 : Int) (t2 : Addr) (G2 G3 : Hp), m2 = leastI (ins.reverse.take i ++ [v]) → Nw G1 t2 (.tup [.int v, .int m2]) G2 → Wr G2 b (.lst (us1 ++ [.ref t2])) G3 → Chg T.tabs (Y.In [b]) H3 G3 ∧ G3 b = some (.lst (us1 ++ [.ref t2])) ∧ RowsAt G3 (us1 ++ [.ref t2]) (rows (ins.reverse.take (i + 1))) := by
            intro m2 t2 G2 G3 em n2 n3
            have q1 : Chg T.tabs (Y.In [b]) G G3 := by walk_at "chg"
            have q4 : G3 t2 = some (.tup [.int v, .int m2]) := by walk_at "lk"
            refine ⟨q1.ch c (by walk_at "sub"), n3.at, ?_⟩
            rw [et, rows_snoc, rows_add, ← em]
            exact All2.snoc (RowsAt.keep rb fun g o e1 k t => q1.look e1 (by
              have : g ≠ b := ne_kd e1 hb (by rw [k]; simp [kd])
              simpa [Y.In] using this) t) ⟨t2, rfl, q4⟩
          walk_at "if"
          · intro c4
            have ni : ins.reverse.take i ≠ [] := fun z => c4 (rows_nil.mpr z)
            rcases List.eq_nil_or_concat (ins.reverse.take i) with e4 | ⟨ins0, u, e4⟩
            · exact (ni e4).elim
            · rw [List.concat_eq_append] at e4
              have er : rows (ins.reverse.take i) = rows ins0 ++ [(u, leastI (ins.reverse.take i))] := by rw [e4, rows_snoc, rows_add]
              rw [er] at rb
              obtain ⟨ts0, t5, et5, ra, ⟨t0, et0, ht0⟩⟩ := All2.unsnoc rb
              subst et5 et0
              simp only [List.length_append, List.length_singleton] at el4
              walk_at "go"
              refine ⟨_, _, by walk_at "seq", atI_m1, ?_⟩
              walk_at "go"
              exact ⟨_, _, _, rfl, fin _ _ _ _ (least_snoc ni v) (by assumption) (by assumption)⟩
          · intro c4
            have ni : ins.reverse.take i = [] := rows_nil.mp c4
            walk_at "go"
            exact ⟨_, _, _, rfl, fin _ _ _ _ (by simp only [ni]; rfl) (by assumption) (by assumption)⟩
        · rintro σ G ⟨us1, x1, x2, rfl, c, hb, rb⟩
          have hq : G q = some (.ins T.C_Queue dx (fsQ a b n)) := by walk_at "lk"
          have el2 : ts.reverse.length = ins.reverse.length := by simp [el]
          rw [el2, List.take_length] at rb
          have ni : ins ≠ [] := fun z => c1 (rows_nil.mpr z)
          obtain ⟨x, xs, ei⟩ : ∃ x xs, ins = x :: xs := by
            cases hi : ins with
            | nil => exact (ni hi).elim
            | cons x xs => exact ⟨x, xs, rfl⟩
          rw [ei, List.reverse_cons, rows_snoc, rows_add] at rb
          obtain ⟨ts0, t5, et5, ra, ⟨t0, et0, ht0⟩⟩ := All2.unsnoc rb
          subst et5 et0
          walk_at "go"
          rename_i p G1 m1 G2 m2 G3 m3 G4 m4
          have fp : H p = none := by walk_at "fr"
          have kk : ∀ g o, G g = some o → kd o = 1 → isTbl o = false → G4 g = some o := fun g o e1 e2 e3 => m4.look (m3.look (m2.look (m1.look e1) (ne_kd e1 hq (by rw [e2]; simp [kd] <;> omega))) (ne_kd e1 hq (by rw [e2]; simp [kd] <;> omega))) (ne_kd e1 hb (by rw [e2]; simp [kd]))
          have cg : Chg T.tabs (Y.In [q, b]) H G4 := by walk_at "chg"
          have q1 : G4 q = some (.ins T.C_Queue dx (fsQ p b (n + 1))) := by walk_at "lk"
          have q2 : G4 p = some (.lst []) := by walk_at "lk"
          have q3 : G4 b = some (.lst ts0) := by walk_at "lk"
          have npb : p ≠ b := by walk_at "ne"
          refine hI x xs eo ei p G4 cg fp ⟨⟨dx, q1⟩, ⟨_, q2, .nil⟩, ⟨_, q3, RowsAt.keep ra kk⟩, npb, ?_⟩
          rw [ei] at ft; simp at ft ⊢; omega
      · intro c2
        obtain ⟨o, x, us0, t0, eo, rfl, ro, m, ht0⟩ := split fun z => c2 (rows_nil.mpr z)
        walk_at "go"
        exact pop _ _ o x us0 (by assumption) eo (by walk_at "chg") ro
  next => exact h.elim
end
end Z


set_option Elab.async false
set_option linter.all false
set_option maxRecDepth 100000
set_option maxHeartbeats 4000000
set_option pp.maxSteps 1500
namespace Z
open PySem PySem.Spec L2 LamX Y
local macro_rules | `(tactic| walk_at "lk") => `(tactic| first
  | assumption
  | exact Nw.at (by assumption)
  | exact Wr.at (by assumption)
  | exact Mkd.at (by assumption)
  | exact Nw.look (by assumption) (by walk_at "lk")
  | exact Mkd.look (by assumption) (by walk_at "lk")
  | exact Wr.look (by assumption) (by walk_at "lk") (by walk_at "ne")
  | exact Chg.look (by assumption) (by walk_at "lk") (by walk_at "nin") rfl
  | exact Tp.same (by assumption) _ _ (by walk_at "lk")
  | exact Grows.look (by assumption) (by walk_at "lk") rfl
  | fail)
local macro_rules | `(tactic| walk_at "ne") => `(tactic| first
  | assumption
  | exact Ne.symm (by assumption)
  | exact Nw.ne (by assumption) (by walk_at "lk")
  | exact Ne.symm (Nw.ne (by assumption) (by walk_at "lk"))
  | exact ne_fr (by assumption) (by walk_at "lk")
  | exact Ne.symm (ne_fr (by assumption) (by walk_at "lk"))
  | exact ne_fr (Mkd.nx (by assumption)) (by walk_at "lk")
  | exact Ne.symm (ne_fr (Mkd.nx (by assumption)) (by walk_at "lk"))
  | exact ne_kdn (by assumption) (by walk_at "lk") rfl
  | exact Ne.symm (ne_kdn (by assumption) (by walk_at "lk") rfl)
  | fail)
local macro_rules | `(tactic| walk_at "nin") => `(tactic| first
  | exact nin_nil
  | exact id
  | exact nin_cons (by walk_at "ne") (by walk_at "nin")
  | fail)
local macro_rules | `(tactic| walk_at "fr") => `(tactic| first
  | assumption
  | exact Nw.new (by assumption)
  | exact Mkd.nx (by assumption)
  | exact Nw.dom (by assumption) (by walk_at "fr")
  | exact Wr.dom (by assumption) (by walk_at "fr")
  | exact Mkd.dom (by assumption) (by walk_at "fr")
  | exact Chg.dom (by assumption) _ (by walk_at "fr")
  | exact Tp.dom (by assumption) _ (by walk_at "fr")
  | exact Grows.dom (by assumption) _ (by walk_at "fr")
  | fail)
local macro_rules | `(tactic| walk_at "mem") => `(tactic| first
  | assumption
  | exact List.mem_cons_self
  | (apply List.mem_cons_of_mem; walk_at "mem")
  | fail)
local macro_rules | `(tactic| walk_at "in") => `(tactic| first
  | assumption
  | (apply Or.inl; walk_at "mem")
  | (apply Or.inr; walk_at "fr")
  | fail)
local macro_rules | `(tactic| walk_at "sub") => `(tactic| first
  | exact sub_nil0
  | exact sub_nil
  | exact sub_cons (by walk_at "in") (by walk_at "sub")
  | fail)
local macro_rules | `(tactic| walk_at "chg") => `(tactic| first
  | assumption
  | exact Chg.refl _
  | exact Chg.nw (by assumption) (by walk_at "chg")
  | exact Chg.mkd (by assumption) (by walk_at "chg")
  | exact Chg.tp (by assumption) (by walk_at "chg")
  | exact Chg.gr (by assumption) (by walk_at "chg")
  | exact Chg.wr (by assumption) (by walk_at "chg") (by walk_at "in")
  | exact Chg.ch (by assumption) (by walk_at "chg") (by walk_at "sub")
  | fail)
local macro_rules | `(tactic| walk_at "sq") => `(tactic| first
  | assumption
  | exact SqL.of (by walk_at "lk")
  | exact Chg.seqL (by assumption) (by walk_at "sq") (by walk_at "nin")
  | exact SqL.nw (by assumption) (by walk_at "sq")
  | exact SqL.tp (by assumption) (by walk_at "sq")
  | exact SqL.mkd (by assumption) (by walk_at "sq")
  | exact SqL.wr (by assumption) (by walk_at "sq") (by walk_at "ne")
  | fail)
local macro_rules | `(tactic| walk_at "sqt") => `(tactic| first
  | assumption
  | exact SqT.of (by walk_at "lk")
  | exact Tp.sq (by assumption)
  | exact SqT.nw (by assumption) (by walk_at "sqt")
  | exact SqT.tp (by assumption) (by walk_at "sqt")
  | exact SqT.mkd (by assumption) (by walk_at "sqt")
  | exact SqT.chg (by assumption) (by walk_at "sqt") (by walk_at "nin")
  | fail)
local macro_rules | `(tactic| walk_at "seq") => `(tactic| first
  | assumption
  | exact .inl (by walk_at "sq")
  | exact .inr (by walk_at "sqt")
  | exact SqA.keepN (T := Env.tabs (by assumption)) (by assumption) (by walk_at "chg")
  | fail)
local macro_rules | `(tactic| walk_at "go") => `(tactic| repeat first
  | refine ⟨_, rfl, ?_⟩
  | refine ⟨_, _, _, _, rfl, And.intro (by walk_at "lk") (And.intro rfl ?_)⟩
  | refine ⟨_, _, _, rfl, And.intro (by walk_at "lk") (And.intro (by walk_at "side") ?_)⟩
  | refine ⟨_, _, And.intro rfl (And.intro rfl ?_)⟩
  | refine ⟨_, _, And.intro rfl (And.intro (by walk_at "lk") ?_)⟩
  | refine ⟨_, _, _, And.intro rfl (And.intro (by walk_at "lk") ?_)⟩
  | refine ⟨_, And.intro (by walk_at "lk") (And.intro (by walk_at "side") ?_)⟩
  | refine ⟨_, _, And.intro (by walk_at "lk") (And.intro (by walk_at "side") ?_)⟩
  | refine ⟨_, _, And.intro (by walk_at "seq") (And.intro rfl ?_)⟩
  | refine ⟨_, And.intro (by walk_at "seq") ?_⟩
  | refine ⟨_, And.intro (by walk_at "lk") (And.intro (by walk_at "side") (And.intro (by walk_at "side") (And.intro (by walk_at "side") ?_)))⟩
  | refine .inl ⟨_, _, And.intro (by walk_at "lk") (And.intro (by walk_at "lk") (And.intro (by walk_at "side") ?_))⟩
  | refine .inr ⟨_, _, And.intro (by walk_at "sqt") (And.intro (by walk_at "sqt") (And.intro (by walk_at "side") ?_))⟩
  | refine .inl ⟨_, And.intro (by walk_at "sq") ?_⟩
  | refine .inr ⟨_, And.intro (by walk_at "sqt") ?_⟩
  | refine ⟨_, _, _, _, rfl, rfl, And.intro (by walk_at "lk") (And.intro rfl ?_)⟩
  | refine fun H' (n : Wr _ _ _ H') => ?_
  | refine fun p H' (n : Nw _ p _ H') => ?_
  | refine fun r H' (n : Tp _ _ r _ H') => ?_
  | refine fun x dx H' (n : Mkd _ _ x dx H') => ?_
  | refine .inl ⟨_, _, rfl, And.intro (by walk_at "sq") (fun p H' (n : Nw _ p _ H') => ?_)⟩
  | refine .inr ⟨_, _, rfl, And.intro (by walk_at "sqt") (fun r H' (n : Tp _ _ r _ H') => ?_)⟩
  | refine ⟨_, _, rfl, And.intro (by walk_at "sq") (fun p H' (n : Nw _ p _ H') => ?_)⟩
  | refine .inl (And.intro ⟨_, by walk_at "sq"⟩ ?_)
  | refine .inr (And.intro ⟨_, by walk_at "sqt"⟩ ?_)
  | refine ⟨_, _, rfl, And.intro (by walk_at "sqt") (And.intro rfl ?_)⟩
  | refine ⟨_, _, And.intro rfl ?_⟩
  | refine ⟨_, _, _, And.intro rfl ?_⟩
  | refine And.intro rfl ?_
  | (refine ite_t ?_ ?_; exact rfl)
  | (refine ite_f ?_ ?_; exact rfl)
  | refine And.intro (by walk_at "side") ?_)
local macro_rules | `(tactic| walk_at "side") => `(tactic| first
  | exact (rfl : _ = _)
  | decide
  | exact lt1000 rfl
  | with_reducible assumption
  | exact ⟨by omega, by omega⟩
  | exact .inl ⟨by omega, by omega⟩
  | exact .inr ⟨by omega, by omega⟩
  | omega
  | (apply le_line; omega)
  | (apply lt_line; omega)
  | (apply le_line; simp <;> omega)
  | (apply lt_line; simp <;> omega)
  | fail)
local macro_rules | `(tactic| walk_at "if") => `(tactic| first
  | refine ite_nd ?_ ?_
  | refine ite_d ?_ ?_
  | refine ite_eqt ?_ ?_
  | fail)
local macro_rules | `(tactic| walk_at "roll") => `(tactic| first
  | (refine And.intro (show Dice _ _ from ⟨_, _, _, by walk_at "lk"⟩) (And.intro (by walk_at "side") (And.intro (by walk_at "side") (fun r H' r0 r1 ro => ?_))); obtain ⟨a', b', c', w⟩ := ro)
  | fail)
local macro_rules | `(tactic| walk_at "run") => `(tactic| (walk_at "go"; repeat (walk_at "roll"; walk_at "go")))
local macro_rules | `(tactic| walk_at "dp") => `(tactic| first
  | exact Dp.non
  | exact Dp.int _
  | exact Dp.str _
  | exact Dp.bl _
  | exact DpAll.nil
  | exact DpAll.cons (by walk_at "dp") (by walk_at "dp")
  | exact Dp.tup (by walk_at "sqt") (by walk_at "dp")
  | exact Dp.lst (by walk_at "sq") (by walk_at "dp")
  | fail)

section
variable {w : World} {K : PySem.W.Frag} {mg : Str → Option Value} {base : Heap}
theorem least_mem {l : List Int} (h : l ≠ []) : leastI l ∈ l ∧ ∀ y ∈ l, leastI l ≤ y := by
  revert h
  refine snocRec (P := fun l => l ≠ [] → leastI l ∈ l ∧ ∀ y ∈ l, leastI l ≤ y) (fun h => (h rfl).elim) (fun l v ih _ => ?_) l
  by_cases e : l = []
  · subst e; simp [leastI]
  · rw [← least_snoc e]
    obtain ⟨a, b⟩ := ih e
    constructor
    · rcases Int.le_total v (leastI l) with z | z
      · rw [Int.min_eq_left z]; simp
      · rw [Int.min_eq_right z]; simp [a]
    · intro y hy
      rcases List.mem_append.mp hy with z | z
      · have := b y z; omega
      · simp at z; omega
def jQ (l : List Int) : Nat := if l = [] then 0 else 1
def nsQ (ins outs : List Int) : List Int := (if ins = [] then [] else [leastI ins]) ++ (if outs = [] then [] else [leastI outs])
theorem nsQ_len {ins outs : List Int} : (nsQ ins outs).length = jQ ins + jQ outs := by
  unfold nsQ jQ; split <;> split <;> rfl
/-- one row's turn -/
theorem least_turn {T : Env w K mg base} {σ : L2.St} {H1 : Hp} {ys : List V} {j : Nat} {a : Addr} {l : List Int} {ts : List V} {out : Nat → Hp → Prop} {Pn : Nat → Hp → Prop} (hs : σ = [some (.ref q), none]) (h2 : H1 a = some (.lst ts)) (r2 : RowsAt H1 ts (rows l)) (hy : l ≠ [] → ys[j]? = some (.int (leastI l))) (hb : l.length ≤ 1000)
    (ho : ∀ H', Chg T.tabs nil H1 H' → out j H') (hn : ∀ H', Chg T.tabs nil H1 H' → Pn (j + jQ l) H') :
    GxNTurn (gName 1) (tTest (tOp (vEq K not) (tVar 1) (tLs tNil))) (tOp (uIx K) (tOp (uIx K) (tVar 1) (tUn (rU fun i => V.int (-i)) (tC (V.int 1)))) (tC (V.int 1))) [1] σ ys out j Pn (.ref a) H1 := by
  subst hs
  have el : ts.length = l.length := by rw [All2.len r2, rows_len]
  intro Nx Sk hN hS
  walk_at "go"
  rename_i p G m
  have cg : Chg T.tabs nil H1 G := by walk_at "chg"
  refine veq_rows (by walk_at "lk") (by walk_at "lk") (RowsAt.keep r2 fun g o e _ t => cg.look e id t) ?_
  walk_at "go"
  walk_at "if"
  · intro c
    have ni : l ≠ [] := fun z => c (rows_nil.mpr z)
    rcases List.eq_nil_or_concat l with e1 | ⟨l0, u, e1⟩
    · exact (ni e1).elim
    · rw [List.concat_eq_append] at e1
      have er : rows l = rows l0 ++ [(u, leastI l)] := by rw [e1, rows_snoc, rows_add]
      rw [er] at r2
      obtain ⟨ts0, t, et, ra, ⟨t0, et0, ht0⟩⟩ := All2.unsnoc r2
      subst et et0
      walk_at "go"
      refine ⟨_, _, by walk_at "seq", atI_m1, ?_⟩
      walk_at "go"
      have := hn G cg
      rw [jQ, if_neg ni] at this
      exact hN _ _ (hy ni) (ho G cg) this
  · intro c
    have ni : l = [] := rows_nil.mp c
    have := hn G cg
    rw [jQ, if_pos ni] at this
    exact hS _ this
theorem least_gen {T : Env w K mg base} {Q : VK} {G2 : Hp} {q a b t : Addr} {ins outs : List Int} {ts us : List V} {wi : TI} (ht : G2 t = some (.tup [.ref a, .ref b])) (h2 : G2 a = some (.lst ts)) (h3 : G2 b = some (.lst us)) (r2 : RowsAt G2 ts (rows ins)) (r3 : RowsAt G2 us (rows outs)) (hi : ins.length ≤ 1000) (ho : outs.length ≤ 1000) (n : ¬ (ins = [] ∧ outs = []))
    (h : ∀ v H', Chg T.tabs nil G2 H' → v ∈ outs ++ ins → (∀ y ∈ outs ++ ins, v ≤ y) → Q (.int v) H') :
    ∃ ys out cont, tGxN wi (gName 1) (tTest (tOp (vEq K not) (tVar 1) (tLs tNil))) (tOp (uIx K) (tOp (uIx K) (tVar 1) (tUn (rU fun i => V.int (-i)) (tC (V.int 1)))) (tC (V.int 1))) [1] (Itt K t) G2 [some (.ref q), none] ys out cont ∧
      ∃ ns : List Int, ys = ns.map V.int ∧ 0 < ns.length ∧ ∀ H' v, cont H' → v ∈ ns → (∀ y ∈ ns, v ≤ y) → Q (.int v) H' := by
  refine ⟨(nsQ ins outs).map V.int, fun _ _ => True, fun H' => Chg T.tabs nil G2 H', ?_, nsQ ins outs, rfl, ?_, fun H' v c hv hy => h v H' c ?_ ?_⟩
  · refine gnt (xs := [.ref a, .ref b]) (fun i j H' => Chg T.tabs nil G2 H' ∧ j = match i with | 0 => 0 | 1 => jQ ins | _ => jQ ins + jQ outs) ⟨.refl _, rfl⟩ ?_ ?_ ?_
    · rintro i j H' - ⟨c, -⟩
      walk_at "sqt"
    · rintro j H' ⟨c, rfl⟩
      exact ⟨by rw [List.length_map, nsQ_len]; rfl, c⟩
    · rintro i x j H' hx ⟨c, rfl⟩
      match i, hx with
      | 0, hx =>
        cases hx
        refine least_turn (T := T) (l := ins) rfl (c.look h2 id rfl) (RowsAt.keep r2 fun g o e _ t => c.look e id t) (fun ni => ?_) hi (fun _ _ => trivial) fun H' c' => ⟨c'.ch c (fun _ z => z.elim), by simp⟩
        simp [nsQ, ni]
      | 1, hx =>
        cases hx
        refine least_turn (T := T) (l := outs) rfl (c.look h3 id rfl) (RowsAt.keep r3 fun g o e _ t => c.look e id t) (fun ni => ?_) ho (fun _ _ => trivial) fun H' c' => ⟨c'.ch c (fun _ z => z.elim), rfl⟩
        unfold nsQ jQ
        split <;> simp [ni]
  · rw [nsQ_len]
    unfold jQ
    split <;> split <;> simp_all
  · unfold nsQ at hv
    rcases List.mem_append.mp hv with z | z
    · split at z
      · exact (nomatch z)
      · next ni => simp at z; rw [z]; exact List.mem_append_right _ (least_mem ni).1
    · split at z
      · exact (nomatch z)
      · next ni => simp at z; rw [z]; exact List.mem_append_left _ (least_mem ni).1
  · intro y hm
    rcases List.mem_append.mp hm with z | z
    · have ni : outs ≠ [] := by intro z2; rw [z2] at z; exact nomatch z
      exact Int.le_trans (hy (leastI outs) (by simp [nsQ, ni])) ((least_mem ni).2 y z)
    · have ni : ins ≠ [] := by intro z2; rw [z2] at z; exact nomatch z
      exact Int.le_trans (hy (leastI ins) (by simp [nsQ, ni])) ((least_mem ni).2 y z)
def sp_Queue_least_value (T : Env w K mg base) : Sp := fun vs H Q E => match vs with
  | [.ref q] => ∃ a b ins outs n, QueueAt T H q a b ins outs n ∧ Tabs T.tabs H ∧ (ins = [] → outs = [] → ∀ H', Chg T.tabs nil H H' → E (.ref T.C_RingError) none H') ∧
      ∀ v H', Chg T.tabs nil H H' → v ∈ outs ++ ins → (∀ y ∈ outs ++ ins, v ≤ y) → Q (.int v) H'
  | _ => False
theorem ok_Queue_least_value (T : Env w K mg base) : FnOk prg w K mg base (L2.CX prg w) 8 T.f_Queue_least_value T.fd_Queue_least_value ["self"] (sp_Queue_least_value T) := by
  refine T.F_Queue_least_value.ok sc_Queue_least_value (fun vs H Q E h => by unfold sp_Queue_least_value at h; split at h <;> first | rfl | exact h.elim) fun A outer s H vs Q E hr h => ?_
  refine ⟨_, (pss_cons (ps_if (PW.pt (pw_and (pt_cmpR (Y.op_eqK (K := K) rfl hr.units) (Y.pe_f T.cl_Queue T.na_Queue_ins (pv 0)) (Y.pe_ls pa_nil) (nomark _)) (pw_and1 (pt_cmpR (Y.op_eqK (K := K) rfl hr.units) (Y.pe_f T.cl_Queue T.na_Queue_outs (pv 0)) (Y.pe_ls pa_nil) (nomark _))))) (pss_one (ps_raise rfl (takes_of rfl rfl rfl rfl) (pmk_own PySem.F.excBase_ValueError T.x_RingError T.mg_RingError T.k_RingError (raises_own T.bb_RingError T.tt_RingError) rfl))) pss_nil)
  (pss_one (ps_ret (Y.pe_minG (Y.pgen_gxN (k := 0) (own := [("row", 1)]) (hr.mono (by decide)) T.tb_Queue_least_value rfl T.tm_Queue_least_value T.tu_Queue_least_value sc_Queue_least_value.nd (Y.pi_seqK (K := K) rfl (Y.pe_tu (pa_cons (Y.pe_f T.cl_Queue T.na_Queue_ins (pv 0)) (pa_cons (Y.pe_f T.cl_Queue T.na_Queue_outs (pv 0)) pa_nil)))) (blkOk_by (own := [("row", 1)]) (N := N_Queue_least_value) (sc := defScope s_Queue_least_value) (by decide +kernel)) (Y.gxOk_by (by decide +kernel)) (fun _ _ _ _ _ _ hr => (pg_name (i := 1) sc_Queue_least_value.nd rfl (Or.inl rfl))) (fun _ _ _ _ _ _ hr => (pts_one (pt_cmpR (Y.op_neK (K := K) rfl hr.units) (pv 1) (Y.pe_ls pa_nil) (nomark _)))) (fun _ _ _ _ _ _ hr => (pe_ix (Y.ixK (K := K) rfl) (pe_ix (Y.ixK (K := K) rfl) (pv 1) (pe_un un_neg pe_int) (fun _ _ => rfl)) pe_int (fun _ _ => rfl)))) (hr.mono (by decide)) rfl T.no_min)))), ?_⟩
  unfold sp_Queue_least_value at h
  split at h
  next q =>
    obtain ⟨a, b, ins, outs, n, ⟨⟨dx, h1⟩, ⟨ts, h2, r2⟩, ⟨us, h3, r3⟩, ne, ft⟩, tb, hE, hQ⟩ := h
    have k2 : ∀ G, Chg T.tabs nil H G → RowsAt G ts (rows ins) := fun G c => RowsAt.keep r2 fun g o e _ t => c.look e id t
    have k3 : ∀ G, Chg T.tabs nil H G → RowsAt G us (rows outs) := fun G c => RowsAt.keep r3 fun g o e _ t => c.look e id t
    have fin : ∀ (t : Addr) (G G2 : Hp), Chg T.tabs nil H G2 → G2 t = some (.tup [.ref a, .ref b]) → ¬ (ins = [] ∧ outs = []) → _ := fun t G G2 c ht z => least_gen (T := T) (Q := Q) (q := q) (t := t) (G2 := G2) (wi := iSeq K (tTu (tCons (tF T.C_Queue "ins" (tVar 0)) (tCons (tF T.C_Queue "outs" (tVar 0)) tNil)))) ht (c.look h2 id rfl) (c.look h3 id rfl) (k2 G2 c) (k3 G2 c) ft.1 ft.2 z (fun v H' c' => hQ v H' (c'.ch c fun _ z => z.elim))
    walk_at "go"
    refine veq_rows (by walk_at "lk") (by walk_at "lk") (k2 _ (by walk_at "chg")) ?_
    walk_at "go"
    walk_at "if"
    · intro c1
      have ei : ins = [] := rows_nil.mp c1
      walk_at "go"
      refine veq_rows (by walk_at "lk") (by walk_at "lk") (k3 _ (by walk_at "chg")) ?_
      walk_at "go"
      walk_at "if"
      · intro c2
        exact hE ei (rows_nil.mp c2) _ (by walk_at "chg")
      · intro c2
        walk_at "go"
        rename_i t G2 n2
        refine ⟨Chg.tabs (S := nil) (H := H) (by walk_at "chg") tb, fun G3 g3 => ?_⟩
        exact fin t G3 G3 (by walk_at "chg") (g3.look n2.at rfl) fun z => c2 (rows_nil.mpr z.2)
    · intro c1
      walk_at "go"
      rename_i t G2 n2
      refine ⟨Chg.tabs (S := nil) (H := H) (by walk_at "chg") tb, fun G3 g3 => ?_⟩
      exact fin t G3 G3 (by walk_at "chg") (g3.look n2.at rfl) fun z => c1 (rows_nil.mpr z.1)
  next => exact h.elim
end
end Z


set_option Elab.async false
set_option linter.all false
set_option maxRecDepth 100000
set_option maxHeartbeats 4000000
set_option pp.maxSteps 1500
namespace Z
open PySem PySem.Spec L2 LamX Y
local macro_rules | `(tactic| walk_at "lk") => `(tactic| first
  | assumption
  | exact Nw.at (by assumption)
  | exact Wr.at (by assumption)
  | exact Mkd.at (by assumption)
  | exact Nw.look (by assumption) (by walk_at "lk")
  | exact Mkd.look (by assumption) (by walk_at "lk")
  | exact Wr.look (by assumption) (by walk_at "lk") (by walk_at "ne")
  | exact Chg.look (by assumption) (by walk_at "lk") (by walk_at "nin") rfl
  | exact Tp.same (by assumption) _ _ (by walk_at "lk")
  | exact Grows.look (by assumption) (by walk_at "lk") rfl
  | fail)
local macro_rules | `(tactic| walk_at "ne") => `(tactic| first
  | assumption
  | exact Ne.symm (by assumption)
  | exact Nw.ne (by assumption) (by walk_at "lk")
  | exact Ne.symm (Nw.ne (by assumption) (by walk_at "lk"))
  | exact ne_fr (by assumption) (by walk_at "lk")
  | exact Ne.symm (ne_fr (by assumption) (by walk_at "lk"))
  | exact ne_fr (Mkd.nx (by assumption)) (by walk_at "lk")
  | exact Ne.symm (ne_fr (Mkd.nx (by assumption)) (by walk_at "lk"))
  | exact ne_kdn (by assumption) (by walk_at "lk") rfl
  | exact Ne.symm (ne_kdn (by assumption) (by walk_at "lk") rfl)
  | fail)
local macro_rules | `(tactic| walk_at "nin") => `(tactic| first
  | exact nin_nil
  | exact id
  | exact nin_cons (by walk_at "ne") (by walk_at "nin")
  | fail)
local macro_rules | `(tactic| walk_at "fr") => `(tactic| first
  | assumption
  | exact Nw.new (by assumption)
  | exact Mkd.nx (by assumption)
  | exact Nw.dom (by assumption) (by walk_at "fr")
  | exact Wr.dom (by assumption) (by walk_at "fr")
  | exact Mkd.dom (by assumption) (by walk_at "fr")
  | exact Chg.dom (by assumption) _ (by walk_at "fr")
  | exact Tp.dom (by assumption) _ (by walk_at "fr")
  | exact Grows.dom (by assumption) _ (by walk_at "fr")
  | fail)
local macro_rules | `(tactic| walk_at "mem") => `(tactic| first
  | assumption
  | exact List.mem_cons_self
  | (apply List.mem_cons_of_mem; walk_at "mem")
  | fail)
local macro_rules | `(tactic| walk_at "in") => `(tactic| first
  | assumption
  | (apply Or.inl; walk_at "mem")
  | (apply Or.inr; walk_at "fr")
  | fail)
local macro_rules | `(tactic| walk_at "sub") => `(tactic| first
  | exact sub_nil0
  | exact sub_nil
  | exact sub_cons (by walk_at "in") (by walk_at "sub")
  | fail)
local macro_rules | `(tactic| walk_at "chg") => `(tactic| first
  | assumption
  | exact Chg.refl _
  | exact Chg.nw (by assumption) (by walk_at "chg")
  | exact Chg.mkd (by assumption) (by walk_at "chg")
  | exact Chg.tp (by assumption) (by walk_at "chg")
  | exact Chg.gr (by assumption) (by walk_at "chg")
  | exact Chg.wr (by assumption) (by walk_at "chg") (by walk_at "in")
  | exact Chg.ch (by assumption) (by walk_at "chg") (by walk_at "sub")
  | fail)
local macro_rules | `(tactic| walk_at "sq") => `(tactic| first
  | assumption
  | exact SqL.of (by walk_at "lk")
  | exact Chg.seqL (by assumption) (by walk_at "sq") (by walk_at "nin")
  | exact SqL.nw (by assumption) (by walk_at "sq")
  | exact SqL.tp (by assumption) (by walk_at "sq")
  | exact SqL.mkd (by assumption) (by walk_at "sq")
  | exact SqL.wr (by assumption) (by walk_at "sq") (by walk_at "ne")
  | fail)
local macro_rules | `(tactic| walk_at "sqt") => `(tactic| first
  | assumption
  | exact SqT.of (by walk_at "lk")
  | exact Tp.sq (by assumption)
  | exact SqT.nw (by assumption) (by walk_at "sqt")
  | exact SqT.tp (by assumption) (by walk_at "sqt")
  | exact SqT.mkd (by assumption) (by walk_at "sqt")
  | exact SqT.chg (by assumption) (by walk_at "sqt") (by walk_at "nin")
  | fail)
local macro_rules | `(tactic| walk_at "seq") => `(tactic| first
  | assumption
  | exact .inl (by walk_at "sq")
  | exact .inr (by walk_at "sqt")
  | exact SqA.keepN (T := Env.tabs (by assumption)) (by assumption) (by walk_at "chg")
  | fail)
local macro_rules | `(tactic| walk_at "go") => `(tactic| repeat first
  | refine ⟨_, rfl, ?_⟩
  | refine ⟨_, _, _, _, rfl, And.intro (by walk_at "lk") (And.intro rfl ?_)⟩
  | refine ⟨_, _, _, rfl, And.intro (by walk_at "lk") (And.intro (by walk_at "side") ?_)⟩
  | refine ⟨_, _, And.intro rfl (And.intro rfl ?_)⟩
  | refine ⟨_, _, And.intro rfl (And.intro (by walk_at "lk") ?_)⟩
  | refine ⟨_, _, _, And.intro rfl (And.intro (by walk_at "lk") ?_)⟩
  | refine ⟨_, And.intro (by walk_at "lk") (And.intro (by walk_at "side") ?_)⟩
  | refine ⟨_, _, And.intro (by walk_at "lk") (And.intro (by walk_at "side") ?_)⟩
  | refine ⟨_, _, And.intro (by walk_at "seq") (And.intro rfl ?_)⟩
  | refine ⟨_, And.intro (by walk_at "seq") ?_⟩
  | refine ⟨_, And.intro (by walk_at "lk") (And.intro (by walk_at "side") (And.intro (by walk_at "side") (And.intro (by walk_at "side") ?_)))⟩
  | refine .inl ⟨_, _, And.intro (by walk_at "lk") (And.intro (by walk_at "lk") (And.intro (by walk_at "side") ?_))⟩
  | refine .inr ⟨_, _, And.intro (by walk_at "sqt") (And.intro (by walk_at "sqt") (And.intro (by walk_at "side") ?_))⟩
  | refine .inl ⟨_, And.intro (by walk_at "sq") ?_⟩
  | refine .inr ⟨_, And.intro (by walk_at "sqt") ?_⟩
  | refine ⟨_, _, _, _, rfl, rfl, And.intro (by walk_at "lk") (And.intro rfl ?_)⟩
  | refine fun H' (n : Wr _ _ _ H') => ?_
  | refine fun p H' (n : Nw _ p _ H') => ?_
  | refine fun r H' (n : Tp _ _ r _ H') => ?_
  | refine fun x dx H' (n : Mkd _ _ x dx H') => ?_
  | refine .inl ⟨_, _, rfl, And.intro (by walk_at "sq") (fun p H' (n : Nw _ p _ H') => ?_)⟩
  | refine .inr ⟨_, _, rfl, And.intro (by walk_at "sqt") (fun r H' (n : Tp _ _ r _ H') => ?_)⟩
  | refine ⟨_, _, rfl, And.intro (by walk_at "sq") (fun p H' (n : Nw _ p _ H') => ?_)⟩
  | refine .inl (And.intro ⟨_, by walk_at "sq"⟩ ?_)
  | refine .inr (And.intro ⟨_, by walk_at "sqt"⟩ ?_)
  | refine ⟨_, _, rfl, And.intro (by walk_at "sqt") (And.intro rfl ?_)⟩
  | refine ⟨_, _, And.intro rfl ?_⟩
  | refine ⟨_, _, _, And.intro rfl ?_⟩
  | refine And.intro rfl ?_
  | (refine ite_t ?_ ?_; exact rfl)
  | (refine ite_f ?_ ?_; exact rfl)
  | refine And.intro (by walk_at "side") ?_)
local macro_rules | `(tactic| walk_at "side") => `(tactic| first
  | exact (rfl : _ = _)
  | decide
  | exact lt1000 rfl
  | with_reducible assumption
  | exact ⟨by omega, by omega⟩
  | exact .inl ⟨by omega, by omega⟩
  | exact .inr ⟨by omega, by omega⟩
  | omega
  | (apply le_line; omega)
  | (apply lt_line; omega)
  | (apply le_line; simp <;> omega)
  | (apply lt_line; simp <;> omega)
  | fail)
local macro_rules | `(tactic| walk_at "if") => `(tactic| first
  | refine ite_nd ?_ ?_
  | refine ite_d ?_ ?_
  | refine ite_eqt ?_ ?_
  | fail)
local macro_rules | `(tactic| walk_at "roll") => `(tactic| first
  | (refine And.intro (show Dice _ _ from ⟨_, _, _, by walk_at "lk"⟩) (And.intro (by walk_at "side") (And.intro (by walk_at "side") (fun r H' r0 r1 ro => ?_))); obtain ⟨a', b', c', w⟩ := ro)
  | fail)
local macro_rules | `(tactic| walk_at "run") => `(tactic| (walk_at "go"; repeat (walk_at "roll"; walk_at "go")))
local macro_rules | `(tactic| walk_at "dp") => `(tactic| first
  | exact Dp.non
  | exact Dp.int _
  | exact Dp.str _
  | exact Dp.bl _
  | exact DpAll.nil
  | exact DpAll.cons (by walk_at "dp") (by walk_at "dp")
  | exact Dp.tup (by walk_at "sqt") (by walk_at "dp")
  | exact Dp.lst (by walk_at "sq") (by walk_at "dp")
  | fail)

section
variable {w : World} {K : PySem.W.Frag} {mg : Str → Option Value} {base : Heap}
def josAt (step here : Int) (n : Nat) : Nat := ((here + step - 1) % (n : Int)).toNat
def jos (step : Int) : Nat → List V → Int → List V
  | 0, _, _ => []
  | n + 1, l, here => l[josAt step here l.length]?.toList ++ jos step n (l.take (josAt step here l.length) ++ l.drop (josAt step here l.length + 1)) (josAt step here l.length)
def intsV (n : Nat) : List V := (List.range n).map fun i => V.int (i : Nat)
def lenAt (H : Hp) : Option V → Nat
  | some (.ref a) => match H a with
    | some (.lst xs) => xs.length
    | _ => 0
  | _ => 0
theorem lenAt_of {H : Hp} {a : Addr} {xs : List V} (h : H a = some (.lst xs)) : lenAt H (some (.ref a)) = xs.length := by simp only [lenAt, h]
def isInt : V → Bool
  | .int _ => true
  | _ => false
theorem isInt_flat {xs : List V} (h : ∀ x ∈ xs, isInt x = true) : ∀ x ∈ xs, flat x = true := fun x hx => by
  have := h x hx
  cases x <;> simp_all [isInt, flat]
def sp_last_of_ring (T : Env w K mg base) : Sp := fun vs H Q E => match vs with
  | [.int many, .int step] => (¬ (1 ≤ many ∧ 1 ≤ step ∧ many ≤ 256) → ∀ H', Chg T.tabs nil H H' → E (.ref T.C_RingError) none H') ∧
      (1 ≤ many → 1 ≤ step → many ≤ 256 → ∀ r H', Chg T.tabs nil H H' → H r = none → H' r = some (.tup (jos step many.toNat (intsV many.toNat) 0)) → Q (.ref r) H')
  | _ => False
theorem ok_last_of_ring (T : Env w K mg base) : FnOk prg w K mg base (L2.CX prg w) 8 T.f_last_of_ring T.fd_last_of_ring ["many", "step"] (sp_last_of_ring T) := by
  refine T.F_last_of_ring.ok sc_last_of_ring (fun vs H Q E h => by unfold sp_last_of_ring at h; split at h <;> first | rfl | exact h.elim) fun A outer s H vs Q E hr h => ?_
  refine ⟨_, (pss_cons (ps_if (PW.pt (pw_or (pt_cmpR Y.op_lt (pe_callB (Y.call_min2 rfl) (by rfl) T.no_min (by decide +kernel) (pa_cons (pv 0) (pa_cons (pv 1) pa_nil))) pe_int (nomark _)) (pw_or1 (pt_cmpR Y.op_gt (pv 0) (pe_glob rfl T.mg_MOST_ROOM T.rv_MOST_ROOM) (nomark _))))) (pss_one (ps_raise rfl (takes_of rfl rfl rfl rfl) (pmk_own PySem.F.excBase_ValueError T.x_RingError T.mg_RingError T.k_RingError (raises_own T.bb_RingError T.tt_RingError) rfl))) pss_nil)
  (pss_cons (ps_par3 (i := 2) (j := 3) (l := 4) (by rfl) sc_last_of_ring.nd rfl rfl rfl (by decide) (by decide) (by decide) rfl rfl rfl (pa_cons (Y.pe_listRg1 rfl rfl T.no_list rfl T.no_range (pv 0)) (pa_cons pe_int (pa_cons (Y.pe_ls pa_nil) pa_nil))) (by rfl))
  (pss_cons (ps_while (passes_of rfl) (pt_cmpR (Y.op_neK (K := K) rfl hr.units) (pv 2) (Y.pe_ls pa_nil) (nomark _)) (pss_cons (ps_set (i := 3) sc_last_of_ring.nd rfl (Or.inl rfl) (pe_op Y.op_mod (pe_op Y.op_sub (pe_op (Y.op_addK (K := K) rfl) (pv 3) (pv 1)) pe_int) (pe_callB (Y.lenK (K := K) rfl) (by rfl) T.no_len (by decide +kernel) (pa_cons (pv 2) pa_nil))))
  (pss_cons (ps_expr (peI (pe_bm PySem.F.plainAttrs_list PySem.F.slot_list_append PySem.F.type_list_append mt_append (peU (pv 4)) (pa_cons (peU (pe_ix (Y.ixK (K := K) rfl) (pv 2) (pv 3) (fun _ _ => rfl))) pa_nil)) Y.app_i))
  (pss_one (ps_set (i := 2) sc_last_of_ring.nd rfl (Or.inl rfl) (pe_op (Y.op_addK (K := K) rfl) (pe_slice (Y.slK (K := K) rfl) (pv 2) po_none (po_some (pv 3))) (pe_slice (Y.slK (K := K) rfl) (pv 2) (po_some (pe_op (Y.op_addK (K := K) rfl) (pv 3) pe_int)) po_none)))))))
  (pss_one (ps_ret (pe_callTy (Y.tupleK (K := K) rfl) (by rfl) T.no_tuple (by decide +kernel) (pa_cons (pv 4) pa_nil))))))), ?_⟩
  unfold sp_last_of_ring at h
  split at h
  next many step =>
    obtain ⟨hE, hQ⟩ := h
    walk_at "go"
    walk_at "if"
    · intro c1
      walk_at "go"
      exact hE (by omega) _ (.refl _)
    · intro c1
      walk_at "go"
      walk_at "if"
      · intro c2
        walk_at "go"
        exact hE (by omega) _ (.refl _)
      · intro c2
        walk_at "go"
        skip
        walk_at "go"
        rename_i l H1 n1 fo H2 n2
        have e1 : rgV 0 many = intsV many.toNat := by simp [rgV, intsV]
        rw [e1] at n1
        have fl : H l = none := by walk_at "fr"
        have ff : H fo = none := by walk_at "fr"
        have cg : Chg T.tabs nil H H2 := by walk_at "chg"
        have q1 : H2 l = some (.lst (intsV many.toNat)) := by walk_at "lk"
        refine while_n (fun σ G => ∃ l here xs ys, σ = [some (.int many), some (.int step), some (.ref l), some (.int here), some (.ref fo)] ∧ Chg T.tabs nil H G ∧ G l = some (.lst xs) ∧ G fo = some (.lst ys) ∧ l ≠ fo ∧ (∀ x ∈ xs, isInt x = true) ∧ 0 ≤ here ∧ xs.length + ys.length = many.toNat ∧ ys ++ jos step xs.length xs here = jos step many.toNat (intsV many.toNat) 0)
          (fun σ G => lenAt G (σ.getD 2 none)) ⟨l, 0, _, _, rfl, cg, q1, n2.at, (by walk_at "ne"), ?_, by omega, by simp [intsV], by simp [intsV]⟩ ?_
        · intro x hx
          simp only [intsV, List.mem_map] at hx
          obtain ⟨i, _, rfl⟩ := hx
          rfl
        · rintro σ G ⟨l1, here, xs, ys, rfl, c, g1, g2, nlf, hi, h0, hle, hj⟩
          walk_at "go"
          rename_i e3 H3 n3
          refine veq_ll (by walk_at "sq") (by walk_at "sq") (isInt_flat hi) (by simp) (p := xs = []) Iff.rfl ?_
          walk_at "go"
          walk_at "if"
          · intro c3
            refine wh_step ?_
            have np : 0 < (xs.length : Int) := by have : xs.length ≠ 0 := fun z => c3 (List.length_eq_zero_iff.mp z); omega
            have r0 := Int.emod_nonneg (here + step - 1) (b := (xs.length : Int)) (by omega)
            have r1 := Int.emod_lt_of_pos (here + step - 1) (b := (xs.length : Int)) np
            have hj1 : josAt step here xs.length < xs.length := by unfold josAt; omega
            have hx : xs[josAt step here xs.length]? = some xs[josAt step here xs.length] := List.getElem?_eq_getElem hj1
            have hat : atI xs ((here + step - 1) % (xs.length : Int)) = some xs[josAt step here xs.length] := by
              rw [atI_nat r0 r1, ← hx]; rfl
            have hl : xs.length = (xs.length - 1) + 1 := by omega
            have hf : ys.length < sizeLine := lt_line (by omega)
            have k1 : cutV xs none (some ((here + step - 1) % (xs.length : Int))) = xs.take (josAt step here xs.length) := cut_to r0
            have k2 : cutV xs (some ((here + step - 1) % (xs.length : Int) + 1)) none = xs.drop (josAt step here xs.length + 1) := by
              rw [cut_from (by omega), show ((here + step - 1) % (xs.length : Int) + 1).toNat = josAt step here xs.length + 1 by unfold josAt; omega]
            have hz : (cutV xs none (some ((here + step - 1) % (xs.length : Int)))).length + (cutV xs (some ((here + step - 1) % (xs.length : Int) + 1)) none).length ≤ sizeLine := by
              rw [k1, k2]; exact le_line (by simp; omega)
            walk_at "go"
            refine ⟨_, _, by walk_at "seq", hat, ?_⟩
            walk_at "go"
            rename_i G5 n5 r6 G6 n6 r7 G7 n7 r8 G8 n8
            rw [k1] at n6
            rw [k2] at n7
            rw [k1, k2] at n8
            have q1 : G8 r8 = some (.lst (xs.take (josAt step here xs.length) ++ xs.drop (josAt step here xs.length + 1))) := n8.at
            have q2 : G8 fo = some (.lst (ys ++ [xs[josAt step here xs.length]])) := by walk_at "lk"
            refine ⟨⟨r8, _, _, _, rfl, by walk_at "chg", q1, q2, (by walk_at "ne"), ?_, r0, by simp; omega, ?_⟩, ?_⟩
            · intro x hx
              rcases List.mem_append.mp hx with z | z
              · exact hi x (List.mem_of_mem_take z)
              · exact hi x (List.mem_of_mem_drop z)
            · rw [← hj]
              rw [show (xs.take (josAt step here xs.length) ++ xs.drop (josAt step here xs.length + 1)).length = xs.length - 1 by simp; omega]
              conv => rhs; rw [hl]
              have e : ∀ n, jos step (n + 1) xs here = xs[josAt step here xs.length]?.toList ++ jos step n (xs.take (josAt step here xs.length) ++ xs.drop (josAt step here xs.length + 1)) (josAt step here xs.length) := fun n => rfl
              rw [e, hx, List.append_assoc, show ((josAt step here xs.length : Nat) : Int) = (here + step - 1) % (xs.length : Int) by unfold josAt; omega]
              rfl
            · show lenAt G8 (some (.ref r8)) < lenAt G (some (.ref l1))
              rw [lenAt_of q1, lenAt_of g1]; simp; omega
          · intro c3
            walk_at "go"
            rename_i r H4 n4
            subst c3
            rw [List.length_nil, jos, List.append_nil] at hj
            rw [hj] at n4
            exact hQ (by omega) (by omega) (by omega) r H4 (by walk_at "chg") (by walk_at "fr") n4.at
  next => exact h.elim
end
end Z


set_option Elab.async false
set_option linter.all false
set_option maxRecDepth 100000
set_option maxHeartbeats 4000000
set_option pp.maxSteps 1500
namespace Z
open PySem PySem.Spec L2 LamX Y
local macro_rules | `(tactic| walk_at "lk") => `(tactic| first
  | assumption
  | exact Nw.at (by assumption)
  | exact Wr.at (by assumption)
  | exact Mkd.at (by assumption)
  | exact Nw.look (by assumption) (by walk_at "lk")
  | exact Mkd.look (by assumption) (by walk_at "lk")
  | exact Wr.look (by assumption) (by walk_at "lk") (by walk_at "ne")
  | exact Chg.look (by assumption) (by walk_at "lk") (by walk_at "nin") rfl
  | exact Tp.same (by assumption) _ _ (by walk_at "lk")
  | exact Grows.look (by assumption) (by walk_at "lk") rfl
  | fail)
local macro_rules | `(tactic| walk_at "ne") => `(tactic| first
  | assumption
  | exact Ne.symm (by assumption)
  | exact Nw.ne (by assumption) (by walk_at "lk")
  | exact Ne.symm (Nw.ne (by assumption) (by walk_at "lk"))
  | exact ne_fr (by assumption) (by walk_at "lk")
  | exact Ne.symm (ne_fr (by assumption) (by walk_at "lk"))
  | exact ne_fr (Mkd.nx (by assumption)) (by walk_at "lk")
  | exact Ne.symm (ne_fr (Mkd.nx (by assumption)) (by walk_at "lk"))
  | exact ne_kdn (by assumption) (by walk_at "lk") rfl
  | exact Ne.symm (ne_kdn (by assumption) (by walk_at "lk") rfl)
  | fail)
local macro_rules | `(tactic| walk_at "nin") => `(tactic| first
  | exact nin_nil
  | exact id
  | exact nin_cons (by walk_at "ne") (by walk_at "nin")
  | fail)
local macro_rules | `(tactic| walk_at "fr") => `(tactic| first
  | assumption
  | exact Nw.new (by assumption)
  | exact Mkd.nx (by assumption)
  | exact Nw.dom (by assumption) (by walk_at "fr")
  | exact Wr.dom (by assumption) (by walk_at "fr")
  | exact Mkd.dom (by assumption) (by walk_at "fr")
  | exact Chg.dom (by assumption) _ (by walk_at "fr")
  | exact Tp.dom (by assumption) _ (by walk_at "fr")
  | exact Grows.dom (by assumption) _ (by walk_at "fr")
  | fail)
local macro_rules | `(tactic| walk_at "mem") => `(tactic| first
  | assumption
  | exact List.mem_cons_self
  | (apply List.mem_cons_of_mem; walk_at "mem")
  | fail)
local macro_rules | `(tactic| walk_at "in") => `(tactic| first
  | assumption
  | (apply Or.inl; walk_at "mem")
  | (apply Or.inr; walk_at "fr")
  | fail)
local macro_rules | `(tactic| walk_at "sub") => `(tactic| first
  | exact sub_nil0
  | exact sub_nil
  | exact sub_cons (by walk_at "in") (by walk_at "sub")
  | fail)
local macro_rules | `(tactic| walk_at "chg") => `(tactic| first
  | assumption
  | exact Chg.refl _
  | exact Chg.nw (by assumption) (by walk_at "chg")
  | exact Chg.mkd (by assumption) (by walk_at "chg")
  | exact Chg.tp (by assumption) (by walk_at "chg")
  | exact Chg.gr (by assumption) (by walk_at "chg")
  | exact Chg.wr (by assumption) (by walk_at "chg") (by walk_at "in")
  | exact Chg.ch (by assumption) (by walk_at "chg") (by walk_at "sub")
  | fail)
local macro_rules | `(tactic| walk_at "sq") => `(tactic| first
  | assumption
  | exact SqL.of (by walk_at "lk")
  | exact Chg.seqL (by assumption) (by walk_at "sq") (by walk_at "nin")
  | exact SqL.nw (by assumption) (by walk_at "sq")
  | exact SqL.tp (by assumption) (by walk_at "sq")
  | exact SqL.mkd (by assumption) (by walk_at "sq")
  | exact SqL.wr (by assumption) (by walk_at "sq") (by walk_at "ne")
  | fail)
local macro_rules | `(tactic| walk_at "sqt") => `(tactic| first
  | assumption
  | exact SqT.of (by walk_at "lk")
  | exact Tp.sq (by assumption)
  | exact SqT.nw (by assumption) (by walk_at "sqt")
  | exact SqT.tp (by assumption) (by walk_at "sqt")
  | exact SqT.mkd (by assumption) (by walk_at "sqt")
  | exact SqT.chg (by assumption) (by walk_at "sqt") (by walk_at "nin")
  | fail)
local macro_rules | `(tactic| walk_at "seq") => `(tactic| first
  | assumption
  | exact .inl (by walk_at "sq")
  | exact .inr (by walk_at "sqt")
  | exact SqA.keepN (T := Env.tabs (by assumption)) (by assumption) (by walk_at "chg")
  | fail)
local macro_rules | `(tactic| walk_at "go") => `(tactic| repeat first
  | refine ⟨_, rfl, ?_⟩
  | refine ⟨_, _, _, _, rfl, And.intro (by walk_at "lk") (And.intro rfl ?_)⟩
  | refine ⟨_, _, _, rfl, And.intro (by walk_at "lk") (And.intro (by walk_at "side") ?_)⟩
  | refine ⟨_, _, And.intro rfl (And.intro rfl ?_)⟩
  | refine ⟨_, _, And.intro rfl (And.intro (by walk_at "lk") ?_)⟩
  | refine ⟨_, _, _, And.intro rfl (And.intro (by walk_at "lk") ?_)⟩
  | refine ⟨_, And.intro (by walk_at "lk") (And.intro (by walk_at "side") ?_)⟩
  | refine ⟨_, _, And.intro (by walk_at "lk") (And.intro (by walk_at "side") ?_)⟩
  | refine ⟨_, _, And.intro (by walk_at "seq") (And.intro rfl ?_)⟩
  | refine ⟨_, And.intro (by walk_at "seq") ?_⟩
  | refine ⟨_, And.intro (by walk_at "lk") (And.intro (by walk_at "side") (And.intro (by walk_at "side") (And.intro (by walk_at "side") ?_)))⟩
  | refine .inl ⟨_, _, And.intro (by walk_at "lk") (And.intro (by walk_at "lk") (And.intro (by walk_at "side") ?_))⟩
  | refine .inr ⟨_, _, And.intro (by walk_at "sqt") (And.intro (by walk_at "sqt") (And.intro (by walk_at "side") ?_))⟩
  | refine .inl ⟨_, And.intro (by walk_at "sq") ?_⟩
  | refine .inr ⟨_, And.intro (by walk_at "sqt") ?_⟩
  | refine ⟨_, _, _, _, rfl, rfl, And.intro (by walk_at "lk") (And.intro rfl ?_)⟩
  | refine fun H' (n : Wr _ _ _ H') => ?_
  | refine fun p H' (n : Nw _ p _ H') => ?_
  | refine fun r H' (n : Tp _ _ r _ H') => ?_
  | refine fun x dx H' (n : Mkd _ _ x dx H') => ?_
  | refine .inl ⟨_, _, rfl, And.intro (by walk_at "sq") (fun p H' (n : Nw _ p _ H') => ?_)⟩
  | refine .inr ⟨_, _, rfl, And.intro (by walk_at "sqt") (fun r H' (n : Tp _ _ r _ H') => ?_)⟩
  | refine ⟨_, _, rfl, And.intro (by walk_at "sq") (fun p H' (n : Nw _ p _ H') => ?_)⟩
  | refine .inl (And.intro ⟨_, by walk_at "sq"⟩ ?_)
  | refine .inr (And.intro ⟨_, by walk_at "sqt"⟩ ?_)
  | refine ⟨_, _, rfl, And.intro (by walk_at "sqt") (And.intro rfl ?_)⟩
  | refine ⟨_, _, And.intro rfl ?_⟩
  | refine ⟨_, _, _, And.intro rfl ?_⟩
  | refine And.intro rfl ?_
  | (refine ite_t ?_ ?_; exact rfl)
  | (refine ite_f ?_ ?_; exact rfl)
  | refine And.intro (by walk_at "side") ?_)
local macro_rules | `(tactic| walk_at "side") => `(tactic| first
  | exact (rfl : _ = _)
  | decide
  | exact lt1000 rfl
  | with_reducible assumption
  | exact ⟨by omega, by omega⟩
  | exact .inl ⟨by omega, by omega⟩
  | exact .inr ⟨by omega, by omega⟩
  | omega
  | (apply le_line; omega)
  | (apply lt_line; omega)
  | (apply le_line; simp <;> omega)
  | (apply lt_line; simp <;> omega)
  | fail)
local macro_rules | `(tactic| walk_at "if") => `(tactic| first
  | refine ite_nd ?_ ?_
  | refine ite_d ?_ ?_
  | refine ite_eqt ?_ ?_
  | fail)
local macro_rules | `(tactic| walk_at "roll") => `(tactic| first
  | (refine And.intro (show Dice _ _ from ⟨_, _, _, by walk_at "lk"⟩) (And.intro (by walk_at "side") (And.intro (by walk_at "side") (fun r H' r0 r1 ro => ?_))); obtain ⟨a', b', c', w⟩ := ro)
  | fail)
local macro_rules | `(tactic| walk_at "run") => `(tactic| (walk_at "go"; repeat (walk_at "roll"; walk_at "go")))
local macro_rules | `(tactic| walk_at "dp") => `(tactic| first
  | exact Dp.non
  | exact Dp.int _
  | exact Dp.str _
  | exact Dp.bl _
  | exact DpAll.nil
  | exact DpAll.cons (by walk_at "dp") (by walk_at "dp")
  | exact Dp.tup (by walk_at "sqt") (by walk_at "dp")
  | exact Dp.lst (by walk_at "sq") (by walk_at "dp")
  | fail)

section
variable {w : World} {K : PySem.W.Frag} {mg : Str → Option Value} {base : Heap}
structure NgInv (vs F : List Int) (L : List Nat) (i : Nat) : Prop where
  flen : F.length = vs.length
  lt : ∀ k ∈ L, k < i
  inn : ∀ k ∈ L, ∀ j, k < j → j < i → vs.getD j 0 ≤ vs.getD k 0
  zero : ∀ k, (k ∈ L ∨ i ≤ k) → F.getD k 0 = 0
  out : ∀ k, k < i → k ∉ L → ∃ j, k < j ∧ j < vs.length ∧ vs.getD k 0 < vs.getD j 0 ∧ (∀ j', k < j' → j' < j → vs.getD j' 0 ≤ vs.getD k 0) ∧ F.getD k 0 = (j : Int) - k
  srt : L.Pairwise (· < ·)
def NextIs (vs : List Int) (k : Nat) (d : Int) : Prop := (d = 0 ∧ ∀ j, k < j → j < vs.length → vs.getD j 0 ≤ vs.getD k 0) ∨
  ∃ j, k < j ∧ j < vs.length ∧ vs.getD k 0 < vs.getD j 0 ∧ (∀ j', k < j' → j' < j → vs.getD j' 0 ≤ vs.getD k 0) ∧ d = (j : Int) - k
theorem NgInv.start (vs : List Int) : NgInv vs (List.replicate vs.length 0) [] 0 :=
  ⟨by simp, by simp, by simp, fun k _ => by rw [List.getD_eq_getElem?_getD, List.getElem?_replicate]; split <;> rfl, by simp, .nil⟩
theorem NgInv.pop {vs F : List Int} {L : List Nat} {t i : Nat} (h : NgInv vs F (L ++ [t]) i) (hi : i < vs.length) (lt : vs.getD t 0 < vs.getD i 0) : NgInv vs (F.set t ((i : Int) - t)) L i := by
  have ht : t < i := h.lt t (by simp)
  have hp := h.srt
  rw [List.pairwise_append] at hp
  have ne : ∀ k ∈ L, k ≠ t := fun k hk => by have := hp.2.2 k hk t (by simp); omega
  refine ⟨by simp [h.flen], fun k hk => h.lt k (by simp [hk]), fun k hk => h.inn k (by simp [hk]), fun k hk => ?_, fun k hk hn => ?_, hp.1⟩
  · rw [List.getD_eq_getElem?_getD, List.getElem?_set_ne (by rcases hk with z | z; exact (ne k z).symm; omega), ← List.getD_eq_getElem?_getD]
    exact h.zero k (by rcases hk with z | z; exact .inl (by simp [z]); exact .inr z)
  · by_cases e : k = t
    · subst e
      refine ⟨i, hk, hi, lt, fun j' a b => h.inn k (by simp) j' a b, ?_⟩
      rw [List.getD_eq_getElem?_getD, List.getElem?_set_self (by rw [h.flen]; omega)]
      rfl
    · obtain ⟨j, a, b, c, d, e2⟩ := h.out k hk (by simp [hn, e])
      refine ⟨j, a, b, c, d, ?_⟩
      rw [List.getD_eq_getElem?_getD, List.getElem?_set_ne (by omega), ← List.getD_eq_getElem?_getD]
      exact e2
theorem NgInv.push {vs F : List Int} {L : List Nat} {i : Nat} (h : NgInv vs F L i) (he : ∀ t, L.getLast? = some t → vs.getD i 0 ≤ vs.getD t 0) : NgInv vs F (L ++ [i]) (i + 1) := by
  refine ⟨h.flen, fun k hk => ?_, fun k hk j a b => ?_, fun k hk => ?_, fun k hk hn => ?_, ?_⟩
  · rcases List.mem_append.mp hk with z | z
    · have := h.lt k z; omega
    · simp at z; omega
  · rcases List.mem_append.mp hk with z | z
    · by_cases e : j = i
      · subst e
        rcases List.eq_nil_or_concat L with e1 | ⟨L0, t, e1⟩
        · subst e1; exact (nomatch z)
        · rw [List.concat_eq_append] at e1
          subst e1
          have ht := he t (by simp)
          rcases List.mem_append.mp z with z2 | z2
          · have hp := h.srt
            rw [List.pairwise_append] at hp
            have a1 := hp.2.2 k z2 t (by simp)
            have a2 := h.inn k z t a1 (h.lt t (by simp))
            omega
          · simp at z2; subst z2; exact ht
      · exact h.inn k z j a (by omega)
    · simp at z; omega
  · refine h.zero k ?_
    rcases hk with z | z
    · rcases List.mem_append.mp z with z2 | z2
      · exact .inl z2
      · simp at z2; exact .inr (by omega)
    · exact .inr (by omega)
  · simp at hn
    exact h.out k (by omega) hn.1
  · rw [List.pairwise_append]
    exact ⟨h.srt, by simp, fun a ha b hb => by simp at hb; have := h.lt a ha; omega⟩
theorem NgInv.next {vs F : List Int} {L : List Nat} (h : NgInv vs F L vs.length) {k : Nat} (hk : k < vs.length) : NextIs vs k (F.getD k 0) := by
  by_cases e : k ∈ L
  · exact .inl ⟨h.zero k (.inl e), h.inn k e⟩
  · exact .inr (h.out k hk e)
theorem NextIs.uniq {vs : List Int} {k : Nat} {d e : Int} (h : NextIs vs k d) (g : NextIs vs k e) : d = e := by
  rcases h with ⟨a, b⟩ | ⟨j, a, b, c, d, e⟩ <;> rcases g with ⟨a2, b2⟩ | ⟨j2, a2, b2, c2, d2, e2⟩
  · omega
  · have := b j2 a2 b2; omega
  · have := b2 j a b; omega
  · rcases Nat.lt_trichotomy j j2 with z | z | z
    · have := d2 j a z; omega
    · subst z; omega
    · have := d j2 a2 z; omega
def nats (L : List Nat) : List V := L.map fun k => V.int (k : Nat)
def iv (vs : List Int) : List V := vs.map V.int
theorem nats_snoc {L : List Nat} {k : Nat} : nats (L ++ [k]) = nats L ++ [.int (k : Nat)] := by simp [nats]
theorem nats_nil {L : List Nat} : nats L = [] ↔ L = [] := by simp [nats]
theorem flat_nats {L : List Nat} : ∀ x ∈ nats L, flat x = true := by
  intro x hx; simp only [nats, List.mem_map] at hx; obtain ⟨_, _, rfl⟩ := hx; rfl
theorem flat_iv {vs : List Int} : ∀ x ∈ iv vs, flat x = true := by
  intro x hx; simp only [iv, List.mem_map] at hx; obtain ⟨_, _, rfl⟩ := hx; rfl
theorem iv_len {vs : List Int} : (iv vs).length = vs.length := by simp [iv]
theorem nats_len {L : List Nat} : (nats L).length = L.length := by simp [nats]
theorem iv_at {vs : List Int} {k : Nat} (h : k < vs.length) : (iv vs)[k]? = some (.int (vs.getD k 0)) := by
  simp [iv, List.getD_eq_getElem?_getD, List.getElem?_eq_getElem h]
theorem atI_iv {vs : List Int} {k : Nat} (h : k < vs.length) : atI (iv vs) (k : Int) = some (.int (vs.getD k 0)) := by
  rw [atI_nat (by omega) (by rw [iv_len]; omega), Int.toNat_natCast, iv_at h]
def sp_next_greater (T : Env w K mg base) : Sp := fun vs H Q E => match vs with
  | [.ref v] => ∃ vs, SqA K H v (iv vs) ∧ vs.length ≤ 500 ∧ ∀ r ds H', Chg T.tabs nil H H' → H r = none → ds.length = vs.length → (∀ k, k < vs.length → NextIs vs k (ds.getD k 0)) → H' r = some (.tup (iv ds)) → Q (.ref r) H'
  | _ => False
theorem ok_next_greater (T : Env w K mg base) : FnOk prg w K mg base (L2.CX prg w) 8 T.f_next_greater T.fd_next_greater ["values"] (sp_next_greater T) := by
  refine T.F_next_greater.ok sc_next_greater (fun vs H Q E h => by unfold sp_next_greater at h; split at h <;> first | rfl | exact h.elim) fun A outer s H vs Q E hr h => ?_
  refine ⟨_, (pss_cons (ps_par (i := 1) (j := 2) (by rfl) sc_next_greater.nd rfl rfl (by decide) rfl rfl (pa_cons (pe_op Y.op_mul (Y.pe_ls (pa_cons pe_int pa_nil)) (pe_callB (Y.lenK (K := K) rfl) (by rfl) T.no_len (by decide +kernel) (pa_cons (pv 0) pa_nil))) (pa_cons (Y.pe_ls pa_nil) pa_nil)) (by rfl))
  (pss_cons (ps_for (passes_of rfl) rfl (Y.pi_enumK (K := K) rfl (by rfl) T.no_enumerate (pa_cons (pv 0) pa_nil)) (Y.pg_tupK (K := K) (n := 2) rfl rfl (pgs_cons (pg_name (i := 3) sc_next_greater.nd rfl (Or.inl rfl)) (pgs_cons (pg_name (i := 4) sc_next_greater.nd rfl (Or.inl rfl)) pgs_nil))) (pss_cons (ps_while (passes_of rfl) (PW.pt (pw_and (pt_cmpR (Y.op_neK (K := K) rfl hr.units) (pv 2) (Y.pe_ls pa_nil) (nomark _)) (pw_and1 (pt_cmpR Y.op_lt (pe_ix (Y.ixK (K := K) rfl) (pv 0) (pe_ix (Y.ixK (K := K) rfl) (pv 2) (pe_un un_neg pe_int) (fun _ _ => rfl)) (fun _ _ => rfl)) (pv 4) (nomark _))))) (pss_cons (ps_set (i := 5) sc_next_greater.nd rfl (Or.inl rfl) (peI (pe_bm0 PySem.F.plainAttrs_list PySem.F.slot_list_pop PySem.F.type_list_pop mt_pop (peU (pv 2))) Y.pop_i))
  (pss_one (ps_asg (pe_op Y.op_sub (pv 3) (pv 5)) (pg_sub (pv 1) (pv 5) Y.set_lst)))))
  (pss_one (ps_expr (peI (pe_bm PySem.F.plainAttrs_list PySem.F.slot_list_append PySem.F.type_list_append mt_append (peU (pv 2)) (pa_cons (peU (pv 3)) pa_nil)) Y.app_i)))))
  (pss_one (ps_ret (pe_callTy (Y.tupleK (K := K) rfl) (by rfl) T.no_tuple (by decide +kernel) (pa_cons (pv 1) pa_nil)))))), ?_⟩
  unfold sp_next_greater at h
  split at h
  next v =>
    obtain ⟨vs, hv0, hl, hQ⟩ := h
    have e1 : (List.replicate (((iv vs).length : Nat) : Int).toNat [V.int 0]).flatten = iv (List.replicate vs.length 0) := by simp [iv]
    have hz : [V.int 0].length * (((iv vs).length : Nat) : Int).toNat ≤ sizeLine := by simp [iv_len]; exact le_line (by omega)
    have lv := iv_len (vs := vs)
    walk_at "go"
    rename_i z0 H1 n1 fo H2 n2 l H3 n3
    rw [e1] at n2
    have ff : H fo = none := by walk_at "fr"
    have fl : H l = none := by walk_at "fr"
    have nfl : fo ≠ l := by walk_at "ne"
    have c3 : Chg T.tabs nil H H3 := by walk_at "chg"
    have g1 : H3 fo = some (.lst (iv (List.replicate vs.length 0))) := by walk_at "lk"
    have g2 : H3 l = some (.lst (nats [])) := by walk_at "lk"
    refine for_enumA hv0 c3 (fun i σ G => ∃ F L x3 x4 x5, σ = [some (.ref v), some (.ref fo), some (.ref l), x3, x4, x5] ∧ Chg T.tabs nil H G ∧ G fo = some (.lst (iv F)) ∧ G l = some (.lst (nats L)) ∧ L.length ≤ i ∧ NgInv vs F L i)
      ⟨_, _, _, _, _, rfl, c3, g1, g2, Nat.le_refl _, .start vs⟩ (fun i σ G ⟨F, L, x3, x4, x5, _, c, _⟩ => c) ?_ ?_
    · rintro i x σ G hx ⟨F, L, x3, x4, x5, rfl, c, g1, g2, hLi, inv⟩ t G1 m1
      have hi : i < vs.length := by have := (List.getElem?_eq_some_iff.mp hx).1; rwa [iv_len] at this
      rw [iv_at hi] at hx
      cases hx
      have cc : Chg T.tabs nil H G1 := by walk_at "chg"
      walk_at "go"
      refine while_n (fun σ G => ∃ F L x5, σ = [some (.ref v), some (.ref fo), some (.ref l), some (.int (i : Nat)), some (.int (vs.getD i 0)), x5] ∧ Chg T.tabs nil H G ∧ G fo = some (.lst (iv F)) ∧ G l = some (.lst (nats L)) ∧ L.length ≤ i ∧ NgInv vs F L i)
        (fun σ G => lenAt G (σ.getD 2 none)) ⟨F, L, _, rfl, cc, by walk_at "lk", by walk_at "lk", hLi, inv⟩ ?_
      rintro σ G2 ⟨F, L, x5, rfl, c2, g1, g2, hLi, inv⟩
      walk_at "go"
      rename_i e3 H3 n3
      refine veq_ll (by walk_at "sq") (by walk_at "sq") flat_nats (by simp) (p := L = []) nats_nil ?_
      walk_at "go"
      have fin : (∀ t, L.getLast? = some t → vs.getD i 0 ≤ vs.getD t 0) → ∀ H4, Wr H3 l (.lst (nats L ++ [.int (i : Nat)])) H4 → Chg T.tabs nil H H4 ∧ H4 fo = some (.lst (iv F)) ∧ H4 l = some (.lst (nats (L ++ [i]))) ∧ (L ++ [i]).length ≤ i + 1 ∧ NgInv vs F (L ++ [i]) (i + 1) := by
        intro he H4 n4
        rw [nats_snoc]
        exact ⟨by walk_at "chg", by walk_at "lk", n4.at, by simp; omega, inv.push he⟩
      have hb : (nats L).length < sizeLine := by rw [nats_len]; exact lt_line (by omega)
      walk_at "if"
      · intro c1
        rcases List.eq_nil_or_concat L with e4 | ⟨L0, t, e4⟩
        · exact (c1 e4).elim
        · rw [List.concat_eq_append] at e4
          subst e4
          have ht : t < i := inv.lt t (by simp)
          have hg : atI (nats (L0 ++ [t])) (-1) = some (.int (t : Nat)) := by rw [nats_snoc]; exact atI_m1
          walk_at "go"
          refine ⟨_, _, by walk_at "seq", hg, ?_⟩
          refine ⟨_, _, by walk_at "seq", atI_iv (by omega), ?_⟩
          walk_at "go"
          walk_at "if"
          · intro c2
            refine wh_step ?_
            rw [nats_snoc] at g2
            walk_at "go"
            rename_i H4 n4
            have lf : (iv F).length = F.length := iv_len
            have fl := inv.flen
            refine ⟨_, _, _, t, rfl, rfl, by walk_at "lk", ixN_nat (by omega) (by omega), fun H5 n5 => ?_⟩
            have es : (iv F).set t (.int ((i : Int) - t)) = iv (F.set t ((i : Int) - t)) := by simp [iv]
            rw [es] at n5
            have q1 : H5 l = some (.lst (nats L0)) := by walk_at "lk"
            refine ⟨⟨_, L0, _, rfl, by walk_at "chg", n5.at, q1, by simp at hLi; omega, inv.pop hi c2⟩, ?_⟩
            show lenAt H5 (some (.ref l)) < lenAt G2 (some (.ref l))
            rw [lenAt_of q1, lenAt_of g2]; simp
          · intro c2
            walk_at "go"
            rename_i H4 n4
            obtain ⟨a1, a2, a3, a4, a5⟩ := fin (fun t' h => by simp at h; subst h; omega) H4 n4
            exact ⟨_, _, _, _, _, rfl, a1, a2, a3, a4, a5⟩
      · intro c1
        have e4 : L = [] := by simpa using c1
        walk_at "go"
        rename_i H4 n4
        obtain ⟨a1, a2, a3, a4, a5⟩ := fin (fun t' h => by rw [e4] at h; exact (nomatch h)) H4 n4
        exact ⟨_, _, _, _, _, rfl, a1, a2, a3, a4, a5⟩
    · rintro σ G ⟨F, L, x3, x4, x5, rfl, c, g1, g2, hLi, inv⟩
      rw [iv_len] at hLi inv
      walk_at "go"
      rename_i r G1 m1
      exact hQ r F G1 (by walk_at "chg") (by walk_at "fr") inv.flen (fun k hk => inv.next hk) m1.at
  next => exact h.elim
end
end Z


set_option Elab.async false
set_option linter.all false
set_option maxRecDepth 100000
set_option maxHeartbeats 4000000
set_option pp.maxSteps 1500
namespace Z
open PySem PySem.Spec L2 LamX Y
local macro_rules | `(tactic| walk_at "lk") => `(tactic| first
  | assumption
  | exact Nw.at (by assumption)
  | exact Wr.at (by assumption)
  | exact Mkd.at (by assumption)
  | exact Nw.look (by assumption) (by walk_at "lk")
  | exact Mkd.look (by assumption) (by walk_at "lk")
  | exact Wr.look (by assumption) (by walk_at "lk") (by walk_at "ne")
  | exact Chg.look (by assumption) (by walk_at "lk") (by walk_at "nin") rfl
  | exact Tp.same (by assumption) _ _ (by walk_at "lk")
  | exact Grows.look (by assumption) (by walk_at "lk") rfl
  | fail)
local macro_rules | `(tactic| walk_at "ne") => `(tactic| first
  | assumption
  | exact Ne.symm (by assumption)
  | exact Nw.ne (by assumption) (by walk_at "lk")
  | exact Ne.symm (Nw.ne (by assumption) (by walk_at "lk"))
  | exact ne_fr (by assumption) (by walk_at "lk")
  | exact Ne.symm (ne_fr (by assumption) (by walk_at "lk"))
  | exact ne_fr (Mkd.nx (by assumption)) (by walk_at "lk")
  | exact Ne.symm (ne_fr (Mkd.nx (by assumption)) (by walk_at "lk"))
  | exact ne_kdn (by assumption) (by walk_at "lk") rfl
  | exact Ne.symm (ne_kdn (by assumption) (by walk_at "lk") rfl)
  | fail)
local macro_rules | `(tactic| walk_at "nin") => `(tactic| first
  | exact nin_nil
  | exact id
  | exact nin_cons (by walk_at "ne") (by walk_at "nin")
  | fail)
local macro_rules | `(tactic| walk_at "fr") => `(tactic| first
  | assumption
  | exact Nw.new (by assumption)
  | exact Mkd.nx (by assumption)
  | exact Nw.dom (by assumption) (by walk_at "fr")
  | exact Wr.dom (by assumption) (by walk_at "fr")
  | exact Mkd.dom (by assumption) (by walk_at "fr")
  | exact Chg.dom (by assumption) _ (by walk_at "fr")
  | exact Tp.dom (by assumption) _ (by walk_at "fr")
  | exact Grows.dom (by assumption) _ (by walk_at "fr")
  | fail)
local macro_rules | `(tactic| walk_at "mem") => `(tactic| first
  | assumption
  | exact List.mem_cons_self
  | (apply List.mem_cons_of_mem; walk_at "mem")
  | fail)
local macro_rules | `(tactic| walk_at "in") => `(tactic| first
  | assumption
  | (apply Or.inl; walk_at "mem")
  | (apply Or.inr; walk_at "fr")
  | fail)
local macro_rules | `(tactic| walk_at "sub") => `(tactic| first
  | exact sub_nil0
  | exact sub_nil
  | exact sub_cons (by walk_at "in") (by walk_at "sub")
  | fail)
local macro_rules | `(tactic| walk_at "chg") => `(tactic| first
  | assumption
  | exact Chg.refl _
  | exact Chg.nw (by assumption) (by walk_at "chg")
  | exact Chg.mkd (by assumption) (by walk_at "chg")
  | exact Chg.tp (by assumption) (by walk_at "chg")
  | exact Chg.gr (by assumption) (by walk_at "chg")
  | exact Chg.wr (by assumption) (by walk_at "chg") (by walk_at "in")
  | exact Chg.ch (by assumption) (by walk_at "chg") (by walk_at "sub")
  | fail)
local macro_rules | `(tactic| walk_at "sq") => `(tactic| first
  | assumption
  | exact SqL.of (by walk_at "lk")
  | exact Chg.seqL (by assumption) (by walk_at "sq") (by walk_at "nin")
  | exact SqL.nw (by assumption) (by walk_at "sq")
  | exact SqL.tp (by assumption) (by walk_at "sq")
  | exact SqL.mkd (by assumption) (by walk_at "sq")
  | exact SqL.wr (by assumption) (by walk_at "sq") (by walk_at "ne")
  | fail)
local macro_rules | `(tactic| walk_at "sqt") => `(tactic| first
  | assumption
  | exact SqT.of (by walk_at "lk")
  | exact Tp.sq (by assumption)
  | exact SqT.nw (by assumption) (by walk_at "sqt")
  | exact SqT.tp (by assumption) (by walk_at "sqt")
  | exact SqT.mkd (by assumption) (by walk_at "sqt")
  | exact SqT.chg (by assumption) (by walk_at "sqt") (by walk_at "nin")
  | fail)
local macro_rules | `(tactic| walk_at "seq") => `(tactic| first
  | assumption
  | exact .inl (by walk_at "sq")
  | exact .inr (by walk_at "sqt")
  | exact SqA.keepN (T := Env.tabs (by assumption)) (by assumption) (by walk_at "chg")
  | fail)
local macro_rules | `(tactic| walk_at "go") => `(tactic| repeat first
  | refine ⟨_, rfl, ?_⟩
  | refine ⟨_, _, _, _, rfl, And.intro (by walk_at "lk") (And.intro rfl ?_)⟩
  | refine ⟨_, _, _, rfl, And.intro (by walk_at "lk") (And.intro (by walk_at "side") ?_)⟩
  | refine ⟨_, _, And.intro rfl (And.intro rfl ?_)⟩
  | refine ⟨_, _, And.intro rfl (And.intro (by walk_at "lk") ?_)⟩
  | refine ⟨_, _, _, And.intro rfl (And.intro (by walk_at "lk") ?_)⟩
  | refine ⟨_, And.intro (by walk_at "lk") (And.intro (by walk_at "side") ?_)⟩
  | refine ⟨_, _, And.intro (by walk_at "lk") (And.intro (by walk_at "side") ?_)⟩
  | refine ⟨_, _, And.intro (by walk_at "seq") (And.intro rfl ?_)⟩
  | refine ⟨_, And.intro (by walk_at "seq") ?_⟩
  | refine ⟨_, And.intro (by walk_at "lk") (And.intro (by walk_at "side") (And.intro (by walk_at "side") (And.intro (by walk_at "side") ?_)))⟩
  | refine .inl ⟨_, _, And.intro (by walk_at "lk") (And.intro (by walk_at "lk") (And.intro (by walk_at "side") ?_))⟩
  | refine .inr ⟨_, _, And.intro (by walk_at "sqt") (And.intro (by walk_at "sqt") (And.intro (by walk_at "side") ?_))⟩
  | refine .inl ⟨_, And.intro (by walk_at "sq") ?_⟩
  | refine .inr ⟨_, And.intro (by walk_at "sqt") ?_⟩
  | refine ⟨_, _, _, _, rfl, rfl, And.intro (by walk_at "lk") (And.intro rfl ?_)⟩
  | refine fun H' (n : Wr _ _ _ H') => ?_
  | refine fun p H' (n : Nw _ p _ H') => ?_
  | refine fun r H' (n : Tp _ _ r _ H') => ?_
  | refine fun x dx H' (n : Mkd _ _ x dx H') => ?_
  | refine .inl ⟨_, _, rfl, And.intro (by walk_at "sq") (fun p H' (n : Nw _ p _ H') => ?_)⟩
  | refine .inr ⟨_, _, rfl, And.intro (by walk_at "sqt") (fun r H' (n : Tp _ _ r _ H') => ?_)⟩
  | refine ⟨_, _, rfl, And.intro (by walk_at "sq") (fun p H' (n : Nw _ p _ H') => ?_)⟩
  | refine .inl (And.intro ⟨_, by walk_at "sq"⟩ ?_)
  | refine .inr (And.intro ⟨_, by walk_at "sqt"⟩ ?_)
  | refine ⟨_, _, rfl, And.intro (by walk_at "sqt") (And.intro rfl ?_)⟩
  | refine ⟨_, _, And.intro rfl ?_⟩
  | refine ⟨_, _, _, And.intro rfl ?_⟩
  | refine And.intro rfl ?_
  | (refine ite_t ?_ ?_; exact rfl)
  | (refine ite_f ?_ ?_; exact rfl)
  | refine And.intro (by walk_at "side") ?_)
local macro_rules | `(tactic| walk_at "side") => `(tactic| first
  | exact (rfl : _ = _)
  | decide
  | exact lt1000 rfl
  | with_reducible assumption
  | exact ⟨by omega, by omega⟩
  | exact .inl ⟨by omega, by omega⟩
  | exact .inr ⟨by omega, by omega⟩
  | omega
  | (apply le_line; omega)
  | (apply lt_line; omega)
  | (apply le_line; simp <;> omega)
  | (apply lt_line; simp <;> omega)
  | fail)
local macro_rules | `(tactic| walk_at "if") => `(tactic| first
  | refine ite_nd ?_ ?_
  | refine ite_d ?_ ?_
  | refine ite_eqt ?_ ?_
  | fail)
local macro_rules | `(tactic| walk_at "roll") => `(tactic| first
  | (refine And.intro (show Dice _ _ from ⟨_, _, _, by walk_at "lk"⟩) (And.intro (by walk_at "side") (And.intro (by walk_at "side") (fun r H' r0 r1 ro => ?_))); obtain ⟨a', b', c', w⟩ := ro)
  | fail)
local macro_rules | `(tactic| walk_at "run") => `(tactic| (walk_at "go"; repeat (walk_at "roll"; walk_at "go")))
local macro_rules | `(tactic| walk_at "dp") => `(tactic| first
  | exact Dp.non
  | exact Dp.int _
  | exact Dp.str _
  | exact Dp.bl _
  | exact DpAll.nil
  | exact DpAll.cons (by walk_at "dp") (by walk_at "dp")
  | exact Dp.tup (by walk_at "sqt") (by walk_at "dp")
  | exact Dp.lst (by walk_at "sq") (by walk_at "dp")
  | fail)

section
variable {w : World} {K : PySem.W.Frag} {mg : Str → Option Value} {base : Heap}
/-- the rising places of the window that ends ahead of i -/
structure DqInv (vs : List Int) (L : List Nat) (k i : Nat) : Prop where
  lt : ∀ o ∈ L, o < i ∧ i ≤ o + k
  srt : L.Pairwise (fun a b => a < b ∧ vs.getD a 0 < vs.getD b 0)
  cov : ∀ j, j < i → i ≤ j + k → ∃ o ∈ L, j ≤ o ∧ vs.getD o 0 ≤ vs.getD j 0
/-- while the i-th takes away greater ones -/
structure DqMid (vs : List Int) (L : List Nat) (k i : Nat) : Prop where
  lt : ∀ o ∈ L, o < i ∧ i ≤ o + k
  srt : L.Pairwise (fun a b => a < b ∧ vs.getD a 0 < vs.getD b 0)
  cov : ∀ j, j < i → i ≤ j + k → (∃ o ∈ L, j ≤ o ∧ vs.getD o 0 ≤ vs.getD j 0) ∨ vs.getD i 0 ≤ vs.getD j 0
theorem DqInv.mid {vs : List Int} {L : List Nat} {k i : Nat} (h : DqInv vs L k i) : DqMid vs L k i := ⟨h.lt, h.srt, fun j a b => .inl (h.cov j a b)⟩
theorem DqMid.pop {vs : List Int} {L : List Nat} {t k i : Nat} (h : DqMid vs (L ++ [t]) k i) (le : vs.getD i 0 ≤ vs.getD t 0) : DqMid vs L k i := by
  refine ⟨fun o ho => h.lt o (by simp [ho]), (List.pairwise_append.mp h.srt).1, fun j a b => ?_⟩
  rcases h.cov j a b with ⟨o, ho, c, d⟩ | c
  · rcases List.mem_append.mp ho with z | z
    · exact .inl ⟨o, z, c, d⟩
    · simp at z; subst z; exact .inr (by omega)
  · exact .inr c
def dropHead (L : List Nat) (i k : Nat) : List Nat := match L with
  | [] => []
  | x :: xs => if x + k ≤ i then xs else x :: xs
theorem DqMid.push {vs : List Int} {L : List Nat} {k i : Nat} (h : DqMid vs L k i) (k1 : 1 ≤ k) (he : ∀ t, L.getLast? = some t → vs.getD t 0 < vs.getD i 0) : DqInv vs (dropHead (L ++ [i]) i k) k (i + 1) := by
  have hs : (L ++ [i]).Pairwise (fun a b => a < b ∧ vs.getD a 0 < vs.getD b 0) := by
    rw [List.pairwise_append]
    refine ⟨h.srt, by simp, fun a ha b hb => ?_⟩
    simp at hb
    subst hb
    refine ⟨(h.lt a ha).1, ?_⟩
    rcases List.eq_nil_or_concat L with e1 | ⟨L0, t, e1⟩
    · subst e1; exact (nomatch ha)
    · rw [List.concat_eq_append] at e1
      subst e1
      have ht := he t (by simp)
      rcases List.mem_append.mp ha with z | z
      · have := (List.pairwise_append.mp h.srt).2.2 a z t (by simp)
        omega
      · simp at z; subst z; exact ht
  have hl : ∀ o ∈ L ++ [i], o < i + 1 ∧ i ≤ o + k := by
    intro o ho
    rcases List.mem_append.mp ho with z | z
    · have := h.lt o z; omega
    · simp at z; omega
  have hc : ∀ j, j < i + 1 → i + 1 ≤ j + k → ∃ o ∈ L ++ [i], j ≤ o ∧ vs.getD o 0 ≤ vs.getD j 0 := by
    intro j a b
    by_cases e : j = i
    · subst e; exact ⟨j, by simp, Nat.le_refl _, Int.le_refl _⟩
    · rcases h.cov j (by omega) (by omega) with ⟨o, ho, c, d⟩ | c
      · exact ⟨o, by simp [ho], c, d⟩
      · exact ⟨i, by simp, by omega, c⟩
  revert hs hl hc
  generalize L ++ [i] = M
  intro hs hl hc
  cases M with
  | nil => exact ⟨by simp [dropHead], by simp [dropHead], fun j a b => (by obtain ⟨o, ho, _⟩ := hc j a b; exact nomatch ho)⟩
  | cons x xs =>
    rw [List.pairwise_cons] at hs
    unfold dropHead
    simp only
    split
    · rename_i hx
      refine ⟨fun o ho => ?_, hs.2, fun j a b => ?_⟩
      · have a1 := (hs.1 o ho).1
        have a2 := hl o (by simp [ho])
        have a3 := hl x (by simp)
        omega
      · obtain ⟨o, ho, c, d⟩ := hc j a b
        rcases List.mem_cons.mp ho with z | z
        · omega
        · exact ⟨o, z, c, d⟩
    · rename_i hx
      refine ⟨fun o ho => ?_, List.pairwise_cons.mpr hs, hc⟩
      rcases List.mem_cons.mp ho with z | z
      · subst z; have := hl o (by simp); omega
      · have a1 := (hs.1 o z).1
        have a2 := hl o (by simp [z])
        omega
theorem DqInv.head {vs : List Int} {x : Nat} {xs : List Nat} {k i : Nat} (h : DqInv vs (x :: xs) k i) : ∀ j, j < i → i ≤ j + k → vs.getD x 0 ≤ vs.getD j 0 := by
  intro j a b
  obtain ⟨o, ho, c, d⟩ := h.cov j a b
  rcases List.mem_cons.mp ho with z | z
  · subst z; exact d
  · have := ((List.pairwise_cons.mp h.srt).1 o z).2; omega
/-- W holds the least of the first n windows of k -/
def WinMin (vs W : List Int) (k n : Nat) : Prop := W.length = n ∧ ∀ m, m < n → ∃ o, m ≤ o ∧ o < m + k ∧ W.getD m 0 = vs.getD o 0 ∧ ∀ j, m ≤ j → j < m + k → vs.getD o 0 ≤ vs.getD j 0
theorem WinMin.add {vs W : List Int} {k i : Nat} {x : Nat} {xs : List Nat} (h : WinMin vs W k (i + 1 - k)) (d : DqInv vs (x :: xs) k (i + 1)) (hk : k ≤ i + 1) : WinMin vs (W ++ [vs.getD x 0]) k (i + 2 - k) := by
  have hx := d.lt x (by simp)
  refine ⟨by simp [h.1]; omega, fun m hm => ?_⟩
  by_cases e : m < i + 1 - k
  · obtain ⟨o, a, b, c, dd⟩ := h.2 m e
    refine ⟨o, a, b, ?_, dd⟩
    rw [List.getD_eq_getElem?_getD, List.getElem?_append_left (by rw [h.1]; exact e), ← List.getD_eq_getElem?_getD]
    exact c
  · have em : m = W.length := by rw [h.1]; omega
    have e2 := h.1
    refine ⟨x, by omega, by omega, ?_, fun j a b => d.head j (by omega) (by omega)⟩
    subst em
    simp [List.getD_eq_getElem?_getD]
theorem WinMin.skip {vs W : List Int} {k i : Nat} (h : WinMin vs W k (i + 1 - k)) (hk : ¬ k ≤ i + 1) : WinMin vs W k (i + 2 - k) := by
  rw [show i + 2 - k = i + 1 - k by omega]; exact h
def lenRing (H : Hp) : Option V → Nat
  | some (.ref a) => match H a with
    | some (.ins _ _ [_, _, (_, .int n)]) => n.toNat
    | _ => 0
  | _ => 0
theorem lenRing_of {C : Addr} {H : Hp} {p l : Addr} {own : List V} {cap : Nat} (h : RingAt C H p l own cap) : lenRing H (some (.ref p)) = own.length := by
  obtain ⟨dx0, st0, pl0, ⟨h4, h5⟩, -, -⟩ := h
  simp only [lenRing, h4, fsR, Int.toNat_natCast]
def sp_least_windows (T : Env w K mg base) : Sp := fun vs H Q E => match vs with
  | [.ref v, .int k] => ∃ vs, SqA K H v (iv vs) ∧ vs.length ≤ 200 ∧ Tabs T.tabs H ∧ (¬ (1 ≤ k ∧ k ≤ vs.length) → ∀ H', Chg T.tabs nil H H' → E (.ref T.C_RingError) none H') ∧
      (1 ≤ k → k ≤ vs.length → ∀ r W H', Chg T.tabs nil H H' → H r = none → WinMin vs W k.toNat (vs.length + 1 - k.toNat) → H' r = some (.tup (iv W)) → Q (.ref r) H')
  | _ => False
theorem ok_least_windows (T : Env w K mg base) : FnOk prg w K mg base (L2.CX prg w) 48 T.f_least_windows T.fd_least_windows ["values", "long"] (sp_least_windows T) := by
  refine T.F_least_windows.ok sc_least_windows (fun vs H Q E h => by unfold sp_least_windows at h; split at h <;> first | rfl | exact h.elim) fun A outer s H vs Q E hr h => ?_
  refine ⟨_, (pss_cons (ps_if (pt_not (pt_chain Y.op_le Y.op_le pe_int (pv 1) (pe_callB (Y.lenK (K := K) rfl) (by rfl) T.no_len (by decide +kernel) (pa_cons (pv 0) pa_nil)))) (pss_one (ps_raise rfl (takes_of rfl rfl rfl rfl) (pmk_own PySem.F.excBase_ValueError T.x_RingError T.mg_RingError T.k_RingError (raises_own T.bb_RingError T.tt_RingError) rfl))) pss_nil)
  (pss_cons (ps_par (i := 2) (j := 3) (by rfl) sc_least_windows.nd rfl rfl (by decide) rfl rfl (pa_cons (Y.pe_mk T.mk_Ring (ok_Ring___init__ T) (hr.mono (by decide)) rfl T.mg_Ring T.b_Ring___init__ .nil (Y.passD rfl rfl rfl rfl) (pa_cons (pv 1) pa_nil)) (pa_cons (Y.pe_ls pa_nil) pa_nil)) (by rfl))
  (pss_cons (ps_for (passes_of rfl) rfl (Y.pi_enumK (K := K) rfl (by rfl) T.no_enumerate (pa_cons (pv 0) pa_nil)) (Y.pg_tupK (K := K) (n := 2) rfl rfl (pgs_cons (pg_name (i := 4) sc_least_windows.nd rfl (Or.inl rfl)) (pgs_cons (pg_name (i := 5) sc_least_windows.nd rfl (Or.inl rfl)) pgs_nil))) (pss_cons (ps_while (passes_of rfl) (PW.pt (pw_and (pt_cmpR Y.op_gt (Y.pe_f T.cl_Ring T.na_Ring_many (pv 2)) pe_int (nomark _)) (pw_and1 (pt_cmpR Y.op_ge (pe_ix (Y.ixK (K := K) rfl) (pv 0) (pe_meth (pv 2) T.cl_Ring T.me_Ring_item_at (ok_Ring_item_at T) (hr.mono (by decide)) T.b_Ring_item_at .nil (Y.passD rfl rfl rfl rfl) (pa_cons (pe_op Y.op_sub pe_int pe_int) pa_nil)) (fun _ _ => rfl)) (pv 5) (nomark _))))) (pss_one (ps_expr (pe_meth0 (pv 2) T.cl_Ring T.me_Ring_take_last (ok_Ring_take_last T) (hr.mono (by decide)) T.b_Ring_take_last .nil (Y.passD rfl rfl rfl rfl)))))
  (pss_cons (ps_expr (pe_meth (pv 2) T.cl_Ring T.me_Ring_put_last (ok_Ring_put_last T) (hr.mono (by decide)) T.b_Ring_put_last .nil (Y.passD rfl rfl rfl rfl) (pa_cons (pv 4) pa_nil)))
  (pss_cons (ps_if (pt_cmpR Y.op_le (pe_meth (pv 2) T.cl_Ring T.me_Ring_item_at (ok_Ring_item_at T) (hr.mono (by decide)) T.b_Ring_item_at .nil (Y.passD rfl rfl rfl rfl) (pa_cons pe_int pa_nil)) (pe_op Y.op_sub (pv 4) (pv 1)) (nomark _)) (pss_one (ps_expr (pe_meth0 (pv 2) T.cl_Ring T.me_Ring_take_first (ok_Ring_take_first T) (hr.mono (by decide)) T.b_Ring_take_first .nil (Y.passD rfl rfl rfl rfl)))) pss_nil)
  (pss_one (ps_aug (i := 3) sc_least_windows.nd rfl (Or.inl rfl) (pe_ifExp (pt_cmpR Y.op_ge (pv 4) (pe_op Y.op_sub (pv 1) pe_int) (nomark _)) (Y.pe_ls (pa_cons (pe_ix (Y.ixK (K := K) rfl) (pv 0) (pe_meth (pv 2) T.cl_Ring T.me_Ring_item_at (ok_Ring_item_at T) (hr.mono (by decide)) T.b_Ring_item_at .nil (Y.passD rfl rfl rfl rfl) (pa_cons pe_int pa_nil)) (fun _ _ => rfl)) pa_nil)) (Y.pe_ls pa_nil)) Y.ip_add))))))
  (pss_one (ps_ret (pe_callTy (Y.tupleK (K := K) rfl) (by rfl) T.no_tuple (by decide +kernel) (pa_cons (pv 3) pa_nil))))))), ?_⟩
  unfold sp_least_windows at h
  split at h
  next v k =>
    obtain ⟨vs, hv0, hl, ht, hE, hQ⟩ := h
    have lv := iv_len (vs := vs)
    walk_at "go"
    walk_at "if"
    · intro c1
      walk_at "go"
      walk_at "if"
      · intro c2
        walk_at "go"
        exact hE (by omega) _ (.refl _)
      · intro c2
        have c2 : k ≤ vs.length := by rw [← lv]; simpa using c2
        walk_at "go"
        rename_i p dx H1 n1
        intro k1 k2 l H2 c3 fl1 hr
        refine ⟨rfl, ?_⟩
        walk_at "go"
        rename_i fo H3 n3
        have fp : H p = none := by walk_at "fr"
        have fl : H l = none := by walk_at "fr"
        have ff : H fo = none := by walk_at "fr"
        have cH : Chg T.tabs nil H H3 := by walk_at "chg"
        have r3 : RingAt T.C_Ring H3 p l (nats []) (dbl 1 k.toNat) := hr.chg (S := nil) (n3.chg (T := T.tabs)) id id
        have nlf : l ≠ fo := by
          obtain ⟨dx0, st0, pl0, ⟨h4, h5⟩, -, -⟩ := id hr
          walk_at "ne"
        refine for_enumA hv0 cH (fun i σ G => ∃ L W l cap x4 x5, σ = [some (.ref v), some (.int k), some (.ref p), some (.ref fo), x4, x5] ∧ Chg T.tabs nil H G ∧ H l = none ∧ l ≠ fo ∧ RingAt T.C_Ring G p l (nats L) cap ∧ G fo = some (.lst (iv W)) ∧ L.length ≤ i ∧ DqInv vs L k.toNat i ∧ WinMin vs W k.toNat (i + 1 - k.toNat))
          ⟨[], [], l, _, _, _, rfl, cH, fl, nlf, r3, n3.at, Nat.le_refl _, ⟨by simp, by simp, by simp⟩, ⟨by simp; omega, by simp; omega⟩⟩ (fun i σ G ⟨L, W, l, cap, x4, x5, _, c, _⟩ => c) ?_ ?_
        · rintro i x σ G hx ⟨L, W, l, cap, x4, x5, rfl, c, fl, nlf, hr, g1, hLi, inv, wm⟩ t G1 m1
          have hi : i < vs.length := by have := (List.getElem?_eq_some_iff.mp hx).1; rwa [iv_len] at this
          rw [iv_at hi] at hx
          cases hx
          have cc : Chg T.tabs nil H G1 := by walk_at "chg"
          have r1 : RingAt T.C_Ring G1 p l (nats L) cap := hr.chg (S := nil) (m1.chg (T := T.tabs)) id id
          walk_at "go"
          refine join (t := tWhile _ _) (fun σ G => ∃ L, σ = [some (.ref v), some (.int k), some (.ref p), some (.ref fo), some (.int (i : Nat)), some (.int (vs.getD i 0))] ∧ Chg T.tabs nil H G ∧ RingAt T.C_Ring G p l (nats L) cap ∧ G fo = some (.lst (iv W)) ∧ L.length ≤ i ∧ DqMid vs L k.toNat i ∧ ∀ t, L.getLast? = some t → vs.getD t 0 < vs.getD i 0) ?_ fun N hN => ?_
          · rintro σ G2 ⟨L, rfl, c2, hr, g1, hLi, inv, hlast⟩
            have t2 := c2.tabs ht
            have k0 : 1 ≤ k.toNat := by omega
            have ip := inv.push k0 hlast
            obtain ⟨dx0, st0, pl0, ⟨h4, h5⟩, -, -⟩ := id hr
            walk_at "go"
            refine ⟨_, _, _, hr, t2, fun z => ?_, fun _ _ l' G3 c4 e4 r2 => ?_⟩
            · rcases z with z | z
              · exact (nomatch z)
              · rw [nats_len] at z; omega
            have flN : H l' = none := by rcases e4 with rfl | z; exact fl; walk_at "fr"
            have nlf' : l' ≠ fo := by rcases e4 with rfl | z; exact nlf; exact (ne_fr z g1).symm
            have r2 : RingAt T.C_Ring G3 p l' (nats (L ++ [i])) (capN (nats L).length cap) := by rw [nats_snoc]; exact r2
            have npf : p ≠ fo := by walk_at "ne"
            have g3 : G3 fo = some (.lst (iv W)) := c4.look g1 (by simp [Y.In]; exact ⟨npf.symm, nlf.symm⟩) rfl
            have c3 : Chg T.tabs nil H G3 := .ch c4 c2 (by walk_at "sub")
            obtain ⟨dx1, st1, pl1, ⟨h6, h7⟩, -, -⟩ := id r2
            have hne : ∃ y ys, L ++ [i] = y :: ys := by
              cases hL : L ++ [i] with
              | nil => simp at hL
              | cons y ys => exact ⟨y, ys, rfl⟩
            obtain ⟨y, ys, ey⟩ := hne
            have hlen : (y :: ys).length ≤ i + 1 := by rw [← ey]; simp; omega
            rw [ey] at r2 ip
            have hg : atI (nats (y :: ys)) 0 = some (.int (y : Nat)) := atI_0
            dsimp only
            refine join2 (a := tIfS _ _ _) (fun σ G => ∃ L cap, σ = [some (.ref v), some (.int k), some (.ref p), some (.ref fo), some (.int (i : Nat)), some (.int (vs.getD i 0))] ∧ Chg T.tabs nil H G ∧ RingAt T.C_Ring G p l' (nats L) cap ∧ G fo = some (.lst (iv W)) ∧ L.length ≤ i + 1 ∧ DqInv vs L k.toNat (i + 1)) ?_ fun N hN => ?_
            · rintro σ G4 ⟨L, cap, rfl, c8, r8, g8, hL8, inv8⟩
              obtain ⟨dx1, st1, pl1, ⟨h6, h7⟩, h8⟩ := id r8
              have hW : W.length ≤ 200 := by rw [wm.1]; omega
              have lW := iv_len (vs := W)
              walk_at "go"
              walk_at "if"
              · intro c9
                obtain ⟨o, ho, -, -⟩ := inv8.cov i (by omega) (by omega)
                obtain ⟨y, ys, ey⟩ := List.exists_cons_of_ne_nil (List.ne_nil_of_mem ho)
                subst ey
                have hy := inv8.lt y (by simp)
                have hg : atI (nats (y :: ys)) 0 = some (.int (y : Nat)) := atI_0
                walk_at "go"
                refine ⟨_, _, _, r8, fun z => (by rw [hg] at z; exact nomatch z), fun v1 e1 => ?_⟩
                rw [hg] at e1
                cases e1
                refine ⟨_, _, by walk_at "seq", atI_iv (by omega), ?_⟩
                walk_at "go"
                rename_i e5 G5 n5
                refine ⟨_, _, by walk_at "lk", by walk_at "lk", le_line (by simp; omega), fun G6 n6 => ?_⟩
                walk_at "go"
                have es : iv W ++ [.int (vs.getD y 0)] = iv (W ++ [vs.getD y 0]) := by simp [iv]
                rw [es] at n6
                have r6 : RingAt T.C_Ring G6 p l' (nats (y :: ys)) cap := ⟨dx1, st1, pl1, ⟨by walk_at "lk", by walk_at "lk"⟩, by assumption⟩
                exact ⟨y :: ys, _, l', cap, _, _, rfl, by walk_at "chg", flN, nlf', r6, n6.at, hL8, inv8, wm.add inv8 (by omega)⟩
              · intro c9
                walk_at "go"
                rename_i e5 G5 n5
                refine ⟨_, _, by walk_at "lk", by walk_at "lk", le_line (by simp; omega), fun G6 n6 => ?_⟩
                walk_at "go"
                rw [List.append_nil] at n6
                have r6 : RingAt T.C_Ring G6 p l' (nats L) cap := ⟨dx1, st1, pl1, ⟨by walk_at "lk", by walk_at "lk"⟩, by assumption⟩
                exact ⟨L, _, l', cap, _, _, rfl, by walk_at "chg", flN, nlf', r6, n6.at, hL8, inv8, wm.skip (by omega)⟩
            · walk_at "go"
              refine ⟨_, _, _, r2, fun z => (by rw [hg] at z; exact nomatch z), fun v1 e1 => ?_⟩
              rw [hg] at e1
              cases e1
              walk_at "go"
              walk_at "if"
              · intro c6
                walk_at "go"
                refine ⟨_, _, _, r2, (fun z => nomatch z), fun v1 own1 e1 G4 c7 r7 => ?_⟩
                have e2 : own1 = nats ys := by simp [nats, uncons] at e1; exact e1.2.symm
                subst e2
                rw [dropHead, if_pos (by omega)] at ip
                walk_at "go"
                exact hN _ _ ⟨_, _, rfl, .ch c7 c3 (by walk_at "sub"), r7, c7.look g3 (by simp [Y.In]; exact ⟨npf.symm, nlf'.symm⟩) rfl, by simp at hlen; omega, ip⟩
              · intro c6
                rw [dropHead, if_neg (by omega)] at ip
                walk_at "go"
                exact hN _ _ ⟨_, _, rfl, c3, r2, g3, hlen, ip⟩
          · refine while_n (fun σ G => ∃ L, σ = [some (.ref v), some (.int k), some (.ref p), some (.ref fo), some (.int (i : Nat)), some (.int (vs.getD i 0))] ∧ Chg T.tabs nil H G ∧ RingAt T.C_Ring G p l (nats L) cap ∧ G fo = some (.lst (iv W)) ∧ L.length ≤ i ∧ DqMid vs L k.toNat i)
              (fun σ G => lenRing G (σ.getD 2 none)) ⟨L, rfl, cc, r1, by walk_at "lk", hLi, inv.mid⟩ ?_
            rintro σ G2 ⟨L, rfl, c2, hr, g1, hLi, inv⟩
            obtain ⟨dx0, st0, pl0, ⟨h4, h5⟩, -, -⟩ := id hr
            have ln := nats_len (L := L)
            walk_at "go"
            walk_at "if"
            · intro c5
              rcases List.eq_nil_or_concat L with e4 | ⟨L0, t, e4⟩
              · subst e4; simp [nats] at c5
              · rw [List.concat_eq_append] at e4
                subst e4
                have hg : atI (nats (L0 ++ [t])) (-1) = some (.int (t : Nat)) := by rw [nats_snoc]; exact atI_m1
                have htl := inv.lt t (by simp)
                walk_at "go"
                refine ⟨_, _, _, hr, fun z => (by rw [show (0 : Int) - 1 = -1 from rfl, hg] at z; exact nomatch z), fun v1 e1 => ?_⟩
                rw [show (0 : Int) - 1 = -1 from rfl, hg] at e1
                cases e1
                refine ⟨_, _, by walk_at "seq", atI_iv (by omega), ?_⟩
                walk_at "go"
                walk_at "if"
                · intro c6
                  refine wh_step ?_
                  walk_at "go"
                  refine ⟨_, _, _, hr, fun z => (by rw [nats_snoc] at z; simp [unsnoc] at z), fun v1 own1 e1 G3 c7 r7 => ?_⟩
                  have e2 : own1 = nats L0 := by rw [nats_snoc] at e1; simp [unsnoc] at e1; exact e1.2.symm
                  subst e2
                  walk_at "go"
                  have npf : p ≠ fo := by walk_at "ne"
                  refine ⟨⟨L0, rfl, .ch c7 c2 (by walk_at "sub"), r7, c7.look g1 (by simp [Y.In]; exact ⟨npf.symm, nlf.symm⟩) rfl, by simp at hLi; omega, inv.pop (by omega)⟩, ?_⟩
                  show lenRing G3 (some (.ref p)) < lenRing G2 (some (.ref p))
                  rw [lenRing_of r7, lenRing_of hr, nats_len, nats_len]; simp
                · intro c6
                  exact hN _ _ ⟨_, rfl, c2, hr, g1, hLi, inv, fun t' h => by simp at h; subst h; omega⟩
            · intro c5
              have e4 : L = [] := List.length_eq_zero_iff.mp (by omega)
              exact hN _ _ ⟨_, rfl, c2, hr, g1, hLi, inv, fun t' h => by rw [e4] at h; exact (nomatch h)⟩
        · rintro σ G ⟨L, W, l, cap, x4, x5, rfl, c, fl, nlf, hr, g1, hLi, inv, wm⟩
          rw [iv_len] at hLi inv wm
          walk_at "go"
          rename_i r G1 m1
          exact hQ c1 c2 r W G1 (by walk_at "chg") (by walk_at "fr") wm m1.at
    · intro c1
      walk_at "go"
      exact hE (by omega) _ (.refl _)
  next => exact h.elim
end
end Z


set_option Elab.async false
set_option linter.all false
set_option maxRecDepth 100000
set_option maxHeartbeats 4000000
set_option pp.maxSteps 1500
namespace Z
open PySem PySem.Spec L2 LamX Y
local macro_rules | `(tactic| walk_at "lk") => `(tactic| first
  | assumption
  | exact Nw.at (by assumption)
  | exact Wr.at (by assumption)
  | exact Mkd.at (by assumption)
  | exact Nw.look (by assumption) (by walk_at "lk")
  | exact Mkd.look (by assumption) (by walk_at "lk")
  | exact Wr.look (by assumption) (by walk_at "lk") (by walk_at "ne")
  | exact Chg.look (by assumption) (by walk_at "lk") (by walk_at "nin") rfl
  | exact Tp.same (by assumption) _ _ (by walk_at "lk")
  | exact Grows.look (by assumption) (by walk_at "lk") rfl
  | fail)
local macro_rules | `(tactic| walk_at "ne") => `(tactic| first
  | assumption
  | exact Ne.symm (by assumption)
  | exact Nw.ne (by assumption) (by walk_at "lk")
  | exact Ne.symm (Nw.ne (by assumption) (by walk_at "lk"))
  | exact ne_fr (by assumption) (by walk_at "lk")
  | exact Ne.symm (ne_fr (by assumption) (by walk_at "lk"))
  | exact ne_fr (Mkd.nx (by assumption)) (by walk_at "lk")
  | exact Ne.symm (ne_fr (Mkd.nx (by assumption)) (by walk_at "lk"))
  | exact ne_kdn (by assumption) (by walk_at "lk") rfl
  | exact Ne.symm (ne_kdn (by assumption) (by walk_at "lk") rfl)
  | fail)
local macro_rules | `(tactic| walk_at "nin") => `(tactic| first
  | exact nin_nil
  | exact id
  | exact nin_cons (by walk_at "ne") (by walk_at "nin")
  | fail)
local macro_rules | `(tactic| walk_at "fr") => `(tactic| first
  | assumption
  | exact Nw.new (by assumption)
  | exact Mkd.nx (by assumption)
  | exact Nw.dom (by assumption) (by walk_at "fr")
  | exact Wr.dom (by assumption) (by walk_at "fr")
  | exact Mkd.dom (by assumption) (by walk_at "fr")
  | exact Chg.dom (by assumption) _ (by walk_at "fr")
  | exact Tp.dom (by assumption) _ (by walk_at "fr")
  | exact Grows.dom (by assumption) _ (by walk_at "fr")
  | fail)
local macro_rules | `(tactic| walk_at "mem") => `(tactic| first
  | assumption
  | exact List.mem_cons_self
  | (apply List.mem_cons_of_mem; walk_at "mem")
  | fail)
local macro_rules | `(tactic| walk_at "in") => `(tactic| first
  | assumption
  | (apply Or.inl; walk_at "mem")
  | (apply Or.inr; walk_at "fr")
  | fail)
local macro_rules | `(tactic| walk_at "sub") => `(tactic| first
  | exact sub_nil0
  | exact sub_nil
  | exact sub_cons (by walk_at "in") (by walk_at "sub")
  | fail)
local macro_rules | `(tactic| walk_at "chg") => `(tactic| first
  | assumption
  | exact Chg.refl _
  | exact Chg.nw (by assumption) (by walk_at "chg")
  | exact Chg.mkd (by assumption) (by walk_at "chg")
  | exact Chg.tp (by assumption) (by walk_at "chg")
  | exact Chg.gr (by assumption) (by walk_at "chg")
  | exact Chg.wr (by assumption) (by walk_at "chg") (by walk_at "in")
  | exact Chg.ch (by assumption) (by walk_at "chg") (by walk_at "sub")
  | fail)
local macro_rules | `(tactic| walk_at "sq") => `(tactic| first
  | assumption
  | exact SqL.of (by walk_at "lk")
  | exact Chg.seqL (by assumption) (by walk_at "sq") (by walk_at "nin")
  | exact SqL.nw (by assumption) (by walk_at "sq")
  | exact SqL.tp (by assumption) (by walk_at "sq")
  | exact SqL.mkd (by assumption) (by walk_at "sq")
  | exact SqL.wr (by assumption) (by walk_at "sq") (by walk_at "ne")
  | fail)
local macro_rules | `(tactic| walk_at "sqt") => `(tactic| first
  | assumption
  | exact SqT.of (by walk_at "lk")
  | exact Tp.sq (by assumption)
  | exact SqT.nw (by assumption) (by walk_at "sqt")
  | exact SqT.tp (by assumption) (by walk_at "sqt")
  | exact SqT.mkd (by assumption) (by walk_at "sqt")
  | exact SqT.chg (by assumption) (by walk_at "sqt") (by walk_at "nin")
  | fail)
local macro_rules | `(tactic| walk_at "seq") => `(tactic| first
  | assumption
  | exact .inl (by walk_at "sq")
  | exact .inr (by walk_at "sqt")
  | exact SqA.keepN (T := Env.tabs (by assumption)) (by assumption) (by walk_at "chg")
  | fail)
local macro_rules | `(tactic| walk_at "go") => `(tactic| repeat first
  | refine ⟨_, rfl, ?_⟩
  | refine ⟨_, _, _, _, rfl, And.intro (by walk_at "lk") (And.intro rfl ?_)⟩
  | refine ⟨_, _, _, rfl, And.intro (by walk_at "lk") (And.intro (by walk_at "side") ?_)⟩
  | refine ⟨_, _, And.intro rfl (And.intro rfl ?_)⟩
  | refine ⟨_, _, And.intro rfl (And.intro (by walk_at "lk") ?_)⟩
  | refine ⟨_, _, _, And.intro rfl (And.intro (by walk_at "lk") ?_)⟩
  | refine ⟨_, And.intro (by walk_at "lk") (And.intro (by walk_at "side") ?_)⟩
  | refine ⟨_, _, And.intro (by walk_at "lk") (And.intro (by walk_at "side") ?_)⟩
  | refine ⟨_, _, And.intro (by walk_at "seq") (And.intro rfl ?_)⟩
  | refine ⟨_, And.intro (by walk_at "seq") ?_⟩
  | refine ⟨_, And.intro (by walk_at "lk") (And.intro (by walk_at "side") (And.intro (by walk_at "side") (And.intro (by walk_at "side") ?_)))⟩
  | refine .inl ⟨_, _, And.intro (by walk_at "lk") (And.intro (by walk_at "lk") (And.intro (by walk_at "side") ?_))⟩
  | refine .inr ⟨_, _, And.intro (by walk_at "sqt") (And.intro (by walk_at "sqt") (And.intro (by walk_at "side") ?_))⟩
  | refine .inl ⟨_, And.intro (by walk_at "sq") ?_⟩
  | refine .inr ⟨_, And.intro (by walk_at "sqt") ?_⟩
  | refine ⟨_, _, _, _, rfl, rfl, And.intro (by walk_at "lk") (And.intro rfl ?_)⟩
  | refine fun H' (n : Wr _ _ _ H') => ?_
  | refine fun p H' (n : Nw _ p _ H') => ?_
  | refine fun r H' (n : Tp _ _ r _ H') => ?_
  | refine fun x dx H' (n : Mkd _ _ x dx H') => ?_
  | refine .inl ⟨_, _, rfl, And.intro (by walk_at "sq") (fun p H' (n : Nw _ p _ H') => ?_)⟩
  | refine .inr ⟨_, _, rfl, And.intro (by walk_at "sqt") (fun r H' (n : Tp _ _ r _ H') => ?_)⟩
  | refine ⟨_, _, rfl, And.intro (by walk_at "sq") (fun p H' (n : Nw _ p _ H') => ?_)⟩
  | refine .inl (And.intro ⟨_, by walk_at "sq"⟩ ?_)
  | refine .inr (And.intro ⟨_, by walk_at "sqt"⟩ ?_)
  | refine ⟨_, _, rfl, And.intro (by walk_at "sqt") (And.intro rfl ?_)⟩
  | refine ⟨_, _, And.intro rfl ?_⟩
  | refine ⟨_, _, _, And.intro rfl ?_⟩
  | refine And.intro rfl ?_
  | (refine ite_t ?_ ?_; exact rfl)
  | (refine ite_f ?_ ?_; exact rfl)
  | refine And.intro (by walk_at "side") ?_)
local macro_rules | `(tactic| walk_at "side") => `(tactic| first
  | exact (rfl : _ = _)
  | decide
  | exact lt1000 rfl
  | with_reducible assumption
  | exact ⟨by omega, by omega⟩
  | exact .inl ⟨by omega, by omega⟩
  | exact .inr ⟨by omega, by omega⟩
  | omega
  | (apply le_line; omega)
  | (apply lt_line; omega)
  | (apply le_line; simp <;> omega)
  | (apply lt_line; simp <;> omega)
  | fail)
local macro_rules | `(tactic| walk_at "if") => `(tactic| first
  | refine ite_nd ?_ ?_
  | refine ite_d ?_ ?_
  | refine ite_eqt ?_ ?_
  | fail)
local macro_rules | `(tactic| walk_at "roll") => `(tactic| first
  | (refine And.intro (show Dice _ _ from ⟨_, _, _, by walk_at "lk"⟩) (And.intro (by walk_at "side") (And.intro (by walk_at "side") (fun r H' r0 r1 ro => ?_))); obtain ⟨a', b', c', w⟩ := ro)
  | fail)
local macro_rules | `(tactic| walk_at "run") => `(tactic| (walk_at "go"; repeat (walk_at "roll"; walk_at "go")))
local macro_rules | `(tactic| walk_at "dp") => `(tactic| first
  | exact Dp.non
  | exact Dp.int _
  | exact Dp.str _
  | exact Dp.bl _
  | exact DpAll.nil
  | exact DpAll.cons (by walk_at "dp") (by walk_at "dp")
  | exact Dp.tup (by walk_at "sqt") (by walk_at "dp")
  | exact Dp.lst (by walk_at "sq") (by walk_at "dp")
  | fail)

section
variable {w : World} {K : PySem.W.Frag} {mg : Str → Option Value} {base : Heap}
def sp__law_size (T : Env w K mg base) : Sp := fun vs H Q _ => match vs with
  | [.int r] => 1 ≤ r ∧ Q (.int (dbl 1 r.toNat : Nat)) H
  | _ => False
theorem ok__law_size (T : Env w K mg base) : FnOk prg w K mg base (L2.CX prg w) 8 T.f__law_size T.fd__law_size ["room"] (sp__law_size T) := by
  refine T.F__law_size.ok sc__law_size (fun vs H Q E h => by unfold sp__law_size at h; split at h <;> first | rfl | exact h.elim) fun A outer s H vs Q E hr h => ?_
  refine ⟨_, (pss_cons (ps_set (i := 1) sc__law_size.nd rfl (Or.inl rfl) pe_int)
  (pss_cons (ps_while (passes_of rfl) (pt_cmpR Y.op_lt (pv 1) (pv 0) (nomark _)) (pss_one (ps_set (i := 1) sc__law_size.nd rfl (Or.inl rfl) (pe_op Y.op_mul pe_int (pv 1)))))
  (pss_one (ps_ret (pv 1))))), ?_⟩
  unfold sp__law_size at h
  split at h
  next r =>
    obtain ⟨r1, h⟩ := h
    walk_at "go"
    refine while_n (fun σ H' => ∃ f : Nat, σ = [some (.int r), some (.int f)] ∧ H' = H ∧ 0 < f ∧ dbl f r.toNat = dbl 1 r.toNat)
      (fun σ _ => match σ with | [_, some (.int f)] => (r - f).toNat | _ => 0) ⟨1, rfl, rfl, by decide, rfl⟩ ?_
    rintro σ H' ⟨f, rfl, rfl, f1, f4⟩
    walk_at "go"
    walk_at "if"
    · intro c3
      refine wh_step ?_
      walk_at "go"
      refine ⟨⟨2 * f, ?_, rfl, by omega, by rw [dbl_go (by omega) f1]; exact f4⟩, ?_⟩
      · show [_, some (V.int (2 * ↑f))] = _
        rw [show (2 : Int) * (f : Int) = ((2 * f : Nat) : Int) by omega]
      · show (r - 2 * (f : Int)).toNat < (r - (f : Int)).toNat
        omega
    · intro c3
      walk_at "go"
      have ef : dbl 1 r.toNat = f := by rw [← f4, dbl_end (by omega)]
      rw [ef] at h
      exact h
  next => exact h.elim
end
end Z


set_option Elab.async false
set_option linter.all false
set_option maxRecDepth 100000
set_option maxHeartbeats 4000000
set_option pp.maxSteps 1500
namespace Z
open PySem PySem.Spec L2 LamX Y
local macro_rules | `(tactic| walk_at "lk") => `(tactic| first
  | assumption
  | exact Nw.at (by assumption)
  | exact Wr.at (by assumption)
  | exact Mkd.at (by assumption)
  | exact Nw.look (by assumption) (by walk_at "lk")
  | exact Mkd.look (by assumption) (by walk_at "lk")
  | exact Wr.look (by assumption) (by walk_at "lk") (by walk_at "ne")
  | exact Chg.look (by assumption) (by walk_at "lk") (by walk_at "nin") rfl
  | exact Tp.same (by assumption) _ _ (by walk_at "lk")
  | exact Grows.look (by assumption) (by walk_at "lk") rfl
  | fail)
local macro_rules | `(tactic| walk_at "ne") => `(tactic| first
  | assumption
  | exact Ne.symm (by assumption)
  | exact Nw.ne (by assumption) (by walk_at "lk")
  | exact Ne.symm (Nw.ne (by assumption) (by walk_at "lk"))
  | exact ne_fr (by assumption) (by walk_at "lk")
  | exact Ne.symm (ne_fr (by assumption) (by walk_at "lk"))
  | exact ne_fr (Mkd.nx (by assumption)) (by walk_at "lk")
  | exact Ne.symm (ne_fr (Mkd.nx (by assumption)) (by walk_at "lk"))
  | exact ne_kdn (by assumption) (by walk_at "lk") rfl
  | exact Ne.symm (ne_kdn (by assumption) (by walk_at "lk") rfl)
  | fail)
local macro_rules | `(tactic| walk_at "nin") => `(tactic| first
  | exact nin_nil
  | exact id
  | exact nin_cons (by walk_at "ne") (by walk_at "nin")
  | fail)
local macro_rules | `(tactic| walk_at "fr") => `(tactic| first
  | assumption
  | exact Nw.new (by assumption)
  | exact Mkd.nx (by assumption)
  | exact Nw.dom (by assumption) (by walk_at "fr")
  | exact Wr.dom (by assumption) (by walk_at "fr")
  | exact Mkd.dom (by assumption) (by walk_at "fr")
  | exact Chg.dom (by assumption) _ (by walk_at "fr")
  | exact Tp.dom (by assumption) _ (by walk_at "fr")
  | exact Grows.dom (by assumption) _ (by walk_at "fr")
  | fail)
local macro_rules | `(tactic| walk_at "mem") => `(tactic| first
  | assumption
  | exact List.mem_cons_self
  | (apply List.mem_cons_of_mem; walk_at "mem")
  | fail)
local macro_rules | `(tactic| walk_at "in") => `(tactic| first
  | assumption
  | (apply Or.inl; walk_at "mem")
  | (apply Or.inr; walk_at "fr")
  | fail)
local macro_rules | `(tactic| walk_at "sub") => `(tactic| first
  | exact sub_nil0
  | exact sub_nil
  | exact sub_cons (by walk_at "in") (by walk_at "sub")
  | fail)
local macro_rules | `(tactic| walk_at "chg") => `(tactic| first
  | assumption
  | exact Chg.refl _
  | exact Chg.nw (by assumption) (by walk_at "chg")
  | exact Chg.mkd (by assumption) (by walk_at "chg")
  | exact Chg.tp (by assumption) (by walk_at "chg")
  | exact Chg.gr (by assumption) (by walk_at "chg")
  | exact Chg.wr (by assumption) (by walk_at "chg") (by walk_at "in")
  | exact Chg.ch (by assumption) (by walk_at "chg") (by walk_at "sub")
  | fail)
local macro_rules | `(tactic| walk_at "sq") => `(tactic| first
  | assumption
  | exact SqL.of (by walk_at "lk")
  | exact Chg.seqL (by assumption) (by walk_at "sq") (by walk_at "nin")
  | exact SqL.nw (by assumption) (by walk_at "sq")
  | exact SqL.tp (by assumption) (by walk_at "sq")
  | exact SqL.mkd (by assumption) (by walk_at "sq")
  | exact SqL.wr (by assumption) (by walk_at "sq") (by walk_at "ne")
  | fail)
local macro_rules | `(tactic| walk_at "sqt") => `(tactic| first
  | assumption
  | exact SqT.of (by walk_at "lk")
  | exact Tp.sq (by assumption)
  | exact SqT.nw (by assumption) (by walk_at "sqt")
  | exact SqT.tp (by assumption) (by walk_at "sqt")
  | exact SqT.mkd (by assumption) (by walk_at "sqt")
  | exact SqT.chg (by assumption) (by walk_at "sqt") (by walk_at "nin")
  | fail)
local macro_rules | `(tactic| walk_at "seq") => `(tactic| first
  | assumption
  | exact .inl (by walk_at "sq")
  | exact .inr (by walk_at "sqt")
  | exact SqA.keepN (T := Env.tabs (by assumption)) (by assumption) (by walk_at "chg")
  | fail)
local macro_rules | `(tactic| walk_at "go") => `(tactic| repeat first
  | refine ⟨_, rfl, ?_⟩
  | refine ⟨_, _, _, _, rfl, And.intro (by walk_at "lk") (And.intro rfl ?_)⟩
  | refine ⟨_, _, _, rfl, And.intro (by walk_at "lk") (And.intro (by walk_at "side") ?_)⟩
  | refine ⟨_, _, And.intro rfl (And.intro rfl ?_)⟩
  | refine ⟨_, _, And.intro rfl (And.intro (by walk_at "lk") ?_)⟩
  | refine ⟨_, _, _, And.intro rfl (And.intro (by walk_at "lk") ?_)⟩
  | refine ⟨_, And.intro (by walk_at "lk") (And.intro (by walk_at "side") ?_)⟩
  | refine ⟨_, _, And.intro (by walk_at "lk") (And.intro (by walk_at "side") ?_)⟩
  | refine ⟨_, _, And.intro (by walk_at "seq") (And.intro rfl ?_)⟩
  | refine ⟨_, And.intro (by walk_at "seq") ?_⟩
  | refine ⟨_, And.intro (by walk_at "lk") (And.intro (by walk_at "side") (And.intro (by walk_at "side") (And.intro (by walk_at "side") ?_)))⟩
  | refine .inl ⟨_, _, And.intro (by walk_at "lk") (And.intro (by walk_at "lk") (And.intro (by walk_at "side") ?_))⟩
  | refine .inr ⟨_, _, And.intro (by walk_at "sqt") (And.intro (by walk_at "sqt") (And.intro (by walk_at "side") ?_))⟩
  | refine .inl ⟨_, And.intro (by walk_at "sq") ?_⟩
  | refine .inr ⟨_, And.intro (by walk_at "sqt") ?_⟩
  | refine ⟨_, _, _, _, rfl, rfl, And.intro (by walk_at "lk") (And.intro rfl ?_)⟩
  | refine fun H' (n : Wr _ _ _ H') => ?_
  | refine fun p H' (n : Nw _ p _ H') => ?_
  | refine fun r H' (n : Tp _ _ r _ H') => ?_
  | refine fun x dx H' (n : Mkd _ _ x dx H') => ?_
  | refine .inl ⟨_, _, rfl, And.intro (by walk_at "sq") (fun p H' (n : Nw _ p _ H') => ?_)⟩
  | refine .inr ⟨_, _, rfl, And.intro (by walk_at "sqt") (fun r H' (n : Tp _ _ r _ H') => ?_)⟩
  | refine ⟨_, _, rfl, And.intro (by walk_at "sq") (fun p H' (n : Nw _ p _ H') => ?_)⟩
  | refine .inl (And.intro ⟨_, by walk_at "sq"⟩ ?_)
  | refine .inr (And.intro ⟨_, by walk_at "sqt"⟩ ?_)
  | refine ⟨_, _, rfl, And.intro (by walk_at "sqt") (And.intro rfl ?_)⟩
  | refine ⟨_, _, And.intro rfl ?_⟩
  | refine ⟨_, _, _, And.intro rfl ?_⟩
  | refine And.intro rfl ?_
  | (refine ite_t ?_ ?_; exact rfl)
  | (refine ite_f ?_ ?_; exact rfl)
  | refine And.intro (by walk_at "side") ?_)
local macro_rules | `(tactic| walk_at "side") => `(tactic| first
  | exact (rfl : _ = _)
  | decide
  | exact lt1000 rfl
  | with_reducible assumption
  | exact ⟨by omega, by omega⟩
  | exact .inl ⟨by omega, by omega⟩
  | exact .inr ⟨by omega, by omega⟩
  | omega
  | (apply le_line; omega)
  | (apply lt_line; omega)
  | (apply le_line; simp <;> omega)
  | (apply lt_line; simp <;> omega)
  | fail)
local macro_rules | `(tactic| walk_at "if") => `(tactic| first
  | refine ite_nd ?_ ?_
  | refine ite_d ?_ ?_
  | refine ite_eqt ?_ ?_
  | fail)
local macro_rules | `(tactic| walk_at "roll") => `(tactic| first
  | (refine And.intro (show Dice _ _ from ⟨_, _, _, by walk_at "lk"⟩) (And.intro (by walk_at "side") (And.intro (by walk_at "side") (fun r H' r0 r1 ro => ?_))); obtain ⟨a', b', c', w⟩ := ro)
  | fail)
local macro_rules | `(tactic| walk_at "run") => `(tactic| (walk_at "go"; repeat (walk_at "roll"; walk_at "go")))
local macro_rules | `(tactic| walk_at "dp") => `(tactic| first
  | exact Dp.non
  | exact Dp.int _
  | exact Dp.str _
  | exact Dp.bl _
  | exact DpAll.nil
  | exact DpAll.cons (by walk_at "dp") (by walk_at "dp")
  | exact Dp.tup (by walk_at "sqt") (by walk_at "dp")
  | exact Dp.lst (by walk_at "sq") (by walk_at "dp")
  | fail)

section
variable {w : World} {K : PySem.W.Frag} {mg : Str → Option Value} {base : Heap}
theorem at_two {xs : List V} {i : Nat} (h : i < (xs ++ xs).length) : atI xs (-(xs.length : Int) + (i : Int)) = some (xs ++ xs)[i] := by
  have e := List.getElem?_eq_getElem h
  rw [← e]
  simp at h
  by_cases c : i < xs.length
  · rw [atI_back (by omega) (by omega), List.getElem?_append_left c]
    congr 1
    omega
  · rw [atI_nat (by omega) (by omega), List.getElem?_append_right (by omega)]
    congr 1
    omega
def sp__law_ring (T : Env w K mg base) : Sp := fun vs H Q _ => match vs with
  | [.ref d] => Dice H d ∧ Tabs T.tabs H ∧ ∀ H', Chg T.tabs (Y.In [d]) H H' → Dice H' d → Q (.bl true) H'
  | _ => False
theorem ok__law_ring (T : Env w K mg base) : FnOk prg w K mg base (L2.CX prg w) 48 T.f__law_ring T.fd__law_ring ["dice"] (sp__law_ring T) := by
  refine T.F__law_ring.ok sc__law_ring (fun vs H Q E h => by unfold sp__law_ring at h; split at h <;> first | rfl | exact h.elim) fun A outer s H vs Q E hr h => ?_
  refine ⟨_, (pss_cons (ps_set (i := 1) sc__law_ring.nd rfl (Or.inl rfl) (pe_op (Y.op_addK (K := K) rfl) pe_int (pe_call (ok__law_roll T) (hr.mono (by decide)) rfl T.mg__law_roll T.F__law_roll.kp T.b__law_roll .nil (Y.passD rfl rfl rfl rfl) (pa_cons (pv 0) (pa_cons pe_int pa_nil)))))
  (pss_cons (ps_asg (Y.pe_tu (pa_cons (Y.pe_mk T.mk_Ring (ok_Ring___init__ T) (hr.mono (by decide)) rfl T.mg_Ring T.b_Ring___init__ .nil (Y.passD rfl rfl rfl rfl) (pa_cons (pv 1) pa_nil)) (pa_cons (Y.pe_ls pa_nil) (pa_cons (pe_call (ok__law_size T) (hr.mono (by decide)) rfl T.mg__law_size T.F__law_size.kp T.b__law_size .nil (Y.passD rfl rfl rfl rfl) (pa_cons (pv 1) pa_nil)) pa_nil)))) (Y.pg_tupK (K := K) (n := 3) rfl rfl (pgs_cons (pg_name (i := 2) sc__law_ring.nd rfl (Or.inr rfl)) (pgs_cons (pg_name (i := 3) sc__law_ring.nd rfl (Or.inl rfl)) (pgs_cons (pg_name (i := 4) sc__law_ring.nd rfl (Or.inl rfl)) pgs_nil)))))
  (pss_cons (ps_for (passes_of rfl) rfl (pi_range1 rfl T.no_range (pa_cons (pe_call (ok__law_roll T) (hr.mono (by decide)) rfl T.mg__law_roll T.F__law_roll.kp T.b__law_roll .nil (Y.passD rfl rfl rfl rfl) (pa_cons (pv 0) (pa_cons pe_int pa_nil))) pa_nil)) (pg_name (i := 5) sc__law_ring.nd rfl (Or.inl rfl)) (pss_cons (ps_asg (Y.pe_tu (pa_cons (pe_call (ok__law_roll T) (hr.mono (by decide)) rfl T.mg__law_roll T.F__law_roll.kp T.b__law_roll .nil (Y.passD rfl rfl rfl rfl) (pa_cons (pv 0) (pa_cons pe_int pa_nil))) (pa_cons (pe_ix (Y.ixK (K := K) rfl) (Y.pe_ls (pa_cons pe_non (pa_cons (pe_call (ok__law_roll T) (hr.mono (by decide)) rfl T.mg__law_roll T.F__law_roll.kp T.b__law_roll .nil (Y.passD rfl rfl rfl rfl) (pa_cons (pv 0) (pa_cons pe_int pa_nil))) pa_nil))) (pe_callTy Y.call_int1 (by rfl) T.no_int (by decide +kernel) (pa_cons (pe_cmpR Y.op_gt (pe_call (ok__law_roll T) (hr.mono (by decide)) rfl T.mg__law_roll T.F__law_roll.kp T.b__law_roll .nil (Y.passD rfl rfl rfl rfl) (pa_cons (pv 0) (pa_cons pe_int pa_nil))) pe_int (nomark _)) pa_nil)) (fun _ _ => rfl)) pa_nil))) (Y.pg_tupK (K := K) (n := 2) rfl rfl (pgs_cons (pg_name (i := 6) sc__law_ring.nd rfl (Or.inl rfl)) (pgs_cons (pg_name (i := 7) sc__law_ring.nd rfl (Or.inr rfl)) pgs_nil))))
  (pss_cons (ps_if (pt_cmpR Y.op_lt (pv 6) pe_int (nomark _)) (pss_cons (ps_set (i := 8) sc__law_ring.nd rfl (Or.inl rfl) (pe_cmpR Y.op_notN (pv 7) pe_non (nomark _)))
  (pss_cons (ps_set (i := 4) sc__law_ring.nd rfl (Or.inl rfl) (pe_ifExp (PW.pt (pw_and (pt_truth (pv 8) (by intro _; rfl)) (pw_and1 (pt_cmpR (Y.op_eqK (K := K) rfl hr.units) (pe_callB (Y.lenK (K := K) rfl) (by rfl) T.no_len (by decide +kernel) (pa_cons (pv 3) pa_nil)) (pv 4) (nomark _))))) (pe_op Y.op_mul pe_int (pv 4)) (pv 4)))
  (pss_one (ps_if (pt_cmpR Y.op_lt (pv 6) pe_int (nomark _)) (pss_cons (ps_set (i := 9) sc__law_ring.nd rfl (Or.inl rfl) (pe_cmpR (Y.op_eqK (K := K) rfl hr.units) (pe_cmpR Y.op_isN (Y.pe_toD (k := 40) T.F__law_told T.mg__law_told T.b__law_told sc__law_told T.mg_RingError (hr.mono (by decide)) (Y.pe_lamG (k := 40) T.tb__law_ring rfl T.tm__law_ring T.tu__law_ring rfl ⟨lamS_by (show lamSB (defScope s__law_ring) _ = true by decide +kernel), fun _ _ _ _ _ => rfl, fun A outer s H E f c' hr => (pe_meth (pv 2) T.cl_Ring T.me_Ring_put_last (ok_Ring_put_last T) (hr.mono (by decide)) T.b_Ring_put_last .nil (Y.passD rfl rfl rfl rfl) (pa_cons (pv 7) pa_nil))⟩) rfl rfl (Or.inl rfl) rfl (fun _ => rfl) rfl) pe_non (nomark _)) (pv 8) (nomark _)))
  (pss_one (ps_set (i := 3) sc__law_ring.nd rfl (Or.inl rfl) (pe_op (Y.op_addK (K := K) rfl) (pv 3) (pe_op Y.op_mul (Y.pe_ls (pa_cons (pv 7) pa_nil)) (pe_callTy Y.call_int1 (by rfl) T.no_int (by decide +kernel) (pa_cons (pv 8) pa_nil))))))) (pss_cons (ps_set (i := 9) sc__law_ring.nd rfl (Or.inl rfl) (pe_cmpR (Y.op_eqK (K := K) rfl hr.units) (pe_cmpR Y.op_isN (Y.pe_toD (k := 40) T.F__law_told T.mg__law_told T.b__law_told sc__law_told T.mg_RingError (hr.mono (by decide)) (Y.pe_lamG (k := 40) T.tb__law_ring rfl T.tm__law_ring T.tu__law_ring rfl ⟨lamS_by (show lamSB (defScope s__law_ring) _ = true by decide +kernel), fun _ _ _ _ _ => rfl, fun A outer s H E f c' hr => (pe_meth (pv 2) T.cl_Ring T.me_Ring_put_first (ok_Ring_put_first T) (hr.mono (by decide)) T.b_Ring_put_first .nil (Y.passD rfl rfl rfl rfl) (pa_cons (pv 7) pa_nil))⟩) rfl rfl (Or.inl rfl) rfl (fun _ => rfl) rfl) pe_non (nomark _)) (pv 8) (nomark _)))
  (pss_one (ps_set (i := 3) sc__law_ring.nd rfl (Or.inl rfl) (pe_op (Y.op_addK (K := K) rfl) (pe_op Y.op_mul (Y.pe_ls (pa_cons (pv 7) pa_nil)) (pe_callTy Y.call_int1 (by rfl) T.no_int (by decide +kernel) (pa_cons (pv 8) pa_nil))) (pv 3))))))))) (pss_one (ps_if (pt_cmpR (Y.op_eqK (K := K) rfl hr.units) (pv 6) pe_int (nomark _)) (pss_cons (ps_set (i := 9) sc__law_ring.nd rfl (Or.inl rfl) (pe_cmpR (Y.op_eqK (K := K) rfl hr.units) (Y.pe_toD (k := 40) T.F__law_told T.mg__law_told T.b__law_told sc__law_told T.mg_RingError (hr.mono (by decide)) (Y.pe_lamG (k := 40) T.tb__law_ring rfl T.tm__law_ring T.tu__law_ring rfl ⟨lamS_by (show lamSB (defScope s__law_ring) _ = true by decide +kernel), fun _ _ _ _ _ => rfl, fun A outer s H E f c' hr => (pe_meth0 (pv 2) T.cl_Ring T.me_Ring_take_first (ok_Ring_take_first T) (hr.mono (by decide)) T.b_Ring_take_first .nil (Y.passD rfl rfl rfl rfl))⟩) rfl rfl (Or.inl rfl) rfl (fun _ => rfl) rfl) (pe_ix (Y.ixK (K := K) rfl) (pe_op (Y.op_addK (K := K) rfl) (pv 3) (Y.pe_ls (pa_cons pe_str pa_nil))) pe_int (fun _ _ => rfl)) (nomark _)))
  (pss_one (ps_set (i := 3) sc__law_ring.nd rfl (Or.inl rfl) (pe_slice (Y.slK (K := K) rfl) (pv 3) (po_some pe_int) po_none)))) (pss_one (ps_if (pt_cmpR Y.op_lt (pv 6) pe_int (nomark _)) (pss_cons (ps_set (i := 9) sc__law_ring.nd rfl (Or.inl rfl) (pe_cmpR (Y.op_eqK (K := K) rfl hr.units) (Y.pe_toD (k := 40) T.F__law_told T.mg__law_told T.b__law_told sc__law_told T.mg_RingError (hr.mono (by decide)) (Y.pe_lamG (k := 40) T.tb__law_ring rfl T.tm__law_ring T.tu__law_ring rfl ⟨lamS_by (show lamSB (defScope s__law_ring) _ = true by decide +kernel), fun _ _ _ _ _ => rfl, fun A outer s H E f c' hr => (pe_meth0 (pv 2) T.cl_Ring T.me_Ring_take_last (ok_Ring_take_last T) (hr.mono (by decide)) T.b_Ring_take_last .nil (Y.passD rfl rfl rfl rfl))⟩) rfl rfl (Or.inl rfl) rfl (fun _ => rfl) rfl) (pe_ix (Y.ixK (K := K) rfl) (pe_op (Y.op_addK (K := K) rfl) (Y.pe_ls (pa_cons pe_str pa_nil)) (pv 3)) (pe_un un_neg pe_int) (fun _ _ => rfl)) (nomark _)))
  (pss_one (ps_set (i := 3) sc__law_ring.nd rfl (Or.inl rfl) (pe_slice (Y.slK (K := K) rfl) (pv 3) po_none (po_some (pe_un un_neg pe_int)))))) (pss_cons (ps_set (i := 10) sc__law_ring.nd rfl (Or.inr rfl) (pe_op Y.op_sub (pe_call (ok__law_roll T) (hr.mono (by decide)) rfl T.mg__law_roll T.F__law_roll.kp T.b__law_roll .nil (Y.passD rfl rfl rfl rfl) (pa_cons (pv 0) (pa_cons pe_int pa_nil))) pe_int))
  (pss_cons (ps_set (i := 9) sc__law_ring.nd rfl (Or.inl rfl) (pe_cmpR (Y.op_eqK (K := K) rfl hr.units) (pe_cmpR Y.op_isN (Y.pe_toD (k := 40) T.F__law_told T.mg__law_told T.b__law_told sc__law_told T.mg_RingError (hr.mono (by decide)) (Y.pe_lamG (k := 40) T.tb__law_ring rfl T.tm__law_ring T.tu__law_ring rfl ⟨lamS_by (show lamSB (defScope s__law_ring) _ = true by decide +kernel), fun _ _ _ _ _ => rfl, fun A outer s H E f c' hr => (pe_meth (pv 2) T.cl_Ring T.me_Ring_turn_by (ok_Ring_turn_by T) (hr.mono (by decide)) T.b_Ring_turn_by .nil (Y.passD rfl rfl rfl rfl) (pa_cons (pv 10) pa_nil))⟩) rfl rfl (Or.inl rfl) rfl (fun _ => rfl) rfl) pe_non (nomark _)) (pe_cmpR (Y.op_neK (K := K) rfl hr.units) (pv 3) (Y.pe_ls pa_nil) (nomark _)) (nomark _)))
  (pss_cons (ps_set (i := 11) sc__law_ring.nd rfl (Or.inl rfl) (pe_ifExp (pt_cmpR (Y.op_neK (K := K) rfl hr.units) (pv 3) (Y.pe_ls pa_nil) (nomark _)) (pe_op Y.op_mod (pv 10) (pe_callB (Y.lenK (K := K) rfl) (by rfl) T.no_len (by decide +kernel) (pa_cons (pv 3) pa_nil))) pe_int))
  (pss_one (ps_set (i := 3) sc__law_ring.nd rfl (Or.inl rfl) (pe_op (Y.op_addK (K := K) rfl) (pe_slice (Y.slK (K := K) rfl) (pv 3) (po_some (pv 11)) po_none) (pe_slice (Y.slK (K := K) rfl) (pv 3) po_none (po_some (pv 11))))))))))))))
  (pss_cons (ps_if (PW.pt (pw_or (pt_not (pt_truth (pv 9) (by intro _; rfl))) (pw_or (pt_cmpR (Y.op_neK (K := K) rfl hr.units) (pe_callTy (Y.listK (K := K) rfl) (by rfl) T.no_list (by decide +kernel) (pa_cons (pe_meth0 (pv 2) T.cl_Ring T.me_Ring_all_items (ok_Ring_all_items T) (hr.mono (by decide)) T.b_Ring_all_items .nil (Y.passD rfl rfl rfl rfl)) pa_nil)) (pv 3) (nomark _)) (pw_or1 (pt_cmpR (Y.op_neK (K := K) rfl hr.units) (Y.pe_tu (pa_cons (Y.pe_f T.cl_Ring T.na_Ring_many (pv 2)) (pa_cons (pe_meth0 (pv 2) T.cl_Ring T.me_Ring_room_left (ok_Ring_room_left T) (hr.mono (by decide)) T.b_Ring_room_left .nil (Y.passD rfl rfl rfl rfl)) pa_nil))) (Y.pe_tu (pa_cons (pe_callB (Y.lenK (K := K) rfl) (by rfl) T.no_len (by decide +kernel) (pa_cons (pv 3) pa_nil)) (pa_cons (pe_op Y.op_sub (pv 4) (pe_callB (Y.lenK (K := K) rfl) (by rfl) T.no_len (by decide +kernel) (pa_cons (pv 3) pa_nil))) pa_nil))) (nomark _)))))) (pss_one (ps_ret pe_bl)) pss_nil)
  (pss_one (ps_if (pt_cmpR (Y.op_neK (K := K) rfl hr.units) (pe_lc (own := [("k", 12)]) rfl sc__law_ring.nd (pi_range2 rfl T.no_range (pa_cons (pe_un un_neg (pe_callB (Y.lenK (K := K) rfl) (by rfl) T.no_len (by decide +kernel) (pa_cons (pv 3) pa_nil))) (pa_cons (pe_callB (Y.lenK (K := K) rfl) (by rfl) T.no_len (by decide +kernel) (pa_cons (pv 3) pa_nil)) pa_nil))) (blkOk_by (own := [("k", 12)]) (N := N__law_ring) (sc := defScope s__law_ring) (by decide +kernel)) (fun _ _ _ _ _ => (pg_name (i := 12) sc__law_ring.nd rfl (Or.inl rfl))) (fun _ _ _ _ _ => pts_nil) (fun _ _ _ _ _ => (pe_meth (pv 2) T.cl_Ring T.me_Ring_item_at (ok_Ring_item_at T) (hr.mono (by decide)) T.b_Ring_item_at .nil Y.passN (pa_cons (pv 12) pa_nil)))) (pe_op (Y.op_addK (K := K) rfl) (pv 3) (pv 3)) (nomark _)) (pss_one (ps_ret pe_bl)) pss_nil))))))
  (pss_one (ps_ret pe_bl))))), ?_⟩
  unfold sp__law_ring at h
  split at h
  next d =>
    obtain ⟨⟨d0, d1, d2, hd⟩, ht, hQ⟩ := h
    walk_at "run"
    rename_i r1 H1 r10 r11 b0 b1 b2 w1 p dx H2 n2
    intro k1 k2 l H3 c3 fl hr
    refine ⟨rfl, ?_⟩
    walk_at "run"
    rename_i o H4 n4 t5 H5 n5 m H6 m0 m1 b3 b4 b5 w6
    have fp : H p = none := by walk_at "fr"
    have fl0 : H l = none := by walk_at "fr"
    have fo0 : H o = none := by walk_at "fr"
    have nlo : l ≠ o := by
      obtain ⟨dx0, st0, pl0, ⟨h4, h5⟩, -, -⟩ := id hr
      walk_at "ne"
    have c6 : Chg T.tabs (Y.In [d]) H H6 := by walk_at "chg"
    have r6 : RingAt T.C_Ring H6 p l (iv []) (dbl 1 (1 + r1).toNat) := hr.chg (T := T.tabs) (S := Y.In [d]) (by walk_at "chg") (by walk_at "nin") (by walk_at "nin")
    have ndp : d ≠ p := by walk_at "ne"
    refine for_range (fun i σ G => ∃ os l o cap x5 x6 x7 x8 x9 x10 x11, σ = [some (.ref d), some (.int (1 + r1)), some (.ref p), some (.ref o), some (.int (cap : Nat)), x5, x6, x7, x8, x9, x10, x11, none] ∧ Chg T.tabs (Y.In [d]) H G ∧ H l = none ∧ H o = none ∧ l ≠ o ∧ RingAt T.C_Ring G p l (iv os) cap ∧ G o = some (.lst (iv os)) ∧ os.length ≤ i ∧ Dice G d)
      ⟨[], l, o, _, _, _, _, _, _, _, _, rfl, c6, fl0, fo0, nlo, r6, by walk_at "lk", Nat.le_refl _, _, _, _, w6.at⟩ ?_ ?_
    · rintro i σ G hi ⟨os, l, o, cap, x5, x6, x7, x8, x9, x10, x11, rfl, c, fl, fo, nlo, hr, ho, hle, ⟨e0, e1, e2, he⟩⟩
      obtain ⟨dx0, st0, pl0, ⟨h4, h5⟩, hh⟩ := id hr
      walk_at "run"
      rename_i r2 G1 r20 r21 b20 b21 b22 w2 r3 G2 r30 r31 b30 b31 b32 w3 t3 G3 n3 r4 G4 r40 r41 b40 b41 b42 w4
      refine ⟨_, if 0 < r4 then .int r3 else .non, by walk_at "seq", ?_, ?_⟩
      · by_cases c : 0 < r4
        · simp only [c]; rfl
        · simp only [c]; rfl
      generalize hit : (if 0 < r4 then V.int r3 else V.non) = it
      have hit : (it = .non ∨ it = .int r3) := by rw [← hit]; split <;> simp
      walk_at "run"
      rename_i t5 G5 n5
      have c5 : Chg T.tabs (Y.In [d]) H G5 := by walk_at "chg"
      have tb := c5.tabs ht
      have cG : Chg T.tabs (Y.In [d]) G G5 := by walk_at "chg"
      have r5 : RingAt T.C_Ring G5 p l (iv os) cap := hr.chg cG (by walk_at "nin") (by walk_at "nin")
      have ho5 : G5 o = some (.lst (iv os)) := by walk_at "lk"
      have hd5 : G5 d = some (.lst [.int b40, .int b41, .int b42]) := by walk_at "lk"
      clear h4 h5 hr ho he w2 w3 n3 w4 n5 cG
      refine join_if (fun σ G => ∃ os l o cap x5 x6 x7 x8 x10 x11, σ = [some (.ref d), some (.int (1 + r1)), some (.ref p), some (.ref o), some (.int (cap : Nat)), x5, x6, x7, x8, some (.bl true), x10, x11, none] ∧ Chg T.tabs (Y.In [d]) H G ∧ H l = none ∧ H o = none ∧ l ≠ o ∧ RingAt T.C_Ring G p l (iv os) cap ∧ G o = some (.lst (iv os)) ∧ os.length ≤ i + 1 ∧ Dice G d) ?_ fun N hN => ?_
      · rintro σ G ⟨os, l, o, cap, x5, x6, x7, x8, x10, x11, rfl, c, fl, fo, nlo, hr, ho, hle, ⟨e0, e1, e2, he⟩⟩
        obtain ⟨dx0, st0, pl0, ⟨h4, h5⟩, hh⟩ := id hr
        walk_at "run"
        refine ⟨_, _, _, hr, c.tabs ht, fun r H7 c7 f7 g7 => ?_⟩
        have fr7 : H r = none := by walk_at "fr"
        have li := iv_len (vs := os)
        walk_at "run"
        rename_i q8 H8 n8
        refine veq_ll (by walk_at "sq") (by walk_at "sq") flat_iv flat_iv (p := True) (by simp) ?_
        walk_at "run"
        have r8 : RingAt T.C_Ring H8 p l (iv os) cap := hr.chg (T := T.tabs) (S := nil) (by walk_at "chg") id id
        refine ⟨_, _, _, r8, ?_⟩
        walk_at "run"
        rename_i q9 H9 n9 q10 H10 n10
        refine veq_tt (by walk_at "sqt") (by walk_at "sqt") (by simp [flat]) (by simp [flat]) (p := True) (by simp) ?_
        walk_at "run"
        have l2 : os.length ≤ 40 := by omega
        have en : ((((iv os).length : Nat) : Int) - -(((iv os).length : Nat) : Int)).toNat = (iv os ++ iv os).length := by simp; omega
        rw [en]
        intro D hD
        have r10 : RingAt T.C_Ring H10 p l (iv os) cap := r8.chg (T := T.tabs) (S := nil) (by walk_at "chg") id id
        refine lcr (fun i G => Chg T.tabs nil H10 G ∧ G D = some (.lst ((iv os ++ iv os).take i))) hD ?_ ?_ ?_
        · intro G n
          exact ⟨by walk_at "chg", n.at⟩
        · rintro G ⟨cG, gD⟩
          rw [List.take_length] at gD
          have hoG : G o = some (.lst (iv os)) := by walk_at "lk"
          have rG' : RingAt T.C_Ring G p l (iv os) cap := r10.chg (T := T.tabs) (S := nil) (by walk_at "chg") id id
          walk_at "run"
          rename_i q11 H11 n11
          refine veq_ll (by walk_at "sq") (by walk_at "sq") (by simp [flat_iv]; exact fun x hx => flat_iv x hx) (by simp; exact fun x hx => flat_iv x hx) (p := True) (by simp) ?_
          walk_at "run"
          exact ⟨os, l, o, cap, _, _, _, _, _, _, _, rfl, by walk_at "chg", fl, fo, nlo, rG'.chg (T := T.tabs) (S := nil) (by walk_at "chg") id id, by walk_at "lk", hle, _, _, _, by walk_at "lk"⟩
        · rintro i G hi ⟨cG, gD⟩ Nx Sk hN hS
          have rG : RingAt T.C_Ring G p l (iv os) cap := r10.chg (T := T.tabs) (S := nil) (by walk_at "chg") id id
          obtain ⟨dx1, st1, pl1, ⟨h6, h7⟩, -⟩ := id rG
          have hb := at_two (xs := iv os) hi
          walk_at "run"
          refine ⟨_, _, _, rG, fun z => (by rw [hb] at z; exact nomatch z), fun v e => ?_⟩
          rw [hb] at e
          cases e
          refine hN _ _ _ gD (lt_line (by simp; omega)) fun G' n' => ⟨by walk_at "chg", ?_⟩
          rw [List.take_add_one, List.getElem?_eq_getElem hi]
          exact n'.at
      · obtain ⟨dx0, st0, pl0, ⟨h4, h5⟩, hh⟩ := id r5
        have li := iv_len (vs := os)
        walk_at "if"
        · intro c1
          have np : 0 ≤ r3 := by assumption
          rcases hit with rfl | rfl
          · walk_at "run"
            walk_at "if"
            · intro c2
              walk_at "run"
              intro f H7 g7 nf L7
              have c7 : Chg T.tabs (Y.In [d]) H H7 := by walk_at "chg"
              have r7 : RingAt T.C_Ring H7 p l (iv os) cap := r5.chg (T := T.tabs) (S := nil) (.ofGrows g7) id id
              refine ⟨f, _, rfl, L7, ?_⟩
              walk_at "run"
              refine ⟨_, _, _, r7, c7.tabs ht, fun z => err_to T.ex_RingError ?_, fun a => (a rfl).elim⟩
              walk_at "run"
              rename_i q8 H8 n8 q9 H9 n9 q10 H10 n10
              have fo' : H q10 = none := by walk_at "fr"
              have nlo' : l ≠ q10 := by walk_at "ne"
              have e : iv os ++ (List.replicate (if (!decide (V.non = V.non)) = true then (1 : Int) else 0).toNat [V.non]).flatten = iv os := by simp
              exact hN _ _ ⟨os, l, q10, cap, _, _, _, _, _, _, rfl, by walk_at "chg", fl, fo', nlo', r7.chg (T := T.tabs) (S := nil) (by walk_at "chg") id id, n10.at.trans (congrArg (fun z => some (HO.lst z)) e), by omega, _, _, _, by walk_at "lk"⟩
            · intro c2
              walk_at "run"
              intro f H7 g7 nf L7
              have c7 : Chg T.tabs (Y.In [d]) H H7 := by walk_at "chg"
              have r7 : RingAt T.C_Ring H7 p l (iv os) cap := r5.chg (T := T.tabs) (S := nil) (.ofGrows g7) id id
              refine ⟨f, _, rfl, L7, ?_⟩
              walk_at "run"
              refine ⟨_, _, _, r7, c7.tabs ht, fun z => err_to T.ex_RingError ?_, fun a => (a rfl).elim⟩
              walk_at "run"
              rename_i q8 H8 n8 q9 H9 n9 q10 H10 n10
              have fo' : H q10 = none := by walk_at "fr"
              have nlo' : l ≠ q10 := by walk_at "ne"
              have e : (List.replicate (if (!decide (V.non = V.non)) = true then (1 : Int) else 0).toNat [V.non]).flatten ++ iv os = iv os := by simp
              exact hN _ _ ⟨os, l, q10, cap, _, _, _, _, _, _, rfl, by walk_at "chg", fl, fo', nlo', r7.chg (T := T.tabs) (S := nil) (by walk_at "chg") id id, n10.at.trans (congrArg (fun z => some (HO.lst z)) e), by omega, _, _, _, by walk_at "lk"⟩
          · have cl : CMul 2 (cap : Int) := .inl ⟨by omega, by omega⟩
            walk_at "run"
            walk_at "if"
            · intro c3
              walk_at "run"
              walk_at "if"
              · intro c2
                walk_at "run"
                intro f H7 g7 nf L7
                have c7 : Chg T.tabs (Y.In [d]) H H7 := by walk_at "chg"
                have r7 : RingAt T.C_Ring H7 p l (iv os) cap := r5.chg (T := T.tabs) (S := nil) (.ofGrows g7) id id
                refine ⟨f, _, rfl, L7, ?_⟩
                walk_at "run"
                refine ⟨_, _, _, r7, c7.tabs ht, fun z => ?_, fun _ _ l' H8 c8 e8 r8 => ?_⟩
                · rcases z with z | z
                  · exact (nomatch z)
                  · omega
                rw [show capN (iv os).length cap = 2 * cap from if_pos (by omega)] at r8
                have r8 : RingAt T.C_Ring H8 p l' (iv (os ++ [r3])) (2 * cap) := by
                  have e : iv (os ++ [r3]) = iv os ++ [.int r3] := by simp [iv]
                  rw [e]; exact r8
                have fl' : H l' = none := by
                  rcases e8 with rfl | z
                  · exact fl
                  · walk_at "fr"
                have hd8 : H8 d = some (.lst [.int b40, .int b41, .int b42]) := by walk_at "lk"
                have no_l' : o ≠ l' := by
                  rcases e8 with rfl | z
                  · exact nlo.symm
                  · walk_at "ne"
                have ho8 : H8 o = some (.lst (iv os)) := by walk_at "lk"
                have cH8 : Chg T.tabs (Y.In [d]) H H8 := by walk_at "chg"
                walk_at "run"
                rename_i q8 H9 n8 q9 H10 n9 q10 H11 n10
                have fo' : H q10 = none := by walk_at "fr"
                have e : iv os ++ (List.replicate (if (!decide (V.int r3 = V.non)) = true then (1 : Int) else 0).toNat [V.int r3]).flatten = iv (os ++ [r3]) := by simp [iv]
                obtain ⟨dx9, st9, pl9, ⟨h9, h10⟩, -⟩ := id r8
                have nlo' : l' ≠ q10 := by walk_at "ne"
                exact hN _ _ ⟨_, l', q10, 2 * cap, _, _, _, _, _, _, rfl, by walk_at "chg", fl', fo', nlo', r8.chg (T := T.tabs) (S := nil) (by walk_at "chg") id id, n10.at.trans (congrArg (fun z => some (HO.lst z)) e), by simp; omega, _, _, _, by walk_at "lk"⟩
              · intro c2
                walk_at "run"
                intro f H7 g7 nf L7
                have c7 : Chg T.tabs (Y.In [d]) H H7 := by walk_at "chg"
                have r7 : RingAt T.C_Ring H7 p l (iv os) cap := r5.chg (T := T.tabs) (S := nil) (.ofGrows g7) id id
                refine ⟨f, _, rfl, L7, ?_⟩
                walk_at "run"
                refine ⟨_, _, _, r7, c7.tabs ht, fun z => ?_, fun _ _ l' H8 c8 e8 r8 => ?_⟩
                · rcases z with z | z
                  · exact (nomatch z)
                  · omega
                rw [show capN (iv os).length cap = 2 * cap from if_pos (by omega)] at r8
                have r8 : RingAt T.C_Ring H8 p l' (iv (r3 :: os)) (2 * cap) := by
                  have e : iv (r3 :: os) = V.int r3 :: iv os := by simp [iv]
                  rw [e]; exact r8
                have fl' : H l' = none := by
                  rcases e8 with rfl | z
                  · exact fl
                  · walk_at "fr"
                have hd8 : H8 d = some (.lst [.int b40, .int b41, .int b42]) := by walk_at "lk"
                have no_l' : o ≠ l' := by
                  rcases e8 with rfl | z
                  · exact nlo.symm
                  · walk_at "ne"
                have ho8 : H8 o = some (.lst (iv os)) := by walk_at "lk"
                have cH8 : Chg T.tabs (Y.In [d]) H H8 := by walk_at "chg"
                walk_at "run"
                rename_i q8 H9 n8 q9 H10 n9 q10 H11 n10
                have fo' : H q10 = none := by walk_at "fr"
                have e : (List.replicate (if (!decide (V.int r3 = V.non)) = true then (1 : Int) else 0).toNat [V.int r3]).flatten ++ iv os = iv (r3 :: os) := by simp [iv]
                obtain ⟨dx9, st9, pl9, ⟨h9, h10⟩, -⟩ := id r8
                have nlo' : l' ≠ q10 := by walk_at "ne"
                exact hN _ _ ⟨_, l', q10, 2 * cap, _, _, _, _, _, _, rfl, by walk_at "chg", fl', fo', nlo', r8.chg (T := T.tabs) (S := nil) (by walk_at "chg") id id, n10.at.trans (congrArg (fun z => some (HO.lst z)) e), by simp; omega, _, _, _, by walk_at "lk"⟩
            · intro c3
              walk_at "run"
              walk_at "if"
              · intro c2
                walk_at "run"
                intro f H7 g7 nf L7
                have c7 : Chg T.tabs (Y.In [d]) H H7 := by walk_at "chg"
                have r7 : RingAt T.C_Ring H7 p l (iv os) cap := r5.chg (T := T.tabs) (S := nil) (.ofGrows g7) id id
                refine ⟨f, _, rfl, L7, ?_⟩
                walk_at "run"
                refine ⟨_, _, _, r7, c7.tabs ht, fun z => ?_, fun _ _ l' H8 c8 e8 r8 => ?_⟩
                · rcases z with z | z
                  · exact (nomatch z)
                  · omega
                rw [show capN (iv os).length cap = cap from if_neg (by omega)] at r8
                have r8 : RingAt T.C_Ring H8 p l' (iv (os ++ [r3])) (cap) := by
                  have e : iv (os ++ [r3]) = iv os ++ [.int r3] := by simp [iv]
                  rw [e]; exact r8
                have fl' : H l' = none := by
                  rcases e8 with rfl | z
                  · exact fl
                  · walk_at "fr"
                have hd8 : H8 d = some (.lst [.int b40, .int b41, .int b42]) := by walk_at "lk"
                have no_l' : o ≠ l' := by
                  rcases e8 with rfl | z
                  · exact nlo.symm
                  · walk_at "ne"
                have ho8 : H8 o = some (.lst (iv os)) := by walk_at "lk"
                have cH8 : Chg T.tabs (Y.In [d]) H H8 := by walk_at "chg"
                walk_at "run"
                rename_i q8 H9 n8 q9 H10 n9 q10 H11 n10
                have fo' : H q10 = none := by walk_at "fr"
                have e : iv os ++ (List.replicate (if (!decide (V.int r3 = V.non)) = true then (1 : Int) else 0).toNat [V.int r3]).flatten = iv (os ++ [r3]) := by simp [iv]
                obtain ⟨dx9, st9, pl9, ⟨h9, h10⟩, -⟩ := id r8
                have nlo' : l' ≠ q10 := by walk_at "ne"
                exact hN _ _ ⟨_, l', q10, cap, _, _, _, _, _, _, rfl, by walk_at "chg", fl', fo', nlo', r8.chg (T := T.tabs) (S := nil) (by walk_at "chg") id id, n10.at.trans (congrArg (fun z => some (HO.lst z)) e), by simp; omega, _, _, _, by walk_at "lk"⟩
              · intro c2
                walk_at "run"
                intro f H7 g7 nf L7
                have c7 : Chg T.tabs (Y.In [d]) H H7 := by walk_at "chg"
                have r7 : RingAt T.C_Ring H7 p l (iv os) cap := r5.chg (T := T.tabs) (S := nil) (.ofGrows g7) id id
                refine ⟨f, _, rfl, L7, ?_⟩
                walk_at "run"
                refine ⟨_, _, _, r7, c7.tabs ht, fun z => ?_, fun _ _ l' H8 c8 e8 r8 => ?_⟩
                · rcases z with z | z
                  · exact (nomatch z)
                  · omega
                rw [show capN (iv os).length cap = cap from if_neg (by omega)] at r8
                have r8 : RingAt T.C_Ring H8 p l' (iv (r3 :: os)) (cap) := by
                  have e : iv (r3 :: os) = V.int r3 :: iv os := by simp [iv]
                  rw [e]; exact r8
                have fl' : H l' = none := by
                  rcases e8 with rfl | z
                  · exact fl
                  · walk_at "fr"
                have hd8 : H8 d = some (.lst [.int b40, .int b41, .int b42]) := by walk_at "lk"
                have no_l' : o ≠ l' := by
                  rcases e8 with rfl | z
                  · exact nlo.symm
                  · walk_at "ne"
                have ho8 : H8 o = some (.lst (iv os)) := by walk_at "lk"
                have cH8 : Chg T.tabs (Y.In [d]) H H8 := by walk_at "chg"
                walk_at "run"
                rename_i q8 H9 n8 q9 H10 n9 q10 H11 n10
                have fo' : H q10 = none := by walk_at "fr"
                have e : (List.replicate (if (!decide (V.int r3 = V.non)) = true then (1 : Int) else 0).toNat [V.int r3]).flatten ++ iv os = iv (r3 :: os) := by simp [iv]
                obtain ⟨dx9, st9, pl9, ⟨h9, h10⟩, -⟩ := id r8
                have nlo' : l' ≠ q10 := by walk_at "ne"
                exact hN _ _ ⟨_, l', q10, cap, _, _, _, _, _, _, rfl, by walk_at "chg", fl', fo', nlo', r8.chg (T := T.tabs) (S := nil) (by walk_at "chg") id id, n10.at.trans (congrArg (fun z => some (HO.lst z)) e), by simp; omega, _, _, _, by walk_at "lk"⟩
        · intro c1
          walk_at "run"
          walk_at "if"
          · intro c2
            walk_at "run"
            intro f H7 g7 nf L7
            have c7 : Chg T.tabs (Y.In [d]) H H7 := by walk_at "chg"
            have r7 : RingAt T.C_Ring H7 p l (iv os) cap := r5.chg (T := T.tabs) (S := nil) (.ofGrows g7) id id
            refine ⟨f, _, rfl, L7, ?_⟩
            walk_at "run"
            cases os with
            | nil =>
              refine ⟨_, _, _, r7, fun z => err_to T.ex_RingError ?_, fun v own' e1 => (by simp [iv, uncons] at e1)⟩
              walk_at "run"
              rename_i q8 H8 n8 q9 H9 n9 q10 H10 n10
              have fo' : H q10 = none := by walk_at "fr"
              have nlo' : l ≠ q10 := by walk_at "ne"
              exact hN _ _ ⟨[], l, q10, cap, _, _, _, _, _, _, rfl, by walk_at "chg", fl, fo', nlo', r7.chg (T := T.tabs) (S := nil) (by walk_at "chg") id id, n10.at, by omega, _, _, _, by walk_at "lk"⟩
            | cons x os =>
              refine ⟨_, _, _, r7, fun z => (by simp [iv, uncons] at z), fun v own' e1 H8 c8 r8 => ?_⟩
              obtain ⟨rfl, rfl⟩ : V.int x = v ∧ iv os = own' := by simpa [iv, uncons] using e1
              walk_at "run"
              refine ⟨_, _, by walk_at "seq", atI_0 (x := V.int x) (xs := iv os ++ [V.str "RingError"]), ?_⟩
              walk_at "run"
              rename_i q8 H9 n8 q9 H10 n9 q10 H11 n10
              have fo' : H q10 = none := by walk_at "fr"
              obtain ⟨dx9, st9, pl9, ⟨h9, h10⟩, -⟩ := id r8
              have nlo' : l ≠ q10 := by walk_at "ne"
              rw [cut_from (by decide)] at n10
              exact hN _ _ ⟨os, l, q10, cap, _, _, _, _, _, _, (by simp; exact ⟨rfl, rfl, rfl, rfl, rfl, rfl⟩), by walk_at "chg", fl, fo', nlo', r8.chg (T := T.tabs) (S := nil) (by walk_at "chg") id id, n10.at, by simp at hle; omega, _, _, _, by walk_at "lk"⟩
          · intro c2
            walk_at "run"
            walk_at "if"
            · intro c3
              walk_at "run"
              intro f H7 g7 nf L7
              have c7 : Chg T.tabs (Y.In [d]) H H7 := by walk_at "chg"
              have r7 : RingAt T.C_Ring H7 p l (iv os) cap := r5.chg (T := T.tabs) (S := nil) (.ofGrows g7) id id
              refine ⟨f, _, rfl, L7, ?_⟩
              walk_at "run"
              rcases List.eq_nil_or_concat os with e4 | ⟨os0, x, e4⟩
              · subst e4
                refine ⟨_, _, _, r7, fun z => err_to T.ex_RingError ?_, fun v own' e1 => (by simp [iv, unsnoc] at e1)⟩
                walk_at "run"
                rename_i q8 H8 n8 q9 H9 n9 q10 H10 n10
                have fo' : H q10 = none := by walk_at "fr"
                have nlo' : l ≠ q10 := by walk_at "ne"
                exact hN _ _ ⟨[], l, q10, cap, _, _, _, _, _, _, rfl, by walk_at "chg", fl, fo', nlo', r7.chg (T := T.tabs) (S := nil) (by walk_at "chg") id id, n10.at, by omega, _, _, _, by walk_at "lk"⟩
              · rw [List.concat_eq_append] at e4
                subst e4
                have ei : iv (os0 ++ [x]) = iv os0 ++ [V.int x] := by simp [iv]
                refine ⟨_, _, _, r7, fun z => (by rw [ei] at z; simp [unsnoc] at z), fun v own' e1 H8 c8 r8 => ?_⟩
                obtain ⟨rfl, rfl⟩ : V.int x = v ∧ iv os0 = own' := by rw [ei] at e1; simpa [unsnoc] using e1
                walk_at "run"
                refine ⟨_, _, by walk_at "seq", (by rw [ei, ← List.append_assoc]; exact atI_m1 (x := V.int x)), ?_⟩
                walk_at "run"
                rename_i q8 H9 n8 q9 H10 n9 q10 H11 n10
                have fo' : H q10 = none := by walk_at "fr"
                obtain ⟨dx9, st9, pl9, ⟨h9, h10⟩, -⟩ := id r8
                have nlo' : l ≠ q10 := by walk_at "ne"
                rw [show cutV (iv (os0 ++ [x])) none (some (-1)) = iv os0 by rw [cut_last, ei]; simp] at n10
                exact hN _ _ ⟨os0, l, q10, cap, _, _, _, _, _, _, (by simp; exact ⟨rfl, rfl, rfl, rfl, rfl, rfl⟩), by walk_at "chg", fl, fo', nlo', r8.chg (T := T.tabs) (S := nil) (by walk_at "chg") id id, n10.at, by simp at hle; omega, _, _, _, by walk_at "lk"⟩
            · intro c3
              walk_at "run"
              rename_i ro H6 s0 s1 b60 b61 b62 w6
              refine ⟨Chg.tabs (H := H) (S := Y.In [d]) (by walk_at "chg") ht, fun f H7 g7 nf L7 => ⟨f, _, rfl, L7, ?_⟩⟩
              have c7 : Chg T.tabs (Y.In [d]) H H7 := by walk_at "chg"
              have r7 : RingAt T.C_Ring H7 p l (iv os) cap := r5.chg (T := T.tabs) (S := Y.In [d]) (by walk_at "chg") (by walk_at "nin") (by walk_at "nin")
              walk_at "run"
              refine ⟨_, _, _, r7, c7.tabs ht, fun z => err_to T.ex_RingError ?_, fun z l' H8 c8 e8 r8 _ => ?_⟩
              · have z : os = [] := by simpa [iv] using z
                walk_at "run"
                rename_i q8 H9 n8
                refine veq_ll (by walk_at "sq") (by walk_at "sq") flat_iv (by simp) (p := os = []) (by simp [iv]) ?_
                walk_at "run"
                rename_i q9 H10 n9
                refine veq_ll (by walk_at "sq") (by walk_at "sq") flat_iv (by simp) (p := os = []) (by simp [iv]) ?_
                walk_at "run"
                walk_at "if"
                · intro c9
                  exact (c9 z).elim
                · intro c9
                  have le0 : (cutV (iv os) (some 0) none).length + (cutV (iv os) none (some 0)).length ≤ sizeLine := by rw [z]; exact Nat.zero_le _
                  walk_at "run"
                  rename_i q10 H11 n10 q11 H12 n11 q12 H13 n12
                  have fo' : H q12 = none := by walk_at "fr"
                  have nlo' : l ≠ q12 := by walk_at "ne"
                  have e : cutV (iv os) (some 0) none ++ cutV (iv os) none (some 0) = iv os := by rw [z]; rfl
                  exact hN _ _ ⟨os, l, q12, cap, _, _, _, _, _, _, (by simp [z]; exact ⟨rfl, rfl, rfl, rfl, rfl, rfl⟩), by walk_at "chg", fl, fo', nlo', r7.chg (T := T.tabs) (S := nil) (by walk_at "chg") id id, n12.at.trans (congrArg (fun z => some (HO.lst z)) e), by omega, _, _, _, by walk_at "lk"⟩
              · have z : os ≠ [] := by intro e; apply z; rw [e]; rfl
                walk_at "run"
                rename_i q8 H9 n8
                have fl' : H l' = none := by walk_at "fr"
                refine veq_ll (by walk_at "sq") (by walk_at "sq") flat_iv (by simp) (p := os = []) (by simp [iv]) ?_
                walk_at "run"
                rename_i q9 H10 n9
                refine veq_ll (by walk_at "sq") (by walk_at "sq") flat_iv (by simp) (p := os = []) (by simp [iv]) ?_
                walk_at "run"
                walk_at "if"
                · intro c9
                  have np : 0 < (((iv os).length : Nat) : Int) := by
                    have : os.length ≠ 0 := fun e => z (List.length_eq_zero_iff.mp e)
                    omega
                  have m0 := Int.emod_nonneg (ro - 10) (b := (((iv os).length : Nat) : Int)) (by omega)
                  have m1 := Int.emod_lt_of_pos (ro - 10) np
                  have k1 : cutV (iv os) (some ((ro - 10) % (((iv os).length : Nat) : Int))) none = (iv os).drop ((ro - 10) % (((iv os).length : Nat) : Int)).toNat := cut_from m0
                  have k2 : cutV (iv os) none (some ((ro - 10) % (((iv os).length : Nat) : Int))) = (iv os).take ((ro - 10) % (((iv os).length : Nat) : Int)).toNat := cut_to m0
                  have le0 : (cutV (iv os) (some ((ro - 10) % (((iv os).length : Nat) : Int))) none).length + (cutV (iv os) none (some ((ro - 10) % (((iv os).length : Nat) : Int)))).length ≤ sizeLine := by rw [k1, k2]; exact le_line (by simp; omega)
                  walk_at "run"
                  rename_i q10 H11 n10 q11 H12 n11 q12 H13 n12
                  have fo' : H q12 = none := by walk_at "fr"
                  obtain ⟨dx9, st9, pl9, ⟨h9, h10⟩, -⟩ := id r8
                  have nlo' : l' ≠ q12 := by walk_at "ne"
                  have e : cutV (iv os) (some ((ro - 10) % (((iv os).length : Nat) : Int))) none ++ cutV (iv os) none (some ((ro - 10) % (((iv os).length : Nat) : Int))) = iv (os.drop ((ro - 10) % (((iv os).length : Nat) : Int)).toNat ++ os.take ((ro - 10) % (((iv os).length : Nat) : Int)).toNat) := by rw [k1, k2]; simp [iv]
                  have r9 : RingAt T.C_Ring H8 p l' (iv (os.drop ((ro - 10) % (((iv os).length : Nat) : Int)).toNat ++ os.take ((ro - 10) % (((iv os).length : Nat) : Int)).toNat)) cap := by
                    have e8 : turn (iv os) (ro - 10) = iv (os.drop ((ro - 10) % (((iv os).length : Nat) : Int)).toNat ++ os.take ((ro - 10) % (((iv os).length : Nat) : Int)).toNat) := by simp [iv, turn]
                    rw [← e8]; exact r8
                  exact hN _ _ ⟨_, l', q12, cap, _, _, _, _, _, _, (by simp [z]; exact ⟨rfl, rfl, rfl, rfl, rfl, rfl⟩), by walk_at "chg", fl', fo', nlo', r9.chg (T := T.tabs) (S := nil) (by walk_at "chg") id id, n12.at.trans (congrArg (fun z => some (HO.lst z)) e), by simp; omega, _, _, _, by walk_at "lk"⟩
                · intro c9
                  exact (z (by simpa using c9)).elim
    · rintro σ G ⟨os, l, o, cap, x5, x6, x7, x8, x9, x10, x11, rfl, c, fl, fo, nlo, hr, ho, hle, hd⟩
      walk_at "go"
      exact hQ G c hd
  next => exact h.elim
end
end Z


set_option Elab.async false
set_option linter.all false
set_option maxRecDepth 100000
set_option maxHeartbeats 4000000
set_option pp.maxSteps 1500
namespace Z
open PySem PySem.Spec L2 LamX Y
local macro_rules | `(tactic| walk_at "lk") => `(tactic| first
  | assumption
  | exact Nw.at (by assumption)
  | exact Wr.at (by assumption)
  | exact Mkd.at (by assumption)
  | exact Nw.look (by assumption) (by walk_at "lk")
  | exact Mkd.look (by assumption) (by walk_at "lk")
  | exact Wr.look (by assumption) (by walk_at "lk") (by walk_at "ne")
  | exact Chg.look (by assumption) (by walk_at "lk") (by walk_at "nin") rfl
  | exact Tp.same (by assumption) _ _ (by walk_at "lk")
  | exact Grows.look (by assumption) (by walk_at "lk") rfl
  | fail)
local macro_rules | `(tactic| walk_at "ne") => `(tactic| first
  | assumption
  | exact Ne.symm (by assumption)
  | exact Nw.ne (by assumption) (by walk_at "lk")
  | exact Ne.symm (Nw.ne (by assumption) (by walk_at "lk"))
  | exact ne_fr (by assumption) (by walk_at "lk")
  | exact Ne.symm (ne_fr (by assumption) (by walk_at "lk"))
  | exact ne_fr (Mkd.nx (by assumption)) (by walk_at "lk")
  | exact Ne.symm (ne_fr (Mkd.nx (by assumption)) (by walk_at "lk"))
  | exact ne_kdn (by assumption) (by walk_at "lk") rfl
  | exact Ne.symm (ne_kdn (by assumption) (by walk_at "lk") rfl)
  | fail)
local macro_rules | `(tactic| walk_at "nin") => `(tactic| first
  | exact nin_nil
  | exact id
  | exact nin_cons (by walk_at "ne") (by walk_at "nin")
  | fail)
local macro_rules | `(tactic| walk_at "fr") => `(tactic| first
  | assumption
  | exact Nw.new (by assumption)
  | exact Mkd.nx (by assumption)
  | exact Nw.dom (by assumption) (by walk_at "fr")
  | exact Wr.dom (by assumption) (by walk_at "fr")
  | exact Mkd.dom (by assumption) (by walk_at "fr")
  | exact Chg.dom (by assumption) _ (by walk_at "fr")
  | exact Tp.dom (by assumption) _ (by walk_at "fr")
  | exact Grows.dom (by assumption) _ (by walk_at "fr")
  | fail)
local macro_rules | `(tactic| walk_at "mem") => `(tactic| first
  | assumption
  | exact List.mem_cons_self
  | (apply List.mem_cons_of_mem; walk_at "mem")
  | fail)
local macro_rules | `(tactic| walk_at "in") => `(tactic| first
  | assumption
  | (apply Or.inl; walk_at "mem")
  | (apply Or.inr; walk_at "fr")
  | fail)
local macro_rules | `(tactic| walk_at "sub") => `(tactic| first
  | exact sub_nil0
  | exact sub_nil
  | exact sub_cons (by walk_at "in") (by walk_at "sub")
  | fail)
local macro_rules | `(tactic| walk_at "chg") => `(tactic| first
  | assumption
  | exact Chg.refl _
  | exact Chg.nw (by assumption) (by walk_at "chg")
  | exact Chg.mkd (by assumption) (by walk_at "chg")
  | exact Chg.tp (by assumption) (by walk_at "chg")
  | exact Chg.gr (by assumption) (by walk_at "chg")
  | exact Chg.wr (by assumption) (by walk_at "chg") (by walk_at "in")
  | exact Chg.ch (by assumption) (by walk_at "chg") (by walk_at "sub")
  | fail)
local macro_rules | `(tactic| walk_at "sq") => `(tactic| first
  | assumption
  | exact SqL.of (by walk_at "lk")
  | exact Chg.seqL (by assumption) (by walk_at "sq") (by walk_at "nin")
  | exact SqL.nw (by assumption) (by walk_at "sq")
  | exact SqL.tp (by assumption) (by walk_at "sq")
  | exact SqL.mkd (by assumption) (by walk_at "sq")
  | exact SqL.wr (by assumption) (by walk_at "sq") (by walk_at "ne")
  | fail)
local macro_rules | `(tactic| walk_at "sqt") => `(tactic| first
  | assumption
  | exact SqT.of (by walk_at "lk")
  | exact Tp.sq (by assumption)
  | exact SqT.nw (by assumption) (by walk_at "sqt")
  | exact SqT.tp (by assumption) (by walk_at "sqt")
  | exact SqT.mkd (by assumption) (by walk_at "sqt")
  | exact SqT.chg (by assumption) (by walk_at "sqt") (by walk_at "nin")
  | fail)
local macro_rules | `(tactic| walk_at "seq") => `(tactic| first
  | assumption
  | exact .inl (by walk_at "sq")
  | exact .inr (by walk_at "sqt")
  | exact SqA.keepN (T := Env.tabs (by assumption)) (by assumption) (by walk_at "chg")
  | fail)
local macro_rules | `(tactic| walk_at "go") => `(tactic| repeat first
  | refine ⟨_, rfl, ?_⟩
  | refine ⟨_, _, _, _, rfl, And.intro (by walk_at "lk") (And.intro rfl ?_)⟩
  | refine ⟨_, _, _, rfl, And.intro (by walk_at "lk") (And.intro (by walk_at "side") ?_)⟩
  | refine ⟨_, _, And.intro rfl (And.intro rfl ?_)⟩
  | refine ⟨_, _, And.intro rfl (And.intro (by walk_at "lk") ?_)⟩
  | refine ⟨_, _, _, And.intro rfl (And.intro (by walk_at "lk") ?_)⟩
  | refine ⟨_, And.intro (by walk_at "lk") (And.intro (by walk_at "side") ?_)⟩
  | refine ⟨_, _, And.intro (by walk_at "lk") (And.intro (by walk_at "side") ?_)⟩
  | refine ⟨_, _, And.intro (by walk_at "seq") (And.intro rfl ?_)⟩
  | refine ⟨_, And.intro (by walk_at "seq") ?_⟩
  | refine ⟨_, And.intro (by walk_at "lk") (And.intro (by walk_at "side") (And.intro (by walk_at "side") (And.intro (by walk_at "side") ?_)))⟩
  | refine .inl ⟨_, _, And.intro (by walk_at "lk") (And.intro (by walk_at "lk") (And.intro (by walk_at "side") ?_))⟩
  | refine .inr ⟨_, _, And.intro (by walk_at "sqt") (And.intro (by walk_at "sqt") (And.intro (by walk_at "side") ?_))⟩
  | refine .inl ⟨_, And.intro (by walk_at "sq") ?_⟩
  | refine .inr ⟨_, And.intro (by walk_at "sqt") ?_⟩
  | refine ⟨_, _, _, _, rfl, rfl, And.intro (by walk_at "lk") (And.intro rfl ?_)⟩
  | refine fun H' (n : Wr _ _ _ H') => ?_
  | refine fun p H' (n : Nw _ p _ H') => ?_
  | refine fun r H' (n : Tp _ _ r _ H') => ?_
  | refine fun x dx H' (n : Mkd _ _ x dx H') => ?_
  | refine .inl ⟨_, _, rfl, And.intro (by walk_at "sq") (fun p H' (n : Nw _ p _ H') => ?_)⟩
  | refine .inr ⟨_, _, rfl, And.intro (by walk_at "sqt") (fun r H' (n : Tp _ _ r _ H') => ?_)⟩
  | refine ⟨_, _, rfl, And.intro (by walk_at "sq") (fun p H' (n : Nw _ p _ H') => ?_)⟩
  | refine .inl (And.intro ⟨_, by walk_at "sq"⟩ ?_)
  | refine .inr (And.intro ⟨_, by walk_at "sqt"⟩ ?_)
  | refine ⟨_, _, rfl, And.intro (by walk_at "sqt") (And.intro rfl ?_)⟩
  | refine ⟨_, _, And.intro rfl ?_⟩
  | refine ⟨_, _, _, And.intro rfl ?_⟩
  | refine And.intro rfl ?_
  | (refine ite_t ?_ ?_; exact rfl)
  | (refine ite_f ?_ ?_; exact rfl)
  | refine And.intro (by walk_at "side") ?_)
local macro_rules | `(tactic| walk_at "side") => `(tactic| first
  | exact (rfl : _ = _)
  | decide
  | exact lt1000 rfl
  | with_reducible assumption
  | exact ⟨by omega, by omega⟩
  | exact .inl ⟨by omega, by omega⟩
  | exact .inr ⟨by omega, by omega⟩
  | omega
  | (apply le_line; omega)
  | (apply lt_line; omega)
  | (apply le_line; simp <;> omega)
  | (apply lt_line; simp <;> omega)
  | fail)
local macro_rules | `(tactic| walk_at "if") => `(tactic| first
  | refine ite_nd ?_ ?_
  | refine ite_d ?_ ?_
  | refine ite_eqt ?_ ?_
  | fail)
local macro_rules | `(tactic| walk_at "roll") => `(tactic| first
  | (refine And.intro (show Dice _ _ from ⟨_, _, _, by walk_at "lk"⟩) (And.intro (by walk_at "side") (And.intro (by walk_at "side") (fun r H' r0 r1 ro => ?_))); obtain ⟨a', b', c', w⟩ := ro)
  | fail)
local macro_rules | `(tactic| walk_at "run") => `(tactic| (walk_at "go"; repeat (walk_at "roll"; walk_at "go")))
local macro_rules | `(tactic| walk_at "dp") => `(tactic| first
  | exact Dp.non
  | exact Dp.int _
  | exact Dp.str _
  | exact Dp.bl _
  | exact DpAll.nil
  | exact DpAll.cons (by walk_at "dp") (by walk_at "dp")
  | exact Dp.tup (by walk_at "sqt") (by walk_at "dp")
  | exact Dp.lst (by walk_at "sq") (by walk_at "dp")
  | fail)

section
variable {w : World} {K : PySem.W.Frag} {mg : Str → Option Value} {base : Heap}
abbrev RingIs (T : Env w K mg base) (p l : Addr) (own : List V) (cap : Nat) : Th := ([p, l], fun H => RingAt T.C_Ring H p l own cap)
abbrev LastIs (T : Env w K mg base) (q p l : Addr) (own : List V) (k n : Nat) : Th := ([q, p, l], fun H => LastAt T H q p l own k n)
abbrev QueueIs (T : Env w K mg base) (q a b : Addr) (ins outs : List Int) (n : Int) : Th := ([q, a, b], fun H => QueueAt T H q a b ins outs n)
theorem ring_obj {T : Env w K mg base} {p l : Addr} {own : List V} {cap : Nat} : Obj T.tabs (RingIs T p l own cap).1 (RingIs T p l own cap).2 :=
  ⟨fun S H H' c h _ r => r.chg c (h p (by simp)) (h l (by simp)), fun H ⟨dx, st, pl, ⟨h1, h2⟩, _⟩ x hx => by
    rcases List.mem_cons.mp hx with rfl | z
    · exact ⟨_, h1, rfl⟩
    · simp at z; subst z; exact ⟨_, h2, rfl⟩⟩
abbrev Ring0Is (T : Env w K mg base) (p l : Addr) (own : List V) (cap : Nat) : Th := ([p, l], fun H => RingAt T.C_Ring H p l own cap ∧ ∃ dx, H p = some (.ins T.C_Ring dx (fsR l 0 own.length)))
theorem ring0_obj {T : Env w K mg base} {p l : Addr} {own : List V} {cap : Nat} : Obj T.tabs (Ring0Is T p l own cap).1 (Ring0Is T p l own cap).2 :=
  ⟨fun S H H' c h _ r => ⟨r.1.chg c (h p (by simp)) (h l (by simp)), let ⟨dx, e⟩ := r.2; ⟨dx, c.look e (h p (by simp)) rfl⟩⟩, fun H r => ring_obj.live H r.1⟩
theorem last_obj {T : Env w K mg base} {q p l : Addr} {own : List V} {k n : Nat} : Obj T.tabs (LastIs T q p l own k n).1 (LastIs T q p l own k n).2 :=
  ⟨fun S H H' c h _ r => r.chg c (h q (by simp)) (h p (by simp)) (h l (by simp)), fun H r x hx => by
    rcases List.mem_cons.mp hx with rfl | z
    · obtain ⟨dx, h1⟩ := r.obj; exact ⟨_, h1, rfl⟩
    · obtain ⟨cap, r2⟩ := r.ring
      exact (ring_obj (T := T) (p := p) (l := l)).live H r2 x z⟩
theorem kd1_tup (o : HO) (h : kd o = 1) : isTup o = true := by
  cases o <;> first | rfl | exact absurd (show (0 : Nat) = 1 from h) (by decide) | exact absurd (show (2 : Nat) = 1 from h) (by decide) | exact absurd (show (3 : Nat) = 1 from h) (by decide) | exact absurd (show (4 : Nat) = 1 from h) (by decide) | exact absurd (show 10 + (_ : Nat) = 1 from h) (by omega)
theorem queue_obj {T : Env w K mg base} {q a b : Addr} {ins outs : List Int} {n : Int} : Obj T.tabs (QueueIs T q a b ins outs n).1 (QueueIs T q a b ins outs n).2 := by
  refine ⟨fun S H H' c h t r => ?_, fun H r x hx => ?_⟩
  · have kp : ∀ g o, H g = some o → kd o = 1 → isTbl o = false → H' g = some o := fun g o e k tb => c.look e (fun z => by
      have := t g z o e
      rw [kd1_tup o k] at this
      cases this) tb
    obtain ⟨⟨dx, h1⟩, ⟨ts, h2, r2⟩, ⟨us, h3, r3⟩, ne, ft⟩ := r
    exact ⟨⟨dx, c.look h1 (h q (by simp)) rfl⟩, ⟨ts, c.look h2 (h a (by simp)) rfl, RowsAt.keep r2 kp⟩, ⟨us, c.look h3 (h b (by simp)) rfl, RowsAt.keep r3 kp⟩, ne, ft⟩
  · obtain ⟨⟨dx, h1⟩, ⟨ts, h2, r2⟩, ⟨us, h3, r3⟩, ne, ft⟩ := r
    simp at hx
    rcases hx with rfl | rfl | rfl
    · exact ⟨_, h1, rfl⟩
    · exact ⟨_, h2, rfl⟩
    · exact ⟨_, h3, rfl⟩
section
variable {T : Env w K mg base} {S0 : Addr → Prop} {H0 H H1 H2 : Hp} {p l l' q a a' b dx : Addr} {own own' : List V} {cap cap' k n : Nat} {ins outs ins' outs' : List Int} {m m' : Int} {R : List Th}
theorem WinMin.uniq {vs W W' : List Int} {k n : Nat} (h : WinMin vs W k n) (g : WinMin vs W' k n) : W = W' := by
  apply List.ext_getElem (by rw [h.1, g.1])
  intro i h1 h2
  obtain ⟨o, a1, a2, a3, a4⟩ := h.2 i (by rw [← h.1]; exact h1)
  obtain ⟨o', b1, b2, b3, b4⟩ := g.2 i (by rw [← h.1]; exact h1)
  have c1 := a4 o' b1 b2
  have c2 := b4 o a1 a2
  rw [List.getD_eq_getElem?_getD, List.getElem?_eq_getElem h1] at a3
  rw [List.getD_eq_getElem?_getD, List.getElem?_eq_getElem h2] at b3
  simp only [Option.getD_some] at a3 b3
  omega
theorem win_fact : WinMin [3, 1, 2, 5] [1, 1, 2] (Int.toNat 2) ([3, 1, 2, 5].length + 1 - Int.toNat 2) := by
  refine ⟨rfl, fun m hm => ?_⟩
  have hm : m < 3 := hm
  match m, hm with
  | 0, _ => exact ⟨1, by decide, by decide, rfl, fun j a b => by have : j < 2 := b; match j, this with | 0, _ => decide | 1, _ => decide⟩
  | 1, _ => exact ⟨1, by decide, by decide, rfl, fun j a b => by have : j < 3 := b; match j, this, a with | 1, _, _ => decide | 2, _, _ => decide⟩
  | 2, _ => exact ⟨2, by decide, by decide, rfl, fun j a b => by have : j < 4 := b; match j, this, a with | 2, _, _ => decide | 3, _, _ => decide⟩
theorem jos_fact : jos 3 (Int.toNat 7) (intsV (Int.toNat 7)) 0 = [.int 2, .int 5, .int 1, .int 6, .int 4, .int 0, .int 3] := by decide +kernel
theorem next_uniq {vs ds es : List Int} (h : ds.length = vs.length) (hn : ∀ k, k < vs.length → NextIs vs k (ds.getD k 0)) (g : es.length = vs.length) (gn : ∀ k, k < vs.length → NextIs vs k (es.getD k 0)) : ds = es := by
  apply List.ext_getElem (by rw [h, g])
  intro i h1 h2
  have := (hn i (by omega)).uniq (gn i (by omega))
  rw [List.getD_eq_getElem?_getD, List.getElem?_eq_getElem h1, List.getD_eq_getElem?_getD, List.getElem?_eq_getElem h2] at this
  exact this
theorem next_fact : ∀ k, k < [(2 : Int), 1, 3].length → NextIs [2, 1, 3] k ([(2 : Int), 1, 0].getD k 0) := by
  intro k hk
  have hk : k < 3 := hk
  match k, hk with
  | 0, _ => exact .inr ⟨2, by decide, by decide, by decide, fun j a b => by match j, a, b with | 1, _, _ => decide, by decide⟩
  | 1, _ => exact .inr ⟨2, by decide, by decide, by decide, fun j a b => absurd a (by omega), by decide⟩
  | 2, _ => exact .inl ⟨rfl, fun j a b => absurd a (by have : j < 3 := b; omega)⟩
theorem mk_ring (w : Wd T.tabs S0 H0 H R) (d : Mkd H T.C_Ring p dx H1) (c : Chg T.tabs (Y.In [p]) H1 H2) (f : H1 l = none) (r : RingAt T.C_Ring H2 p l own cap) : Wd T.tabs S0 H0 H2 (RingIs T p l own cap :: R) := by
  have fp : H p = none := by walk_at "fr"
  have fl : H l = none := by walk_at "fr"
  have cc : Chg T.tabs (Y.In [p]) H H2 := by walk_at "chg"
  exact w.add cc (fun x h => by simp [Y.In] at h; subst h; exact fp) ring_obj r (fun x h => by simp at h; rcases h with rfl | rfl; exact fp; exact fl)
theorem op_ring (w : Wd T.tabs S0 H0 H (RingIs T p l own cap :: R)) (c : Chg T.tabs (Y.In [p, l]) H H1) (f : l' = l ∨ H l' = none) (r : RingAt T.C_Ring H1 p l' own' cap') : Wd T.tabs S0 H0 H1 (RingIs T p l' own' cap' :: R) :=
  w.step c (fun x h => .inl h) ring_obj r (fun x h => by
    simp at h
    rcases h with rfl | rfl
    · exact .inl (by simp)
    · exact f.imp (fun e => by simp [e]) id)
theorem op_ring0 (w : Wd T.tabs S0 H0 H (RingIs T p l own cap :: R)) (c : Chg T.tabs (Y.In [p]) H H1) (f : l' = l ∨ H l' = none) (r : RingAt T.C_Ring H1 p l' own' cap') (r2 : ∃ dx, H1 p = some (.ins T.C_Ring dx (fsR l' 0 own'.length))) : Wd T.tabs S0 H0 H1 (Ring0Is T p l' own' cap' :: R) :=
  w.step c (fun x h => .inl (by simp [Y.In] at h; simp [h])) ring0_obj ⟨r, r2⟩ (fun x h => by
    simp at h
    rcases h with rfl | rfl
    · exact .inl (by simp)
    · exact f.imp (fun e => by simp [e]) id)
theorem mk_last (w : Wd T.tabs S0 H0 H R) (d : Mkd H T.C_Last q dx H1) (c : Chg T.tabs (Y.In [q]) H1 H2) (f : H1 p = none) (g : H1 l = none) (r : LastAt T H2 q p l own k n) : Wd T.tabs S0 H0 H2 (LastIs T q p l own k n :: R) := by
  have fq : H q = none := by walk_at "fr"
  have fp : H p = none := by walk_at "fr"
  have fl : H l = none := by walk_at "fr"
  have cc : Chg T.tabs (Y.In [q]) H H2 := by walk_at "chg"
  exact w.add cc (fun x h => by simp [Y.In] at h; subst h; exact fq) last_obj r (fun x h => by simp at h; rcases h with rfl | rfl | rfl; exact fq; exact fp; exact fl)
theorem op_last (w : Wd T.tabs S0 H0 H (LastIs T q p l own k n :: R)) (c : Chg T.tabs (Y.In [q, p, l]) H H1) (f : l' = l ∨ H l' = none) (r : LastAt T H1 q p l' own' k cap') : Wd T.tabs S0 H0 H1 (LastIs T q p l' own' k cap' :: R) :=
  w.step c (fun x h => .inl h) last_obj r (fun x h => by
    simp at h
    rcases h with rfl | rfl | rfl
    · exact .inl (by simp)
    · exact .inl (by simp)
    · exact f.imp (fun e => by simp [e]) id)
theorem mk_queue (w : Wd T.tabs S0 H0 H R) (d : Mkd H T.C_Queue q dx H1) (c : Chg T.tabs (Y.In [q]) H1 H2) (f : H1 a = none) (g : H1 b = none) (r : QueueAt T H2 q a b ins outs m) : Wd T.tabs S0 H0 H2 (QueueIs T q a b ins outs m :: R) := by
  have fq : H q = none := by walk_at "fr"
  have fp : H a = none := by walk_at "fr"
  have fl : H b = none := by walk_at "fr"
  have cc : Chg T.tabs (Y.In [q]) H H2 := by walk_at "chg"
  exact w.add cc (fun x h => by simp [Y.In] at h; subst h; exact fq) queue_obj r (fun x h => by simp at h; rcases h with rfl | rfl | rfl; exact fq; exact fp; exact fl)
theorem op_queue (w : Wd T.tabs S0 H0 H (QueueIs T q a b ins outs m :: R)) (c : Chg T.tabs (Y.In [q, a, b]) H H1) (f : a' = a ∨ H a' = none) (r : QueueAt T H1 q a' b ins' outs' m') : Wd T.tabs S0 H0 H1 (QueueIs T q a' b ins' outs' m' :: R) :=
  w.step c (fun x h => .inl h) queue_obj r (fun x h => by
    simp at h
    rcases h with rfl | rfl | rfl
    · exact .inl (by simp)
    · exact f.imp (fun e => by simp [e]) id
    · exact .inl (by simp))
end
end
end Z


set_option Elab.async false
set_option linter.all false
set_option maxRecDepth 100000
set_option maxHeartbeats 4000000
set_option pp.maxSteps 1500
namespace Z
open PySem PySem.Spec L2 LamX Y
local macro_rules | `(tactic| walk_at "lk") => `(tactic| first
  | assumption
  | exact Nw.at (by assumption)
  | exact Wr.at (by assumption)
  | exact Mkd.at (by assumption)
  | exact Nw.look (by assumption) (by walk_at "lk")
  | exact Mkd.look (by assumption) (by walk_at "lk")
  | exact Wr.look (by assumption) (by walk_at "lk") (by walk_at "ne")
  | exact Chg.look (by assumption) (by walk_at "lk") (by walk_at "nin") rfl
  | exact Tp.same (by assumption) _ _ (by walk_at "lk")
  | exact Grows.look (by assumption) (by walk_at "lk") rfl
  | fail)
local macro_rules | `(tactic| walk_at "ne") => `(tactic| first
  | assumption
  | exact Ne.symm (by assumption)
  | exact Nw.ne (by assumption) (by walk_at "lk")
  | exact Ne.symm (Nw.ne (by assumption) (by walk_at "lk"))
  | exact ne_fr (by assumption) (by walk_at "lk")
  | exact Ne.symm (ne_fr (by assumption) (by walk_at "lk"))
  | exact ne_fr (Mkd.nx (by assumption)) (by walk_at "lk")
  | exact Ne.symm (ne_fr (Mkd.nx (by assumption)) (by walk_at "lk"))
  | exact ne_kdn (by assumption) (by walk_at "lk") rfl
  | exact Ne.symm (ne_kdn (by assumption) (by walk_at "lk") rfl)
  | fail)
local macro_rules | `(tactic| walk_at "nin") => `(tactic| first
  | exact nin_nil
  | exact id
  | exact nin_cons (by walk_at "ne") (by walk_at "nin")
  | fail)
local macro_rules | `(tactic| walk_at "fr") => `(tactic| first
  | assumption
  | exact Nw.new (by assumption)
  | exact Mkd.nx (by assumption)
  | exact Nw.dom (by assumption) (by walk_at "fr")
  | exact Wr.dom (by assumption) (by walk_at "fr")
  | exact Mkd.dom (by assumption) (by walk_at "fr")
  | exact Chg.dom (by assumption) _ (by walk_at "fr")
  | exact Tp.dom (by assumption) _ (by walk_at "fr")
  | exact Grows.dom (by assumption) _ (by walk_at "fr")
  | fail)
local macro_rules | `(tactic| walk_at "mem") => `(tactic| first
  | assumption
  | exact List.mem_cons_self
  | (apply List.mem_cons_of_mem; walk_at "mem")
  | fail)
local macro_rules | `(tactic| walk_at "in") => `(tactic| first
  | assumption
  | (apply Or.inl; walk_at "mem")
  | (apply Or.inr; walk_at "fr")
  | fail)
local macro_rules | `(tactic| walk_at "sub") => `(tactic| first
  | exact sub_nil0
  | exact sub_nil
  | exact sub_cons (by walk_at "in") (by walk_at "sub")
  | fail)
local macro_rules | `(tactic| walk_at "chg") => `(tactic| first
  | assumption
  | exact Chg.refl _
  | exact Chg.nw (by assumption) (by walk_at "chg")
  | exact Chg.mkd (by assumption) (by walk_at "chg")
  | exact Chg.tp (by assumption) (by walk_at "chg")
  | exact Chg.gr (by assumption) (by walk_at "chg")
  | exact Chg.wr (by assumption) (by walk_at "chg") (by walk_at "in")
  | exact Chg.ch (by assumption) (by walk_at "chg") (by walk_at "sub")
  | fail)
local macro_rules | `(tactic| walk_at "sq") => `(tactic| first
  | assumption
  | exact SqL.of (by walk_at "lk")
  | exact Chg.seqL (by assumption) (by walk_at "sq") (by walk_at "nin")
  | exact SqL.nw (by assumption) (by walk_at "sq")
  | exact SqL.tp (by assumption) (by walk_at "sq")
  | exact SqL.mkd (by assumption) (by walk_at "sq")
  | exact SqL.wr (by assumption) (by walk_at "sq") (by walk_at "ne")
  | fail)
local macro_rules | `(tactic| walk_at "sqt") => `(tactic| first
  | assumption
  | exact SqT.of (by walk_at "lk")
  | exact Tp.sq (by assumption)
  | exact SqT.nw (by assumption) (by walk_at "sqt")
  | exact SqT.tp (by assumption) (by walk_at "sqt")
  | exact SqT.mkd (by assumption) (by walk_at "sqt")
  | exact SqT.chg (by assumption) (by walk_at "sqt") (by walk_at "nin")
  | fail)
local macro_rules | `(tactic| walk_at "seq") => `(tactic| first
  | assumption
  | exact .inl (by walk_at "sq")
  | exact .inr (by walk_at "sqt")
  | exact SqA.keepN (T := Env.tabs (by assumption)) (by assumption) (by walk_at "chg")
  | fail)
local macro_rules | `(tactic| walk_at "go") => `(tactic| repeat first
  | refine ⟨_, rfl, ?_⟩
  | refine ⟨_, _, _, _, rfl, And.intro (by walk_at "lk") (And.intro rfl ?_)⟩
  | refine ⟨_, _, _, rfl, And.intro (by walk_at "lk") (And.intro (by walk_at "side") ?_)⟩
  | refine ⟨_, _, And.intro rfl (And.intro rfl ?_)⟩
  | refine ⟨_, _, And.intro rfl (And.intro (by walk_at "lk") ?_)⟩
  | refine ⟨_, _, _, And.intro rfl (And.intro (by walk_at "lk") ?_)⟩
  | refine ⟨_, And.intro (by walk_at "lk") (And.intro (by walk_at "side") ?_)⟩
  | refine ⟨_, _, And.intro (by walk_at "lk") (And.intro (by walk_at "side") ?_)⟩
  | refine ⟨_, _, And.intro (by walk_at "seq") (And.intro rfl ?_)⟩
  | refine ⟨_, And.intro (by walk_at "seq") ?_⟩
  | refine ⟨_, And.intro (by walk_at "lk") (And.intro (by walk_at "side") (And.intro (by walk_at "side") (And.intro (by walk_at "side") ?_)))⟩
  | refine .inl ⟨_, _, And.intro (by walk_at "lk") (And.intro (by walk_at "lk") (And.intro (by walk_at "side") ?_))⟩
  | refine .inr ⟨_, _, And.intro (by walk_at "sqt") (And.intro (by walk_at "sqt") (And.intro (by walk_at "side") ?_))⟩
  | refine .inl ⟨_, And.intro (by walk_at "sq") ?_⟩
  | refine .inr ⟨_, And.intro (by walk_at "sqt") ?_⟩
  | refine ⟨_, _, _, _, rfl, rfl, And.intro (by walk_at "lk") (And.intro rfl ?_)⟩
  | refine fun H' (n : Wr _ _ _ H') => ?_
  | refine fun p H' (n : Nw _ p _ H') => ?_
  | refine fun r H' (n : Tp _ _ r _ H') => ?_
  | refine fun x dx H' (n : Mkd _ _ x dx H') => ?_
  | refine .inl ⟨_, _, rfl, And.intro (by walk_at "sq") (fun p H' (n : Nw _ p _ H') => ?_)⟩
  | refine .inr ⟨_, _, rfl, And.intro (by walk_at "sqt") (fun r H' (n : Tp _ _ r _ H') => ?_)⟩
  | refine ⟨_, _, rfl, And.intro (by walk_at "sq") (fun p H' (n : Nw _ p _ H') => ?_)⟩
  | refine .inl (And.intro ⟨_, by walk_at "sq"⟩ ?_)
  | refine .inr (And.intro ⟨_, by walk_at "sqt"⟩ ?_)
  | refine ⟨_, _, rfl, And.intro (by walk_at "sqt") (And.intro rfl ?_)⟩
  | refine ⟨_, _, And.intro rfl ?_⟩
  | refine ⟨_, _, _, And.intro rfl ?_⟩
  | refine And.intro rfl ?_
  | (refine ite_t ?_ ?_; exact rfl)
  | (refine ite_f ?_ ?_; exact rfl)
  | refine And.intro (by walk_at "side") ?_)
local macro_rules | `(tactic| walk_at "side") => `(tactic| first
  | exact (rfl : _ = _)
  | decide
  | exact lt1000 rfl
  | with_reducible assumption
  | exact ⟨by omega, by omega⟩
  | exact .inl ⟨by omega, by omega⟩
  | exact .inr ⟨by omega, by omega⟩
  | omega
  | (apply le_line; omega)
  | (apply lt_line; omega)
  | (apply le_line; simp <;> omega)
  | (apply lt_line; simp <;> omega)
  | fail)
local macro_rules | `(tactic| walk_at "if") => `(tactic| first
  | refine ite_nd ?_ ?_
  | refine ite_d ?_ ?_
  | refine ite_eqt ?_ ?_
  | fail)
local macro_rules | `(tactic| walk_at "roll") => `(tactic| first
  | (refine And.intro (show Dice _ _ from ⟨_, _, _, by walk_at "lk"⟩) (And.intro (by walk_at "side") (And.intro (by walk_at "side") (fun r H' r0 r1 ro => ?_))); obtain ⟨a', b', c', w⟩ := ro)
  | fail)
local macro_rules | `(tactic| walk_at "run") => `(tactic| (walk_at "go"; repeat (walk_at "roll"; walk_at "go")))
local macro_rules | `(tactic| walk_at "dp") => `(tactic| first
  | exact Dp.non
  | exact Dp.int _
  | exact Dp.str _
  | exact Dp.bl _
  | exact DpAll.nil
  | exact DpAll.cons (by walk_at "dp") (by walk_at "dp")
  | exact Dp.tup (by walk_at "sqt") (by walk_at "dp")
  | exact Dp.lst (by walk_at "sq") (by walk_at "dp")
  | fail)

section
variable {w : World} {K : PySem.W.Frag} {mg : Str → Option Value} {base : Heap}
def pre__law_plain_4 (T : Env w K mg base) (H : Hp) (D : Ends) (σ : L2.St) (G : Hp) : Prop :=
  Tabs T.tabs H ∧ (∀ H', Chg T.tabs nil H H' → D.rt (.bl true) H') ∧ ∃ p1 l1 p2 l2 q p3 l3 u a b cap2 x5 x6 x7, σ = [some (.ref p1), some (.ref p2), some (.ref q), some (.ref u), x5, x6, x7, none, none, none] ∧
    Wd T.tabs nil H G [RingIs T p1 l1 [.int 1, .int 2, .int 3] 4, QueueIs T u a b [3, 1, 2] [] 0, RingIs T p2 l2 (intsV 256) cap2, LastIs T q p3 l3 [] 2 0]
def pre__law_plain_7 (T : Env w K mg base) (H : Hp) (D : Ends) (σ : L2.St) (G : Hp) : Prop :=
  Tabs T.tabs H ∧ (∀ H', Chg T.tabs nil H H' → D.rt (.bl true) H') ∧ ∃ p1 l1 p2 l2 q p3 l3 u a b cap2 x5 x6 x7 o t3 t4 t6 t7 t9, σ = [some (.ref p1), some (.ref p2), some (.ref q), some (.ref u), x5, x6, x7, some (.ref o), none, none] ∧
    Wd T.tabs nil H G [LstIs o [.non, .ref t3, .int 0, .int 3, .int 2, .non, .ref t4, .int 2, .non, .non, .str "a", .str "c", .int 1, .int 3, .int 2, .int 1, .ref t6, .ref t7, .ref t9, .int 0, .non], TupIs t3 [.int 0, .int 1, .int 2, .int 3], TupIs t4 [.int 2, .int 1], TupIs t6 [.int 1, .int 1, .int 2], TupIs t7 [.int 2, .int 5, .int 1, .int 6, .int 4, .int 0, .int 3], TupIs t9 [.int 2, .int 1, .int 0], Ring0Is T p1 l1 [.int 2, .int 1] 4, QueueIs T u a b [] [2, 1] 1, RingIs T p2 l2 (intsV 256) cap2, LastIs T q p3 l3 [.str "b", .str "c"] 2 3]

def pre__law_plain_8 (T : Env w K mg base) (H : Hp) (D : Ends) (σ : L2.St) (G : Hp) : Prop :=
  Tabs T.tabs H ∧ (∀ H', Chg T.tabs nil H H' → D.rt (.bl true) H') ∧ ∃ p1 l1 p2 l2 q p3 l3 u a b cap2 x5 x6 x7 o t3 t4 t6 t7 t9 t10, σ = [some (.ref p1), some (.ref p2), some (.ref q), some (.ref u), x5, x6, x7, some (.ref o), none, none] ∧
    Wd T.tabs nil H G [LstIs o [.non, .ref t3, .int 0, .int 3, .int 2, .non, .ref t4, .int 2, .non, .non, .str "a", .str "c", .int 1, .int 3, .int 2, .int 1, .ref t6, .ref t7, .ref t9, .int 0, .non, .ref t10], TupIs t10 [], TupIs t3 [.int 0, .int 1, .int 2, .int 3], TupIs t4 [.int 2, .int 1], TupIs t6 [.int 1, .int 1, .int 2], TupIs t7 [.int 2, .int 5, .int 1, .int 6, .int 4, .int 0, .int 3], TupIs t9 [.int 2, .int 1, .int 0], Ring0Is T p1 l1 [.int 2, .int 1] 4, QueueIs T u a b [] [2, 1] 1, RingIs T p2 l2 (intsV 256) cap2, LastIs T q p3 l3 [.str "b", .str "c"] 2 3]
/-- v is a lambda that raises RingError, and changes nothing -/
def Bad (X : Cx) (T : Env w K mg base) (p1 p2 q : Addr) (G : Hp) (v : V) : Prop := ∃ f t, v = .ref f ∧ IsLam X 48 G f t ∧ ∀ G', Chg T.tabs nil G G' → ∀ Q0 : VK, (∀ G'', Chg T.tabs nil G' G'' → Q0 (.str "RingError") G'') →
  ∀ y4 y5 y6 y7 y8 y9 y10, t (ErrTo X T.C_RingError "RingError" Q0) [some (.ref p1), some (.ref p2), some (.ref q), y4, y5, y6, y7, y8, y9, y10] G' Q0
def BadL (X : Cx) (T : Env w K mg base) (p1 p2 q : Addr) (bs : List V) (G : Hp) : Prop := ∀ v ∈ bs, Bad X T p1 p2 q G v
section
variable {X : Cx} {T : Env w K mg base} {p1 p2 q : Addr} {bs : List V} {G G' : Hp} {v : V}
theorem Bad.mono (b : Bad X T p1 p2 q G v) (c : Chg T.tabs nil G G') : Bad X T p1 p2 q G' v :=
  let ⟨f, t, e, L, h⟩ := b; ⟨f, t, e, L.chg c (fun _ z => z.elim), fun G'' c' => h G'' (c'.ch c fun _ z => z.elim)⟩
theorem BadL.mono (b : BadL X T p1 p2 q bs G) (c : Chg T.tabs nil G G') : BadL X T p1 p2 q bs G' := fun v h => (b v h).mono c
theorem BadL.snoc (b : BadL X T p1 p2 q bs G) (h : Bad X T p1 p2 q G v) : BadL X T p1 p2 q (bs ++ [v]) G := fun u hu => by
  rcases List.mem_append.mp hu with z | z
  · exact b u z
  · simp at z; subst z; exact h
end
def pre__law_plain_14 (X : Cx) (T : Env w K mg base) (H : Hp) (D : Ends) (σ : L2.St) (G : Hp) : Prop :=
  Tabs T.tabs H ∧ (∀ H', Chg T.tabs nil H H' → D.rt (.bl true) H') ∧ ∃ p1 l1 p2 l2 q p3 l3 u a b cap2 x5 x6 x7 o t3 t4 t6 t7 t9 t10 bd bs, σ = [some (.ref p1), some (.ref p2), some (.ref q), some (.ref u), x5, x6, x7, some (.ref o), some (.ref bd), none] ∧ BadL X T p1 p2 q bs G ∧ bs.length ≤ 100 ∧
    Wd T.tabs nil H G [LstIs bd bs, LstIs o [.non, .ref t3, .int 0, .int 3, .int 2, .non, .ref t4, .int 2, .non, .non, .str "a", .str "c", .int 1, .int 3, .int 2, .int 1, .ref t6, .ref t7, .ref t9, .int 0, .non, .ref t10], TupIs t10 [], TupIs t3 [.int 0, .int 1, .int 2, .int 3], TupIs t4 [.int 2, .int 1], TupIs t6 [.int 1, .int 1, .int 2], TupIs t7 [.int 2, .int 5, .int 1, .int 6, .int 4, .int 0, .int 3], TupIs t9 [.int 2, .int 1, .int 0], Ring0Is T p1 l1 [.int 2, .int 1] 4, QueueIs T u a b [] [2, 1] 1, RingIs T p2 l2 (intsV 256) cap2, LastIs T q p3 l3 [.str "b", .str "c"] 2 3]
end
end Z


set_option Elab.async false
set_option linter.all false
set_option maxRecDepth 100000
set_option maxHeartbeats 4000000
set_option pp.maxSteps 1500
namespace Z
open PySem PySem.Spec L2 LamX Y
local macro_rules | `(tactic| walk_at "lk") => `(tactic| first
  | assumption
  | exact Nw.at (by assumption)
  | exact Wr.at (by assumption)
  | exact Mkd.at (by assumption)
  | exact Nw.look (by assumption) (by walk_at "lk")
  | exact Mkd.look (by assumption) (by walk_at "lk")
  | exact Wr.look (by assumption) (by walk_at "lk") (by walk_at "ne")
  | exact Chg.look (by assumption) (by walk_at "lk") (by walk_at "nin") rfl
  | exact Tp.same (by assumption) _ _ (by walk_at "lk")
  | exact Grows.look (by assumption) (by walk_at "lk") rfl
  | fail)
local macro_rules | `(tactic| walk_at "ne") => `(tactic| first
  | assumption
  | exact Ne.symm (by assumption)
  | exact Nw.ne (by assumption) (by walk_at "lk")
  | exact Ne.symm (Nw.ne (by assumption) (by walk_at "lk"))
  | exact ne_fr (by assumption) (by walk_at "lk")
  | exact Ne.symm (ne_fr (by assumption) (by walk_at "lk"))
  | exact ne_fr (Mkd.nx (by assumption)) (by walk_at "lk")
  | exact Ne.symm (ne_fr (Mkd.nx (by assumption)) (by walk_at "lk"))
  | exact ne_kdn (by assumption) (by walk_at "lk") rfl
  | exact Ne.symm (ne_kdn (by assumption) (by walk_at "lk") rfl)
  | fail)
local macro_rules | `(tactic| walk_at "nin") => `(tactic| first
  | exact nin_nil
  | exact id
  | exact nin_cons (by walk_at "ne") (by walk_at "nin")
  | fail)
local macro_rules | `(tactic| walk_at "fr") => `(tactic| first
  | assumption
  | exact Nw.new (by assumption)
  | exact Mkd.nx (by assumption)
  | exact Nw.dom (by assumption) (by walk_at "fr")
  | exact Wr.dom (by assumption) (by walk_at "fr")
  | exact Mkd.dom (by assumption) (by walk_at "fr")
  | exact Chg.dom (by assumption) _ (by walk_at "fr")
  | exact Tp.dom (by assumption) _ (by walk_at "fr")
  | exact Grows.dom (by assumption) _ (by walk_at "fr")
  | fail)
local macro_rules | `(tactic| walk_at "mem") => `(tactic| first
  | assumption
  | exact List.mem_cons_self
  | (apply List.mem_cons_of_mem; walk_at "mem")
  | fail)
local macro_rules | `(tactic| walk_at "in") => `(tactic| first
  | assumption
  | (apply Or.inl; walk_at "mem")
  | (apply Or.inr; walk_at "fr")
  | fail)
local macro_rules | `(tactic| walk_at "sub") => `(tactic| first
  | exact sub_nil0
  | exact sub_nil
  | exact sub_cons (by walk_at "in") (by walk_at "sub")
  | fail)
local macro_rules | `(tactic| walk_at "chg") => `(tactic| first
  | assumption
  | exact Chg.refl _
  | exact Chg.nw (by assumption) (by walk_at "chg")
  | exact Chg.mkd (by assumption) (by walk_at "chg")
  | exact Chg.tp (by assumption) (by walk_at "chg")
  | exact Chg.gr (by assumption) (by walk_at "chg")
  | exact Chg.wr (by assumption) (by walk_at "chg") (by walk_at "in")
  | exact Chg.ch (by assumption) (by walk_at "chg") (by walk_at "sub")
  | fail)
local macro_rules | `(tactic| walk_at "sq") => `(tactic| first
  | assumption
  | exact SqL.of (by walk_at "lk")
  | exact Chg.seqL (by assumption) (by walk_at "sq") (by walk_at "nin")
  | exact SqL.nw (by assumption) (by walk_at "sq")
  | exact SqL.tp (by assumption) (by walk_at "sq")
  | exact SqL.mkd (by assumption) (by walk_at "sq")
  | exact SqL.wr (by assumption) (by walk_at "sq") (by walk_at "ne")
  | fail)
local macro_rules | `(tactic| walk_at "sqt") => `(tactic| first
  | assumption
  | exact SqT.of (by walk_at "lk")
  | exact Tp.sq (by assumption)
  | exact SqT.nw (by assumption) (by walk_at "sqt")
  | exact SqT.tp (by assumption) (by walk_at "sqt")
  | exact SqT.mkd (by assumption) (by walk_at "sqt")
  | exact SqT.chg (by assumption) (by walk_at "sqt") (by walk_at "nin")
  | fail)
local macro_rules | `(tactic| walk_at "seq") => `(tactic| first
  | assumption
  | exact .inl (by walk_at "sq")
  | exact .inr (by walk_at "sqt")
  | exact SqA.keepN (T := Env.tabs (by assumption)) (by assumption) (by walk_at "chg")
  | fail)
local macro_rules | `(tactic| walk_at "go") => `(tactic| repeat first
  | refine ⟨_, rfl, ?_⟩
  | refine ⟨_, _, _, _, rfl, And.intro (by walk_at "lk") (And.intro rfl ?_)⟩
  | refine ⟨_, _, _, rfl, And.intro (by walk_at "lk") (And.intro (by walk_at "side") ?_)⟩
  | refine ⟨_, _, And.intro rfl (And.intro rfl ?_)⟩
  | refine ⟨_, _, And.intro rfl (And.intro (by walk_at "lk") ?_)⟩
  | refine ⟨_, _, _, And.intro rfl (And.intro (by walk_at "lk") ?_)⟩
  | refine ⟨_, And.intro (by walk_at "lk") (And.intro (by walk_at "side") ?_)⟩
  | refine ⟨_, _, And.intro (by walk_at "lk") (And.intro (by walk_at "side") ?_)⟩
  | refine ⟨_, _, And.intro (by walk_at "seq") (And.intro rfl ?_)⟩
  | refine ⟨_, And.intro (by walk_at "seq") ?_⟩
  | refine ⟨_, And.intro (by walk_at "lk") (And.intro (by walk_at "side") (And.intro (by walk_at "side") (And.intro (by walk_at "side") ?_)))⟩
  | refine .inl ⟨_, _, And.intro (by walk_at "lk") (And.intro (by walk_at "lk") (And.intro (by walk_at "side") ?_))⟩
  | refine .inr ⟨_, _, And.intro (by walk_at "sqt") (And.intro (by walk_at "sqt") (And.intro (by walk_at "side") ?_))⟩
  | refine .inl ⟨_, And.intro (by walk_at "sq") ?_⟩
  | refine .inr ⟨_, And.intro (by walk_at "sqt") ?_⟩
  | refine ⟨_, _, _, _, rfl, rfl, And.intro (by walk_at "lk") (And.intro rfl ?_)⟩
  | refine fun H' (n : Wr _ _ _ H') => ?_
  | refine fun p H' (n : Nw _ p _ H') => ?_
  | refine fun r H' (n : Tp _ _ r _ H') => ?_
  | refine fun x dx H' (n : Mkd _ _ x dx H') => ?_
  | refine .inl ⟨_, _, rfl, And.intro (by walk_at "sq") (fun p H' (n : Nw _ p _ H') => ?_)⟩
  | refine .inr ⟨_, _, rfl, And.intro (by walk_at "sqt") (fun r H' (n : Tp _ _ r _ H') => ?_)⟩
  | refine ⟨_, _, rfl, And.intro (by walk_at "sq") (fun p H' (n : Nw _ p _ H') => ?_)⟩
  | refine .inl (And.intro ⟨_, by walk_at "sq"⟩ ?_)
  | refine .inr (And.intro ⟨_, by walk_at "sqt"⟩ ?_)
  | refine ⟨_, _, rfl, And.intro (by walk_at "sqt") (And.intro rfl ?_)⟩
  | refine ⟨_, _, And.intro rfl ?_⟩
  | refine ⟨_, _, _, And.intro rfl ?_⟩
  | refine And.intro rfl ?_
  | (refine ite_t ?_ ?_; exact rfl)
  | (refine ite_f ?_ ?_; exact rfl)
  | refine And.intro (by walk_at "side") ?_)
local macro_rules | `(tactic| walk_at "side") => `(tactic| first
  | exact (rfl : _ = _)
  | decide
  | exact lt1000 rfl
  | with_reducible assumption
  | exact ⟨by omega, by omega⟩
  | exact .inl ⟨by omega, by omega⟩
  | exact .inr ⟨by omega, by omega⟩
  | omega
  | (apply le_line; omega)
  | (apply lt_line; omega)
  | (apply le_line; simp <;> omega)
  | (apply lt_line; simp <;> omega)
  | fail)
local macro_rules | `(tactic| walk_at "if") => `(tactic| first
  | refine ite_nd ?_ ?_
  | refine ite_d ?_ ?_
  | refine ite_eqt ?_ ?_
  | fail)
local macro_rules | `(tactic| walk_at "roll") => `(tactic| first
  | (refine And.intro (show Dice _ _ from ⟨_, _, _, by walk_at "lk"⟩) (And.intro (by walk_at "side") (And.intro (by walk_at "side") (fun r H' r0 r1 ro => ?_))); obtain ⟨a', b', c', w⟩ := ro)
  | fail)
local macro_rules | `(tactic| walk_at "run") => `(tactic| (walk_at "go"; repeat (walk_at "roll"; walk_at "go")))
local macro_rules | `(tactic| walk_at "dp") => `(tactic| first
  | exact Dp.non
  | exact Dp.int _
  | exact Dp.str _
  | exact Dp.bl _
  | exact DpAll.nil
  | exact DpAll.cons (by walk_at "dp") (by walk_at "dp")
  | exact Dp.tup (by walk_at "sqt") (by walk_at "dp")
  | exact Dp.lst (by walk_at "sq") (by walk_at "dp")
  | fail)

section
variable {w : World} {K : PySem.W.Frag} {mg : Str → Option Value} {base : Heap}
theorem tl__law_plain_14 (T : Env w K mg base) {A : Around} {outer : List PySem.Env} {s : Shared} {H : Hp} {E : XK} (hr : Room 55 (A.deeper (PyProof.Rows.envOfC "_law_plain" (defScope s__law_plain) s.heap.objs.size T.f__law_plain (.ref T.c__law_plain)))) : ∃ t, PSs (cxOf (L2.CX prg w) prg w K mg base N__law_plain "_law_plain" (defScope s__law_plain) T.f__law_plain (.ref T.c__law_plain) A outer s H E) ((defBody s__law_plain).drop 14) t ∧ ∀ (D : Ends) (σ : L2.St) (G : Hp), pre__law_plain_14 (cxOf (L2.CX prg w) prg w K mg base N__law_plain "_law_plain" (defScope s__law_plain) T.f__law_plain (.ref T.c__law_plain) A outer s H E) T H D σ G → t D σ G := by
  refine ⟨_, (pss_cons (ps_if (PW.pt (pw_or (pt_cmpR (Y.op_neK (K := K) rfl hr.units) (Y.pe_lcX (own := [("f", 9)]) rfl sc__law_plain.nd (Y.pi_seqK (K := K) rfl (pv 8)) (blkOk_by (own := [("f", 9)]) (N := N__law_plain) (sc := defScope s__law_plain) (by decide +kernel)) (fun σ s H C cl fp bk => (pg_name (i := 9) sc__law_plain.nd rfl (Or.inl rfl))) (fun σ s H C cl fp bk => (pts_one (pt_cmpR (Y.op_neK (K := K) rfl hr.units) (Y.pe_toB (k := 48) bk T.F__law_told T.mg__law_told T.b__law_told sc__law_told T.mg_RingError (hr.mono (by decide)) (pv 9) rfl rfl (Or.inl rfl) rfl (fun _ => rfl) rfl) pe_str (nomark _)))) (fun σ s H C cl fp bk => pe_int)) (Y.pe_ls pa_nil) (nomark _)) (pw_or1 (pt_cmpR (Y.op_neK (K := K) rfl hr.units) (pe_glob rfl T.mg_MOST_ROOM T.rv_MOST_ROOM) pe_int (nomark _))))) (pss_one (ps_ret pe_bl)) pss_nil)
  (pss_one (ps_ret (pe_cmpR (Y.op_eqK (K := K) rfl hr.units) (pv 7) (Y.pe_ls (pa_cons pe_non (pa_cons (Y.pe_tu (pa_cons pe_int (pa_cons pe_int (pa_cons pe_int (pa_cons pe_int pa_nil))))) (pa_cons pe_int (pa_cons pe_int (pa_cons pe_int (pa_cons pe_non (pa_cons (Y.pe_tu (pa_cons pe_int (pa_cons pe_int pa_nil))) (pa_cons pe_int (pa_cons pe_non (pa_cons pe_non (pa_cons pe_str (pa_cons pe_str (pa_cons pe_int (pa_cons pe_int (pa_cons pe_int (pa_cons pe_int (pa_cons (Y.pe_tu (pa_cons pe_int (pa_cons pe_int (pa_cons pe_int pa_nil)))) (pa_cons (Y.pe_tu (pa_cons pe_int (pa_cons pe_int (pa_cons pe_int (pa_cons pe_int (pa_cons pe_int (pa_cons pe_int (pa_cons pe_int pa_nil)))))))) (pa_cons (Y.pe_tu (pa_cons pe_int (pa_cons pe_int (pa_cons pe_int pa_nil)))) (pa_cons pe_int (pa_cons pe_non (pa_cons (Y.pe_tu pa_nil) pa_nil))))))))))))))))))))))) (nomark _))))), ?_⟩
  intro D σ G h
  unfold pre__law_plain_14 at h
  obtain ⟨ht, hQ, p1, l1, p2, l2, q, p3, l3, u, a, b, cap2, x5, x6, x7, o, t3, t4, t6, t7, t9, t10, bd, bs, rfl, bl, hb, wd⟩ := h
  have hbd := wd.hd
  walk_at "go"
  intro D0 hD
  refine lcl (xs := bs) (fun i H' => Chg T.tabs nil G H' ∧ H' D0 = some (.lst [])) hD ?_ ?_ ?_ ?_
  · intro H' n
    exact ⟨by walk_at "chg", n.at⟩
  · rintro i H' hi ⟨c, -⟩
    exact .of (c.look hbd id rfl)
  · rintro H' ⟨c, hd0⟩
    have wd := wd.idle c
    have ho := wd.to2.hd
    have e3 := wd.get (F := []) (P := fun H => H t3 = some (.tup [.int 0, .int 1, .int 2, .int 3])) (by simp)
    have e4 := wd.get (F := []) (P := fun H => H t4 = some (.tup [.int 2, .int 1])) (by simp)
    have e6 := wd.get (F := []) (P := fun H => H t6 = some (.tup [.int 1, .int 1, .int 2])) (by simp)
    have e7 := wd.get (F := []) (P := fun H => H t7 = some (.tup [.int 2, .int 5, .int 1, .int 6, .int 4, .int 0, .int 3])) (by simp)
    have e9 := wd.get (F := []) (P := fun H => H t9 = some (.tup [.int 2, .int 1, .int 0])) (by simp)
    have e10 := wd.get (F := []) (P := fun H => H t10 = some (.tup [])) (by simp)
    have cH := wd.chg
    clear wd bl hbd
    walk_at "go"
    rename_i q1 H1 n1
    refine veq_ll (by walk_at "sq") (by walk_at "sq") (by simp) (by simp) (p := True) (by simp) ?_
    walk_at "go"
    rename_i s1 H2 n2 s2 H3 n3 s3 H4 n4 s4 H5 n5 s5 H6 n6 s6 H7 n7 s7 H8 n8
    have ut3 : SqT K H8 t3 [.int 0, .int 1, .int 2, .int 3] := .of (by walk_at "lk")
    have us1 : SqT K H8 s1 [.int 0, .int 1, .int 2, .int 3] := .of (by walk_at "lk")
    have ut4 : SqT K H8 t4 [.int 2, .int 1] := .of (by walk_at "lk")
    have us2 : SqT K H8 s2 [.int 2, .int 1] := .of (by walk_at "lk")
    have ut6 : SqT K H8 t6 [.int 1, .int 1, .int 2] := .of (by walk_at "lk")
    have us3 : SqT K H8 s3 [.int 1, .int 1, .int 2] := .of (by walk_at "lk")
    have ut7 : SqT K H8 t7 [.int 2, .int 5, .int 1, .int 6, .int 4, .int 0, .int 3] := .of (by walk_at "lk")
    have us4 : SqT K H8 s4 [.int 2, .int 5, .int 1, .int 6, .int 4, .int 0, .int 3] := .of (by walk_at "lk")
    have ut9 : SqT K H8 t9 [.int 2, .int 1, .int 0] := .of (by walk_at "lk")
    have us5 : SqT K H8 s5 [.int 2, .int 1, .int 0] := .of (by walk_at "lk")
    have ut10 : SqT K H8 t10 [] := .of (by walk_at "lk")
    have us6 : SqT K H8 s6 [] := .of (by walk_at "lk")
    have uo : SqL K H8 o [.non, .ref t3, .int 0, .int 3, .int 2, .non, .ref t4, .int 2, .non, .non, .str "a", .str "c", .int 1, .int 3, .int 2, .int 1, .ref t6, .ref t7, .ref t9, .int 0, .non, .ref t10] := .of (by walk_at "lk")
    have us7 : SqL K H8 s7 [.non, .ref s1, .int 0, .int 3, .int 2, .non, .ref s2, .int 2, .non, .non, .str "a", .str "c", .int 1, .int 3, .int 2, .int 1, .ref s3, .ref s4, .ref s5, .int 0, .non, .ref s6] := .of (by walk_at "lk")
    refine veq_d rfl (d := .list [.none, .tuple [.int 0, .int 1, .int 2, .int 3], .int 0, .int 3, .int 2, .none, .tuple [.int 2, .int 1], .int 2, .none, .none, .str "a", .str "c", .int 1, .int 3, .int 2, .int 1, .tuple [.int 1, .int 1, .int 2], .tuple [.int 2, .int 5, .int 1, .int 6, .int 4, .int 0, .int 3], .tuple [.int 2, .int 1, .int 0], .int 0, .none, .tuple []]) (e := .list [.none, .tuple [.int 0, .int 1, .int 2, .int 3], .int 0, .int 3, .int 2, .none, .tuple [.int 2, .int 1], .int 2, .none, .none, .str "a", .str "c", .int 1, .int 3, .int 2, .int 1, .tuple [.int 1, .int 1, .int 2], .tuple [.int 2, .int 5, .int 1, .int 6, .int 4, .int 0, .int 3], .tuple [.int 2, .int 1, .int 0], .int 0, .none, .tuple []]) (.lst uo (.cons .non (.cons (.tup ut3 (.cons (.int _) (.cons (.int _) (.cons (.int _) (.cons (.int _) .nil))))) (.cons (.int _) (.cons (.int _) (.cons (.int _) (.cons .non (.cons (.tup ut4 (.cons (.int _) (.cons (.int _) .nil))) (.cons (.int _) (.cons .non (.cons .non (.cons (.str _) (.cons (.str _) (.cons (.int _) (.cons (.int _) (.cons (.int _) (.cons (.int _) (.cons (.tup ut6 (.cons (.int _) (.cons (.int _) (.cons (.int _) .nil)))) (.cons (.tup ut7 (.cons (.int _) (.cons (.int _) (.cons (.int _) (.cons (.int _) (.cons (.int _) (.cons (.int _) (.cons (.int _) .nil)))))))) (.cons (.tup ut9 (.cons (.int _) (.cons (.int _) (.cons (.int _) .nil)))) (.cons (.int _) (.cons .non (.cons (.tup ut10 .nil) .nil))))))))))))))))))))))) (.lst us7 (.cons .non (.cons (.tup us1 (.cons (.int _) (.cons (.int _) (.cons (.int _) (.cons (.int _) .nil))))) (.cons (.int _) (.cons (.int _) (.cons (.int _) (.cons .non (.cons (.tup us2 (.cons (.int _) (.cons (.int _) .nil))) (.cons (.int _) (.cons .non (.cons .non (.cons (.str _) (.cons (.str _) (.cons (.int _) (.cons (.int _) (.cons (.int _) (.cons (.int _) (.cons (.tup us3 (.cons (.int _) (.cons (.int _) (.cons (.int _) .nil)))) (.cons (.tup us4 (.cons (.int _) (.cons (.int _) (.cons (.int _) (.cons (.int _) (.cons (.int _) (.cons (.int _) (.cons (.int _) .nil)))))))) (.cons (.tup us5 (.cons (.int _) (.cons (.int _) (.cons (.int _) .nil)))) (.cons (.int _) (.cons .non (.cons (.tup us6 .nil) .nil))))))))))))))))))))))) (by decide +kernel) (by decide +kernel) (b := true) (by decide +kernel) ?_
    exact hQ _ (by walk_at "chg")
  · rintro i x H' hx ⟨c, hd0⟩ Nx Sk hN hS
    obtain ⟨f, t, rfl, L, hf⟩ := bl x (List.mem_of_getElem? hx)
    walk_at "go"
    refine ⟨f, t, rfl, L.chg c (fun _ z => z.elim), hf H' c _ (fun H2 c2 => ?_) _ _ _ _ _ _ _⟩
    walk_at "go"
    exact hS _ ⟨c2.ch c (fun _ z => z.elim), c2.look hd0 id rfl⟩
end
end Z


set_option Elab.async false
set_option linter.all false
set_option maxRecDepth 100000
set_option maxHeartbeats 4000000
set_option pp.maxSteps 1500
namespace Z
open PySem PySem.Spec L2 LamX Y
local macro_rules | `(tactic| walk_at "lk") => `(tactic| first
  | assumption
  | exact Nw.at (by assumption)
  | exact Wr.at (by assumption)
  | exact Mkd.at (by assumption)
  | exact Nw.look (by assumption) (by walk_at "lk")
  | exact Mkd.look (by assumption) (by walk_at "lk")
  | exact Wr.look (by assumption) (by walk_at "lk") (by walk_at "ne")
  | exact Chg.look (by assumption) (by walk_at "lk") (by walk_at "nin") rfl
  | exact Tp.same (by assumption) _ _ (by walk_at "lk")
  | exact Grows.look (by assumption) (by walk_at "lk") rfl
  | fail)
local macro_rules | `(tactic| walk_at "ne") => `(tactic| first
  | assumption
  | exact Ne.symm (by assumption)
  | exact Nw.ne (by assumption) (by walk_at "lk")
  | exact Ne.symm (Nw.ne (by assumption) (by walk_at "lk"))
  | exact ne_fr (by assumption) (by walk_at "lk")
  | exact Ne.symm (ne_fr (by assumption) (by walk_at "lk"))
  | exact ne_fr (Mkd.nx (by assumption)) (by walk_at "lk")
  | exact Ne.symm (ne_fr (Mkd.nx (by assumption)) (by walk_at "lk"))
  | exact ne_kdn (by assumption) (by walk_at "lk") rfl
  | exact Ne.symm (ne_kdn (by assumption) (by walk_at "lk") rfl)
  | fail)
local macro_rules | `(tactic| walk_at "nin") => `(tactic| first
  | exact nin_nil
  | exact id
  | exact nin_cons (by walk_at "ne") (by walk_at "nin")
  | fail)
local macro_rules | `(tactic| walk_at "fr") => `(tactic| first
  | assumption
  | exact Nw.new (by assumption)
  | exact Mkd.nx (by assumption)
  | exact Nw.dom (by assumption) (by walk_at "fr")
  | exact Wr.dom (by assumption) (by walk_at "fr")
  | exact Mkd.dom (by assumption) (by walk_at "fr")
  | exact Chg.dom (by assumption) _ (by walk_at "fr")
  | exact Tp.dom (by assumption) _ (by walk_at "fr")
  | exact Grows.dom (by assumption) _ (by walk_at "fr")
  | fail)
local macro_rules | `(tactic| walk_at "mem") => `(tactic| first
  | assumption
  | exact List.mem_cons_self
  | (apply List.mem_cons_of_mem; walk_at "mem")
  | fail)
local macro_rules | `(tactic| walk_at "in") => `(tactic| first
  | assumption
  | (apply Or.inl; walk_at "mem")
  | (apply Or.inr; walk_at "fr")
  | fail)
local macro_rules | `(tactic| walk_at "sub") => `(tactic| first
  | exact sub_nil0
  | exact sub_nil
  | exact sub_cons (by walk_at "in") (by walk_at "sub")
  | fail)
local macro_rules | `(tactic| walk_at "chg") => `(tactic| first
  | assumption
  | exact Chg.refl _
  | exact Chg.nw (by assumption) (by walk_at "chg")
  | exact Chg.mkd (by assumption) (by walk_at "chg")
  | exact Chg.tp (by assumption) (by walk_at "chg")
  | exact Chg.gr (by assumption) (by walk_at "chg")
  | exact Chg.wr (by assumption) (by walk_at "chg") (by walk_at "in")
  | exact Chg.ch (by assumption) (by walk_at "chg") (by walk_at "sub")
  | fail)
local macro_rules | `(tactic| walk_at "sq") => `(tactic| first
  | assumption
  | exact SqL.of (by walk_at "lk")
  | exact Chg.seqL (by assumption) (by walk_at "sq") (by walk_at "nin")
  | exact SqL.nw (by assumption) (by walk_at "sq")
  | exact SqL.tp (by assumption) (by walk_at "sq")
  | exact SqL.mkd (by assumption) (by walk_at "sq")
  | exact SqL.wr (by assumption) (by walk_at "sq") (by walk_at "ne")
  | fail)
local macro_rules | `(tactic| walk_at "sqt") => `(tactic| first
  | assumption
  | exact SqT.of (by walk_at "lk")
  | exact Tp.sq (by assumption)
  | exact SqT.nw (by assumption) (by walk_at "sqt")
  | exact SqT.tp (by assumption) (by walk_at "sqt")
  | exact SqT.mkd (by assumption) (by walk_at "sqt")
  | exact SqT.chg (by assumption) (by walk_at "sqt") (by walk_at "nin")
  | fail)
local macro_rules | `(tactic| walk_at "seq") => `(tactic| first
  | assumption
  | exact .inl (by walk_at "sq")
  | exact .inr (by walk_at "sqt")
  | exact SqA.keepN (T := Env.tabs (by assumption)) (by assumption) (by walk_at "chg")
  | fail)
local macro_rules | `(tactic| walk_at "go") => `(tactic| repeat first
  | refine ⟨_, rfl, ?_⟩
  | refine ⟨_, _, _, _, rfl, And.intro (by walk_at "lk") (And.intro rfl ?_)⟩
  | refine ⟨_, _, _, rfl, And.intro (by walk_at "lk") (And.intro (by walk_at "side") ?_)⟩
  | refine ⟨_, _, And.intro rfl (And.intro rfl ?_)⟩
  | refine ⟨_, _, And.intro rfl (And.intro (by walk_at "lk") ?_)⟩
  | refine ⟨_, _, _, And.intro rfl (And.intro (by walk_at "lk") ?_)⟩
  | refine ⟨_, And.intro (by walk_at "lk") (And.intro (by walk_at "side") ?_)⟩
  | refine ⟨_, _, And.intro (by walk_at "lk") (And.intro (by walk_at "side") ?_)⟩
  | refine ⟨_, _, And.intro (by walk_at "seq") (And.intro rfl ?_)⟩
  | refine ⟨_, And.intro (by walk_at "seq") ?_⟩
  | refine ⟨_, And.intro (by walk_at "lk") (And.intro (by walk_at "side") (And.intro (by walk_at "side") (And.intro (by walk_at "side") ?_)))⟩
  | refine .inl ⟨_, _, And.intro (by walk_at "lk") (And.intro (by walk_at "lk") (And.intro (by walk_at "side") ?_))⟩
  | refine .inr ⟨_, _, And.intro (by walk_at "sqt") (And.intro (by walk_at "sqt") (And.intro (by walk_at "side") ?_))⟩
  | refine .inl ⟨_, And.intro (by walk_at "sq") ?_⟩
  | refine .inr ⟨_, And.intro (by walk_at "sqt") ?_⟩
  | refine ⟨_, _, _, _, rfl, rfl, And.intro (by walk_at "lk") (And.intro rfl ?_)⟩
  | refine fun H' (n : Wr _ _ _ H') => ?_
  | refine fun p H' (n : Nw _ p _ H') => ?_
  | refine fun r H' (n : Tp _ _ r _ H') => ?_
  | refine fun x dx H' (n : Mkd _ _ x dx H') => ?_
  | refine .inl ⟨_, _, rfl, And.intro (by walk_at "sq") (fun p H' (n : Nw _ p _ H') => ?_)⟩
  | refine .inr ⟨_, _, rfl, And.intro (by walk_at "sqt") (fun r H' (n : Tp _ _ r _ H') => ?_)⟩
  | refine ⟨_, _, rfl, And.intro (by walk_at "sq") (fun p H' (n : Nw _ p _ H') => ?_)⟩
  | refine .inl (And.intro ⟨_, by walk_at "sq"⟩ ?_)
  | refine .inr (And.intro ⟨_, by walk_at "sqt"⟩ ?_)
  | refine ⟨_, _, rfl, And.intro (by walk_at "sqt") (And.intro rfl ?_)⟩
  | refine ⟨_, _, And.intro rfl ?_⟩
  | refine ⟨_, _, _, And.intro rfl ?_⟩
  | refine And.intro rfl ?_
  | (refine ite_t ?_ ?_; exact rfl)
  | (refine ite_f ?_ ?_; exact rfl)
  | refine And.intro (by walk_at "side") ?_)
local macro_rules | `(tactic| walk_at "side") => `(tactic| first
  | exact (rfl : _ = _)
  | decide
  | exact lt1000 rfl
  | with_reducible assumption
  | exact ⟨by omega, by omega⟩
  | exact .inl ⟨by omega, by omega⟩
  | exact .inr ⟨by omega, by omega⟩
  | omega
  | (apply le_line; omega)
  | (apply lt_line; omega)
  | (apply le_line; simp <;> omega)
  | (apply lt_line; simp <;> omega)
  | fail)
local macro_rules | `(tactic| walk_at "if") => `(tactic| first
  | refine ite_nd ?_ ?_
  | refine ite_d ?_ ?_
  | refine ite_eqt ?_ ?_
  | fail)
local macro_rules | `(tactic| walk_at "roll") => `(tactic| first
  | (refine And.intro (show Dice _ _ from ⟨_, _, _, by walk_at "lk"⟩) (And.intro (by walk_at "side") (And.intro (by walk_at "side") (fun r H' r0 r1 ro => ?_))); obtain ⟨a', b', c', w⟩ := ro)
  | fail)
local macro_rules | `(tactic| walk_at "run") => `(tactic| (walk_at "go"; repeat (walk_at "roll"; walk_at "go")))
local macro_rules | `(tactic| walk_at "dp") => `(tactic| first
  | exact Dp.non
  | exact Dp.int _
  | exact Dp.str _
  | exact Dp.bl _
  | exact DpAll.nil
  | exact DpAll.cons (by walk_at "dp") (by walk_at "dp")
  | exact Dp.tup (by walk_at "sqt") (by walk_at "dp")
  | exact Dp.lst (by walk_at "sq") (by walk_at "dp")
  | fail)

section
variable {w : World} {K : PySem.W.Frag} {mg : Str → Option Value} {base : Heap}
theorem tl__law_plain_8 (T : Env w K mg base) {A : Around} {outer : List PySem.Env} {s : Shared} {H : Hp} {E : XK} (hr : Room 55 (A.deeper (PyProof.Rows.envOfC "_law_plain" (defScope s__law_plain) s.heap.objs.size T.f__law_plain (.ref T.c__law_plain)))) : ∃ t, PSs (cxOf (L2.CX prg w) prg w K mg base N__law_plain "_law_plain" (defScope s__law_plain) T.f__law_plain (.ref T.c__law_plain) A outer s H E) ((defBody s__law_plain).drop 8) t ∧ ∀ (D : Ends) (σ : L2.St) (G : Hp), pre__law_plain_8 T H D σ G → t D σ G := by
  obtain ⟨t9, P9, R9⟩ := tl__law_plain_14 T (outer := outer) (s := s) (H := H) (E := E) hr
  refine ⟨_, (pss_cons (ps_set (i := 8) sc__law_plain.nd rfl (Or.inl rfl) (Y.pe_ls (pa_cons (Y.pe_lamG (k := 48) T.tb__law_plain rfl T.tm__law_plain T.tu__law_plain rfl ⟨lamS_by (show lamSB (defScope s__law_plain) _ = true by decide +kernel), fun _ _ _ _ _ => rfl, fun A outer s H E f c' hr => (Y.pe_mk T.mk_Ring (ok_Ring___init__ T) (hr.mono (by decide)) rfl T.mg_Ring T.b_Ring___init__ .nil (Y.passD rfl rfl rfl rfl) (pa_cons pe_int pa_nil))⟩) (pa_cons (Y.pe_lamG (k := 48) T.tb__law_plain rfl T.tm__law_plain T.tu__law_plain rfl ⟨lamS_by (show lamSB (defScope s__law_plain) _ = true by decide +kernel), fun _ _ _ _ _ => rfl, fun A outer s H E f c' hr => (Y.pe_mk T.mk_Ring (ok_Ring___init__ T) (hr.mono (by decide)) rfl T.mg_Ring T.b_Ring___init__ .nil (Y.passD rfl rfl rfl rfl) (pa_cons pe_int pa_nil))⟩) (pa_cons (Y.pe_lamG (k := 48) T.tb__law_plain rfl T.tm__law_plain T.tu__law_plain rfl ⟨lamS_by (show lamSB (defScope s__law_plain) _ = true by decide +kernel), fun _ _ _ _ _ => rfl, fun A outer s H E f c' hr => (pe_meth (pv 1) T.cl_Ring T.me_Ring_put_last (ok_Ring_put_last T) (hr.mono (by decide)) T.b_Ring_put_last .nil (Y.passD rfl rfl rfl rfl) (pa_cons pe_int pa_nil))⟩) (pa_cons (Y.pe_lamG (k := 48) T.tb__law_plain rfl T.tm__law_plain T.tu__law_plain rfl ⟨lamS_by (show lamSB (defScope s__law_plain) _ = true by decide +kernel), fun _ _ _ _ _ => rfl, fun A outer s H E f c' hr => (pe_meth (pv 1) T.cl_Ring T.me_Ring_put_first (ok_Ring_put_first T) (hr.mono (by decide)) T.b_Ring_put_first .nil (Y.passD rfl rfl rfl rfl) (pa_cons pe_int pa_nil))⟩) (pa_cons (Y.pe_lamG (k := 48) T.tb__law_plain rfl T.tm__law_plain T.tu__law_plain rfl ⟨lamS_by (show lamSB (defScope s__law_plain) _ = true by decide +kernel), fun _ _ _ _ _ => rfl, fun A outer s H E f c' hr => (pe_meth (pv 0) T.cl_Ring T.me_Ring_put_last (ok_Ring_put_last T) (hr.mono (by decide)) T.b_Ring_put_last .nil (Y.passD rfl rfl rfl rfl) (pa_cons pe_non pa_nil))⟩) pa_nil)))))))
  (pss_cons (ps_set (i := 8) sc__law_plain.nd rfl (Or.inl rfl) (pe_op (Y.op_addK (K := K) rfl) (pv 8) (Y.pe_ls (pa_cons (Y.pe_lamG (k := 48) T.tb__law_plain rfl T.tm__law_plain T.tu__law_plain rfl ⟨lamS_by (show lamSB (defScope s__law_plain) _ = true by decide +kernel), fun _ _ _ _ _ => rfl, fun A outer s H E f c' hr => (pe_meth (pv 0) T.cl_Ring T.me_Ring_put_first (ok_Ring_put_first T) (hr.mono (by decide)) T.b_Ring_put_first .nil (Y.passD rfl rfl rfl rfl) (pa_cons pe_non pa_nil))⟩) (pa_cons (Y.pe_lamG (k := 48) T.tb__law_plain rfl T.tm__law_plain T.tu__law_plain rfl ⟨lamS_by (show lamSB (defScope s__law_plain) _ = true by decide +kernel), fun _ _ _ _ _ => rfl, fun A outer s H E f c' hr => (pe_meth (pv 0) T.cl_Ring T.me_Ring_check_put (ok_Ring_check_put T) (hr.mono (by decide)) T.b_Ring_check_put .nil (Y.passD rfl rfl rfl rfl) (pa_cons pe_non pa_nil))⟩) (pa_cons (Y.pe_lamG (k := 48) T.tb__law_plain rfl T.tm__law_plain T.tu__law_plain rfl ⟨lamS_by (show lamSB (defScope s__law_plain) _ = true by decide +kernel), fun _ _ _ _ _ => rfl, fun A outer s H E f c' hr => (pe_meth0 (Y.pe_mk0 T.mk_Ring (ok_Ring___init__ T) (hr.mono (by decide)) rfl T.mg_Ring T.b1_Ring___init__ T.dn1_Ring___init__ (Y.passD rfl rfl rfl rfl)) T.cl_Ring T.me_Ring_check_some (ok_Ring_check_some T) (hr.mono (by decide)) T.b_Ring_check_some .nil (Y.passD rfl rfl rfl rfl))⟩) (pa_cons (Y.pe_lamG (k := 48) T.tb__law_plain rfl T.tm__law_plain T.tu__law_plain rfl ⟨lamS_by (show lamSB (defScope s__law_plain) _ = true by decide +kernel), fun _ _ _ _ _ => rfl, fun A outer s H E f c' hr => (pe_meth0 (Y.pe_mk0 T.mk_Ring (ok_Ring___init__ T) (hr.mono (by decide)) rfl T.mg_Ring T.b1_Ring___init__ T.dn1_Ring___init__ (Y.passD rfl rfl rfl rfl)) T.cl_Ring T.me_Ring_take_first (ok_Ring_take_first T) (hr.mono (by decide)) T.b_Ring_take_first .nil (Y.passD rfl rfl rfl rfl))⟩) pa_nil)))))))
  (pss_cons (ps_set (i := 8) sc__law_plain.nd rfl (Or.inl rfl) (pe_op (Y.op_addK (K := K) rfl) (pv 8) (Y.pe_ls (pa_cons (Y.pe_lamG (k := 48) T.tb__law_plain rfl T.tm__law_plain T.tu__law_plain rfl ⟨lamS_by (show lamSB (defScope s__law_plain) _ = true by decide +kernel), fun _ _ _ _ _ => rfl, fun A outer s H E f c' hr => (pe_meth0 (Y.pe_mk0 T.mk_Ring (ok_Ring___init__ T) (hr.mono (by decide)) rfl T.mg_Ring T.b1_Ring___init__ T.dn1_Ring___init__ (Y.passD rfl rfl rfl rfl)) T.cl_Ring T.me_Ring_take_last (ok_Ring_take_last T) (hr.mono (by decide)) T.b_Ring_take_last .nil (Y.passD rfl rfl rfl rfl))⟩) (pa_cons (Y.pe_lamG (k := 48) T.tb__law_plain rfl T.tm__law_plain T.tu__law_plain rfl ⟨lamS_by (show lamSB (defScope s__law_plain) _ = true by decide +kernel), fun _ _ _ _ _ => rfl, fun A outer s H E f c' hr => (pe_meth (Y.pe_mk0 T.mk_Ring (ok_Ring___init__ T) (hr.mono (by decide)) rfl T.mg_Ring T.b1_Ring___init__ T.dn1_Ring___init__ (Y.passD rfl rfl rfl rfl)) T.cl_Ring T.me_Ring_turn_by (ok_Ring_turn_by T) (hr.mono (by decide)) T.b_Ring_turn_by .nil (Y.passD rfl rfl rfl rfl) (pa_cons pe_int pa_nil))⟩) (pa_cons (Y.pe_lamG (k := 48) T.tb__law_plain rfl T.tm__law_plain T.tu__law_plain rfl ⟨lamS_by (show lamSB (defScope s__law_plain) _ = true by decide +kernel), fun _ _ _ _ _ => rfl, fun A outer s H E f c' hr => (pe_meth (pv 0) T.cl_Ring T.me_Ring_item_at (ok_Ring_item_at T) (hr.mono (by decide)) T.b_Ring_item_at .nil (Y.passD rfl rfl rfl rfl) (pa_cons pe_int pa_nil))⟩) (pa_cons (Y.pe_lamG (k := 48) T.tb__law_plain rfl T.tm__law_plain T.tu__law_plain rfl ⟨lamS_by (show lamSB (defScope s__law_plain) _ = true by decide +kernel), fun _ _ _ _ _ => rfl, fun A outer s H E f c' hr => (pe_meth (pv 0) T.cl_Ring T.me_Ring_item_at (ok_Ring_item_at T) (hr.mono (by decide)) T.b_Ring_item_at .nil (Y.passD rfl rfl rfl rfl) (pa_cons (pe_un un_neg pe_int) pa_nil))⟩) (pa_cons (Y.pe_lamG (k := 48) T.tb__law_plain rfl T.tm__law_plain T.tu__law_plain rfl ⟨lamS_by (show lamSB (defScope s__law_plain) _ = true by decide +kernel), fun _ _ _ _ _ => rfl, fun A outer s H E f c' hr => (Y.pe_mk T.mk_Last (ok_Last___init__ T) (hr.mono (by decide)) rfl T.mg_Last T.b_Last___init__ .nil (Y.passD rfl rfl rfl rfl) (pa_cons pe_int pa_nil))⟩) pa_nil))))))))
  (pss_cons (ps_set (i := 8) sc__law_plain.nd rfl (Or.inl rfl) (pe_op (Y.op_addK (K := K) rfl) (pv 8) (Y.pe_ls (pa_cons (Y.pe_lamG (k := 48) T.tb__law_plain rfl T.tm__law_plain T.tu__law_plain rfl ⟨lamS_by (show lamSB (defScope s__law_plain) _ = true by decide +kernel), fun _ _ _ _ _ => rfl, fun A outer s H E f c' hr => (pe_meth (pv 2) T.cl_Last T.me_Last_put (ok_Last_put T) (hr.mono (by decide)) T.b_Last_put .nil (Y.passD rfl rfl rfl rfl) (pa_cons pe_non pa_nil))⟩) (pa_cons (Y.pe_lamG (k := 48) T.tb__law_plain rfl T.tm__law_plain T.tu__law_plain rfl ⟨lamS_by (show lamSB (defScope s__law_plain) _ = true by decide +kernel), fun _ _ _ _ _ => rfl, fun A outer s H E f c' hr => (pe_meth (pv 2) T.cl_Last T.me_Last_item_from (ok_Last_item_from T) (hr.mono (by decide)) T.b_Last_item_from .nil (Y.passD rfl rfl rfl rfl) (pa_cons pe_int pa_nil))⟩) (pa_cons (Y.pe_lamG (k := 48) T.tb__law_plain rfl T.tm__law_plain T.tu__law_plain rfl ⟨lamS_by (show lamSB (defScope s__law_plain) _ = true by decide +kernel), fun _ _ _ _ _ => rfl, fun A outer s H E f c' hr => (pe_meth (pv 2) T.cl_Last T.me_Last_item_from (ok_Last_item_from T) (hr.mono (by decide)) T.b_Last_item_from .nil (Y.passD rfl rfl rfl rfl) (pa_cons pe_int pa_nil))⟩) (pa_cons (Y.pe_lamG (k := 48) T.tb__law_plain rfl T.tm__law_plain T.tu__law_plain rfl ⟨lamS_by (show lamSB (defScope s__law_plain) _ = true by decide +kernel), fun _ _ _ _ _ => rfl, fun A outer s H E f c' hr => (pe_meth0 (Y.pe_mk0 T.mk_Queue (ok_Queue___init__ T) (hr.mono (by decide)) rfl T.mg_Queue T.b_Queue___init__ .nil (Y.passD rfl rfl rfl rfl)) T.cl_Queue T.me_Queue_take_value (ok_Queue_take_value T) (hr.mono (by decide)) T.b_Queue_take_value .nil (Y.passD rfl rfl rfl rfl))⟩) (pa_cons (Y.pe_lamG (k := 48) T.tb__law_plain rfl T.tm__law_plain T.tu__law_plain rfl ⟨lamS_by (show lamSB (defScope s__law_plain) _ = true by decide +kernel), fun _ _ _ _ _ => rfl, fun A outer s H E f c' hr => (pe_meth0 (Y.pe_mk0 T.mk_Queue (ok_Queue___init__ T) (hr.mono (by decide)) rfl T.mg_Queue T.b_Queue___init__ .nil (Y.passD rfl rfl rfl rfl)) T.cl_Queue T.me_Queue_least_value (ok_Queue_least_value T) (hr.mono (by decide)) T.b_Queue_least_value .nil (Y.passD rfl rfl rfl rfl))⟩) pa_nil))))))))
  (pss_cons (ps_set (i := 8) sc__law_plain.nd rfl (Or.inl rfl) (pe_op (Y.op_addK (K := K) rfl) (pv 8) (Y.pe_ls (pa_cons (Y.pe_lamG (k := 48) T.tb__law_plain rfl T.tm__law_plain T.tu__law_plain rfl ⟨lamS_by (show lamSB (defScope s__law_plain) _ = true by decide +kernel), fun _ _ _ _ _ => rfl, fun A outer s H E f c' hr => (pe_call (ok_least_windows T) (hr.mono (by decide)) rfl T.mg_least_windows T.F_least_windows.kp T.b_least_windows .nil (Y.passD rfl rfl rfl rfl) (pa_cons (Y.pe_tu (pa_cons pe_int pa_nil)) (pa_cons pe_int pa_nil)))⟩) (pa_cons (Y.pe_lamG (k := 48) T.tb__law_plain rfl T.tm__law_plain T.tu__law_plain rfl ⟨lamS_by (show lamSB (defScope s__law_plain) _ = true by decide +kernel), fun _ _ _ _ _ => rfl, fun A outer s H E f c' hr => (pe_call (ok_least_windows T) (hr.mono (by decide)) rfl T.mg_least_windows T.F_least_windows.kp T.b_least_windows .nil (Y.passD rfl rfl rfl rfl) (pa_cons (Y.pe_tu (pa_cons pe_int pa_nil)) (pa_cons pe_int pa_nil)))⟩) (pa_cons (Y.pe_lamG (k := 48) T.tb__law_plain rfl T.tm__law_plain T.tu__law_plain rfl ⟨lamS_by (show lamSB (defScope s__law_plain) _ = true by decide +kernel), fun _ _ _ _ _ => rfl, fun A outer s H E f c' hr => (pe_call (ok_last_of_ring T) (hr.mono (by decide)) rfl T.mg_last_of_ring T.F_last_of_ring.kp T.b_last_of_ring .nil (Y.passD rfl rfl rfl rfl) (pa_cons pe_int (pa_cons pe_int pa_nil)))⟩) (pa_cons (Y.pe_lamG (k := 48) T.tb__law_plain rfl T.tm__law_plain T.tu__law_plain rfl ⟨lamS_by (show lamSB (defScope s__law_plain) _ = true by decide +kernel), fun _ _ _ _ _ => rfl, fun A outer s H E f c' hr => (pe_call (ok_last_of_ring T) (hr.mono (by decide)) rfl T.mg_last_of_ring T.F_last_of_ring.kp T.b_last_of_ring .nil (Y.passD rfl rfl rfl rfl) (pa_cons pe_int (pa_cons pe_int pa_nil)))⟩) pa_nil)))))))
  (pss_cons (ps_set (i := 8) sc__law_plain.nd rfl (Or.inl rfl) (pe_op (Y.op_addK (K := K) rfl) (pv 8) (Y.pe_ls (pa_cons (Y.pe_lamG (k := 48) T.tb__law_plain rfl T.tm__law_plain T.tu__law_plain rfl ⟨lamS_by (show lamSB (defScope s__law_plain) _ = true by decide +kernel), fun _ _ _ _ _ => rfl, fun A outer s H E f c' hr => (pe_call (ok_last_of_ring T) (hr.mono (by decide)) rfl T.mg_last_of_ring T.F_last_of_ring.kp T.b_last_of_ring .nil (Y.passD rfl rfl rfl rfl) (pa_cons pe_int (pa_cons pe_int pa_nil)))⟩) pa_nil))))
  P9)))))), ?_⟩
  intro D σ G h
  unfold pre__law_plain_8 at h
  obtain ⟨ht, hQ, p1, l1, p2, l2, q, p3, l3, u, a, b, cap2, x5, x6, x7, o, t3, t4, t6, t7, t9, t10, rfl, wd⟩ := h
  have wd := wd
  have bl : BadL (cxOf (L2.CX prg w) prg w K mg base N__law_plain "_law_plain" (defScope s__law_plain) T.f__law_plain (.ref T.c__law_plain) A outer s H E) T p1 p2 q [] G := fun v h => nomatch h
  show tSeq _ _ _ _ _
  skip
  refine ⟨wd.chg.tabs ht, fun f1 G1x gr nf L => ?_⟩
  have wd := wd.idle (Chg.ofGrows gr)
  have bl := bl.mono (Chg.ofGrows gr)
  have bl := bl.snoc (v := .ref f1) (by
    refine ⟨_, _, rfl, L, fun G9 c9 Q0 q0 y4 y5 y6 y7 y8 y9 y10 => ?_⟩
    have wG := wd.idle c9
    have hring := (wG.get (F := [p1, l1]) (P := fun H => RingAt T.C_Ring H p1 l1 [.int 2, .int 1] 4 ∧ ∃ dx, H p1 = some (.ins T.C_Ring dx (fsR l1 0 2))) (by simp [Ring0Is])).1
    have hfull := wG.get (F := [p2, l2]) (P := fun H => RingAt T.C_Ring H p2 l2 (intsV 256) cap2) (by simp)
    have hlast := wG.get (F := [q, p3, l3]) (P := fun H => LastAt T H q p3 l3 [.str "b", .str "c"] 2 3) (by simp)
    clear wd bl
    walk_at "go"
    rename_i pn dxn Hn nn
    refine ⟨_, by walk_at "lk", fun _ => err_to T.ex_RingError (q0 _ (by walk_at "chg")), fun a1 a2 => absurd a1 (by decide)⟩)
  clear gr nf L
  walk_at "go"
  refine ⟨wd.chg.tabs ht, fun f2 G2x gr nf L => ?_⟩
  have wd := wd.idle (Chg.ofGrows gr)
  have bl := bl.mono (Chg.ofGrows gr)
  have bl := bl.snoc (v := .ref f2) (by
    refine ⟨_, _, rfl, L, fun G9 c9 Q0 q0 y4 y5 y6 y7 y8 y9 y10 => ?_⟩
    have wG := wd.idle c9
    have hring := (wG.get (F := [p1, l1]) (P := fun H => RingAt T.C_Ring H p1 l1 [.int 2, .int 1] 4 ∧ ∃ dx, H p1 = some (.ins T.C_Ring dx (fsR l1 0 2))) (by simp [Ring0Is])).1
    have hfull := wG.get (F := [p2, l2]) (P := fun H => RingAt T.C_Ring H p2 l2 (intsV 256) cap2) (by simp)
    have hlast := wG.get (F := [q, p3, l3]) (P := fun H => LastAt T H q p3 l3 [.str "b", .str "c"] 2 3) (by simp)
    clear wd bl
    walk_at "go"
    rename_i pn dxn Hn nn
    refine ⟨_, by walk_at "lk", fun _ => err_to T.ex_RingError (q0 _ (by walk_at "chg")), fun a1 a2 => absurd a2 (by decide)⟩)
  clear gr nf L
  walk_at "go"
  refine ⟨wd.chg.tabs ht, fun f3 G3x gr nf L => ?_⟩
  have wd := wd.idle (Chg.ofGrows gr)
  have bl := bl.mono (Chg.ofGrows gr)
  have bl := bl.snoc (v := .ref f3) (by
    refine ⟨_, _, rfl, L, fun G9 c9 Q0 q0 y4 y5 y6 y7 y8 y9 y10 => ?_⟩
    have wG := wd.idle c9
    have hring := (wG.get (F := [p1, l1]) (P := fun H => RingAt T.C_Ring H p1 l1 [.int 2, .int 1] 4 ∧ ∃ dx, H p1 = some (.ins T.C_Ring dx (fsR l1 0 2))) (by simp [Ring0Is])).1
    have hfull := wG.get (F := [p2, l2]) (P := fun H => RingAt T.C_Ring H p2 l2 (intsV 256) cap2) (by simp)
    have hlast := wG.get (F := [q, p3, l3]) (P := fun H => LastAt T H q p3 l3 [.str "b", .str "c"] 2 3) (by simp)
    clear wd bl
    obtain ⟨dx0, st0, pl0, ⟨h4, h5⟩, hh⟩ := id hfull
    walk_at "go"
    exact ⟨_, _, _, hfull, wG.chg.tabs ht, fun _ => err_to T.ex_RingError (q0 _ (.refl _)), fun _ h => absurd h (by decide)⟩)
  clear gr nf L
  walk_at "go"
  refine ⟨wd.chg.tabs ht, fun f4 G4x gr nf L => ?_⟩
  have wd := wd.idle (Chg.ofGrows gr)
  have bl := bl.mono (Chg.ofGrows gr)
  have bl := bl.snoc (v := .ref f4) (by
    refine ⟨_, _, rfl, L, fun G9 c9 Q0 q0 y4 y5 y6 y7 y8 y9 y10 => ?_⟩
    have wG := wd.idle c9
    have hring := (wG.get (F := [p1, l1]) (P := fun H => RingAt T.C_Ring H p1 l1 [.int 2, .int 1] 4 ∧ ∃ dx, H p1 = some (.ins T.C_Ring dx (fsR l1 0 2))) (by simp [Ring0Is])).1
    have hfull := wG.get (F := [p2, l2]) (P := fun H => RingAt T.C_Ring H p2 l2 (intsV 256) cap2) (by simp)
    have hlast := wG.get (F := [q, p3, l3]) (P := fun H => LastAt T H q p3 l3 [.str "b", .str "c"] 2 3) (by simp)
    clear wd bl
    obtain ⟨dx0, st0, pl0, ⟨h4, h5⟩, hh⟩ := id hfull
    walk_at "go"
    exact ⟨_, _, _, hfull, wG.chg.tabs ht, fun _ => err_to T.ex_RingError (q0 _ (.refl _)), fun _ h => absurd h (by decide)⟩)
  clear gr nf L
  walk_at "go"
  refine ⟨wd.chg.tabs ht, fun f5 G5x gr nf L => ?_⟩
  have wd := wd.idle (Chg.ofGrows gr)
  have bl := bl.mono (Chg.ofGrows gr)
  have bl := bl.snoc (v := .ref f5) (by
    refine ⟨_, _, rfl, L, fun G9 c9 Q0 q0 y4 y5 y6 y7 y8 y9 y10 => ?_⟩
    have wG := wd.idle c9
    have hring := (wG.get (F := [p1, l1]) (P := fun H => RingAt T.C_Ring H p1 l1 [.int 2, .int 1] 4 ∧ ∃ dx, H p1 = some (.ins T.C_Ring dx (fsR l1 0 2))) (by simp [Ring0Is])).1
    have hfull := wG.get (F := [p2, l2]) (P := fun H => RingAt T.C_Ring H p2 l2 (intsV 256) cap2) (by simp)
    have hlast := wG.get (F := [q, p3, l3]) (P := fun H => LastAt T H q p3 l3 [.str "b", .str "c"] 2 3) (by simp)
    clear wd bl
    obtain ⟨dx0, st0, pl0, ⟨h4, h5⟩, hh⟩ := id hring
    walk_at "go"
    exact ⟨_, _, _, hring, wG.chg.tabs ht, fun _ => err_to T.ex_RingError (q0 _ (.refl _)), fun h => (h rfl).elim⟩)
  clear gr nf L
  walk_at "go"
  rename_i bd0 Hm nm
  have wd := wd.lst nm
  have bl : BadL _ T p1 p2 q [.ref f1, .ref f2, .ref f3, .ref f4, .ref f5] Hm := bl.mono (by walk_at "chg")
  clear nm
  walk_at "go"
  refine ⟨wd.chg.tabs ht, fun f6 G6x gr nf L => ?_⟩
  have wd := wd.idle (Chg.ofGrows gr)
  have bl := bl.mono (Chg.ofGrows gr)
  have bl := bl.snoc (v := .ref f6) (by
    refine ⟨_, _, rfl, L, fun G9 c9 Q0 q0 y4 y5 y6 y7 y8 y9 y10 => ?_⟩
    have wG := wd.idle c9
    have hring := (wG.get (F := [p1, l1]) (P := fun H => RingAt T.C_Ring H p1 l1 [.int 2, .int 1] 4 ∧ ∃ dx, H p1 = some (.ins T.C_Ring dx (fsR l1 0 2))) (by simp [Ring0Is])).1
    have hfull := wG.get (F := [p2, l2]) (P := fun H => RingAt T.C_Ring H p2 l2 (intsV 256) cap2) (by simp)
    have hlast := wG.get (F := [q, p3, l3]) (P := fun H => LastAt T H q p3 l3 [.str "b", .str "c"] 2 3) (by simp)
    clear wd bl
    obtain ⟨dx0, st0, pl0, ⟨h4, h5⟩, hh⟩ := id hring
    walk_at "go"
    exact ⟨_, _, _, hring, wG.chg.tabs ht, fun _ => err_to T.ex_RingError (q0 _ (.refl _)), fun h => (h rfl).elim⟩)
  clear gr nf L
  walk_at "go"
  refine ⟨wd.chg.tabs ht, fun f7 G7x gr nf L => ?_⟩
  have wd := wd.idle (Chg.ofGrows gr)
  have bl := bl.mono (Chg.ofGrows gr)
  have bl := bl.snoc (v := .ref f7) (by
    refine ⟨_, _, rfl, L, fun G9 c9 Q0 q0 y4 y5 y6 y7 y8 y9 y10 => ?_⟩
    have wG := wd.idle c9
    have hring := (wG.get (F := [p1, l1]) (P := fun H => RingAt T.C_Ring H p1 l1 [.int 2, .int 1] 4 ∧ ∃ dx, H p1 = some (.ins T.C_Ring dx (fsR l1 0 2))) (by simp [Ring0Is])).1
    have hfull := wG.get (F := [p2, l2]) (P := fun H => RingAt T.C_Ring H p2 l2 (intsV 256) cap2) (by simp)
    have hlast := wG.get (F := [q, p3, l3]) (P := fun H => LastAt T H q p3 l3 [.str "b", .str "c"] 2 3) (by simp)
    clear wd bl
    obtain ⟨dx0, st0, pl0, ⟨h4, h5⟩, hh⟩ := id hring
    walk_at "go"
    exact ⟨_, _, _, hring, wG.chg.tabs ht, fun _ => err_to T.ex_RingError (q0 _ (.refl _)), fun h => (h rfl).elim⟩)
  clear gr nf L
  walk_at "go"
  refine ⟨wd.chg.tabs ht, fun f8 G8x gr nf L => ?_⟩
  have wd := wd.idle (Chg.ofGrows gr)
  have bl := bl.mono (Chg.ofGrows gr)
  have bl := bl.snoc (v := .ref f8) (by
    refine ⟨_, _, rfl, L, fun G9 c9 Q0 q0 y4 y5 y6 y7 y8 y9 y10 => ?_⟩
    have wG := wd.idle c9
    have hring := (wG.get (F := [p1, l1]) (P := fun H => RingAt T.C_Ring H p1 l1 [.int 2, .int 1] 4 ∧ ∃ dx, H p1 = some (.ins T.C_Ring dx (fsR l1 0 2))) (by simp [Ring0Is])).1
    have hfull := wG.get (F := [p2, l2]) (P := fun H => RingAt T.C_Ring H p2 l2 (intsV 256) cap2) (by simp)
    have hlast := wG.get (F := [q, p3, l3]) (P := fun H => LastAt T H q p3 l3 [.str "b", .str "c"] 2 3) (by simp)
    clear wd bl
    walk_at "go"
    rename_i pn dxn Hn nn
    refine fun _ _ ln H8 c8 f8 r8 => ⟨rfl, ?_⟩
    have fpn : G9 pn = none := by walk_at "fr"
    have c9 : Chg T.tabs nil G9 H8 := .ch c8 (.mkd nn (.refl _)) (by walk_at "sub")
    obtain ⟨dx0, st0, pl0, ⟨h4, h5⟩, hh⟩ := id r8
    walk_at "go"
    exact ⟨_, _, _, _, _, ⟨h4, h5⟩, fun _ => err_to T.ex_RingError (q0 _ c9), fun z => (z rfl).elim⟩)
  clear gr nf L
  walk_at "go"
  refine ⟨wd.chg.tabs ht, fun f9 G9x gr nf L => ?_⟩
  have wd := wd.idle (Chg.ofGrows gr)
  have bl := bl.mono (Chg.ofGrows gr)
  have bl := bl.snoc (v := .ref f9) (by
    refine ⟨_, _, rfl, L, fun G9 c9 Q0 q0 y4 y5 y6 y7 y8 y9 y10 => ?_⟩
    have wG := wd.idle c9
    have hring := (wG.get (F := [p1, l1]) (P := fun H => RingAt T.C_Ring H p1 l1 [.int 2, .int 1] 4 ∧ ∃ dx, H p1 = some (.ins T.C_Ring dx (fsR l1 0 2))) (by simp [Ring0Is])).1
    have hfull := wG.get (F := [p2, l2]) (P := fun H => RingAt T.C_Ring H p2 l2 (intsV 256) cap2) (by simp)
    have hlast := wG.get (F := [q, p3, l3]) (P := fun H => LastAt T H q p3 l3 [.str "b", .str "c"] 2 3) (by simp)
    clear wd bl
    walk_at "go"
    rename_i pn dxn Hn nn
    refine fun _ _ ln H8 c8 f8 r8 => ⟨rfl, ?_⟩
    have fpn : G9 pn = none := by walk_at "fr"
    have c9 : Chg T.tabs nil G9 H8 := .ch c8 (.mkd nn (.refl _)) (by walk_at "sub")
    obtain ⟨dx0, st0, pl0, ⟨h4, h5⟩, hh⟩ := id r8
    walk_at "go"
    exact ⟨_, _, _, r8, fun _ => err_to T.ex_RingError (q0 _ c9), (fun v own e => nomatch e)⟩)
  clear gr nf L
  have hb := wd.hd
  walk_at "go"
  rename_i qn Hn nn bd1 Hm nm
  have wd : Wd T.tabs nil H Hm (LstIs bd1 [.ref f1, .ref f2, .ref f3, .ref f4, .ref f5, .ref f6, .ref f7, .ref f8, .ref f9] :: _) := (((wd.idle (nn.chg (T := T.tabs))).lst nm).to2).tail
  have bl : BadL _ T p1 p2 q [.ref f1, .ref f2, .ref f3, .ref f4, .ref f5, .ref f6, .ref f7, .ref f8, .ref f9] Hm := bl.mono (by walk_at "chg")
  clear hb nn nm
  walk_at "go"
  refine ⟨wd.chg.tabs ht, fun f10 G10x gr nf L => ?_⟩
  have wd := wd.idle (Chg.ofGrows gr)
  have bl := bl.mono (Chg.ofGrows gr)
  have bl := bl.snoc (v := .ref f10) (by
    refine ⟨_, _, rfl, L, fun G9 c9 Q0 q0 y4 y5 y6 y7 y8 y9 y10 => ?_⟩
    have wG := wd.idle c9
    have hring := (wG.get (F := [p1, l1]) (P := fun H => RingAt T.C_Ring H p1 l1 [.int 2, .int 1] 4 ∧ ∃ dx, H p1 = some (.ins T.C_Ring dx (fsR l1 0 2))) (by simp [Ring0Is])).1
    have hfull := wG.get (F := [p2, l2]) (P := fun H => RingAt T.C_Ring H p2 l2 (intsV 256) cap2) (by simp)
    have hlast := wG.get (F := [q, p3, l3]) (P := fun H => LastAt T H q p3 l3 [.str "b", .str "c"] 2 3) (by simp)
    clear wd bl
    walk_at "go"
    rename_i pn dxn Hn nn
    refine fun _ _ ln H8 c8 f8 r8 => ⟨rfl, ?_⟩
    have fpn : G9 pn = none := by walk_at "fr"
    have c9 : Chg T.tabs nil G9 H8 := .ch c8 (.mkd nn (.refl _)) (by walk_at "sub")
    obtain ⟨dx0, st0, pl0, ⟨h4, h5⟩, hh⟩ := id r8
    walk_at "go"
    exact ⟨_, _, _, r8, fun _ => err_to T.ex_RingError (q0 _ c9), (fun v own e => nomatch e)⟩)
  clear gr nf L
  walk_at "go"
  refine ⟨wd.chg.tabs ht, fun f11 G11x gr nf L => ?_⟩
  have wd := wd.idle (Chg.ofGrows gr)
  have bl := bl.mono (Chg.ofGrows gr)
  have bl := bl.snoc (v := .ref f11) (by
    refine ⟨_, _, rfl, L, fun G9 c9 Q0 q0 y4 y5 y6 y7 y8 y9 y10 => ?_⟩
    have wG := wd.idle c9
    have hring := (wG.get (F := [p1, l1]) (P := fun H => RingAt T.C_Ring H p1 l1 [.int 2, .int 1] 4 ∧ ∃ dx, H p1 = some (.ins T.C_Ring dx (fsR l1 0 2))) (by simp [Ring0Is])).1
    have hfull := wG.get (F := [p2, l2]) (P := fun H => RingAt T.C_Ring H p2 l2 (intsV 256) cap2) (by simp)
    have hlast := wG.get (F := [q, p3, l3]) (P := fun H => LastAt T H q p3 l3 [.str "b", .str "c"] 2 3) (by simp)
    clear wd bl
    walk_at "go"
    rename_i pn dxn Hn nn
    refine fun _ _ ln H8 c8 f8 r8 => ⟨rfl, ?_⟩
    have fpn : G9 pn = none := by walk_at "fr"
    have c9 : Chg T.tabs nil G9 H8 := .ch c8 (.mkd nn (.refl _)) (by walk_at "sub")
    obtain ⟨dx0, st0, pl0, ⟨h4, h5⟩, hh⟩ := id r8
    walk_at "go"
    exact ⟨_, _, _, r8, c9.tabs (wG.chg.tabs ht), fun _ => err_to T.ex_RingError (q0 _ c9), fun z => (z rfl).elim⟩)
  clear gr nf L
  walk_at "go"
  refine ⟨wd.chg.tabs ht, fun f12 G12x gr nf L => ?_⟩
  have wd := wd.idle (Chg.ofGrows gr)
  have bl := bl.mono (Chg.ofGrows gr)
  have bl := bl.snoc (v := .ref f12) (by
    refine ⟨_, _, rfl, L, fun G9 c9 Q0 q0 y4 y5 y6 y7 y8 y9 y10 => ?_⟩
    have wG := wd.idle c9
    have hring := (wG.get (F := [p1, l1]) (P := fun H => RingAt T.C_Ring H p1 l1 [.int 2, .int 1] 4 ∧ ∃ dx, H p1 = some (.ins T.C_Ring dx (fsR l1 0 2))) (by simp [Ring0Is])).1
    have hfull := wG.get (F := [p2, l2]) (P := fun H => RingAt T.C_Ring H p2 l2 (intsV 256) cap2) (by simp)
    have hlast := wG.get (F := [q, p3, l3]) (P := fun H => LastAt T H q p3 l3 [.str "b", .str "c"] 2 3) (by simp)
    clear wd bl
    obtain ⟨dx0, st0, pl0, ⟨h4, h5⟩, hh⟩ := id hring
    walk_at "go"
    exact ⟨_, _, _, hring, fun _ => err_to T.ex_RingError (q0 _ (.refl _)), fun v e => (by have e0 : atI [V.int 2, V.int 1] 2 = none := rfl; rw [show atI [V.int 2, V.int 1] 2 = none from e0] at e; exact nomatch e)⟩)
  clear gr nf L
  walk_at "go"
  refine ⟨wd.chg.tabs ht, fun f13 G13x gr nf L => ?_⟩
  have wd := wd.idle (Chg.ofGrows gr)
  have bl := bl.mono (Chg.ofGrows gr)
  have bl := bl.snoc (v := .ref f13) (by
    refine ⟨_, _, rfl, L, fun G9 c9 Q0 q0 y4 y5 y6 y7 y8 y9 y10 => ?_⟩
    have wG := wd.idle c9
    have hring := (wG.get (F := [p1, l1]) (P := fun H => RingAt T.C_Ring H p1 l1 [.int 2, .int 1] 4 ∧ ∃ dx, H p1 = some (.ins T.C_Ring dx (fsR l1 0 2))) (by simp [Ring0Is])).1
    have hfull := wG.get (F := [p2, l2]) (P := fun H => RingAt T.C_Ring H p2 l2 (intsV 256) cap2) (by simp)
    have hlast := wG.get (F := [q, p3, l3]) (P := fun H => LastAt T H q p3 l3 [.str "b", .str "c"] 2 3) (by simp)
    clear wd bl
    obtain ⟨dx0, st0, pl0, ⟨h4, h5⟩, hh⟩ := id hring
    walk_at "go"
    exact ⟨_, _, _, hring, fun _ => err_to T.ex_RingError (q0 _ (.refl _)), fun v e => (by have e0 : atI [V.int 2, V.int 1] (-3) = none := rfl; rw [show atI [V.int 2, V.int 1] (-3) = none from e0] at e; exact nomatch e)⟩)
  clear gr nf L
  walk_at "go"
  refine ⟨wd.chg.tabs ht, fun f14 G14x gr nf L => ?_⟩
  have wd := wd.idle (Chg.ofGrows gr)
  have bl := bl.mono (Chg.ofGrows gr)
  have bl := bl.snoc (v := .ref f14) (by
    refine ⟨_, _, rfl, L, fun G9 c9 Q0 q0 y4 y5 y6 y7 y8 y9 y10 => ?_⟩
    have wG := wd.idle c9
    have hring := (wG.get (F := [p1, l1]) (P := fun H => RingAt T.C_Ring H p1 l1 [.int 2, .int 1] 4 ∧ ∃ dx, H p1 = some (.ins T.C_Ring dx (fsR l1 0 2))) (by simp [Ring0Is])).1
    have hfull := wG.get (F := [p2, l2]) (P := fun H => RingAt T.C_Ring H p2 l2 (intsV 256) cap2) (by simp)
    have hlast := wG.get (F := [q, p3, l3]) (P := fun H => LastAt T H q p3 l3 [.str "b", .str "c"] 2 3) (by simp)
    clear wd bl
    walk_at "go"
    rename_i pn dxn Hn nn
    exact ⟨⟨_, nn.at⟩, fun _ H9 c9 => err_to T.ex_RingError (q0 _ (.ch c9 (by walk_at "chg") (fun _ z => z.elim))), fun a1 => absurd a1 (by decide)⟩)
  clear gr nf L
  have hb := wd.hd
  walk_at "go"
  rename_i qn Hn nn bd2 Hm nm
  have wd : Wd T.tabs nil H Hm (LstIs bd2 [.ref f1, .ref f2, .ref f3, .ref f4, .ref f5, .ref f6, .ref f7, .ref f8, .ref f9, .ref f10, .ref f11, .ref f12, .ref f13, .ref f14] :: _) := (((wd.idle (nn.chg (T := T.tabs))).lst nm).to2).tail
  have bl : BadL _ T p1 p2 q [.ref f1, .ref f2, .ref f3, .ref f4, .ref f5, .ref f6, .ref f7, .ref f8, .ref f9, .ref f10, .ref f11, .ref f12, .ref f13, .ref f14] Hm := bl.mono (by walk_at "chg")
  clear hb nn nm
  walk_at "go"
  refine ⟨wd.chg.tabs ht, fun f15 G15x gr nf L => ?_⟩
  have wd := wd.idle (Chg.ofGrows gr)
  have bl := bl.mono (Chg.ofGrows gr)
  have bl := bl.snoc (v := .ref f15) (by
    refine ⟨_, _, rfl, L, fun G9 c9 Q0 q0 y4 y5 y6 y7 y8 y9 y10 => ?_⟩
    have wG := wd.idle c9
    have hring := (wG.get (F := [p1, l1]) (P := fun H => RingAt T.C_Ring H p1 l1 [.int 2, .int 1] 4 ∧ ∃ dx, H p1 = some (.ins T.C_Ring dx (fsR l1 0 2))) (by simp [Ring0Is])).1
    have hfull := wG.get (F := [p2, l2]) (P := fun H => RingAt T.C_Ring H p2 l2 (intsV 256) cap2) (by simp)
    have hlast := wG.get (F := [q, p3, l3]) (P := fun H => LastAt T H q p3 l3 [.str "b", .str "c"] 2 3) (by simp)
    clear wd bl
    obtain ⟨⟨dx0, h4⟩, -⟩ := id hlast
    walk_at "go"
    exact ⟨_, _, _, _, _, hlast, wG.chg.tabs ht, fun _ => err_to T.ex_RingError (q0 _ (.refl _)), fun h => (h rfl).elim⟩)
  clear gr nf L
  walk_at "go"
  refine ⟨wd.chg.tabs ht, fun f16 G16x gr nf L => ?_⟩
  have wd := wd.idle (Chg.ofGrows gr)
  have bl := bl.mono (Chg.ofGrows gr)
  have bl := bl.snoc (v := .ref f16) (by
    refine ⟨_, _, rfl, L, fun G9 c9 Q0 q0 y4 y5 y6 y7 y8 y9 y10 => ?_⟩
    have wG := wd.idle c9
    have hring := (wG.get (F := [p1, l1]) (P := fun H => RingAt T.C_Ring H p1 l1 [.int 2, .int 1] 4 ∧ ∃ dx, H p1 = some (.ins T.C_Ring dx (fsR l1 0 2))) (by simp [Ring0Is])).1
    have hfull := wG.get (F := [p2, l2]) (P := fun H => RingAt T.C_Ring H p2 l2 (intsV 256) cap2) (by simp)
    have hlast := wG.get (F := [q, p3, l3]) (P := fun H => LastAt T H q p3 l3 [.str "b", .str "c"] 2 3) (by simp)
    clear wd bl
    obtain ⟨⟨dx0, h4⟩, -⟩ := id hlast
    walk_at "go"
    exact ⟨_, _, _, _, _, hlast, fun _ => err_to T.ex_RingError (q0 _ (.refl _)), fun h1 h2 => absurd h1 (by decide)⟩)
  clear gr nf L
  walk_at "go"
  refine ⟨wd.chg.tabs ht, fun f17 G17x gr nf L => ?_⟩
  have wd := wd.idle (Chg.ofGrows gr)
  have bl := bl.mono (Chg.ofGrows gr)
  have bl := bl.snoc (v := .ref f17) (by
    refine ⟨_, _, rfl, L, fun G9 c9 Q0 q0 y4 y5 y6 y7 y8 y9 y10 => ?_⟩
    have wG := wd.idle c9
    have hring := (wG.get (F := [p1, l1]) (P := fun H => RingAt T.C_Ring H p1 l1 [.int 2, .int 1] 4 ∧ ∃ dx, H p1 = some (.ins T.C_Ring dx (fsR l1 0 2))) (by simp [Ring0Is])).1
    have hfull := wG.get (F := [p2, l2]) (P := fun H => RingAt T.C_Ring H p2 l2 (intsV 256) cap2) (by simp)
    have hlast := wG.get (F := [q, p3, l3]) (P := fun H => LastAt T H q p3 l3 [.str "b", .str "c"] 2 3) (by simp)
    clear wd bl
    obtain ⟨⟨dx0, h4⟩, -⟩ := id hlast
    walk_at "go"
    exact ⟨_, _, _, _, _, hlast, fun _ => err_to T.ex_RingError (q0 _ (.refl _)), fun h1 h2 => absurd h2 (by decide)⟩)
  clear gr nf L
  walk_at "go"
  refine ⟨wd.chg.tabs ht, fun f18 G18x gr nf L => ?_⟩
  have wd := wd.idle (Chg.ofGrows gr)
  have bl := bl.mono (Chg.ofGrows gr)
  have bl := bl.snoc (v := .ref f18) (by
    refine ⟨_, _, rfl, L, fun G9 c9 Q0 q0 y4 y5 y6 y7 y8 y9 y10 => ?_⟩
    have wG := wd.idle c9
    have hring := (wG.get (F := [p1, l1]) (P := fun H => RingAt T.C_Ring H p1 l1 [.int 2, .int 1] 4 ∧ ∃ dx, H p1 = some (.ins T.C_Ring dx (fsR l1 0 2))) (by simp [Ring0Is])).1
    have hfull := wG.get (F := [p2, l2]) (P := fun H => RingAt T.C_Ring H p2 l2 (intsV 256) cap2) (by simp)
    have hlast := wG.get (F := [q, p3, l3]) (P := fun H => LastAt T H q p3 l3 [.str "b", .str "c"] 2 3) (by simp)
    clear wd bl
    walk_at "go"
    rename_i pn dxn Hn nn
    refine ⟨⟨_, nn.at⟩, fun a b H8 c8 f8 g8 r8 => ⟨rfl, ?_⟩⟩
    have fpn : G9 pn = none := by walk_at "fr"
    have c9 : Chg T.tabs nil G9 H8 := .ch c8 (.mkd nn (.refl _)) (by walk_at "sub")
    obtain ⟨⟨dx0, h4⟩, -⟩ := id r8
    walk_at "go"
    exact ⟨_, _, _, _, _, r8, fun _ _ H9 d9 => err_to T.ex_RingError (q0 _ (.ch d9 c9 (fun _ z => z.elim))), (fun o x e => by simp at e), (fun x xs _ e => nomatch e)⟩)
  clear gr nf L
  walk_at "go"
  refine ⟨wd.chg.tabs ht, fun f19 G19x gr nf L => ?_⟩
  have wd := wd.idle (Chg.ofGrows gr)
  have bl := bl.mono (Chg.ofGrows gr)
  have bl := bl.snoc (v := .ref f19) (by
    refine ⟨_, _, rfl, L, fun G9 c9 Q0 q0 y4 y5 y6 y7 y8 y9 y10 => ?_⟩
    have wG := wd.idle c9
    have hring := (wG.get (F := [p1, l1]) (P := fun H => RingAt T.C_Ring H p1 l1 [.int 2, .int 1] 4 ∧ ∃ dx, H p1 = some (.ins T.C_Ring dx (fsR l1 0 2))) (by simp [Ring0Is])).1
    have hfull := wG.get (F := [p2, l2]) (P := fun H => RingAt T.C_Ring H p2 l2 (intsV 256) cap2) (by simp)
    have hlast := wG.get (F := [q, p3, l3]) (P := fun H => LastAt T H q p3 l3 [.str "b", .str "c"] 2 3) (by simp)
    clear wd bl
    walk_at "go"
    rename_i pn dxn Hn nn
    refine ⟨⟨_, nn.at⟩, fun a b H8 c8 f8 g8 r8 => ⟨rfl, ?_⟩⟩
    have fpn : G9 pn = none := by walk_at "fr"
    have c9 : Chg T.tabs nil G9 H8 := .ch c8 (.mkd nn (.refl _)) (by walk_at "sub")
    obtain ⟨⟨dx0, h4⟩, -⟩ := id r8
    walk_at "go"
    exact ⟨_, _, _, _, _, r8, c9.tabs (wG.chg.tabs ht), fun _ _ H9 d9 => err_to T.ex_RingError (q0 _ (.ch d9 c9 (fun _ z => z.elim))), fun v H9 d9 hm => nomatch hm⟩)
  clear gr nf L
  have hb := wd.hd
  walk_at "go"
  rename_i qn Hn nn bd3 Hm nm
  have wd : Wd T.tabs nil H Hm (LstIs bd3 [.ref f1, .ref f2, .ref f3, .ref f4, .ref f5, .ref f6, .ref f7, .ref f8, .ref f9, .ref f10, .ref f11, .ref f12, .ref f13, .ref f14, .ref f15, .ref f16, .ref f17, .ref f18, .ref f19] :: _) := (((wd.idle (nn.chg (T := T.tabs))).lst nm).to2).tail
  have bl : BadL _ T p1 p2 q [.ref f1, .ref f2, .ref f3, .ref f4, .ref f5, .ref f6, .ref f7, .ref f8, .ref f9, .ref f10, .ref f11, .ref f12, .ref f13, .ref f14, .ref f15, .ref f16, .ref f17, .ref f18, .ref f19] Hm := bl.mono (by walk_at "chg")
  clear hb nn nm
  walk_at "go"
  refine ⟨wd.chg.tabs ht, fun f20 G20x gr nf L => ?_⟩
  have wd := wd.idle (Chg.ofGrows gr)
  have bl := bl.mono (Chg.ofGrows gr)
  have bl := bl.snoc (v := .ref f20) (by
    refine ⟨_, _, rfl, L, fun G9 c9 Q0 q0 y4 y5 y6 y7 y8 y9 y10 => ?_⟩
    have wG := wd.idle c9
    have hring := (wG.get (F := [p1, l1]) (P := fun H => RingAt T.C_Ring H p1 l1 [.int 2, .int 1] 4 ∧ ∃ dx, H p1 = some (.ins T.C_Ring dx (fsR l1 0 2))) (by simp [Ring0Is])).1
    have hfull := wG.get (F := [p2, l2]) (P := fun H => RingAt T.C_Ring H p2 l2 (intsV 256) cap2) (by simp)
    have hlast := wG.get (F := [q, p3, l3]) (P := fun H => LastAt T H q p3 l3 [.str "b", .str "c"] 2 3) (by simp)
    clear wd bl
    walk_at "go"
    rename_i tn Hn nn
    have cn : Chg T.tabs nil G9 Hn := by walk_at "chg"
    exact ⟨[1], .ofT nn.at, by decide, cn.tabs (wG.chg.tabs ht), fun _ H9 d9 => err_to T.ex_RingError (q0 _ (.ch d9 cn (fun _ z => z.elim))), fun h1 h2 => absurd h1 (by decide)⟩)
  clear gr nf L
  walk_at "go"
  refine ⟨wd.chg.tabs ht, fun f21 G21x gr nf L => ?_⟩
  have wd := wd.idle (Chg.ofGrows gr)
  have bl := bl.mono (Chg.ofGrows gr)
  have bl := bl.snoc (v := .ref f21) (by
    refine ⟨_, _, rfl, L, fun G9 c9 Q0 q0 y4 y5 y6 y7 y8 y9 y10 => ?_⟩
    have wG := wd.idle c9
    have hring := (wG.get (F := [p1, l1]) (P := fun H => RingAt T.C_Ring H p1 l1 [.int 2, .int 1] 4 ∧ ∃ dx, H p1 = some (.ins T.C_Ring dx (fsR l1 0 2))) (by simp [Ring0Is])).1
    have hfull := wG.get (F := [p2, l2]) (P := fun H => RingAt T.C_Ring H p2 l2 (intsV 256) cap2) (by simp)
    have hlast := wG.get (F := [q, p3, l3]) (P := fun H => LastAt T H q p3 l3 [.str "b", .str "c"] 2 3) (by simp)
    clear wd bl
    walk_at "go"
    rename_i tn Hn nn
    have cn : Chg T.tabs nil G9 Hn := by walk_at "chg"
    exact ⟨[1], .ofT nn.at, by decide, cn.tabs (wG.chg.tabs ht), fun _ H9 d9 => err_to T.ex_RingError (q0 _ (.ch d9 cn (fun _ z => z.elim))), fun h1 h2 => absurd h2 (by decide)⟩)
  clear gr nf L
  walk_at "go"
  refine ⟨wd.chg.tabs ht, fun f22 G22x gr nf L => ?_⟩
  have wd := wd.idle (Chg.ofGrows gr)
  have bl := bl.mono (Chg.ofGrows gr)
  have bl := bl.snoc (v := .ref f22) (by
    refine ⟨_, _, rfl, L, fun G9 c9 Q0 q0 y4 y5 y6 y7 y8 y9 y10 => ?_⟩
    have wG := wd.idle c9
    have hring := (wG.get (F := [p1, l1]) (P := fun H => RingAt T.C_Ring H p1 l1 [.int 2, .int 1] 4 ∧ ∃ dx, H p1 = some (.ins T.C_Ring dx (fsR l1 0 2))) (by simp [Ring0Is])).1
    have hfull := wG.get (F := [p2, l2]) (P := fun H => RingAt T.C_Ring H p2 l2 (intsV 256) cap2) (by simp)
    have hlast := wG.get (F := [q, p3, l3]) (P := fun H => LastAt T H q p3 l3 [.str "b", .str "c"] 2 3) (by simp)
    clear wd bl
    walk_at "go"
    exact ⟨fun _ H9 d9 => err_to T.ex_RingError (q0 _ d9), fun h1 h2 h3 => absurd h1 (by decide)⟩)
  clear gr nf L
  walk_at "go"
  refine ⟨wd.chg.tabs ht, fun f23 G23x gr nf L => ?_⟩
  have wd := wd.idle (Chg.ofGrows gr)
  have bl := bl.mono (Chg.ofGrows gr)
  have bl := bl.snoc (v := .ref f23) (by
    refine ⟨_, _, rfl, L, fun G9 c9 Q0 q0 y4 y5 y6 y7 y8 y9 y10 => ?_⟩
    have wG := wd.idle c9
    have hring := (wG.get (F := [p1, l1]) (P := fun H => RingAt T.C_Ring H p1 l1 [.int 2, .int 1] 4 ∧ ∃ dx, H p1 = some (.ins T.C_Ring dx (fsR l1 0 2))) (by simp [Ring0Is])).1
    have hfull := wG.get (F := [p2, l2]) (P := fun H => RingAt T.C_Ring H p2 l2 (intsV 256) cap2) (by simp)
    have hlast := wG.get (F := [q, p3, l3]) (P := fun H => LastAt T H q p3 l3 [.str "b", .str "c"] 2 3) (by simp)
    clear wd bl
    walk_at "go"
    exact ⟨fun _ H9 d9 => err_to T.ex_RingError (q0 _ d9), fun h1 h2 h3 => absurd h2 (by decide)⟩)
  clear gr nf L
  have hb := wd.hd
  walk_at "go"
  rename_i qn Hn nn bd4 Hm nm
  have wd : Wd T.tabs nil H Hm (LstIs bd4 [.ref f1, .ref f2, .ref f3, .ref f4, .ref f5, .ref f6, .ref f7, .ref f8, .ref f9, .ref f10, .ref f11, .ref f12, .ref f13, .ref f14, .ref f15, .ref f16, .ref f17, .ref f18, .ref f19, .ref f20, .ref f21, .ref f22, .ref f23] :: _) := (((wd.idle (nn.chg (T := T.tabs))).lst nm).to2).tail
  have bl : BadL _ T p1 p2 q [.ref f1, .ref f2, .ref f3, .ref f4, .ref f5, .ref f6, .ref f7, .ref f8, .ref f9, .ref f10, .ref f11, .ref f12, .ref f13, .ref f14, .ref f15, .ref f16, .ref f17, .ref f18, .ref f19, .ref f20, .ref f21, .ref f22, .ref f23] Hm := bl.mono (by walk_at "chg")
  clear hb nn nm
  walk_at "go"
  refine ⟨wd.chg.tabs ht, fun f24 G24x gr nf L => ?_⟩
  have wd := wd.idle (Chg.ofGrows gr)
  have bl := bl.mono (Chg.ofGrows gr)
  have bl := bl.snoc (v := .ref f24) (by
    refine ⟨_, _, rfl, L, fun G9 c9 Q0 q0 y4 y5 y6 y7 y8 y9 y10 => ?_⟩
    have wG := wd.idle c9
    have hring := (wG.get (F := [p1, l1]) (P := fun H => RingAt T.C_Ring H p1 l1 [.int 2, .int 1] 4 ∧ ∃ dx, H p1 = some (.ins T.C_Ring dx (fsR l1 0 2))) (by simp [Ring0Is])).1
    have hfull := wG.get (F := [p2, l2]) (P := fun H => RingAt T.C_Ring H p2 l2 (intsV 256) cap2) (by simp)
    have hlast := wG.get (F := [q, p3, l3]) (P := fun H => LastAt T H q p3 l3 [.str "b", .str "c"] 2 3) (by simp)
    clear wd bl
    walk_at "go"
    exact ⟨fun _ H9 d9 => err_to T.ex_RingError (q0 _ d9), fun h1 h2 h3 => absurd h3 (by decide)⟩)
  clear gr nf L
  have hb := wd.hd
  walk_at "go"
  rename_i qn Hn nn bd5 Hm nm
  have wd : Wd T.tabs nil H Hm (LstIs bd5 [.ref f1, .ref f2, .ref f3, .ref f4, .ref f5, .ref f6, .ref f7, .ref f8, .ref f9, .ref f10, .ref f11, .ref f12, .ref f13, .ref f14, .ref f15, .ref f16, .ref f17, .ref f18, .ref f19, .ref f20, .ref f21, .ref f22, .ref f23, .ref f24] :: _) := (((wd.idle (nn.chg (T := T.tabs))).lst nm).to2).tail
  have bl : BadL _ T p1 p2 q [.ref f1, .ref f2, .ref f3, .ref f4, .ref f5, .ref f6, .ref f7, .ref f8, .ref f9, .ref f10, .ref f11, .ref f12, .ref f13, .ref f14, .ref f15, .ref f16, .ref f17, .ref f18, .ref f19, .ref f20, .ref f21, .ref f22, .ref f23, .ref f24] Hm := bl.mono (by walk_at "chg")
  clear hb nn nm
  walk_at "go"
  exact R9 _ _ _ ⟨ht, hQ, p1, l1, p2, l2, q, p3, l3, u, a, b, cap2, x5, x6, x7, o, t3, t4, t6, t7, t9, t10, bd5, _, rfl, bl, by simp, wd⟩
end
end Z


set_option Elab.async false
set_option linter.all false
set_option maxRecDepth 100000
set_option maxHeartbeats 4000000
set_option pp.maxSteps 1500
namespace Z
open PySem PySem.Spec L2 LamX Y
local macro_rules | `(tactic| walk_at "lk") => `(tactic| first
  | assumption
  | exact Nw.at (by assumption)
  | exact Wr.at (by assumption)
  | exact Mkd.at (by assumption)
  | exact Nw.look (by assumption) (by walk_at "lk")
  | exact Mkd.look (by assumption) (by walk_at "lk")
  | exact Wr.look (by assumption) (by walk_at "lk") (by walk_at "ne")
  | exact Chg.look (by assumption) (by walk_at "lk") (by walk_at "nin") rfl
  | exact Tp.same (by assumption) _ _ (by walk_at "lk")
  | exact Grows.look (by assumption) (by walk_at "lk") rfl
  | fail)
local macro_rules | `(tactic| walk_at "ne") => `(tactic| first
  | assumption
  | exact Ne.symm (by assumption)
  | exact Nw.ne (by assumption) (by walk_at "lk")
  | exact Ne.symm (Nw.ne (by assumption) (by walk_at "lk"))
  | exact ne_fr (by assumption) (by walk_at "lk")
  | exact Ne.symm (ne_fr (by assumption) (by walk_at "lk"))
  | exact ne_fr (Mkd.nx (by assumption)) (by walk_at "lk")
  | exact Ne.symm (ne_fr (Mkd.nx (by assumption)) (by walk_at "lk"))
  | exact ne_kdn (by assumption) (by walk_at "lk") rfl
  | exact Ne.symm (ne_kdn (by assumption) (by walk_at "lk") rfl)
  | fail)
local macro_rules | `(tactic| walk_at "nin") => `(tactic| first
  | exact nin_nil
  | exact id
  | exact nin_cons (by walk_at "ne") (by walk_at "nin")
  | fail)
local macro_rules | `(tactic| walk_at "fr") => `(tactic| first
  | assumption
  | exact Nw.new (by assumption)
  | exact Mkd.nx (by assumption)
  | exact Nw.dom (by assumption) (by walk_at "fr")
  | exact Wr.dom (by assumption) (by walk_at "fr")
  | exact Mkd.dom (by assumption) (by walk_at "fr")
  | exact Chg.dom (by assumption) _ (by walk_at "fr")
  | exact Tp.dom (by assumption) _ (by walk_at "fr")
  | exact Grows.dom (by assumption) _ (by walk_at "fr")
  | fail)
local macro_rules | `(tactic| walk_at "mem") => `(tactic| first
  | assumption
  | exact List.mem_cons_self
  | (apply List.mem_cons_of_mem; walk_at "mem")
  | fail)
local macro_rules | `(tactic| walk_at "in") => `(tactic| first
  | assumption
  | (apply Or.inl; walk_at "mem")
  | (apply Or.inr; walk_at "fr")
  | fail)
local macro_rules | `(tactic| walk_at "sub") => `(tactic| first
  | exact sub_nil0
  | exact sub_nil
  | exact sub_cons (by walk_at "in") (by walk_at "sub")
  | fail)
local macro_rules | `(tactic| walk_at "chg") => `(tactic| first
  | assumption
  | exact Chg.refl _
  | exact Chg.nw (by assumption) (by walk_at "chg")
  | exact Chg.mkd (by assumption) (by walk_at "chg")
  | exact Chg.tp (by assumption) (by walk_at "chg")
  | exact Chg.gr (by assumption) (by walk_at "chg")
  | exact Chg.wr (by assumption) (by walk_at "chg") (by walk_at "in")
  | exact Chg.ch (by assumption) (by walk_at "chg") (by walk_at "sub")
  | fail)
local macro_rules | `(tactic| walk_at "sq") => `(tactic| first
  | assumption
  | exact SqL.of (by walk_at "lk")
  | exact Chg.seqL (by assumption) (by walk_at "sq") (by walk_at "nin")
  | exact SqL.nw (by assumption) (by walk_at "sq")
  | exact SqL.tp (by assumption) (by walk_at "sq")
  | exact SqL.mkd (by assumption) (by walk_at "sq")
  | exact SqL.wr (by assumption) (by walk_at "sq") (by walk_at "ne")
  | fail)
local macro_rules | `(tactic| walk_at "sqt") => `(tactic| first
  | assumption
  | exact SqT.of (by walk_at "lk")
  | exact Tp.sq (by assumption)
  | exact SqT.nw (by assumption) (by walk_at "sqt")
  | exact SqT.tp (by assumption) (by walk_at "sqt")
  | exact SqT.mkd (by assumption) (by walk_at "sqt")
  | exact SqT.chg (by assumption) (by walk_at "sqt") (by walk_at "nin")
  | fail)
local macro_rules | `(tactic| walk_at "seq") => `(tactic| first
  | assumption
  | exact .inl (by walk_at "sq")
  | exact .inr (by walk_at "sqt")
  | exact SqA.keepN (T := Env.tabs (by assumption)) (by assumption) (by walk_at "chg")
  | fail)
local macro_rules | `(tactic| walk_at "go") => `(tactic| repeat first
  | refine ⟨_, rfl, ?_⟩
  | refine ⟨_, _, _, _, rfl, And.intro (by walk_at "lk") (And.intro rfl ?_)⟩
  | refine ⟨_, _, _, rfl, And.intro (by walk_at "lk") (And.intro (by walk_at "side") ?_)⟩
  | refine ⟨_, _, And.intro rfl (And.intro rfl ?_)⟩
  | refine ⟨_, _, And.intro rfl (And.intro (by walk_at "lk") ?_)⟩
  | refine ⟨_, _, _, And.intro rfl (And.intro (by walk_at "lk") ?_)⟩
  | refine ⟨_, And.intro (by walk_at "lk") (And.intro (by walk_at "side") ?_)⟩
  | refine ⟨_, _, And.intro (by walk_at "lk") (And.intro (by walk_at "side") ?_)⟩
  | refine ⟨_, _, And.intro (by walk_at "seq") (And.intro rfl ?_)⟩
  | refine ⟨_, And.intro (by walk_at "seq") ?_⟩
  | refine ⟨_, And.intro (by walk_at "lk") (And.intro (by walk_at "side") (And.intro (by walk_at "side") (And.intro (by walk_at "side") ?_)))⟩
  | refine .inl ⟨_, _, And.intro (by walk_at "lk") (And.intro (by walk_at "lk") (And.intro (by walk_at "side") ?_))⟩
  | refine .inr ⟨_, _, And.intro (by walk_at "sqt") (And.intro (by walk_at "sqt") (And.intro (by walk_at "side") ?_))⟩
  | refine .inl ⟨_, And.intro (by walk_at "sq") ?_⟩
  | refine .inr ⟨_, And.intro (by walk_at "sqt") ?_⟩
  | refine ⟨_, _, _, _, rfl, rfl, And.intro (by walk_at "lk") (And.intro rfl ?_)⟩
  | refine fun H' (n : Wr _ _ _ H') => ?_
  | refine fun p H' (n : Nw _ p _ H') => ?_
  | refine fun r H' (n : Tp _ _ r _ H') => ?_
  | refine fun x dx H' (n : Mkd _ _ x dx H') => ?_
  | refine .inl ⟨_, _, rfl, And.intro (by walk_at "sq") (fun p H' (n : Nw _ p _ H') => ?_)⟩
  | refine .inr ⟨_, _, rfl, And.intro (by walk_at "sqt") (fun r H' (n : Tp _ _ r _ H') => ?_)⟩
  | refine ⟨_, _, rfl, And.intro (by walk_at "sq") (fun p H' (n : Nw _ p _ H') => ?_)⟩
  | refine .inl (And.intro ⟨_, by walk_at "sq"⟩ ?_)
  | refine .inr (And.intro ⟨_, by walk_at "sqt"⟩ ?_)
  | refine ⟨_, _, rfl, And.intro (by walk_at "sqt") (And.intro rfl ?_)⟩
  | refine ⟨_, _, And.intro rfl ?_⟩
  | refine ⟨_, _, _, And.intro rfl ?_⟩
  | refine And.intro rfl ?_
  | (refine ite_t ?_ ?_; exact rfl)
  | (refine ite_f ?_ ?_; exact rfl)
  | refine And.intro (by walk_at "side") ?_)
local macro_rules | `(tactic| walk_at "side") => `(tactic| first
  | exact (rfl : _ = _)
  | decide
  | exact lt1000 rfl
  | with_reducible assumption
  | exact ⟨by omega, by omega⟩
  | exact .inl ⟨by omega, by omega⟩
  | exact .inr ⟨by omega, by omega⟩
  | omega
  | (apply le_line; omega)
  | (apply lt_line; omega)
  | (apply le_line; simp <;> omega)
  | (apply lt_line; simp <;> omega)
  | fail)
local macro_rules | `(tactic| walk_at "if") => `(tactic| first
  | refine ite_nd ?_ ?_
  | refine ite_d ?_ ?_
  | refine ite_eqt ?_ ?_
  | fail)
local macro_rules | `(tactic| walk_at "roll") => `(tactic| first
  | (refine And.intro (show Dice _ _ from ⟨_, _, _, by walk_at "lk"⟩) (And.intro (by walk_at "side") (And.intro (by walk_at "side") (fun r H' r0 r1 ro => ?_))); obtain ⟨a', b', c', w⟩ := ro)
  | fail)
local macro_rules | `(tactic| walk_at "run") => `(tactic| (walk_at "go"; repeat (walk_at "roll"; walk_at "go")))
local macro_rules | `(tactic| walk_at "dp") => `(tactic| first
  | exact Dp.non
  | exact Dp.int _
  | exact Dp.str _
  | exact Dp.bl _
  | exact DpAll.nil
  | exact DpAll.cons (by walk_at "dp") (by walk_at "dp")
  | exact Dp.tup (by walk_at "sqt") (by walk_at "dp")
  | exact Dp.lst (by walk_at "sq") (by walk_at "dp")
  | fail)

section
variable {w : World} {K : PySem.W.Frag} {mg : Str → Option Value} {base : Heap}
theorem tl__law_plain_7 (T : Env w K mg base) {A : Around} {outer : List PySem.Env} {s : Shared} {H : Hp} {E : XK} (hr : Room 55 (A.deeper (PyProof.Rows.envOfC "_law_plain" (defScope s__law_plain) s.heap.objs.size T.f__law_plain (.ref T.c__law_plain)))) : ∃ t, PSs (cxOf (L2.CX prg w) prg w K mg base N__law_plain "_law_plain" (defScope s__law_plain) T.f__law_plain (.ref T.c__law_plain) A outer s H E) ((defBody s__law_plain).drop 7) t ∧ ∀ (D : Ends) (σ : L2.St) (G : Hp), pre__law_plain_7 T H D σ G → t D σ G := by
  obtain ⟨t9, P9, R9⟩ := tl__law_plain_8 T (outer := outer) (s := s) (H := H) (E := E) hr
  refine ⟨_, (pss_cons (ps_set (i := 7) sc__law_plain.nd rfl (Or.inl rfl) (pe_op (Y.op_addK (K := K) rfl) (pv 7) (Y.pe_ls (pa_cons (pe_call (ok_next_greater T) (hr.mono (by decide)) rfl T.mg_next_greater T.F_next_greater.kp T.b_next_greater .nil (Y.passD rfl rfl rfl rfl) (pa_cons (Y.pe_tu pa_nil) pa_nil)) pa_nil))))
  P9), ?_⟩
  intro D σ G h
  unfold pre__law_plain_7 at h
  obtain ⟨ht, hQ, p1, l1, p2, l2, q, p3, l3, u, a, b, cap2, x5, x6, x7, o, t3, t4, t6, t7, t9, rfl, wd⟩ := h
  walk_at "go"
  rename_i te H1 n1
  have wd := wd.tup n1
  refine ⟨[], .ofT n1.at, by decide, fun t10 ds G5 c5 f5 el hn g5 => ?_⟩
  obtain rfl : ds = [] := List.length_eq_zero_iff.mp el
  have wd := ((wd.idle c5).tail.tupAt g5).to2
  clear n1 c5 f5 el hn g5
  have ho := wd.hd
  walk_at "go"
  rename_i q1 G8 m8 o4 G9 m9
  have wd : Wd T.tabs nil H G9 (LstIs o4 _ :: _) := ((wd.idle (m8.chg (T := T.tabs))).lst m9).to2.tail
  clear m8 m9 ho
  walk_at "go"
  exact R9 _ _ _ ⟨ht, hQ, p1, l1, p2, l2, q, p3, l3, u, a, b, cap2, x5, x6, x7, o4, t3, t4, t6, t7, t9, t10, rfl, wd⟩
end
end Z


set_option Elab.async false
set_option linter.all false
set_option maxRecDepth 100000
set_option maxHeartbeats 4000000
set_option pp.maxSteps 1500
namespace Z
open PySem PySem.Spec L2 LamX Y
local macro_rules | `(tactic| walk_at "lk") => `(tactic| first
  | assumption
  | exact Nw.at (by assumption)
  | exact Wr.at (by assumption)
  | exact Mkd.at (by assumption)
  | exact Nw.look (by assumption) (by walk_at "lk")
  | exact Mkd.look (by assumption) (by walk_at "lk")
  | exact Wr.look (by assumption) (by walk_at "lk") (by walk_at "ne")
  | exact Chg.look (by assumption) (by walk_at "lk") (by walk_at "nin") rfl
  | exact Tp.same (by assumption) _ _ (by walk_at "lk")
  | exact Grows.look (by assumption) (by walk_at "lk") rfl
  | fail)
local macro_rules | `(tactic| walk_at "ne") => `(tactic| first
  | assumption
  | exact Ne.symm (by assumption)
  | exact Nw.ne (by assumption) (by walk_at "lk")
  | exact Ne.symm (Nw.ne (by assumption) (by walk_at "lk"))
  | exact ne_fr (by assumption) (by walk_at "lk")
  | exact Ne.symm (ne_fr (by assumption) (by walk_at "lk"))
  | exact ne_fr (Mkd.nx (by assumption)) (by walk_at "lk")
  | exact Ne.symm (ne_fr (Mkd.nx (by assumption)) (by walk_at "lk"))
  | exact ne_kdn (by assumption) (by walk_at "lk") rfl
  | exact Ne.symm (ne_kdn (by assumption) (by walk_at "lk") rfl)
  | fail)
local macro_rules | `(tactic| walk_at "nin") => `(tactic| first
  | exact nin_nil
  | exact id
  | exact nin_cons (by walk_at "ne") (by walk_at "nin")
  | fail)
local macro_rules | `(tactic| walk_at "fr") => `(tactic| first
  | assumption
  | exact Nw.new (by assumption)
  | exact Mkd.nx (by assumption)
  | exact Nw.dom (by assumption) (by walk_at "fr")
  | exact Wr.dom (by assumption) (by walk_at "fr")
  | exact Mkd.dom (by assumption) (by walk_at "fr")
  | exact Chg.dom (by assumption) _ (by walk_at "fr")
  | exact Tp.dom (by assumption) _ (by walk_at "fr")
  | exact Grows.dom (by assumption) _ (by walk_at "fr")
  | fail)
local macro_rules | `(tactic| walk_at "mem") => `(tactic| first
  | assumption
  | exact List.mem_cons_self
  | (apply List.mem_cons_of_mem; walk_at "mem")
  | fail)
local macro_rules | `(tactic| walk_at "in") => `(tactic| first
  | assumption
  | (apply Or.inl; walk_at "mem")
  | (apply Or.inr; walk_at "fr")
  | fail)
local macro_rules | `(tactic| walk_at "sub") => `(tactic| first
  | exact sub_nil0
  | exact sub_nil
  | exact sub_cons (by walk_at "in") (by walk_at "sub")
  | fail)
local macro_rules | `(tactic| walk_at "chg") => `(tactic| first
  | assumption
  | exact Chg.refl _
  | exact Chg.nw (by assumption) (by walk_at "chg")
  | exact Chg.mkd (by assumption) (by walk_at "chg")
  | exact Chg.tp (by assumption) (by walk_at "chg")
  | exact Chg.gr (by assumption) (by walk_at "chg")
  | exact Chg.wr (by assumption) (by walk_at "chg") (by walk_at "in")
  | exact Chg.ch (by assumption) (by walk_at "chg") (by walk_at "sub")
  | fail)
local macro_rules | `(tactic| walk_at "sq") => `(tactic| first
  | assumption
  | exact SqL.of (by walk_at "lk")
  | exact Chg.seqL (by assumption) (by walk_at "sq") (by walk_at "nin")
  | exact SqL.nw (by assumption) (by walk_at "sq")
  | exact SqL.tp (by assumption) (by walk_at "sq")
  | exact SqL.mkd (by assumption) (by walk_at "sq")
  | exact SqL.wr (by assumption) (by walk_at "sq") (by walk_at "ne")
  | fail)
local macro_rules | `(tactic| walk_at "sqt") => `(tactic| first
  | assumption
  | exact SqT.of (by walk_at "lk")
  | exact Tp.sq (by assumption)
  | exact SqT.nw (by assumption) (by walk_at "sqt")
  | exact SqT.tp (by assumption) (by walk_at "sqt")
  | exact SqT.mkd (by assumption) (by walk_at "sqt")
  | exact SqT.chg (by assumption) (by walk_at "sqt") (by walk_at "nin")
  | fail)
local macro_rules | `(tactic| walk_at "seq") => `(tactic| first
  | assumption
  | exact .inl (by walk_at "sq")
  | exact .inr (by walk_at "sqt")
  | exact SqA.keepN (T := Env.tabs (by assumption)) (by assumption) (by walk_at "chg")
  | fail)
local macro_rules | `(tactic| walk_at "go") => `(tactic| repeat first
  | refine ⟨_, rfl, ?_⟩
  | refine ⟨_, _, _, _, rfl, And.intro (by walk_at "lk") (And.intro rfl ?_)⟩
  | refine ⟨_, _, _, rfl, And.intro (by walk_at "lk") (And.intro (by walk_at "side") ?_)⟩
  | refine ⟨_, _, And.intro rfl (And.intro rfl ?_)⟩
  | refine ⟨_, _, And.intro rfl (And.intro (by walk_at "lk") ?_)⟩
  | refine ⟨_, _, _, And.intro rfl (And.intro (by walk_at "lk") ?_)⟩
  | refine ⟨_, And.intro (by walk_at "lk") (And.intro (by walk_at "side") ?_)⟩
  | refine ⟨_, _, And.intro (by walk_at "lk") (And.intro (by walk_at "side") ?_)⟩
  | refine ⟨_, _, And.intro (by walk_at "seq") (And.intro rfl ?_)⟩
  | refine ⟨_, And.intro (by walk_at "seq") ?_⟩
  | refine ⟨_, And.intro (by walk_at "lk") (And.intro (by walk_at "side") (And.intro (by walk_at "side") (And.intro (by walk_at "side") ?_)))⟩
  | refine .inl ⟨_, _, And.intro (by walk_at "lk") (And.intro (by walk_at "lk") (And.intro (by walk_at "side") ?_))⟩
  | refine .inr ⟨_, _, And.intro (by walk_at "sqt") (And.intro (by walk_at "sqt") (And.intro (by walk_at "side") ?_))⟩
  | refine .inl ⟨_, And.intro (by walk_at "sq") ?_⟩
  | refine .inr ⟨_, And.intro (by walk_at "sqt") ?_⟩
  | refine ⟨_, _, _, _, rfl, rfl, And.intro (by walk_at "lk") (And.intro rfl ?_)⟩
  | refine fun H' (n : Wr _ _ _ H') => ?_
  | refine fun p H' (n : Nw _ p _ H') => ?_
  | refine fun r H' (n : Tp _ _ r _ H') => ?_
  | refine fun x dx H' (n : Mkd _ _ x dx H') => ?_
  | refine .inl ⟨_, _, rfl, And.intro (by walk_at "sq") (fun p H' (n : Nw _ p _ H') => ?_)⟩
  | refine .inr ⟨_, _, rfl, And.intro (by walk_at "sqt") (fun r H' (n : Tp _ _ r _ H') => ?_)⟩
  | refine ⟨_, _, rfl, And.intro (by walk_at "sq") (fun p H' (n : Nw _ p _ H') => ?_)⟩
  | refine .inl (And.intro ⟨_, by walk_at "sq"⟩ ?_)
  | refine .inr (And.intro ⟨_, by walk_at "sqt"⟩ ?_)
  | refine ⟨_, _, rfl, And.intro (by walk_at "sqt") (And.intro rfl ?_)⟩
  | refine ⟨_, _, And.intro rfl ?_⟩
  | refine ⟨_, _, _, And.intro rfl ?_⟩
  | refine And.intro rfl ?_
  | (refine ite_t ?_ ?_; exact rfl)
  | (refine ite_f ?_ ?_; exact rfl)
  | refine And.intro (by walk_at "side") ?_)
local macro_rules | `(tactic| walk_at "side") => `(tactic| first
  | exact (rfl : _ = _)
  | decide
  | exact lt1000 rfl
  | with_reducible assumption
  | exact ⟨by omega, by omega⟩
  | exact .inl ⟨by omega, by omega⟩
  | exact .inr ⟨by omega, by omega⟩
  | omega
  | (apply le_line; omega)
  | (apply lt_line; omega)
  | (apply le_line; simp <;> omega)
  | (apply lt_line; simp <;> omega)
  | fail)
local macro_rules | `(tactic| walk_at "if") => `(tactic| first
  | refine ite_nd ?_ ?_
  | refine ite_d ?_ ?_
  | refine ite_eqt ?_ ?_
  | fail)
local macro_rules | `(tactic| walk_at "roll") => `(tactic| first
  | (refine And.intro (show Dice _ _ from ⟨_, _, _, by walk_at "lk"⟩) (And.intro (by walk_at "side") (And.intro (by walk_at "side") (fun r H' r0 r1 ro => ?_))); obtain ⟨a', b', c', w⟩ := ro)
  | fail)
local macro_rules | `(tactic| walk_at "run") => `(tactic| (walk_at "go"; repeat (walk_at "roll"; walk_at "go")))
local macro_rules | `(tactic| walk_at "dp") => `(tactic| first
  | exact Dp.non
  | exact Dp.int _
  | exact Dp.str _
  | exact Dp.bl _
  | exact DpAll.nil
  | exact DpAll.cons (by walk_at "dp") (by walk_at "dp")
  | exact Dp.tup (by walk_at "sqt") (by walk_at "dp")
  | exact Dp.lst (by walk_at "sq") (by walk_at "dp")
  | fail)

section
variable {w : World} {K : PySem.W.Frag} {mg : Str → Option Value} {base : Heap}



theorem tl__law_plain_4 (T : Env w K mg base) {A : Around} {outer : List PySem.Env} {s : Shared} {H : Hp} {E : XK} (hr : Room 55 (A.deeper (PyProof.Rows.envOfC "_law_plain" (defScope s__law_plain) s.heap.objs.size T.f__law_plain (.ref T.c__law_plain)))) : ∃ t, PSs (cxOf (L2.CX prg w) prg w K mg base N__law_plain "_law_plain" (defScope s__law_plain) T.f__law_plain (.ref T.c__law_plain) A outer s H E) ((defBody s__law_plain).drop 4) t ∧ ∀ (D : Ends) (σ : L2.St) (G : Hp), pre__law_plain_4 T H D σ G → t D σ G := by
  obtain ⟨t9, P9, R9⟩ := tl__law_plain_7 T (outer := outer) (s := s) (H := H) (E := E) hr
  refine ⟨_, (pss_cons (ps_set (i := 7) sc__law_plain.nd rfl (Or.inl rfl) (Y.pe_ls (pa_cons (pe_meth (pv 0) T.cl_Ring T.me_Ring_put_first (ok_Ring_put_first T) (hr.mono (by decide)) T.b_Ring_put_first .nil (Y.passD rfl rfl rfl rfl) (pa_cons pe_int pa_nil)) (pa_cons (pe_meth0 (pv 0) T.cl_Ring T.me_Ring_all_items (ok_Ring_all_items T) (hr.mono (by decide)) T.b_Ring_all_items .nil (Y.passD rfl rfl rfl rfl)) (pa_cons (pe_meth0 (pv 0) T.cl_Ring T.me_Ring_take_first (ok_Ring_take_first T) (hr.mono (by decide)) T.b_Ring_take_first .nil (Y.passD rfl rfl rfl rfl)) (pa_cons (pe_meth0 (pv 0) T.cl_Ring T.me_Ring_take_last (ok_Ring_take_last T) (hr.mono (by decide)) T.b_Ring_take_last .nil (Y.passD rfl rfl rfl rfl)) (pa_cons (pe_meth (pv 0) T.cl_Ring T.me_Ring_item_at (ok_Ring_item_at T) (hr.mono (by decide)) T.b_Ring_item_at .nil (Y.passD rfl rfl rfl rfl) (pa_cons (pe_un un_neg pe_int) pa_nil)) (pa_cons (pe_meth (pv 0) T.cl_Ring T.me_Ring_turn_by (ok_Ring_turn_by T) (hr.mono (by decide)) T.b_Ring_turn_by .nil (Y.passD rfl rfl rfl rfl) (pa_cons pe_int pa_nil)) (pa_cons (pe_meth0 (pv 0) T.cl_Ring T.me_Ring_all_items (ok_Ring_all_items T) (hr.mono (by decide)) T.b_Ring_all_items .nil (Y.passD rfl rfl rfl rfl)) pa_nil)))))))))
  (pss_cons (ps_set (i := 7) sc__law_plain.nd rfl (Or.inl rfl) (pe_op (Y.op_addK (K := K) rfl) (pv 7) (Y.pe_ls (pa_cons (pe_meth0 (pv 0) T.cl_Ring T.me_Ring_room_left (ok_Ring_room_left T) (hr.mono (by decide)) T.b_Ring_room_left .nil (Y.passD rfl rfl rfl rfl)) (pa_cons (pe_meth (pv 2) T.cl_Last T.me_Last_put (ok_Last_put T) (hr.mono (by decide)) T.b_Last_put .nil (Y.passD rfl rfl rfl rfl) (pa_cons pe_str pa_nil)) (pa_cons (pe_meth (pv 2) T.cl_Last T.me_Last_put (ok_Last_put T) (hr.mono (by decide)) T.b_Last_put .nil (Y.passD rfl rfl rfl rfl) (pa_cons pe_str pa_nil)) (pa_cons (pe_meth (pv 2) T.cl_Last T.me_Last_put (ok_Last_put T) (hr.mono (by decide)) T.b_Last_put .nil (Y.passD rfl rfl rfl rfl) (pa_cons pe_str pa_nil)) (pa_cons (pe_meth (pv 2) T.cl_Last T.me_Last_item_from (ok_Last_item_from T) (hr.mono (by decide)) T.b_Last_item_from .nil (Y.passD rfl rfl rfl rfl) (pa_cons pe_int pa_nil)) (pa_cons (pe_meth0 (pv 3) T.cl_Queue T.me_Queue_least_value (ok_Queue_least_value T) (hr.mono (by decide)) T.b_Queue_least_value .nil (Y.passD rfl rfl rfl rfl)) (pa_cons (pe_meth0 (pv 3) T.cl_Queue T.me_Queue_take_value (ok_Queue_take_value T) (hr.mono (by decide)) T.b_Queue_take_value .nil (Y.passD rfl rfl rfl rfl)) (pa_cons (pe_meth0 (pv 3) T.cl_Queue T.me_Queue_value_count (ok_Queue_value_count T) (hr.mono (by decide)) T.b_Queue_value_count .nil (Y.passD rfl rfl rfl rfl)) pa_nil)))))))))))
  (pss_cons (ps_set (i := 7) sc__law_plain.nd rfl (Or.inl rfl) (pe_op (Y.op_addK (K := K) rfl) (pv 7) (Y.pe_ls (pa_cons (Y.pe_f T.cl_Queue T.na_Queue_poured (pv 3)) (pa_cons (pe_call (ok_least_windows T) (hr.mono (by decide)) rfl T.mg_least_windows T.F_least_windows.kp T.b_least_windows .nil (Y.passD rfl rfl rfl rfl) (pa_cons (Y.pe_tu (pa_cons pe_int (pa_cons pe_int (pa_cons pe_int (pa_cons pe_int pa_nil))))) (pa_cons pe_int pa_nil))) (pa_cons (pe_call (ok_last_of_ring T) (hr.mono (by decide)) rfl T.mg_last_of_ring T.F_last_of_ring.kp T.b_last_of_ring .nil (Y.passD rfl rfl rfl rfl) (pa_cons pe_int (pa_cons pe_int pa_nil))) (pa_cons (pe_call (ok_next_greater T) (hr.mono (by decide)) rfl T.mg_next_greater T.F_next_greater.kp T.b_next_greater .nil (Y.passD rfl rfl rfl rfl) (pa_cons (Y.pe_tu (pa_cons pe_int (pa_cons pe_int (pa_cons pe_int pa_nil)))) pa_nil)) (pa_cons (pe_meth (pv 0) T.cl_Ring T.me_Ring_spot_of (ok_Ring_spot_of T) (hr.mono (by decide)) T.b_Ring_spot_of .nil (Y.passD rfl rfl rfl rfl) (pa_cons pe_int pa_nil)) (pa_cons (pe_meth0 (pv 0) T.cl_Ring T.me_Ring_check_some (ok_Ring_check_some T) (hr.mono (by decide)) T.b_Ring_check_some .nil (Y.passD rfl rfl rfl rfl)) pa_nil)))))))))
  P9))), ?_⟩
  intro D σ G h
  unfold pre__law_plain_4 at h
  obtain ⟨ht, hQ, p1, l1, p2, l2, q, p3, l3, u, a, b, cap2, x5, x6, x7, rfl, wd⟩ := h
  obtain ⟨dx0, st0, pl0, ⟨h4, h5⟩, hh⟩ := wd.hd
  walk_at "go"
  refine ⟨_, _, _, wd.hd, wd.chg.tabs ht, fun z => (by simp at z), fun _ _ l4 G4 c4 e4 r4 => ?_⟩
  have wd := op_ring wd c4 e4 (cap' := 4) (own' := [.int 0, .int 1, .int 2, .int 3]) r4
  clear h4 h5 hh c4 e4 r4
  obtain ⟨dx0, st0, pl0, ⟨h4, h5⟩, hh⟩ := wd.hd
  walk_at "go"
  refine ⟨_, _, _, wd.hd, wd.chg.tabs ht, fun t3 G5 c5 f5 g5 => ?_⟩
  have wd := ((wd.idle c5).tupAt g5).to2
  clear h4 h5 hh c5 f5 g5
  obtain ⟨dx0, st0, pl0, ⟨h4, h5⟩, hh⟩ := wd.hd
  walk_at "go"
  refine ⟨_, _, _, wd.hd, (fun z => nomatch z), fun v own' e1 G6 c6 r6 => ?_⟩
  cases e1
  have wd := op_ring wd c6 (.inl rfl) (own' := [.int 1, .int 2, .int 3]) r6
  clear h4 h5 hh c6 r6
  obtain ⟨dx0, st0, pl0, ⟨h4, h5⟩, hh⟩ := wd.hd
  walk_at "go"
  refine ⟨_, _, _, wd.hd, (fun z => nomatch z), fun v own' e1 G6 c6 r6 => ?_⟩
  cases e1
  have wd := op_ring wd c6 (.inl rfl) (own' := [.int 1, .int 2]) r6
  clear h4 h5 hh c6 r6
  obtain ⟨dx0, st0, pl0, ⟨h4, h5⟩, hh⟩ := wd.hd
  walk_at "go"
  have e5 : atI [V.int 1, V.int 2] (-1) = some (.int 2) := rfl
  refine ⟨_, _, _, wd.hd, fun z => (by rw [e5] at z; exact nomatch z), fun v e6 => ?_⟩
  rw [e5] at e6; cases e6
  clear h4 h5 hh e5
  obtain ⟨dx0, st0, pl0, ⟨h4, h5⟩, hh⟩ := wd.hd
  walk_at "go"
  refine ⟨_, _, _, wd.hd, wd.chg.tabs ht, (fun z => nomatch z), fun _ l5 G7 c7 e7 r7 r8 => ?_⟩
  have wd := op_ring0 wd c7 (.inr e7) (own' := [.int 2, .int 1]) r7 r8
  clear h4 h5 hh c7 e7 r7 r8
  obtain ⟨dx0, st0, pl0, ⟨h4, h5⟩, hh⟩ := wd.hd.1
  walk_at "go"
  refine ⟨_, _, _, wd.hd.1, wd.chg.tabs ht, fun t4 G5 c5 f5 g5 => ?_⟩
  have wd := ((wd.idle c5).tupAt g5).to2
  clear h4 h5 hh c5 f5 g5
  walk_at "go"
  rename_i o1 G8 m8
  have wd := wd.lst m8
  clear m8
  have wd : Wd T.tabs nil H G8 (LstIs o1 [.non, .ref t3, .int 0, .int 3, .int 2, .non, .ref t4] :: _) := wd
  have wd := wd.to2
  obtain ⟨dx0, st0, pl0, ⟨h4, h5⟩, hh⟩ := wd.hd.1
  walk_at "go"
  refine ⟨_, _, _, wd.hd.1, ?_⟩
  clear h4 h5 hh 
  have wd := wd.to7
  obtain ⟨⟨dx0, h4⟩, -⟩ := wd.hd
  walk_at "go"
  refine ⟨_, _, _, _, _, wd.hd, wd.chg.tabs ht, (fun z => nomatch z), fun _ l6 G4 c4 e4 r4 => ?_⟩
  have wd := op_last wd c4 e4 (own' := [.str "a"]) (cap' := 1) r4
  clear h4 c4 e4 r4
  obtain ⟨⟨dx0, h4⟩, -⟩ := wd.hd
  walk_at "go"
  refine ⟨_, _, _, _, _, wd.hd, wd.chg.tabs ht, (fun z => nomatch z), fun _ l7 G4 c4 e4 r4 => ?_⟩
  have wd := op_last wd c4 e4 (own' := [.str "a", .str "b"]) (cap' := 2) r4
  clear h4 c4 e4 r4
  obtain ⟨⟨dx0, h4⟩, -⟩ := wd.hd
  walk_at "go"
  refine ⟨_, _, _, _, _, wd.hd, wd.chg.tabs ht, (fun z => nomatch z), fun _ l8 G4 c4 e4 r4 => ?_⟩
  have wd := op_last wd c4 e4 (own' := [.str "b", .str "c"]) (cap' := 3) r4
  clear h4 c4 e4 r4
  obtain ⟨⟨dx0, h4⟩, -⟩ := wd.hd
  walk_at "go"
  refine ⟨_, _, _, _, _, wd.hd, fun z => (z ⟨by decide, by decide⟩).elim, fun _ _ v e6 => ?_⟩
  obtain rfl : V.str "c" = v := Option.some.inj (show some (V.str "c") = some v from e6)
  clear h4
  have wd := wd.to6
  obtain ⟨⟨dx0, h4⟩, -⟩ := wd.hd
  walk_at "go"
  refine ⟨_, _, _, _, _, wd.hd, wd.chg.tabs ht, (fun z => nomatch z), fun v G5 c5 hm hle => ?_⟩
  obtain rfl : v = 1 := by have h1 := hle 1 (by simp); simp at hm; omega
  have wd := wd.idle c5
  clear h4 c5 hm hle
  obtain ⟨⟨dx0, h4⟩, -⟩ := wd.hd
  walk_at "go"
  refine ⟨_, _, _, _, _, wd.hd, (fun z => nomatch z), fun o x e => (by simp at e), fun x xs _ e a2 G5 c5 f5 r5 => ?_⟩
  cases e
  have wd := op_queue wd (c5.mono fun x h => .inl (by simp [Y.In] at h ⊢; rcases h with h | h <;> simp [h])) (.inr f5) (outs' := [2, 1]) (m' := 1) r5
  clear h4 c5 f5 r5
  obtain ⟨⟨dx0, h4⟩, -⟩ := wd.hd
  walk_at "go"
  refine ⟨_, _, _, _, _, wd.hd, ?_⟩
  clear h4
  have ho := wd.get (F := [o1]) (P := fun H => H o1 = some (.lst [.non, .ref t3, .int 0, .int 3, .int 2, .non, .ref t4])) (by simp)
  walk_at "go"
  clear ho
  rename_i q1 G8 m8 o2 G9 m9
  have wd : Wd T.tabs nil H G9 (LstIs o2 [.non, .ref t3, .int 0, .int 3, .int 2, .non, .ref t4, .int 2, .non, .non, .str "a", .str "c", .int 1, .int 3, .int 2] :: _) := (wd.idle (m8.chg (T := T.tabs))).lst m9
  clear m8 m9
  have wd := wd.to5
  have wd := wd.tail
  have wd := wd.to2
  obtain ⟨⟨dx0, h4⟩, -⟩ := wd.hd
  walk_at "go"
  rename_i t5 G10 m10
  have wd := wd.tup m10
  have ht5 := m10.at
  clear h4 m10
  refine ⟨[3, 1, 2, 5], .ofT ht5, by decide, wd.chg.tabs ht, fun z => (z ⟨by decide, by decide⟩).elim, fun _ _ t6 ws G5 c5 f5 wm g5 => ?_⟩
  obtain rfl : ws = [1, 1, 2] := wm.uniq win_fact
  have wd := (wd.idle c5).tupAt g5
  clear ht5 c5 f5 wm g5
  walk_at "go"
  refine fun _ _ _ t7 G5 c5 f5 g5 => ?_
  rw [jos_fact] at g5
  have wd := (wd.idle c5).tupAt g5
  clear c5 f5 g5
  walk_at "go"
  rename_i t8 G10 m10
  have wd := wd.tup m10
  have ht5 := m10.at
  clear m10
  refine ⟨[2, 1, 3], .ofT ht5, by decide, fun t9 ds G5 c5 f5 el hn g5 => ?_⟩
  obtain rfl : ds = [2, 1, 0] := next_uniq el hn (es := [2, 1, 0]) rfl next_fact
  have wd := (wd.idle c5).tupAt g5
  clear ht5 c5 f5 el hn g5
  have wd := wd.to9
  obtain ⟨⟨dx0, st0, pl0, ⟨h4, h5⟩, hh⟩, ⟨dx1, h6⟩⟩ := wd.hd
  walk_at "go"
  have hst : st0 = 0 := by rw [h4] at h6; simp [fsR] at h6; exact h6.2
  subst hst
  refine ⟨_, _, _, _, _, ⟨h4, h5⟩, by have := hh.1.pos; omega, ?_⟩
  walk_at "go"
  refine ⟨_, _, _, _, _, ⟨h4, h5⟩, fun z => (by simp at z), fun _ => ?_⟩
  have hpl : ((0 : Int) + 0) % (pl0.length : Int) = 0 := by simp
  rw [hpl]
  clear hpl h6
  clear h4 h5 hh 
  have ho := wd.get (F := [o2]) (P := fun H => H o2 = some (.lst [.non, .ref t3, .int 0, .int 3, .int 2, .non, .ref t4, .int 2, .non, .non, .str "a", .str "c", .int 1, .int 3, .int 2])) (by simp)
  walk_at "go"
  clear ho
  rename_i q1 G8 m8 o3 G9 m9
  have wd : Wd T.tabs nil H G9 (LstIs o3 [.non, .ref t3, .int 0, .int 3, .int 2, .non, .ref t4, .int 2, .non, .non, .str "a", .str "c", .int 1, .int 3, .int 2, .int 1, .ref t6, .ref t7, .ref t9, .int 0, .non] :: _) := (wd.idle (m8.chg (T := T.tabs))).lst m9
  clear m8 m9
  have wd := wd.to9
  have wd := wd.tail
  have wd := wd.to7
  have wd := wd.tail
  have wd := wd.to4
  have wd := wd.tail
  have wd := wd.to7
  have wd := wd.to10
  have wd := wd.to8
  have wd := wd.to5
  have wd := wd.to6
  have wd := wd.to7
  have wd := wd.to8
  have wd := wd.to9
  have wd := wd.to10
  have wd := wd.to10
  exact R9 _ _ _ ⟨ht, hQ, p1, l5, p2, l2, q, p3, l8, u, a2, b, cap2, x5, x6, x7, o3, t3, t4, t6, t7, t9, rfl, wd⟩
end
end Z


set_option Elab.async false
set_option linter.all false
set_option maxRecDepth 100000
set_option maxHeartbeats 4000000
set_option pp.maxSteps 1500
namespace Z
open PySem PySem.Spec L2 LamX Y
local macro_rules | `(tactic| walk_at "lk") => `(tactic| first
  | assumption
  | exact Nw.at (by assumption)
  | exact Wr.at (by assumption)
  | exact Mkd.at (by assumption)
  | exact Nw.look (by assumption) (by walk_at "lk")
  | exact Mkd.look (by assumption) (by walk_at "lk")
  | exact Wr.look (by assumption) (by walk_at "lk") (by walk_at "ne")
  | exact Chg.look (by assumption) (by walk_at "lk") (by walk_at "nin") rfl
  | exact Tp.same (by assumption) _ _ (by walk_at "lk")
  | exact Grows.look (by assumption) (by walk_at "lk") rfl
  | fail)
local macro_rules | `(tactic| walk_at "ne") => `(tactic| first
  | assumption
  | exact Ne.symm (by assumption)
  | exact Nw.ne (by assumption) (by walk_at "lk")
  | exact Ne.symm (Nw.ne (by assumption) (by walk_at "lk"))
  | exact ne_fr (by assumption) (by walk_at "lk")
  | exact Ne.symm (ne_fr (by assumption) (by walk_at "lk"))
  | exact ne_fr (Mkd.nx (by assumption)) (by walk_at "lk")
  | exact Ne.symm (ne_fr (Mkd.nx (by assumption)) (by walk_at "lk"))
  | exact ne_kdn (by assumption) (by walk_at "lk") rfl
  | exact Ne.symm (ne_kdn (by assumption) (by walk_at "lk") rfl)
  | fail)
local macro_rules | `(tactic| walk_at "nin") => `(tactic| first
  | exact nin_nil
  | exact id
  | exact nin_cons (by walk_at "ne") (by walk_at "nin")
  | fail)
local macro_rules | `(tactic| walk_at "fr") => `(tactic| first
  | assumption
  | exact Nw.new (by assumption)
  | exact Mkd.nx (by assumption)
  | exact Nw.dom (by assumption) (by walk_at "fr")
  | exact Wr.dom (by assumption) (by walk_at "fr")
  | exact Mkd.dom (by assumption) (by walk_at "fr")
  | exact Chg.dom (by assumption) _ (by walk_at "fr")
  | exact Tp.dom (by assumption) _ (by walk_at "fr")
  | exact Grows.dom (by assumption) _ (by walk_at "fr")
  | fail)
local macro_rules | `(tactic| walk_at "mem") => `(tactic| first
  | assumption
  | exact List.mem_cons_self
  | (apply List.mem_cons_of_mem; walk_at "mem")
  | fail)
local macro_rules | `(tactic| walk_at "in") => `(tactic| first
  | assumption
  | (apply Or.inl; walk_at "mem")
  | (apply Or.inr; walk_at "fr")
  | fail)
local macro_rules | `(tactic| walk_at "sub") => `(tactic| first
  | exact sub_nil0
  | exact sub_nil
  | exact sub_cons (by walk_at "in") (by walk_at "sub")
  | fail)
local macro_rules | `(tactic| walk_at "chg") => `(tactic| first
  | assumption
  | exact Chg.refl _
  | exact Chg.nw (by assumption) (by walk_at "chg")
  | exact Chg.mkd (by assumption) (by walk_at "chg")
  | exact Chg.tp (by assumption) (by walk_at "chg")
  | exact Chg.gr (by assumption) (by walk_at "chg")
  | exact Chg.wr (by assumption) (by walk_at "chg") (by walk_at "in")
  | exact Chg.ch (by assumption) (by walk_at "chg") (by walk_at "sub")
  | fail)
local macro_rules | `(tactic| walk_at "sq") => `(tactic| first
  | assumption
  | exact SqL.of (by walk_at "lk")
  | exact Chg.seqL (by assumption) (by walk_at "sq") (by walk_at "nin")
  | exact SqL.nw (by assumption) (by walk_at "sq")
  | exact SqL.tp (by assumption) (by walk_at "sq")
  | exact SqL.mkd (by assumption) (by walk_at "sq")
  | exact SqL.wr (by assumption) (by walk_at "sq") (by walk_at "ne")
  | fail)
local macro_rules | `(tactic| walk_at "sqt") => `(tactic| first
  | assumption
  | exact SqT.of (by walk_at "lk")
  | exact Tp.sq (by assumption)
  | exact SqT.nw (by assumption) (by walk_at "sqt")
  | exact SqT.tp (by assumption) (by walk_at "sqt")
  | exact SqT.mkd (by assumption) (by walk_at "sqt")
  | exact SqT.chg (by assumption) (by walk_at "sqt") (by walk_at "nin")
  | fail)
local macro_rules | `(tactic| walk_at "seq") => `(tactic| first
  | assumption
  | exact .inl (by walk_at "sq")
  | exact .inr (by walk_at "sqt")
  | exact SqA.keepN (T := Env.tabs (by assumption)) (by assumption) (by walk_at "chg")
  | fail)
local macro_rules | `(tactic| walk_at "go") => `(tactic| repeat first
  | refine ⟨_, rfl, ?_⟩
  | refine ⟨_, _, _, _, rfl, And.intro (by walk_at "lk") (And.intro rfl ?_)⟩
  | refine ⟨_, _, _, rfl, And.intro (by walk_at "lk") (And.intro (by walk_at "side") ?_)⟩
  | refine ⟨_, _, And.intro rfl (And.intro rfl ?_)⟩
  | refine ⟨_, _, And.intro rfl (And.intro (by walk_at "lk") ?_)⟩
  | refine ⟨_, _, _, And.intro rfl (And.intro (by walk_at "lk") ?_)⟩
  | refine ⟨_, And.intro (by walk_at "lk") (And.intro (by walk_at "side") ?_)⟩
  | refine ⟨_, _, And.intro (by walk_at "lk") (And.intro (by walk_at "side") ?_)⟩
  | refine ⟨_, _, And.intro (by walk_at "seq") (And.intro rfl ?_)⟩
  | refine ⟨_, And.intro (by walk_at "seq") ?_⟩
  | refine ⟨_, And.intro (by walk_at "lk") (And.intro (by walk_at "side") (And.intro (by walk_at "side") (And.intro (by walk_at "side") ?_)))⟩
  | refine .inl ⟨_, _, And.intro (by walk_at "lk") (And.intro (by walk_at "lk") (And.intro (by walk_at "side") ?_))⟩
  | refine .inr ⟨_, _, And.intro (by walk_at "sqt") (And.intro (by walk_at "sqt") (And.intro (by walk_at "side") ?_))⟩
  | refine .inl ⟨_, And.intro (by walk_at "sq") ?_⟩
  | refine .inr ⟨_, And.intro (by walk_at "sqt") ?_⟩
  | refine ⟨_, _, _, _, rfl, rfl, And.intro (by walk_at "lk") (And.intro rfl ?_)⟩
  | refine fun H' (n : Wr _ _ _ H') => ?_
  | refine fun p H' (n : Nw _ p _ H') => ?_
  | refine fun r H' (n : Tp _ _ r _ H') => ?_
  | refine fun x dx H' (n : Mkd _ _ x dx H') => ?_
  | refine .inl ⟨_, _, rfl, And.intro (by walk_at "sq") (fun p H' (n : Nw _ p _ H') => ?_)⟩
  | refine .inr ⟨_, _, rfl, And.intro (by walk_at "sqt") (fun r H' (n : Tp _ _ r _ H') => ?_)⟩
  | refine ⟨_, _, rfl, And.intro (by walk_at "sq") (fun p H' (n : Nw _ p _ H') => ?_)⟩
  | refine .inl (And.intro ⟨_, by walk_at "sq"⟩ ?_)
  | refine .inr (And.intro ⟨_, by walk_at "sqt"⟩ ?_)
  | refine ⟨_, _, rfl, And.intro (by walk_at "sqt") (And.intro rfl ?_)⟩
  | refine ⟨_, _, And.intro rfl ?_⟩
  | refine ⟨_, _, _, And.intro rfl ?_⟩
  | refine And.intro rfl ?_
  | (refine ite_t ?_ ?_; exact rfl)
  | (refine ite_f ?_ ?_; exact rfl)
  | refine And.intro (by walk_at "side") ?_)
local macro_rules | `(tactic| walk_at "side") => `(tactic| first
  | exact (rfl : _ = _)
  | decide
  | exact lt1000 rfl
  | with_reducible assumption
  | exact ⟨by omega, by omega⟩
  | exact .inl ⟨by omega, by omega⟩
  | exact .inr ⟨by omega, by omega⟩
  | omega
  | (apply le_line; omega)
  | (apply lt_line; omega)
  | (apply le_line; simp <;> omega)
  | (apply lt_line; simp <;> omega)
  | fail)
local macro_rules | `(tactic| walk_at "if") => `(tactic| first
  | refine ite_nd ?_ ?_
  | refine ite_d ?_ ?_
  | refine ite_eqt ?_ ?_
  | fail)
local macro_rules | `(tactic| walk_at "roll") => `(tactic| first
  | (refine And.intro (show Dice _ _ from ⟨_, _, _, by walk_at "lk"⟩) (And.intro (by walk_at "side") (And.intro (by walk_at "side") (fun r H' r0 r1 ro => ?_))); obtain ⟨a', b', c', w⟩ := ro)
  | fail)
local macro_rules | `(tactic| walk_at "run") => `(tactic| (walk_at "go"; repeat (walk_at "roll"; walk_at "go")))
local macro_rules | `(tactic| walk_at "dp") => `(tactic| first
  | exact Dp.non
  | exact Dp.int _
  | exact Dp.str _
  | exact Dp.bl _
  | exact DpAll.nil
  | exact DpAll.cons (by walk_at "dp") (by walk_at "dp")
  | exact Dp.tup (by walk_at "sqt") (by walk_at "dp")
  | exact Dp.lst (by walk_at "sq") (by walk_at "dp")
  | fail)

section
variable {w : World} {K : PySem.W.Frag} {mg : Str → Option Value} {base : Heap}

def sp__law_plain (T : Env w K mg base) : Sp := fun vs H Q _ => match vs with
  | [] => Tabs T.tabs H ∧ ∀ H', Chg T.tabs nil H H' → Q (.bl true) H'
  | _ => False
theorem ok__law_plain (T : Env w K mg base) : FnOk prg w K mg base (L2.CX prg w) 56 T.f__law_plain T.fd__law_plain [] (sp__law_plain T) := by
  refine T.F__law_plain.ok sc__law_plain (fun vs H Q E h => by unfold sp__law_plain at h; split at h <;> first | rfl | exact h.elim) fun A outer s H vs Q E hr h => ?_
  obtain ⟨t9, P9, R9⟩ := tl__law_plain_4 T (outer := outer) (s := s) (H := H) (E := E) hr
  refine ⟨_, (pss_cons (ps_asg (Y.pe_tu (pa_cons (Y.pe_mk T.mk_Ring (ok_Ring___init__ T) (hr.mono (by decide)) rfl T.mg_Ring T.b_Ring___init__ .nil (Y.passD rfl rfl rfl rfl) (pa_cons pe_int pa_nil)) (pa_cons (Y.pe_mk T.mk_Ring (ok_Ring___init__ T) (hr.mono (by decide)) rfl T.mg_Ring T.b_Ring___init__ .nil (Y.passD rfl rfl rfl rfl) (pa_cons pe_int pa_nil)) (pa_cons (Y.pe_mk T.mk_Last (ok_Last___init__ T) (hr.mono (by decide)) rfl T.mg_Last T.b_Last___init__ .nil (Y.passD rfl rfl rfl rfl) (pa_cons pe_int pa_nil)) (pa_cons (Y.pe_mk0 T.mk_Queue (ok_Queue___init__ T) (hr.mono (by decide)) rfl T.mg_Queue T.b_Queue___init__ .nil (Y.passD rfl rfl rfl rfl)) pa_nil))))) (Y.pg_tupK (K := K) (n := 4) rfl rfl (pgs_cons (pg_name (i := 0) sc__law_plain.nd rfl (Or.inr rfl)) (pgs_cons (pg_name (i := 1) sc__law_plain.nd rfl (Or.inr rfl)) (pgs_cons (pg_name (i := 2) sc__law_plain.nd rfl (Or.inr rfl)) (pgs_cons (pg_name (i := 3) sc__law_plain.nd rfl (Or.inl rfl)) pgs_nil))))))
  (pss_cons (ps_for (passes_of rfl) rfl (pi_range1 rfl T.no_range (pa_cons pe_int pa_nil)) (pg_name (i := 4) sc__law_plain.nd rfl (Or.inl rfl)) (pss_one (ps_expr (pe_meth (pv 1) T.cl_Ring T.me_Ring_put_last (ok_Ring_put_last T) (hr.mono (by decide)) T.b_Ring_put_last .nil (Y.passD rfl rfl rfl rfl) (pa_cons (pv 4) pa_nil)))))
  (pss_cons (ps_for (passes_of rfl) rfl (Y.pi_seqK (K := K) rfl (Y.pe_tu (pa_cons pe_int (pa_cons pe_int (pa_cons pe_int pa_nil))))) (pg_name (i := 5) sc__law_plain.nd rfl (Or.inl rfl)) (pss_one (ps_expr (pe_meth (pv 0) T.cl_Ring T.me_Ring_put_last (ok_Ring_put_last T) (hr.mono (by decide)) T.b_Ring_put_last .nil (Y.passD rfl rfl rfl rfl) (pa_cons (pv 5) pa_nil)))))
  (pss_cons (ps_for (passes_of rfl) rfl (Y.pi_seqK (K := K) rfl (Y.pe_tu (pa_cons pe_int (pa_cons pe_int (pa_cons pe_int pa_nil))))) (pg_name (i := 6) sc__law_plain.nd rfl (Or.inl rfl)) (pss_one (ps_expr (pe_meth (pv 3) T.cl_Queue T.me_Queue_put (ok_Queue_put T) (hr.mono (by decide)) T.b_Queue_put .nil (Y.passD rfl rfl rfl rfl) (pa_cons (pv 6) pa_nil)))))
  P9)))), ?_⟩
  unfold sp__law_plain at h
  split at h
  next =>
    obtain ⟨ht, hQ⟩ := h
    have w0 : Wd T.tabs nil H H [] := wd0 (.refl _)
    walk_at "go"
    rename_i p1 dx1 H1 n1
    intro k1 k2 l1 H2 c2 f2 r2
    refine ⟨rfl, ?_⟩
    have w1 := mk_ring w0 n1 c2 f2 r2
    clear n1 c2 f2 r2 w0
    walk_at "go"
    rename_i p2 dx2 H3 n3
    intro k1 k2 l2 H4 c4 f4 r4
    refine ⟨rfl, ?_⟩
    have w2 := mk_ring w1 n3 c4 f4 r4
    clear n3 c4 f4 r4 w1
    walk_at "go"
    rename_i q dx3 H5 n5
    refine ⟨⟨_, n5.at⟩, fun z => (z ⟨by decide, by decide⟩).elim, fun _ _ p3 l3 H6 c6 f6 g6 r6 => ⟨rfl, ?_⟩⟩
    have w3 := mk_last w2 n5 c6 f6 g6 r6
    clear n5 c6 f6 g6 r6 w2
    walk_at "go"
    rename_i u dx4 H7 n7
    refine ⟨⟨_, n7.at⟩, fun a b H8 c8 f8 g8 r8 => ⟨rfl, ?_⟩⟩
    have w4 := mk_queue w3 n7 c8 f8 g8 r8
    clear n7 c8 f8 g8 r8 w3
    walk_at "go"
    rename_i t0 H9 n9
    have w5 := (w4.idle (n9.chg (T := T.tabs))).to3
    clear n9 w4
    refine for_range (fun i σ G => ∃ l2 cap x5, σ = [some (.ref p1), some (.ref p2), some (.ref q), some (.ref u), x5, none, none, none, none, none] ∧ Wd T.tabs nil H G (RingIs T p2 l2 (intsV i) cap :: [QueueIs T u a b [] [] 0, LastIs T q p3 l3 [] 2 0, RingIs T p1 l1 [] 2]))
      ⟨l2, _, _, rfl, by rw [show dbl 1 (Int.toNat 2) = 2 by decide +kernel] at w5; exact w5⟩ ?_ ?_
    · rintro i σ G hi ⟨l2, cap, x5, rfl, wd⟩
      have hi : i < 256 := hi
      obtain ⟨dx0, st0, pl0, ⟨h4, h5⟩, hh⟩ := wd.hd
      walk_at "go"
      refine ⟨_, _, _, wd.hd, wd.chg.tabs ht, fun z => ?_, fun _ _ l' G3 c4 e4 r2 => ?_⟩
      · rcases z with z | z
        · exact (nomatch z)
        · simp [intsV] at z; omega
      walk_at "go"
      have e : intsV (i + 1) = intsV i ++ [.int (0 + (i : Int))] := by simp [intsV, List.range_succ]
      exact ⟨l', _, _, rfl, op_ring wd c4 e4 (by rw [e]; exact r2)⟩
    · rintro σ G ⟨l2, cap, x5, rfl, wd⟩
      walk_at "go"
      rename_i t1 G1 m1
      have wd := ((wd.tup m1).to5)
      have ht1 := m1.at
      clear w5 m1
      generalize hcap : cap = cap2 at wd
      clear hcap
      refine for_tup (xs := [.int 1, .int 2, .int 3]) (fun i σ G => ∃ l1 x6, σ = [some (.ref p1), some (.ref p2), some (.ref q), some (.ref u), x5, x6, none, none, none, none] ∧ Wd T.tabs nil H G (RingIs T p1 l1 (match i with | 0 => [] | 1 => [.int 1] | 2 => [.int 1, .int 2] | _ => [.int 1, .int 2, .int 3]) (match i with | 0 => 2 | 1 => 2 | 2 => 2 | _ => 4) :: [TupIs t1 [.int 1, .int 2, .int 3], RingIs T p2 l2 (intsV 256) cap2, QueueIs T u a b [] [] 0, LastIs T q p3 l3 [] 2 0]))
        ⟨l1, _, rfl, wd⟩ ?_ ?_ ?_
      · rintro i σ G hi ⟨l1, x6, rfl, wd⟩
        exact .of wd.to2.hd
      · rintro i x σ G hx ⟨l1, x6, rfl, wd⟩
        match i, hx with
        | 0, hx =>
          cases hx
          have wd : Wd T.tabs nil H G (RingIs T p1 l1 [] 2 :: _) := wd
          obtain ⟨dx0, st0, pl0, ⟨h4, h5⟩, hh⟩ := wd.hd
          walk_at "go"
          refine ⟨_, _, _, wd.hd, wd.chg.tabs ht, fun z => (by simp at z), fun _ _ l' G3 c4 e4 r2 => ?_⟩
          walk_at "go"
          exact ⟨l', _, rfl, op_ring wd c4 e4 r2⟩
        | 1, hx =>
          cases hx
          have wd : Wd T.tabs nil H G (RingIs T p1 l1 [.int 1] 2 :: _) := wd
          obtain ⟨dx0, st0, pl0, ⟨h4, h5⟩, hh⟩ := wd.hd
          walk_at "go"
          refine ⟨_, _, _, wd.hd, wd.chg.tabs ht, fun z => (by simp at z), fun _ _ l' G3 c4 e4 r2 => ?_⟩
          walk_at "go"
          exact ⟨l', _, rfl, op_ring wd c4 e4 r2⟩
        | 2, hx =>
          cases hx
          have wd : Wd T.tabs nil H G (RingIs T p1 l1 [.int 1, .int 2] 2 :: _) := wd
          obtain ⟨dx0, st0, pl0, ⟨h4, h5⟩, hh⟩ := wd.hd
          walk_at "go"
          refine ⟨_, _, _, wd.hd, wd.chg.tabs ht, fun z => (by simp at z), fun _ _ l' G3 c4 e4 r2 => ?_⟩
          walk_at "go"
          exact ⟨l', _, rfl, op_ring wd c4 e4 r2⟩
      · rintro σ G ⟨l1, x6, rfl, wd⟩
        have wd : Wd T.tabs nil H G [RingIs T p1 l1 [.int 1, .int 2, .int 3] 4, TupIs t1 [.int 1, .int 2, .int 3], RingIs T p2 l2 (intsV 256) cap2, QueueIs T u a b [] [] 0, LastIs T q p3 l3 [] 2 0] := wd
        walk_at "go"
        rename_i t2 G2 m2
        have wd := (((wd.idle (m2.chg (T := T.tabs))).to2.tail.to3).tupAt m2.at).to2
        clear m2 ht1
        refine for_tup (xs := [.int 3, .int 1, .int 2]) (fun i σ G => ∃ x7, σ = [some (.ref p1), some (.ref p2), some (.ref q), some (.ref u), x5, x6, x7, none, none, none] ∧ Wd T.tabs nil H G (QueueIs T u a b (match i with | 0 => [] | 1 => [3] | 2 => [3, 1] | _ => [3, 1, 2]) [] 0 :: [TupIs t2 [.int 3, .int 1, .int 2], RingIs T p1 l1 [.int 1, .int 2, .int 3] 4, RingIs T p2 l2 (intsV 256) cap2, LastIs T q p3 l3 [] 2 0]))
          ⟨_, rfl, wd⟩ ?_ ?_ ?_
        · rintro i σ G hi ⟨x7, rfl, wd⟩
          exact .of wd.to2.hd
        · rintro i x σ G hx ⟨x7, rfl, wd⟩
          match i, hx with
        | 0, hx =>
            cases hx
            have wd : Wd T.tabs nil H G (QueueIs T u a b [] [] 0 :: _) := wd
            obtain ⟨⟨dx0, h4⟩, -⟩ := wd.hd
            walk_at "go"
            refine ⟨_, _, _, _, _, wd.hd, by decide, fun G3 c4 r2 => ?_⟩
            walk_at "go"
            exact op_queue wd (c4.mono fun x h => .inl (by simp [Y.In] at h ⊢; simp [h])) (.inl rfl) r2
          | 1, hx =>
            cases hx
            have wd : Wd T.tabs nil H G (QueueIs T u a b [3] [] 0 :: _) := wd
            obtain ⟨⟨dx0, h4⟩, -⟩ := wd.hd
            walk_at "go"
            refine ⟨_, _, _, _, _, wd.hd, by decide, fun G3 c4 r2 => ?_⟩
            walk_at "go"
            exact op_queue wd (c4.mono fun x h => .inl (by simp [Y.In] at h ⊢; simp [h])) (.inl rfl) r2
          | 2, hx =>
            cases hx
            have wd : Wd T.tabs nil H G (QueueIs T u a b [3, 1] [] 0 :: _) := wd
            obtain ⟨⟨dx0, h4⟩, -⟩ := wd.hd
            walk_at "go"
            refine ⟨_, _, _, _, _, wd.hd, by decide, fun G3 c4 r2 => ?_⟩
            walk_at "go"
            exact op_queue wd (c4.mono fun x h => .inl (by simp [Y.In] at h ⊢; simp [h])) (.inl rfl) r2
        · rintro σ G ⟨x7, rfl, wd⟩
          have wd : Wd T.tabs nil H G [QueueIs T u a b [3, 1, 2] [] 0, TupIs t2 [.int 3, .int 1, .int 2], RingIs T p1 l1 [.int 1, .int 2, .int 3] 4, RingIs T p2 l2 (intsV 256) cap2, LastIs T q p3 l3 [] 2 0] := wd
          have wd := wd.to2.tail.to2
          exact R9 _ _ _ ⟨ht, hQ, p1, l1, p2, l2, q, p3, l3, u, a, b, cap2, _, _, _, rfl, wd⟩
  next => exact h.elim
end
end Z


set_option Elab.async false
set_option linter.all false
set_option maxRecDepth 100000
set_option maxHeartbeats 4000000
set_option pp.maxSteps 1500
namespace Z
open PySem PySem.Spec L2 LamX Y
local macro_rules | `(tactic| walk_at "lk") => `(tactic| first
  | assumption
  | exact Nw.at (by assumption)
  | exact Wr.at (by assumption)
  | exact Mkd.at (by assumption)
  | exact Nw.look (by assumption) (by walk_at "lk")
  | exact Mkd.look (by assumption) (by walk_at "lk")
  | exact Wr.look (by assumption) (by walk_at "lk") (by walk_at "ne")
  | exact Chg.look (by assumption) (by walk_at "lk") (by walk_at "nin") rfl
  | exact Tp.same (by assumption) _ _ (by walk_at "lk")
  | exact Grows.look (by assumption) (by walk_at "lk") rfl
  | fail)
local macro_rules | `(tactic| walk_at "ne") => `(tactic| first
  | assumption
  | exact Ne.symm (by assumption)
  | exact Nw.ne (by assumption) (by walk_at "lk")
  | exact Ne.symm (Nw.ne (by assumption) (by walk_at "lk"))
  | exact ne_fr (by assumption) (by walk_at "lk")
  | exact Ne.symm (ne_fr (by assumption) (by walk_at "lk"))
  | exact ne_fr (Mkd.nx (by assumption)) (by walk_at "lk")
  | exact Ne.symm (ne_fr (Mkd.nx (by assumption)) (by walk_at "lk"))
  | exact ne_kdn (by assumption) (by walk_at "lk") rfl
  | exact Ne.symm (ne_kdn (by assumption) (by walk_at "lk") rfl)
  | fail)
local macro_rules | `(tactic| walk_at "nin") => `(tactic| first
  | exact nin_nil
  | exact id
  | exact nin_cons (by walk_at "ne") (by walk_at "nin")
  | fail)
local macro_rules | `(tactic| walk_at "fr") => `(tactic| first
  | assumption
  | exact Nw.new (by assumption)
  | exact Mkd.nx (by assumption)
  | exact Nw.dom (by assumption) (by walk_at "fr")
  | exact Wr.dom (by assumption) (by walk_at "fr")
  | exact Mkd.dom (by assumption) (by walk_at "fr")
  | exact Chg.dom (by assumption) _ (by walk_at "fr")
  | exact Tp.dom (by assumption) _ (by walk_at "fr")
  | exact Grows.dom (by assumption) _ (by walk_at "fr")
  | fail)
local macro_rules | `(tactic| walk_at "mem") => `(tactic| first
  | assumption
  | exact List.mem_cons_self
  | (apply List.mem_cons_of_mem; walk_at "mem")
  | fail)
local macro_rules | `(tactic| walk_at "in") => `(tactic| first
  | assumption
  | (apply Or.inl; walk_at "mem")
  | (apply Or.inr; walk_at "fr")
  | fail)
local macro_rules | `(tactic| walk_at "sub") => `(tactic| first
  | exact sub_nil0
  | exact sub_nil
  | exact sub_cons (by walk_at "in") (by walk_at "sub")
  | fail)
local macro_rules | `(tactic| walk_at "chg") => `(tactic| first
  | assumption
  | exact Chg.refl _
  | exact Chg.nw (by assumption) (by walk_at "chg")
  | exact Chg.mkd (by assumption) (by walk_at "chg")
  | exact Chg.tp (by assumption) (by walk_at "chg")
  | exact Chg.gr (by assumption) (by walk_at "chg")
  | exact Chg.wr (by assumption) (by walk_at "chg") (by walk_at "in")
  | exact Chg.ch (by assumption) (by walk_at "chg") (by walk_at "sub")
  | fail)
local macro_rules | `(tactic| walk_at "sq") => `(tactic| first
  | assumption
  | exact SqL.of (by walk_at "lk")
  | exact Chg.seqL (by assumption) (by walk_at "sq") (by walk_at "nin")
  | exact SqL.nw (by assumption) (by walk_at "sq")
  | exact SqL.tp (by assumption) (by walk_at "sq")
  | exact SqL.mkd (by assumption) (by walk_at "sq")
  | exact SqL.wr (by assumption) (by walk_at "sq") (by walk_at "ne")
  | fail)
local macro_rules | `(tactic| walk_at "sqt") => `(tactic| first
  | assumption
  | exact SqT.of (by walk_at "lk")
  | exact Tp.sq (by assumption)
  | exact SqT.nw (by assumption) (by walk_at "sqt")
  | exact SqT.tp (by assumption) (by walk_at "sqt")
  | exact SqT.mkd (by assumption) (by walk_at "sqt")
  | exact SqT.chg (by assumption) (by walk_at "sqt") (by walk_at "nin")
  | fail)
local macro_rules | `(tactic| walk_at "seq") => `(tactic| first
  | assumption
  | exact .inl (by walk_at "sq")
  | exact .inr (by walk_at "sqt")
  | exact SqA.keepN (T := Env.tabs (by assumption)) (by assumption) (by walk_at "chg")
  | fail)
local macro_rules | `(tactic| walk_at "go") => `(tactic| repeat first
  | refine ⟨_, rfl, ?_⟩
  | refine ⟨_, _, _, _, rfl, And.intro (by walk_at "lk") (And.intro rfl ?_)⟩
  | refine ⟨_, _, _, rfl, And.intro (by walk_at "lk") (And.intro (by walk_at "side") ?_)⟩
  | refine ⟨_, _, And.intro rfl (And.intro rfl ?_)⟩
  | refine ⟨_, _, And.intro rfl (And.intro (by walk_at "lk") ?_)⟩
  | refine ⟨_, _, _, And.intro rfl (And.intro (by walk_at "lk") ?_)⟩
  | refine ⟨_, And.intro (by walk_at "lk") (And.intro (by walk_at "side") ?_)⟩
  | refine ⟨_, _, And.intro (by walk_at "lk") (And.intro (by walk_at "side") ?_)⟩
  | refine ⟨_, _, And.intro (by walk_at "seq") (And.intro rfl ?_)⟩
  | refine ⟨_, And.intro (by walk_at "seq") ?_⟩
  | refine ⟨_, And.intro (by walk_at "lk") (And.intro (by walk_at "side") (And.intro (by walk_at "side") (And.intro (by walk_at "side") ?_)))⟩
  | refine .inl ⟨_, _, And.intro (by walk_at "lk") (And.intro (by walk_at "lk") (And.intro (by walk_at "side") ?_))⟩
  | refine .inr ⟨_, _, And.intro (by walk_at "sqt") (And.intro (by walk_at "sqt") (And.intro (by walk_at "side") ?_))⟩
  | refine .inl ⟨_, And.intro (by walk_at "sq") ?_⟩
  | refine .inr ⟨_, And.intro (by walk_at "sqt") ?_⟩
  | refine ⟨_, _, _, _, rfl, rfl, And.intro (by walk_at "lk") (And.intro rfl ?_)⟩
  | refine fun H' (n : Wr _ _ _ H') => ?_
  | refine fun p H' (n : Nw _ p _ H') => ?_
  | refine fun r H' (n : Tp _ _ r _ H') => ?_
  | refine fun x dx H' (n : Mkd _ _ x dx H') => ?_
  | refine .inl ⟨_, _, rfl, And.intro (by walk_at "sq") (fun p H' (n : Nw _ p _ H') => ?_)⟩
  | refine .inr ⟨_, _, rfl, And.intro (by walk_at "sqt") (fun r H' (n : Tp _ _ r _ H') => ?_)⟩
  | refine ⟨_, _, rfl, And.intro (by walk_at "sq") (fun p H' (n : Nw _ p _ H') => ?_)⟩
  | refine .inl (And.intro ⟨_, by walk_at "sq"⟩ ?_)
  | refine .inr (And.intro ⟨_, by walk_at "sqt"⟩ ?_)
  | refine ⟨_, _, rfl, And.intro (by walk_at "sqt") (And.intro rfl ?_)⟩
  | refine ⟨_, _, And.intro rfl ?_⟩
  | refine ⟨_, _, _, And.intro rfl ?_⟩
  | refine And.intro rfl ?_
  | (refine ite_t ?_ ?_; exact rfl)
  | (refine ite_f ?_ ?_; exact rfl)
  | refine And.intro (by walk_at "side") ?_)
local macro_rules | `(tactic| walk_at "side") => `(tactic| first
  | exact (rfl : _ = _)
  | decide
  | exact lt1000 rfl
  | with_reducible assumption
  | exact ⟨by omega, by omega⟩
  | exact .inl ⟨by omega, by omega⟩
  | exact .inr ⟨by omega, by omega⟩
  | omega
  | (apply le_line; omega)
  | (apply lt_line; omega)
  | (apply le_line; simp <;> omega)
  | (apply lt_line; simp <;> omega)
  | fail)
local macro_rules | `(tactic| walk_at "if") => `(tactic| first
  | refine ite_nd ?_ ?_
  | refine ite_d ?_ ?_
  | refine ite_eqt ?_ ?_
  | fail)
local macro_rules | `(tactic| walk_at "roll") => `(tactic| first
  | (refine And.intro (show Dice _ _ from ⟨_, _, _, by walk_at "lk"⟩) (And.intro (by walk_at "side") (And.intro (by walk_at "side") (fun r H' r0 r1 ro => ?_))); obtain ⟨a', b', c', w⟩ := ro)
  | fail)
local macro_rules | `(tactic| walk_at "run") => `(tactic| (walk_at "go"; repeat (walk_at "roll"; walk_at "go")))
local macro_rules | `(tactic| walk_at "dp") => `(tactic| first
  | exact Dp.non
  | exact Dp.int _
  | exact Dp.str _
  | exact Dp.bl _
  | exact DpAll.nil
  | exact DpAll.cons (by walk_at "dp") (by walk_at "dp")
  | exact Dp.tup (by walk_at "sqt") (by walk_at "dp")
  | exact Dp.lst (by walk_at "sq") (by walk_at "dp")
  | fail)

section
variable {w : World} {K : PySem.W.Frag} {mg : Str → Option Value} {base : Heap}
def Shp (d : Addr) (σ : L2.St) : Prop := ∃ x0 x2 x3 x4 x5 x6 x7 x8 x10 x11 x12 x13 x14 x15 x17 x18 x19 x20 x21 x22, σ = [x0, some (.ref d), x2, x3, x4, x5, x6, x7, x8, none, x10, x11, x12, x13, x14, x15, none, x17, x18, x19, x20, x21, x22, none]
def PreL (T : Env w K mg base) (H : Hp) (D : Ends) (σ : L2.St) (G : Hp) : Prop := ∃ B : Hp, Tabs T.tabs B ∧ ∃ d, Shp d σ ∧ B d = none ∧ Dice G d ∧ Chg T.tabs nil B G ∧ ∀ σ' G', Shp d σ' → Dice G' d → Chg T.tabs nil B G' → D.nx σ' G'
def pre_law_0_1 (T : Env w K mg base) := PreL T
def pre_law_0_6 (T : Env w K mg base) := PreL T
def pre_law_0_8 (T : Env w K mg base) := PreL T
/-- the last k of cs -/
def lastk (cs : List Int) (k : Nat) : List Int := cs.drop (cs.length - k)
theorem lastk_len {cs : List Int} {k : Nat} : (lastk cs k).length = min cs.length k := by simp [lastk]; omega
theorem pushK_lastk {cs : List Int} {k : Nat} {r : Int} (k1 : 1 ≤ k) : pushK (iv (lastk cs k)) k (.int r) = iv (lastk (cs ++ [r]) k) := by
  unfold pushK
  have e0 : (iv (lastk cs k)).length = min cs.length k := by rw [iv_len, lastk_len]
  rw [e0]
  have e3 : lastk (cs ++ [r]) k = cs.drop (cs.length + 1 - k) ++ [r] := by
    unfold lastk
    rw [List.drop_append_of_le_length (by simp; omega)]
    simp
  rw [e3]
  split
  · unfold lastk iv
    rw [← List.map_drop, List.drop_drop, show cs.length - k + 1 = cs.length + 1 - k by omega]
    simp
  · unfold lastk iv
    rw [show cs.length - k = 0 by omega, show cs.length + 1 - k = 0 by omega]
    simp
theorem dropK_lastk {cs : List Int} {k : Nat} (k1 : 1 ≤ k) : dropK (iv (lastk cs k)) k = if k ≤ cs.length then .int (cs.getD (cs.length - k) 0) else .non := by
  unfold dropK
  have e0 : (iv (lastk cs k)).length = min cs.length k := by rw [iv_len, lastk_len]
  rw [e0]
  by_cases c : k ≤ cs.length
  · rw [if_pos (by omega), if_pos c]
    unfold lastk iv
    rw [List.drop_eq_getElem_cons (by omega)]
    simp [List.getD_eq_getElem?_getD, List.getElem?_eq_getElem (show cs.length - k < cs.length by omega)]
  · rw [if_neg (by omega), if_neg c]
def numAt (cs : List Int) (k : Nat) (i : Int) : V := if (cs.length : Int) - k ≤ i ∧ i < cs.length ∧ 0 ≤ i then .int (cs.getD i.toNat 0) else .str "RingError"
def nums (cs : List Int) (k : Nat) (n : Nat) : List V := (List.range n).map fun i => numAt cs k (-1 + (i : Nat))
theorem atI_lastk {cs : List Int} {k : Nat} {m : Int} (h1 : (cs.length : Int) - (iv (lastk cs k)).length ≤ m) (h2 : m < cs.length) : atI (iv (lastk cs k)) (m - ((cs.length : Int) - (iv (lastk cs k)).length)) = some (numAt cs k m) := by
  have e0 : (iv (lastk cs k)).length = min cs.length k := by rw [iv_len, lastk_len]
  rw [e0] at h1 ⊢
  obtain ⟨j, hj⟩ : ∃ j : Nat, m - ((cs.length : Int) - (min cs.length k : Nat)) = j := ⟨(m - ((cs.length : Int) - (min cs.length k : Nat))).toNat, by omega⟩
  rw [hj, atI_iv (by rw [lastk_len]; omega), numAt, if_pos (by omega)]
  congr 2
  rw [List.getD_eq_getElem?_getD, List.getD_eq_getElem?_getD, lastk, List.getElem?_drop]
  congr 2
  omega
theorem numAt_no {cs : List Int} {k : Nat} {m : Int} (h : ¬ ((cs.length : Int) - (iv (lastk cs k)).length ≤ m ∧ m < cs.length)) : numAt cs k m = .str "RingError" := by
  have e0 : (iv (lastk cs k)).length = min cs.length k := by rw [iv_len, lastk_len]
  rw [e0] at h
  rw [numAt, if_neg (by omega)]
theorem nums_snoc {cs : List Int} {k n : Nat} : nums cs k (n + 1) = nums cs k n ++ [numAt cs k (-1 + (n : Nat))] := by simp [nums, List.range_succ]
theorem flat_nums {cs : List Int} {k n : Nat} : ∀ x ∈ nums cs k n, flat x = true := by
  intro x hx
  simp only [nums, List.mem_map] at hx
  obtain ⟨i, _, rfl⟩ := hx
  unfold numAt
  split
  · rfl
  · exact (by decide +kernel : flat (V.str "RingError") = true)
end
end Z


set_option Elab.async false
set_option linter.all false
set_option maxRecDepth 100000
set_option maxHeartbeats 4000000
set_option pp.maxSteps 1500
namespace Z
open PySem PySem.Spec L2 LamX Y
local macro_rules | `(tactic| walk_at "lk") => `(tactic| first
  | assumption
  | exact Nw.at (by assumption)
  | exact Wr.at (by assumption)
  | exact Mkd.at (by assumption)
  | exact Nw.look (by assumption) (by walk_at "lk")
  | exact Mkd.look (by assumption) (by walk_at "lk")
  | exact Wr.look (by assumption) (by walk_at "lk") (by walk_at "ne")
  | exact Chg.look (by assumption) (by walk_at "lk") (by walk_at "nin") rfl
  | exact Tp.same (by assumption) _ _ (by walk_at "lk")
  | exact Grows.look (by assumption) (by walk_at "lk") rfl
  | fail)
local macro_rules | `(tactic| walk_at "ne") => `(tactic| first
  | assumption
  | exact Ne.symm (by assumption)
  | exact Nw.ne (by assumption) (by walk_at "lk")
  | exact Ne.symm (Nw.ne (by assumption) (by walk_at "lk"))
  | exact ne_fr (by assumption) (by walk_at "lk")
  | exact Ne.symm (ne_fr (by assumption) (by walk_at "lk"))
  | exact ne_fr (Mkd.nx (by assumption)) (by walk_at "lk")
  | exact Ne.symm (ne_fr (Mkd.nx (by assumption)) (by walk_at "lk"))
  | exact ne_kdn (by assumption) (by walk_at "lk") rfl
  | exact Ne.symm (ne_kdn (by assumption) (by walk_at "lk") rfl)
  | fail)
local macro_rules | `(tactic| walk_at "nin") => `(tactic| first
  | exact nin_nil
  | exact id
  | exact nin_cons (by walk_at "ne") (by walk_at "nin")
  | fail)
local macro_rules | `(tactic| walk_at "fr") => `(tactic| first
  | assumption
  | exact Nw.new (by assumption)
  | exact Mkd.nx (by assumption)
  | exact Nw.dom (by assumption) (by walk_at "fr")
  | exact Wr.dom (by assumption) (by walk_at "fr")
  | exact Mkd.dom (by assumption) (by walk_at "fr")
  | exact Chg.dom (by assumption) _ (by walk_at "fr")
  | exact Tp.dom (by assumption) _ (by walk_at "fr")
  | exact Grows.dom (by assumption) _ (by walk_at "fr")
  | fail)
local macro_rules | `(tactic| walk_at "mem") => `(tactic| first
  | assumption
  | exact List.mem_cons_self
  | (apply List.mem_cons_of_mem; walk_at "mem")
  | fail)
local macro_rules | `(tactic| walk_at "in") => `(tactic| first
  | assumption
  | (apply Or.inl; walk_at "mem")
  | (apply Or.inr; walk_at "fr")
  | fail)
local macro_rules | `(tactic| walk_at "sub") => `(tactic| first
  | exact sub_nil0
  | exact sub_nil
  | exact sub_cons (by walk_at "in") (by walk_at "sub")
  | fail)
local macro_rules | `(tactic| walk_at "chg") => `(tactic| first
  | assumption
  | exact Chg.refl _
  | exact Chg.nw (by assumption) (by walk_at "chg")
  | exact Chg.mkd (by assumption) (by walk_at "chg")
  | exact Chg.tp (by assumption) (by walk_at "chg")
  | exact Chg.gr (by assumption) (by walk_at "chg")
  | exact Chg.wr (by assumption) (by walk_at "chg") (by walk_at "in")
  | exact Chg.ch (by assumption) (by walk_at "chg") (by walk_at "sub")
  | fail)
local macro_rules | `(tactic| walk_at "sq") => `(tactic| first
  | assumption
  | exact SqL.of (by walk_at "lk")
  | exact Chg.seqL (by assumption) (by walk_at "sq") (by walk_at "nin")
  | exact SqL.nw (by assumption) (by walk_at "sq")
  | exact SqL.tp (by assumption) (by walk_at "sq")
  | exact SqL.mkd (by assumption) (by walk_at "sq")
  | exact SqL.wr (by assumption) (by walk_at "sq") (by walk_at "ne")
  | fail)
local macro_rules | `(tactic| walk_at "sqt") => `(tactic| first
  | assumption
  | exact SqT.of (by walk_at "lk")
  | exact Tp.sq (by assumption)
  | exact SqT.nw (by assumption) (by walk_at "sqt")
  | exact SqT.tp (by assumption) (by walk_at "sqt")
  | exact SqT.mkd (by assumption) (by walk_at "sqt")
  | exact SqT.chg (by assumption) (by walk_at "sqt") (by walk_at "nin")
  | fail)
local macro_rules | `(tactic| walk_at "seq") => `(tactic| first
  | assumption
  | exact .inl (by walk_at "sq")
  | exact .inr (by walk_at "sqt")
  | exact SqA.keepN (T := Env.tabs (by assumption)) (by assumption) (by walk_at "chg")
  | fail)
local macro_rules | `(tactic| walk_at "go") => `(tactic| repeat first
  | refine ⟨_, rfl, ?_⟩
  | refine ⟨_, _, _, _, rfl, And.intro (by walk_at "lk") (And.intro rfl ?_)⟩
  | refine ⟨_, _, _, rfl, And.intro (by walk_at "lk") (And.intro (by walk_at "side") ?_)⟩
  | refine ⟨_, _, And.intro rfl (And.intro rfl ?_)⟩
  | refine ⟨_, _, And.intro rfl (And.intro (by walk_at "lk") ?_)⟩
  | refine ⟨_, _, _, And.intro rfl (And.intro (by walk_at "lk") ?_)⟩
  | refine ⟨_, And.intro (by walk_at "lk") (And.intro (by walk_at "side") ?_)⟩
  | refine ⟨_, _, And.intro (by walk_at "lk") (And.intro (by walk_at "side") ?_)⟩
  | refine ⟨_, _, And.intro (by walk_at "seq") (And.intro rfl ?_)⟩
  | refine ⟨_, And.intro (by walk_at "seq") ?_⟩
  | refine ⟨_, And.intro (by walk_at "lk") (And.intro (by walk_at "side") (And.intro (by walk_at "side") (And.intro (by walk_at "side") ?_)))⟩
  | refine .inl ⟨_, _, And.intro (by walk_at "lk") (And.intro (by walk_at "lk") (And.intro (by walk_at "side") ?_))⟩
  | refine .inr ⟨_, _, And.intro (by walk_at "sqt") (And.intro (by walk_at "sqt") (And.intro (by walk_at "side") ?_))⟩
  | refine .inl ⟨_, And.intro (by walk_at "sq") ?_⟩
  | refine .inr ⟨_, And.intro (by walk_at "sqt") ?_⟩
  | refine ⟨_, _, _, _, rfl, rfl, And.intro (by walk_at "lk") (And.intro rfl ?_)⟩
  | refine fun H' (n : Wr _ _ _ H') => ?_
  | refine fun p H' (n : Nw _ p _ H') => ?_
  | refine fun r H' (n : Tp _ _ r _ H') => ?_
  | refine fun x dx H' (n : Mkd _ _ x dx H') => ?_
  | refine .inl ⟨_, _, rfl, And.intro (by walk_at "sq") (fun p H' (n : Nw _ p _ H') => ?_)⟩
  | refine .inr ⟨_, _, rfl, And.intro (by walk_at "sqt") (fun r H' (n : Tp _ _ r _ H') => ?_)⟩
  | refine ⟨_, _, rfl, And.intro (by walk_at "sq") (fun p H' (n : Nw _ p _ H') => ?_)⟩
  | refine .inl (And.intro ⟨_, by walk_at "sq"⟩ ?_)
  | refine .inr (And.intro ⟨_, by walk_at "sqt"⟩ ?_)
  | refine ⟨_, _, rfl, And.intro (by walk_at "sqt") (And.intro rfl ?_)⟩
  | refine ⟨_, _, And.intro rfl ?_⟩
  | refine ⟨_, _, _, And.intro rfl ?_⟩
  | refine And.intro rfl ?_
  | (refine ite_t ?_ ?_; exact rfl)
  | (refine ite_f ?_ ?_; exact rfl)
  | refine And.intro (by walk_at "side") ?_)
local macro_rules | `(tactic| walk_at "side") => `(tactic| first
  | exact (rfl : _ = _)
  | decide
  | exact lt1000 rfl
  | with_reducible assumption
  | exact ⟨by omega, by omega⟩
  | exact .inl ⟨by omega, by omega⟩
  | exact .inr ⟨by omega, by omega⟩
  | omega
  | (apply le_line; omega)
  | (apply lt_line; omega)
  | (apply le_line; simp <;> omega)
  | (apply lt_line; simp <;> omega)
  | fail)
local macro_rules | `(tactic| walk_at "if") => `(tactic| first
  | refine ite_nd ?_ ?_
  | refine ite_d ?_ ?_
  | refine ite_eqt ?_ ?_
  | fail)
local macro_rules | `(tactic| walk_at "roll") => `(tactic| first
  | (refine And.intro (show Dice _ _ from ⟨_, _, _, by walk_at "lk"⟩) (And.intro (by walk_at "side") (And.intro (by walk_at "side") (fun r H' r0 r1 ro => ?_))); obtain ⟨a', b', c', w⟩ := ro)
  | fail)
local macro_rules | `(tactic| walk_at "run") => `(tactic| (walk_at "go"; repeat (walk_at "roll"; walk_at "go")))
local macro_rules | `(tactic| walk_at "dp") => `(tactic| first
  | exact Dp.non
  | exact Dp.int _
  | exact Dp.str _
  | exact Dp.bl _
  | exact DpAll.nil
  | exact DpAll.cons (by walk_at "dp") (by walk_at "dp")
  | exact Dp.tup (by walk_at "sqt") (by walk_at "dp")
  | exact Dp.lst (by walk_at "sq") (by walk_at "dp")
  | fail)

section
variable {w : World} {K : PySem.W.Frag} {mg : Str → Option Value} {base : Heap}
def lj (step : Int) : Nat → List V → List V
  | 0, _ => []
  | n + 1, L => L[((step - 1) % (L.length : Int)).toNat]?.toList ++ lj step n (L.drop (((step - 1) % (L.length : Int)).toNat + 1) ++ L.take ((step - 1) % (L.length : Int)).toNat)
theorem lj_jos {step : Int} : ∀ (n : Nat) (left : List V) (h : Nat), left.length = n → h ≤ n → lj step n (left.drop h ++ left.take h) = jos step n left (h : Int)
  | 0, _, _, _, _ => rfl
  | n + 1, left, h, hl, hh => by
    have pl : (left.drop h ++ left.take h).length = left.length := by simp; omega
    have p0 : 0 < (left.length : Int) := by omega
    have m0 := Int.emod_nonneg (step - 1) (b := (left.length : Int)) (by omega)
    have m1 := Int.emod_lt_of_pos (step - 1) p0
    obtain ⟨t, ht⟩ : ∃ t : Nat, (step - 1) % (left.length : Int) = t := ⟨_, (Int.toNat_of_nonneg m0).symm⟩
    have ht2 : t < left.length := by omega
    have em : ((h : Int) + step - 1) % (left.length : Int) = ((h : Int) + t) % (left.length : Int) := by
      rw [← ht, show (h : Int) + step - 1 = h + (step - 1) by omega, Int.add_emod, Int.add_emod (h : Int) ((step - 1) % (left.length : Int)), Int.emod_emod]
    have ej : josAt step (h : Int) left.length = if h + t < left.length then h + t else h + t - left.length := by
      unfold josAt
      rw [em]
      split
      · rw [Int.emod_eq_of_lt (by omega) (by omega)]; omega
      · rw [← Int.sub_emod_right, Int.emod_eq_of_lt (by omega) (by omega)]; omega
    show (left.drop h ++ left.take h)[((step - 1) % ((left.drop h ++ left.take h).length : Int)).toNat]?.toList ++ lj step n _ = left[josAt step (h : Int) left.length]?.toList ++ jos step n _ _
    rw [pl, ht, Int.toNat_natCast]
    obtain ⟨j, hj⟩ : ∃ j, josAt step (h : Int) left.length = j := ⟨_, rfl⟩
    rw [hj] at ej ⊢
    have hjl : j < left.length := by rw [ej]; split <;> omega
    have e1 : (left.drop h ++ left.take h)[t]? = left[j]? := by
      by_cases c : h + t < left.length
      · rw [if_pos c] at ej
        rw [List.getElem?_append_left (by simp; omega), List.getElem?_drop, ej]
      · rw [if_neg c] at ej
        rw [List.getElem?_append_right (by simp; omega), List.length_drop, List.getElem?_take, if_pos (by omega), ej]
        congr 1
        omega
    have e2 : (left.drop h ++ left.take h).drop (t + 1) ++ (left.drop h ++ left.take h).take t = (left.take j ++ left.drop (j + 1)).drop j ++ (left.take j ++ left.drop (j + 1)).take j := by
      have lj : (left.take j).length = j := by simp; omega
      rw [List.drop_left' lj, List.take_left' lj]
      by_cases c : h + t < left.length
      · rw [if_pos c] at ej
        rw [List.drop_append_of_le_length (by simp; omega), List.take_append_of_le_length (by simp; omega), List.drop_drop, List.append_assoc, ej, show h + (t + 1) = h + t + 1 by omega, List.take_add]
      · rw [if_neg c] at ej
        have la : (left.drop h).length ≤ t := by simp; omega
        rw [List.drop_append, List.take_append, List.drop_eq_nil_of_le (by simp; omega), List.take_of_length_le la, List.nil_append, List.length_drop, show t + 1 - (left.length - h) = j + 1 by omega, show t - (left.length - h) = j by omega, List.take_take, show min j h = j by omega, ← List.append_assoc]
        congr 1
        conv => rhs; rw [← List.take_append_drop h left]
        rw [List.drop_append_of_le_length (by simp; omega)]
    rw [e1, e2, lj_jos n (left.take j ++ left.drop (j + 1)) j (by simp; omega) (by omega)]
/-- the least of a slice -/
def PreC (T : Env w K mg base) (H : Hp) (D : Ends) (σ : L2.St) (G : Hp) : Prop := ∃ B : Hp, Tabs T.tabs B ∧ ∃ (d v fo : Addr) (vs : List Int) (k mm st : Nat) (x0 x2 x3 x4 x6 x7 x8 x10 x11 x12 x13 x14 x19 x21 x22 : Option V), σ = [x0, some (.ref d), x2, x3, x4, some (.int st), x6, x7, x8, none, x10, x11, x12, x13, x14, some (.ref v), none, some (.int k), some (.int mm), x19, some (.ref fo), x21, x22, none] ∧
  B d = none ∧ Dice G d ∧ Chg T.tabs nil B G ∧ G v = some (.lst (iv vs)) ∧ 1 ≤ k ∧ k ≤ vs.length ∧ vs.length ≤ 14 ∧ 1 ≤ mm ∧ mm ≤ 12 ∧ 1 ≤ st ∧ G fo = some (.lst (jos st mm (intsV mm) 0)) ∧ ∀ σ' G', Shp d σ' → Dice G' d → Chg T.tabs nil B G' → D.nx σ' G'
def pre_law_0_12 (T : Env w K mg base) := PreC T
def pre_law_0_13 (T : Env w K mg base) (H : Hp) (D : Ends) (σ : L2.St) (G : Hp) : Prop := PreC T H D σ G ∧ ∃ (v gr : Addr) (vs es : List Int), σ[15]? = some (some (.ref v)) ∧ G v = some (.lst (iv vs)) ∧ σ[22]? = some (some (.ref gr)) ∧ G gr = some (.lst (iv es)) ∧ es.length = vs.length ∧ ∀ k, k < vs.length → NextIs vs k (es.getD k 0)
end
end Z


set_option Elab.async false
set_option linter.all false
set_option maxRecDepth 100000
set_option maxHeartbeats 4000000
set_option pp.maxSteps 1500
namespace Z
open PySem PySem.Spec L2 LamX Y
local macro_rules | `(tactic| walk_at "lk") => `(tactic| first
  | assumption
  | exact Nw.at (by assumption)
  | exact Wr.at (by assumption)
  | exact Mkd.at (by assumption)
  | exact Nw.look (by assumption) (by walk_at "lk")
  | exact Mkd.look (by assumption) (by walk_at "lk")
  | exact Wr.look (by assumption) (by walk_at "lk") (by walk_at "ne")
  | exact Chg.look (by assumption) (by walk_at "lk") (by walk_at "nin") rfl
  | exact Tp.same (by assumption) _ _ (by walk_at "lk")
  | exact Grows.look (by assumption) (by walk_at "lk") rfl
  | fail)
local macro_rules | `(tactic| walk_at "ne") => `(tactic| first
  | assumption
  | exact Ne.symm (by assumption)
  | exact Nw.ne (by assumption) (by walk_at "lk")
  | exact Ne.symm (Nw.ne (by assumption) (by walk_at "lk"))
  | exact ne_fr (by assumption) (by walk_at "lk")
  | exact Ne.symm (ne_fr (by assumption) (by walk_at "lk"))
  | exact ne_fr (Mkd.nx (by assumption)) (by walk_at "lk")
  | exact Ne.symm (ne_fr (Mkd.nx (by assumption)) (by walk_at "lk"))
  | exact ne_kdn (by assumption) (by walk_at "lk") rfl
  | exact Ne.symm (ne_kdn (by assumption) (by walk_at "lk") rfl)
  | fail)
local macro_rules | `(tactic| walk_at "nin") => `(tactic| first
  | exact nin_nil
  | exact id
  | exact nin_cons (by walk_at "ne") (by walk_at "nin")
  | fail)
local macro_rules | `(tactic| walk_at "fr") => `(tactic| first
  | assumption
  | exact Nw.new (by assumption)
  | exact Mkd.nx (by assumption)
  | exact Nw.dom (by assumption) (by walk_at "fr")
  | exact Wr.dom (by assumption) (by walk_at "fr")
  | exact Mkd.dom (by assumption) (by walk_at "fr")
  | exact Chg.dom (by assumption) _ (by walk_at "fr")
  | exact Tp.dom (by assumption) _ (by walk_at "fr")
  | exact Grows.dom (by assumption) _ (by walk_at "fr")
  | fail)
local macro_rules | `(tactic| walk_at "mem") => `(tactic| first
  | assumption
  | exact List.mem_cons_self
  | (apply List.mem_cons_of_mem; walk_at "mem")
  | fail)
local macro_rules | `(tactic| walk_at "in") => `(tactic| first
  | assumption
  | (apply Or.inl; walk_at "mem")
  | (apply Or.inr; walk_at "fr")
  | fail)
local macro_rules | `(tactic| walk_at "sub") => `(tactic| first
  | exact sub_nil0
  | exact sub_nil
  | exact sub_cons (by walk_at "in") (by walk_at "sub")
  | fail)
local macro_rules | `(tactic| walk_at "chg") => `(tactic| first
  | assumption
  | exact Chg.refl _
  | exact Chg.nw (by assumption) (by walk_at "chg")
  | exact Chg.mkd (by assumption) (by walk_at "chg")
  | exact Chg.tp (by assumption) (by walk_at "chg")
  | exact Chg.gr (by assumption) (by walk_at "chg")
  | exact Chg.wr (by assumption) (by walk_at "chg") (by walk_at "in")
  | exact Chg.ch (by assumption) (by walk_at "chg") (by walk_at "sub")
  | fail)
local macro_rules | `(tactic| walk_at "sq") => `(tactic| first
  | assumption
  | exact SqL.of (by walk_at "lk")
  | exact Chg.seqL (by assumption) (by walk_at "sq") (by walk_at "nin")
  | exact SqL.nw (by assumption) (by walk_at "sq")
  | exact SqL.tp (by assumption) (by walk_at "sq")
  | exact SqL.mkd (by assumption) (by walk_at "sq")
  | exact SqL.wr (by assumption) (by walk_at "sq") (by walk_at "ne")
  | fail)
local macro_rules | `(tactic| walk_at "sqt") => `(tactic| first
  | assumption
  | exact SqT.of (by walk_at "lk")
  | exact Tp.sq (by assumption)
  | exact SqT.nw (by assumption) (by walk_at "sqt")
  | exact SqT.tp (by assumption) (by walk_at "sqt")
  | exact SqT.mkd (by assumption) (by walk_at "sqt")
  | exact SqT.chg (by assumption) (by walk_at "sqt") (by walk_at "nin")
  | fail)
local macro_rules | `(tactic| walk_at "seq") => `(tactic| first
  | assumption
  | exact .inl (by walk_at "sq")
  | exact .inr (by walk_at "sqt")
  | exact SqA.keepN (T := Env.tabs (by assumption)) (by assumption) (by walk_at "chg")
  | fail)
local macro_rules | `(tactic| walk_at "go") => `(tactic| repeat first
  | refine ⟨_, rfl, ?_⟩
  | refine ⟨_, _, _, _, rfl, And.intro (by walk_at "lk") (And.intro rfl ?_)⟩
  | refine ⟨_, _, _, rfl, And.intro (by walk_at "lk") (And.intro (by walk_at "side") ?_)⟩
  | refine ⟨_, _, And.intro rfl (And.intro rfl ?_)⟩
  | refine ⟨_, _, And.intro rfl (And.intro (by walk_at "lk") ?_)⟩
  | refine ⟨_, _, _, And.intro rfl (And.intro (by walk_at "lk") ?_)⟩
  | refine ⟨_, And.intro (by walk_at "lk") (And.intro (by walk_at "side") ?_)⟩
  | refine ⟨_, _, And.intro (by walk_at "lk") (And.intro (by walk_at "side") ?_)⟩
  | refine ⟨_, _, And.intro (by walk_at "seq") (And.intro rfl ?_)⟩
  | refine ⟨_, And.intro (by walk_at "seq") ?_⟩
  | refine ⟨_, And.intro (by walk_at "lk") (And.intro (by walk_at "side") (And.intro (by walk_at "side") (And.intro (by walk_at "side") ?_)))⟩
  | refine .inl ⟨_, _, And.intro (by walk_at "lk") (And.intro (by walk_at "lk") (And.intro (by walk_at "side") ?_))⟩
  | refine .inr ⟨_, _, And.intro (by walk_at "sqt") (And.intro (by walk_at "sqt") (And.intro (by walk_at "side") ?_))⟩
  | refine .inl ⟨_, And.intro (by walk_at "sq") ?_⟩
  | refine .inr ⟨_, And.intro (by walk_at "sqt") ?_⟩
  | refine ⟨_, _, _, _, rfl, rfl, And.intro (by walk_at "lk") (And.intro rfl ?_)⟩
  | refine fun H' (n : Wr _ _ _ H') => ?_
  | refine fun p H' (n : Nw _ p _ H') => ?_
  | refine fun r H' (n : Tp _ _ r _ H') => ?_
  | refine fun x dx H' (n : Mkd _ _ x dx H') => ?_
  | refine .inl ⟨_, _, rfl, And.intro (by walk_at "sq") (fun p H' (n : Nw _ p _ H') => ?_)⟩
  | refine .inr ⟨_, _, rfl, And.intro (by walk_at "sqt") (fun r H' (n : Tp _ _ r _ H') => ?_)⟩
  | refine ⟨_, _, rfl, And.intro (by walk_at "sq") (fun p H' (n : Nw _ p _ H') => ?_)⟩
  | refine .inl (And.intro ⟨_, by walk_at "sq"⟩ ?_)
  | refine .inr (And.intro ⟨_, by walk_at "sqt"⟩ ?_)
  | refine ⟨_, _, rfl, And.intro (by walk_at "sqt") (And.intro rfl ?_)⟩
  | refine ⟨_, _, And.intro rfl ?_⟩
  | refine ⟨_, _, _, And.intro rfl ?_⟩
  | refine And.intro rfl ?_
  | (refine ite_t ?_ ?_; exact rfl)
  | (refine ite_f ?_ ?_; exact rfl)
  | refine And.intro (by walk_at "side") ?_)
local macro_rules | `(tactic| walk_at "side") => `(tactic| first
  | exact (rfl : _ = _)
  | decide
  | exact lt1000 rfl
  | with_reducible assumption
  | exact ⟨by omega, by omega⟩
  | exact .inl ⟨by omega, by omega⟩
  | exact .inr ⟨by omega, by omega⟩
  | omega
  | (apply le_line; omega)
  | (apply lt_line; omega)
  | (apply le_line; simp <;> omega)
  | (apply lt_line; simp <;> omega)
  | fail)
local macro_rules | `(tactic| walk_at "if") => `(tactic| first
  | refine ite_nd ?_ ?_
  | refine ite_d ?_ ?_
  | refine ite_eqt ?_ ?_
  | fail)
local macro_rules | `(tactic| walk_at "roll") => `(tactic| first
  | (refine And.intro (show Dice _ _ from ⟨_, _, _, by walk_at "lk"⟩) (And.intro (by walk_at "side") (And.intro (by walk_at "side") (fun r H' r0 r1 ro => ?_))); obtain ⟨a', b', c', w⟩ := ro)
  | fail)
local macro_rules | `(tactic| walk_at "run") => `(tactic| (walk_at "go"; repeat (walk_at "roll"; walk_at "go")))
local macro_rules | `(tactic| walk_at "dp") => `(tactic| first
  | exact Dp.non
  | exact Dp.int _
  | exact Dp.str _
  | exact Dp.bl _
  | exact DpAll.nil
  | exact DpAll.cons (by walk_at "dp") (by walk_at "dp")
  | exact Dp.tup (by walk_at "sqt") (by walk_at "dp")
  | exact Dp.lst (by walk_at "sq") (by walk_at "dp")
  | fail)

section
variable {w : World} {K : PySem.W.Frag} {mg : Str → Option Value} {base : Heap}
theorem jos_flat {step : Int} : ∀ (n : Nat) (l : List V) (h : Int), (∀ x ∈ l, flat x = true) → ∀ x ∈ jos step n l h, flat x = true
  | 0, _, _, _, x, hx => nomatch hx
  | n + 1, l, h, hl, x, hx => by
    rcases List.mem_append.mp hx with z | z
    · cases e : l[josAt step h l.length]? with
      | none => rw [e] at z; exact nomatch z
      | some y =>
        rw [e] at z
        simp at z
        subst z
        exact hl _ (List.mem_of_getElem? e)
    · refine jos_flat n _ _ (fun y hy => ?_) x z
      rcases List.mem_append.mp hy with q | q
      · exact hl y (List.mem_of_mem_take q)
      · exact hl y (List.mem_of_mem_drop q)
theorem win_at {vs W : List Int} {k n i : Nat} {m : Int} (wm : WinMin vs W k n) (hi : i < n) (hk : 1 ≤ k) (hv : i + k ≤ vs.length) (hm : m ∈ (vs.take (i + k)).drop i) (hle : ∀ y ∈ (vs.take (i + k)).drop i, m ≤ y) : m = W.getD i 0 := by
  obtain ⟨o, a1, a2, a3, a4⟩ := wm.2 i hi
  have at_ : ∀ j, j < k → ((vs.take (i + k)).drop i)[j]? = some (vs.getD (i + j) 0) := by
    intro j hj
    rw [List.getElem?_drop, List.getElem?_take, if_pos (by omega), List.getD_eq_getElem?_getD, List.getElem?_eq_getElem (by omega)]
    rfl
  have h1 : vs.getD o 0 ∈ (vs.take (i + k)).drop i := by
    have := at_ (o - i) (by omega)
    rw [show i + (o - i) = o by omega] at this
    exact List.mem_of_getElem? this
  obtain ⟨j, hj⟩ := List.getElem?_of_mem hm
  have hjk : j < k := by
    have := (List.getElem?_eq_some_iff.mp hj).1
    simp at this
    omega
  rw [at_ j hjk] at hj
  have e : vs.getD (i + j) 0 = m := Option.some.inj hj
  have h2 := a4 (i + j) (by omega) (by omega)
  have h3 := hle _ h1
  omega
theorem tl_law_0_13 (T : Env w K mg base) {A : Around} {outer : List PySem.Env} {s : Shared} {H : Hp} {E : XK} (hr : Room 63 (A.deeper (PyProof.Rows.envOfC "law" (defScope s_law) s.heap.objs.size T.f_law (.ref T.c_law)))) : ∃ t, PSs (cxOf (L2.CX prg w) prg w K mg base N_law "law" (defScope s_law) T.f_law (.ref T.c_law) A outer s H E) ((forBody ((defBody s_law).getD 0 (.Pass ⟨0, 0, 0, 0⟩))).drop 13) t ∧ ∀ (D : Ends) (σ : L2.St) (G : Hp), pre_law_0_13 T H D σ G → t D σ G := by
  refine ⟨_, (pss_cons (ps_if (pt_cmpR (Y.op_neK (K := K) rfl hr.units) (pe_callTy (Y.listK (K := K) rfl) (by rfl) T.no_list (by decide +kernel) (pa_cons (pe_call (ok_least_windows T) (hr.mono (by decide)) rfl T.mg_least_windows T.F_least_windows.kp T.b_least_windows .nil (Y.passD rfl rfl rfl rfl) (pa_cons (pv 15) (pa_cons (pv 17) pa_nil))) pa_nil)) (pe_lc (own := [("k", 16)]) rfl sc_law.nd (pi_range1 rfl T.no_range (pa_cons (pe_op (Y.op_addK (K := K) rfl) (pe_op Y.op_sub (pe_callB (Y.lenK (K := K) rfl) (by rfl) T.no_len (by decide +kernel) (pa_cons (pv 15) pa_nil)) (pv 17)) pe_int) pa_nil)) (blkOk_by (own := [("k", 16)]) (N := N_law) (sc := defScope s_law) (by decide +kernel)) (fun _ _ _ _ _ => (pg_name (i := 16) sc_law.nd rfl (Or.inl rfl))) (fun _ _ _ _ _ => pts_nil) (fun _ _ _ _ _ => (pe_callB (Y.cr_minK (K := K) rfl rfl) (by rfl) T.no_min (by decide +kernel) (pa_cons (pe_slice (Y.slK (K := K) rfl) (pv 15) (po_some (pv 16)) (po_some (pe_op (Y.op_addK (K := K) rfl) (pv 16) (pv 17)))) pa_nil)))) (nomark _)) (pss_one (ps_ret pe_bl)) pss_nil)
  (pss_one (ps_if (PW.pt (pw_or (pt_cmpR (Y.op_neK (K := K) rfl hr.units) (pe_callTy (Y.listK (K := K) rfl) (by rfl) T.no_list (by decide +kernel) (pa_cons (pe_call (ok_last_of_ring T) (hr.mono (by decide)) rfl T.mg_last_of_ring T.F_last_of_ring.kp T.b_last_of_ring .nil (Y.passD rfl rfl rfl rfl) (pa_cons (pv 18) (pa_cons (pv 5) pa_nil))) pa_nil)) (pv 20) (nomark _)) (pw_or1 (pt_cmpR (Y.op_neK (K := K) rfl hr.units) (pe_callTy (Y.listK (K := K) rfl) (by rfl) T.no_list (by decide +kernel) (pa_cons (pe_call (ok_next_greater T) (hr.mono (by decide)) rfl T.mg_next_greater T.F_next_greater.kp T.b_next_greater .nil (Y.passD rfl rfl rfl rfl) (pa_cons (pv 15) pa_nil)) pa_nil)) (pv 22) (nomark _))))) (pss_one (ps_ret pe_bl)) pss_nil))), ?_⟩
  intro D σ G h
  unfold pre_law_0_13 at h
  obtain ⟨⟨H, ht, d, v, fo, vs, k, mm, st, x0, x2, x3, x4, x6, x7, x8, x10, x11, x12, x13, x14, x19, x21, x22, rfl, hd0, ⟨a0, a1, a2, hd⟩, cG, hv, k1, k2, vl, m1, m2, s1, hf, hN⟩, v2, gr, vs2, es, e15, hv2, e22, hgr, el, hes⟩ := h
  obtain rfl : v = v2 := by simpa using e15
  rw [hv] at hv2
  obtain rfl : vs = vs2 := by
    have : iv vs = iv vs2 := by simpa using hv2
    exact (List.map_inj_right (fun a b h => by cases h; rfl)).mp this
  obtain rfl : x22 = some (.ref gr) := by simpa using e22
  clear e15 hv2 e22
  have lv := iv_len (vs := vs)
  walk_at "run"
  refine ⟨cG.tabs ht, fun z => (z ⟨by omega, by omega⟩).elim, fun _ _ t W G1 c1 f1 wm g1 => ?_⟩
  rw [Int.toNat_natCast] at wm
  have hv1 : G1 v = some (.lst (iv vs)) := by walk_at "lk"
  have hf1 : G1 fo = some (.lst (jos st mm (intsV mm) 0)) := by walk_at "lk"
  have hgr1 : G1 gr = some (.lst (iv es)) := by walk_at "lk"
  have hd1 : G1 d = some (.lst [.int a0, .int a1, .int a2]) := by walk_at "lk"
  have cG1 : Chg T.tabs nil H G1 := by walk_at "chg"
  clear hv hf hgr hd cG c1
  walk_at "run"
  rename_i q2 G2 n2
  have en : ((((iv vs).length : Nat) : Int) - (k : Int) + 1).toNat = vs.length + 1 - k := by omega
  rw [en]
  have hq2 := n2.at
  intro D0 hD
  have nq : q2 ≠ D0 := by walk_at "ne"
  have hv2 : G2 v = some (.lst (iv vs)) := by walk_at "lk"
  have c2 : Chg T.tabs nil G1 G2 := by walk_at "chg"
  have lW := iv_len (vs := W)
  have eW := wm.1
  refine lcr (fun i G' => Chg T.tabs nil G2 G' ∧ G' D0 = some (.lst (iv (W.take i)))) hD ?_ ?_ ?_
  · intro G' n
    exact ⟨by walk_at "chg", n.at⟩
  · rintro G' ⟨c3, gD⟩
    rw [← eW, List.take_length] at gD
    have hv3 : G' v = some (.lst (iv vs)) := by walk_at "lk"
    have hf3 : G' fo = some (.lst (jos st mm (intsV mm) 0)) := by walk_at "lk"
    have hgr3 : G' gr = some (.lst (iv es)) := by walk_at "lk"
    have hd3 : G' d = some (.lst [.int a0, .int a1, .int a2]) := by walk_at "lk"
    have hq3 : G' q2 = some (.lst (iv W)) := by walk_at "lk"
    have cG3 : Chg T.tabs nil H G' := by walk_at "chg"
    walk_at "run"
    refine veq_ll (.of hq3) (.of gD) flat_iv flat_iv (p := True) (by simp) ?_
    clear hq3 gD c3 nq hv2 c2 n2 hq2 hD hd1 hgr1 hf1 hv1 cG1 f1
    walk_at "run"
    intro _ _ _ r5 G5 c5 f5 g5
    rw [Int.toNat_natCast] at g5
    have hf5 : G5 fo = some (.lst (jos st mm (intsV mm) 0)) := by walk_at "lk"
    have hv5 : G5 v = some (.lst (iv vs)) := by walk_at "lk"
    have hgr5 : G5 gr = some (.lst (iv es)) := by walk_at "lk"
    have hd5 : G5 d = some (.lst [.int a0, .int a1, .int a2]) := by walk_at "lk"
    have cG5 : Chg T.tabs nil H G5 := by walk_at "chg"
    clear c5 f5 hv3 hf3 hgr3 hd3 cG3
    have fj : ∀ x ∈ jos st mm (intsV mm) 0, flat x = true := jos_flat _ _ _ fun x hx => by
      simp only [intsV, List.mem_map] at hx; obtain ⟨_, _, rfl⟩ := hx; rfl
    walk_at "run"
    rename_i q6 G6 n6
    refine veq_ll (by walk_at "sq") (by walk_at "sq") fj fj (p := True) (by simp) ?_
    have hv6 : G6 v = some (.lst (iv vs)) := by walk_at "lk"
    have hgr6 : G6 gr = some (.lst (iv es)) := by walk_at "lk"
    have hd6 : G6 d = some (.lst [.int a0, .int a1, .int a2]) := by walk_at "lk"
    have cG6 : Chg T.tabs nil H G6 := by walk_at "chg"
    clear hf5 hv5 hgr5 hd5 cG5 n6 g5
    walk_at "run"
    intro r7 ds G7 c7 f7 dl hds g7
    obtain rfl : ds = es := next_uniq dl hds el hes
    have hgr7 : G7 gr = some (.lst (iv ds)) := by walk_at "lk"
    have hd7 : G7 d = some (.lst [.int a0, .int a1, .int a2]) := by walk_at "lk"
    have cG7 : Chg T.tabs nil H G7 := by walk_at "chg"
    clear hgr6 hd6 cG6 c7 f7 hv6
    walk_at "run"
    rename_i q8 G8 n8
    refine veq_ll (by walk_at "sq") (by walk_at "sq") flat_iv flat_iv (p := True) (by simp) ?_
    walk_at "run"
    exact hN _ _ ⟨_, _, _, _, _, _, _, _, _, _, _, _, _, _, _, _, _, _, _, _, rfl⟩ ⟨_, _, _, by walk_at "lk"⟩ (by walk_at "chg")
  · rintro i G' hi ⟨c3, gD⟩ Nx Sk hN2 hS
    have hv3 : G' v = some (.lst (iv vs)) := by walk_at "lk"
    have hcut : cutV (iv vs) (some ((0 : Int) + (i : Nat))) (some ((0 : Int) + (i : Nat) + (k : Int))) = ((vs.take (i + k)).drop i).map V.int := by
      rw [cut_both (by omega) (by omega)]
      rw [show ((0 : Int) + (i : Nat) + (k : Int)).toNat = i + k by omega, show ((0 : Int) + (i : Nat)).toNat = i by omega]
      simp [iv]
    walk_at "run"
    rename_i q3 G3 n3
    rw [hcut] at n3
    have ls : ((vs.take (i + k)).drop i).length = k := by simp; omega
    refine ⟨q3, _, rfl, .of n3.at, by omega, fun m hm hle => ?_⟩
    have em := win_at wm hi k1 (by omega) hm hle
    have gD : G3 D0 = some (.lst (iv (W.take i))) := by walk_at "lk"
    refine hN2 _ _ _ gD (lt_line (by rw [iv_len, List.length_take]; omega)) fun G4 n4 => ⟨by walk_at "chg", ?_⟩
    have e2 : W.take (i + 1) = W.take i ++ [W.getD i 0] := by
      rw [List.take_add_one, List.getElem?_eq_getElem (by omega), List.getD_eq_getElem?_getD, List.getElem?_eq_getElem (by omega)]
      rfl
    have e : iv (W.take (i + 1)) = iv (W.take i) ++ [.int m] := by
      rw [e2, ← em]
      simp only [iv, List.map_append]
      rfl
    rw [e]; exact n4.at
end
end Z


set_option Elab.async false
set_option linter.all false
set_option maxRecDepth 100000
set_option maxHeartbeats 4000000
set_option pp.maxSteps 1500
namespace Z
open PySem PySem.Spec L2 LamX Y
local macro_rules | `(tactic| walk_at "lk") => `(tactic| first
  | assumption
  | exact Nw.at (by assumption)
  | exact Wr.at (by assumption)
  | exact Mkd.at (by assumption)
  | exact Nw.look (by assumption) (by walk_at "lk")
  | exact Mkd.look (by assumption) (by walk_at "lk")
  | exact Wr.look (by assumption) (by walk_at "lk") (by walk_at "ne")
  | exact Chg.look (by assumption) (by walk_at "lk") (by walk_at "nin") rfl
  | exact Tp.same (by assumption) _ _ (by walk_at "lk")
  | exact Grows.look (by assumption) (by walk_at "lk") rfl
  | fail)
local macro_rules | `(tactic| walk_at "ne") => `(tactic| first
  | assumption
  | exact Ne.symm (by assumption)
  | exact Nw.ne (by assumption) (by walk_at "lk")
  | exact Ne.symm (Nw.ne (by assumption) (by walk_at "lk"))
  | exact ne_fr (by assumption) (by walk_at "lk")
  | exact Ne.symm (ne_fr (by assumption) (by walk_at "lk"))
  | exact ne_fr (Mkd.nx (by assumption)) (by walk_at "lk")
  | exact Ne.symm (ne_fr (Mkd.nx (by assumption)) (by walk_at "lk"))
  | exact ne_kdn (by assumption) (by walk_at "lk") rfl
  | exact Ne.symm (ne_kdn (by assumption) (by walk_at "lk") rfl)
  | fail)
local macro_rules | `(tactic| walk_at "nin") => `(tactic| first
  | exact nin_nil
  | exact id
  | exact nin_cons (by walk_at "ne") (by walk_at "nin")
  | fail)
local macro_rules | `(tactic| walk_at "fr") => `(tactic| first
  | assumption
  | exact Nw.new (by assumption)
  | exact Mkd.nx (by assumption)
  | exact Nw.dom (by assumption) (by walk_at "fr")
  | exact Wr.dom (by assumption) (by walk_at "fr")
  | exact Mkd.dom (by assumption) (by walk_at "fr")
  | exact Chg.dom (by assumption) _ (by walk_at "fr")
  | exact Tp.dom (by assumption) _ (by walk_at "fr")
  | exact Grows.dom (by assumption) _ (by walk_at "fr")
  | fail)
local macro_rules | `(tactic| walk_at "mem") => `(tactic| first
  | assumption
  | exact List.mem_cons_self
  | (apply List.mem_cons_of_mem; walk_at "mem")
  | fail)
local macro_rules | `(tactic| walk_at "in") => `(tactic| first
  | assumption
  | (apply Or.inl; walk_at "mem")
  | (apply Or.inr; walk_at "fr")
  | fail)
local macro_rules | `(tactic| walk_at "sub") => `(tactic| first
  | exact sub_nil0
  | exact sub_nil
  | exact sub_cons (by walk_at "in") (by walk_at "sub")
  | fail)
local macro_rules | `(tactic| walk_at "chg") => `(tactic| first
  | assumption
  | exact Chg.refl _
  | exact Chg.nw (by assumption) (by walk_at "chg")
  | exact Chg.mkd (by assumption) (by walk_at "chg")
  | exact Chg.tp (by assumption) (by walk_at "chg")
  | exact Chg.gr (by assumption) (by walk_at "chg")
  | exact Chg.wr (by assumption) (by walk_at "chg") (by walk_at "in")
  | exact Chg.ch (by assumption) (by walk_at "chg") (by walk_at "sub")
  | fail)
local macro_rules | `(tactic| walk_at "sq") => `(tactic| first
  | assumption
  | exact SqL.of (by walk_at "lk")
  | exact Chg.seqL (by assumption) (by walk_at "sq") (by walk_at "nin")
  | exact SqL.nw (by assumption) (by walk_at "sq")
  | exact SqL.tp (by assumption) (by walk_at "sq")
  | exact SqL.mkd (by assumption) (by walk_at "sq")
  | exact SqL.wr (by assumption) (by walk_at "sq") (by walk_at "ne")
  | fail)
local macro_rules | `(tactic| walk_at "sqt") => `(tactic| first
  | assumption
  | exact SqT.of (by walk_at "lk")
  | exact Tp.sq (by assumption)
  | exact SqT.nw (by assumption) (by walk_at "sqt")
  | exact SqT.tp (by assumption) (by walk_at "sqt")
  | exact SqT.mkd (by assumption) (by walk_at "sqt")
  | exact SqT.chg (by assumption) (by walk_at "sqt") (by walk_at "nin")
  | fail)
local macro_rules | `(tactic| walk_at "seq") => `(tactic| first
  | assumption
  | exact .inl (by walk_at "sq")
  | exact .inr (by walk_at "sqt")
  | exact SqA.keepN (T := Env.tabs (by assumption)) (by assumption) (by walk_at "chg")
  | fail)
local macro_rules | `(tactic| walk_at "go") => `(tactic| repeat first
  | refine ⟨_, rfl, ?_⟩
  | refine ⟨_, _, _, _, rfl, And.intro (by walk_at "lk") (And.intro rfl ?_)⟩
  | refine ⟨_, _, _, rfl, And.intro (by walk_at "lk") (And.intro (by walk_at "side") ?_)⟩
  | refine ⟨_, _, And.intro rfl (And.intro rfl ?_)⟩
  | refine ⟨_, _, And.intro rfl (And.intro (by walk_at "lk") ?_)⟩
  | refine ⟨_, _, _, And.intro rfl (And.intro (by walk_at "lk") ?_)⟩
  | refine ⟨_, And.intro (by walk_at "lk") (And.intro (by walk_at "side") ?_)⟩
  | refine ⟨_, _, And.intro (by walk_at "lk") (And.intro (by walk_at "side") ?_)⟩
  | refine ⟨_, _, And.intro (by walk_at "seq") (And.intro rfl ?_)⟩
  | refine ⟨_, And.intro (by walk_at "seq") ?_⟩
  | refine ⟨_, And.intro (by walk_at "lk") (And.intro (by walk_at "side") (And.intro (by walk_at "side") (And.intro (by walk_at "side") ?_)))⟩
  | refine .inl ⟨_, _, And.intro (by walk_at "lk") (And.intro (by walk_at "lk") (And.intro (by walk_at "side") ?_))⟩
  | refine .inr ⟨_, _, And.intro (by walk_at "sqt") (And.intro (by walk_at "sqt") (And.intro (by walk_at "side") ?_))⟩
  | refine .inl ⟨_, And.intro (by walk_at "sq") ?_⟩
  | refine .inr ⟨_, And.intro (by walk_at "sqt") ?_⟩
  | refine ⟨_, _, _, _, rfl, rfl, And.intro (by walk_at "lk") (And.intro rfl ?_)⟩
  | refine fun H' (n : Wr _ _ _ H') => ?_
  | refine fun p H' (n : Nw _ p _ H') => ?_
  | refine fun r H' (n : Tp _ _ r _ H') => ?_
  | refine fun x dx H' (n : Mkd _ _ x dx H') => ?_
  | refine .inl ⟨_, _, rfl, And.intro (by walk_at "sq") (fun p H' (n : Nw _ p _ H') => ?_)⟩
  | refine .inr ⟨_, _, rfl, And.intro (by walk_at "sqt") (fun r H' (n : Tp _ _ r _ H') => ?_)⟩
  | refine ⟨_, _, rfl, And.intro (by walk_at "sq") (fun p H' (n : Nw _ p _ H') => ?_)⟩
  | refine .inl (And.intro ⟨_, by walk_at "sq"⟩ ?_)
  | refine .inr (And.intro ⟨_, by walk_at "sqt"⟩ ?_)
  | refine ⟨_, _, rfl, And.intro (by walk_at "sqt") (And.intro rfl ?_)⟩
  | refine ⟨_, _, And.intro rfl ?_⟩
  | refine ⟨_, _, _, And.intro rfl ?_⟩
  | refine And.intro rfl ?_
  | (refine ite_t ?_ ?_; exact rfl)
  | (refine ite_f ?_ ?_; exact rfl)
  | refine And.intro (by walk_at "side") ?_)
local macro_rules | `(tactic| walk_at "side") => `(tactic| first
  | exact (rfl : _ = _)
  | decide
  | exact lt1000 rfl
  | with_reducible assumption
  | exact ⟨by omega, by omega⟩
  | exact .inl ⟨by omega, by omega⟩
  | exact .inr ⟨by omega, by omega⟩
  | omega
  | (apply le_line; omega)
  | (apply lt_line; omega)
  | (apply le_line; simp <;> omega)
  | (apply lt_line; simp <;> omega)
  | fail)
local macro_rules | `(tactic| walk_at "if") => `(tactic| first
  | refine ite_nd ?_ ?_
  | refine ite_d ?_ ?_
  | refine ite_eqt ?_ ?_
  | fail)
local macro_rules | `(tactic| walk_at "roll") => `(tactic| first
  | (refine And.intro (show Dice _ _ from ⟨_, _, _, by walk_at "lk"⟩) (And.intro (by walk_at "side") (And.intro (by walk_at "side") (fun r H' r0 r1 ro => ?_))); obtain ⟨a', b', c', w⟩ := ro)
  | fail)
local macro_rules | `(tactic| walk_at "run") => `(tactic| (walk_at "go"; repeat (walk_at "roll"; walk_at "go")))
local macro_rules | `(tactic| walk_at "dp") => `(tactic| first
  | exact Dp.non
  | exact Dp.int _
  | exact Dp.str _
  | exact Dp.bl _
  | exact DpAll.nil
  | exact DpAll.cons (by walk_at "dp") (by walk_at "dp")
  | exact Dp.tup (by walk_at "sqt") (by walk_at "dp")
  | exact Dp.lst (by walk_at "sq") (by walk_at "dp")
  | fail)

section
variable {w : World} {K : PySem.W.Frag} {mg : Str → Option Value} {base : Heap}
theorem tl_law_0_12 (T : Env w K mg base) {A : Around} {outer : List PySem.Env} {s : Shared} {H : Hp} {E : XK} (hr : Room 63 (A.deeper (PyProof.Rows.envOfC "law" (defScope s_law) s.heap.objs.size T.f_law (.ref T.c_law)))) : ∃ t, PSs (cxOf (L2.CX prg w) prg w K mg base N_law "law" (defScope s_law) T.f_law (.ref T.c_law) A outer s H E) ((forBody ((defBody s_law).getD 0 (.Pass ⟨0, 0, 0, 0⟩))).drop 12) t ∧ ∀ (D : Ends) (σ : L2.St) (G : Hp), pre_law_0_12 T H D σ G → t D σ G := by
  obtain ⟨t9, P9, R9⟩ := tl_law_0_13 T (outer := outer) (s := s) (H := H) (E := E) hr
  refine ⟨_, (pss_cons (ps_setLc (i := 22) (own := [("k", 16), ("value", 14)]) rfl sc_law.nd rfl rfl (sw_true rfl rfl rfl (by decide +kernel)) (Y.pi_enumK (K := K) rfl (by rfl) T.no_enumerate (pa_cons (pv 15) pa_nil)) (blkOk_by (own := [("k", 16), ("value", 14)]) (N := N_law) (sc := defScope s_law) (by decide +kernel)) (fun _ _ _ _ _ => (Y.pg_tupK (K := K) (n := 2) rfl rfl (pgs_cons (pg_name (i := 16) sc_law.nd rfl (Or.inr rfl)) (pgs_cons (pg_name (i := 14) sc_law.nd rfl (Or.inr rfl)) pgs_nil)))) (fun _ _ _ _ _ => pts_nil) (fun _ _ _ _ _ => (pe_ix (Y.ixK (K := K) rfl) (pe_op (Y.op_addK (K := K) rfl) (pe_lc (own := [("j", 23)]) rfl sc_law.nd (pi_range2 rfl T.no_range (pa_cons (pe_op (Y.op_addK (K := K) rfl) (pv 16) pe_int) (pa_cons (pe_callB (Y.lenK (K := K) rfl) (by rfl) T.no_len (by decide +kernel) (pa_cons (pv 15) pa_nil)) pa_nil))) (blkOk_by (own := [("j", 23)]) (by kernel_rfl)) (fun _ _ _ _ _ => (pg_name (i := 23) sc_law.nd rfl (Or.inl rfl))) (fun _ _ _ _ _ => (pts_one (pt_cmpR Y.op_gt (pe_ix (Y.ixK (K := K) rfl) (pv 15) (pv 23) (fun _ _ => rfl)) (pv 14) (nomark _)))) (fun _ _ _ _ _ => (pe_op Y.op_sub (pv 23) (pv 16)))) (Y.pe_ls (pa_cons pe_int pa_nil))) pe_int (fun _ _ => rfl))))
  P9), ?_⟩
  intro D σ G h
  unfold pre_law_0_12 at h
  obtain ⟨H, ht, d, v, fo, vs, k, mm, st, x0, x2, x3, x4, x6, x7, x8, x10, x11, x12, x13, x14, x19, x21, x22, rfl, hd0, ⟨a0, a1, a2, hd⟩, cG, hv, k1, k2, vl, m1, m2, s1, hf, hN⟩ := h
  have lv := iv_len (vs := vs)
  walk_at "run"
  intro D0 hD
  refine lce (xs := iv vs) (fun i G' => Chg T.tabs nil G G' ∧ ∃ es : List Int, es.length = i ∧ G' D0 = some (.lst (iv es)) ∧ ∀ k, k < i → NextIs vs k (es.getD k 0)) hD ?_ ?_ ?_ ?_
  · intro G' n
    exact ⟨by walk_at "chg", [], rfl, n.at, fun k hk => absurd hk (by omega)⟩
  · rintro i G' hi ⟨c, -⟩
    exact .of (c.look hv id rfl)
  · rintro G' ⟨c, es, el, he, hn⟩
    rw [lv] at el hn
    walk_at "run"
    have hv2 : G' v = some (.lst (iv vs)) := by walk_at "lk"
    exact R9 _ _ _ ⟨⟨H, ht, d, v, fo, vs, k, mm, st, _, _, _, _, _, _, _, _, _, _, _, _, _, _, _, rfl, hd0, ⟨_, _, _, by walk_at "lk"⟩, by walk_at "chg", hv2, k1, k2, vl, m1, m2, s1, by walk_at "lk", hN⟩, v, D0, vs, es, rfl, hv2, rfl, he, el, hn⟩
  · rintro i x G' hx ⟨c, es, el, he, hn⟩ t G1 n1 Nx Sk hN2 hS
    have hi : i < vs.length := by have := (List.getElem?_eq_some_iff.mp hx).1; rwa [iv_len] at this
    rw [iv_at hi] at hx
    cases hx
    have hv1 : G1 v = some (.lst (iv vs)) := by walk_at "lk"
    have he1 : G1 D0 = some (.lst (iv es)) := by walk_at "lk"
    have c1 : Chg T.tabs nil G G1 := by walk_at "chg"
    walk_at "run"
    intro D2 hD2
    have n02 : D0 ≠ D2 := by walk_at "ne"
    refine lcr (fun m G2 => Chg T.tabs nil G1 G2 ∧ ∃ ds : List Int, G2 D2 = some (.lst (iv ds)) ∧ ds.length ≤ m ∧ ((ds = [] ∧ ∀ j, i < j → j < i + 1 + m → vs.getD j 0 ≤ vs.getD i 0) ∨ ∃ (j : Nat) (ds' : List Int), ds = ((j : Int) - i) :: ds' ∧ i < j ∧ j < i + 1 + m ∧ vs.getD i 0 < vs.getD j 0 ∧ ∀ j', i < j' → j' < j → vs.getD j' 0 ≤ vs.getD i 0)) hD2 ?_ ?_ ?_
    · intro G2 n
      exact ⟨by walk_at "chg", [], n.at, Nat.le_refl _, .inl ⟨rfl, fun j a b => absurd a (by omega)⟩⟩
    · rintro G2 ⟨c2, ds, hds, dl, hdj⟩
      have en : ((((iv vs).length : Nat) : Int) - ((i : Int) + 1)).toNat = vs.length - (i + 1) := by omega
      rw [en] at dl hdj
      have ld := iv_len (vs := ds)
      have he2 : G2 D0 = some (.lst (iv es)) := by walk_at "lk"
      walk_at "run"
      rename_i q3 G3 n3 q4 G4 n4
      have he4 : G4 D0 = some (.lst (iv es)) := by walk_at "lk"
      have lE := iv_len (vs := es)
      rcases hdj with ⟨rfl, hj⟩ | ⟨j, ds', rfl, j1, j2, j3, j4⟩
      · refine ⟨_, _, by walk_at "seq", (show atI [V.int 0] 0 = some (.int 0) from rfl), ?_⟩
        refine hN2 _ _ _ he4 (lt_line (by omega)) fun G5 n5 => ⟨by walk_at "chg", es ++ [0], by simp [el], ?_, ?_⟩
        · have e : iv (es ++ [0]) = iv es ++ [.int 0] := by simp [iv]
          rw [e]; exact n5.at
        · intro k hk
          by_cases e : k < i
          · rw [List.getD_eq_getElem?_getD, List.getElem?_append_left (by omega), ← List.getD_eq_getElem?_getD]
            exact hn k e
          · have : k = i := by omega
            subst this
            rw [List.getD_eq_getElem?_getD, List.getElem?_append_right (by omega), el, Nat.sub_self]
            exact .inl ⟨rfl, fun j a b => hj j a (by omega)⟩
      · refine ⟨_, _, by walk_at "seq", (show atI (V.int ((j : Int) - i) :: (iv ds' ++ [V.int 0])) 0 = some (.int ((j : Int) - i)) from atI_0), ?_⟩
        refine hN2 _ _ _ he4 (lt_line (by omega)) fun G5 n5 => ⟨by walk_at "chg", es ++ [(j : Int) - i], by simp [el], ?_, ?_⟩
        · have e : iv (es ++ [(j : Int) - i]) = iv es ++ [.int ((j : Int) - i)] := by simp [iv]
          rw [e]; exact n5.at
        · intro k hk
          by_cases e : k < i
          · rw [List.getD_eq_getElem?_getD, List.getElem?_append_left (by omega), ← List.getD_eq_getElem?_getD]
            exact hn k e
          · have : k = i := by omega
            subst this
            rw [List.getD_eq_getElem?_getD, List.getElem?_append_right (by omega), el, Nat.sub_self]
            exact .inr ⟨j, j1, by omega, j3, j4, rfl⟩
    · rintro m G2 hm ⟨c2, ds, hds, dl, hdj⟩ Nx2 Sk2 hN3 hS3
      have hm : m < vs.length - (i + 1) := by omega
      have hv2 : G2 v = some (.lst (iv vs)) := by walk_at "lk"
      have ld := iv_len (vs := ds)
      have ej : (i : Int) + 1 + (m : Nat) = ((i + 1 + m : Nat) : Int) := by omega
      walk_at "run"
      refine ⟨_, _, by walk_at "seq", (by rw [ej]; exact atI_iv (by omega)), ?_⟩
      walk_at "run"
      walk_at "if"
      · intro c5
        walk_at "run"
        refine hN3 _ _ _ hds (lt_line (by omega)) fun G3 n3 => ⟨by walk_at "chg", ds ++ [((i + 1 + m : Nat) : Int) - i], ?_, by simp; omega, .inr ?_⟩
        · have e : iv (ds ++ [((i + 1 + m : Nat) : Int) - i]) = iv ds ++ [.int ((i : Int) + 1 + (m : Nat) - i)] := by simp [iv]
          rw [e]; exact n3.at
        · rcases hdj with ⟨rfl, hj⟩ | ⟨j, ds', rfl, j1, j2, j3, j4⟩
          · exact ⟨i + 1 + m, [], rfl, by omega, by omega, c5, fun j' a b => hj j' a (by omega)⟩
          · exact ⟨j, _, rfl, j1, by omega, j3, j4⟩
      · intro c5
        walk_at "run"
        refine hS3 _ ⟨c2, ds, hds, by omega, ?_⟩
        rcases hdj with ⟨rfl, hj⟩ | ⟨j, ds', rfl, j1, j2, j3, j4⟩
        · refine .inl ⟨rfl, fun j a b => ?_⟩
          by_cases e : j < i + 1 + m
          · exact hj j a e
          · have : j = i + 1 + m := by omega
            subst this
            omega
        · exact .inr ⟨j, ds', rfl, j1, by omega, j3, j4⟩
end
end Z


set_option Elab.async false
set_option linter.all false
set_option maxRecDepth 100000
set_option maxHeartbeats 4000000
set_option pp.maxSteps 1500
namespace Z
open PySem PySem.Spec L2 LamX Y
local macro_rules | `(tactic| walk_at "lk") => `(tactic| first
  | assumption
  | exact Nw.at (by assumption)
  | exact Wr.at (by assumption)
  | exact Mkd.at (by assumption)
  | exact Nw.look (by assumption) (by walk_at "lk")
  | exact Mkd.look (by assumption) (by walk_at "lk")
  | exact Wr.look (by assumption) (by walk_at "lk") (by walk_at "ne")
  | exact Chg.look (by assumption) (by walk_at "lk") (by walk_at "nin") rfl
  | exact Tp.same (by assumption) _ _ (by walk_at "lk")
  | exact Grows.look (by assumption) (by walk_at "lk") rfl
  | fail)
local macro_rules | `(tactic| walk_at "ne") => `(tactic| first
  | assumption
  | exact Ne.symm (by assumption)
  | exact Nw.ne (by assumption) (by walk_at "lk")
  | exact Ne.symm (Nw.ne (by assumption) (by walk_at "lk"))
  | exact ne_fr (by assumption) (by walk_at "lk")
  | exact Ne.symm (ne_fr (by assumption) (by walk_at "lk"))
  | exact ne_fr (Mkd.nx (by assumption)) (by walk_at "lk")
  | exact Ne.symm (ne_fr (Mkd.nx (by assumption)) (by walk_at "lk"))
  | exact ne_kdn (by assumption) (by walk_at "lk") rfl
  | exact Ne.symm (ne_kdn (by assumption) (by walk_at "lk") rfl)
  | fail)
local macro_rules | `(tactic| walk_at "nin") => `(tactic| first
  | exact nin_nil
  | exact id
  | exact nin_cons (by walk_at "ne") (by walk_at "nin")
  | fail)
local macro_rules | `(tactic| walk_at "fr") => `(tactic| first
  | assumption
  | exact Nw.new (by assumption)
  | exact Mkd.nx (by assumption)
  | exact Nw.dom (by assumption) (by walk_at "fr")
  | exact Wr.dom (by assumption) (by walk_at "fr")
  | exact Mkd.dom (by assumption) (by walk_at "fr")
  | exact Chg.dom (by assumption) _ (by walk_at "fr")
  | exact Tp.dom (by assumption) _ (by walk_at "fr")
  | exact Grows.dom (by assumption) _ (by walk_at "fr")
  | fail)
local macro_rules | `(tactic| walk_at "mem") => `(tactic| first
  | assumption
  | exact List.mem_cons_self
  | (apply List.mem_cons_of_mem; walk_at "mem")
  | fail)
local macro_rules | `(tactic| walk_at "in") => `(tactic| first
  | assumption
  | (apply Or.inl; walk_at "mem")
  | (apply Or.inr; walk_at "fr")
  | fail)
local macro_rules | `(tactic| walk_at "sub") => `(tactic| first
  | exact sub_nil0
  | exact sub_nil
  | exact sub_cons (by walk_at "in") (by walk_at "sub")
  | fail)
local macro_rules | `(tactic| walk_at "chg") => `(tactic| first
  | assumption
  | exact Chg.refl _
  | exact Chg.nw (by assumption) (by walk_at "chg")
  | exact Chg.mkd (by assumption) (by walk_at "chg")
  | exact Chg.tp (by assumption) (by walk_at "chg")
  | exact Chg.gr (by assumption) (by walk_at "chg")
  | exact Chg.wr (by assumption) (by walk_at "chg") (by walk_at "in")
  | exact Chg.ch (by assumption) (by walk_at "chg") (by walk_at "sub")
  | fail)
local macro_rules | `(tactic| walk_at "sq") => `(tactic| first
  | assumption
  | exact SqL.of (by walk_at "lk")
  | exact Chg.seqL (by assumption) (by walk_at "sq") (by walk_at "nin")
  | exact SqL.nw (by assumption) (by walk_at "sq")
  | exact SqL.tp (by assumption) (by walk_at "sq")
  | exact SqL.mkd (by assumption) (by walk_at "sq")
  | exact SqL.wr (by assumption) (by walk_at "sq") (by walk_at "ne")
  | fail)
local macro_rules | `(tactic| walk_at "sqt") => `(tactic| first
  | assumption
  | exact SqT.of (by walk_at "lk")
  | exact Tp.sq (by assumption)
  | exact SqT.nw (by assumption) (by walk_at "sqt")
  | exact SqT.tp (by assumption) (by walk_at "sqt")
  | exact SqT.mkd (by assumption) (by walk_at "sqt")
  | exact SqT.chg (by assumption) (by walk_at "sqt") (by walk_at "nin")
  | fail)
local macro_rules | `(tactic| walk_at "seq") => `(tactic| first
  | assumption
  | exact .inl (by walk_at "sq")
  | exact .inr (by walk_at "sqt")
  | exact SqA.keepN (T := Env.tabs (by assumption)) (by assumption) (by walk_at "chg")
  | fail)
local macro_rules | `(tactic| walk_at "go") => `(tactic| repeat first
  | refine ⟨_, rfl, ?_⟩
  | refine ⟨_, _, _, _, rfl, And.intro (by walk_at "lk") (And.intro rfl ?_)⟩
  | refine ⟨_, _, _, rfl, And.intro (by walk_at "lk") (And.intro (by walk_at "side") ?_)⟩
  | refine ⟨_, _, And.intro rfl (And.intro rfl ?_)⟩
  | refine ⟨_, _, And.intro rfl (And.intro (by walk_at "lk") ?_)⟩
  | refine ⟨_, _, _, And.intro rfl (And.intro (by walk_at "lk") ?_)⟩
  | refine ⟨_, And.intro (by walk_at "lk") (And.intro (by walk_at "side") ?_)⟩
  | refine ⟨_, _, And.intro (by walk_at "lk") (And.intro (by walk_at "side") ?_)⟩
  | refine ⟨_, _, And.intro (by walk_at "seq") (And.intro rfl ?_)⟩
  | refine ⟨_, And.intro (by walk_at "seq") ?_⟩
  | refine ⟨_, And.intro (by walk_at "lk") (And.intro (by walk_at "side") (And.intro (by walk_at "side") (And.intro (by walk_at "side") ?_)))⟩
  | refine .inl ⟨_, _, And.intro (by walk_at "lk") (And.intro (by walk_at "lk") (And.intro (by walk_at "side") ?_))⟩
  | refine .inr ⟨_, _, And.intro (by walk_at "sqt") (And.intro (by walk_at "sqt") (And.intro (by walk_at "side") ?_))⟩
  | refine .inl ⟨_, And.intro (by walk_at "sq") ?_⟩
  | refine .inr ⟨_, And.intro (by walk_at "sqt") ?_⟩
  | refine ⟨_, _, _, _, rfl, rfl, And.intro (by walk_at "lk") (And.intro rfl ?_)⟩
  | refine fun H' (n : Wr _ _ _ H') => ?_
  | refine fun p H' (n : Nw _ p _ H') => ?_
  | refine fun r H' (n : Tp _ _ r _ H') => ?_
  | refine fun x dx H' (n : Mkd _ _ x dx H') => ?_
  | refine .inl ⟨_, _, rfl, And.intro (by walk_at "sq") (fun p H' (n : Nw _ p _ H') => ?_)⟩
  | refine .inr ⟨_, _, rfl, And.intro (by walk_at "sqt") (fun r H' (n : Tp _ _ r _ H') => ?_)⟩
  | refine ⟨_, _, rfl, And.intro (by walk_at "sq") (fun p H' (n : Nw _ p _ H') => ?_)⟩
  | refine .inl (And.intro ⟨_, by walk_at "sq"⟩ ?_)
  | refine .inr (And.intro ⟨_, by walk_at "sqt"⟩ ?_)
  | refine ⟨_, _, rfl, And.intro (by walk_at "sqt") (And.intro rfl ?_)⟩
  | refine ⟨_, _, And.intro rfl ?_⟩
  | refine ⟨_, _, _, And.intro rfl ?_⟩
  | refine And.intro rfl ?_
  | (refine ite_t ?_ ?_; exact rfl)
  | (refine ite_f ?_ ?_; exact rfl)
  | refine And.intro (by walk_at "side") ?_)
local macro_rules | `(tactic| walk_at "side") => `(tactic| first
  | exact (rfl : _ = _)
  | decide
  | exact lt1000 rfl
  | with_reducible assumption
  | exact ⟨by omega, by omega⟩
  | exact .inl ⟨by omega, by omega⟩
  | exact .inr ⟨by omega, by omega⟩
  | omega
  | (apply le_line; omega)
  | (apply lt_line; omega)
  | (apply le_line; simp <;> omega)
  | (apply lt_line; simp <;> omega)
  | fail)
local macro_rules | `(tactic| walk_at "if") => `(tactic| first
  | refine ite_nd ?_ ?_
  | refine ite_d ?_ ?_
  | refine ite_eqt ?_ ?_
  | fail)
local macro_rules | `(tactic| walk_at "roll") => `(tactic| first
  | (refine And.intro (show Dice _ _ from ⟨_, _, _, by walk_at "lk"⟩) (And.intro (by walk_at "side") (And.intro (by walk_at "side") (fun r H' r0 r1 ro => ?_))); obtain ⟨a', b', c', w⟩ := ro)
  | fail)
local macro_rules | `(tactic| walk_at "run") => `(tactic| (walk_at "go"; repeat (walk_at "roll"; walk_at "go")))
local macro_rules | `(tactic| walk_at "dp") => `(tactic| first
  | exact Dp.non
  | exact Dp.int _
  | exact Dp.str _
  | exact Dp.bl _
  | exact DpAll.nil
  | exact DpAll.cons (by walk_at "dp") (by walk_at "dp")
  | exact Dp.tup (by walk_at "sqt") (by walk_at "dp")
  | exact Dp.lst (by walk_at "sq") (by walk_at "dp")
  | fail)

section
variable {w : World} {K : PySem.W.Frag} {mg : Str → Option Value} {base : Heap}
theorem tl_law_0_8 (T : Env w K mg base) {A : Around} {outer : List PySem.Env} {s : Shared} {H : Hp} {E : XK} (hr : Room 63 (A.deeper (PyProof.Rows.envOfC "law" (defScope s_law) s.heap.objs.size T.f_law (.ref T.c_law)))) : ∃ t, PSs (cxOf (L2.CX prg w) prg w K mg base N_law "law" (defScope s_law) T.f_law (.ref T.c_law) A outer s H E) ((forBody ((defBody s_law).getD 0 (.Pass ⟨0, 0, 0, 0⟩))).drop 8) t ∧ ∀ (D : Ends) (σ : L2.St) (G : Hp), pre_law_0_8 T H D σ G → t D σ G := by
  obtain ⟨t9, P9, R9⟩ := tl_law_0_12 T (outer := outer) (s := s) (H := H) (E := E) hr
  refine ⟨_, (pss_cons (ps_set (i := 15) sc_law.nd rfl (Or.inr rfl) (pe_lc (own := [("k", 16)]) rfl sc_law.nd (pi_range1 rfl T.no_range (pa_cons (pe_op (Y.op_addK (K := K) rfl) pe_int (pe_call (ok__law_roll T) (hr.mono (by decide)) rfl T.mg__law_roll T.F__law_roll.kp T.b__law_roll .nil (Y.passD rfl rfl rfl rfl) (pa_cons (pv 1) (pa_cons pe_int pa_nil)))) pa_nil)) (blkOk_by (own := [("k", 16)]) (N := N_law) (sc := defScope s_law) (by decide +kernel)) (fun _ _ _ _ _ => (pg_name (i := 16) sc_law.nd rfl (Or.inl rfl))) (fun _ _ _ _ _ => pts_nil) (fun _ _ _ _ _ => (pe_call (ok__law_roll T) (hr.mono (by decide)) rfl T.mg__law_roll T.F__law_roll.kp T.b__law_roll .nil Y.passN (pa_cons (pv 1) (pa_cons pe_int pa_nil))))))
  (pss_cons (ps_asg (Y.pe_tu (pa_cons (pe_op (Y.op_addK (K := K) rfl) pe_int (pe_call (ok__law_roll T) (hr.mono (by decide)) rfl T.mg__law_roll T.F__law_roll.kp T.b__law_roll .nil (Y.passD rfl rfl rfl rfl) (pa_cons (pv 1) (pa_cons (pe_callB (Y.lenK (K := K) rfl) (by rfl) T.no_len (by decide +kernel) (pa_cons (pv 15) pa_nil)) pa_nil)))) (pa_cons (pe_op (Y.op_addK (K := K) rfl) pe_int (pe_call (ok__law_roll T) (hr.mono (by decide)) rfl T.mg__law_roll T.F__law_roll.kp T.b__law_roll .nil (Y.passD rfl rfl rfl rfl) (pa_cons (pv 1) (pa_cons pe_int pa_nil)))) (pa_cons (pe_op (Y.op_addK (K := K) rfl) pe_int (pe_call (ok__law_roll T) (hr.mono (by decide)) rfl T.mg__law_roll T.F__law_roll.kp T.b__law_roll .nil (Y.passD rfl rfl rfl rfl) (pa_cons (pv 1) (pa_cons pe_int pa_nil)))) pa_nil)))) (Y.pg_tupK (K := K) (n := 3) rfl rfl (pgs_cons (pg_name (i := 17) sc_law.nd rfl (Or.inr rfl)) (pgs_cons (pg_name (i := 18) sc_law.nd rfl (Or.inl rfl)) (pgs_cons (pg_name (i := 5) sc_law.nd rfl (Or.inl rfl)) pgs_nil)))))
  (pss_cons (ps_par (i := 19) (j := 20) (by rfl) sc_law.nd rfl rfl (by decide) rfl rfl (pa_cons (Y.pe_listRg1 rfl rfl T.no_list rfl T.no_range (pv 18)) (pa_cons (Y.pe_ls pa_nil) pa_nil)) (by rfl))
  (pss_cons (ps_while (passes_of rfl) (pt_cmpR (Y.op_neK (K := K) rfl hr.units) (pv 19) (Y.pe_ls pa_nil) (nomark _)) (pss_cons (ps_set (i := 21) sc_law.nd rfl (Or.inl rfl) (pe_op Y.op_mod (pe_op Y.op_sub (pv 5) pe_int) (pe_callB (Y.lenK (K := K) rfl) (by rfl) T.no_len (by decide +kernel) (pa_cons (pv 19) pa_nil))))
  (pss_cons (ps_set (i := 20) sc_law.nd rfl (Or.inl rfl) (pe_op (Y.op_addK (K := K) rfl) (pv 20) (Y.pe_ls (pa_cons (pe_ix (Y.ixK (K := K) rfl) (pv 19) (pv 21) (fun _ _ => rfl)) pa_nil))))
  (pss_one (ps_set (i := 19) sc_law.nd rfl (Or.inl rfl) (pe_op (Y.op_addK (K := K) rfl) (pe_slice (Y.slK (K := K) rfl) (pv 19) (po_some (pe_op (Y.op_addK (K := K) rfl) (pv 21) pe_int)) po_none) (pe_slice (Y.slK (K := K) rfl) (pv 19) po_none (po_some (pv 21)))))))))
  P9)))), ?_⟩
  intro D σ G h
  unfold pre_law_0_8 at h
  obtain ⟨H, ht, d, ⟨x0, x2, x3, x4, x5, x6, x7, x8, x10, x11, x12, x13, x14, x15, x17, x18, x19, x20, x21, x22, rfl⟩, hd0, ⟨a0, a1, a2, hd⟩, cG, hN⟩ := h
  walk_at "run"
  rename_i r1 H1 ra rb b0 b1 b2 w1
  have c1 : Chg T.tabs nil H H1 := by walk_at "chg"
  have hd1 := w1.at
  clear w1 hd cG
  intro D0 hD
  have ndD : d ≠ D0 := by walk_at "ne"
  refine lcr (fun i G' => Chg T.tabs (Y.In [d]) H1 G' ∧ Dice G' d ∧ ∃ vs : List Int, vs.length = i ∧ G' D0 = some (.lst (iv vs))) hD ?_ ?_ ?_
  · intro G' n
    exact ⟨by walk_at "chg", ⟨_, _, _, by walk_at "lk"⟩, [], rfl, n.at⟩
  · rintro G' ⟨c2, ⟨e0, e1, e2, hd2⟩, vs, hl, hv⟩
    have lv := iv_len (vs := vs)
    have cG' : Chg T.tabs nil H G' := by walk_at "chg"
    clear c2 hD hd1 c1
    have hl1 : 1 ≤ vs.length := by omega
    have hl2 : vs.length ≤ 14 := by omega
    clear hl
    walk_at "run"
    rename_i k G2 ka kb b3 b4 b5 w2 mm G3 ma mb b6 b7 b8 w3 st G4 sa sb b9 b10 b11 w4 t5 G5 n5 l G6 n6 fo G7 n7
    have e1 : rgV 0 (1 + mm) = intsV (1 + mm).toNat := by simp [rgV, intsV]
    rw [e1] at n6
    have nlf : l ≠ fo := by walk_at "ne"
    have nvf : D0 ≠ fo := by walk_at "ne"
    have fl : H l = none := by walk_at "fr"
    have ff : H fo = none := by walk_at "fr"
    have hv7 : G7 D0 = some (.lst (iv vs)) := by walk_at "lk"
    have hd7 : G7 d = some (.lst [.int b9, .int b10, .int b11]) := by walk_at "lk"
    have hl7 : G7 l = some (.lst (intsV (1 + mm).toNat)) := by walk_at "lk"
    have c7 : Chg T.tabs nil H G7 := by walk_at "chg"
    have hf7 := n7.at
    clear w2 w3 w4 n5 n6 n7 cG' hv hd2
    generalize hm : (1 + mm).toNat = m at hl7
    have hm1 : 1 + mm = (m : Int) := by omega
    have hk1 : 1 + k = ((1 + k).toNat : Int) := by omega
    have hs1 : 1 + st = ((1 + st).toNat : Int) := by omega
    generalize (1 + st).toNat = sn at hs1
    generalize hkn : (1 + k).toNat = kn at hk1
    rw [hm1, hk1, hs1]
    refine while_n (fun σ G => ∃ l fo xs ys x21, σ = [x0, some (.ref d), x2, x3, x4, some (.int (sn : Nat)), x6, x7, x8, none, x10, x11, x12, x13, x14, some (.ref D0), none, some (.int (kn : Nat)), some (.int (m : Nat)), some (.ref l), some (.ref fo), x21, x22, none] ∧ Chg T.tabs nil H G ∧ G l = some (.lst xs) ∧ G fo = some (.lst ys) ∧ G D0 = some (.lst (iv vs)) ∧ G d = some (.lst [.int b9, .int b10, .int b11]) ∧ (∀ x ∈ xs, isInt x = true) ∧ xs.length + ys.length = m ∧ ys ++ lj (sn : Nat) xs.length xs = jos (sn : Nat) m (intsV m) 0)
      (fun σ G => lenAt G (σ.getD 19 none)) ⟨l, fo, _, _, _, rfl, c7, hl7, hf7, hv7, hd7, ?_, by simp [intsV], ?_⟩ ?_
    · intro x hx
      simp only [intsV, List.mem_map] at hx
      obtain ⟨i, _, rfl⟩ := hx
      rfl
    · have := lj_jos (step := (sn : Nat)) m (intsV m) 0 (by simp [intsV]) (by omega)
      simpa [intsV] using this
    · clear hl7 hf7 hv7 hd7 c7 fl ff nlf nvf
      rintro σ G ⟨l, fo, xs, ys, x21, rfl, c, g1, g2, hv, hd, hi, hle, hj⟩
      walk_at "run"
      rename_i e3 H3 n3
      refine veq_ll (by walk_at "sq") (by walk_at "sq") (isInt_flat hi) (by simp) (p := xs = []) Iff.rfl ?_
      walk_at "run"
      walk_at "if"
      · intro c3
        refine wh_step ?_
        have np : 0 < (xs.length : Int) := by have : xs.length ≠ 0 := fun z => c3 (List.length_eq_zero_iff.mp z); omega
        have r0 := Int.emod_nonneg ((sn : Int) - 1) (b := (xs.length : Int)) (by omega)
        have r1' := Int.emod_lt_of_pos ((sn : Int) - 1) np
        obtain ⟨t, ht2⟩ : ∃ t : Nat, ((sn : Int) - 1) % (xs.length : Int) = t := ⟨_, (Int.toNat_of_nonneg r0).symm⟩
        have htl : t < xs.length := by omega
        have hx : xs[t]? = some xs[t] := List.getElem?_eq_getElem htl
        have hat : atI xs (((sn : Int) - 1) % (xs.length : Int)) = some xs[t] := by
          rw [ht2, atI_nat (by omega) (by omega), ← hx]; rfl
        have hl : xs.length = (xs.length - 1) + 1 := by omega
        have k1 : cutV xs none (some (((sn : Int) - 1) % (xs.length : Int))) = xs.take t := by rw [ht2, cut_to (by omega)]; rfl
        have k2 : cutV xs (some (((sn : Int) - 1) % (xs.length : Int) + 1)) none = xs.drop (t + 1) := by
          rw [ht2, cut_from (by omega)]; congr 1
        have hz : (cutV xs (some (((sn : Int) - 1) % (xs.length : Int) + 1)) none).length + (cutV xs none (some (((sn : Int) - 1) % (xs.length : Int)))).length ≤ sizeLine := by
          rw [k1, k2]; exact le_line (by simp; omega)
        walk_at "run"
        refine ⟨_, _, by walk_at "seq", hat, ?_⟩
        walk_at "run"
        rename_i q4 G4 n4 fo' G5 n5 q6 G6 n6 q7 G7 n7 l' G8 n8
        rw [k1, k2] at n8
        have q1 : G8 l' = some (.lst (xs.drop (t + 1) ++ xs.take t)) := n8.at
        have q2 : G8 fo' = some (.lst (ys ++ [xs[t]])) := by walk_at "lk"
        refine ⟨⟨l', fo', _, _, _, rfl, by walk_at "chg", q1, q2, by walk_at "lk", by walk_at "lk", ?_, by simp; omega, ?_⟩, ?_⟩
        · intro x hx
          rcases List.mem_append.mp hx with z | z
          · exact hi x (List.mem_of_mem_drop z)
          · exact hi x (List.mem_of_mem_take z)
        · rw [← hj, show (xs.drop (t + 1) ++ xs.take t).length = xs.length - 1 by simp; omega]
          conv => rhs; rw [hl]
          have e : ∀ n, lj (sn : Nat) (n + 1) xs = xs[t]?.toList ++ lj (sn : Nat) n (xs.drop (t + 1) ++ xs.take t) := fun n => by
            show xs[(((sn : Int) - 1) % (xs.length : Int)).toNat]?.toList ++ lj (sn : Nat) n (xs.drop ((((sn : Int) - 1) % (xs.length : Int)).toNat + 1) ++ xs.take (((sn : Int) - 1) % (xs.length : Int)).toNat) = _
            rw [ht2]; rfl
          rw [e, hx, List.append_assoc]
          rfl
        · show lenAt G8 (some (.ref l')) < lenAt G (some (.ref l))
          rw [lenAt_of q1, lenAt_of g1]; simp; omega
      · intro c3
        subst c3
        rw [List.length_nil, lj, List.append_nil] at hj
        subst hj
        walk_at "run"
        exact R9 _ _ _ ⟨H, ht, d, D0, fo, vs, kn, m, sn, _, _, _, _, _, _, _, _, _, _, _, _, _, _, _, rfl, hd0, ⟨_, _, _, by walk_at "lk"⟩, by walk_at "chg", by walk_at "lk", by omega, by omega, hl2, by omega, by omega, by omega, by walk_at "lk", hN⟩
  · rintro i G' hi ⟨c2, ⟨e0, e1, e2, hd2⟩, vs, hl, hv⟩ Nx Sk hN2 hS
    have lv := iv_len (vs := vs)
    walk_at "run"
    rename_i r G2 x1 x2' y1 y2 y3 w2
    have hv2 : G2 D0 = some (.lst (iv vs)) := by walk_at "lk"
    refine hN2 _ _ _ hv2 (lt_line (by omega)) fun G3 n3 => ⟨by walk_at "chg", ⟨_, _, _, by walk_at "lk"⟩, vs ++ [r], by simp [hl], ?_⟩
    have e : iv (vs ++ [r]) = iv vs ++ [.int r] := by simp [iv]
    rw [e]; exact n3.at
end
end Z


set_option Elab.async false
set_option linter.all false
set_option maxRecDepth 100000
set_option maxHeartbeats 4000000
set_option pp.maxSteps 1500
namespace Z
open PySem PySem.Spec L2 LamX Y
local macro_rules | `(tactic| walk_at "lk") => `(tactic| first
  | assumption
  | exact Nw.at (by assumption)
  | exact Wr.at (by assumption)
  | exact Mkd.at (by assumption)
  | exact Nw.look (by assumption) (by walk_at "lk")
  | exact Mkd.look (by assumption) (by walk_at "lk")
  | exact Wr.look (by assumption) (by walk_at "lk") (by walk_at "ne")
  | exact Chg.look (by assumption) (by walk_at "lk") (by walk_at "nin") rfl
  | exact Tp.same (by assumption) _ _ (by walk_at "lk")
  | exact Grows.look (by assumption) (by walk_at "lk") rfl
  | fail)
local macro_rules | `(tactic| walk_at "ne") => `(tactic| first
  | assumption
  | exact Ne.symm (by assumption)
  | exact Nw.ne (by assumption) (by walk_at "lk")
  | exact Ne.symm (Nw.ne (by assumption) (by walk_at "lk"))
  | exact ne_fr (by assumption) (by walk_at "lk")
  | exact Ne.symm (ne_fr (by assumption) (by walk_at "lk"))
  | exact ne_fr (Mkd.nx (by assumption)) (by walk_at "lk")
  | exact Ne.symm (ne_fr (Mkd.nx (by assumption)) (by walk_at "lk"))
  | exact ne_kdn (by assumption) (by walk_at "lk") rfl
  | exact Ne.symm (ne_kdn (by assumption) (by walk_at "lk") rfl)
  | fail)
local macro_rules | `(tactic| walk_at "nin") => `(tactic| first
  | exact nin_nil
  | exact id
  | exact nin_cons (by walk_at "ne") (by walk_at "nin")
  | fail)
local macro_rules | `(tactic| walk_at "fr") => `(tactic| first
  | assumption
  | exact Nw.new (by assumption)
  | exact Mkd.nx (by assumption)
  | exact Nw.dom (by assumption) (by walk_at "fr")
  | exact Wr.dom (by assumption) (by walk_at "fr")
  | exact Mkd.dom (by assumption) (by walk_at "fr")
  | exact Chg.dom (by assumption) _ (by walk_at "fr")
  | exact Tp.dom (by assumption) _ (by walk_at "fr")
  | exact Grows.dom (by assumption) _ (by walk_at "fr")
  | fail)
local macro_rules | `(tactic| walk_at "mem") => `(tactic| first
  | assumption
  | exact List.mem_cons_self
  | (apply List.mem_cons_of_mem; walk_at "mem")
  | fail)
local macro_rules | `(tactic| walk_at "in") => `(tactic| first
  | assumption
  | (apply Or.inl; walk_at "mem")
  | (apply Or.inr; walk_at "fr")
  | fail)
local macro_rules | `(tactic| walk_at "sub") => `(tactic| first
  | exact sub_nil0
  | exact sub_nil
  | exact sub_cons (by walk_at "in") (by walk_at "sub")
  | fail)
local macro_rules | `(tactic| walk_at "chg") => `(tactic| first
  | assumption
  | exact Chg.refl _
  | exact Chg.nw (by assumption) (by walk_at "chg")
  | exact Chg.mkd (by assumption) (by walk_at "chg")
  | exact Chg.tp (by assumption) (by walk_at "chg")
  | exact Chg.gr (by assumption) (by walk_at "chg")
  | exact Chg.wr (by assumption) (by walk_at "chg") (by walk_at "in")
  | exact Chg.ch (by assumption) (by walk_at "chg") (by walk_at "sub")
  | fail)
local macro_rules | `(tactic| walk_at "sq") => `(tactic| first
  | assumption
  | exact SqL.of (by walk_at "lk")
  | exact Chg.seqL (by assumption) (by walk_at "sq") (by walk_at "nin")
  | exact SqL.nw (by assumption) (by walk_at "sq")
  | exact SqL.tp (by assumption) (by walk_at "sq")
  | exact SqL.mkd (by assumption) (by walk_at "sq")
  | exact SqL.wr (by assumption) (by walk_at "sq") (by walk_at "ne")
  | fail)
local macro_rules | `(tactic| walk_at "sqt") => `(tactic| first
  | assumption
  | exact SqT.of (by walk_at "lk")
  | exact Tp.sq (by assumption)
  | exact SqT.nw (by assumption) (by walk_at "sqt")
  | exact SqT.tp (by assumption) (by walk_at "sqt")
  | exact SqT.mkd (by assumption) (by walk_at "sqt")
  | exact SqT.chg (by assumption) (by walk_at "sqt") (by walk_at "nin")
  | fail)
local macro_rules | `(tactic| walk_at "seq") => `(tactic| first
  | assumption
  | exact .inl (by walk_at "sq")
  | exact .inr (by walk_at "sqt")
  | exact SqA.keepN (T := Env.tabs (by assumption)) (by assumption) (by walk_at "chg")
  | fail)
local macro_rules | `(tactic| walk_at "go") => `(tactic| repeat first
  | refine ⟨_, rfl, ?_⟩
  | refine ⟨_, _, _, _, rfl, And.intro (by walk_at "lk") (And.intro rfl ?_)⟩
  | refine ⟨_, _, _, rfl, And.intro (by walk_at "lk") (And.intro (by walk_at "side") ?_)⟩
  | refine ⟨_, _, And.intro rfl (And.intro rfl ?_)⟩
  | refine ⟨_, _, And.intro rfl (And.intro (by walk_at "lk") ?_)⟩
  | refine ⟨_, _, _, And.intro rfl (And.intro (by walk_at "lk") ?_)⟩
  | refine ⟨_, And.intro (by walk_at "lk") (And.intro (by walk_at "side") ?_)⟩
  | refine ⟨_, _, And.intro (by walk_at "lk") (And.intro (by walk_at "side") ?_)⟩
  | refine ⟨_, _, And.intro (by walk_at "seq") (And.intro rfl ?_)⟩
  | refine ⟨_, And.intro (by walk_at "seq") ?_⟩
  | refine ⟨_, And.intro (by walk_at "lk") (And.intro (by walk_at "side") (And.intro (by walk_at "side") (And.intro (by walk_at "side") ?_)))⟩
  | refine .inl ⟨_, _, And.intro (by walk_at "lk") (And.intro (by walk_at "lk") (And.intro (by walk_at "side") ?_))⟩
  | refine .inr ⟨_, _, And.intro (by walk_at "sqt") (And.intro (by walk_at "sqt") (And.intro (by walk_at "side") ?_))⟩
  | refine .inl ⟨_, And.intro (by walk_at "sq") ?_⟩
  | refine .inr ⟨_, And.intro (by walk_at "sqt") ?_⟩
  | refine ⟨_, _, _, _, rfl, rfl, And.intro (by walk_at "lk") (And.intro rfl ?_)⟩
  | refine fun H' (n : Wr _ _ _ H') => ?_
  | refine fun p H' (n : Nw _ p _ H') => ?_
  | refine fun r H' (n : Tp _ _ r _ H') => ?_
  | refine fun x dx H' (n : Mkd _ _ x dx H') => ?_
  | refine .inl ⟨_, _, rfl, And.intro (by walk_at "sq") (fun p H' (n : Nw _ p _ H') => ?_)⟩
  | refine .inr ⟨_, _, rfl, And.intro (by walk_at "sqt") (fun r H' (n : Tp _ _ r _ H') => ?_)⟩
  | refine ⟨_, _, rfl, And.intro (by walk_at "sq") (fun p H' (n : Nw _ p _ H') => ?_)⟩
  | refine .inl (And.intro ⟨_, by walk_at "sq"⟩ ?_)
  | refine .inr (And.intro ⟨_, by walk_at "sqt"⟩ ?_)
  | refine ⟨_, _, rfl, And.intro (by walk_at "sqt") (And.intro rfl ?_)⟩
  | refine ⟨_, _, And.intro rfl ?_⟩
  | refine ⟨_, _, _, And.intro rfl ?_⟩
  | refine And.intro rfl ?_
  | (refine ite_t ?_ ?_; exact rfl)
  | (refine ite_f ?_ ?_; exact rfl)
  | refine And.intro (by walk_at "side") ?_)
local macro_rules | `(tactic| walk_at "side") => `(tactic| first
  | exact (rfl : _ = _)
  | decide
  | exact lt1000 rfl
  | with_reducible assumption
  | exact ⟨by omega, by omega⟩
  | exact .inl ⟨by omega, by omega⟩
  | exact .inr ⟨by omega, by omega⟩
  | omega
  | (apply le_line; omega)
  | (apply lt_line; omega)
  | (apply le_line; simp <;> omega)
  | (apply lt_line; simp <;> omega)
  | fail)
local macro_rules | `(tactic| walk_at "if") => `(tactic| first
  | refine ite_nd ?_ ?_
  | refine ite_d ?_ ?_
  | refine ite_eqt ?_ ?_
  | fail)
local macro_rules | `(tactic| walk_at "roll") => `(tactic| first
  | (refine And.intro (show Dice _ _ from ⟨_, _, _, by walk_at "lk"⟩) (And.intro (by walk_at "side") (And.intro (by walk_at "side") (fun r H' r0 r1 ro => ?_))); obtain ⟨a', b', c', w⟩ := ro)
  | fail)
local macro_rules | `(tactic| walk_at "run") => `(tactic| (walk_at "go"; repeat (walk_at "roll"; walk_at "go")))
local macro_rules | `(tactic| walk_at "dp") => `(tactic| first
  | exact Dp.non
  | exact Dp.int _
  | exact Dp.str _
  | exact Dp.bl _
  | exact DpAll.nil
  | exact DpAll.cons (by walk_at "dp") (by walk_at "dp")
  | exact Dp.tup (by walk_at "sqt") (by walk_at "dp")
  | exact Dp.lst (by walk_at "sq") (by walk_at "dp")
  | fail)

section
variable {w : World} {K : PySem.W.Frag} {mg : Str → Option Value} {base : Heap}
theorem QueueAt.chg {T : Env w K mg base} {H H' : Hp} {q a b : Addr} {ins outs : List Int} {n : Int} {S : Addr → Prop} (r : QueueAt T H q a b ins outs n) (c : Chg T.tabs S H H') (h1 : ¬ S q) (h2 : ¬ S a) (h3 : ¬ S b) (tn : ∀ x, S x → ∀ o, H x = some o → isTup o = false) : QueueAt T H' q a b ins outs n :=
  queue_obj.keep S H H' c (fun x hx => by simp at hx; rcases hx with rfl | rfl | rfl <;> assumption) tn r
theorem nt_lst {H : Hp} {d : Addr} {xs : List V} (h : H d = some (.lst xs)) : ∀ x, Y.In [d] x → ∀ o, H x = some o → isTup o = false := fun x hx o e => by
  simp [Y.In] at hx; subst hx; rw [h] at e; cases e; rfl
theorem tl_law_0_6 (T : Env w K mg base) {A : Around} {outer : List PySem.Env} {s : Shared} {H : Hp} {E : XK} (hr : Room 63 (A.deeper (PyProof.Rows.envOfC "law" (defScope s_law) s.heap.objs.size T.f_law (.ref T.c_law)))) : ∃ t, PSs (cxOf (L2.CX prg w) prg w K mg base N_law "law" (defScope s_law) T.f_law (.ref T.c_law) A outer s H E) ((forBody ((defBody s_law).getD 0 (.Pass ⟨0, 0, 0, 0⟩))).drop 6) t ∧ ∀ (D : Ends) (σ : L2.St) (G : Hp), pre_law_0_6 T H D σ G → t D σ G := by
  obtain ⟨t9, P9, R9⟩ := tl_law_0_8 T (outer := outer) (s := s) (H := H) (E := E) hr
  refine ⟨_, (pss_cons (ps_asg (Y.pe_tu (pa_cons (Y.pe_mk0 T.mk_Queue (ok_Queue___init__ T) (hr.mono (by decide)) rfl T.mg_Queue T.b_Queue___init__ .nil (Y.passD rfl rfl rfl rfl)) (pa_cons (Y.pe_ls pa_nil) (pa_cons pe_int (pa_cons pe_int pa_nil))))) (Y.pg_tupK (K := K) (n := 4) rfl rfl (pgs_cons (pg_name (i := 10) sc_law.nd rfl (Or.inr rfl)) (pgs_cons (pg_name (i := 11) sc_law.nd rfl (Or.inl rfl)) (pgs_cons (pg_name (i := 12) sc_law.nd rfl (Or.inl rfl)) (pgs_cons (pg_name (i := 13) sc_law.nd rfl (Or.inl rfl)) pgs_nil))))))
  (pss_cons (ps_for (passes_of rfl) rfl (pi_range1 rfl T.no_range (pa_cons (pe_call (ok__law_roll T) (hr.mono (by decide)) rfl T.mg__law_roll T.F__law_roll.kp T.b__law_roll .nil (Y.passD rfl rfl rfl rfl) (pa_cons (pv 1) (pa_cons pe_int pa_nil))) pa_nil)) (pg_name (i := 5) sc_law.nd rfl (Or.inl rfl)) (pss_cons (ps_if (pt_cmpR (Y.op_eqK (K := K) rfl hr.units) (pe_call (ok__law_roll T) (hr.mono (by decide)) rfl T.mg__law_roll T.F__law_roll.kp T.b__law_roll .nil (Y.passD rfl rfl rfl rfl) (pa_cons (pv 1) (pa_cons pe_int pa_nil))) pe_int (nomark _)) (pss_cons (ps_set (i := 14) sc_law.nd rfl (Or.inl rfl) (pe_op Y.op_sub (pe_call (ok__law_roll T) (hr.mono (by decide)) rfl T.mg__law_roll T.F__law_roll.kp T.b__law_roll .nil (Y.passD rfl rfl rfl rfl) (pa_cons (pv 1) (pa_cons pe_int pa_nil))) pe_int))
  (pss_cons (ps_expr (pe_meth (pv 10) T.cl_Queue T.me_Queue_put (ok_Queue_put T) (hr.mono (by decide)) T.b_Queue_put .nil (Y.passD rfl rfl rfl rfl) (pa_cons (pv 14) pa_nil)))
  (pss_one (ps_set (i := 11) sc_law.nd rfl (Or.inl rfl) (pe_op (Y.op_addK (K := K) rfl) (pv 11) (Y.pe_ls (pa_cons (pv 14) pa_nil))))))) (pss_cons (ps_set (i := 12) sc_law.nd rfl (Or.inl rfl) (pe_op (Y.op_addK (K := K) rfl) (pv 12) (pe_callTy Y.call_int1 (by rfl) T.no_int (by decide +kernel) (pa_cons (pe_and (pe_cmpR (Y.op_eqK (K := K) rfl hr.units) (pv 13) pe_int (nomark _)) (pe_one (pe_cmpR (Y.op_neK (K := K) rfl hr.units) (pv 11) (Y.pe_ls pa_nil) (nomark _)))) pa_nil))))
  (pss_cons (ps_set (i := 13) sc_law.nd rfl (Or.inl rfl) (pe_ifExp (pt_cmpR (Y.op_eqK (K := K) rfl hr.units) (pv 13) pe_int (nomark _)) (pe_callB (Y.lenK (K := K) rfl) (by rfl) T.no_len (by decide +kernel) (pa_cons (pv 11) pa_nil)) (pv 13)))
  (pss_cons (ps_if (pt_cmpR (Y.op_neK (K := K) rfl hr.units) (Y.pe_toD (k := 56) T.F__law_told T.mg__law_told T.b__law_told sc__law_told T.mg_RingError (hr.mono (by decide)) (Y.pe_lamG (k := 56) T.tb_law rfl T.tm_law T.tu_law rfl ⟨lamS_by (show lamSB (defScope s_law) _ = true by decide +kernel), fun _ _ _ _ _ => rfl, fun A outer s H E f c' hr => (pe_meth0 (pv 10) T.cl_Queue T.me_Queue_take_value (ok_Queue_take_value T) (hr.mono (by decide)) T.b_Queue_take_value .nil (Y.passD rfl rfl rfl rfl))⟩) rfl rfl (Or.inl rfl) rfl (fun _ => rfl) rfl) (pe_ix (Y.ixK (K := K) rfl) (pe_op (Y.op_addK (K := K) rfl) (pv 11) (Y.pe_ls (pa_cons pe_str pa_nil))) pe_int (fun _ _ => rfl)) (nomark _)) (pss_one (ps_ret pe_bl)) pss_nil)
  (pss_cons (ps_set (i := 11) sc_law.nd rfl (Or.inl rfl) (pe_slice (Y.slK (K := K) rfl) (pv 11) (po_some pe_int) po_none))
  (pss_one (ps_set (i := 13) sc_law.nd rfl (Or.inl rfl) (pe_callB (Y.call_max2 rfl) (by rfl) T.no_max (by decide +kernel) (pa_cons pe_int (pa_cons (pe_op Y.op_sub (pv 13) pe_int) pa_nil))))))))))
  (pss_cons (ps_if (PW.pt (pw_or (pt_cmpR (Y.op_neK (K := K) rfl hr.units) (pe_meth0 (pv 10) T.cl_Queue T.me_Queue_value_count (ok_Queue_value_count T) (hr.mono (by decide)) T.b_Queue_value_count .nil (Y.passD rfl rfl rfl rfl)) (pe_callB (Y.lenK (K := K) rfl) (by rfl) T.no_len (by decide +kernel) (pa_cons (pv 11) pa_nil)) (nomark _)) (pw_or1 (pt_cmpR (Y.op_neK (K := K) rfl hr.units) (Y.pe_f T.cl_Queue T.na_Queue_poured (pv 10)) (pv 12) (nomark _))))) (pss_one (ps_ret pe_bl)) pss_nil)
  (pss_one (ps_if (pt_cmpR (Y.op_neK (K := K) rfl hr.units) (Y.pe_toD (k := 56) T.F__law_told T.mg__law_told T.b__law_told sc__law_told T.mg_RingError (hr.mono (by decide)) (Y.pe_lamG (k := 56) T.tb_law rfl T.tm_law T.tu_law rfl ⟨lamS_by (show lamSB (defScope s_law) _ = true by decide +kernel), fun _ _ _ _ _ => rfl, fun A outer s H E f c' hr => (pe_meth0 (pv 10) T.cl_Queue T.me_Queue_least_value (ok_Queue_least_value T) (hr.mono (by decide)) T.b_Queue_least_value .nil (Y.passD rfl rfl rfl rfl))⟩) rfl rfl (Or.inl rfl) rfl (fun _ => rfl) rfl) (pe_ifExp (pt_cmpR (Y.op_neK (K := K) rfl hr.units) (pv 11) (Y.pe_ls pa_nil) (nomark _)) (pe_callB (Y.cr_minK (K := K) rfl rfl) (by rfl) T.no_min (by decide +kernel) (pa_cons (pv 11) pa_nil)) pe_str) (nomark _)) (pss_one (ps_ret pe_bl)) pss_nil)))))
  P9)), ?_⟩
  intro D σ G h
  unfold pre_law_0_6 at h
  obtain ⟨H, ht, d, ⟨x0, x2, x3, x4, x5, x6, x7, x8, x10, x11, x12, x13, x14, x15, x17, x18, x19, x20, x21, x22, rfl⟩, hd0, ⟨a0, a1, a2, hd⟩, cG, hN⟩ := h
  walk_at "run"
  rename_i u dx H1 n1
  refine ⟨⟨_, n1.at⟩, fun a b H2 c2 f2 g2 r2 => ⟨rfl, ?_⟩⟩
  have hd2 : H2 d = some (.lst [.int a0, .int a1, .int a2]) := by walk_at "lk"
  have nda : d ≠ a := ne_fr f2 (by walk_at "lk")
  have ndb : d ≠ b := ne_fr g2 (by walk_at "lk")
  have ndu : d ≠ u := by walk_at "ne"
  have fu : H u = none := by walk_at "fr"
  have fa : H a = none := by walk_at "fr"
  have fb : H b = none := by walk_at "fr"
  have cH2 : Chg T.tabs nil H H2 := by walk_at "chg"
  clear n1 c2 f2 g2 hd cG
  walk_at "run"
  rename_i o H3 n3 t4 H4 n4 m H5 m0 m1 b3 b4 b5 w5
  have noa : o ≠ a := by
    obtain ⟨-, ⟨ts, h2, -⟩, -⟩ := id r2
    exact Ne.symm (by walk_at "ne")
  have nob : o ≠ b := by
    obtain ⟨-, -, ⟨ts, h2, -⟩, -⟩ := id r2
    exact Ne.symm (by walk_at "ne")
  have ndo : d ≠ o := by walk_at "ne"
  have fo : H o = none := by walk_at "fr"
  have r5 : QueueAt T H5 u a b [] [] 0 := by
    have r4 : QueueAt T H4 u a b [] [] 0 := r2.chg (S := nil) (by walk_at "chg") id id id (fun _ z => z.elim)
    have hd4 : H4 d = some (.lst [.int a0, .int a1, .int a2]) := by walk_at "lk"
    exact r4.chg (S := Y.In [d]) (w5.chg (by simp)) (by simpa [Y.In] using ndu.symm) (by simpa [Y.In] using nda.symm) (by simpa [Y.In] using ndb.symm) (nt_lst hd4)
  have cH5 : Chg T.tabs nil H H5 := by walk_at "chg"
  have ho5 : H5 o = some (.lst (iv [])) := by walk_at "lk"
  refine for_range (fun i σ G => ∃ ins outs n a o x5 x14, σ = [x0, some (.ref d), x2, x3, x4, x5, x6, x7, x8, none, some (.ref u), some (.ref o), some (.int n), some (.int (outs.length : Nat)), x14, x15, none, x17, x18, x19, x20, x21, x22, none] ∧ Chg T.tabs nil H G ∧ H a = none ∧ H o = none ∧ o ≠ a ∧ o ≠ b ∧ d ≠ a ∧ d ≠ o ∧ QueueAt T G u a b ins outs n ∧ G o = some (.lst (iv (outs.reverse ++ ins))) ∧ ins.length + outs.length ≤ i ∧ Dice G d)
    ⟨[], [], 0, a, o, _, _, rfl, cH5, fa, fo, noa, nob, nda, ndo, r5, ho5, Nat.le_refl _, _, _, _, w5.at⟩ ?_ ?_
  · clear cH5 fa fo noa nob nda ndo r5 ho5 w5 r2 n3 n4 cH2 hd2
    rintro i σ G hi ⟨ins, outs, n, a, o, x5, x14, rfl, cG, fa, fo, noa, nob, nda, ndo, rq, ho, hle, ⟨e0, e1, e2, hd⟩⟩
    have hi : i < 24 := by omega
    walk_at "run"
    rename_i r G1 ra rb b6 b7 b8 w1
    have c1 : Chg T.tabs nil H G1 := by walk_at "chg"
    have ndu : d ≠ u := by
      obtain ⟨⟨dx0, h4⟩, -⟩ := id rq
      walk_at "ne"
    have rq1 : QueueAt T G1 u a b ins outs n := rq.chg (S := Y.In [d]) (w1.chg (by simp)) (by simpa [Y.In] using ndu.symm) (by simpa [Y.In] using nda.symm) (by simpa [Y.In] using ndb.symm) (nt_lst hd)
    have ho1 : G1 o = some (.lst (iv (outs.reverse ++ ins))) := by walk_at "lk"
    have hd1 : G1 d = some (.lst [.int b6, .int b7, .int b8]) := w1.at
    clear w1 rq ho hd cG
    have lo := iv_len (vs := outs.reverse ++ ins)
    have lo2 : (outs.reverse ++ ins).length = outs.length + ins.length := by simp
    refine join_if (fun σ G => ∃ ins outs n a o x5 x14, σ = [x0, some (.ref d), x2, x3, x4, x5, x6, x7, x8, none, some (.ref u), some (.ref o), some (.int n), some (.int (outs.length : Nat)), x14, x15, none, x17, x18, x19, x20, x21, x22, none] ∧ Chg T.tabs nil H G ∧ H a = none ∧ H o = none ∧ o ≠ a ∧ o ≠ b ∧ d ≠ a ∧ d ≠ o ∧ QueueAt T G u a b ins outs n ∧ G o = some (.lst (iv (outs.reverse ++ ins))) ∧ ins.length + outs.length ≤ i + 1 ∧ Dice G d) ?_ fun N hN9 => ?_
    · clear rq1 ho1 hd1 c1 fa fo noa nda ndo nob lo lo2 hle
      rintro σ G ⟨ins, outs, n, a, o, x5, x14, rfl, cG, fa, fo, noa, nob, nda, ndo, rq, ho, hle, ⟨e0, e1, e2, hd⟩⟩
      have lo := iv_len (vs := outs.reverse ++ ins)
      have lo2 : (outs.reverse ++ ins).length = outs.length + ins.length := by simp
      obtain ⟨⟨dx0, h4⟩, -⟩ := id rq
      walk_at "run"
      refine ⟨_, _, _, _, _, rq, ?_⟩
      walk_at "run"
      walk_at "if"
      · intro z
        exact (z (by rw [lo, lo2]; push_cast; omega)).elim
      · intro z
        clear z
        walk_at "run"
        walk_at "if"
        · intro z
          exact (z rfl).elim
        · intro z
          clear z
          walk_at "run"
          refine ⟨cG.tabs ht, fun f G7 g7 nf L7 => ⟨f, _, rfl, L7, ?_⟩⟩
          have cg7 : Chg T.tabs nil G G7 := by walk_at "chg"
          have c7 : Chg T.tabs nil H G7 := by walk_at "chg"
          have rq7 : QueueAt T G7 u a b ins outs n := rq.chg (S := nil) cg7 id id id (fun _ z => z.elim)
          obtain ⟨⟨dx7, h7⟩, -⟩ := id rq7
          walk_at "go"
          refine ⟨_, _, _, _, _, rq7, c7.tabs ht, fun e1 e2 G3 c3 => err_to T.ex_RingError ?_, fun v G3 c3 hm hle2 => ?_⟩
          · have e3 : outs.reverse ++ ins = [] := by simp [e1, e2]
            walk_at "run"
            rename_i q8 G8 n8
            refine veq_ll (by walk_at "sq") (by walk_at "sq") flat_iv (by simp) (p := True) (by simp [e3, iv]) ?_
            walk_at "run"
            exact ⟨ins, outs, n, a, o, _, _, rfl, by walk_at "chg", fa, fo, noa, nob, nda, ndo, rq7.chg (S := nil) (by walk_at "chg") id id id (fun _ z => z.elim), by walk_at "lk", hle, _, _, _, by walk_at "lk"⟩
          · have e3 : outs.reverse ++ ins ≠ [] := by
              intro z
              simp at z
              rw [z.1, z.2] at hm
              exact nomatch hm
            walk_at "run"
            rename_i q8 G8 n8
            refine veq_ll (by walk_at "sq") (by walk_at "sq") flat_iv (by simp) (p := False) (by simp [iv]; intro h; exact fun h2 => e3 (by simp [h, h2])) ?_
            walk_at "run"
            have sq8 : SqL K G8 o ((outs.reverse ++ ins).map V.int) := .of (by
              have : G8 o = some (.lst (iv (outs.reverse ++ ins))) := by walk_at "lk"
              exact this)
            refine ⟨o, outs.reverse ++ ins, rfl, sq8, List.length_pos_iff.mpr e3, fun m hm2 hle3 => ?_⟩
            obtain rfl : v = m := by
              have h1 := hle2 m (by simp at hm2 ⊢; exact hm2)
              have h2 := hle3 v (by simp at hm ⊢; exact hm)
              omega
            walk_at "run"
            walk_at "if"
            · intro z
              exact (z rfl).elim
            · intro z
              clear z
              walk_at "run"
              exact ⟨ins, outs, n, a, o, _, _, rfl, by walk_at "chg", fa, fo, noa, nob, nda, ndo, rq7.chg (S := nil) (by walk_at "chg") id id id (fun _ z => z.elim), by walk_at "lk", hle, _, _, _, by walk_at "lk"⟩
    · obtain ⟨⟨dx0, h4⟩, -⟩ := id rq1
      walk_at "if"
      · intro c2
        walk_at "run"
        rename_i v G2 va vb b10 b11 b12 w2
        have rq2 : QueueAt T G2 u a b ins outs n := rq1.chg (S := Y.In [d]) (w2.chg (by simp)) (by simpa [Y.In] using ndu.symm) (by simpa [Y.In] using nda.symm) (by simpa [Y.In] using ndb.symm) (nt_lst hd1)
        refine ⟨_, _, _, _, _, rq2, by omega, fun G3 c3 r3 => ?_⟩
        have ho3 : G3 o = some (.lst (iv (outs.reverse ++ ins))) := c3.look (by walk_at "lk") (by simpa [Y.In] using noa) rfl
        have hd3 : G3 d = some (.lst [.int b10, .int b11, .int b12]) := c3.look w2.at (by simpa [Y.In] using nda) rfl
        have cG3 : Chg T.tabs nil H G3 := by walk_at "chg"
        walk_at "run"
        rename_i q4 G4 n4 o' G5 n5
        have noa' : o' ≠ a := by
          obtain ⟨-, ⟨ts, h2, -⟩, -⟩ := id r3
          exact Ne.symm (by walk_at "ne")
        have nob' : o' ≠ b := by
          obtain ⟨-, -, ⟨ts, h2, -⟩, -⟩ := id r3
          exact Ne.symm (by walk_at "ne")
        have ndo' : d ≠ o' := by walk_at "ne"
        have fo' : H o' = none := by walk_at "fr"
        have e : iv (outs.reverse ++ ins) ++ [.int (v - 10)] = iv (outs.reverse ++ (ins ++ [v - 10])) := by simp [iv]
        rw [e] at n5
        exact hN9 _ _ ⟨ins ++ [v - 10], outs, n, a, o', _, _, rfl, by walk_at "chg", fa, fo', noa', nob', nda, ndo', r3.chg (S := nil) (by walk_at "chg") id id id (fun _ z => z.elim), n5.at, by simp; omega, _, _, _, by walk_at "lk"⟩
      · intro c2
        rcases List.eq_nil_or_concat outs with e | ⟨o1, x, e⟩
        · subst e
          cases ins with
          | nil =>
            walk_at "run"
            rename_i q2 G2 n2
            refine veq_ll (by walk_at "sq") (by walk_at "sq") flat_iv (by simp) (p := True) (by simp [iv]) ?_
            walk_at "run"
            refine ⟨Chg.tabs (H := H) (S := nil) (by walk_at "chg") ht, fun f G7 g7 nf L7 => ⟨f, _, rfl, L7, ?_⟩⟩
            have c7 : Chg T.tabs nil H G7 := by walk_at "chg"
            have rq7 : QueueAt T G7 u a b [] [] n := rq1.chg (S := nil) (by walk_at "chg") id id id (fun _ z => z.elim)
            obtain ⟨⟨dx7, h7⟩, -⟩ := id rq7
            walk_at "go"
            refine ⟨_, _, _, _, _, rq7, fun _ _ G3 c3 => err_to T.ex_RingError ?_, (fun o x e => by simp at e), (fun x xs _ e => nomatch e)⟩
            walk_at "run"
            rename_i q8 G8 n8 q9 G9 n9 o' G10 n10
            have rq10 : QueueAt T G10 u a b [] [] n := rq7.chg (S := nil) (by walk_at "chg") id id id (fun _ z => z.elim)
            have noa' : o' ≠ a := by
              obtain ⟨-, ⟨ts, h2, -⟩, -⟩ := id rq7
              exact Ne.symm (by walk_at "ne")
            have nob' : o' ≠ b := by
              obtain ⟨-, -, ⟨ts, h2, -⟩, -⟩ := id rq7
              exact Ne.symm (by walk_at "ne")
            have ndo' : d ≠ o' := by walk_at "ne"
            have fo' : H o' = none := by walk_at "fr"
            exact hN9 _ _ ⟨[], [], n, a, o', some (.int (0 + (i : Nat))), x14, (by simp [iv]; decide), by walk_at "chg", fa, fo', noa', nob', nda, ndo', rq10, n10.at, by omega, _, _, _, by walk_at "lk"⟩
          | cons x xs =>
            walk_at "run"
            rename_i q2 G2 n2
            refine veq_ll (by walk_at "sq") (by walk_at "sq") flat_iv (by simp) (p := False) (by simp [iv]) ?_
            walk_at "run"
            refine ⟨Chg.tabs (H := H) (S := nil) (by walk_at "chg") ht, fun f G7 g7 nf L7 => ⟨f, _, rfl, L7, ?_⟩⟩
            have c7 : Chg T.tabs nil H G7 := by walk_at "chg"
            have rq7 : QueueAt T G7 u a b (x :: xs) [] n := rq1.chg (S := nil) (by walk_at "chg") id id id (fun _ z => z.elim)
            obtain ⟨⟨dx7, h7⟩, -⟩ := id rq7
            walk_at "go"
            refine ⟨_, _, _, _, _, rq7, (fun e => nomatch e), (fun o x e => by simp at e), (fun x' xs' _ e a' G3 c3 f3 r3 => ?_)⟩
            cases e
            have ho3 : G3 o = some (.lst (iv (x :: xs))) := c3.look (by walk_at "lk") (by
              have h1 : o ≠ u := by walk_at "ne"
              simp [Y.In]; exact ⟨h1, nob⟩) rfl
            have hd3 : G3 d = some (.lst [.int b6, .int b7, .int b8]) := c3.look (by walk_at "lk") (by simp [Y.In]; exact ⟨ndu, ndb⟩) rfl
            have cG3 : Chg T.tabs nil H G3 := by walk_at "chg"
            have nda' : d ≠ a' := ne_fr f3 (by walk_at "lk")
            have fa' : H a' = none := c7.dom _ f3
            have lo4 : (iv (x :: xs)).length ≤ 30 := by rw [iv_len]; simp at hle ⊢; omega
            walk_at "run"
            refine ⟨_, _, by walk_at "seq", (show atI (V.int x :: (iv xs ++ [V.str "RingError"])) 0 = some (V.int x) from atI_0), ?_⟩
            walk_at "run"
            walk_at "if"
            · intro z
              exact (z rfl).elim
            · intro z
              clear z
              walk_at "run"
              rename_i q8 G8 n8 q9 G9 n9 o' G10 n10
              rw [cut_from (by decide)] at n10
              have n10' : Nw G9 o' (.lst (iv (xs.reverse.reverse ++ []))) G10 := by
                have e : iv (xs.reverse.reverse ++ []) = (iv (x :: xs)).drop 1 := by simp [iv]
                rw [e]; exact n10
              have noa' : o' ≠ a' := by
                obtain ⟨-, ⟨ts, h2, -⟩, -⟩ := id r3
                exact Ne.symm (by walk_at "ne")
              have nob' : o' ≠ b := by
                obtain ⟨-, -, ⟨ts, h2, -⟩, -⟩ := id r3
                exact Ne.symm (by walk_at "ne")
              have ndo' : d ≠ o' := by walk_at "ne"
              have fo' : H o' = none := by walk_at "fr"
              exact hN9 _ _ ⟨[], xs.reverse, n + 1, a', o', some (.int (0 + (i : Nat))), x14, (by simp [iv]), by walk_at "chg", fa', fo', noa', nob', nda', ndo', r3.chg (S := nil) (by walk_at "chg") id id id (fun _ z => z.elim), n10'.at, by simp at hle ⊢; omega, _, _, _, by walk_at "lk"⟩
        · rw [List.concat_eq_append] at e
          subst e
          walk_at "run"
          have hz : ¬ ((((o1 ++ [x]).length : Nat) : Int) = 0) := by simp; omega
          rw [if_neg (show ¬ (id (decide ((((o1 ++ [x]).length : Nat) : Int) = 0)) = true) from fun q => hz (of_decide_eq_true q))]
          walk_at "run"
          walk_at "if"
          · intro z
            exact (hz z).elim
          · intro z
            clear z
            have ei : iv ((o1 ++ [x]).reverse ++ ins) = V.int x :: iv (o1.reverse ++ ins) := by simp [iv]
            have lo5 : (iv ((o1 ++ [x]).reverse ++ ins)).length ≤ 30 := by rw [lo, lo2]; simp at hle ⊢; omega
            walk_at "run"
            refine ⟨Chg.tabs (H := H) (S := nil) (by walk_at "chg") ht, fun f G7 g7 nf L7 => ⟨f, _, rfl, L7, ?_⟩⟩
            have c7 : Chg T.tabs nil H G7 := by walk_at "chg"
            have rq7 : QueueAt T G7 u a b ins (o1 ++ [x]) n := rq1.chg (S := nil) (by walk_at "chg") id id id (fun _ z => z.elim)
            obtain ⟨⟨dx7, h7⟩, -⟩ := id rq7
            walk_at "go"
            refine ⟨_, _, _, _, _, rq7, (fun _ e => by simp at e), (fun o2 x2 e G3 c3 r3 => ?_), (fun x' xs' e => by simp at e)⟩
            obtain ⟨rfl, rfl⟩ : o1 = o2 ∧ x = x2 := by simpa using e
            have ho3 : G3 o = some (.lst (iv ((o1 ++ [x]).reverse ++ ins))) := c3.look (by walk_at "lk") (by
              have h1 : o ≠ u := by walk_at "ne"
              simp [Y.In]; exact ⟨h1, nob⟩) rfl
            have hd3 : G3 d = some (.lst [.int b6, .int b7, .int b8]) := c3.look (by walk_at "lk") (by simp [Y.In]; exact ⟨ndu, ndb⟩) rfl
            have cG3 : Chg T.tabs nil H G3 := by walk_at "chg"
            walk_at "run"
            refine ⟨_, _, by walk_at "seq", (show atI (iv ((o1 ++ [x]).reverse ++ ins) ++ [V.str "RingError"]) 0 = some (V.int x) by rw [ei]; exact atI_0), ?_⟩
            walk_at "run"
            walk_at "if"
            · intro z
              exact (z rfl).elim
            · intro z
              clear z
              walk_at "run"
              rename_i q8 G8 n8 q9 G9 n9 o' G10 n10
              rw [cut_from (by decide)] at n10
              have n10' : Nw G9 o' (.lst (iv (o1.reverse ++ ins))) G10 := by
                have e : iv (o1.reverse ++ ins) = (iv ((o1 ++ [x]).reverse ++ ins)).drop 1 := by rw [ei]; rfl
                rw [e]; exact n10
              have noa' : o' ≠ a := by
                obtain ⟨-, ⟨ts, h2, -⟩, -⟩ := id r3
                exact Ne.symm (by walk_at "ne")
              have nob' : o' ≠ b := by
                obtain ⟨-, -, ⟨ts, h2, -⟩, -⟩ := id r3
                exact Ne.symm (by walk_at "ne")
              have ndo' : d ≠ o' := by walk_at "ne"
              have fo' : H o' = none := by walk_at "fr"
              exact hN9 _ _ ⟨ins, o1, n, a, o', some (.int (0 + (i : Nat))), x14, (by simp), by walk_at "chg", fa, fo', noa', nob', nda, ndo', r3.chg (S := nil) (by walk_at "chg") id id id (fun _ z => z.elim), n10'.at, by simp at hle ⊢; omega, _, _, _, by walk_at "lk"⟩
  · clear cH5 fa fo noa nob nda ndo r5 ho5 w5 r2 n3 n4 cH2 hd2
    rintro σ G ⟨ins, outs, n, a, o, x5, x14, rfl, cG, fa, fo, noa, nob, nda, ndo, rq, ho, hle, hd⟩
    walk_at "run"
    exact R9 _ _ _ ⟨H, ht, d, ⟨_, _, _, _, _, _, _, _, _, _, _, _, _, _, _, _, _, _, _, _, rfl⟩, hd0, hd, cG, hN⟩
end
end Z


set_option Elab.async false
set_option linter.all false
set_option maxRecDepth 100000
set_option maxHeartbeats 4000000
set_option pp.maxSteps 1500
namespace Z
open PySem PySem.Spec L2 LamX Y
local macro_rules | `(tactic| walk_at "lk") => `(tactic| first
  | assumption
  | exact Nw.at (by assumption)
  | exact Wr.at (by assumption)
  | exact Mkd.at (by assumption)
  | exact Nw.look (by assumption) (by walk_at "lk")
  | exact Mkd.look (by assumption) (by walk_at "lk")
  | exact Wr.look (by assumption) (by walk_at "lk") (by walk_at "ne")
  | exact Chg.look (by assumption) (by walk_at "lk") (by walk_at "nin") rfl
  | exact Tp.same (by assumption) _ _ (by walk_at "lk")
  | exact Grows.look (by assumption) (by walk_at "lk") rfl
  | fail)
local macro_rules | `(tactic| walk_at "ne") => `(tactic| first
  | assumption
  | exact Ne.symm (by assumption)
  | exact Nw.ne (by assumption) (by walk_at "lk")
  | exact Ne.symm (Nw.ne (by assumption) (by walk_at "lk"))
  | exact ne_fr (by assumption) (by walk_at "lk")
  | exact Ne.symm (ne_fr (by assumption) (by walk_at "lk"))
  | exact ne_fr (Mkd.nx (by assumption)) (by walk_at "lk")
  | exact Ne.symm (ne_fr (Mkd.nx (by assumption)) (by walk_at "lk"))
  | exact ne_kdn (by assumption) (by walk_at "lk") rfl
  | exact Ne.symm (ne_kdn (by assumption) (by walk_at "lk") rfl)
  | fail)
local macro_rules | `(tactic| walk_at "nin") => `(tactic| first
  | exact nin_nil
  | exact id
  | exact nin_cons (by walk_at "ne") (by walk_at "nin")
  | fail)
local macro_rules | `(tactic| walk_at "fr") => `(tactic| first
  | assumption
  | exact Nw.new (by assumption)
  | exact Mkd.nx (by assumption)
  | exact Nw.dom (by assumption) (by walk_at "fr")
  | exact Wr.dom (by assumption) (by walk_at "fr")
  | exact Mkd.dom (by assumption) (by walk_at "fr")
  | exact Chg.dom (by assumption) _ (by walk_at "fr")
  | exact Tp.dom (by assumption) _ (by walk_at "fr")
  | exact Grows.dom (by assumption) _ (by walk_at "fr")
  | fail)
local macro_rules | `(tactic| walk_at "mem") => `(tactic| first
  | assumption
  | exact List.mem_cons_self
  | (apply List.mem_cons_of_mem; walk_at "mem")
  | fail)
local macro_rules | `(tactic| walk_at "in") => `(tactic| first
  | assumption
  | (apply Or.inl; walk_at "mem")
  | (apply Or.inr; walk_at "fr")
  | fail)
local macro_rules | `(tactic| walk_at "sub") => `(tactic| first
  | exact sub_nil0
  | exact sub_nil
  | exact sub_cons (by walk_at "in") (by walk_at "sub")
  | fail)
local macro_rules | `(tactic| walk_at "chg") => `(tactic| first
  | assumption
  | exact Chg.refl _
  | exact Chg.nw (by assumption) (by walk_at "chg")
  | exact Chg.mkd (by assumption) (by walk_at "chg")
  | exact Chg.tp (by assumption) (by walk_at "chg")
  | exact Chg.gr (by assumption) (by walk_at "chg")
  | exact Chg.wr (by assumption) (by walk_at "chg") (by walk_at "in")
  | exact Chg.ch (by assumption) (by walk_at "chg") (by walk_at "sub")
  | fail)
local macro_rules | `(tactic| walk_at "sq") => `(tactic| first
  | assumption
  | exact SqL.of (by walk_at "lk")
  | exact Chg.seqL (by assumption) (by walk_at "sq") (by walk_at "nin")
  | exact SqL.nw (by assumption) (by walk_at "sq")
  | exact SqL.tp (by assumption) (by walk_at "sq")
  | exact SqL.mkd (by assumption) (by walk_at "sq")
  | exact SqL.wr (by assumption) (by walk_at "sq") (by walk_at "ne")
  | fail)
local macro_rules | `(tactic| walk_at "sqt") => `(tactic| first
  | assumption
  | exact SqT.of (by walk_at "lk")
  | exact Tp.sq (by assumption)
  | exact SqT.nw (by assumption) (by walk_at "sqt")
  | exact SqT.tp (by assumption) (by walk_at "sqt")
  | exact SqT.mkd (by assumption) (by walk_at "sqt")
  | exact SqT.chg (by assumption) (by walk_at "sqt") (by walk_at "nin")
  | fail)
local macro_rules | `(tactic| walk_at "seq") => `(tactic| first
  | assumption
  | exact .inl (by walk_at "sq")
  | exact .inr (by walk_at "sqt")
  | exact SqA.keepN (T := Env.tabs (by assumption)) (by assumption) (by walk_at "chg")
  | fail)
local macro_rules | `(tactic| walk_at "go") => `(tactic| repeat first
  | refine ⟨_, rfl, ?_⟩
  | refine ⟨_, _, _, _, rfl, And.intro (by walk_at "lk") (And.intro rfl ?_)⟩
  | refine ⟨_, _, _, rfl, And.intro (by walk_at "lk") (And.intro (by walk_at "side") ?_)⟩
  | refine ⟨_, _, And.intro rfl (And.intro rfl ?_)⟩
  | refine ⟨_, _, And.intro rfl (And.intro (by walk_at "lk") ?_)⟩
  | refine ⟨_, _, _, And.intro rfl (And.intro (by walk_at "lk") ?_)⟩
  | refine ⟨_, And.intro (by walk_at "lk") (And.intro (by walk_at "side") ?_)⟩
  | refine ⟨_, _, And.intro (by walk_at "lk") (And.intro (by walk_at "side") ?_)⟩
  | refine ⟨_, _, And.intro (by walk_at "seq") (And.intro rfl ?_)⟩
  | refine ⟨_, And.intro (by walk_at "seq") ?_⟩
  | refine ⟨_, And.intro (by walk_at "lk") (And.intro (by walk_at "side") (And.intro (by walk_at "side") (And.intro (by walk_at "side") ?_)))⟩
  | refine .inl ⟨_, _, And.intro (by walk_at "lk") (And.intro (by walk_at "lk") (And.intro (by walk_at "side") ?_))⟩
  | refine .inr ⟨_, _, And.intro (by walk_at "sqt") (And.intro (by walk_at "sqt") (And.intro (by walk_at "side") ?_))⟩
  | refine .inl ⟨_, And.intro (by walk_at "sq") ?_⟩
  | refine .inr ⟨_, And.intro (by walk_at "sqt") ?_⟩
  | refine ⟨_, _, _, _, rfl, rfl, And.intro (by walk_at "lk") (And.intro rfl ?_)⟩
  | refine fun H' (n : Wr _ _ _ H') => ?_
  | refine fun p H' (n : Nw _ p _ H') => ?_
  | refine fun r H' (n : Tp _ _ r _ H') => ?_
  | refine fun x dx H' (n : Mkd _ _ x dx H') => ?_
  | refine .inl ⟨_, _, rfl, And.intro (by walk_at "sq") (fun p H' (n : Nw _ p _ H') => ?_)⟩
  | refine .inr ⟨_, _, rfl, And.intro (by walk_at "sqt") (fun r H' (n : Tp _ _ r _ H') => ?_)⟩
  | refine ⟨_, _, rfl, And.intro (by walk_at "sq") (fun p H' (n : Nw _ p _ H') => ?_)⟩
  | refine .inl (And.intro ⟨_, by walk_at "sq"⟩ ?_)
  | refine .inr (And.intro ⟨_, by walk_at "sqt"⟩ ?_)
  | refine ⟨_, _, rfl, And.intro (by walk_at "sqt") (And.intro rfl ?_)⟩
  | refine ⟨_, _, And.intro rfl ?_⟩
  | refine ⟨_, _, _, And.intro rfl ?_⟩
  | refine And.intro rfl ?_
  | (refine ite_t ?_ ?_; exact rfl)
  | (refine ite_f ?_ ?_; exact rfl)
  | refine And.intro (by walk_at "side") ?_)
local macro_rules | `(tactic| walk_at "side") => `(tactic| first
  | exact (rfl : _ = _)
  | decide
  | exact lt1000 rfl
  | with_reducible assumption
  | exact ⟨by omega, by omega⟩
  | exact .inl ⟨by omega, by omega⟩
  | exact .inr ⟨by omega, by omega⟩
  | omega
  | (apply le_line; omega)
  | (apply lt_line; omega)
  | (apply le_line; simp <;> omega)
  | (apply lt_line; simp <;> omega)
  | fail)
local macro_rules | `(tactic| walk_at "if") => `(tactic| first
  | refine ite_nd ?_ ?_
  | refine ite_d ?_ ?_
  | refine ite_eqt ?_ ?_
  | fail)
local macro_rules | `(tactic| walk_at "roll") => `(tactic| first
  | (refine And.intro (show Dice _ _ from ⟨_, _, _, by walk_at "lk"⟩) (And.intro (by walk_at "side") (And.intro (by walk_at "side") (fun r H' r0 r1 ro => ?_))); obtain ⟨a', b', c', w⟩ := ro)
  | fail)
local macro_rules | `(tactic| walk_at "run") => `(tactic| (walk_at "go"; repeat (walk_at "roll"; walk_at "go")))
local macro_rules | `(tactic| walk_at "dp") => `(tactic| first
  | exact Dp.non
  | exact Dp.int _
  | exact Dp.str _
  | exact Dp.bl _
  | exact DpAll.nil
  | exact DpAll.cons (by walk_at "dp") (by walk_at "dp")
  | exact Dp.tup (by walk_at "sqt") (by walk_at "dp")
  | exact Dp.lst (by walk_at "sq") (by walk_at "dp")
  | fail)

section
variable {w : World} {K : PySem.W.Frag} {mg : Str → Option Value} {base : Heap}
theorem tl_law_0_1 (T : Env w K mg base) {A : Around} {outer : List PySem.Env} {s : Shared} {H : Hp} {E : XK} (hr : Room 63 (A.deeper (PyProof.Rows.envOfC "law" (defScope s_law) s.heap.objs.size T.f_law (.ref T.c_law)))) : ∃ t, PSs (cxOf (L2.CX prg w) prg w K mg base N_law "law" (defScope s_law) T.f_law (.ref T.c_law) A outer s H E) ((forBody ((defBody s_law).getD 0 (.Pass ⟨0, 0, 0, 0⟩))).drop 1) t ∧ ∀ (D : Ends) (σ : L2.St) (G : Hp), pre_law_0_1 T H D σ G → t D σ G := by
  obtain ⟨t9, P9, R9⟩ := tl_law_0_6 T (outer := outer) (s := s) (H := H) (E := E) hr
  refine ⟨_, (pss_cons (ps_asg (Y.pe_tu (pa_cons (pe_op (Y.op_addK (K := K) rfl) pe_int (pe_call (ok__law_roll T) (hr.mono (by decide)) rfl T.mg__law_roll T.F__law_roll.kp T.b__law_roll .nil (Y.passD rfl rfl rfl rfl) (pa_cons (pv 1) (pa_cons pe_int pa_nil)))) (pa_cons (Y.pe_ls pa_nil) pa_nil))) (Y.pg_tupK (K := K) (n := 2) rfl rfl (pgs_cons (pg_name (i := 2) sc_law.nd rfl (Or.inr rfl)) (pgs_cons (pg_name (i := 3) sc_law.nd rfl (Or.inr rfl)) pgs_nil))))
  (pss_cons (ps_set (i := 4) sc_law.nd rfl (Or.inr rfl) (Y.pe_mk T.mk_Last (ok_Last___init__ T) (hr.mono (by decide)) rfl T.mg_Last T.b_Last___init__ .nil (Y.passD rfl rfl rfl rfl) (pa_cons (pv 2) pa_nil)))
  (pss_cons (ps_for (passes_of rfl) rfl (pi_range1 rfl T.no_range (pa_cons (pe_call (ok__law_roll T) (hr.mono (by decide)) rfl T.mg__law_roll T.F__law_roll.kp T.b__law_roll .nil (Y.passD rfl rfl rfl rfl) (pa_cons (pv 1) (pa_cons pe_int pa_nil))) pa_nil)) (pg_name (i := 5) sc_law.nd rfl (Or.inl rfl)) (pss_cons (ps_set (i := 6) sc_law.nd rfl (Or.inl rfl) (pe_call (ok__law_roll T) (hr.mono (by decide)) rfl T.mg__law_roll T.F__law_roll.kp T.b__law_roll .nil (Y.passD rfl rfl rfl rfl) (pa_cons (pv 1) (pa_cons pe_int pa_nil))))
  (pss_cons (ps_set (i := 7) sc_law.nd rfl (Or.inl rfl) (pe_ifExp (pt_cmpR Y.op_ge (pe_callB (Y.lenK (K := K) rfl) (by rfl) T.no_len (by decide +kernel) (pa_cons (pv 3) pa_nil)) (pv 2) (nomark _)) (pe_ix (Y.ixK (K := K) rfl) (pv 3) (pe_op Y.op_sub (pe_callB (Y.lenK (K := K) rfl) (by rfl) T.no_len (by decide +kernel) (pa_cons (pv 3) pa_nil)) (pv 2)) (fun _ _ => rfl)) pe_non))
  (pss_cons (ps_set (i := 3) sc_law.nd rfl (Or.inr rfl) (pe_op (Y.op_addK (K := K) rfl) (pv 3) (Y.pe_ls (pa_cons (pv 6) pa_nil))))
  (pss_cons (ps_if (PW.pt (pw_or (pt_cmpR (Y.op_neK (K := K) rfl hr.units) (pe_meth (pv 4) T.cl_Last T.me_Last_put (ok_Last_put T) (hr.mono (by decide)) T.b_Last_put .nil (Y.passD rfl rfl rfl rfl) (pa_cons (pv 6) pa_nil)) (pv 7) (nomark _)) (pw_or1 (pt_cmpR (Y.op_neK (K := K) rfl hr.units) (Y.pe_f T.cl_Last T.na_Last_came (pv 4)) (pe_callB (Y.lenK (K := K) rfl) (by rfl) T.no_len (by decide +kernel) (pa_cons (pv 3) pa_nil)) (nomark _))))) (pss_one (ps_ret pe_bl)) pss_nil)
  (pss_one (ps_if (pt_cmpR (Y.op_neK (K := K) rfl hr.units) (pe_callTy (Y.listK (K := K) rfl) (by rfl) T.no_list (by decide +kernel) (pa_cons (pe_meth0 (Y.pe_f T.cl_Last T.na_Last_ring (pv 4)) T.cl_Ring T.me_Ring_all_items (ok_Ring_all_items T) (hr.mono (by decide)) T.b_Ring_all_items .nil (Y.passD rfl rfl rfl rfl)) pa_nil)) (pe_slice (Y.slK (K := K) rfl) (pv 3) (po_some (pe_callB (Y.call_max2 rfl) (by rfl) T.no_max (by decide +kernel) (pa_cons pe_int (pa_cons (pe_op Y.op_sub (pe_callB (Y.lenK (K := K) rfl) (by rfl) T.no_len (by decide +kernel) (pa_cons (pv 3) pa_nil)) (pv 2)) pa_nil)))) po_none) (nomark _)) (pss_one (ps_ret pe_bl)) pss_nil)))))))
  (pss_cons (ps_setLc (i := 8) (own := [("number", 9)]) rfl sc_law.nd rfl rfl (sw_true rfl rfl rfl (by decide +kernel)) (pi_range2 rfl T.no_range (pa_cons (pe_un un_neg pe_int) (pa_cons (pe_op (Y.op_addK (K := K) rfl) (pe_callB (Y.lenK (K := K) rfl) (by rfl) T.no_len (by decide +kernel) (pa_cons (pv 3) pa_nil)) pe_int) pa_nil))) (blkOk_by (own := [("number", 9)]) (N := N_law) (sc := defScope s_law) (by decide +kernel)) (fun _ _ _ _ _ => (pg_name (i := 9) sc_law.nd rfl (Or.inr rfl))) (fun _ _ _ _ _ => pts_nil) (fun _ _ _ _ _ => (Y.pe_toL (k := 56) rfl T.F__law_told T.mg__law_told T.b__law_told sc__law_told T.mg_RingError (hr.mono (by decide)) T.tb_law rfl T.tm_law T.tu_law rfl ⟨lamS_by (by kernel_rfl), fun _ _ _ _ _ => rfl, fun A outer s H E f c' hr => (pe_meth (pv 4) T.cl_Last T.me_Last_item_from (ok_Last_item_from T) (hr.mono (by decide)) T.b_Last_item_from .nil (Y.passD rfl rfl rfl rfl) (pa_cons (pv 9) pa_nil))⟩ rfl rfl (Or.inl rfl) rfl (fun _ => rfl) rfl)))
  (pss_cons (ps_if (pt_cmpR (Y.op_neK (K := K) rfl hr.units) (pv 8) (pe_lc (own := [("number", 9)]) rfl sc_law.nd (pi_range2 rfl T.no_range (pa_cons (pe_un un_neg pe_int) (pa_cons (pe_op (Y.op_addK (K := K) rfl) (pe_callB (Y.lenK (K := K) rfl) (by rfl) T.no_len (by decide +kernel) (pa_cons (pv 3) pa_nil)) pe_int) pa_nil))) (blkOk_by (own := [("number", 9)]) (N := N_law) (sc := defScope s_law) (by decide +kernel)) (fun _ _ _ _ _ => (pg_name (i := 9) sc_law.nd rfl (Or.inl rfl))) (fun _ _ _ _ _ => pts_nil) (fun _ _ _ _ _ => (pe_ifExp (PW.pt (pw_and (pt_chain Y.op_le Y.op_lt (pe_op Y.op_sub (pe_callB (Y.lenK (K := K) rfl) (by rfl) T.no_len (by decide +kernel) (pa_cons (pv 3) pa_nil)) (pv 2)) (pv 9) (pe_callB (Y.lenK (K := K) rfl) (by rfl) T.no_len (by decide +kernel) (pa_cons (pv 3) pa_nil))) (pw_and1 (pt_cmpR Y.op_ge (pv 9) pe_int (nomark _))))) (pe_ix (Y.ixK (K := K) rfl) (pv 3) (pv 9) (fun _ _ => rfl)) pe_str))) (nomark _)) (pss_one (ps_ret pe_bl)) pss_nil)
  P9))))), ?_⟩
  intro D σ G h
  unfold pre_law_0_1 at h
  obtain ⟨H, ht, d, ⟨x0, x2, x3, x4, x5, x6, x7, x8, x10, x11, x12, x13, x14, x15, x17, x18, x19, x20, x21, x22, rfl⟩, hd0, ⟨a0, a1, a2, hd⟩, cG, hN⟩ := h
  walk_at "run"
  rename_i r1 H1 r10 r11 b0 b1 b2 w1 c H2 n2 t3 H3 n3 q dx H4 n4
  refine ⟨⟨_, n4.at⟩, fun z => (z ⟨by omega, by omega⟩).elim, fun k1 k2 p l H5 c5 f5 g5 r5 => ⟨rfl, ?_⟩⟩
  have ncl : c ≠ l := by walk_at "ne"
  have ndl : d ≠ l := by walk_at "ne"
  have ndc : d ≠ c := by walk_at "ne"
  have hd5 : H5 d = some (.lst [.int b0, .int b1, .int b2]) := by walk_at "lk"
  have hc5 : H5 c = some (.lst (iv [])) := by walk_at "lk"
  have fq : H q = none := by walk_at "fr"
  have fp : H p = none := by walk_at "fr"
  have fl : H l = none := by walk_at "fr"
  have fc : H c = none := by walk_at "fr"
  have c5' : Chg T.tabs nil H H5 := by walk_at "chg"
  clear w1 n2 n3 n4 c5 f5 g5 hd
  generalize hk : (1 + r1).toNat = k at r5
  have hk1 : (1 + r1) = (k : Int) := by omega
  have hk0 : 1 ≤ k := by omega
  rw [hk1] at k1 k2 ⊢
  walk_at "run"
  rename_i m H6 m0 m1 b3 b4 b5 w6
  have nqd : q ≠ d := by
    obtain ⟨⟨dx0, h4⟩, -⟩ := id r5
    walk_at "ne"
  have npd : p ≠ d := by
    obtain ⟨-, ⟨cap, dx0, st0, pl0, ⟨h4, h5⟩, -⟩, -⟩ := id r5
    walk_at "ne"
  have r50 : LastAt T H5 q p l (iv (lastk [] k)) k 0 := by
    have e : iv (lastk [] k) = [] := by simp [lastk, iv]
    rw [e]; exact r5
  have r6 : LastAt T H6 q p l (iv (lastk [] k)) k ([] : List Int).length := r50.chg (tb := T.tabs) (S := Y.In [d]) (w6.chg (by simp)) (by simpa [Y.In] using nqd) (by simpa [Y.In] using npd) (by simpa [Y.In] using ndl.symm)
  have hc6 : H6 c = some (.lst (iv [])) := by walk_at "lk"
  have c6' : Chg T.tabs nil H H6 := by walk_at "chg"
  refine for_range (fun i σ G => ∃ cs l c x5 x6 x7, σ = [x0, some (.ref d), some (.int (k : Nat)), some (.ref c), some (.ref q), x5, x6, x7, x8, none, x10, x11, x12, x13, x14, x15, none, x17, x18, x19, x20, x21, x22, none] ∧ Chg T.tabs nil H G ∧ H l = none ∧ H c = none ∧ c ≠ l ∧ d ≠ l ∧ d ≠ c ∧ LastAt T G q p l (iv (lastk cs k)) k cs.length ∧ G c = some (.lst (iv cs)) ∧ cs.length ≤ i ∧ Dice G d)
    ⟨[], l, c, _, _, _, rfl, c6', fl, fc, ncl, ndl, ndc, r6, hc6, Nat.le_refl _, _, _, _, w6.at⟩ ?_ ?_
  · clear c6' fl fc ncl ndl ndc r6 hc6 r50 r5 c5' hc5 hd5 w6
    rintro i σ G hi ⟨cs, l, c, x5, x6, x7, rfl, cG, fl, fc, ncl, ndl, ndc, rl, hc, hle, ⟨e0, e1, e2, hd⟩⟩
    have hi : i < 16 := by omega
    have lc := iv_len (vs := cs)
    walk_at "run"
    rename_i r G1 ra rb b6 b7 b8 w1
    have hat : (k : Int) ≤ (((iv cs).length : Nat) : Int) → atI (iv cs) ((((iv cs).length : Nat) : Int) - (k : Int)) = some (.int (cs.getD (cs.length - k) 0)) := by
      intro h
      have e : (((iv cs).length : Nat) : Int) - (k : Int) = ((cs.length - k : Nat) : Int) := by omega
      rw [e]
      exact atI_iv (by omega)
    walk_at "if"
    · intro c1
      walk_at "run"
      refine ⟨_, _, by walk_at "seq", (hat c1), ?_⟩
      walk_at "run"
      rename_i t7 G2 n2 c' G3 n3
      have ec : iv cs ++ [.int r] = iv (cs ++ [r]) := by simp [iv]
      rw [ec] at n3
      have nc'l : c' ≠ l := by
        obtain ⟨-, ⟨cap, dx1, st1, pl1, ⟨h5, h6⟩, -⟩, -⟩ := id rl
        exact Ne.symm (by walk_at "ne")
      have ndc' : d ≠ c' := by walk_at "ne"
      have fc' : H c' = none := by walk_at "fr"
      have cGG : Chg T.tabs (Y.In [d]) G G3 := by walk_at "chg"
      have rl3 : LastAt T G3 q p l (iv (lastk cs k)) k cs.length := rl.chg (tb := T.tabs) (S := Y.In [d]) cGG (by simpa [Y.In] using nqd) (by simpa [Y.In] using npd) (by simpa [Y.In] using ndl.symm)
      have cG3 : Chg T.tabs nil H G3 := by walk_at "chg"
      obtain ⟨⟨dx9, h9⟩, -⟩ := id rl3
      walk_at "go"
      refine ⟨_, _, _, _, _, rl3, cG3.tabs ht, (fun z => nomatch z), fun _ l' G4 c4 e4 r4 => ?_⟩
      rw [pushK_lastk hk0] at r4
      rw [dropK_lastk hk0, if_pos (show k ≤ cs.length by omega)]
      have hcq : c' ≠ q := by
        obtain ⟨⟨dx0, h4⟩, -⟩ := id rl3
        walk_at "ne"
      have hcp : c' ≠ p := by
        obtain ⟨-, ⟨cap, dx1, st1, pl1, ⟨h5, h6⟩, -⟩, -⟩ := id rl3
        walk_at "ne"
      have hc4 : G4 c' = some (.lst (iv (cs ++ [r]))) := c4.look n3.at (by simp [Y.In]; exact ⟨hcq, hcp, nc'l⟩) rfl
      have hd4 : G4 d = some (.lst [.int b6, .int b7, .int b8]) := c4.look (by walk_at "lk") (by simp [Y.In]; exact ⟨nqd.symm, npd.symm, ndl⟩) rfl
      have cG4 : Chg T.tabs nil H G4 := by walk_at "chg"
      have nc'l' : c' ≠ l' := by
        rcases e4 with rfl | z
        · exact nc'l
        · exact ne_fr z n3.at
      have ndl' : d ≠ l' := by
        rcases e4 with rfl | z
        · exact ndl
        · exact ne_fr z (by walk_at "lk")
      have fl' : H l' = none := by
        rcases e4 with rfl | z
        · exact fl
        · exact cG3.dom _ z
      clear h9 n2 n3 cGG rl3 cG3 c4 e4 rl hc
      obtain ⟨⟨dx0, h4⟩, ⟨cap, dx1, st1, pl1, ⟨h5, h6⟩, h7⟩, -⟩ := id r4
      have lc2 := iv_len (vs := cs ++ [r])
      walk_at "run"
      walk_at "if"
      · intro z
        exact (z rfl).elim
      · intro z
        clear z
        walk_at "run"
        obtain ⟨capR, rR⟩ := r4.ring
        have ecut : cutV (iv (cs ++ [r])) (some (max 0 ((((iv (cs ++ [r])).length : Nat) : Int) - (k : Int)))) none = iv (lastk (cs ++ [r]) k) := by
          rw [cut_from (by omega), lc2, show (max 0 (((cs ++ [r]).length : Int) - (k : Int))).toNat = (cs ++ [r]).length - k by omega]
          simp [iv, lastk]
        walk_at "if"
        · intro z
          exact (z (by rw [lc2]; simp)).elim
        · intro z
          clear z
          walk_at "run"
          refine ⟨_, _, _, rR, cG4.tabs ht, fun t H7 c7 f7 g7 => ?_⟩
          have hc7 : H7 c' = some (.lst (iv (cs ++ [r]))) := by walk_at "lk"
          walk_at "run"
          rename_i t8 H8 n8 t9 H9 n9
          rw [ecut] at n9
          refine veq_ll (by walk_at "sq") (by walk_at "sq") flat_iv flat_iv (p := True) (by simp) ?_
          walk_at "run"
          exact ⟨cs ++ [r], l', c', _, _, _, rfl, by walk_at "chg", fl', fc', nc'l', ndl', ndc', (show LastAt T G4 q p l' _ k (cs ++ [r]).length by rw [List.length_append]; exact r4).chg (tb := T.tabs) (S := nil) (by walk_at "chg") id id id, by walk_at "lk", by simp; omega, _, _, _, by walk_at "lk"⟩
    · intro c1
      walk_at "run"
      rename_i t7 G2 n2 c' G3 n3
      have ec : iv cs ++ [.int r] = iv (cs ++ [r]) := by simp [iv]
      rw [ec] at n3
      have nc'l : c' ≠ l := by
        obtain ⟨-, ⟨cap, dx1, st1, pl1, ⟨h5, h6⟩, -⟩, -⟩ := id rl
        exact Ne.symm (by walk_at "ne")
      have ndc' : d ≠ c' := by walk_at "ne"
      have fc' : H c' = none := by walk_at "fr"
      have cGG : Chg T.tabs (Y.In [d]) G G3 := by walk_at "chg"
      have rl3 : LastAt T G3 q p l (iv (lastk cs k)) k cs.length := rl.chg (tb := T.tabs) (S := Y.In [d]) cGG (by simpa [Y.In] using nqd) (by simpa [Y.In] using npd) (by simpa [Y.In] using ndl.symm)
      have cG3 : Chg T.tabs nil H G3 := by walk_at "chg"
      obtain ⟨⟨dx9, h9⟩, -⟩ := id rl3
      walk_at "go"
      refine ⟨_, _, _, _, _, rl3, cG3.tabs ht, (fun z => nomatch z), fun _ l' G4 c4 e4 r4 => ?_⟩
      rw [pushK_lastk hk0] at r4
      rw [dropK_lastk hk0, if_neg (show ¬ k ≤ cs.length by omega)]
      have hcq : c' ≠ q := by
        obtain ⟨⟨dx0, h4⟩, -⟩ := id rl3
        walk_at "ne"
      have hcp : c' ≠ p := by
        obtain ⟨-, ⟨cap, dx1, st1, pl1, ⟨h5, h6⟩, -⟩, -⟩ := id rl3
        walk_at "ne"
      have hc4 : G4 c' = some (.lst (iv (cs ++ [r]))) := c4.look n3.at (by simp [Y.In]; exact ⟨hcq, hcp, nc'l⟩) rfl
      have hd4 : G4 d = some (.lst [.int b6, .int b7, .int b8]) := c4.look (by walk_at "lk") (by simp [Y.In]; exact ⟨nqd.symm, npd.symm, ndl⟩) rfl
      have cG4 : Chg T.tabs nil H G4 := by walk_at "chg"
      have nc'l' : c' ≠ l' := by
        rcases e4 with rfl | z
        · exact nc'l
        · exact ne_fr z n3.at
      have ndl' : d ≠ l' := by
        rcases e4 with rfl | z
        · exact ndl
        · exact ne_fr z (by walk_at "lk")
      have fl' : H l' = none := by
        rcases e4 with rfl | z
        · exact fl
        · exact cG3.dom _ z
      clear h9 n2 n3 cGG rl3 cG3 c4 e4 rl hc
      obtain ⟨⟨dx0, h4⟩, ⟨cap, dx1, st1, pl1, ⟨h5, h6⟩, h7⟩, -⟩ := id r4
      have lc2 := iv_len (vs := cs ++ [r])
      walk_at "run"
      obtain ⟨capR, rR⟩ := r4.ring
      have ecut : cutV (iv (cs ++ [r])) (some (max 0 ((((iv (cs ++ [r])).length : Nat) : Int) - (k : Int)))) none = iv (lastk (cs ++ [r]) k) := by
        rw [cut_from (by omega), lc2, show (max 0 (((cs ++ [r]).length : Int) - (k : Int))).toNat = (cs ++ [r]).length - k by omega]
        simp [iv, lastk]
      walk_at "if"
      · intro z
        exact (z (by rw [lc2]; simp)).elim
      · intro z
        clear z
        walk_at "run"
        refine ⟨_, _, _, rR, cG4.tabs ht, fun t H7 c7 f7 g7 => ?_⟩
        have hc7 : H7 c' = some (.lst (iv (cs ++ [r]))) := by walk_at "lk"
        walk_at "run"
        rename_i t8 H8 n8 t9 H9 n9
        rw [ecut] at n9
        refine veq_ll (by walk_at "sq") (by walk_at "sq") flat_iv flat_iv (p := True) (by simp) ?_
        walk_at "run"
        exact ⟨cs ++ [r], l', c', _, _, _, rfl, by walk_at "chg", fl', fc', nc'l', ndl', ndc', (show LastAt T G4 q p l' _ k (cs ++ [r]).length by rw [List.length_append]; exact r4).chg (tb := T.tabs) (S := nil) (by walk_at "chg") id id id, by walk_at "lk", by simp; omega, _, _, _, by walk_at "lk"⟩
  · clear c6' fl fc ncl ndl ndc r6 hc6 r50 r5 c5' hc5 hd5 w6
    rintro σ G ⟨cs, l, c, x5, x6, x7, rfl, cG, fl, fc, ncl, ndl, ndc, rl, hc, hle, ⟨e0, e1, e2, hd⟩⟩
    have hle : cs.length ≤ 16 := by omega
    have lc := iv_len (vs := cs)
    walk_at "run"
    rw [show ((((iv cs).length : Nat) : Int) + 1 - -1).toNat = cs.length + 2 by omega]
    intro D0 hD
    refine lcr (fun i G' => Chg T.tabs nil G G' ∧ G' D0 = some (.lst (nums cs k i))) hD ?_ ?_ ?_
    · intro G' n
      exact ⟨by walk_at "chg", n.at⟩
    · rintro G' ⟨cc, g0⟩
      have hc2 : G' c = some (.lst (iv cs)) := by walk_at "lk"
      have hd2 : G' d = some (.lst [.int e0, .int e1, .int e2]) := by walk_at "lk"
      walk_at "run"
      rw [show ((((iv cs).length : Nat) : Int) + 1 - -1).toNat = cs.length + 2 by omega]
      intro D1 hD1
      have n01 : D0 ≠ D1 := by walk_at "ne"
      refine lcr (fun i G2 => Chg T.tabs nil G' G2 ∧ G2 D1 = some (.lst (nums cs k i))) hD1 ?_ ?_ ?_
      · intro G2 n
        exact ⟨by walk_at "chg", n.at⟩
      · rintro G2 ⟨c2, g2⟩
        have gD0 : G2 D0 = some (.lst (nums cs k (cs.length + 2))) := by walk_at "lk"
        have hd3 : G2 d = some (.lst [.int e0, .int e1, .int e2]) := by walk_at "lk"
        walk_at "run"
        refine veq_ll (.of gD0) (.of g2) flat_nums flat_nums (p := True) (by simp) ?_
        walk_at "run"
        exact R9 _ _ _ ⟨H, ht, d, ⟨_, _, _, _, _, _, _, _, _, _, _, _, _, _, _, _, _, _, _, _, rfl⟩, hd0, ⟨_, _, _, hd3⟩, by walk_at "chg", hN⟩
      · rintro i G2 hi ⟨c2, g2⟩ Nx Sk hN2 hS
        have hc3 : G2 c = some (.lst (iv cs)) := by walk_at "lk"
        have ln : (nums cs k i).length = i := by simp [nums]
        have fin : ∀ v, v = numAt cs k (-1 + (i : Nat)) → Nx v G2 := by
          intro v ev
          refine hN2 _ _ _ g2 (lt_line (by omega)) fun G3 n3 => ⟨by walk_at "chg", ?_⟩
          rw [nums_snoc, ← ev]
          exact n3.at
        have no : ¬ ((cs.length : Int) - k ≤ -1 + (i : Nat) ∧ -1 + ((i : Nat) : Int) < cs.length ∧ 0 ≤ -1 + ((i : Nat) : Int)) → Nx (.str "RingError") G2 := fun z => fin _ (by rw [numAt, if_neg z])
        walk_at "run"
        walk_at "if"
        · intro q1
          walk_at "run"
          walk_at "if"
          · intro q2
            walk_at "run"
            walk_at "if"
            · intro q3
              walk_at "run"
              refine ⟨_, _, by walk_at "seq", (by rw [show (-1 : Int) + (i : Nat) = ((i - 1 : Nat) : Int) by omega]; exact atI_iv (by omega)), fin _ ?_⟩
              rw [numAt, if_pos (by omega), show ((-1 : Int) + (i : Nat)).toNat = i - 1 by omega]
            · intro q3
              walk_at "run"
              exact no (by omega)
          · intro q2
            walk_at "run"
            exact no (by omega)
        · intro q1
          walk_at "run"
          exact no (by omega)
    · rintro i G' hi ⟨cc, g0⟩ Nx Sk hN hS
      walk_at "run"
      refine ⟨cc.tabs (cG.tabs ht), fun G1 g1 => ?_⟩
      have cG1 : Chg T.tabs nil G G1 := by walk_at "chg"
      have rl1 : LastAt T G1 q p l (iv (lastk cs k)) k cs.length := rl.chg (tb := T.tabs) (S := nil) cG1 id id id
      obtain ⟨⟨dx0, h4⟩, -⟩ := id rl1
      have hg1 : G1 D0 = some (.lst (nums cs k i)) := by walk_at "lk"
      have ln : (nums cs k i).length = i := by simp [nums]
      walk_at "run"
      refine ⟨_, _, _, _, _, rl1, fun z => err_k T.ex_RingError ?_, fun z1 z2 v e => ?_⟩
      · refine hN _ _ _ hg1 (lt_line (by omega)) fun G2 n2 => ⟨by walk_at "chg", ?_⟩
        rw [nums_snoc, numAt_no z]
        exact n2.at
      · rw [atI_lastk z1 z2] at e
        cases e
        refine hN _ _ _ hg1 (lt_line (by omega)) fun G2 n2 => ⟨by walk_at "chg", ?_⟩
        rw [nums_snoc]
        exact n2.at
end
end Z


set_option Elab.async false
set_option linter.all false
set_option maxRecDepth 100000
set_option maxHeartbeats 4000000
set_option pp.maxSteps 1500
namespace Z
open PySem PySem.Spec L2 LamX Y
local macro_rules | `(tactic| walk_at "lk") => `(tactic| first
  | assumption
  | exact Nw.at (by assumption)
  | exact Wr.at (by assumption)
  | exact Mkd.at (by assumption)
  | exact Nw.look (by assumption) (by walk_at "lk")
  | exact Mkd.look (by assumption) (by walk_at "lk")
  | exact Wr.look (by assumption) (by walk_at "lk") (by walk_at "ne")
  | exact Chg.look (by assumption) (by walk_at "lk") (by walk_at "nin") rfl
  | exact Tp.same (by assumption) _ _ (by walk_at "lk")
  | exact Grows.look (by assumption) (by walk_at "lk") rfl
  | fail)
local macro_rules | `(tactic| walk_at "ne") => `(tactic| first
  | assumption
  | exact Ne.symm (by assumption)
  | exact Nw.ne (by assumption) (by walk_at "lk")
  | exact Ne.symm (Nw.ne (by assumption) (by walk_at "lk"))
  | exact ne_fr (by assumption) (by walk_at "lk")
  | exact Ne.symm (ne_fr (by assumption) (by walk_at "lk"))
  | exact ne_fr (Mkd.nx (by assumption)) (by walk_at "lk")
  | exact Ne.symm (ne_fr (Mkd.nx (by assumption)) (by walk_at "lk"))
  | exact ne_kdn (by assumption) (by walk_at "lk") rfl
  | exact Ne.symm (ne_kdn (by assumption) (by walk_at "lk") rfl)
  | fail)
local macro_rules | `(tactic| walk_at "nin") => `(tactic| first
  | exact nin_nil
  | exact id
  | exact nin_cons (by walk_at "ne") (by walk_at "nin")
  | fail)
local macro_rules | `(tactic| walk_at "fr") => `(tactic| first
  | assumption
  | exact Nw.new (by assumption)
  | exact Mkd.nx (by assumption)
  | exact Nw.dom (by assumption) (by walk_at "fr")
  | exact Wr.dom (by assumption) (by walk_at "fr")
  | exact Mkd.dom (by assumption) (by walk_at "fr")
  | exact Chg.dom (by assumption) _ (by walk_at "fr")
  | exact Tp.dom (by assumption) _ (by walk_at "fr")
  | exact Grows.dom (by assumption) _ (by walk_at "fr")
  | fail)
local macro_rules | `(tactic| walk_at "mem") => `(tactic| first
  | assumption
  | exact List.mem_cons_self
  | (apply List.mem_cons_of_mem; walk_at "mem")
  | fail)
local macro_rules | `(tactic| walk_at "in") => `(tactic| first
  | assumption
  | (apply Or.inl; walk_at "mem")
  | (apply Or.inr; walk_at "fr")
  | fail)
local macro_rules | `(tactic| walk_at "sub") => `(tactic| first
  | exact sub_nil0
  | exact sub_nil
  | exact sub_cons (by walk_at "in") (by walk_at "sub")
  | fail)
local macro_rules | `(tactic| walk_at "chg") => `(tactic| first
  | assumption
  | exact Chg.refl _
  | exact Chg.nw (by assumption) (by walk_at "chg")
  | exact Chg.mkd (by assumption) (by walk_at "chg")
  | exact Chg.tp (by assumption) (by walk_at "chg")
  | exact Chg.gr (by assumption) (by walk_at "chg")
  | exact Chg.wr (by assumption) (by walk_at "chg") (by walk_at "in")
  | exact Chg.ch (by assumption) (by walk_at "chg") (by walk_at "sub")
  | fail)
local macro_rules | `(tactic| walk_at "sq") => `(tactic| first
  | assumption
  | exact SqL.of (by walk_at "lk")
  | exact Chg.seqL (by assumption) (by walk_at "sq") (by walk_at "nin")
  | exact SqL.nw (by assumption) (by walk_at "sq")
  | exact SqL.tp (by assumption) (by walk_at "sq")
  | exact SqL.mkd (by assumption) (by walk_at "sq")
  | exact SqL.wr (by assumption) (by walk_at "sq") (by walk_at "ne")
  | fail)
local macro_rules | `(tactic| walk_at "sqt") => `(tactic| first
  | assumption
  | exact SqT.of (by walk_at "lk")
  | exact Tp.sq (by assumption)
  | exact SqT.nw (by assumption) (by walk_at "sqt")
  | exact SqT.tp (by assumption) (by walk_at "sqt")
  | exact SqT.mkd (by assumption) (by walk_at "sqt")
  | exact SqT.chg (by assumption) (by walk_at "sqt") (by walk_at "nin")
  | fail)
local macro_rules | `(tactic| walk_at "seq") => `(tactic| first
  | assumption
  | exact .inl (by walk_at "sq")
  | exact .inr (by walk_at "sqt")
  | exact SqA.keepN (T := Env.tabs (by assumption)) (by assumption) (by walk_at "chg")
  | fail)
local macro_rules | `(tactic| walk_at "go") => `(tactic| repeat first
  | refine ⟨_, rfl, ?_⟩
  | refine ⟨_, _, _, _, rfl, And.intro (by walk_at "lk") (And.intro rfl ?_)⟩
  | refine ⟨_, _, _, rfl, And.intro (by walk_at "lk") (And.intro (by walk_at "side") ?_)⟩
  | refine ⟨_, _, And.intro rfl (And.intro rfl ?_)⟩
  | refine ⟨_, _, And.intro rfl (And.intro (by walk_at "lk") ?_)⟩
  | refine ⟨_, _, _, And.intro rfl (And.intro (by walk_at "lk") ?_)⟩
  | refine ⟨_, And.intro (by walk_at "lk") (And.intro (by walk_at "side") ?_)⟩
  | refine ⟨_, _, And.intro (by walk_at "lk") (And.intro (by walk_at "side") ?_)⟩
  | refine ⟨_, _, And.intro (by walk_at "seq") (And.intro rfl ?_)⟩
  | refine ⟨_, And.intro (by walk_at "seq") ?_⟩
  | refine ⟨_, And.intro (by walk_at "lk") (And.intro (by walk_at "side") (And.intro (by walk_at "side") (And.intro (by walk_at "side") ?_)))⟩
  | refine .inl ⟨_, _, And.intro (by walk_at "lk") (And.intro (by walk_at "lk") (And.intro (by walk_at "side") ?_))⟩
  | refine .inr ⟨_, _, And.intro (by walk_at "sqt") (And.intro (by walk_at "sqt") (And.intro (by walk_at "side") ?_))⟩
  | refine .inl ⟨_, And.intro (by walk_at "sq") ?_⟩
  | refine .inr ⟨_, And.intro (by walk_at "sqt") ?_⟩
  | refine ⟨_, _, _, _, rfl, rfl, And.intro (by walk_at "lk") (And.intro rfl ?_)⟩
  | refine fun H' (n : Wr _ _ _ H') => ?_
  | refine fun p H' (n : Nw _ p _ H') => ?_
  | refine fun r H' (n : Tp _ _ r _ H') => ?_
  | refine fun x dx H' (n : Mkd _ _ x dx H') => ?_
  | refine .inl ⟨_, _, rfl, And.intro (by walk_at "sq") (fun p H' (n : Nw _ p _ H') => ?_)⟩
  | refine .inr ⟨_, _, rfl, And.intro (by walk_at "sqt") (fun r H' (n : Tp _ _ r _ H') => ?_)⟩
  | refine ⟨_, _, rfl, And.intro (by walk_at "sq") (fun p H' (n : Nw _ p _ H') => ?_)⟩
  | refine .inl (And.intro ⟨_, by walk_at "sq"⟩ ?_)
  | refine .inr (And.intro ⟨_, by walk_at "sqt"⟩ ?_)
  | refine ⟨_, _, rfl, And.intro (by walk_at "sqt") (And.intro rfl ?_)⟩
  | refine ⟨_, _, And.intro rfl ?_⟩
  | refine ⟨_, _, _, And.intro rfl ?_⟩
  | refine And.intro rfl ?_
  | (refine ite_t ?_ ?_; exact rfl)
  | (refine ite_f ?_ ?_; exact rfl)
  | refine And.intro (by walk_at "side") ?_)
local macro_rules | `(tactic| walk_at "side") => `(tactic| first
  | exact (rfl : _ = _)
  | decide
  | exact lt1000 rfl
  | with_reducible assumption
  | exact ⟨by omega, by omega⟩
  | exact .inl ⟨by omega, by omega⟩
  | exact .inr ⟨by omega, by omega⟩
  | omega
  | (apply le_line; omega)
  | (apply lt_line; omega)
  | (apply le_line; simp <;> omega)
  | (apply lt_line; simp <;> omega)
  | fail)
local macro_rules | `(tactic| walk_at "if") => `(tactic| first
  | refine ite_nd ?_ ?_
  | refine ite_d ?_ ?_
  | refine ite_eqt ?_ ?_
  | fail)
local macro_rules | `(tactic| walk_at "roll") => `(tactic| first
  | (refine And.intro (show Dice _ _ from ⟨_, _, _, by walk_at "lk"⟩) (And.intro (by walk_at "side") (And.intro (by walk_at "side") (fun r H' r0 r1 ro => ?_))); obtain ⟨a', b', c', w⟩ := ro)
  | fail)
local macro_rules | `(tactic| walk_at "run") => `(tactic| (walk_at "go"; repeat (walk_at "roll"; walk_at "go")))
local macro_rules | `(tactic| walk_at "dp") => `(tactic| first
  | exact Dp.non
  | exact Dp.int _
  | exact Dp.str _
  | exact Dp.bl _
  | exact DpAll.nil
  | exact DpAll.cons (by walk_at "dp") (by walk_at "dp")
  | exact Dp.tup (by walk_at "sqt") (by walk_at "dp")
  | exact Dp.lst (by walk_at "sq") (by walk_at "dp")
  | fail)

section
variable {w : World} {K : PySem.W.Frag} {mg : Str → Option Value} {base : Heap}
def isLst : HO → Bool
  | .lst _ => true
  | _ => false
theorem tabs_without {tb : List (Addr × Str)} {G : Hp} {d : Addr} {xs : List V} (hd : G d = some (.lst xs)) (t : Tabs tb G) : Tabs tb (fun b => if b = d then none else G b) := by
  intro p hp
  obtain ⟨ps, h1, h2, h3⟩ := t p hp
  have ne : ∀ b o, G b = some o → isLst o = false → b ≠ d := fun b o e l z => by
    rw [z, hd] at e
    cases e
    cases l
  refine ⟨ps, by simp only [if_neg (ne _ _ h1 rfl)]; exact h1, h2, fun pos cv hc => ?_⟩
  obtain ⟨c, e1, e2⟩ := h3 pos cv hc
  exact ⟨c, e1, by simp only [if_neg (ne _ _ e2 rfl)]; exact e2⟩
def sp_law (T : Env w K mg base) : Sp := fun vs H Q _ => match vs with
  | [.ref a] => (∃ ns : List Int, SqL K H a (ns.map V.int)) ∧ Tabs T.tabs H ∧ ∀ H', Q (.bl true) H'
  | _ => False
theorem ok_law (T : Env w K mg base) : FnOk prg w K mg base (L2.CX prg w) 64 T.f_law T.fd_law ["script"] (sp_law T) := by
  refine T.F_law.ok sc_law (fun vs H Q E h => by unfold sp_law at h; split at h <;> first | rfl | exact h.elim) fun A outer s H vs Q E hr h => ?_
  obtain ⟨t9, P9, R9⟩ := tl_law_0_1 T (outer := outer) (s := s) (H := H) (E := E) hr
  refine ⟨_, (pss_cons (ps_for (passes_of rfl) rfl (Y.pi_seqK (K := K) rfl (pe_call (ok__law_rounds T) (hr.mono (by decide)) rfl T.mg__law_rounds T.F__law_rounds.kp T.b__law_rounds .nil (Y.passD rfl rfl rfl rfl) (pa_cons (pv 0) (pa_cons pe_int pa_nil)))) (pg_name (i := 1) sc_law.nd rfl (Or.inr rfl)) (pss_cons (ps_if (pt_not (pt_truth (pe_call (ok__law_ring T) (hr.mono (by decide)) rfl T.mg__law_ring T.F__law_ring.kp T.b__law_ring .nil (Y.passD rfl rfl rfl rfl) (pa_cons (pv 1) pa_nil)) (by intro _; rfl))) (pss_one (ps_ret pe_bl)) pss_nil)
  P9))
  (pss_one (ps_ret (pe_call0 (ok__law_plain T) (hr.mono (by decide)) rfl T.mg__law_plain T.F__law_plain.kp T.b__law_plain .nil (Y.passD rfl rfl rfl rfl))))), ?_⟩
  unfold sp_law at h
  split at h
  next a =>
    obtain ⟨hs, ht, hQ⟩ := h
    walk_at "go"
    intro l d G c1 fl fd nld hl hd
    walk_at "go"
    refine for_list (xs := [.ref d]) (fun i σ G' => ∃ x1 x0 x2 x3 x4 x5 x6 x7 x8 x10 x11 x12 x13 x14 x15 x17 x18 x19 x20 x21 x22, σ = [x0, x1, x2, x3, x4, x5, x6, x7, x8, none, x10, x11, x12, x13, x14, x15, none, x17, x18, x19, x20, x21, x22, none] ∧ Chg T.tabs nil H G' ∧ G' l = some (.lst [.ref d]) ∧ Dice G' d) ⟨_, _, _, _, _, _, _, _, _, _, _, _, _, _, _, _, _, _, _, _, _, rfl, c1, hl, hd⟩ ?_ ?_ ?_
    · rintro i σ G' - ⟨x1, x0, x2, x3, x4, x5, x6, x7, x8, x10, x11, x12, x13, x14, x15, x17, x18, x19, x20, x21, x22, -, -, hl, -⟩
      exact .of hl
    · rintro i x σ G' hx ⟨x1, x0, x2, x3, x4, x5, x6, x7, x8, x10, x11, x12, x13, x14, x15, x17, x18, x19, x20, x21, x22, rfl, c, hl, hd⟩
      have hi : i = 0 := by
        have := (List.getElem?_eq_some_iff.mp hx).1
        simp at this
        exact this
      subst hi
      cases hx
      walk_at "go"
      refine ⟨c.tabs ht, fun G2 c2 hd2 => ?_⟩
      have hl2 : G2 l = some (.lst [.ref d]) := c2.look hl (by simpa [Y.In] using nld) rfl
      have cH2 : Chg T.tabs nil H G2 := by walk_at "chg"
      walk_at "go"
      have cB : ∀ G3, Chg T.tabs nil (fun b => if b = d then none else G2 b) G3 → G3 l = some (.lst [.ref d]) := fun G3 c3 => c3.look (by simp only [if_neg nld]; exact hl2) id rfl
      have cH : ∀ G3, Chg T.tabs nil (fun b => if b = d then none else G2 b) G3 → Chg T.tabs nil H G3 := fun G3 c3 => by
        refine ⟨fun b o e _ nt => c3.keep b o ?_ id nt, fun b e => ?_, fun _ => c3.tabs ?_⟩
        · have nb : b ≠ d := fun z => by rw [z, fd] at e; cases e
          simp only [if_neg nb]
          exact cH2.keep b o e id nt
        · have e2 := c3.dom b e
          by_cases z : b = d
          · rw [z]; exact fd
          · simp only [if_neg z] at e2
            exact cH2.dom b e2
        · exact tabs_without (hd2.choose_spec.choose_spec.choose_spec) (cH2.tabs (by assumption))
      refine R9 _ _ _ ⟨fun b => if b = d then none else G2 b, ?_, d, ⟨_, _, _, _, _, _, _, _, _, _, _, _, _, _, _, _, _, _, _, _, rfl⟩, by simp, hd2, ?_, fun σ' G3 ⟨x0, x2, x3, x4, x5, x6, x7, x8, x10, x11, x12, x13, x14, x15, x17, x18, x19, x20, x21, x22, e⟩ hd3 c3 => ⟨_, _, _, _, _, _, _, _, _, _, _, _, _, _, _, _, _, _, _, _, _, e, cH _ c3, cB _ c3, hd3⟩⟩
      · exact tabs_without (hd2.choose_spec.choose_spec.choose_spec) (cH2.tabs ht)
      · refine ⟨fun b o e _ nt => ?_, fun b e => by simp only [e]; split <;> rfl, fun t => ?_⟩
        · by_cases z : b = d
          · simp only [if_pos z] at e; cases e
          · simp only [if_neg z] at e; exact e
        · exact cH2.tabs ht
    · rintro σ G' ⟨x1, x0, x2, x3, x4, x5, x6, x7, x8, x10, x11, x12, x13, x14, x15, x17, x18, x19, x20, x21, x22, rfl, c, hl, hd⟩
      walk_at "go"
      exact ⟨c.tabs ht, fun H' _ => hQ H'⟩
  next => exact h.elim
end
end Z


set_option Elab.async false
set_option linter.all false
set_option maxRecDepth 100000
set_option maxHeartbeats 4000000
namespace Y
open PySem PySem.Spec L2 LamX
theorem exm_self {K : PySem.W.Frag} {S : Addr} (b : PySem.W.subIn K (.ref S) (.type "BaseException") = some true) (i : PySem.W.isClsIn K S = true) (t : PySem.W.typeIn K (.ref S) = some (.type "type")) (s : PySem.W.subIn K (.ref S) (.ref S) = some true) : PySem.W.exmOne K (.ref S) (.ref S) = some true := by
  unfold PySem.W.isClsIn at i
  unfold PySem.W.exmOne
  simp [b, i, t, s, PySem.W.kitCls]
end Y
namespace Z
open PySem PySem.Spec L2 LamX
theorem law_at {w : World} {mg : Str → Option Value} {fa : Addr} {h : Heap} {K : PySem.W.Frag}
    {C_RingError C_Ring C_Last C_Queue f_Ring___init__ c_Ring___init__ dT_Ring___init__ f_Ring_spot_of c_Ring_spot_of f_Ring_check_some c_Ring_check_some f_Ring_grow_twice c_Ring_grow_twice f_Ring_put_last c_Ring_put_last f_Ring_put_first c_Ring_put_first f_Ring_check_put c_Ring_check_put f_Ring_take_first c_Ring_take_first f_Ring_take_last c_Ring_take_last f_Ring_item_at c_Ring_item_at f_Ring_all_items c_Ring_all_items P_Ring_all_items f_Ring_turn_by c_Ring_turn_by f_Ring_room_left c_Ring_room_left f_Last___init__ c_Last___init__ f_Last_put c_Last_put f_Last_item_from c_Last_item_from f_Queue___init__ c_Queue___init__ f_Queue_put c_Queue_put f_Queue_take_value c_Queue_take_value f_Queue_least_value c_Queue_least_value P_Queue_least_value f_Queue_value_count c_Queue_value_count f_least_windows c_least_windows f_last_of_ring c_last_of_ring f_next_greater c_next_greater f__law_dice c__law_dice f__law_roll c__law_roll f__law_rounds c__law_rounds f__law_told c__law_told f__law_size c__law_size f__law_ring c__law_ring P__law_ring f__law_plain c__law_plain P__law_plain f_law c_law P_law : Addr}
    {oc_Ring___init__ kV_Ring___init__ dc_Ring___init__ pm_Ring___init__ ct_Ring___init__ do_Ring___init__ d0_Ring___init__ oc_Ring_spot_of kV_Ring_spot_of dc_Ring_spot_of pm_Ring_spot_of ct_Ring_spot_of oc_Ring_check_some kV_Ring_check_some dc_Ring_check_some pm_Ring_check_some ct_Ring_check_some oc_Ring_grow_twice kV_Ring_grow_twice dc_Ring_grow_twice pm_Ring_grow_twice ct_Ring_grow_twice oc_Ring_put_last kV_Ring_put_last dc_Ring_put_last pm_Ring_put_last ct_Ring_put_last oc_Ring_put_first kV_Ring_put_first dc_Ring_put_first pm_Ring_put_first ct_Ring_put_first oc_Ring_check_put kV_Ring_check_put dc_Ring_check_put pm_Ring_check_put ct_Ring_check_put oc_Ring_take_first kV_Ring_take_first dc_Ring_take_first pm_Ring_take_first ct_Ring_take_first oc_Ring_take_last kV_Ring_take_last dc_Ring_take_last pm_Ring_take_last ct_Ring_take_last oc_Ring_item_at kV_Ring_item_at dc_Ring_item_at pm_Ring_item_at ct_Ring_item_at oc_Ring_all_items kV_Ring_all_items dc_Ring_all_items pm_Ring_all_items ct_Ring_all_items oc_Ring_turn_by kV_Ring_turn_by dc_Ring_turn_by pm_Ring_turn_by ct_Ring_turn_by oc_Ring_room_left kV_Ring_room_left dc_Ring_room_left pm_Ring_room_left ct_Ring_room_left oc_Last___init__ kV_Last___init__ dc_Last___init__ pm_Last___init__ ct_Last___init__ oc_Last_put kV_Last_put dc_Last_put pm_Last_put ct_Last_put oc_Last_item_from kV_Last_item_from dc_Last_item_from pm_Last_item_from ct_Last_item_from oc_Queue___init__ kV_Queue___init__ dc_Queue___init__ pm_Queue___init__ ct_Queue___init__ oc_Queue_put kV_Queue_put dc_Queue_put pm_Queue_put ct_Queue_put oc_Queue_take_value kV_Queue_take_value dc_Queue_take_value pm_Queue_take_value ct_Queue_take_value oc_Queue_least_value kV_Queue_least_value dc_Queue_least_value pm_Queue_least_value ct_Queue_least_value oc_Queue_value_count kV_Queue_value_count dc_Queue_value_count pm_Queue_value_count ct_Queue_value_count oc_least_windows kV_least_windows dc_least_windows pm_least_windows ct_least_windows oc_last_of_ring kV_last_of_ring dc_last_of_ring pm_last_of_ring ct_last_of_ring oc_next_greater kV_next_greater dc_next_greater pm_next_greater ct_next_greater oc__law_dice kV__law_dice dc__law_dice pm__law_dice ct__law_dice oc__law_roll kV__law_roll dc__law_roll pm__law_roll ct__law_roll oc__law_rounds kV__law_rounds dc__law_rounds pm__law_rounds ct__law_rounds oc__law_told kV__law_told dc__law_told pm__law_told ct__law_told oc__law_size kV__law_size dc__law_size pm__law_size ct__law_size oc__law_ring kV__law_ring dc__law_ring pm__law_ring ct__law_ring oc__law_plain kV__law_plain dc__law_plain pm__law_plain ct__law_plain oc_law kV_law dc_law pm_law ct_law u_MOST_ROOM : Value}
    {od_Ring___init__ an_Ring___init__ dd_Ring___init__ od_Ring_spot_of an_Ring_spot_of od_Ring_check_some an_Ring_check_some od_Ring_grow_twice an_Ring_grow_twice od_Ring_put_last an_Ring_put_last od_Ring_put_first an_Ring_put_first od_Ring_check_put an_Ring_check_put od_Ring_take_first an_Ring_take_first od_Ring_take_last an_Ring_take_last od_Ring_item_at an_Ring_item_at od_Ring_all_items an_Ring_all_items od_Ring_turn_by an_Ring_turn_by od_Ring_room_left an_Ring_room_left od_Last___init__ an_Last___init__ od_Last_put an_Last_put od_Last_item_from an_Last_item_from od_Queue___init__ an_Queue___init__ od_Queue_put an_Queue_put od_Queue_take_value an_Queue_take_value od_Queue_least_value an_Queue_least_value od_Queue_value_count an_Queue_value_count od_least_windows an_least_windows od_last_of_ring an_last_of_ring od_next_greater an_next_greater od__law_dice an__law_dice od__law_roll an__law_roll od__law_rounds an__law_rounds od__law_told an__law_told od__law_size an__law_size od__law_ring an__law_ring od__law_plain an__law_plain od_law an_law : Option Addr}
    {sl_Ring___init__ dz_Ring___init__ sl_Ring_spot_of sl_Ring_check_some sl_Ring_grow_twice sl_Ring_put_last sl_Ring_put_first sl_Ring_check_put sl_Ring_take_first sl_Ring_take_last sl_Ring_item_at sl_Ring_all_items sl_Ring_turn_by sl_Ring_room_left sl_Last___init__ sl_Last_put sl_Last_item_from sl_Queue___init__ sl_Queue_put sl_Queue_take_value sl_Queue_least_value sl_Queue_value_count sl_least_windows sl_last_of_ring sl_next_greater sl__law_dice sl__law_roll sl__law_rounds sl__law_told sl__law_size sl__law_ring sl__law_plain sl_law : Array (Option Value)}
    {dn_Ring___init__ : Nat}
    {oC_Ring_all_items : Value} {oD_Ring_all_items : Option Addr} {vC_Ring_all_items : Array Value} {sC_Ring_all_items : Array (Option Value)}
    {oC_Queue_least_value : Value} {oD_Queue_least_value : Option Addr} {vC_Queue_least_value : Array Value} {sC_Queue_least_value : Array (Option Value)}
    {oC__law_ring : Value} {oD__law_ring : Option Addr} {vC__law_ring : Array Value} {sC__law_ring : Array (Option Value)}
    {oC__law_plain : Value} {oD__law_plain : Option Addr} {vC__law_plain : Array Value} {sC__law_plain : Array (Option Value)}
    {oC_law : Value} {oD_law : Option Addr} {vC_law : Array Value} {sC_law : Array (Option Value)}
    (X : K.In h) (G : h.Ns mainGlobals mg) (hmg : mg "law" = some (.ref fa))
    (a_RingError : PySem.W.nsIn K mainGlobals "RingError" = some (some (.ref C_RingError)))
    (x_RingError : PySem.W.excIn K C_RingError [.type "ValueError", .type "Exception", .type "BaseException", .type "object"] "ValueError.__new__" = true)
    (k_RingError : PySem.W.keepIn K (.ref C_RingError) = true)
    (bb_RingError : PySem.W.subIn K (.ref C_RingError) (.type "BaseException") = some true)
    (tt_RingError : PySem.W.typeIn K (.ref C_RingError) = some (.type "type"))
    (i_RingError : PySem.W.isClsIn K C_RingError = true)
    (su_RingError : PySem.W.subIn K (.ref C_RingError) (.ref C_RingError) = some true)
    (a_Ring : PySem.W.nsIn K mainGlobals "Ring" = some (some (.ref C_Ring)))
    (pg_Ring : PySem.W.plainGet K C_Ring Str.empty = true)
    (hd_Ring : PySem.W.hasDictIn K C_Ring = true)
    (po_Ring : PySem.W.plainOver K C_Ring = true)
    (sa_Ring : PySem.W.findIn K (.ref C_Ring) "__setattr__" = some (some (.builtin "object.__setattr__")))
    (na_Ring_places : PySem.W.findIn K (.ref C_Ring) "places" = some none)
    (na_Ring_start : PySem.W.findIn K (.ref C_Ring) "start" = some none)
    (na_Ring_many : PySem.W.findIn K (.ref C_Ring) "many" = some none)
    (a_Last : PySem.W.nsIn K mainGlobals "Last" = some (some (.ref C_Last)))
    (pg_Last : PySem.W.plainGet K C_Last Str.empty = true)
    (hd_Last : PySem.W.hasDictIn K C_Last = true)
    (po_Last : PySem.W.plainOver K C_Last = true)
    (sa_Last : PySem.W.findIn K (.ref C_Last) "__setattr__" = some (some (.builtin "object.__setattr__")))
    (na_Last_ring : PySem.W.findIn K (.ref C_Last) "ring" = some none)
    (na_Last_kept : PySem.W.findIn K (.ref C_Last) "kept" = some none)
    (na_Last_came : PySem.W.findIn K (.ref C_Last) "came" = some none)
    (a_Queue : PySem.W.nsIn K mainGlobals "Queue" = some (some (.ref C_Queue)))
    (pg_Queue : PySem.W.plainGet K C_Queue Str.empty = true)
    (hd_Queue : PySem.W.hasDictIn K C_Queue = true)
    (po_Queue : PySem.W.plainOver K C_Queue = true)
    (sa_Queue : PySem.W.findIn K (.ref C_Queue) "__setattr__" = some (some (.builtin "object.__setattr__")))
    (na_Queue_ins : PySem.W.findIn K (.ref C_Queue) "ins" = some none)
    (na_Queue_outs : PySem.W.findIn K (.ref C_Queue) "outs" = some none)
    (na_Queue_poured : PySem.W.findIn K (.ref C_Queue) "poured" = some none)
    (a_Ring___init__ : PySem.W.findIn K (.ref C_Ring) "__init__" = some (some (.ref f_Ring___init__)))
    (if_Ring___init__ : PySem.W.isFn K (.ref f_Ring___init__) = true)
    (l_Ring___init__ : K.lookup f_Ring___init__ = some ⟨oc_Ring___init__, od_Ring___init__, .func (PySem.W.fnOf "__init__" "Ring.__init__" (defArgs s_Ring___init__) (defBody s_Ring___init__) (defScope s_Ring___init__) (.ref dT_Ring___init__) kV_Ring___init__ dc_Ring___init__ pm_Ring___init__ an_Ring___init__ (.ref c_Ring___init__) ct_Ring___init__), sl_Ring___init__⟩)
    (dl_Ring___init__ : K.lookup dT_Ring___init__ = some ⟨do_Ring___init__, dd_Ring___init__, .seq [d0_Ring___init__].toArray dn_Ring___init__, dz_Ring___init__⟩)
    (dr0_Ring___init__ : RelV (.int 4) d0_Ring___init__)
    (h_Ring___init__ : PySem.W.codeIn K (.ref c_Ring___init__) "Ring.__init__" = true)
    (k_Ring___init__ : PySem.W.keepIn K (.ref f_Ring___init__) = true)
    (mk_Ring : PySem.W.makesIn K C_Ring = true)
    (kc_Ring : PySem.W.keepIn K (.ref C_Ring) = true)
    (a_Ring_spot_of : PySem.W.findIn K (.ref C_Ring) "spot_of" = some (some (.ref f_Ring_spot_of)))
    (if_Ring_spot_of : PySem.W.isFn K (.ref f_Ring_spot_of) = true)
    (l_Ring_spot_of : K.lookup f_Ring_spot_of = some ⟨oc_Ring_spot_of, od_Ring_spot_of, .func (PySem.W.fnOf "spot_of" "Ring.spot_of" (defArgs s_Ring_spot_of) (defBody s_Ring_spot_of) (defScope s_Ring_spot_of) .none kV_Ring_spot_of dc_Ring_spot_of pm_Ring_spot_of an_Ring_spot_of (.ref c_Ring_spot_of) ct_Ring_spot_of), sl_Ring_spot_of⟩)
    (h_Ring_spot_of : PySem.W.codeIn K (.ref c_Ring_spot_of) "Ring.spot_of" = true)
    (k_Ring_spot_of : PySem.W.keepIn K (.ref f_Ring_spot_of) = true)
    (a_Ring_check_some : PySem.W.findIn K (.ref C_Ring) "check_some" = some (some (.ref f_Ring_check_some)))
    (if_Ring_check_some : PySem.W.isFn K (.ref f_Ring_check_some) = true)
    (l_Ring_check_some : K.lookup f_Ring_check_some = some ⟨oc_Ring_check_some, od_Ring_check_some, .func (PySem.W.fnOf "check_some" "Ring.check_some" (defArgs s_Ring_check_some) (defBody s_Ring_check_some) (defScope s_Ring_check_some) .none kV_Ring_check_some dc_Ring_check_some pm_Ring_check_some an_Ring_check_some (.ref c_Ring_check_some) ct_Ring_check_some), sl_Ring_check_some⟩)
    (h_Ring_check_some : PySem.W.codeIn K (.ref c_Ring_check_some) "Ring.check_some" = true)
    (k_Ring_check_some : PySem.W.keepIn K (.ref f_Ring_check_some) = true)
    (a_Ring_grow_twice : PySem.W.findIn K (.ref C_Ring) "grow_twice" = some (some (.ref f_Ring_grow_twice)))
    (if_Ring_grow_twice : PySem.W.isFn K (.ref f_Ring_grow_twice) = true)
    (l_Ring_grow_twice : K.lookup f_Ring_grow_twice = some ⟨oc_Ring_grow_twice, od_Ring_grow_twice, .func (PySem.W.fnOf "grow_twice" "Ring.grow_twice" (defArgs s_Ring_grow_twice) (defBody s_Ring_grow_twice) (defScope s_Ring_grow_twice) .none kV_Ring_grow_twice dc_Ring_grow_twice pm_Ring_grow_twice an_Ring_grow_twice (.ref c_Ring_grow_twice) ct_Ring_grow_twice), sl_Ring_grow_twice⟩)
    (h_Ring_grow_twice : PySem.W.codeIn K (.ref c_Ring_grow_twice) "Ring.grow_twice" = true)
    (k_Ring_grow_twice : PySem.W.keepIn K (.ref f_Ring_grow_twice) = true)
    (a_Ring_put_last : PySem.W.findIn K (.ref C_Ring) "put_last" = some (some (.ref f_Ring_put_last)))
    (if_Ring_put_last : PySem.W.isFn K (.ref f_Ring_put_last) = true)
    (l_Ring_put_last : K.lookup f_Ring_put_last = some ⟨oc_Ring_put_last, od_Ring_put_last, .func (PySem.W.fnOf "put_last" "Ring.put_last" (defArgs s_Ring_put_last) (defBody s_Ring_put_last) (defScope s_Ring_put_last) .none kV_Ring_put_last dc_Ring_put_last pm_Ring_put_last an_Ring_put_last (.ref c_Ring_put_last) ct_Ring_put_last), sl_Ring_put_last⟩)
    (h_Ring_put_last : PySem.W.codeIn K (.ref c_Ring_put_last) "Ring.put_last" = true)
    (k_Ring_put_last : PySem.W.keepIn K (.ref f_Ring_put_last) = true)
    (a_Ring_put_first : PySem.W.findIn K (.ref C_Ring) "put_first" = some (some (.ref f_Ring_put_first)))
    (if_Ring_put_first : PySem.W.isFn K (.ref f_Ring_put_first) = true)
    (l_Ring_put_first : K.lookup f_Ring_put_first = some ⟨oc_Ring_put_first, od_Ring_put_first, .func (PySem.W.fnOf "put_first" "Ring.put_first" (defArgs s_Ring_put_first) (defBody s_Ring_put_first) (defScope s_Ring_put_first) .none kV_Ring_put_first dc_Ring_put_first pm_Ring_put_first an_Ring_put_first (.ref c_Ring_put_first) ct_Ring_put_first), sl_Ring_put_first⟩)
    (h_Ring_put_first : PySem.W.codeIn K (.ref c_Ring_put_first) "Ring.put_first" = true)
    (k_Ring_put_first : PySem.W.keepIn K (.ref f_Ring_put_first) = true)
    (a_Ring_check_put : PySem.W.findIn K (.ref C_Ring) "check_put" = some (some (.ref f_Ring_check_put)))
    (if_Ring_check_put : PySem.W.isFn K (.ref f_Ring_check_put) = true)
    (l_Ring_check_put : K.lookup f_Ring_check_put = some ⟨oc_Ring_check_put, od_Ring_check_put, .func (PySem.W.fnOf "check_put" "Ring.check_put" (defArgs s_Ring_check_put) (defBody s_Ring_check_put) (defScope s_Ring_check_put) .none kV_Ring_check_put dc_Ring_check_put pm_Ring_check_put an_Ring_check_put (.ref c_Ring_check_put) ct_Ring_check_put), sl_Ring_check_put⟩)
    (h_Ring_check_put : PySem.W.codeIn K (.ref c_Ring_check_put) "Ring.check_put" = true)
    (k_Ring_check_put : PySem.W.keepIn K (.ref f_Ring_check_put) = true)
    (a_Ring_take_first : PySem.W.findIn K (.ref C_Ring) "take_first" = some (some (.ref f_Ring_take_first)))
    (if_Ring_take_first : PySem.W.isFn K (.ref f_Ring_take_first) = true)
    (l_Ring_take_first : K.lookup f_Ring_take_first = some ⟨oc_Ring_take_first, od_Ring_take_first, .func (PySem.W.fnOf "take_first" "Ring.take_first" (defArgs s_Ring_take_first) (defBody s_Ring_take_first) (defScope s_Ring_take_first) .none kV_Ring_take_first dc_Ring_take_first pm_Ring_take_first an_Ring_take_first (.ref c_Ring_take_first) ct_Ring_take_first), sl_Ring_take_first⟩)
    (h_Ring_take_first : PySem.W.codeIn K (.ref c_Ring_take_first) "Ring.take_first" = true)
    (k_Ring_take_first : PySem.W.keepIn K (.ref f_Ring_take_first) = true)
    (a_Ring_take_last : PySem.W.findIn K (.ref C_Ring) "take_last" = some (some (.ref f_Ring_take_last)))
    (if_Ring_take_last : PySem.W.isFn K (.ref f_Ring_take_last) = true)
    (l_Ring_take_last : K.lookup f_Ring_take_last = some ⟨oc_Ring_take_last, od_Ring_take_last, .func (PySem.W.fnOf "take_last" "Ring.take_last" (defArgs s_Ring_take_last) (defBody s_Ring_take_last) (defScope s_Ring_take_last) .none kV_Ring_take_last dc_Ring_take_last pm_Ring_take_last an_Ring_take_last (.ref c_Ring_take_last) ct_Ring_take_last), sl_Ring_take_last⟩)
    (h_Ring_take_last : PySem.W.codeIn K (.ref c_Ring_take_last) "Ring.take_last" = true)
    (k_Ring_take_last : PySem.W.keepIn K (.ref f_Ring_take_last) = true)
    (a_Ring_item_at : PySem.W.findIn K (.ref C_Ring) "item_at" = some (some (.ref f_Ring_item_at)))
    (if_Ring_item_at : PySem.W.isFn K (.ref f_Ring_item_at) = true)
    (l_Ring_item_at : K.lookup f_Ring_item_at = some ⟨oc_Ring_item_at, od_Ring_item_at, .func (PySem.W.fnOf "item_at" "Ring.item_at" (defArgs s_Ring_item_at) (defBody s_Ring_item_at) (defScope s_Ring_item_at) .none kV_Ring_item_at dc_Ring_item_at pm_Ring_item_at an_Ring_item_at (.ref c_Ring_item_at) ct_Ring_item_at), sl_Ring_item_at⟩)
    (h_Ring_item_at : PySem.W.codeIn K (.ref c_Ring_item_at) "Ring.item_at" = true)
    (k_Ring_item_at : PySem.W.keepIn K (.ref f_Ring_item_at) = true)
    (a_Ring_all_items : PySem.W.findIn K (.ref C_Ring) "all_items" = some (some (.ref f_Ring_all_items)))
    (if_Ring_all_items : PySem.W.isFn K (.ref f_Ring_all_items) = true)
    (l_Ring_all_items : K.lookup f_Ring_all_items = some ⟨oc_Ring_all_items, od_Ring_all_items, .func (PySem.W.fnOf "all_items" "Ring.all_items" (defArgs s_Ring_all_items) (defBody s_Ring_all_items) (defScope s_Ring_all_items) .none kV_Ring_all_items dc_Ring_all_items pm_Ring_all_items an_Ring_all_items (.ref c_Ring_all_items) ct_Ring_all_items), sl_Ring_all_items⟩)
    (h_Ring_all_items : PySem.W.codeIn K (.ref c_Ring_all_items) "Ring.all_items" = true)
    (k_Ring_all_items : PySem.W.keepIn K (.ref f_Ring_all_items) = true)
    (lk_Ring_all_items : K.lookup c_Ring_all_items = some ⟨oC_Ring_all_items, oD_Ring_all_items, .fields vC_Ring_all_items, sC_Ring_all_items⟩)
    (v11_Ring_all_items : vC_Ring_all_items[11]? = some (.ref P_Ring_all_items))
    (ch_Ring_all_items : PySem.W.codeHdIn K c_Ring_all_items P_Ring_all_items = true)
    (nP_Ring_all_items : K.lookup P_Ring_all_items = none)
    (a_Ring_turn_by : PySem.W.findIn K (.ref C_Ring) "turn_by" = some (some (.ref f_Ring_turn_by)))
    (if_Ring_turn_by : PySem.W.isFn K (.ref f_Ring_turn_by) = true)
    (l_Ring_turn_by : K.lookup f_Ring_turn_by = some ⟨oc_Ring_turn_by, od_Ring_turn_by, .func (PySem.W.fnOf "turn_by" "Ring.turn_by" (defArgs s_Ring_turn_by) (defBody s_Ring_turn_by) (defScope s_Ring_turn_by) .none kV_Ring_turn_by dc_Ring_turn_by pm_Ring_turn_by an_Ring_turn_by (.ref c_Ring_turn_by) ct_Ring_turn_by), sl_Ring_turn_by⟩)
    (h_Ring_turn_by : PySem.W.codeIn K (.ref c_Ring_turn_by) "Ring.turn_by" = true)
    (k_Ring_turn_by : PySem.W.keepIn K (.ref f_Ring_turn_by) = true)
    (a_Ring_room_left : PySem.W.findIn K (.ref C_Ring) "room_left" = some (some (.ref f_Ring_room_left)))
    (if_Ring_room_left : PySem.W.isFn K (.ref f_Ring_room_left) = true)
    (l_Ring_room_left : K.lookup f_Ring_room_left = some ⟨oc_Ring_room_left, od_Ring_room_left, .func (PySem.W.fnOf "room_left" "Ring.room_left" (defArgs s_Ring_room_left) (defBody s_Ring_room_left) (defScope s_Ring_room_left) .none kV_Ring_room_left dc_Ring_room_left pm_Ring_room_left an_Ring_room_left (.ref c_Ring_room_left) ct_Ring_room_left), sl_Ring_room_left⟩)
    (h_Ring_room_left : PySem.W.codeIn K (.ref c_Ring_room_left) "Ring.room_left" = true)
    (k_Ring_room_left : PySem.W.keepIn K (.ref f_Ring_room_left) = true)
    (a_Last___init__ : PySem.W.findIn K (.ref C_Last) "__init__" = some (some (.ref f_Last___init__)))
    (if_Last___init__ : PySem.W.isFn K (.ref f_Last___init__) = true)
    (l_Last___init__ : K.lookup f_Last___init__ = some ⟨oc_Last___init__, od_Last___init__, .func (PySem.W.fnOf "__init__" "Last.__init__" (defArgs s_Last___init__) (defBody s_Last___init__) (defScope s_Last___init__) .none kV_Last___init__ dc_Last___init__ pm_Last___init__ an_Last___init__ (.ref c_Last___init__) ct_Last___init__), sl_Last___init__⟩)
    (h_Last___init__ : PySem.W.codeIn K (.ref c_Last___init__) "Last.__init__" = true)
    (k_Last___init__ : PySem.W.keepIn K (.ref f_Last___init__) = true)
    (mk_Last : PySem.W.makesIn K C_Last = true)
    (kc_Last : PySem.W.keepIn K (.ref C_Last) = true)
    (a_Last_put : PySem.W.findIn K (.ref C_Last) "put" = some (some (.ref f_Last_put)))
    (if_Last_put : PySem.W.isFn K (.ref f_Last_put) = true)
    (l_Last_put : K.lookup f_Last_put = some ⟨oc_Last_put, od_Last_put, .func (PySem.W.fnOf "put" "Last.put" (defArgs s_Last_put) (defBody s_Last_put) (defScope s_Last_put) .none kV_Last_put dc_Last_put pm_Last_put an_Last_put (.ref c_Last_put) ct_Last_put), sl_Last_put⟩)
    (h_Last_put : PySem.W.codeIn K (.ref c_Last_put) "Last.put" = true)
    (k_Last_put : PySem.W.keepIn K (.ref f_Last_put) = true)
    (a_Last_item_from : PySem.W.findIn K (.ref C_Last) "item_from" = some (some (.ref f_Last_item_from)))
    (if_Last_item_from : PySem.W.isFn K (.ref f_Last_item_from) = true)
    (l_Last_item_from : K.lookup f_Last_item_from = some ⟨oc_Last_item_from, od_Last_item_from, .func (PySem.W.fnOf "item_from" "Last.item_from" (defArgs s_Last_item_from) (defBody s_Last_item_from) (defScope s_Last_item_from) .none kV_Last_item_from dc_Last_item_from pm_Last_item_from an_Last_item_from (.ref c_Last_item_from) ct_Last_item_from), sl_Last_item_from⟩)
    (h_Last_item_from : PySem.W.codeIn K (.ref c_Last_item_from) "Last.item_from" = true)
    (k_Last_item_from : PySem.W.keepIn K (.ref f_Last_item_from) = true)
    (a_Queue___init__ : PySem.W.findIn K (.ref C_Queue) "__init__" = some (some (.ref f_Queue___init__)))
    (if_Queue___init__ : PySem.W.isFn K (.ref f_Queue___init__) = true)
    (l_Queue___init__ : K.lookup f_Queue___init__ = some ⟨oc_Queue___init__, od_Queue___init__, .func (PySem.W.fnOf "__init__" "Queue.__init__" (defArgs s_Queue___init__) (defBody s_Queue___init__) (defScope s_Queue___init__) .none kV_Queue___init__ dc_Queue___init__ pm_Queue___init__ an_Queue___init__ (.ref c_Queue___init__) ct_Queue___init__), sl_Queue___init__⟩)
    (h_Queue___init__ : PySem.W.codeIn K (.ref c_Queue___init__) "Queue.__init__" = true)
    (k_Queue___init__ : PySem.W.keepIn K (.ref f_Queue___init__) = true)
    (mk_Queue : PySem.W.makesIn K C_Queue = true)
    (kc_Queue : PySem.W.keepIn K (.ref C_Queue) = true)
    (a_Queue_put : PySem.W.findIn K (.ref C_Queue) "put" = some (some (.ref f_Queue_put)))
    (if_Queue_put : PySem.W.isFn K (.ref f_Queue_put) = true)
    (l_Queue_put : K.lookup f_Queue_put = some ⟨oc_Queue_put, od_Queue_put, .func (PySem.W.fnOf "put" "Queue.put" (defArgs s_Queue_put) (defBody s_Queue_put) (defScope s_Queue_put) .none kV_Queue_put dc_Queue_put pm_Queue_put an_Queue_put (.ref c_Queue_put) ct_Queue_put), sl_Queue_put⟩)
    (h_Queue_put : PySem.W.codeIn K (.ref c_Queue_put) "Queue.put" = true)
    (k_Queue_put : PySem.W.keepIn K (.ref f_Queue_put) = true)
    (a_Queue_take_value : PySem.W.findIn K (.ref C_Queue) "take_value" = some (some (.ref f_Queue_take_value)))
    (if_Queue_take_value : PySem.W.isFn K (.ref f_Queue_take_value) = true)
    (l_Queue_take_value : K.lookup f_Queue_take_value = some ⟨oc_Queue_take_value, od_Queue_take_value, .func (PySem.W.fnOf "take_value" "Queue.take_value" (defArgs s_Queue_take_value) (defBody s_Queue_take_value) (defScope s_Queue_take_value) .none kV_Queue_take_value dc_Queue_take_value pm_Queue_take_value an_Queue_take_value (.ref c_Queue_take_value) ct_Queue_take_value), sl_Queue_take_value⟩)
    (h_Queue_take_value : PySem.W.codeIn K (.ref c_Queue_take_value) "Queue.take_value" = true)
    (k_Queue_take_value : PySem.W.keepIn K (.ref f_Queue_take_value) = true)
    (a_Queue_least_value : PySem.W.findIn K (.ref C_Queue) "least_value" = some (some (.ref f_Queue_least_value)))
    (if_Queue_least_value : PySem.W.isFn K (.ref f_Queue_least_value) = true)
    (l_Queue_least_value : K.lookup f_Queue_least_value = some ⟨oc_Queue_least_value, od_Queue_least_value, .func (PySem.W.fnOf "least_value" "Queue.least_value" (defArgs s_Queue_least_value) (defBody s_Queue_least_value) (defScope s_Queue_least_value) .none kV_Queue_least_value dc_Queue_least_value pm_Queue_least_value an_Queue_least_value (.ref c_Queue_least_value) ct_Queue_least_value), sl_Queue_least_value⟩)
    (h_Queue_least_value : PySem.W.codeIn K (.ref c_Queue_least_value) "Queue.least_value" = true)
    (k_Queue_least_value : PySem.W.keepIn K (.ref f_Queue_least_value) = true)
    (lk_Queue_least_value : K.lookup c_Queue_least_value = some ⟨oC_Queue_least_value, oD_Queue_least_value, .fields vC_Queue_least_value, sC_Queue_least_value⟩)
    (v11_Queue_least_value : vC_Queue_least_value[11]? = some (.ref P_Queue_least_value))
    (ch_Queue_least_value : PySem.W.codeHdIn K c_Queue_least_value P_Queue_least_value = true)
    (nP_Queue_least_value : K.lookup P_Queue_least_value = none)
    (a_Queue_value_count : PySem.W.findIn K (.ref C_Queue) "value_count" = some (some (.ref f_Queue_value_count)))
    (if_Queue_value_count : PySem.W.isFn K (.ref f_Queue_value_count) = true)
    (l_Queue_value_count : K.lookup f_Queue_value_count = some ⟨oc_Queue_value_count, od_Queue_value_count, .func (PySem.W.fnOf "value_count" "Queue.value_count" (defArgs s_Queue_value_count) (defBody s_Queue_value_count) (defScope s_Queue_value_count) .none kV_Queue_value_count dc_Queue_value_count pm_Queue_value_count an_Queue_value_count (.ref c_Queue_value_count) ct_Queue_value_count), sl_Queue_value_count⟩)
    (h_Queue_value_count : PySem.W.codeIn K (.ref c_Queue_value_count) "Queue.value_count" = true)
    (k_Queue_value_count : PySem.W.keepIn K (.ref f_Queue_value_count) = true)
    (a_least_windows : PySem.W.nsIn K mainGlobals "least_windows" = some (some (.ref f_least_windows)))
    (l_least_windows : K.lookup f_least_windows = some ⟨oc_least_windows, od_least_windows, .func (PySem.W.fnOf "least_windows" "least_windows" (defArgs s_least_windows) (defBody s_least_windows) (defScope s_least_windows) .none kV_least_windows dc_least_windows pm_least_windows an_least_windows (.ref c_least_windows) ct_least_windows), sl_least_windows⟩)
    (h_least_windows : PySem.W.codeIn K (.ref c_least_windows) "least_windows" = true)
    (k_least_windows : PySem.W.keepIn K (.ref f_least_windows) = true)
    (a_last_of_ring : PySem.W.nsIn K mainGlobals "last_of_ring" = some (some (.ref f_last_of_ring)))
    (l_last_of_ring : K.lookup f_last_of_ring = some ⟨oc_last_of_ring, od_last_of_ring, .func (PySem.W.fnOf "last_of_ring" "last_of_ring" (defArgs s_last_of_ring) (defBody s_last_of_ring) (defScope s_last_of_ring) .none kV_last_of_ring dc_last_of_ring pm_last_of_ring an_last_of_ring (.ref c_last_of_ring) ct_last_of_ring), sl_last_of_ring⟩)
    (h_last_of_ring : PySem.W.codeIn K (.ref c_last_of_ring) "last_of_ring" = true)
    (k_last_of_ring : PySem.W.keepIn K (.ref f_last_of_ring) = true)
    (a_next_greater : PySem.W.nsIn K mainGlobals "next_greater" = some (some (.ref f_next_greater)))
    (l_next_greater : K.lookup f_next_greater = some ⟨oc_next_greater, od_next_greater, .func (PySem.W.fnOf "next_greater" "next_greater" (defArgs s_next_greater) (defBody s_next_greater) (defScope s_next_greater) .none kV_next_greater dc_next_greater pm_next_greater an_next_greater (.ref c_next_greater) ct_next_greater), sl_next_greater⟩)
    (h_next_greater : PySem.W.codeIn K (.ref c_next_greater) "next_greater" = true)
    (k_next_greater : PySem.W.keepIn K (.ref f_next_greater) = true)
    (a__law_dice : PySem.W.nsIn K mainGlobals "_law_dice" = some (some (.ref f__law_dice)))
    (l__law_dice : K.lookup f__law_dice = some ⟨oc__law_dice, od__law_dice, .func (PySem.W.fnOf "_law_dice" "_law_dice" (defArgs s__law_dice) (defBody s__law_dice) (defScope s__law_dice) .none kV__law_dice dc__law_dice pm__law_dice an__law_dice (.ref c__law_dice) ct__law_dice), sl__law_dice⟩)
    (h__law_dice : PySem.W.codeIn K (.ref c__law_dice) "_law_dice" = true)
    (k__law_dice : PySem.W.keepIn K (.ref f__law_dice) = true)
    (a__law_roll : PySem.W.nsIn K mainGlobals "_law_roll" = some (some (.ref f__law_roll)))
    (l__law_roll : K.lookup f__law_roll = some ⟨oc__law_roll, od__law_roll, .func (PySem.W.fnOf "_law_roll" "_law_roll" (defArgs s__law_roll) (defBody s__law_roll) (defScope s__law_roll) .none kV__law_roll dc__law_roll pm__law_roll an__law_roll (.ref c__law_roll) ct__law_roll), sl__law_roll⟩)
    (h__law_roll : PySem.W.codeIn K (.ref c__law_roll) "_law_roll" = true)
    (k__law_roll : PySem.W.keepIn K (.ref f__law_roll) = true)
    (a__law_rounds : PySem.W.nsIn K mainGlobals "_law_rounds" = some (some (.ref f__law_rounds)))
    (l__law_rounds : K.lookup f__law_rounds = some ⟨oc__law_rounds, od__law_rounds, .func (PySem.W.fnOf "_law_rounds" "_law_rounds" (defArgs s__law_rounds) (defBody s__law_rounds) (defScope s__law_rounds) .none kV__law_rounds dc__law_rounds pm__law_rounds an__law_rounds (.ref c__law_rounds) ct__law_rounds), sl__law_rounds⟩)
    (h__law_rounds : PySem.W.codeIn K (.ref c__law_rounds) "_law_rounds" = true)
    (k__law_rounds : PySem.W.keepIn K (.ref f__law_rounds) = true)
    (a__law_told : PySem.W.nsIn K mainGlobals "_law_told" = some (some (.ref f__law_told)))
    (l__law_told : K.lookup f__law_told = some ⟨oc__law_told, od__law_told, .func (PySem.W.fnOf "_law_told" "_law_told" (defArgs s__law_told) (defBody s__law_told) (defScope s__law_told) .none kV__law_told dc__law_told pm__law_told an__law_told (.ref c__law_told) ct__law_told), sl__law_told⟩)
    (h__law_told : PySem.W.codeIn K (.ref c__law_told) "_law_told" = true)
    (k__law_told : PySem.W.keepIn K (.ref f__law_told) = true)
    (a__law_size : PySem.W.nsIn K mainGlobals "_law_size" = some (some (.ref f__law_size)))
    (l__law_size : K.lookup f__law_size = some ⟨oc__law_size, od__law_size, .func (PySem.W.fnOf "_law_size" "_law_size" (defArgs s__law_size) (defBody s__law_size) (defScope s__law_size) .none kV__law_size dc__law_size pm__law_size an__law_size (.ref c__law_size) ct__law_size), sl__law_size⟩)
    (h__law_size : PySem.W.codeIn K (.ref c__law_size) "_law_size" = true)
    (k__law_size : PySem.W.keepIn K (.ref f__law_size) = true)
    (a__law_ring : PySem.W.nsIn K mainGlobals "_law_ring" = some (some (.ref f__law_ring)))
    (l__law_ring : K.lookup f__law_ring = some ⟨oc__law_ring, od__law_ring, .func (PySem.W.fnOf "_law_ring" "_law_ring" (defArgs s__law_ring) (defBody s__law_ring) (defScope s__law_ring) .none kV__law_ring dc__law_ring pm__law_ring an__law_ring (.ref c__law_ring) ct__law_ring), sl__law_ring⟩)
    (h__law_ring : PySem.W.codeIn K (.ref c__law_ring) "_law_ring" = true)
    (k__law_ring : PySem.W.keepIn K (.ref f__law_ring) = true)
    (lk__law_ring : K.lookup c__law_ring = some ⟨oC__law_ring, oD__law_ring, .fields vC__law_ring, sC__law_ring⟩)
    (v11__law_ring : vC__law_ring[11]? = some (.ref P__law_ring))
    (ch__law_ring : PySem.W.codeHdIn K c__law_ring P__law_ring = true)
    (nP__law_ring : K.lookup P__law_ring = none)
    (a__law_plain : PySem.W.nsIn K mainGlobals "_law_plain" = some (some (.ref f__law_plain)))
    (l__law_plain : K.lookup f__law_plain = some ⟨oc__law_plain, od__law_plain, .func (PySem.W.fnOf "_law_plain" "_law_plain" (defArgs s__law_plain) (defBody s__law_plain) (defScope s__law_plain) .none kV__law_plain dc__law_plain pm__law_plain an__law_plain (.ref c__law_plain) ct__law_plain), sl__law_plain⟩)
    (h__law_plain : PySem.W.codeIn K (.ref c__law_plain) "_law_plain" = true)
    (k__law_plain : PySem.W.keepIn K (.ref f__law_plain) = true)
    (lk__law_plain : K.lookup c__law_plain = some ⟨oC__law_plain, oD__law_plain, .fields vC__law_plain, sC__law_plain⟩)
    (v11__law_plain : vC__law_plain[11]? = some (.ref P__law_plain))
    (ch__law_plain : PySem.W.codeHdIn K c__law_plain P__law_plain = true)
    (nP__law_plain : K.lookup P__law_plain = none)
    (a_law : PySem.W.nsIn K mainGlobals "law" = some (some (.ref f_law)))
    (l_law : K.lookup f_law = some ⟨oc_law, od_law, .func (PySem.W.fnOf "law" "law" (defArgs s_law) (defBody s_law) (defScope s_law) .none kV_law dc_law pm_law an_law (.ref c_law) ct_law), sl_law⟩)
    (h_law : PySem.W.codeIn K (.ref c_law) "law" = true)
    (k_law : PySem.W.keepIn K (.ref f_law) = true)
    (lk_law : K.lookup c_law = some ⟨oC_law, oD_law, .fields vC_law, sC_law⟩)
    (v11_law : vC_law[11]? = some (.ref P_law))
    (ch_law : PySem.W.codeHdIn K c_law P_law = true)
    (nP_law : K.lookup P_law = none)
    (pnd : [P_Ring_all_items, P_Queue_least_value, P__law_ring, P__law_plain, P_law].Nodup)
    (a_MOST_ROOM : PySem.W.nsIn K mainGlobals "MOST_ROOM" = some (some u_MOST_ROOM))
    (rv_MOST_ROOM : RelV (.int 256) u_MOST_ROOM)
    (nb_len : PySem.W.nsIn K mainGlobals "len" = some none)
    (nb_list : PySem.W.nsIn K mainGlobals "list" = some none)
    (nb_tuple : PySem.W.nsIn K mainGlobals "tuple" = some none)
    (nb_range : PySem.W.nsIn K mainGlobals "range" = some none)
    (nb_min : PySem.W.nsIn K mainGlobals "min" = some none)
    (nb_enumerate : PySem.W.nsIn K mainGlobals "enumerate" = some none)
    (nb_int : PySem.W.nsIn K mainGlobals "int" = some none)
    (nb_abs : PySem.W.nsIn K mainGlobals "abs" = some none)
    (nb_max : PySem.W.nsIn K mainGlobals "max" = some none)
    (ht_Ring_all_items : h.get? P_Ring_all_items = some { cls := .none, data := .fields #[] })
    (ht_Queue_least_value : h.get? P_Queue_least_value = some { cls := .none, data := .fields #[] })
    (ht__law_ring : h.get? P__law_ring = some { cls := .none, data := .fields #[] })
    (ht__law_plain : h.get? P__law_plain = some { cls := .none, data := .fields #[] })
    (ht_law : h.get? P_law = some { cls := .none, data := .fields #[] })
    : LawAtS PySem.Challenge.rw_treestack_k17_rings_of_places w K (L2.CX prg w) 64 63 "script" mg fa h := by
  have F_Ring___init__ := Y.df_mk (st := s_Ring___init__) (dvs := [(.int 4)]) l_Ring___init__ h_Ring___init__ k_Ring___init__ (.inr ⟨by simp, dT_Ring___init__, _, _, _, rfl, dl_Ring___init__, rfl, .cons dr0_Ring___init__ (.nil)⟩)
  obtain ⟨ds0_Ring___init__, dn0_Ring___init__, b_Ring___init__⟩ := F_Ring___init__.fund.binds1 (ps := ["self", "room"]) 2 1 (by simp) (by rfl) fun _ _ _ _ _ _ _ us its hl hi => match us, its, hl, hi with | [_, _], [_], _, _ => ⟨_, rfl, rfl⟩
  cases dn0_Ring___init__
  obtain ⟨ds1_Ring___init__, dn1_Ring___init__, b1_Ring___init__⟩ := F_Ring___init__.fund.binds1 (ps := ["self", "room"]) 1 0 (by simp) (by rfl) fun _ _ _ _ _ _ _ us its hl hi => match us, its, hl, hi with | [_], [_], _, _ => ⟨_, rfl, rfl⟩
  have F_Ring_spot_of := Y.df_mk (st := s_Ring_spot_of) (dvs := []) l_Ring_spot_of h_Ring_spot_of k_Ring_spot_of (.inl ⟨rfl, rfl⟩)
  have b_Ring_spot_of := F_Ring_spot_of.fund.bindsN (ps := ["self", "place"]) fun _ _ _ _ _ _ us hl => match us, hl with | [_, _], _ => rfl
  have F_Ring_check_some := Y.df_mk (st := s_Ring_check_some) (dvs := []) l_Ring_check_some h_Ring_check_some k_Ring_check_some (.inl ⟨rfl, rfl⟩)
  have b_Ring_check_some := F_Ring_check_some.fund.bindsN (ps := ["self"]) fun _ _ _ _ _ _ us hl => match us, hl with | [_], _ => rfl
  have F_Ring_grow_twice := Y.df_mk (st := s_Ring_grow_twice) (dvs := []) l_Ring_grow_twice h_Ring_grow_twice k_Ring_grow_twice (.inl ⟨rfl, rfl⟩)
  have b_Ring_grow_twice := F_Ring_grow_twice.fund.bindsN (ps := ["self"]) fun _ _ _ _ _ _ us hl => match us, hl with | [_], _ => rfl
  have F_Ring_put_last := Y.df_mk (st := s_Ring_put_last) (dvs := []) l_Ring_put_last h_Ring_put_last k_Ring_put_last (.inl ⟨rfl, rfl⟩)
  have b_Ring_put_last := F_Ring_put_last.fund.bindsN (ps := ["self", "item"]) fun _ _ _ _ _ _ us hl => match us, hl with | [_, _], _ => rfl
  have F_Ring_put_first := Y.df_mk (st := s_Ring_put_first) (dvs := []) l_Ring_put_first h_Ring_put_first k_Ring_put_first (.inl ⟨rfl, rfl⟩)
  have b_Ring_put_first := F_Ring_put_first.fund.bindsN (ps := ["self", "item"]) fun _ _ _ _ _ _ us hl => match us, hl with | [_, _], _ => rfl
  have F_Ring_check_put := Y.df_mk (st := s_Ring_check_put) (dvs := []) l_Ring_check_put h_Ring_check_put k_Ring_check_put (.inl ⟨rfl, rfl⟩)
  have b_Ring_check_put := F_Ring_check_put.fund.bindsN (ps := ["self", "item"]) fun _ _ _ _ _ _ us hl => match us, hl with | [_, _], _ => rfl
  have F_Ring_take_first := Y.df_mk (st := s_Ring_take_first) (dvs := []) l_Ring_take_first h_Ring_take_first k_Ring_take_first (.inl ⟨rfl, rfl⟩)
  have b_Ring_take_first := F_Ring_take_first.fund.bindsN (ps := ["self"]) fun _ _ _ _ _ _ us hl => match us, hl with | [_], _ => rfl
  have F_Ring_take_last := Y.df_mk (st := s_Ring_take_last) (dvs := []) l_Ring_take_last h_Ring_take_last k_Ring_take_last (.inl ⟨rfl, rfl⟩)
  have b_Ring_take_last := F_Ring_take_last.fund.bindsN (ps := ["self"]) fun _ _ _ _ _ _ us hl => match us, hl with | [_], _ => rfl
  have F_Ring_item_at := Y.df_mk (st := s_Ring_item_at) (dvs := []) l_Ring_item_at h_Ring_item_at k_Ring_item_at (.inl ⟨rfl, rfl⟩)
  have b_Ring_item_at := F_Ring_item_at.fund.bindsN (ps := ["self", "place"]) fun _ _ _ _ _ _ us hl => match us, hl with | [_, _], _ => rfl
  have F_Ring_all_items := Y.df_mk (st := s_Ring_all_items) (dvs := []) l_Ring_all_items h_Ring_all_items k_Ring_all_items (.inl ⟨rfl, rfl⟩)
  have b_Ring_all_items := F_Ring_all_items.fund.bindsN (ps := ["self"]) fun _ _ _ _ _ _ us hl => match us, hl with | [_], _ => rfl
  have F_Ring_turn_by := Y.df_mk (st := s_Ring_turn_by) (dvs := []) l_Ring_turn_by h_Ring_turn_by k_Ring_turn_by (.inl ⟨rfl, rfl⟩)
  have b_Ring_turn_by := F_Ring_turn_by.fund.bindsN (ps := ["self", "steps"]) fun _ _ _ _ _ _ us hl => match us, hl with | [_, _], _ => rfl
  have F_Ring_room_left := Y.df_mk (st := s_Ring_room_left) (dvs := []) l_Ring_room_left h_Ring_room_left k_Ring_room_left (.inl ⟨rfl, rfl⟩)
  have b_Ring_room_left := F_Ring_room_left.fund.bindsN (ps := ["self"]) fun _ _ _ _ _ _ us hl => match us, hl with | [_], _ => rfl
  have F_Last___init__ := Y.df_mk (st := s_Last___init__) (dvs := []) l_Last___init__ h_Last___init__ k_Last___init__ (.inl ⟨rfl, rfl⟩)
  have b_Last___init__ := F_Last___init__.fund.bindsN (ps := ["self", "kept"]) fun _ _ _ _ _ _ us hl => match us, hl with | [_, _], _ => rfl
  have F_Last_put := Y.df_mk (st := s_Last_put) (dvs := []) l_Last_put h_Last_put k_Last_put (.inl ⟨rfl, rfl⟩)
  have b_Last_put := F_Last_put.fund.bindsN (ps := ["self", "item"]) fun _ _ _ _ _ _ us hl => match us, hl with | [_, _], _ => rfl
  have F_Last_item_from := Y.df_mk (st := s_Last_item_from) (dvs := []) l_Last_item_from h_Last_item_from k_Last_item_from (.inl ⟨rfl, rfl⟩)
  have b_Last_item_from := F_Last_item_from.fund.bindsN (ps := ["self", "number"]) fun _ _ _ _ _ _ us hl => match us, hl with | [_, _], _ => rfl
  have F_Queue___init__ := Y.df_mk (st := s_Queue___init__) (dvs := []) l_Queue___init__ h_Queue___init__ k_Queue___init__ (.inl ⟨rfl, rfl⟩)
  have b_Queue___init__ := F_Queue___init__.fund.bindsN (ps := ["self"]) fun _ _ _ _ _ _ us hl => match us, hl with | [_], _ => rfl
  have F_Queue_put := Y.df_mk (st := s_Queue_put) (dvs := []) l_Queue_put h_Queue_put k_Queue_put (.inl ⟨rfl, rfl⟩)
  have b_Queue_put := F_Queue_put.fund.bindsN (ps := ["self", "value"]) fun _ _ _ _ _ _ us hl => match us, hl with | [_, _], _ => rfl
  have F_Queue_take_value := Y.df_mk (st := s_Queue_take_value) (dvs := []) l_Queue_take_value h_Queue_take_value k_Queue_take_value (.inl ⟨rfl, rfl⟩)
  have b_Queue_take_value := F_Queue_take_value.fund.bindsN (ps := ["self"]) fun _ _ _ _ _ _ us hl => match us, hl with | [_], _ => rfl
  have F_Queue_least_value := Y.df_mk (st := s_Queue_least_value) (dvs := []) l_Queue_least_value h_Queue_least_value k_Queue_least_value (.inl ⟨rfl, rfl⟩)
  have b_Queue_least_value := F_Queue_least_value.fund.bindsN (ps := ["self"]) fun _ _ _ _ _ _ us hl => match us, hl with | [_], _ => rfl
  have F_Queue_value_count := Y.df_mk (st := s_Queue_value_count) (dvs := []) l_Queue_value_count h_Queue_value_count k_Queue_value_count (.inl ⟨rfl, rfl⟩)
  have b_Queue_value_count := F_Queue_value_count.fund.bindsN (ps := ["self"]) fun _ _ _ _ _ _ us hl => match us, hl with | [_], _ => rfl
  have F_least_windows := Y.df_mk (st := s_least_windows) (dvs := []) l_least_windows h_least_windows k_least_windows (.inl ⟨rfl, rfl⟩)
  have b_least_windows := F_least_windows.fund.bindsN (ps := ["values", "long"]) fun _ _ _ _ _ _ us hl => match us, hl with | [_, _], _ => rfl
  have F_last_of_ring := Y.df_mk (st := s_last_of_ring) (dvs := []) l_last_of_ring h_last_of_ring k_last_of_ring (.inl ⟨rfl, rfl⟩)
  have b_last_of_ring := F_last_of_ring.fund.bindsN (ps := ["many", "step"]) fun _ _ _ _ _ _ us hl => match us, hl with | [_, _], _ => rfl
  have F_next_greater := Y.df_mk (st := s_next_greater) (dvs := []) l_next_greater h_next_greater k_next_greater (.inl ⟨rfl, rfl⟩)
  have b_next_greater := F_next_greater.fund.bindsN (ps := ["values"]) fun _ _ _ _ _ _ us hl => match us, hl with | [_], _ => rfl
  have F__law_dice := Y.df_mk (st := s__law_dice) (dvs := []) l__law_dice h__law_dice k__law_dice (.inl ⟨rfl, rfl⟩)
  have b__law_dice := F__law_dice.fund.bindsN (ps := ["cell"]) fun _ _ _ _ _ _ us hl => match us, hl with | [_], _ => rfl
  have F__law_roll := Y.df_mk (st := s__law_roll) (dvs := []) l__law_roll h__law_roll k__law_roll (.inl ⟨rfl, rfl⟩)
  have b__law_roll := F__law_roll.fund.bindsN (ps := ["dice", "many"]) fun _ _ _ _ _ _ us hl => match us, hl with | [_, _], _ => rfl
  have F__law_rounds := Y.df_mk (st := s__law_rounds) (dvs := []) l__law_rounds h__law_rounds k__law_rounds (.inl ⟨rfl, rfl⟩)
  have b__law_rounds := F__law_rounds.fund.bindsN (ps := ["script", "most"]) fun _ _ _ _ _ _ us hl => match us, hl with | [_, _], _ => rfl
  have F__law_told := Y.df_mk (st := s__law_told) (dvs := []) l__law_told h__law_told k__law_told (.inl ⟨rfl, rfl⟩)
  have b__law_told := F__law_told.fund.bindsN (ps := ["what"]) fun _ _ _ _ _ _ us hl => match us, hl with | [_], _ => rfl
  have F__law_size := Y.df_mk (st := s__law_size) (dvs := []) l__law_size h__law_size k__law_size (.inl ⟨rfl, rfl⟩)
  have b__law_size := F__law_size.fund.bindsN (ps := ["room"]) fun _ _ _ _ _ _ us hl => match us, hl with | [_], _ => rfl
  have F__law_ring := Y.df_mk (st := s__law_ring) (dvs := []) l__law_ring h__law_ring k__law_ring (.inl ⟨rfl, rfl⟩)
  have b__law_ring := F__law_ring.fund.bindsN (ps := ["dice"]) fun _ _ _ _ _ _ us hl => match us, hl with | [_], _ => rfl
  have F__law_plain := Y.df_mk (st := s__law_plain) (dvs := []) l__law_plain h__law_plain k__law_plain (.inl ⟨rfl, rfl⟩)
  have b__law_plain := F__law_plain.fund.bindsN (ps := []) fun _ _ _ _ _ _ us hl => match us, hl with | [], _ => rfl
  have F_law := Y.df_mk (st := s_law) (dvs := []) l_law h_law k_law (.inl ⟨rfl, rfl⟩)
  have b_law := F_law.fund.bindsN (ps := ["script"]) fun _ _ _ _ _ _ us hl => match us, hl with | [_], _ => rfl
  have efa : f_law = fa := by have z := PySem.W.mg_of X G a_law; rw [hmg] at z; cases z; rfl
  subst efa
  refine ⟨PySem.W.fnOf "law" "law" (defArgs s_law) (defBody s_law) (defScope s_law) .none kV_law dc_law pm_law an_law (.ref c_law) ct_law, [(c_Ring_all_items, P_Ring_all_items), (c_Queue_least_value, P_Queue_least_value), (c__law_ring, P__law_ring), (c__law_plain, P__law_plain), (c_law, P_law)], (fun vs H Q _ => match vs with | [.ref a] => (∃ ns : List Int, SqL K H a (ns.map V.int)) ∧ (∀ p ∈ ([(c_Ring_all_items, P_Ring_all_items), (c_Queue_least_value, P_Queue_least_value), (c__law_ring, P__law_ring), (c__law_plain, P__law_plain), (c_law, P_law)] : List (Addr × Addr)), H p.2 = some (.tbl #[])) ∧ ∀ H', Q (.bl true) H' | _ => False), ?_, ?_, ?_, ?_, ?_, ?_⟩
  · intro p hp
    rcases List.mem_cons.mp hp with rfl | hp
    · exact ht_Ring_all_items
    rcases List.mem_cons.mp hp with rfl | hp
    · exact ht_Queue_least_value
    rcases List.mem_cons.mp hp with rfl | hp
    · exact ht__law_ring
    rcases List.mem_cons.mp hp with rfl | hp
    · exact ht__law_plain
    rcases List.mem_cons.mp hp with rfl | hp
    · exact ht_law
    exact nomatch hp
  · intro p hp
    rcases List.mem_cons.mp hp with rfl | hp
    · exact nP_Ring_all_items
    rcases List.mem_cons.mp hp with rfl | hp
    · exact nP_Queue_least_value
    rcases List.mem_cons.mp hp with rfl | hp
    · exact nP__law_ring
    rcases List.mem_cons.mp hp with rfl | hp
    · exact nP__law_plain
    rcases List.mem_cons.mp hp with rfl | hp
    · exact nP_law
    exact nomatch hp
  · intro p hp
    rcases List.mem_cons.mp hp with rfl | hp
    · exact PySem.W.codeHd_of_K X ch_Ring_all_items
    rcases List.mem_cons.mp hp with rfl | hp
    · exact PySem.W.codeHd_of_K X ch_Queue_least_value
    rcases List.mem_cons.mp hp with rfl | hp
    · exact PySem.W.codeHd_of_K X ch__law_ring
    rcases List.mem_cons.mp hp with rfl | hp
    · exact PySem.W.codeHd_of_K X ch__law_plain
    rcases List.mem_cons.mp hp with rfl | hp
    · exact PySem.W.codeHd_of_K X ch_law
    exact nomatch hp
  · intro s u
    exact BindsTo.of_eq rfl
  · intro H a ns _ _ ht hs
    exact ⟨⟨ns, hs⟩, ht, fun _ => rfl⟩
  · intro base X G tb
    have tb_Ring_all_items := tb (c_Ring_all_items, P_Ring_all_items) (by simp)
    have tb_Queue_least_value := tb (c_Queue_least_value, P_Queue_least_value) (by simp)
    have tb__law_ring := tb (c__law_ring, P__law_ring) (by simp)
    have tb__law_plain := tb (c__law_plain, P__law_plain) (by simp)
    have tb_law := tb (c_law, P_law) (by simp)
    let T : Env w K mg base := { C_RingError := C_RingError, mg_RingError := PySem.W.mg_of X G a_RingError, x_RingError := x_RingError, k_RingError := k_RingError, bb_RingError := bb_RingError, tt_RingError := tt_RingError, ex_RingError := Y.exm_self bb_RingError i_RingError tt_RingError su_RingError, C_Ring := C_Ring, mg_Ring := PySem.W.mg_of X G a_Ring, cl_Ring := ⟨pg_Ring, hd_Ring, po_Ring, sa_Ring⟩, na_Ring_places := na_Ring_places, na_Ring_start := na_Ring_start, na_Ring_many := na_Ring_many, C_Last := C_Last, mg_Last := PySem.W.mg_of X G a_Last, cl_Last := ⟨pg_Last, hd_Last, po_Last, sa_Last⟩, na_Last_ring := na_Last_ring, na_Last_kept := na_Last_kept, na_Last_came := na_Last_came, C_Queue := C_Queue, mg_Queue := PySem.W.mg_of X G a_Queue, cl_Queue := ⟨pg_Queue, hd_Queue, po_Queue, sa_Queue⟩, na_Queue_ins := na_Queue_ins, na_Queue_outs := na_Queue_outs, na_Queue_poured := na_Queue_poured, f_Ring___init__ := f_Ring___init__, c_Ring___init__ := c_Ring___init__, fd_Ring___init__ := _, F_Ring___init__ := F_Ring___init__, b_Ring___init__ := b_Ring___init__, ds1_Ring___init__ := ds1_Ring___init__, dn1_Ring___init__ := dn1_Ring___init__, b1_Ring___init__ := b1_Ring___init__, mk_Ring := ⟨mk_Ring, a_Ring___init__, if_Ring___init__, kc_Ring⟩, f_Ring_spot_of := f_Ring_spot_of, c_Ring_spot_of := c_Ring_spot_of, fd_Ring_spot_of := _, F_Ring_spot_of := F_Ring_spot_of, b_Ring_spot_of := b_Ring_spot_of, me_Ring_spot_of := ⟨a_Ring_spot_of, if_Ring_spot_of, k_Ring_spot_of⟩, f_Ring_check_some := f_Ring_check_some, c_Ring_check_some := c_Ring_check_some, fd_Ring_check_some := _, F_Ring_check_some := F_Ring_check_some, b_Ring_check_some := b_Ring_check_some, me_Ring_check_some := ⟨a_Ring_check_some, if_Ring_check_some, k_Ring_check_some⟩, f_Ring_grow_twice := f_Ring_grow_twice, c_Ring_grow_twice := c_Ring_grow_twice, fd_Ring_grow_twice := _, F_Ring_grow_twice := F_Ring_grow_twice, b_Ring_grow_twice := b_Ring_grow_twice, me_Ring_grow_twice := ⟨a_Ring_grow_twice, if_Ring_grow_twice, k_Ring_grow_twice⟩, f_Ring_put_last := f_Ring_put_last, c_Ring_put_last := c_Ring_put_last, fd_Ring_put_last := _, F_Ring_put_last := F_Ring_put_last, b_Ring_put_last := b_Ring_put_last, me_Ring_put_last := ⟨a_Ring_put_last, if_Ring_put_last, k_Ring_put_last⟩, f_Ring_put_first := f_Ring_put_first, c_Ring_put_first := c_Ring_put_first, fd_Ring_put_first := _, F_Ring_put_first := F_Ring_put_first, b_Ring_put_first := b_Ring_put_first, me_Ring_put_first := ⟨a_Ring_put_first, if_Ring_put_first, k_Ring_put_first⟩, f_Ring_check_put := f_Ring_check_put, c_Ring_check_put := c_Ring_check_put, fd_Ring_check_put := _, F_Ring_check_put := F_Ring_check_put, b_Ring_check_put := b_Ring_check_put, me_Ring_check_put := ⟨a_Ring_check_put, if_Ring_check_put, k_Ring_check_put⟩, f_Ring_take_first := f_Ring_take_first, c_Ring_take_first := c_Ring_take_first, fd_Ring_take_first := _, F_Ring_take_first := F_Ring_take_first, b_Ring_take_first := b_Ring_take_first, me_Ring_take_first := ⟨a_Ring_take_first, if_Ring_take_first, k_Ring_take_first⟩, f_Ring_take_last := f_Ring_take_last, c_Ring_take_last := c_Ring_take_last, fd_Ring_take_last := _, F_Ring_take_last := F_Ring_take_last, b_Ring_take_last := b_Ring_take_last, me_Ring_take_last := ⟨a_Ring_take_last, if_Ring_take_last, k_Ring_take_last⟩, f_Ring_item_at := f_Ring_item_at, c_Ring_item_at := c_Ring_item_at, fd_Ring_item_at := _, F_Ring_item_at := F_Ring_item_at, b_Ring_item_at := b_Ring_item_at, me_Ring_item_at := ⟨a_Ring_item_at, if_Ring_item_at, k_Ring_item_at⟩, f_Ring_all_items := f_Ring_all_items, c_Ring_all_items := c_Ring_all_items, fd_Ring_all_items := _, F_Ring_all_items := F_Ring_all_items, b_Ring_all_items := b_Ring_all_items, me_Ring_all_items := ⟨a_Ring_all_items, if_Ring_all_items, k_Ring_all_items⟩, P_Ring_all_items := P_Ring_all_items, tb_Ring_all_items := tb_Ring_all_items, f_Ring_turn_by := f_Ring_turn_by, c_Ring_turn_by := c_Ring_turn_by, fd_Ring_turn_by := _, F_Ring_turn_by := F_Ring_turn_by, b_Ring_turn_by := b_Ring_turn_by, me_Ring_turn_by := ⟨a_Ring_turn_by, if_Ring_turn_by, k_Ring_turn_by⟩, f_Ring_room_left := f_Ring_room_left, c_Ring_room_left := c_Ring_room_left, fd_Ring_room_left := _, F_Ring_room_left := F_Ring_room_left, b_Ring_room_left := b_Ring_room_left, me_Ring_room_left := ⟨a_Ring_room_left, if_Ring_room_left, k_Ring_room_left⟩, f_Last___init__ := f_Last___init__, c_Last___init__ := c_Last___init__, fd_Last___init__ := _, F_Last___init__ := F_Last___init__, b_Last___init__ := b_Last___init__, mk_Last := ⟨mk_Last, a_Last___init__, if_Last___init__, kc_Last⟩, f_Last_put := f_Last_put, c_Last_put := c_Last_put, fd_Last_put := _, F_Last_put := F_Last_put, b_Last_put := b_Last_put, me_Last_put := ⟨a_Last_put, if_Last_put, k_Last_put⟩, f_Last_item_from := f_Last_item_from, c_Last_item_from := c_Last_item_from, fd_Last_item_from := _, F_Last_item_from := F_Last_item_from, b_Last_item_from := b_Last_item_from, me_Last_item_from := ⟨a_Last_item_from, if_Last_item_from, k_Last_item_from⟩, f_Queue___init__ := f_Queue___init__, c_Queue___init__ := c_Queue___init__, fd_Queue___init__ := _, F_Queue___init__ := F_Queue___init__, b_Queue___init__ := b_Queue___init__, mk_Queue := ⟨mk_Queue, a_Queue___init__, if_Queue___init__, kc_Queue⟩, f_Queue_put := f_Queue_put, c_Queue_put := c_Queue_put, fd_Queue_put := _, F_Queue_put := F_Queue_put, b_Queue_put := b_Queue_put, me_Queue_put := ⟨a_Queue_put, if_Queue_put, k_Queue_put⟩, f_Queue_take_value := f_Queue_take_value, c_Queue_take_value := c_Queue_take_value, fd_Queue_take_value := _, F_Queue_take_value := F_Queue_take_value, b_Queue_take_value := b_Queue_take_value, me_Queue_take_value := ⟨a_Queue_take_value, if_Queue_take_value, k_Queue_take_value⟩, f_Queue_least_value := f_Queue_least_value, c_Queue_least_value := c_Queue_least_value, fd_Queue_least_value := _, F_Queue_least_value := F_Queue_least_value, b_Queue_least_value := b_Queue_least_value, me_Queue_least_value := ⟨a_Queue_least_value, if_Queue_least_value, k_Queue_least_value⟩, P_Queue_least_value := P_Queue_least_value, tb_Queue_least_value := tb_Queue_least_value, f_Queue_value_count := f_Queue_value_count, c_Queue_value_count := c_Queue_value_count, fd_Queue_value_count := _, F_Queue_value_count := F_Queue_value_count, b_Queue_value_count := b_Queue_value_count, me_Queue_value_count := ⟨a_Queue_value_count, if_Queue_value_count, k_Queue_value_count⟩, f_least_windows := f_least_windows, c_least_windows := c_least_windows, fd_least_windows := _, F_least_windows := F_least_windows, b_least_windows := b_least_windows, mg_least_windows := PySem.W.mg_of X G a_least_windows, f_last_of_ring := f_last_of_ring, c_last_of_ring := c_last_of_ring, fd_last_of_ring := _, F_last_of_ring := F_last_of_ring, b_last_of_ring := b_last_of_ring, mg_last_of_ring := PySem.W.mg_of X G a_last_of_ring, f_next_greater := f_next_greater, c_next_greater := c_next_greater, fd_next_greater := _, F_next_greater := F_next_greater, b_next_greater := b_next_greater, mg_next_greater := PySem.W.mg_of X G a_next_greater, f__law_dice := f__law_dice, c__law_dice := c__law_dice, fd__law_dice := _, F__law_dice := F__law_dice, b__law_dice := b__law_dice, mg__law_dice := PySem.W.mg_of X G a__law_dice, f__law_roll := f__law_roll, c__law_roll := c__law_roll, fd__law_roll := _, F__law_roll := F__law_roll, b__law_roll := b__law_roll, mg__law_roll := PySem.W.mg_of X G a__law_roll, f__law_rounds := f__law_rounds, c__law_rounds := c__law_rounds, fd__law_rounds := _, F__law_rounds := F__law_rounds, b__law_rounds := b__law_rounds, mg__law_rounds := PySem.W.mg_of X G a__law_rounds, f__law_told := f__law_told, c__law_told := c__law_told, fd__law_told := _, F__law_told := F__law_told, b__law_told := b__law_told, mg__law_told := PySem.W.mg_of X G a__law_told, f__law_size := f__law_size, c__law_size := c__law_size, fd__law_size := _, F__law_size := F__law_size, b__law_size := b__law_size, mg__law_size := PySem.W.mg_of X G a__law_size, f__law_ring := f__law_ring, c__law_ring := c__law_ring, fd__law_ring := _, F__law_ring := F__law_ring, b__law_ring := b__law_ring, mg__law_ring := PySem.W.mg_of X G a__law_ring, P__law_ring := P__law_ring, tb__law_ring := tb__law_ring, f__law_plain := f__law_plain, c__law_plain := c__law_plain, fd__law_plain := _, F__law_plain := F__law_plain, b__law_plain := b__law_plain, mg__law_plain := PySem.W.mg_of X G a__law_plain, P__law_plain := P__law_plain, tb__law_plain := tb__law_plain, f_law := f_law, c_law := c_law, fd_law := _, F_law := F_law, b_law := b_law, mg_law := PySem.W.mg_of X G a_law, P_law := P_law, tb_law := tb_law, pnd := pnd, u_MOST_ROOM := u_MOST_ROOM, mg_MOST_ROOM := PySem.W.mg_of X G a_MOST_ROOM, rv_MOST_ROOM := rv_MOST_ROOM, no_len := PySem.W.mg_none_of X G nb_len, no_list := PySem.W.mg_none_of X G nb_list, no_tuple := PySem.W.mg_none_of X G nb_tuple, no_range := PySem.W.mg_none_of X G nb_range, no_min := PySem.W.mg_none_of X G nb_min, no_enumerate := PySem.W.mg_none_of X G nb_enumerate, no_int := PySem.W.mg_none_of X G nb_int, no_abs := PySem.W.mg_none_of X G nb_abs, no_max := PySem.W.mg_none_of X G nb_max }
    refine FnOk.imp (ok_law T) fun vs H Q E hq => ?_
    unfold sp_law
    split at hq
    · obtain ⟨h1, h2, h3⟩ := hq
      refine ⟨h1, ?_, h3⟩
      intro p hp
      rcases List.mem_cons.mp hp with rfl | hp
      · exact TabS.nil (h2 (c_Ring_all_items, P_Ring_all_items) (by simp))
      rcases List.mem_cons.mp hp with rfl | hp
      · exact TabS.nil (h2 (c_Queue_least_value, P_Queue_least_value) (by simp))
      rcases List.mem_cons.mp hp with rfl | hp
      · exact TabS.nil (h2 (c__law_ring, P__law_ring) (by simp))
      rcases List.mem_cons.mp hp with rfl | hp
      · exact TabS.nil (h2 (c__law_plain, P__law_plain) (by simp))
      rcases List.mem_cons.mp hp with rfl | hp
      · exact TabS.nil (h2 (c_law, P_law) (by simp))
      exact nomatch hp
    · exact hq.elim
end Z

set_option Elab.async false
set_option pp.maxSteps 300
set_option pp.deepTerms false
set_option maxRecDepth 100000
open PySem PySem.W PyProof.Rows L2
set_option maxHeartbeats 0
open_top hdr for PySem.Challenge.rw_treestack_k17_rings_of_places
set_option maxHeartbeats 200000
def asOf {q : Program} {loose : List Str} {XP : (Str → Option Value) → Heap → Prop} {K : Params → Frag} {as : List Addr} {e : ∀ P, as = (K P).map (·.1)} {ts : List Addr} {R : RowW} {d : DefRec} {us} {f} {G : Prop}
  (_ : WalkO q loose XP (kmHook K as e ts).says R d us f → G) : List Addr := as
set_option maxHeartbeats 0 in
theorem PySem.Challenge.cw_treestack_k17_rings_of_places_holds : PySem.Challenge.rw_treestack_k17_rings_of_places.Holds := by
  w_on; o_law
  o_head (kmHook hdr.heap_39 (asOf hdr) (fun _ => by kernel_rfl) [119, 210, 290, 285, 295])
  (case hw => w_witness2)
  refine LamX.walk_ofTs (l := PySem.Challenge.rw_treestack_k17_rings_of_places) (n := 63) (k := 64) (x := "script") (CX := fun w => L2.CX Z.prg w) rfl (by decide) rfl ⟨rfl, by decide, by decide⟩ (fun w h Y => PySem.W.km_in_of Y) ?F ?H
  case H =>
    intro w H s e s' h
    obtain ⟨_, _, _, _, _, h⟩ := h
    simp at h
  case F =>
    intro w mg fa h Y KX G hmg
    have Ht := PySem.W.km_tabs_of Y
    clear Y
    refine' Z.law_at KX G hmg ?a_RingError ?x_RingError ?k_RingError ?bb_RingError ?tt_RingError ?i_RingError ?su_RingError ?a_Ring ?pg_Ring ?hd_Ring ?po_Ring ?sa_Ring ?na_Ring_places ?na_Ring_start ?na_Ring_many ?a_Last ?pg_Last ?hd_Last ?po_Last ?sa_Last ?na_Last_ring ?na_Last_kept ?na_Last_came ?a_Queue ?pg_Queue ?hd_Queue ?po_Queue ?sa_Queue ?na_Queue_ins ?na_Queue_outs ?na_Queue_poured ?a_Ring___init__ ?if_Ring___init__ ?l_Ring___init__ ?dl_Ring___init__ ?dr0_Ring___init__ ?h_Ring___init__ ?k_Ring___init__ ?mk_Ring ?kc_Ring ?a_Ring_spot_of ?if_Ring_spot_of ?l_Ring_spot_of ?h_Ring_spot_of ?k_Ring_spot_of ?a_Ring_check_some ?if_Ring_check_some ?l_Ring_check_some ?h_Ring_check_some ?k_Ring_check_some ?a_Ring_grow_twice ?if_Ring_grow_twice ?l_Ring_grow_twice ?h_Ring_grow_twice ?k_Ring_grow_twice ?a_Ring_put_last ?if_Ring_put_last ?l_Ring_put_last ?h_Ring_put_last ?k_Ring_put_last ?a_Ring_put_first ?if_Ring_put_first ?l_Ring_put_first ?h_Ring_put_first ?k_Ring_put_first ?a_Ring_check_put ?if_Ring_check_put ?l_Ring_check_put ?h_Ring_check_put ?k_Ring_check_put ?a_Ring_take_first ?if_Ring_take_first ?l_Ring_take_first ?h_Ring_take_first ?k_Ring_take_first ?a_Ring_take_last ?if_Ring_take_last ?l_Ring_take_last ?h_Ring_take_last ?k_Ring_take_last ?a_Ring_item_at ?if_Ring_item_at ?l_Ring_item_at ?h_Ring_item_at ?k_Ring_item_at ?a_Ring_all_items ?if_Ring_all_items ?l_Ring_all_items ?h_Ring_all_items ?k_Ring_all_items ?lk_Ring_all_items ?v11_Ring_all_items ?ch_Ring_all_items ?nP_Ring_all_items ?a_Ring_turn_by ?if_Ring_turn_by ?l_Ring_turn_by ?h_Ring_turn_by ?k_Ring_turn_by ?a_Ring_room_left ?if_Ring_room_left ?l_Ring_room_left ?h_Ring_room_left ?k_Ring_room_left ?a_Last___init__ ?if_Last___init__ ?l_Last___init__ ?h_Last___init__ ?k_Last___init__ ?mk_Last ?kc_Last ?a_Last_put ?if_Last_put ?l_Last_put ?h_Last_put ?k_Last_put ?a_Last_item_from ?if_Last_item_from ?l_Last_item_from ?h_Last_item_from ?k_Last_item_from ?a_Queue___init__ ?if_Queue___init__ ?l_Queue___init__ ?h_Queue___init__ ?k_Queue___init__ ?mk_Queue ?kc_Queue ?a_Queue_put ?if_Queue_put ?l_Queue_put ?h_Queue_put ?k_Queue_put ?a_Queue_take_value ?if_Queue_take_value ?l_Queue_take_value ?h_Queue_take_value ?k_Queue_take_value ?a_Queue_least_value ?if_Queue_least_value ?l_Queue_least_value ?h_Queue_least_value ?k_Queue_least_value ?lk_Queue_least_value ?v11_Queue_least_value ?ch_Queue_least_value ?nP_Queue_least_value ?a_Queue_value_count ?if_Queue_value_count ?l_Queue_value_count ?h_Queue_value_count ?k_Queue_value_count ?a_least_windows ?l_least_windows ?h_least_windows ?k_least_windows ?a_last_of_ring ?l_last_of_ring ?h_last_of_ring ?k_last_of_ring ?a_next_greater ?l_next_greater ?h_next_greater ?k_next_greater ?a__law_dice ?l__law_dice ?h__law_dice ?k__law_dice ?a__law_roll ?l__law_roll ?h__law_roll ?k__law_roll ?a__law_rounds ?l__law_rounds ?h__law_rounds ?k__law_rounds ?a__law_told ?l__law_told ?h__law_told ?k__law_told ?a__law_size ?l__law_size ?h__law_size ?k__law_size ?a__law_ring ?l__law_ring ?h__law_ring ?k__law_ring ?lk__law_ring ?v11__law_ring ?ch__law_ring ?nP__law_ring ?a__law_plain ?l__law_plain ?h__law_plain ?k__law_plain ?lk__law_plain ?v11__law_plain ?ch__law_plain ?nP__law_plain ?a_law ?l_law ?h_law ?k_law ?lk_law ?v11_law ?ch_law ?nP_law ?pnd ?a_MOST_ROOM ?rv_MOST_ROOM ?nb_len ?nb_list ?nb_tuple ?nb_range ?nb_min ?nb_enumerate ?nb_int ?nb_abs ?nb_max ?ht_Ring_all_items ?ht_Queue_least_value ?ht__law_ring ?ht__law_plain ?ht_law
    (case a_RingError => k_is)
    (case x_RingError => k_exc)
    (case k_RingError => k_is)
    (case bb_RingError => k_is)
    (case tt_RingError => k_is)
    (case i_RingError => k_is)
    (case su_RingError => (first | rfl | k_is))
    (case a_Ring => k_is)
    (case pg_Ring => k_is)
    (case hd_Ring => k_is)
    (case po_Ring => k_is)
    (case sa_Ring => k_is)
    (case na_Ring_places => k_is)
    (case na_Ring_start => k_is)
    (case na_Ring_many => k_is)
    (case a_Last => k_is)
    (case pg_Last => k_is)
    (case hd_Last => k_is)
    (case po_Last => k_is)
    (case sa_Last => k_is)
    (case na_Last_ring => k_is)
    (case na_Last_kept => k_is)
    (case na_Last_came => k_is)
    (case a_Queue => k_is)
    (case pg_Queue => k_is)
    (case hd_Queue => k_is)
    (case po_Queue => k_is)
    (case sa_Queue => k_is)
    (case na_Queue_ins => k_is)
    (case na_Queue_outs => k_is)
    (case na_Queue_poured => k_is)
    (case a_Ring___init__ => k_is)
    (case if_Ring___init__ => k_is)
    (case l_Ring___init__ => k_is)
    (case dl_Ring___init__ => k_is)
    (case dr0_Ring___init__ => (first | exact rfl | exact ⟨_, rfl⟩))
    (case h_Ring___init__ => k_is)
    (case k_Ring___init__ => k_is)
    (case mk_Ring => k_is)
    (case kc_Ring => k_is)
    (case a_Ring_spot_of => k_is)
    (case if_Ring_spot_of => k_is)
    (case l_Ring_spot_of => k_is)
    (case h_Ring_spot_of => k_is)
    (case k_Ring_spot_of => k_is)
    (case a_Ring_check_some => k_is)
    (case if_Ring_check_some => k_is)
    (case l_Ring_check_some => k_is)
    (case h_Ring_check_some => k_is)
    (case k_Ring_check_some => k_is)
    (case a_Ring_grow_twice => k_is)
    (case if_Ring_grow_twice => k_is)
    (case l_Ring_grow_twice => k_is)
    (case h_Ring_grow_twice => k_is)
    (case k_Ring_grow_twice => k_is)
    (case a_Ring_put_last => k_is)
    (case if_Ring_put_last => k_is)
    (case l_Ring_put_last => k_is)
    (case h_Ring_put_last => k_is)
    (case k_Ring_put_last => k_is)
    (case a_Ring_put_first => k_is)
    (case if_Ring_put_first => k_is)
    (case l_Ring_put_first => k_is)
    (case h_Ring_put_first => k_is)
    (case k_Ring_put_first => k_is)
    (case a_Ring_check_put => k_is)
    (case if_Ring_check_put => k_is)
    (case l_Ring_check_put => k_is)
    (case h_Ring_check_put => k_is)
    (case k_Ring_check_put => k_is)
    (case a_Ring_take_first => k_is)
    (case if_Ring_take_first => k_is)
    (case l_Ring_take_first => k_is)
    (case h_Ring_take_first => k_is)
    (case k_Ring_take_first => k_is)
    (case a_Ring_take_last => k_is)
    (case if_Ring_take_last => k_is)
    (case l_Ring_take_last => k_is)
    (case h_Ring_take_last => k_is)
    (case k_Ring_take_last => k_is)
    (case a_Ring_item_at => k_is)
    (case if_Ring_item_at => k_is)
    (case l_Ring_item_at => k_is)
    (case h_Ring_item_at => k_is)
    (case k_Ring_item_at => k_is)
    (case a_Ring_all_items => k_is)
    (case if_Ring_all_items => k_is)
    (case l_Ring_all_items => k_is)
    (case h_Ring_all_items => k_is)
    (case k_Ring_all_items => k_is)
    (case lk_Ring_all_items => k_is)
    (case v11_Ring_all_items => exact rfl)
    (case ch_Ring_all_items => kernel_rfl)
    (case nP_Ring_all_items => kernel_rfl)
    (case a_Ring_turn_by => k_is)
    (case if_Ring_turn_by => k_is)
    (case l_Ring_turn_by => k_is)
    (case h_Ring_turn_by => k_is)
    (case k_Ring_turn_by => k_is)
    (case a_Ring_room_left => k_is)
    (case if_Ring_room_left => k_is)
    (case l_Ring_room_left => k_is)
    (case h_Ring_room_left => k_is)
    (case k_Ring_room_left => k_is)
    (case a_Last___init__ => k_is)
    (case if_Last___init__ => k_is)
    (case l_Last___init__ => k_is)
    (case h_Last___init__ => k_is)
    (case k_Last___init__ => k_is)
    (case mk_Last => k_is)
    (case kc_Last => k_is)
    (case a_Last_put => k_is)
    (case if_Last_put => k_is)
    (case l_Last_put => k_is)
    (case h_Last_put => k_is)
    (case k_Last_put => k_is)
    (case a_Last_item_from => k_is)
    (case if_Last_item_from => k_is)
    (case l_Last_item_from => k_is)
    (case h_Last_item_from => k_is)
    (case k_Last_item_from => k_is)
    (case a_Queue___init__ => k_is)
    (case if_Queue___init__ => k_is)
    (case l_Queue___init__ => k_is)
    (case h_Queue___init__ => k_is)
    (case k_Queue___init__ => k_is)
    (case mk_Queue => k_is)
    (case kc_Queue => k_is)
    (case a_Queue_put => k_is)
    (case if_Queue_put => k_is)
    (case l_Queue_put => k_is)
    (case h_Queue_put => k_is)
    (case k_Queue_put => k_is)
    (case a_Queue_take_value => k_is)
    (case if_Queue_take_value => k_is)
    (case l_Queue_take_value => k_is)
    (case h_Queue_take_value => k_is)
    (case k_Queue_take_value => k_is)
    (case a_Queue_least_value => k_is)
    (case if_Queue_least_value => k_is)
    (case l_Queue_least_value => k_is)
    (case h_Queue_least_value => k_is)
    (case k_Queue_least_value => k_is)
    (case lk_Queue_least_value => k_is)
    (case v11_Queue_least_value => exact rfl)
    (case ch_Queue_least_value => kernel_rfl)
    (case nP_Queue_least_value => kernel_rfl)
    (case a_Queue_value_count => k_is)
    (case if_Queue_value_count => k_is)
    (case l_Queue_value_count => k_is)
    (case h_Queue_value_count => k_is)
    (case k_Queue_value_count => k_is)
    (case a_least_windows => k_is)
    (case l_least_windows => k_is)
    (case h_least_windows => k_is)
    (case k_least_windows => k_is)
    (case a_last_of_ring => k_is)
    (case l_last_of_ring => k_is)
    (case h_last_of_ring => k_is)
    (case k_last_of_ring => k_is)
    (case a_next_greater => k_is)
    (case l_next_greater => k_is)
    (case h_next_greater => k_is)
    (case k_next_greater => k_is)
    (case a__law_dice => k_is)
    (case l__law_dice => k_is)
    (case h__law_dice => k_is)
    (case k__law_dice => k_is)
    (case a__law_roll => k_is)
    (case l__law_roll => k_is)
    (case h__law_roll => k_is)
    (case k__law_roll => k_is)
    (case a__law_rounds => k_is)
    (case l__law_rounds => k_is)
    (case h__law_rounds => k_is)
    (case k__law_rounds => k_is)
    (case a__law_told => k_is)
    (case l__law_told => k_is)
    (case h__law_told => k_is)
    (case k__law_told => k_is)
    (case a__law_size => k_is)
    (case l__law_size => k_is)
    (case h__law_size => k_is)
    (case k__law_size => k_is)
    (case a__law_ring => k_is)
    (case l__law_ring => k_is)
    (case h__law_ring => k_is)
    (case k__law_ring => k_is)
    (case lk__law_ring => k_is)
    (case v11__law_ring => exact rfl)
    (case ch__law_ring => kernel_rfl)
    (case nP__law_ring => kernel_rfl)
    (case a__law_plain => k_is)
    (case l__law_plain => k_is)
    (case h__law_plain => k_is)
    (case k__law_plain => k_is)
    (case lk__law_plain => k_is)
    (case v11__law_plain => exact rfl)
    (case ch__law_plain => kernel_rfl)
    (case nP__law_plain => kernel_rfl)
    (case a_law => k_is)
    (case l_law => k_is)
    (case h_law => k_is)
    (case k_law => k_is)
    (case lk_law => k_is)
    (case v11_law => exact rfl)
    (case ch_law => kernel_rfl)
    (case nP_law => kernel_rfl)
    (case pnd => (first | decide | simp))
    (case a_MOST_ROOM => k_is)
    (case rv_MOST_ROOM => (first | exact rfl | exact ⟨_, rfl⟩))
    (case nb_len => k_is)
    (case nb_list => k_is)
    (case nb_tuple => k_is)
    (case nb_range => k_is)
    (case nb_min => k_is)
    (case nb_enumerate => k_is)
    (case nb_int => k_is)
    (case nb_abs => k_is)
    (case nb_max => k_is)
    (case ht_Ring_all_items => exact Ht _ (by simp))
    (case ht_Queue_least_value => exact Ht _ (by simp))
    (case ht__law_ring => exact Ht _ (by simp))
    (case ht__law_plain => exact Ht _ (by simp))
    (case ht_law => exact Ht _ (by simp))

