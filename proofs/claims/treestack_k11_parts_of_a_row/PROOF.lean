import PyProof.Rows.All
import Wide.All
import OpenK.AllK
import Wide.FinOn
import HandS.ForMost
import HandS.ForExc
import HandS.Lambda
import HandS.EndTab
import HandS.Style
import HandS.TupAny
import HandS.Zip
import HandS.Walk
import HandS.Flow
import HandS.GenList
import HandS.GenOver
import PyProof.GenComp
import PyProof.GenArm
import PyProof.GenQ
import PyProof.CodeObjX
import PyProof.TupleOfGen
import PyProof.ConsumeS
import PyProof.MinMaxWalk
import PyProof.SumAny
import HandS.Conv
import HandS.Steps
import HandS.ExcOwn
import HandS.Defaults
import KE.GoesMore
import PyProof.Rows.EnumRows
import KE.DataMinMax
import KE.SortData
import HandS.TupMul
import KE.KNestM
import PySem.Challenge.RW_treestack_k11_parts_of_a_row
set_option Elab.async false
set_option linter.all false
set_option maxRecDepth 100000
set_option maxHeartbeats 4000000
/-! own layer, part 1: lambdas as values; a comprehension that may lean on the def around it -/
namespace Y
open PySem PySem.Spec PyProof.Rows L2 LamX

/-- a lambda's function object stands at f, its code object at c' -/
def LamO (f c' : Addr) (q : Str) (params : Arguments) (body : Expr) (scope : Scope) (cl : List (Str × Addr)) : HO :=
  .ext fun h => ∃ pm ctv : Value, h.get? f = some (PySem.W.kla_obj "<lambda>" q params body scope cl pm c' ctv)

section
variable {X : Cx} {pins : List (Addr × Obj)} {σ : L2.St} {H : Hp} {s : Shared}

/-- a fresh function object of a lambda is laid and told -/
theorem laid_lam {f c' : Addr} {q : Str} {params : Arguments} {body : Expr} {scope : Scope} {cl : List (Str × Addr)} {pm ctv : Value} {tk : Nat}
    (I : Inv X pins σ H s) (hf : f = s.heap.objs.size) :
    Inv X pins σ (upd H f (LamO f c' q params body scope cl)) { s with heap := s.heap.push (PySem.W.kla_obj "<lambda>" q params body scope cl pm c' ctv), toks := tk } := by
  subst hf
  have e0 : (s.heap.push (PySem.W.kla_obj "<lambda>" q params body scope cl pm c' ctv)).get? s.heap.objs.size = some (PySem.W.kla_obj "<lambda>" q params body scope cl pm c' ctv) := Heap.get?_push_size _ rfl
  refine I.laid (t' := tk) (fun b o e => Heap.get?_push_of_some _ e) (Nat.le_refl _) ?_
  exact ⟨⟨pm, ctv, e0⟩, ⟨_, e0⟩, fun h1 h2 ⟨a, b, e⟩ st => ⟨a, b, st _ e⟩⟩

theorem lam_make3 {T : List (Addr × Str)} {c P : Addr} {params : Arguments} {body : Expr} {scope : Scope} {pos : Pos} {E : Value → Shared → Prop} {Q : Value → Shared → Prop}
    (I : Inv X pins σ H s) (TB : TabB X.base X.mg c P) (hcode : X.env.code = .ref c)
    (hm : (P, X.env.qual ++ "<lambda>") ∈ T) (hu : ∀ p ∈ T, p.1 = P → p.2 = X.env.qual ++ "<lambda>") (hT : Tabs T H)
    (hdef : defaultsOf params X.env = ([], [])) (hfree : ∀ y ∈ scope.names, y.2 = .free → ∃ c, X.env.cells.lookup y.1 = some c)
    (h : ∀ (f c' : Addr) (H1 : Hp) (s' : Shared), Inv X pins σ H1 s' → ExtN H H1 → (∀ b, H1 b = none → H b = none) → Tabs T H1 → H f = none →
      H1 f = some (LamO f c' (X.env.qual ++ "<lambda>") params body scope (cloFrom X.env.cells scope.names [])) → H1 c' = some (CodeO c' (X.env.qual ++ "<lambda>")) → Q (.ref f) s') :
    wpAny (model X.prog X.w) X.A (eval (.Lambda params body scope pos) X.env) Q E s := by
  obtain ⟨ps, tabP, okP, named⟩ := hT _ hm
  refine PySem.W.kla_eval hdef ?_
  have rawP : s.heap.get? P = some { cls := .none, data := .fields ps } := I.hok P _ tabP
  -- the end, from a state in which the table is right
  have close : ∀ (c' : Addr) (ctv : Value) (H0 : Hp) (h' : Heap) (tk : Tok), Inv X pins σ H0 { s with heap := h', toks := tk } → ExtN H H0 → (∀ b, H0 b = none → H b = none) → Tabs T H0 →
      H0 c' = some (CodeO c' (X.env.qual ++ "<lambda>")) →
      Q (.ref h'.objs.size) { s with heap := h'.push (PySem.W.kla_obj "<lambda>" (X.env.qual ++ "<lambda>") params body scope (cloFrom X.env.cells scope.names []) ((X.mg "__name__").getD .none) c' ctv), toks := tk } := by
    intro c' ctv H0 h' tk J e1 e2 e3 e4
    have fr : H0 h'.objs.size = none := J.hok.fresh (Nat.le_refl _)
    have st : ∀ b o, H0 b = some o → upd H0 h'.objs.size (LamO h'.objs.size c' (X.env.qual ++ "<lambda>") params body scope (cloFrom X.env.cells scope.names [])) b = some o := fun b o e => by
      rw [upd_ne (ne_of_none e fr)]; exact e
    refine h h'.objs.size c' _ _ (laid_lam (s := { s with heap := h', toks := tk }) (tk := tk) J rfl) (e1.trans (ExtN.of st)) (fun b hb => e2 b ?_) (e3.ext st) (e2 _ fr) upd_same (st _ _ e4)
    by_cases z : b = h'.objs.size
    · rw [z]; exact fr
    · rw [upd_ne z] at hb; exact hb
  cases hc : codeAmong pos ps.toList with
  | some cv =>
    obtain ⟨c', rfl, hco⟩ := named pos cv hc
    refine PySem.W.kla_makeFunctionHit (mg := X.mg) (c := c) (P := P) (ps := ps) (closure_ok hfree) I.ok.glob (I.mod.glob.keeps I.bk) hcode (TB.code.keeps I.bk) rawP okP hc (TB.bm.keeps I.bk) ?_
    intro ctv h' tk hx hsz
    exact close c' ctv H h' tk (I.kept fun b o e => hx b o e) (ExtN.refl H) (fun _ q => q) hT hco
  | none =>
    refine PySem.W.kla_makeFunction (mg := X.mg) (c := c) (P := P) (ps := ps) (closure_ok hfree) I.ok.glob (I.mod.glob.keeps I.bk) hcode (TB.code.keeps I.bk) rawP okP hc TB.gP (TB.bm.keeps I.bk) ?_
    intro c' ctv h' tk hx hge hlt hrec htb
    obtain ⟨c2, oc, vs, t, e2, hoc, hd, hv⟩ := hrec
    cases e2
    have nC : H c' = none := I.hok.fresh hge
    have J := inv_table (t' := tk) (more := #[rawInt pos.line, rawInt pos.col, .ref c']) (h' := h') I tabP (fun b o hb e => hx b o hb e) htb hge ⟨oc, vs, t, hoc, hd, hv⟩
    have toL : (ps ++ #[rawInt pos.line, rawInt pos.col, .ref c']).toList = ps.toList ++ [rawInt pos.line, rawInt pos.col, .ref c'] := by simp
    have hE : ExtN H (upd (upd H P (.tbl (ps ++ #[rawInt pos.line, rawInt pos.col, .ref c']))) c' (CodeO c' (X.env.qual ++ "<lambda>"))) := by
      intro b o e n
      have n1 : b ≠ c' := ne_of_none e nC
      have n2 : b ≠ P := fun z => n ps (by rw [z, tabP] at e; exact (Option.some.inj e).symm)
      rw [upd_ne n1, upd_ne n2]; exact e
    refine close c' ctv _ h' tk J hE (fun b hb => ?_) (fun p hp => ?_) upd_same
    · by_cases z1 : b = c'
      · rw [z1]; exact nC
      · rw [upd_ne z1] at hb
        by_cases z2 : b = P
        · rw [z2, upd_same] at hb; cases hb
        · rw [upd_ne z2] at hb; exact hb
    · by_cases hb : p.1 = P
      · rw [hu p hp hb, hb]
        refine ⟨_, by rw [upd_ne (ne_of_none tabP nC), upd_same], by rw [toL]; exact PySem.TriplesOk_snoc _ _ _ _ okP, ?_⟩
        intro p' cv hcv
        rw [toL] at hcv
        rcases among_app _ okP hcv with z | z
        · obtain ⟨c0, e1, e3⟩ := named p' cv z
          exact ⟨c0, e1, hE _ _ e3 codeO_ne⟩
        · exact ⟨c', z, upd_same⟩
      · obtain ⟨ps', a1, a2, a3⟩ := hT p hp
        refine ⟨ps', by rw [upd_ne (ne_of_none a1 nC), upd_ne hb]; exact a1, a2, ?_⟩
        intro p' cv hcv
        obtain ⟨c0, e1, e3⟩ := a3 p' cv hcv
        exact ⟨c0, e1, hE _ _ e3 codeO_ne⟩
end

/-- lambda: body, as a value -/
def tLamV (T : List (Addr × Str)) (q : Str) (params : Arguments) (body : Expr) (scope : Scope) (cl : List (Str × Addr)) : TE := fun σ H Q =>
  Tabs T H ∧ ∀ f c' H1, ExtN H H1 → (∀ b, H1 b = none → H b = none) → Tabs T H1 → H f = none → H1 f = some (LamO f c' q params body scope cl) → H1 c' = some (CodeO c' q) → Q (.ref f) H1
theorem pe_lamV {X : Cx} {T : List (Addr × Str)} {c P : Addr} {params : Arguments} {body : Expr} {scope : Scope} {pos : Pos}
    (TB : TabB X.base X.mg c P) (hcode : X.env.code = .ref c) (hm : (P, X.env.qual ++ "<lambda>") ∈ T) (hu : ∀ p ∈ T, p.1 = P → p.2 = X.env.qual ++ "<lambda>")
    (hdef : defaultsOf params X.env = ([], [])) (L : LamS X.env.scope scope) :
    PE X (.Lambda params body scope pos) (tLamV T (X.env.qual ++ "<lambda>") params body scope (cloFrom X.env.cells scope.names [])) := by
  refine ⟨fun pins s σ H Q I h => ?_⟩
  obtain ⟨hT, h⟩ := h
  refine lam_make3 I TB hcode hm hu hT hdef (L.has I.ok) ?_
  intro f c' H1 s' J e1 e2 e3 e4 e5 e6
  exact ⟨.ref f, H1, J, rfl, h f c' H1 e1 e2 e3 e4 e5 e6⟩

/-- what is known of a lambda whose body's reading is t -/
structure LamGood (X : Cx) (k : Nat) (params : Arguments) (body : Expr) (scope : Scope) (t : XK → TE) : Prop where
  L : LamS X.env.scope scope
  bind : ∀ (q : Str) (cl : List (Str × Addr)) (pm cv ctv : Value), bindArgs (PySem.W.kla_fn "<lambda>" q params body scope cl pm cv ctv) ⟨[], []⟩ = pure []
  body : ∀ (A : Around) (outer : List Env) (s : Shared) (H : Hp) (E : XK) (f c' : Addr), Room k (A.deeper (lamEnv X scope s.heap.objs.size f c')) → PE (lamCx X A outer s H E scope f c') body (t E)

section
variable {X : Cx} {pins : List (Addr × Obj)} {σ : L2.St} {H HZ : Hp} {s s1 : Shared}
/-- x(), in the def that got the lambda as a value -/
theorem pe_act3 {CXg : CXT} {Eg : XK} {Ng : List Str} {qg : Str} {sg : Scope} {g f c' : Addr} {cdg : Value} {params : Arguments} {body : Expr} {scope : Scope} {t : XK → TE} {k i : Nat} {a : Str} {pn : List (Addr × Obj)} {xe : Value → Shared → Prop} {W : WX} {E : XK} {p1 p2 : Pos}
    (I : Inv X pins σ H s) (G : LamGood X k params body scope t)
    (tk : Takes ((cxOf CXg X.prog X.w X.K X.mg X.base Ng qg sg g cdg X.A X.stack s H Eg).tr pn xe) W) (hW : ∀ cls d σ' H', E cls d H' → W cls d σ' H') (hr : Room (k + 1) (X.A.deeper (envOfC qg sg s.heap.objs.size g cdg)))
    (hN : Ng[i]? = some a) (hv : Vis sg a) (hd : (a == ("__debug__" : Str)) = false := by decide) (hcd : (a == ("__classdict__" : Str)) = false := by decide) :
    PE ((cxOf CXg X.prog X.w X.K X.mg X.base Ng qg sg g cdg X.A X.stack s H Eg).tr pn xe) (.Call (.Name a p1) [] [] p2)
      (fun σZ HZ Q => σZ[i]? = some (some (.ref f)) ∧ (HZ f = some (LamO f c' (X.env.qual ++ "<lambda>") params body scope (cloFrom X.env.cells scope.names [])) ∧ HZ c' = some (CodeO c' (X.env.qual ++ "<lambda>"))) ∧ t E σ HZ Q) := by
  refine ⟨fun pinsZ sZ σZ HZ Q IZ h => ?_⟩
  obtain ⟨hs, ⟨hf, hc⟩, ht⟩ := h
  have look := (pe_var (X := (cxOf CXg X.prog X.w X.K X.mg X.base Ng qg sg g cdg X.A X.stack s H Eg).tr pn xe) (pos := p1) (i := i) hN hv hd hcd).run pinsZ sZ σZ HZ (fun v H1 => v = .ref f ∧ H1 = HZ) IZ ⟨.ref f, hs, rfl, rfl⟩
  refine wpAny_Call_Name_kw (thn look ?_)
  rintro u s1 ⟨v, H1, I1, r1, rfl, rfl⟩
  obtain rfl : u = Value.ref f := r1
  obtain ⟨⟨pm, ctv, ofn⟩, _, _⟩ := I1.hok f _ hf
  obtain ⟨⟨oc, vs, tt, hoc, hdc, hvc⟩, _, _⟩ := I1.hok c' _ hc
  refine PySem.W.callWith_F0 ⟨_, _, _, _, ofn⟩ ?_
  have un : Un (frs X.stack) [] H H1 s.heap s1.heap := I1.base
  have go : codeAny (model X.prog X.w) (X.A.deeper (envOfC qg sg s.heap.objs.size g cdg)) (.call (.ref f) ⟨[], []⟩) (CR (L2.CX X.prog X.w) (envOfC qg sg s.heap.objs.size g cdg :: X.stack) X.prog X.w H1 s1 Q E) s1 := by
    refine PySem.W.kla_callFunE hr.depth ofn rfl G.L.co G.L.gen rfl ⟨c', oc, vs, tt, rfl, hoc, hdc, hvc⟩ ?_
    rw [G.bind]
    refine wpAny_pure (wpAny_newFunctionEnv (fun y hy => (G.L.own y hy).2) (fun y hy => absurd hy (by simp)) ?_ G.L.kind)
    intro h₁ hns hsb
    refine ⟨I1.nolimit.fresh _ hsb, ?_⟩
    have kp : ∀ b o, s1.heap.get? b = some o → h₁.get? b = some o := fun b o e => hsb.extBut b o (Nat.ne_of_lt (Heap.lt_size e)) (Heap.get?_push_of_some _ e)
    have J := lam_start2 (A := X.A.deeper (envOfC qg sg s.heap.objs.size g cdg)) (outer := envOfC qg sg s.heap.objs.size g cdg :: X.stack) (E := E) (scope := scope) (f := f) (c' := c') (tk := s1.toks + ([] : List (Str × Value)).length) I G.L I1.env0 hr.hd un hns kp
    show codeAny _ _ (.expr body (lamEnv X scope s1.heap.objs.size f c')) _ _
    refine PySem.W.kla_codeExpr (wpAny_mono ((G.body _ _ s1 H1 E f c' (hr.deeper _)).run [] _ _ H1 Q J ht) ?_ fun e s' hq => hq)
    rintro v s' ⟨w', H', J', rv, q⟩
    exact ⟨w', H', J'.os, J'.bare, J'.base, J'.hok, rv, q⟩
  have pass : Passes (L2.CX X.prog X.w) ((cxOf CXg X.prog X.w X.K X.mg X.base Ng qg sg g cdg X.A X.stack s H Eg).tr pn xe) E := passes_call tk hW
  refine wpAny_call (codeAny_mono go ?_)
  intro r s' hq
  cases r with
  | error e => exact pass pinsZ σZ H1 s1 e s' I1 hq
  | ok fl =>
    cases fl with
    | ret u => exact I1.after hq
    | next => exact hq.elim
    | brk => exact hq.elim
    | cont => exact hq.elim
end
end Y

set_option Elab.async false
set_option linter.all false
set_option maxRecDepth 100000
set_option maxHeartbeats 4000000
namespace Y
open PySem PySem.Spec L2 LamX

/-- a block within X (or X itself): the same run, another frame -/
abbrev inner (X : Cx) (s0 : Shared) (h0 : Hp) (en : Env) (ou : List Env) (ex : List Addr) (fn : Str → Bool) (pn : List (Addr × Obj)) (xe : Value → Shared → Prop) : Cx :=
  { X with s_0 := s0, H_0 := h0, env := en, outer := ou, ex := ex, fn := fn, pn := pn, xe := xe }

/-- what told(v) asks of v -/
def rTold (X : Cx) (k : Nat) (CS : Addr) (ret : Str) (σ : St) (v : V) (H1 : Hp) (Q : VK) : Prop :=
  ∃ (f c' : Addr) (params : Arguments) (body : Expr) (scope : Scope) (t : XK → TE), v = .ref f ∧ LamGood X k params body scope t ∧
    H1 f = some (LamO f c' (X.env.qual ++ "<lambda>") params body scope (cloFrom X.env.cells scope.names [])) ∧ H1 c' = some (CodeO c' (X.env.qual ++ "<lambda>")) ∧
    t (fun cls _ H' => ∃ b, PySem.W.exmOne X.K cls (.ref CS) = some b ∧ (b = true → Q (.str ret) H') ∧ (b = false → False)) σ H1 Q
/-- told(e): e hands on a lambda of X; its body is read where X's names stand as pr says -/
def tTold (X : Cx) (k : Nat) (CS : Addr) (ret : Str) (pr : St → St) (te : TE) : TE := fun σ H Q => te σ H fun v H1 => rTold X k CS ret (pr σ) v H1 Q

theorem pe_toldI {X : Cx} {s0 : Shared} {h0 : Hp} {en : Env} {ou : List Env} {ex : List Addr} {fn : Str → Bool} {pn : List (Addr × Obj)} {xe : Value → Shared → Prop}
    {k : Nat} {x a ee ret : Str} {st : Stmt} {g CS : Addr} {fd : FuncData} {Ng : List Str} {e : Expr} {te : TE} {pr : St → St} {p pos p1 p2 p3 p4 p5 p6 p7 p8 : Pos} {j : Nat}
    (back : ∀ (pins : List (Addr × Obj)) (σ : St) (H : Hp) (s : Shared), Inv (inner X s0 h0 en ou ex fn pn xe) pins σ H s → ∃ pins', Inv X pins' (pr σ) H s)
    (hg : Gl (inner X s0 h0 en ou ex fn pn xe) x) (hm : X.mg x = some (.ref g)) (F : Fun X.K x x st g fd) (hb : L2.Binds X.K fd [a] []) (Sg : FnScope Ng [a] (defScope st)) (hNg : Ng[0]? = some a) (hva : Vis (defScope st) a)
    (hbody : defBody st = [.Try [.Return (some (.Call (.Name a p1) [] [] p2)) p3] [.ExceptHandler (some (.Name ee p4)) none [.Return (some (.Constant (.str ret) j p5)) p6] p7] [] [] p8])
    (h0a : ∀ f : Addr, (L2.start Ng [V.ref f])[0]? = some (some (V.ref f)))
    (hge : (defScope st).names.lookup ee = some .globalImplicit) (hme : X.mg ee = some (.ref CS)) (hr : Room (k + 2) X.A) (args : PA (inner X s0 h0 en ou ex fn pn xe) [e] (tCons te tNil))
    (hde : (ee == ("__debug__" : Str)) = false := by decide) (hdb : (x == ("__debug__" : Str)) = false := by decide) (hd : (a == ("__debug__" : Str)) = false := by decide) (hcd : (a == ("__classdict__" : Str)) = false := by decide)
    (hse : starEach [e] en = (false, eval e en) :: starEach [] en := by rfl) (hpl : (backTo pos (starEach ([] : List Expr) en)).any (·.1) = false := by rfl) :
    PE (inner X s0 h0 en ou ex fn pn xe) (.Call (.Name x p) [e] [] pos) (tTold X k CS ret pr te) := by
  obtain ⟨oc, od, kV, doc, pm, an, cdv, ct, osl, rfl, lk, hcg⟩ := F.ex
  refine ⟨fun pins s σ H Q I h => ?_⟩
  refine wpAny_Call_Name_kw (ld_glob I hg hm ?_ hdb)
  have h' : (tCons te tNil) σ H (fun vs H1 => match vs with | [v] => rTold X k CS ret (pr σ) v H1 Q | _ => False) := h
  refine PySem.W.callWith_K (h₀ := X.base) I.ok.mod.kin F.kp (thn (args.run pos pins s σ H _ I h') ?_) hse hpl
  rintro us s1 ⟨vs, H1, I1, r1, q1⟩
  refine ⟨I1.kIn, ?_⟩
  obtain ⟨v, rfl, q1⟩ : ∃ v, vs = [v] ∧ rTold X k CS ret (pr σ) v H1 Q := by
    match vs, q1 with
    | [v], q => exact ⟨v, rfl, q⟩
  obtain ⟨f, c', params, body, scope, t, rfl, G, hf, hc, ht⟩ := q1
  obtain ⟨pins', J⟩ := back _ _ _ _ I1
  cases r1 with
  | cons ra rb =>
  cases rb
  obtain rfl := (show _ = Value.ref f from ra)
  have go : codeAny (model X.prog X.w) X.A (.call (.ref g) ⟨[.ref f], []⟩) (CR C8.CX0 X.stack X.prog X.w H1 s1 Q C8.E0) s1 := by
    refine run_ofS (N := Ng) (ps := [a]) (us := [.ref f]) (vs := [.ref f]) lk hcg Sg hr I1.env0 (hb s1 [.ref f] I1.kIn rfl) (.cons rfl .nil) rfl ?_
    intro hr'
    have gives := told_gives (X := X) (Ng := Ng) (x := x) (a := a) (e := ee) (q := X.env.qual ++ "<lambda>") (ret := ret) (sg := defScope st) (g := g) (CS := CS) (cdg := cdv) (j := j) (p1 := p1) (p2 := p2) (p3 := p3) (p4 := p4) (p5 := p5) (p6 := p6) (p7 := p7) (p8 := p8) hge hme hde h0a
    obtain ⟨t', ht', hq'⟩ := gives f c' s1 H1 Q (fun E H' Q' => H' f = some (LamO f c' (X.env.qual ++ "<lambda>") params body scope (cloFrom X.env.cells scope.names [])) ∧ t E (pr σ) H' Q')
      (fun W pn xe E p1 p2 tk hW => ⟨fun pinsZ sZ σZ HZ QZ IZ z => (pe_act3 (i := 0) J G tk hW hr' hNg hva hd hcd).run pinsZ sZ σZ HZ QZ IZ ⟨z.1, ⟨z.2.2.1, z.2.1⟩, z.2.2.2⟩⟩) hc ⟨hf, ht⟩
    exact ⟨t', by rw [hbody]; exact ht'.nox, hq'⟩
  refine wpAny_call (codeAny_mono go ?_)
  intro r s2 hq
  cases r with
  | error e => exact (show False from hq).elim
  | ok fl =>
    cases fl with
    | ret u => exact I1.after hq
    | next => exact hq.elim
    | brk => exact hq.elim
    | cont => exact hq.elim
end Y

set_option Elab.async false
set_option linter.all false
set_option maxRecDepth 100000
set_option maxHeartbeats 4000000
namespace Y
open PySem PySem.Spec L2 LamX

/-- every state of a block of X that was entered at s is a state of X, with X's names as they stood -/
def Back (X : Cx) (σ : St) (H : Hp) (s : Shared) (scope : Scope) (cenv : Env) (fp : List Addr) : Prop :=
  ∀ (pins' : List (Addr × Obj)) (σ' : St) (H' : Hp) (s' : Shared), Inv (X.blk s H scope cenv fp) pins' σ' H' s' → ∃ pins, Inv X pins σ H' s'

section
variable {X : Cx}
/-- as tLc; the parts may lean on the names of the def around -/
def tLcX (wi : TI) (g : TG) (tt : St → TT) (te : St → TE) (vs : List Nat) : TE := fun σ H Q => tLc wi g (tt σ) (te σ) vs σ H Q

theorem lc_coreX {pins : List (Addr × Obj)} {s : Shared} {σ : St} {H : Hp} {Q : VK} {elt tg iter : Expr} {ifs : List Expr} {scope : Scope} {own : List (Str × Nat)} {pos pos' : Pos} {wi : TI} {g : TG} {tt : TT} {te : TE} {use : Option (Value → Sem Unit)} {Qf : Value → Shared → Prop}
    (calm : X.calm = true) (nd : X.N.Nodup) (I : Inv X pins σ H s) (hi : PI X tg iter wi) (ok : BlkOk X.N X.env.scope scope own)
    (hg : ∀ s H C cl fp, Back X σ H s scope (compEnvC scope cl C X.env) fp → PG (X.blk s H scope (compEnvC scope cl C X.env) fp) tg g)
    (ht : ∀ s H C cl fp, Back X σ H s scope (compEnvC scope cl C X.env) fp → PTs (X.blk s H scope (compEnvC scope cl C X.env) fp) ifs tt)
    (he : ∀ s H C cl fp, Back X σ H s scope (compEnvC scope cl C X.env) fp → PE (X.blk s H scope (compEnvC scope cl C X.env) fp) elt te)
    (hs : ∀ x, foldedSetIterable iter X.env x = pure x) (h : tLc wi g tt te (own.map (·.2)) σ H Q)
    (fin : ∀ D C s' m H', Inv X pins σ H' s' → Q (.ref D) H' → s'.heap.Ns C m → FpOk X pins H' C → compPost (model X.prog X.w) X.A X.xe use Qf (.ref D) C (.ok .next) s') :
    wpAny (model X.prog X.w) X.A (comprehension (.ListComp elt [⟨tg, iter, ifs, 0⟩] scope pos) scope X.env pos' (newList []) false (eval iter X.env) use) Qf X.xe s := by
  have capt : ∀ y ∈ scope.names, y.2 = .free → ∃ c, X.env.cells.lookup y.1 = some c := fun y hy e =>
    (ok.free y hy e).elim (fun k => I.ok.has _ (.inl k)) (fun k => I.ok.has _ (.inr k))
  have first : wpAny (model X.prog X.w) X.A (eval iter X.env) _ X.xe s := hi.run pins s σ H _ I h
  refine wpAny_comprehension_free (use := use) rfl hs (closure_ok capt) ok.kind (fun y hy e => (ok.uniq y hy).trans (congrArg some e)) (thn first ?_)
  intro xv s1 hx
  refine thn hx ?_
  rintro itv s2 ⟨it, fp, tn, J, H2, rfl, I2, T, st2, f2, q⟩
  refine wpAny_newObj_type (newEnv_comp ?_) (Nat.zero_le _)
  -- the new list stands at D
  have hDn : H2 s2.heap.objs.size = none := I2.hok.fresh (Nat.le_refl _)
  obtain ⟨W, ⟨m0, w0⟩, turn⟩ := q _ hDn
  generalize eD : s2.heap.objs.size = D at hDn w0 turn ⊢
  obtain ⟨s3, es3⟩ : ∃ s3 : Shared, s3 = { s2 with heap := s2.heap.push { cls := .type "list", data := .seq ([] : List Value).toArray } } := ⟨_, rfl⟩
  have heap3 : s3.heap = s2.heap.push { cls := .type "list", data := .seq ([] : List Value).toArray } := by rw [es3]
  have grow3 : ∀ b o, s2.heap.get? b = some o → s3.heap.get? b = some o := fun b o e => by rw [heap3]; exact Heap.get?_push_of_some _ e
  have I3 : Inv X pins σ (upd H2 D (.lst [])) s3 := by
    have new : s3.heap.get? D = some { cls := .type "list", data := .seq ([] : List Value).toArray } := by rw [heap3, ← eD]; exact Heap.get?_push_size _ rfl
    have lay := I2.laid (a := D) (o := .lst []) (h' := s3.heap) (t' := s2.toks) grow3 (Nat.le_of_eq eD) ⟨Nat.zero_le _, [], 0, .nil, new⟩
    rw [es3] at lay ⊢
    exact lay
  have small : ∀ b ∈ fp, b < s2.heap.objs.size := fun b hb => let ⟨_, e, _⟩ := T.obj _ _ st2 b hb; Heap.lt_size e
  have f3 : ∀ b ∈ fp, FpOk X pins (upd H2 D (.lst [])) b ∧ b < s3.heap.objs.size := fun b hb => by
    have lt := small b hb
    constructor
    · refine ⟨?_, (f2 b hb).2⟩
      rw [upd_ne (fun z => Nat.ne_of_lt lt (z.trans eD.symm))]
      exact (f2 b hb).1
    · rw [heap3, Heap.size_push]; exact Nat.lt_succ_of_lt lt
  have st3 : tn 0 s3.heap := T.keep _ _ _ st2 fun b _ o e => grow3 b o e
  have I4 := block_start I3 ok nd f3
  obtain ⟨cl, ecl⟩ : ∃ cl, cl = cellsFrom (s3.heap.objs.size + 1) scope.names (cloFrom X.env.cells scope.names []) := ⟨_, rfl⟩
  obtain ⟨H3, eH3⟩ : ∃ H3, H3 = upd H2 D (.lst []) := ⟨_, rfl⟩
  obtain ⟨s4, es4⟩ : ∃ s4 : Shared, s4 = { s3 with heap := pushCells (s3.heap.push { cls := .type "dict", data := .dict #[] }) scope.names } := ⟨_, rfl⟩
  rw [← ecl, ← eH3, ← es4] at I4
  rw [← eH3] at I3 f3 w0
  have goal : codeAny (model X.prog X.w) X.A (.compStart (.ListComp elt [⟨tg, iter, ifs, 0⟩] scope pos) 0 (.ref it) (.ref D) (compEnvC scope cl s3.heap.objs.size X.env)) (compPost (model X.prog X.w) X.A X.xe use Qf (.ref D) s3.heap.objs.size) s4 := by
    obtain ⟨B, eB⟩ : ∃ B : Cx, B = X.blk s3 H3 scope (compEnvC scope cl s3.heap.objs.size X.env) fp := ⟨_, rfl⟩
    have home : ∀ {pins' σ' H' s'}, Inv (X.blk s3 H3 scope (compEnvC scope cl s3.heap.objs.size X.env) fp) pins' σ' H' s' → Inv X pins σ H' s' := fun J =>
      I3.call' (ch := fp) J.os J.base J.hok J.bare fun b hb => ⟨(f3 b hb).1.2.2.2.1, (f3 b hb).1.2.1, (f3 b hb).1.2.2.2.2.1, (f3 b hb).1.2.2.2.2.2⟩
    have bk : Back X σ H3 s3 scope (compEnvC scope cl s3.heap.objs.size X.env) fp := fun pins' σ' H' s' J => ⟨pins, home J⟩
    have PG' := hg s3 H3 s3.heap.objs.size cl fp bk
    have PT' := ht s3 H3 s3.heap.objs.size cl fp bk
    have PE' := he s3 H3 s3.heap.objs.size cl fp bk
    have out : ∀ b ∈ fp, H3 b = none := fun b hb => (f3 b hb).1.1
    have grow4 : ∀ b o, s3.heap.get? b = some o → s4.heap.get? b = some o := fun b o e => by rw [es4]; exact pushCells_keeps _ _ _ _ (Heap.get?_push_of_some _ e)
    have st4 : tn 0 s4.heap := T.keep _ _ _ st3 fun b _ o e => grow4 b o e
    have okfp : ∀ {σ' : St} {H' : Hp} {s' : Shared}, Inv (X.blk s3 H3 scope (compEnvC scope cl s3.heap.objs.size X.env) fp) [] σ' H' s' → (∀ b ∈ fp, H' b = none) → ∀ b ∈ fp, FpOk (X.blk s3 H3 scope (compEnvC scope cl s3.heap.objs.size X.env) fp) [] H' b :=
      fun J z b hb => ⟨z b hb, (J.ok.exf b hb).1, J.ok.exfs b hb, .inl hb, (J.ok.exf b hb).2, fun p hp => absurd (show p ∈ ([] : List (Addr × Obj)) ++ [] from hp) (by simp)⟩
    have loop : codeAny (model X.prog X.w) X.A (.compLoop (.ListComp elt [⟨tg, iter, ifs, 0⟩] scope pos) 0 (.ref it) (.ref D) (compEnvC scope cl s3.heap.objs.size X.env)) (compPost (model X.prog X.w) X.A X.xe use Qf (.ref D) s3.heap.objs.size) s4 := by
      refine compLoop_any (fun n s' => ∃ i H', Inv (X.blk s3 H3 scope (compEnvC scope cl s3.heap.objs.size X.env) fp) [] (wipe σ (own.map (·.2))) H' s' ∧ tn i s'.heap ∧ (∀ b ∈ fp, H' b = none) ∧ W i n H') ?_ m0 ⟨0, H3, I4, st4, out, w0⟩
      rintro n s5 ⟨i, H5, I5, st5, n5, w5⟩
      rcases turn i n H5 w5 with ⟨stop, qq⟩ | ⟨go, Nx, hNx, step⟩
      · refine thnF (T.done (X.blk s3 H3 scope (compEnvC scope cl s3.heap.objs.size X.env) fp) rfl rfl rfl calm i [] s5 _ H5 (fun _ _ => False) I5 (okfp I5 n5) st5 stop) ?_
        rintro r s6 ⟨rfl, I6⟩
        obtain ⟨m, hn, _⟩ := I6.loc
        have free6 : H5 s3.heap.objs.size = none := I6.free
        exact fin D s3.heap.objs.size s6 m H5 (home I6) qq hn (I3.fpOk (Nat.le_refl _) free6)
      · refine thnF (T.item (X.blk s3 H3 scope (compEnvC scope cl s3.heap.objs.size X.env) fp) rfl rfl rfl calm i [] s5 _ H5 (fun _ _ => False) I5 (okfp I5 n5) st5 go) ?_
        rintro r s6 ⟨u, rfl, h6⟩
        refine thnF h6 ?_
        rintro _ s7 ⟨x, H7, I7, r7, y7, st7, n7⟩
        have J7 := I7.pinned (okfp I7 n7) (T.obj _ _ st7)
        refine thnF (PG'.run _ s7 _ H7 x u _ J7 r7 (step x H7 y7)) ?_
        rintro _ s8 ⟨σ8, H8, I8, hw8, q8⟩
        refine thnF (PT'.run _ s8 σ8 H8 _ I8 q8) ?_
        rintro b s9 ⟨H9, I9, q9⟩
        have close : ∀ {s' : Shared} {H' : Hp}, Inv (X.blk s3 H3 scope (compEnvC scope cl s3.heap.objs.size X.env) fp) ([] ++ pinsAt fp s7.heap) σ8 H' s' → Nx H' →
            ∃ m, m < n ∧ ∃ i H', Inv (X.blk s3 H3 scope (compEnvC scope cl s3.heap.objs.size X.env) fp) [] (wipe σ (own.map (·.2))) H' s' ∧ tn i s'.heap ∧ (∀ b ∈ fp, H' b = none) ∧ W i m H' := by
          intro s' H' J nx
          obtain ⟨m', lt, w'⟩ := hNx H' nx
          have pinned : ∀ b ∈ fp, ∀ o, s7.heap.get? b = some o → s'.heap.get? b = some o ∧ H' b = none := fun b hb o e =>
            let z := J.pin (b, o) (List.mem_append_right _ (List.mem_append_right _ (mem_pinsAt hb e))); ⟨z.1, z.2.1⟩
          have len8 : (wipe σ (own.map (·.2))).length = σ8.length := by rw [← hw8, wipe_length]
          refine ⟨m', lt, i + 1, H', (J.unpinned (pins := [])).weak len8 (fun j v e => ?_), T.keep _ _ _ st7 fun b hb o e => (pinned b hb o e).1, fun b hb => ?_, w'⟩
          · rw [← hw8] at e; exact (wipe_some e).1
          · obtain ⟨o, e, _⟩ := T.obj _ _ st7 b hb
            exact (pinned b hb o e).2
        cases b with
        | false =>
          simp only [Bool.false_eq_true, if_false] at q9 ⊢
          exact close I9 q9
        | true =>
          simp only [if_true] at q9 ⊢
          refine thnF (PE'.run _ s9 σ8 H9 _ I9 q9) ?_
          rintro z s10 ⟨yv, H10, I10, r10, acc, hD10, hz10, nx⟩
          exact app_ok (X := X.blk s3 H3 scope (compEnvC scope cl s3.heap.objs.size X.env) fp) I10 hD10 hz10 r10 fun s11 I11 => close I11 nx
    exact codeAny_compStart_list loop (T.self X.A 0 _ _ _ st4 loop)
  rw [es4, ecl, es3] at goal

  exact goal

/-- [elt for tg in iter if ..] as a value; the parts may lean on the def around -/
theorem pe_lcX {elt tg iter : Expr} {ifs : List Expr} {scope : Scope} {own : List (Str × Nat)} {pos : Pos} {wi : TI} {g : TG} {tt : St → TT} {te : St → TE} (calm : X.calm = true) (nd : X.N.Nodup) (hi : PI X tg iter wi) (ok : BlkOk X.N X.env.scope scope own)
    (hg : ∀ σ s H C cl fp, Back X σ H s scope (compEnvC scope cl C X.env) fp → PG (X.blk s H scope (compEnvC scope cl C X.env) fp) tg g)
    (ht : ∀ σ s H C cl fp, Back X σ H s scope (compEnvC scope cl C X.env) fp → PTs (X.blk s H scope (compEnvC scope cl C X.env) fp) ifs (tt σ))
    (he : ∀ σ s H C cl fp, Back X σ H s scope (compEnvC scope cl C X.env) fp → PE (X.blk s H scope (compEnvC scope cl C X.env) fp) elt (te σ))
    (hs : ∀ x, foldedSetIterable iter X.env x = pure x := by intro _; rfl) :
    PE X (.ListComp elt [⟨tg, iter, ifs, 0⟩] scope pos) (tLcX wi g tt te (own.map (·.2))) := by
  refine ⟨fun pins s σ H Q I h => ?_⟩
  rw [eval_ListComp]
  refine lc_coreX calm nd I hi ok (hg σ) (ht σ) (he σ) hs h ?_
  intro D C s' m H' J q hn f
  refine ⟨m, hn, fun h'' sb => ⟨.ref D, H', ?_, rfl, q⟩⟩
  exact J.turned (t' := s'.toks) (fun b o hb e => (sb.2 b hb).trans e) f.1 f.2.1 f.2.2.2.1 f.2.2.2.2.1 f.2.2.2.2.2
end
end Y

set_option Elab.async false
set_option linter.all false
set_option maxRecDepth 100000
set_option maxHeartbeats 4000000
namespace Y
open PySem PySem.Spec L2 LamX

theorem over_genLoop {A : Around} {elt : Expr} {g : Comprehension} {scope : Scope} {pos : Pos} {it acc : Value} {env : Env} :
    A.over (.compLoop (.GeneratorExp elt [g] scope pos) 0 it acc env) [] = A.deeper env := by
  rfl
theorem over_genStart {A : Around} {elt : Expr} {g : Comprehension} {scope : Scope} {pos : Pos} {it acc : Value} {env : Env} :
    A.over (.compStart (.GeneratorExp elt [g] scope pos) 0 it acc env) [] = A.deeper env := by
  rfl

/-- the frame of a generator expression of X -/
abbrev gEnv (X : Cx) (scope : Scope) (C : Addr) (code : Value) : Env := genEnv scope (cloFrom X.env.cells scope.names []) C code builtinsNs X.env
/-- its context: made at sc, woken around A, its iterator's objects at fp -/
def genCx (X : Cx) (A : Around) (sc : Shared) (H1 : Hp) (scope : Scope) (C : Addr) (code : Value) (fp : List Addr) : Cx where
  prog := X.prog
  w := X.w
  K := X.K
  mg := X.mg
  base := X.base
  A := A.deeper (gEnv X scope C code)
  N := X.N
  s_0 := sc
  H_0 := H1
  env := gEnv X scope C code
  outer := X.stack
  stack := gEnv X scope C code :: X.stack
  ex := fp
  fn := fun _ => false
  calm := true
  pn := []
  xe := fun _ _ => False

section
variable {X : Cx} {pins : List (Addr × Obj)} {σ : St} {H : Hp} {s : Shared}
theorem gen_start {A : Around} {scope : Scope} {own : List (Str × Nat)} {C : Addr} {code : Value} {fp : List Addr} {s2 : Shared} {m : Str → Option Value}
    (I : Inv X pins σ H s) (ok : BlkOk X.N X.env.scope scope own) (nocell : ∀ y ∈ scope.names, y.2 ≠ .cell) (nd : X.N.Nodup)
    (hh : A.handled = none) (hfr : A.frames = some X.stack) (hfp : ∀ b ∈ fp, FpOk X pins H b ∧ b < s.heap.objs.size)
    (hC : s.heap.objs.size ≤ C) (kp : ∀ b o, s.heap.get? b = some o → s2.heap.get? b = some o) (hn : s2.heap.Ns C m) (hos : s2.os = s.os) (hba : PyProof.Rows.AllBare s2.gens) :
    Inv (genCx X A s H scope C code fp) [] (wipe σ (own.map (·.2))) H s2 := by
  have capt : ∀ y ∈ scope.names, y.2 = .free → ∃ c, X.env.cells.lookup y.1 = some c := fun y hy e =>
    (ok.free y hy e).elim (fun k => I.ok.has _ (.inl k)) (fun k => I.ok.has _ (.inr k))
  have cm : ∀ {y c}, (cloFrom X.env.cells scope.names []).lookup y = some c → X.env.cells.lookup y = some c := fun {y c} e => by
    rcases cloFrom_mem (PySem.mem_of_lookup e) with hm | ⟨h1, h2⟩
    · cases hm
    · obtain ⟨c1, hc⟩ := capt _ h1 rfl
      have hc : X.env.cells.lookup y = some c1 := hc
      have e2 : c = c1 := by
        rw [h2, hc] <;> rfl
      rw [e2]; exact hc
  have look : ∀ {y}, scope.names.lookup y = some .free → ∃ c, (cloFrom X.env.cells scope.names []).lookup y = some c := fun {y} hl =>
    mem_lookup (cloFrom_has (cells := X.env.cells) (acc := []) (show (y, NameKind.free) ∈ scope.names from PySem.mem_of_lookup hl))
  have cellK : ∀ {c : Addr} {v : Option Value}, s.heap.IsCell c v → s2.heap.IsCell c v := fun {c v} ⟨o, ho, hd⟩ => ⟨o, kp _ _ ho, hd⟩
  have okZ : (genCx X A s H scope C code fp).Ok := by
    refine ⟨I.ok.mod, ok.kind, I.ok.glob, rfl, hC, ?_, ?_, ?_, fun _ => hh, Around.frames_deeper hfr, .inr ⟨rfl, rfl⟩, ?_, I.bs, Nat.le_trans I.ok.bsz I.sz, ?_, ?_, I.stack, I.stkFree⟩
    · intro y z c e1 e2
      exact I.ok.inj y z c (cm e1) (cm e2)
    · intro y hy
      have hy : scope.names.lookup y = some .cell ∨ scope.names.lookup y = some .free := hy
      rcases hy with hy | hy
      · exact absurd rfl (nocell _ (PySem.mem_of_lookup hy))
      · exact look hy
    · intro y c z _
      exact nomatch (show false = true from z)
    · intro b hb
      obtain ⟨f, lt⟩ := hfp b hb
      exact ⟨fun z => by (have z : b = C := z); rw [z] at lt; exact Nat.lt_irrefl _ (Nat.lt_of_lt_of_le lt hC), fun y c e => f.2.2.2.2.1 y c (cm e)⟩
    · intro b o e hb
      obtain ⟨f, _⟩ := hfp b hb
      rcases f.2.2.2.1 with z | z
      · exact I.ok.noex b o e z
      · exact Nat.lt_irrefl _ (Nat.lt_of_lt_of_le (Nat.lt_of_lt_of_le (Heap.lt_size e) I.ok.bsz) z)
    · intro b hb hm
      obtain ⟨f, _⟩ := hfp b hb
      rcases List.mem_cons.mp (I.stkSub b hm) with z | z
      · exact f.2.1 z
      · exact f.2.2.1 z
  refine ⟨okZ, hos, hba, Un.kept kp, ⟨m, hn, ?_⟩, ?_, I.hok.fresh hC, fun y c e => I.freeC y c (cm e), fun q hq => absurd (show q ∈ ([] : List (Addr × Obj)) ++ [] from hq) (by simp), I.hok.kept kp, ?_⟩
  · intro i y v e1 e2 e3
    obtain ⟨e2, ni⟩ := wipe_some e2
    have e3 : Vis scope y := e3
    have isOwn : ∀ {k : NameKind}, scope.names.lookup y = some k → (k = .local ∨ k = .cell) → False := fun {k} hk hkk => by
      rcases ok.own _ (PySem.mem_of_lookup hk) hkk with z | z
      · obtain ⟨p, hp, ep⟩ := List.mem_map.mp z
        have ep : p.1 = y := ep
        have := ok.ix p hp
        rw [ep] at this
        have ij : i = p.2 := L2.nodup_ix nd e1 this
        exact ni (List.mem_map.mpr ⟨p, hp, ij.symm⟩)
      · exact z (List.mem_of_getElem? e1)
    rcases e3 with k | k | k
    · exact (isOwn k (.inl rfl)).elim
    · exact (isOwn k (.inr rfl)).elim
    · obtain ⟨mm, hnm, hl⟩ := I.loc
      have hvis : Vis X.env.scope y := (ok.free _ (PySem.mem_of_lookup k) rfl).elim (fun k => .inr (.inl k)) (fun k => .inr (.inr k))
      obtain ⟨w', r, q⟩ := hl i y v e1 e2 hvis
      obtain ⟨c2, h2⟩ := look k
      refine ⟨w', r, .inr ⟨.inr k, c2, h2, ?_⟩⟩
      have c1 := cm h2
      rcases q with ⟨k', _⟩ | ⟨_, c3, e', z⟩
      · have k' : X.env.scope.names.lookup y = some .local := k'
        rcases ok.free _ (PySem.mem_of_lookup k) rfl with k2 | k2 <;> rw [show X.env.scope.names.lookup y = _ from k2] at k' <;> cases k'
      · rw [c1] at e'
        cases e'
        exact cellK z
  · intro y c e
    obtain ⟨w', z⟩ := I.cell y c (cm e)
    exact ⟨w', cellK z⟩
  · show (wipe σ (own.map (·.2))).length = X.N.length
    rw [wipe_length]; exact I.len
end

/-- what all that a generator expression hands out comes to -/
def tGx (wi : TI) (g : TG) (tt : TT) (te : TE) (vs : List Nat) (J : It) (H1 : Hp) (σ : St) (cont : List V → Hp → Prop) : Prop :=
  ∃ W : Nat → Nat → List V → Hp → Prop, (∃ m, W 0 m [] H1) ∧ ∀ i m ys H, W i m ys H →
    (J.stop i H ∧ cont ys H) ∨ (J.go i H ∧ ∃ Nx : List V → Hp → Prop, (∀ ys' H', Nx ys' H' → ∃ m', m' < m ∧ W (i + 1) m' ys' H') ∧ ∀ x H', J.yld i H x H' → g x (wipe σ vs) H' fun σ2 H2 => wipe σ2 vs = wipe σ vs ∧ tt σ2 H2 fun b H3 =>
      if b = true then te σ2 H3 fun y H4 => ys.length < sizeLine ∧ Nx (ys ++ [y]) H4 else Nx ys H3)

section
variable {X : Cx}
/-- the run of a generator expression, woken around A by the one who fills the list at S -/
theorem gen_seg {A : Around} {sc : Shared} {H1 : Hp} {scope : Scope} {C : Addr} {code : Value} {fp : List Addr} {elt tg iter : Expr} {ifs : List Expr} {pos : Pos} {it S a : Addr} {g : Nat} {go : Obj} {tn : Nat → Heap → Prop} {J : It} {gT : TG} {tt : TT} {te : TE}
    {vs : List Nat} {cont : List V → Hp → Prop} {EX : XK} {σ0 : St} {W : Nat → Nat → List V → Hp → Prop}
    (T : Turn X.prog X.w X.K tg J fp it tn) (PGt : PG (genCx X A sc H1 scope C code fp) tg gT) (PTt : PTs (genCx X A sc H1 scope C code fp) ifs tt) (PEt : PE (genCx X A sc H1 scope C code fp) elt te)
    (co : scope.isCoroutine = false) (hSa : S ≠ a) (hSf : S ∉ fp) (haf : a ∉ fp) (hAp : Apart (genCx X A sc H1 scope C code fp) S) (hgo : ∀ h : Heap, h.get? a = some go → h.IsGen a g)
    (turn : ∀ i m ys H, W i m ys H →
      (J.stop i H ∧ cont ys H) ∨ (J.go i H ∧ ∃ Nx : List V → Hp → Prop, (∀ ys' H', Nx ys' H' → ∃ m', m' < m ∧ W (i + 1) m' ys' H') ∧ ∀ x H', J.yld i H x H' → gT x (wipe σ0 vs) H' fun σ2 H2 => wipe σ2 vs = wipe σ0 vs ∧ tt σ2 H2 fun b H3 =>
        if b = true then te σ2 H3 fun y H4 => ys.length < sizeLine ∧ Nx (ys ++ [y]) H4 else Nx ys H3)) :
    ∀ (m n i : Nat) (ys : List V) (H : Hp) (s₀ s : Shared), n + ys.length = sizeLine → W i m ys H → GI (genCx X A sc H1 scope C code fp) S [(a, go)] ys (wipe σ0 vs) H s → tn i s.heap → (∀ b ∈ fp, H b = none) →
      Seg (model X.prog X.w) A (REnd X.prog X.w X.stack H1 sc fp S a g cont EX) (YItem sc S a g) n s₀
        (.compLoop (.GeneratorExp elt [⟨tg, iter, ifs, 0⟩] scope pos) 0 (.ref it) .none (gEnv X scope C code))
        ((model X.prog X.w).den (.compLoop (.GeneratorExp elt [⟨tg, iter, ifs, 0⟩] scope pos) 0 (.ref it) .none (gEnv X scope C code))) [] s := by
  intro m
  induction m using Nat.strongRecOn with
  | _ m ih =>
  intro n i ys H s₀ s hn w G st nfp
  obtain ⟨acc, c, r, I⟩ := G
  have okfp : ∀ {σ' : St} {H' : Hp} {s' : Shared}, Inv (genCx X A sc H1 scope C code fp) ((S, lstObj acc c) :: [(a, go)]) σ' H' s' → (∀ b ∈ fp, H' b = none) → ∀ b ∈ fp, FpOk (genCx X A sc H1 scope C code fp) ((S, lstObj acc c) :: [(a, go)]) H' b := by
    intro σ' H' s' I' z b hb
    refine ⟨z b hb, (I'.ok.exf b hb).1, I'.ok.exfs b hb, .inl hb, (I'.ok.exf b hb).2, fun p hp => ?_⟩
    have hp : p ∈ (S, lstObj acc c) :: [(a, go)] := hp
    rcases List.mem_cons.mp hp with e | e
    · rw [e]; intro q; have q : S = b := q; rw [← q] at hb; exact hSf hb
    · rw [List.mem_singleton.mp e]; intro q; have q : a = b := q; rw [← q] at hb; exact haf hb
  show Seg _ A _ _ _ s₀ _ ((compTurn (.GeneratorExp elt [⟨tg, iter, ifs, 0⟩] scope pos) 0 (.ref it) .none (gEnv X scope C code)).onRaise (leaving (gEnv X scope C code))) [] s
  rw [compTurn_gen, Sem.onRaise_eq_wrap]
  refine seg_bind_wrap (wpAny_standAt ?_)
  rcases turn i m ys H w with ⟨stop, fin⟩ | ⟨goes, Nx, hNx, step⟩
  · refine seg_bind_wrap (thn (T.done (genCx X A sc H1 scope C code fp) rfl rfl rfl rfl i _ s _ H _ I (okfp I nfp) st stop) ?_)
    rintro r1 s1 ⟨rfl, I1⟩
    refine seg_end (.ok .next) (.inl ⟨.inr rfl, H, ys, acc, c, I1.os, I1.bare, I1.base, I1.hok, ?_⟩)
    obtain ⟨p1, p2, _⟩ := I1.pin (S, lstObj acc c) (List.mem_append_right _ List.mem_cons_self)
    refine ⟨p2, p1, r, ?_, fin⟩
    omega
  · refine seg_bind_wrap (thn (T.item (genCx X A sc H1 scope C code fp) rfl rfl rfl rfl i _ s _ H _ I (okfp I nfp) st goes) ?_)
    rintro r1 s1 ⟨u, rfl, h1⟩
    refine seg_bind_wrap (thn h1 ?_)
    rintro _ s2 ⟨x, H2, I2, r2, y2, st2, n2⟩
    have J2 := I2.pinned (okfp I2 n2) (T.obj _ _ st2)
    refine seg_bind_wrap (wpAny_mono (PGt.run _ s2 _ H2 x u _ J2 r2 (step x H2 y2)) ?_ (fun _ _ z => (show False from z).elim))
    rintro _ s3 ⟨σ3, H3, I3, hw3, q3⟩
    refine seg_bind_wrap (wpAny_mono (PTt.run _ s3 σ3 H3 _ I3 q3) ?_ (fun _ _ z => (show False from z).elim))
    rintro b s4 ⟨H4, I4, q4⟩
    have len3 : (wipe σ0 vs).length = σ3.length := by rw [← hw3, wipe_length]
    have stay : ∀ {ac : Array Value} {cc : Nat} {s' : Shared} {H' : Hp}, Inv (genCx X A sc H1 scope C code fp) ((S, lstObj ac cc) :: ([(a, go)] ++ pinsAt fp s2.heap)) σ3 H' s' →
        Inv (genCx X A sc H1 scope C code fp) ((S, lstObj ac cc) :: [(a, go)]) (wipe σ0 vs) H' s' ∧ tn (i + 1) s'.heap ∧ (∀ b ∈ fp, H' b = none) := by
      intro ac cc s' H' K
      have pinned : ∀ b ∈ fp, ∀ o, s2.heap.get? b = some o → s'.heap.get? b = some o ∧ H' b = none := fun b hb o e =>
        let z := K.pin (b, o) (List.mem_append_right _ (List.mem_cons_of_mem _ (List.mem_append_right _ (mem_pinsAt hb e)))); ⟨z.1, z.2.1⟩
      have K' : Inv (genCx X A sc H1 scope C code fp) (((S, lstObj ac cc) :: [(a, go)]) ++ pinsAt fp s2.heap) σ3 H' s' := K
      refine ⟨(K'.unpinned).weak len3 (fun j v e => ?_), T.keep _ _ _ st2 fun b hb o e => (pinned b hb o e).1, fun b hb => ?_⟩
      · rw [← hw3] at e; exact (wipe_some e).1
      · obtain ⟨o, e, _⟩ := T.obj _ _ st2 b hb
        exact (pinned b hb o e).2
    cases b with
    | false =>
      simp only [Bool.false_eq_true, if_false] at q4 ⊢
      obtain ⟨m', lt, w'⟩ := hNx _ _ q4
      obtain ⟨I5, st5, n5⟩ := stay (ac := acc) (cc := c) I4
      exact seg_again rfl (ih m' lt n (i + 1) ys H4 s₀ s4 hn w' ⟨acc, c, r, I5⟩ st5 n5)
    | true =>
      simp only [if_true] at q4 ⊢
      have hy : ∀ v, yieldOut (gEnv X scope C code) v = yieldValue v := fun v => by
        have e : (gEnv X scope C code).scope.isCoroutine = false := co
        simp only [yieldOut, e, Bool.false_eq_true, if_false]
      simp only [hy]
      rw [Sem.bind_eq_wrap', Sem.bind_eq_wrap', Sem.wrap_wrap, Sem.wrap_wrap]
      refine seg_wrap (wpAny_mono (PEt.run _ s4 σ3 H4 _ I4 q4) ?_ (fun _ _ z => (show False from z).elim))
      rintro v s5 ⟨yv, H5, I5, r5, lt5, nx⟩
      obtain ⟨m', lt, w'⟩ := hNx _ _ nx
      obtain ⟨n', rfl⟩ : ∃ n', n = n' + 1 := ⟨n - 1, by omega⟩
      refine seg_at (seg_yield rfl rfl rfl ?_)
      have I5' : Inv (genCx X A sc H1 scope C code fp) ((S, lstObj acc c) :: ([(a, go)] ++ pinsAt fp s2.heap)) σ3 H5 s5 := I5
      have pS := I5'.pin (S, lstObj acc c) (List.mem_append_right _ List.mem_cons_self)
      have pa := I5'.pin (a, go) (List.mem_append_right _ (List.mem_cons_of_mem _ List.mem_cons_self))
      have lenA : ys.length = acc.size := by have := r.length; simpa using this
      refine ⟨I5.os, I5.bare, I5.nolimit, hgo _ pa.1, ⟨acc, c, pS.1, by rw [← lenA]; omega⟩, fun s' z => ?_⟩
      have hip : ∀ p ∈ [(a, go)] ++ pinsAt fp s2.heap, p.1 ≠ S := by
        intro p hp
        rcases List.mem_append.mp hp with e | e
        · rw [List.mem_singleton.mp e]; exact hSa.symm
        · exact fun q => hSf (q ▸ (of_pinsAt e).1)
      have G6 : GI (genCx X A sc H1 scope C code fp) S ([(a, go)] ++ pinsAt fp s2.heap) (ys ++ [yv]) σ3 H5 s' :=
        GI.woken (fun p hp => absurd (show p ∈ ([] : List (Addr × Obj)) from hp) (by simp)) hip hAp ⟨acc, c, r, I5'⟩ r5 z
      obtain ⟨acc', c', r6, I6⟩ := G6
      obtain ⟨I7, st7, n7⟩ := stay I6
      exact seg_again rfl (ih m' lt n' (i + 1) (ys ++ [yv]) H5 s' s' (by rw [List.length_append, List.length_singleton]; omega) w' ⟨acc', c', r6, I7⟩ st7 n7)
end
end Y

set_option Elab.async false
set_option linter.all false
set_option maxRecDepth 100000
set_option maxHeartbeats 4000000
namespace Y
open PySem PySem.Spec L2 LamX

/-- all but tables stay, nothing goes, the tables are right -/
structure Grows (T : List (Addr × Str)) (H H' : Hp) : Prop where
  ext : ExtN H H'
  dom : ∀ b, H' b = none → H b = none
  tabs : Tabs T H'
theorem Grows.refl {T : List (Addr × Str)} {H : Hp} (h : Tabs T H) : Grows T H H := ⟨ExtN.refl H, fun _ q => q, h⟩

section
variable {X : Cx} {pins : List (Addr × Obj)} {σ : St} {H : Hp} {s : Shared}
/-- the code object of a generator expression, made or found -/
theorem gen_code {T : List (Addr × Str)} {c P : Addr} {scope : Scope} {pos : Pos} {E : Value → Shared → Prop} {Q : Value → Shared → Prop}
    (I : Inv X pins σ H s) (TB : TabB X.base X.mg c P) (hcode : X.env.code = .ref c)
    (hm : (P, X.env.qual ++ "<genexpr>") ∈ T) (hu : ∀ p ∈ T, p.1 = P → p.2 = X.env.qual ++ "<genexpr>") (hT : Tabs T H)
    (h : ∀ (code : Value) (H1 : Hp) (s' : Shared), Inv X pins σ H1 s' → Grows T H H1 → (∀ b o, b ≠ P → s.heap.get? b = some o → s'.heap.get? b = some o) → s.heap.objs.size ≤ s'.heap.objs.size →
      (∀ b, b < s.heap.objs.size → H b = none → H1 b = none) → H P ≠ none → Q code s') :
    wpAny (model X.prog X.w) X.A (genexprCode X.env pos (X.env.qual ++ "<genexpr>") scope) Q E s := by
  obtain ⟨ps, tabP, okP, named⟩ := hT _ hm
  have rawP : s.heap.get? P = some { cls := .none, data := .fields ps } := I.hok P _ tabP
  have hd : PySem.W.CodeHd s.heap c P := TB.code.keeps I.bk
  have some' : H P ≠ none := by rw [tabP]; simp
  cases hc : codeAmong pos ps.toList with
  | some cv => exact wpAny_genexprCode_hit hcode (hd.code rawP okP) hc (h cv H s I (Grows.refl hT) (fun _ _ _ e => e) (Nat.le_refl _) (fun _ _ e => e) some')
  | none =>
    refine wpAny_genexprCodeX hcode (hd.code rawP okP) (hd.tab rawP) hc ?_
    intro c' h' tk hx hge hlt hco hrec htab _
    obtain ⟨c2, oc, vs, t, e2, hoc, hdat, hv⟩ := hrec
    cases e2
    obtain ⟨o1, v1, f1, tf, fl, tg, inF, tx, tt, op, _, _, _, _, _, _, _, _, _, htr, _⟩ := hco
    have nC : H c' = none := I.hok.fresh hge
    have J := inv_table (t' := tk) (more := #[rawInt pos.line, rawInt pos.col, .ref c']) (h' := h') I tabP (fun b o hb e => hx b o hb e) htab.2 hge ⟨oc, vs, t, hoc, hdat, hv⟩
    have toL : (ps ++ #[rawInt pos.line, rawInt pos.col, .ref c']).toList = ps.toList ++ [rawInt pos.line, rawInt pos.col, .ref c'] := by simp
    have hE : ExtN H (upd (upd H P (.tbl (ps ++ #[rawInt pos.line, rawInt pos.col, .ref c']))) c' (CodeO c' (X.env.qual ++ "<genexpr>"))) := by
      intro b o e n
      have n1 : b ≠ c' := ne_of_none e nC
      have n2 : b ≠ P := fun z => n ps (by rw [z, tabP] at e; exact (Option.some.inj e).symm)
      rw [upd_ne n1, upd_ne n2]; exact e
    refine h _ _ _ J ⟨hE, fun b hb => ?_, fun p hp => ?_⟩ (fun b o hb e => hx b o hb e) (Nat.le_trans hge (Nat.le_of_lt hlt)) (fun b lt e => ?_) some'
    · by_cases z1 : b = c'
      · rw [z1]; exact nC
      · rw [upd_ne z1] at hb
        by_cases z2 : b = P
        · rw [z2, upd_same] at hb; cases hb
        · rw [upd_ne z2] at hb; exact hb
    · by_cases hb : p.1 = P
      · rw [hu p hp hb, hb]
        refine ⟨_, by rw [upd_ne (ne_of_none tabP nC), upd_same], htr, ?_⟩
        intro p' cv hcv
        rw [toL] at hcv
        rcases among_app _ okP hcv with z | z
        · obtain ⟨c0, e1, e3⟩ := named p' cv z
          exact ⟨c0, e1, hE _ _ e3 codeO_ne⟩
        · exact ⟨c', z, upd_same⟩
      · obtain ⟨ps', a1, a2, a3⟩ := hT p hp
        refine ⟨ps', by rw [upd_ne (ne_of_none a1 nC), upd_ne hb]; exact a1, a2, ?_⟩
        intro p' cv hcv
        obtain ⟨c0, e1, e3⟩ := a3 p' cv hcv
        exact ⟨c0, e1, hE _ _ e3 codeO_ne⟩
    · have n1 : b ≠ c' := Nat.ne_of_lt (Nat.lt_of_lt_of_le lt hge)
      have n2 : b ≠ P := fun z => by rw [z, tabP] at e; cases e
      rw [upd_ne n1, upd_ne n2]; exact e
end

/-- a generator expression's scope -/
structure GxOk (scope : Scope) : Prop where
  co : scope.isCoroutine = false
  nocell : ∀ y ∈ scope.names, y.2 ≠ .cell
  dot : scope.names.lookup (".0" : Str) = some NameKind.local
def gxC (scope : Scope) : Bool := !scope.isCoroutine && scope.names.all (fun y => !decide (y.2 = .cell)) && decide (scope.names.lookup (".0" : Str) = some NameKind.local)
theorem gxOk_by {scope : Scope} (h : gxC scope = true) : GxOk scope := by
  unfold gxC at h
  simp only [Bool.and_eq_true, Bool.not_eq_true', decide_eq_true_eq, List.all_eq_true, decide_eq_false_iff_not] at h
  exact ⟨h.1.1, h.1.2, h.2⟩

def tGen (T : List (Addr × Str)) (wi : TI) (g : TG) (tt : TT) (te : TE) (vs : List Nat) : TGen := fun σ H cont =>
  wi σ H fun J H1 => Tabs T H1 ∧ ∀ H2, Grows T H1 H2 → tGx wi g tt te vs J H2 σ cont

section
variable {X : Cx}
theorem pgen_gx {T : List (Addr × Str)} {c P : Addr} {k : Nat} {elt tg iter : Expr} {ifs : List Expr} {scope : Scope} {own : List (Str × Nat)} {pos : Pos} {wi : TI} {g : TG} {tt : TT} {te : TE} {EX : XK}
    (hr : Room k X.A) (TB : TabB X.base X.mg c P) (hcode : X.env.code = .ref c) (hm : (P, X.env.qual ++ "<genexpr>") ∈ T) (hu : ∀ p ∈ T, p.1 = P → p.2 = X.env.qual ++ "<genexpr>")
    (nd : X.N.Nodup) (hi : PI X tg iter wi) (ok : BlkOk X.N X.env.scope scope own) (gx : GxOk scope)
    (hg : ∀ A sc H C code fp, Room k (Around.deeper A (gEnv X scope C code)) → PG (genCx X A sc H scope C code fp) tg g)
    (ht : ∀ A sc H C code fp, Room k (Around.deeper A (gEnv X scope C code)) → PTs (genCx X A sc H scope C code fp) ifs tt)
    (he : ∀ A sc H C code fp, Room k (Around.deeper A (gEnv X scope C code)) → PE (genCx X A sc H scope C code fp) elt te)
    (hs : ∀ x, genFold iter X.env x = pure x := by intro _; rfl) :
    PGen X (k + 1) (.GeneratorExp elt [⟨tg, iter, ifs, 0⟩] scope pos) (tGen T wi g tt te (own.map (·.2))) EX := by
  refine ⟨fun pins s σ H cont I h => ?_⟩
  have capt : ∀ y ∈ scope.names, y.2 = .free → ∃ c, X.env.cells.lookup y.1 = some c := fun y hy e =>
    (ok.free y hy e).elim (fun k => I.ok.has _ (.inl k)) (fun k => I.ok.has _ (.inr k))
  have room : X.A.depth < recursionLimit := by have := hr.dp; omega
  refine wpAny_GeneratorExp_make gx.co (closure_ok capt) gx.nocell gx.dot ok.kind room (thn (hi.run pins s σ H _ I h) ?_) hs
  intro xv s1 hx
  refine thn hx ?_
  rintro itv s2 ⟨it, fp, tn, J, H2, rfl, I2, Tn, st2, f2, hT, q⟩
  have small : ∀ b ∈ fp, b < s2.heap.objs.size := fun b hb => let ⟨_, e, _⟩ := Tn.obj _ _ st2 b hb; Heap.lt_size e
  refine ⟨I2.nolimit, gen_code I2 TB hcode hm hu hT ?_⟩
  intro code H3 s3 I3 gr k3 sz3 nn hP
  have st3 : tn 0 s3.heap := Tn.keep _ _ _ st2 fun b hb o e => k3 b o (fun z => hP (by rw [← z]; exact (f2 b hb).1)) e
  have f3 : ∀ b ∈ fp, FpOk X pins H3 b ∧ b < s3.heap.objs.size := fun b hb => ⟨⟨nn b (small b hb) (f2 b hb).1, (f2 b hb).2⟩, Nat.lt_of_lt_of_le (small b hb) sz3⟩
  obtain ⟨bm, ob, e1, e2, e3, e4, e5, e6, e7, e8⟩ := TB.bm
  refine PySem.wpAny_builtinsFor (m := X.mg) (by rw [I3.ok.glob]; exact I3.mod.glob.keeps I3.bk) e1 e2 (I3.bk _ _ e5) e6 e7 e8 ?_
  intro h' hn' hs'
  -- what stands behind the making
  obtain ⟨go, ego⟩ : ∃ go : Obj, go = { cls := .type "generator", data := .fields #[.int s3.gens.size 0, .str "<genexpr>" (s3.toks + 1), .str (X.env.qual ++ "<genexpr>") (s3.toks + 1 + 1)] } := ⟨_, rfl⟩
  rw [← ego]
  have hsz : h'.objs.size = s3.heap.objs.size + 1 := by rw [hs'.1, Heap.size_push]
  have kf : ∀ b o, s3.heap.get? b = some o → h'.get? b = some o := fun b o e => hs'.extBut b o (Nat.ne_of_lt (Heap.lt_size e)) (Heap.get?_push_of_some _ e)
  have kp : ∀ b o, s3.heap.get? b = some o → (h'.push go).get? b = some o := fun b o e => Heap.get?_push_of_some _ (kf b o e)
  have hgo : (h'.push go).get? h'.objs.size = some go := by rw [ego]; exact Heap.get?_push_size _ rfl
  have isgen : ∀ h : Heap, h.get? h'.objs.size = some go → h.IsGen h'.objs.size s3.gens.size := fun h e => ⟨go, _, _, e, by rw [ego], by rw [ego], by rw [ego]⟩
  have bare' : PyProof.Rows.AllBare (s3.gens.push (.fresh (.compStart (.GeneratorExp elt [⟨tg, iter, ifs, 0⟩] scope pos) 0 (.ref it) .none (genEnv scope (cloFrom X.env.cells scope.names []) s3.heap.objs.size code builtinsNs X.env)))) := PyProof.Rows.AllBare.push I3.bare rfl
  refine ⟨H3, s3, fp, I3, fun b hb => ⟨(f3 b hb).1.2.2.2.1, (f3 b hb).1.2.1, (f3 b hb).1.2.2.2.2.1, (f3 b hb).1.2.2.2.2.2⟩, h'.objs.size, s3.gens.size, _, rfl, by omega, by rw [Heap.size_push]; exact Nat.lt_succ_self _, isgen _ hgo, Array.getElem?_push_size .., rfl, bare', I3.nolimit.keeps kp, kp, ?_⟩
  intro A S s5 hrw hfr hS hk5 hSo hos hba
  have hSz : h'.objs.size < S := by
    have : (h'.push go).objs.size ≤ S := hS
    rw [Heap.size_push] at this
    exact this
  have hC : s3.heap.objs.size < h'.objs.size := by omega
  have kp5 : ∀ b o, s3.heap.get? b = some o → s5.heap.get? b = some o := fun b o e => hk5 b o (kp b o e)
  have hn5 : s5.heap.Ns s3.heap.objs.size (fun y => if y = ".0" then some (.ref it) else none) := (hn'.push go).keeps hk5
  have deep : Room k (A.deeper (gEnv X scope s3.heap.objs.size code)) := hrw.deeper _
  have I5 := gen_start (A := A) (code := code) (C := s3.heap.objs.size) I3 ok gx.nocell nd hrw.hd hfr f3 (Nat.le_refl _) kp5 hn5 hos hba
  have st5 : tn 0 s5.heap := Tn.keep _ _ _ st3 fun b _ o e => kp5 b o e
  obtain ⟨cS, heS⟩ := hSo
  have hea : s5.heap.get? h'.objs.size = some go := hk5 _ _ hgo
  have young : ∀ b, s3.heap.objs.size < b → H3 b = none ∧ b ≠ s3.heap.objs.size ∧ b ∉ frs X.stack ∧ s3.heap.objs.size ≤ b ∧ (∀ y c, (cloFrom X.env.cells scope.names []).lookup y = some c → c ≠ b) ∧ b ∉ fp := by
    intro b hb
    refine ⟨I3.hok.fresh (Nat.le_of_lt hb), Nat.ne_of_gt hb, fun hm => ?_, Nat.le_of_lt hb, fun y c e z => ?_, fun hm => Nat.lt_irrefl _ (Nat.lt_trans hb (f3 b hm).2)⟩
    · rcases List.mem_cons.mp (I3.stkSub b hm) with z | z
      · have := I3.lt
        rw [← z] at this
        exact Nat.lt_irrefl _ (Nat.lt_trans hb this)
      · exact I3.nofs (Nat.le_of_lt hb) z
    · obtain ⟨v, q5⟩ := I5.cell y c e
      rcases cloFrom_mem (PySem.mem_of_lookup e) with hm' | ⟨h1, h2⟩
      · cases hm'
      · obtain ⟨c1, hc1⟩ := capt _ h1 rfl
        have hc1 : X.env.cells.lookup y = some c1 := hc1
        have ec : c = c1 := by
          rw [h2, hc1] <;> rfl
        obtain ⟨v2, o2, ho2, _⟩ := I3.cell y c1 hc1
        have := Heap.lt_size ho2
        rw [← ec, z] at this
        exact Nat.lt_irrefl _ (Nat.lt_trans hb this)
  obtain ⟨a1, a2, a3, a4, a5, a6⟩ := young h'.objs.size hC
  obtain ⟨b1, b2, b3, b4, b5, b6⟩ := young S (Nat.lt_trans hC hSz)
  have G5 : GI (genCx X A s3 H3 scope s3.heap.objs.size code fp) S [(h'.objs.size, go)] [] (wipe σ (own.map (·.2))) H3 s5 := by
    refine ⟨#[], cS, .nil, I5.pins_of fun p hp => ?_⟩
    have hp : p ∈ [(S, lstObj #[] cS), (h'.objs.size, go)] := hp
    rcases List.mem_cons.mp hp with z | z
    · rw [z]; exact ⟨heS, b1, b2, b3, fun v q => by cases q⟩
    · rw [List.mem_singleton.mp z]; exact ⟨hea, a1, a2, a3, fun v q => by rw [ego] at q; cases q⟩
  have hAp : Apart (genCx X A s3 H3 scope s3.heap.objs.size code fp) S := ⟨b4, b2, b5⟩
  obtain ⟨W, ⟨m0, w0⟩, turn⟩ := q H3 gr
  have loop := fun s₀ => gen_seg (EX := EX) (σ0 := σ) Tn (hg A s3 H3 s3.heap.objs.size code fp deep) (ht A s3 H3 s3.heap.objs.size code fp deep) (he A s3 H3 s3.heap.objs.size code fp deep) gx.co (Nat.ne_of_gt hSz) b6 a6 hAp isgen turn m0 sizeLine 0 [] H3 s₀ s5 (by simp) w0 G5 st5 (fun b hb => (f3 b hb).1.1) (iter := iter) (pos := pos)
  show Seg _ A _ _ _ s5 _ ((compStart (.GeneratorExp elt [⟨tg, iter, ifs, 0⟩] scope pos) 0 (.ref it) .none (gEnv X scope s3.heap.objs.size code)).onRaise (leaving (gEnv X scope s3.heap.objs.size code))) [] s5
  unfold compStart
  rw [Sem.onRaise_eq_wrap]
  show Seg _ A _ _ _ s5 _ ((ask >>= _).wrap _ _ _ _) [] s5
  refine seg_bind_wrap (wpAny_askSetting ?_)
  split
  · exact seg_again rfl (loop s5)
  · refine seg_bind_wrap (wpAny_rule ?_)
    show Seg _ A _ _ _ s5 _ ((standAt iter.pos >>= _).wrap _ _ _ _) [] s5
    exact seg_bind_wrap (wpAny_standAt (seg_bind_wrap (Tn.self _ 0 s5 _ _ st5 (seg_again rfl (loop s5)))))
end
end Y

set_option Elab.async false
set_option linter.all false
set_option maxRecDepth 100000
set_option maxHeartbeats 4000000
namespace Y
open PySem PySem.Spec L2 LamX
open PyProof.Rows (AllBare)

section
variable {P : Program} {w : World} {outer : List Env} {H : Hp} {sc s : Shared} {ex : List Addr} {Q : List V → Hp → Prop} {EX : XK} {A : Around} {k : Nat} {u : Value} {E : Value → Shared → Prop}
/-- all items of a generator that has not begun -/
theorem collect_new {Q' : List Value → Shared → Prop} (hr : Room (k + 2) A) (hfr : A.frames = some outer) (h : GMade P w k outer H sc ex Q EX u s)
    (hQ : ∀ s' acc H' ys, Vals ys acc → ys.length ≤ sizeLine → s'.os = sc.os → AllBare s'.gens → Un (frs outer) ex H H' sc.heap s'.heap → HOk P w H' s'.heap → Q ys H' → Q' acc s')
    (hexc : ∀ e s' g, CX P w outer H sc EX e s' → NotStop (model P w) e s'.heap ∧ E e (s'.setGen g .finished)) :
    wpAny (model P w) A (collect u) Q' E s := by
  obtain ⟨a, g, c, rfl, ha1, ha2, hg, hgs, hos, hb, hl, hkp, wake⟩ := h
  have hSa : s.heap.objs.size ≠ a := Nat.ne_of_gt ha2
  have hcl : cStatics < s.heap.objs.size := let ⟨_, hn, _⟩ := hl; hn.lt
  have hSc : s.heap.objs.size ≠ cStatics := Nat.ne_of_gt hcl
  unfold collect
  refine wpAny_bind (wpAny_runValue (codeAny_builtin F.entry_proto_collect ?_))
  rw [Around.under_plainId F.plain_proto_collect _]
  show wpAny _ A.in1 (newList [] >>= fun l => again (.builtin "list.__iadd__" ⟨[l, .ref a], []⟩)) _ _ s
  refine wpAny_bind (wpAny_newObj_type ?_)
  refine wpAny_pure ⟨plainId_quiet F.plain_list_iadd _, codeAny_builtin F.entry_list_iadd ?_⟩
  rw [Around.under_plainId F.plain_list_iadd _]
  have k1 : ∀ b o, s.heap.get? b = some o → (s.heap.push { cls := .type "list", data := .seq ([] : List Value).toArray }).get? b = some o := fun b o e => Heap.get?_push_of_some _ e
  have up : ∀ (h : Heap) (f : Obj → Obj), (∀ b o, s.heap.get? b = some o → h.get? b = some o) → ∀ b o, s.heap.get? b = some o → (h.update s.heap.objs.size f).get? b = some o := fun h f q b o e =>
    (Heap.get?_update_other _ _ (Ne.symm (Nat.ne_of_lt (Heap.lt_size e)))).trans (q b o e)
  have gty : ∀ {h : Heap}, (∀ b o, s.heap.get? b = some o → h.get? b = some o) → h.IsGen a g := fun {h} q => hg.keeps q
  show wpAny _ A.in1 (Builtin.List.listExtendWith (.ref s.heap.objs.size) (.ref a) (.ref s.heap.objs.size)) _ _ _
  unfold Builtin.List.listExtendWith
  refine wpAny_bind (wpAny_typeOf (Heap.IsGen.typeIs (s := { s with heap := _ }) (gty k1)) ?_)
  have n1 : Builtin.List.listSameRef (.ref s.heap.objs.size) (.ref a) = false := by simp [Builtin.List.listSameRef, hSa]
  have n2 : (Value.type "generator" == Value.type "list") = false := by decide
  have n3 : (Value.type "generator" == Value.type "tuple") = false := by decide
  simp only [n1, n2, n3, Bool.or_false, Bool.false_eq_true, if_false]
  refine wpAny_bind (wpAny_pyIter_gen (s := { s with heap := _ }) (gty k1) ?_)
  refine wpAny_bind (wpAny_holding ?_)
  unfold Builtin.List.listLengthHint
  refine wpAny_bind (wpAny_specialOf (Heap.IsGen.typeIs (s := { s with heap := _ }) (gty k1)) F.gen_no_len ?_)
  show wpAny _ A.in1 (specialOf (Value.ref a) (Str.ofString "__length_hint__") >>= _) _ _ _
  refine wpAny_bind (wpAny_specialOf (Heap.IsGen.typeIs (s := { s with heap := _ }) (gty k1)) F.gen_no_hint ?_)
  refine wpAny_pure ?_
  show wpAny _ A.in1 (rule "list.extend.makes-room" >>= fun _ => Builtin.List.listTouch (.ref s.heap.objs.size) >>= fun _ =>
    again (.builtin "list.extend.loop" ⟨[.ref s.heap.objs.size, .ref a, .ref s.heap.objs.size], []⟩)) _ _ _
  refine wpAny_bind (wpAny_rule ?_)
  have hS1 : (s.heap.push { cls := .type "list", data := .seq ([] : List Value).toArray }).get? s.heap.objs.size = some { cls := .type "list", data := .seq ([] : List Value).toArray } := Heap.get?_push_size _ rfl
  refine wpAny_bind ?_
  show wpAny _ A.in1 (updateSeq s.heap.objs.size (·.push .none) >>= fun _ => updateSeq s.heap.objs.size (·.pop)) _ _ _
  refine wpAny_bind (wpAny_updateSeq hS1 rfl ?_)
  have hS2 := Heap.get?_update_self (Obj.mapSeq (·.push Value.none)) hS1 rfl
  refine wpAny_updateSeq hS2 rfl ?_
  have hS3 := Heap.get?_update_self (Obj.mapSeq (·.pop)) hS2 rfl
  have k3 := up _ (Obj.mapSeq (·.pop)) (up _ (Obj.mapSeq (·.push Value.none)) k1)
  refine wpAny_pure ⟨plainId_quiet F.plain_extend_loop _, ?_⟩
  refine drain (P := P) (w := w) (outer := outer) (H := H) (sc := sc) (ex := ex) (Q := Q) (EX := EX) (A := A) (g := g) hr.hd (by have := hr.dp; show A.depth < _; omega) hSa hSc ?_ ?_ sizeLine _ (gty k3) (hl.keeps k3) ⟨_, hgs, rfl, ?_⟩
  · intro s' acc c H' ys q1 q2 q3 q4 q5 q6 q7 q8 q9
    show wpAny _ A (load s.heap.objs.size >>= _) _ _ s'
    refine wpAny_bind (wpAny_load q1 ?_)
    exact wpAny_pure (hQ s' acc.toList H' ys q2 q3 q4 q5 q6 q7 q9)
  · intro e s' hc
    exact hexc e s' g hc
  · refine wake _ _ _ ⟨hr.hd, ?_, ?_⟩ hfr (Nat.le_refl _) k3 ⟨_, hS3⟩ hos (L2.allBare_setGen (s := { s with heap := _ }) hb rfl)
    · have := hr.dp
      show A.depth + 3 * k + 5 < _
      omega
    · have := hr.un
      show A.units + 1 + 1 + 16 * k + 200 < _
      omega
end
end Y

set_option Elab.async false
set_option linter.all false
set_option maxRecDepth 100000
set_option maxHeartbeats 4000000
namespace Y
open PySem PySem.Spec L2 LamX
open PyProof.Rows (AllBare)

section
variable {P : Program} {w : World} {outer : List Env} {H : Hp} {sc s : Shared} {ex : List Addr} {Q : List V → Hp → Prop} {EX : XK} {A : Around} {k : Nat} {u : Value} {E : Value → Shared → Prop}
theorem code_tuple_newG {a : Addr} {Q₁ : Value → Shared → Prop} (hr : Room (k + 2) A.in1) (hfr : A.in1.frames = some outer) (h : GMade P w k outer H sc ex Q EX (.ref a) s)
    (hQ : ∀ (s' : Shared) (acc : List Value) (H' : Hp) (ys : List V), Vals ys acc → ys.length ≤ sizeLine → s'.os = sc.os → AllBare s'.gens → Un (frs outer) ex H H' sc.heap s'.heap → HOk P w H' s'.heap → Q ys H' →
      Q₁ (.ref s'.heap.objs.size) { s' with heap := s'.heap.push { cls := .type "tuple", data := .seq acc.toArray } })
    (hexc : ∀ (e : Value) (s' : Shared) (g : Nat), CX P w outer H sc EX e s' → NotStop (model P w) e s'.heap ∧ E e (s'.setGen g .finished)) :
    codeAny (model P w) A (.call (.builtin "tuple.__new__") ⟨[.type "tuple", .ref a], []⟩) (wants Q₁ E) s := by
  refine codeAny_of_tree ?_
  show wpAny _ A.in1 (do checkBuiltinCall "tuple.__new__" ⟨[.type "tuple", .ref a], []⟩; again (.builtin "tuple.__new__" ⟨[.type "tuple", .ref a], []⟩)) _ _ s
  refine wpAny_bind (wpAny_of_eq (F.newCall_tuple_1 _) (wpAny_pure ⟨plainId_quiet F.plain_tuple_new _, codeAny_builtin F.entry_tuple_new ?_⟩))
  rw [Around.under_plainId F.plain_tuple_new _]
  have hsub := sub_tuple_self
  have hinit := init_tuple_lookup
  have hmh := madeHere_tuple
  have hTI : s.TypeIs (.ref a) "generator" := by
    obtain ⟨a', g, c, e, _, _, hg, _⟩ := id h
    cases e
    exact Heap.IsGen.typeIs hg
  wp_walk using wpAny_typeOf hTI, collect_new hr hfr h
  · intro s' acc H' ys q1 q2 q3 q4 q5 q6 q7
    show wpAny _ _ (Builtin.Tuple.tupleExact acc.toArray >>= fun v => ret v) _ _ _
    unfold Builtin.Tuple.tupleExact
    have hl := q1.length
    refine wpAny_bind (wpAny_newObj_type ?_ (by show acc.toArray.size ≤ sizeLine; simp; omega))
    exact wpAny_pure (hQ s' acc H' ys q1 q2 q3 q4 q5 q6 q7)
  all_goals exact hexc
theorem call_tuple_newG {Q₁ : Value → Shared → Prop} (hr : Room (k + 4) A) (hfr : A.frames = some outer) (h : GMade P w k outer H sc ex Q EX u s)
    (hQ : ∀ (s' : Shared) (acc : List Value) (H' : Hp) (ys : List V), Vals ys acc → ys.length ≤ sizeLine → s'.os = sc.os → AllBare s'.gens → Un (frs outer) ex H H' sc.heap s'.heap → HOk P w H' s'.heap → Q ys H' →
      Q₁ (.ref s'.heap.objs.size) { s' with heap := s'.heap.push { cls := .type "tuple", data := .seq acc.toArray } })
    (hexc : ∀ (e : Value) (s' : Shared) (g : Nat), CX P w outer H sc EX e s' → NotStop (model P w) e s'.heap ∧ E e (s'.setGen g .finished)) :
    wpAny (model P w) A (call (.type "tuple") [u]) Q₁ E s := by
  obtain ⟨a, rfl⟩ : ∃ a, u = .ref a := let ⟨a, _, _, e, _⟩ := h; ⟨a, e⟩
  refine callType_codes (Q₁ := fun obj s₁ => s₁.TypeIs obj "tuple" ∧ Q₁ obj s₁) F.called_tuple (F.typeCall_tuple_1 _) F.entry_object_init
    (code_tuple_newG (k := k) ⟨hr.hd, ?_, ?_⟩ hfr h (fun s' acc H' ys q1 q2 q3 q4 q5 q6 q7 => ⟨⟨_, Heap.get?_push_size _ rfl, rfl⟩, hQ s' acc H' ys q1 q2 q3 q4 q5 q6 q7⟩) hexc) ?_
  · have := hr.dp
    show A.depth + 3 * (k + 2) + 5 < _
    omega
  · have := hr.un
    show A.units + 1 + 1 + 16 * (k + 2) + 200 < _
    omega
  · intro obj s₁ h₁
    exact ⟨h₁.1, F.args_object_init_2 obj _, object_init_meets F.called_tuple.init.lookup F.called_tuple.made (by decide) P w A.in1 _ s₁ ⟨h₁.1, rfl, h₁.2⟩⟩
end

section
variable {X : Cx} {k : Nat} {p pos : Pos}
/-- behind the draining: a new tuple is tracked -/
theorem drainedT {pins : List (Addr × Obj)} {σ : St} {H H' : Hp} {sc s' : Shared} {ex : List Addr} {acc : List Value} {out : List V} (I : Inv X pins σ H sc) (hlen : out.length ≤ sizeLine) (r : Vals out acc)
    (hex : ExOk X pins ex) (os : s'.os = sc.os) (hb : AllBare s'.gens) (un : Un (frs X.stack) ex H H' sc.heap s'.heap) (hok : HOk X.prog X.w H' s'.heap) :
    Inv X pins σ (upd H' s'.heap.objs.size (.tup out)) { s' with heap := s'.heap.push { cls := .type "tuple", data := .seq acc.toArray } } := by
  have J : Inv X pins σ H' s' := I.call' (ch := ex) os un hok hb hex
  have e0 : (s'.heap.push { cls := .type "tuple", data := .seq acc.toArray }).get? s'.heap.objs.size = some { cls := .type "tuple", data := .seq acc.toArray } := Heap.get?_push_size _ rfl
  exact J.laid (t' := s'.toks) (fun b o e => Heap.get?_push_of_some _ e) (Nat.le_refl _) ⟨hlen, acc, r, _, e0, rfl, _, rfl⟩
def tTupG (tg : TGen) : TE := fun σ H Q => tg σ H fun out H2 => ∀ p, H2 p = none → Q (.ref p) (upd H2 p (.tup out))
/-- no exception: what the consumer of a generator is told -/
theorem no_exc {P : Program} {w : World} {outer : List Env} {H : Hp} {s : Shared} {e : Value} {s' : Shared} (c : CX P w outer H s E0 e s') : False := by
  obtain ⟨_, _, _, _, _, _, _, _, _, _, _, _, z⟩ := c
  exact z.elim
/-- tuple(g) -/
theorem pe_tupG {e : Expr} {tg : TGen} (h : PGen X k e tg E0) (hr : Room (k + 4) X.A) (hg : Gl X "tuple") (hmg : X.mg "tuple" = none)
    (he : starEach [e] X.env = (false, eval e X.env) :: starEach [] X.env := by rfl) : PE X (.Call (.Name "tuple" p) [e] [] pos) (tTupG tg) := by
  refine ⟨fun pins s σ H Q I hq => ?_⟩
  refine wpAny_Call_Name_kw (ld_blt I hg hmg (by decide +kernel : bootBuiltins "tuple" = some (.type "tuple")) ?_ (by decide) (by decide))
  refine PyProof.Rows.callWith_type1 ?_ he rfl
  rw [he]
  show wpAny _ _ (spliced ((false, eval e X.env) :: backTo pos (starEach [] X.env))) _ _ s
  refine Calls.spliced_cons (thn (h.run pins s σ H _ I hq) ?_)
  rintro u s1 ⟨H1, sc, ex, I1, hex, hG⟩
  refine Calls.spliced_nil ?_
  refine call_tuple_newG hr I1.ok.frames hG ?_ (fun e s' g c => (no_exc c).elim)
  intro s' acc H' ys q1 q2 q3 q4 q5 q6 q7
  exact ⟨.ref s'.heap.objs.size, upd H' s'.heap.objs.size (.tup ys), drainedT I1 q2 q1 hex q3 q4 q5 q6, rfl, q7 _ (q6.fresh (Nat.le_refl _))⟩
end
end Y

set_option Elab.async false
set_option linter.all false
set_option maxRecDepth 100000
set_option maxHeartbeats 4000000
namespace Y
open PySem PySem.Spec L2 LamX
open PyProof.Rows (AllBare)

/-- the consumer has been at work: its object at S may have changed -/
structure Wrk (SS : List Addr) (s s' : Shared) : Prop where
  os : s'.os = s.os
  bare : AllBare s'.gens
  keep : ∀ b o, b ∉ SS → s.heap.get? b = some o → s'.heap.get? b = some o
  own : ∃ ps : List (Addr × Obj), ps.map (·.1) = SS ∧ ∀ p ∈ ps, s'.heap.get? p.1 = some p.2 ∧ ∀ v, p.2.data ≠ .cell v

/-- the state within X as it stands behind j items -/
def Mid (P : Program) (w : World) (outer : List Env) (H1 : Hp) (sc : Shared) (ex SS : List Addr) (R : Hp → Prop) (s : Shared) : Prop :=
  s.os = sc.os ∧ AllBare s.gens ∧ ∃ H', Un (frs outer) ex H1 H' sc.heap s.heap ∧ HOk P w H' s.heap ∧ (∀ S ∈ SS, H' S = none ∧ sc.heap.objs.size ≤ S) ∧ R H'

def YN (P : Program) (w : World) (outer : List Env) (H1 : Hp) (sc : Shared) (ex : List Addr) (SS : List Addr) (a : Addr) (g : Nat) (ys : List V) (out : Nat → Hp → Prop) : Protocol := fun n s₀ v s1 kap =>
  s1.heap.NoLimit ∧ s1.heap.IsGen a g ∧ (∀ b ∈ SS, ∀ o, s₀.heap.get? b = some o → s1.heap.get? b = some o) ∧
  (∃ j y, n + 1 + j = ys.length ∧ ys[j]? = some y ∧ RelV y v ∧ Mid P w outer H1 sc ex SS (out j) s1) ∧
  (∃ ps : List (Addr × Obj), ps.map (·.1) = SS ∧ ∀ p ∈ ps, s1.heap.get? p.1 = some p.2 ∧ ∀ v, p.2.data ≠ .cell v) ∧ ∀ s', Wrk SS s1 s' → kap (.send .none) s'
def RN (P : Program) (w : World) (outer : List Env) (H1 : Hp) (sc : Shared) (ex : List Addr) (SS : List Addr) (cont : Hp → Prop) : GenEnd := fun n s₀ r s1 =>
  ((r = .ok (.ret .none) ∨ r = .ok .next) ∧ (n = 0 ∧ (∀ b ∈ SS, ∀ o, s₀.heap.get? b = some o → s1.heap.get? b = some o) ∧ Mid P w outer H1 sc ex SS cont s1)) ∨ ∃ e, r = .error e ∧ False

/-- what a generator expression hands out when that is known: ys; out: behind each item, cont: behind all -/
def tGxN (wi : TI) (g : TG) (tt : TT) (te : TE) (vs : List Nat) (J : It) (H1 : Hp) (σ : St) (ys : List V) (out : Nat → Hp → Prop) (cont : Hp → Prop) : Prop :=
  ∃ W : Nat → Nat → Nat → Hp → Prop, (∃ m, W 0 m 0 H1) ∧ ∀ i m j H, W i m j H →
    (J.stop i H ∧ j = ys.length ∧ cont H) ∨ (J.go i H ∧ ∃ Nx : Nat → Hp → Prop, (∀ j' H', Nx j' H' → ∃ m', m' < m ∧ W (i + 1) m' j' H') ∧ ∀ x H', J.yld i H x H' → g x (wipe σ vs) H' fun σ2 H2 => wipe σ2 vs = wipe σ vs ∧ tt σ2 H2 fun b H3 =>
      if b = true then te σ2 H3 fun y H4 => ys[j]? = some y ∧ out j H4 ∧ Nx (j + 1) H4 else Nx j H3)

section
variable {X : Cx}
theorem gen_segN {A : Around} {sc : Shared} {H1 : Hp} {scope : Scope} {C : Addr} {code : Value} {fp : List Addr} {elt tg iter : Expr} {ifs : List Expr} {pos : Pos} {it a : Addr} {SS : List Addr} {g : Nat} {go : Obj} {tn : Nat → Heap → Prop} {J : It} {gT : TG} {tt : TT} {te : TE}
    {vs : List Nat} {ys : List V} {out : Nat → Hp → Prop} {cont : Hp → Prop} {σ0 : St} {W : Nat → Nat → Nat → Hp → Prop}
    (T : Turn X.prog X.w X.K tg J fp it tn) (PGt : PG (genCx X A sc H1 scope C code fp) tg gT) (PTt : PTs (genCx X A sc H1 scope C code fp) ifs tt) (PEt : PE (genCx X A sc H1 scope C code fp) elt te)
    (co : scope.isCoroutine = false) (hSa : a ∉ SS) (hSf : ∀ S ∈ SS, S ∉ fp) (haf : a ∉ fp) (hAp : ∀ S ∈ SS, Apart (genCx X A sc H1 scope C code fp) S ∧ S ∉ frs X.stack) (hgo : ∀ h : Heap, h.get? a = some go → h.IsGen a g)
    (turn : ∀ i m j H, W i m j H →
      (J.stop i H ∧ j = ys.length ∧ cont H) ∨ (J.go i H ∧ ∃ Nx : Nat → Hp → Prop, (∀ j' H', Nx j' H' → ∃ m', m' < m ∧ W (i + 1) m' j' H') ∧ ∀ x H', J.yld i H x H' → gT x (wipe σ0 vs) H' fun σ2 H2 => wipe σ2 vs = wipe σ0 vs ∧ tt σ2 H2 fun b H3 =>
        if b = true then te σ2 H3 fun y H4 => ys[j]? = some y ∧ out j H4 ∧ Nx (j + 1) H4 else Nx j H3)) :
    ∀ (m n i j : Nat) (H : Hp) (s₀ s : Shared) (ps : List (Addr × Obj)), ps.map (·.1) = SS → n + j = ys.length → W i m j H → Inv (genCx X A sc H1 scope C code fp) (ps ++ [(a, go)]) (wipe σ0 vs) H s → (∀ p ∈ ps, ∀ o', s₀.heap.get? p.1 = some o' → o' = p.2) → tn i s.heap → (∀ b ∈ fp, H b = none) →
      Seg (model X.prog X.w) A (RN X.prog X.w X.stack H1 sc fp SS cont) (YN X.prog X.w X.stack H1 sc fp SS a g ys out) n s₀
        (.compLoop (.GeneratorExp elt [⟨tg, iter, ifs, 0⟩] scope pos) 0 (.ref it) .none (gEnv X scope C code))
        ((model X.prog X.w).den (.compLoop (.GeneratorExp elt [⟨tg, iter, ifs, 0⟩] scope pos) 0 (.ref it) .none (gEnv X scope C code))) [] s := by
  intro m
  induction m using Nat.strongRecOn with
  | _ m ih =>
  intro n i j H s₀ s ps hps hn w I hs0 st nfp
  have inSS : ∀ p ∈ ps, p.1 ∈ SS := fun p hp => by rw [← hps]; exact List.mem_map.mpr ⟨p, hp, rfl⟩
  have mid : ∀ {ps : List (Addr × Obj)} {σ' : St} {H' : Hp} {s' : Shared} {R : Hp → Prop}, Inv (genCx X A sc H1 scope C code fp) ps σ' H' s' → (∀ S ∈ SS, H' S = none) → R H' → Mid X.prog X.w X.stack H1 sc fp SS R s' := fun J z r => ⟨J.os, J.bare, _, J.base, J.hok, fun S hS => ⟨z S hS, (hAp S hS).1.1⟩, r⟩
  have same : ∀ {s' : Shared}, (∀ p ∈ ps, s'.heap.get? p.1 = some p.2) → ∀ b ∈ SS, ∀ o', s₀.heap.get? b = some o' → s'.heap.get? b = some o' := fun e b hb o' z => by
    rw [← hps] at hb
    obtain ⟨p, hp, rfl⟩ := List.mem_map.mp hb
    rw [hs0 p hp o' z]; exact e p hp
  have okfp : ∀ {σ' : St} {H' : Hp} {s' : Shared}, Inv (genCx X A sc H1 scope C code fp) (ps ++ [(a, go)]) σ' H' s' → (∀ b ∈ fp, H' b = none) → ∀ b ∈ fp, FpOk (genCx X A sc H1 scope C code fp) (ps ++ [(a, go)]) H' b := by
    intro σ' H' s' I' z b hb
    refine ⟨z b hb, (I'.ok.exf b hb).1, I'.ok.exfs b hb, .inl hb, (I'.ok.exf b hb).2, fun p hp => ?_⟩
    have hp : p ∈ ps ++ [(a, go)] := hp
    rcases List.mem_append.mp hp with e | e
    · intro q; rw [← q] at hb; exact hSf _ (inSS p e) hb
    · rw [List.mem_singleton.mp e]; intro q; have q : a = b := q; rw [← q] at hb; exact haf hb
  show Seg _ A _ _ _ s₀ _ ((compTurn (.GeneratorExp elt [⟨tg, iter, ifs, 0⟩] scope pos) 0 (.ref it) .none (gEnv X scope C code)).onRaise (leaving (gEnv X scope C code))) [] s
  rw [compTurn_gen, Sem.onRaise_eq_wrap]
  refine seg_bind_wrap (wpAny_standAt ?_)
  rcases turn i m j H w with ⟨stop, all, fin⟩ | ⟨goes, Nx, hNx, step⟩
  · refine seg_bind_wrap (thn (T.done (genCx X A sc H1 scope C code fp) rfl rfl rfl rfl i _ s _ H _ I (okfp I nfp) st stop) ?_)
    rintro r1 s1 ⟨rfl, I1⟩
    exact seg_end (.ok .next) (.inl ⟨.inr rfl, by omega, same (fun p hp => (I1.pin p (List.mem_append_right _ (List.mem_append_left _ hp))).1), mid I1 (fun S hS => by
      rw [← hps] at hS
      obtain ⟨p, hp, rfl⟩ := List.mem_map.mp hS
      exact (I1.pin p (List.mem_append_right _ (List.mem_append_left _ hp))).2.1) fin⟩)
  · refine seg_bind_wrap (thn (T.item (genCx X A sc H1 scope C code fp) rfl rfl rfl rfl i _ s _ H _ I (okfp I nfp) st goes) ?_)
    rintro r1 s1 ⟨u, rfl, h1⟩
    refine seg_bind_wrap (thn h1 ?_)
    rintro _ s2 ⟨x, H2, I2, r2, y2, st2, n2⟩
    have J2 := I2.pinned (okfp I2 n2) (T.obj _ _ st2)
    refine seg_bind_wrap (wpAny_mono (PGt.run _ s2 _ H2 x u _ J2 r2 (step x H2 y2)) ?_ (fun _ _ z => (show False from z).elim))
    rintro _ s3 ⟨σ3, H3, I3, hw3, q3⟩
    refine seg_bind_wrap (wpAny_mono (PTt.run _ s3 σ3 H3 _ I3 q3) ?_ (fun _ _ z => (show False from z).elim))
    rintro b s4 ⟨H4, I4, q4⟩
    have len3 : (wipe σ0 vs).length = σ3.length := by rw [← hw3, wipe_length]
    have stay : ∀ {pp : List (Addr × Obj)} {s' : Shared} {H' : Hp}, Inv (genCx X A sc H1 scope C code fp) ((pp ++ [(a, go)]) ++ pinsAt fp s2.heap) σ3 H' s' →
        Inv (genCx X A sc H1 scope C code fp) (pp ++ [(a, go)]) (wipe σ0 vs) H' s' ∧ tn (i + 1) s'.heap ∧ (∀ b ∈ fp, H' b = none) := by
      intro pp s' H' K
      have pinned : ∀ b ∈ fp, ∀ o, s2.heap.get? b = some o → s'.heap.get? b = some o ∧ H' b = none := fun b hb o e =>
        let z := K.pin (b, o) (List.mem_append_right _ (List.mem_append_right _ (mem_pinsAt hb e))); ⟨z.1, z.2.1⟩
      refine ⟨(K.unpinned).weak len3 (fun j v e => ?_), T.keep _ _ _ st2 fun b hb o e => (pinned b hb o e).1, fun b hb => ?_⟩
      · rw [← hw3] at e; exact (wipe_some e).1
      · obtain ⟨o, e, _⟩ := T.obj _ _ st2 b hb
        exact (pinned b hb o e).2
    cases b with
    | false =>
      simp only [Bool.false_eq_true, if_false] at q4 ⊢
      obtain ⟨m', lt, w'⟩ := hNx _ _ q4
      obtain ⟨I5, st5, n5⟩ := stay (pp := ps) I4
      exact seg_again rfl (ih m' lt n (i + 1) j H4 s₀ s4 ps hps hn w' I5 hs0 st5 n5)
    | true =>
      simp only [if_true] at q4 ⊢
      have hy : ∀ v, yieldOut (gEnv X scope C code) v = yieldValue v := fun v => by
        have e : (gEnv X scope C code).scope.isCoroutine = false := co
        simp only [yieldOut, e, Bool.false_eq_true, if_false]
      simp only [hy]
      rw [Sem.bind_eq_wrap', Sem.bind_eq_wrap', Sem.wrap_wrap, Sem.wrap_wrap]
      refine seg_wrap (wpAny_mono (PEt.run _ s4 σ3 H4 _ I4 q4) ?_ (fun _ _ z => (show False from z).elim))
      rintro v s5 ⟨yv, H5, I5, r5, atj, outj, nx⟩
      obtain ⟨m', lt, w'⟩ := hNx _ _ nx
      have jl : j < ys.length := (List.getElem?_eq_some_iff.mp atj).1
      obtain ⟨n', rfl⟩ : ∃ n', n = n' + 1 := ⟨n - 1, by omega⟩
      refine seg_at (seg_yield rfl rfl rfl ?_)
      have I5' : Inv (genCx X A sc H1 scope C code fp) ((ps ++ [(a, go)]) ++ pinsAt fp s2.heap) σ3 H5 s5 := I5
      have pS : ∀ p ∈ ps, _ := fun p hp => I5'.pin p (List.mem_append_right _ (List.mem_append_left _ (List.mem_append_left _ hp)))
      have pa := I5'.pin (a, go) (List.mem_append_right _ (List.mem_append_left _ (List.mem_append_right _ List.mem_cons_self)))
      have hS1 : ∀ S ∈ SS, H5 S = none := fun S hS => by
        rw [← hps] at hS
        obtain ⟨p, hp, rfl⟩ := List.mem_map.mp hS
        exact (pS p hp).2.1
      refine ⟨I5.nolimit, hgo _ pa.1, same (fun p hp => (pS p hp).1), ⟨j, yv, by omega, atj, r5, mid I5 hS1 outj⟩, ⟨ps, hps, fun p hp => ⟨(pS p hp).1, (pS p hp).2.2.2.2⟩⟩, fun s' z => ?_⟩
      have hip : ∀ p ∈ [(a, go)] ++ pinsAt fp s2.heap, p.1 ∉ SS := by
        intro p hp
        rcases List.mem_append.mp hp with e | e
        · rw [List.mem_singleton.mp e]; exact hSa
        · exact fun q => hSf _ q (of_pinsAt e).1
      have I6 : Inv (genCx X A sc H1 scope C code fp) ([(a, go)] ++ pinsAt fp s2.heap) σ3 H5 s5 := I5'.pins_of fun p hp => I5'.pin p (List.mem_append_right _ (by
        rcases List.mem_append.mp hp with e | e
        · exact List.mem_append_left _ (List.mem_append_right _ e)
        · exact List.mem_append_right _ e))
      have hS0 : ∀ S ∈ SS, H5 S = none := fun S hS => by
        rw [← hps] at hS
        obtain ⟨p, hp, rfl⟩ := List.mem_map.mp hS
        exact (pS p hp).2.1
      have nt : ∀ b u, H5 b = some u → b ∉ SS := fun b u q hb => by rw [hS0 b hb] at q; cases q
      have U : Un (frs (genCx X A sc H1 scope C code fp).stack) SS H5 H5 s5.heap s'.heap :=
        ⟨fun b o e _ _ hx => z.keep b o hx e, fun b o e _ _ hx => ⟨o.slots, z.keep b o hx e⟩, fun _ _ _ n _ => n, fun b o e hx => ⟨o, z.keep b o hx e⟩, fun _ _ q => q, fun _ _ _ q => q, fun b ps q => ⟨#[], by rw [q]; simp⟩⟩
      have hok' : HOk X.prog X.w H5 s'.heap := fun b u q => (I6.hok b u q).stay (fun c v hc y => z.keep c v (by
        rcases hc with y | y
        · rw [y]; exact nt b u q
        · exact nt c _ y) y) (fun _ y => y) fun _ _ y => y
      have I7 : Inv (genCx X A sc H1 scope C code fp) ([(a, go)] ++ pinsAt fp s2.heap) σ3 H5 s' := I6.call' (ch := SS) z.os U hok' z.bare (by
        intro b hb
        refine ⟨.inr (hAp b hb).1.1, (hAp b hb).1.2.1, (hAp b hb).1.2.2, fun p hp q => hip p hp (by rw [q]; exact hb)⟩)
      obtain ⟨p2, ep2, in2⟩ := z.own
      have in2' : ∀ p ∈ p2, p.1 ∈ SS := fun p hp => by rw [← ep2]; exact List.mem_map.mpr ⟨p, hp, rfl⟩
      have I8 : Inv (genCx X A sc H1 scope C code fp) ((p2 ++ [(a, go)]) ++ pinsAt fp s2.heap) σ3 H5 s' := I7.pins_of fun p hp => by
        have hp : p ∈ (p2 ++ [(a, go)]) ++ pinsAt fp s2.heap := hp
        rw [List.append_assoc] at hp
        rcases List.mem_append.mp hp with e | e
        · have m2 := in2' p e
          exact ⟨(in2 p e).1, hS0 _ m2, (hAp _ m2).1.2.1, (hAp _ m2).2, (in2 p e).2⟩
        · exact I7.pin p e
      obtain ⟨I9, st9, n9⟩ := stay I8
      exact seg_again rfl (ih m' lt n' (i + 1) (j + 1) H5 s' s' p2 ep2 (by omega) w' I9 (fun p hp o' e => by rw [(in2 p hp).1] at e; exact (Option.some.inj e).symm) st9 n9)
end
end Y

set_option Elab.async false
set_option linter.all false
set_option maxRecDepth 100000
set_option maxHeartbeats 4000000
namespace Y
open PySem PySem.Spec L2 LamX
open PyProof.Rows (AllBare)

/-- a generator that has not begun, its items known -/
def GMadeN (P : Program) (w : World) (k : Nat) (outer : List Env) (H : Hp) (s : Shared) (ex : List Addr) (ys : List V) (out : Nat → Hp → Prop) (cont : Hp → Prop) (u : Value) (s' : Shared) : Prop :=
  ∃ (a : Addr) (g : Nat) (c : Code), u = .ref a ∧ s.heap.objs.size ≤ a ∧ a < s'.heap.objs.size ∧ s'.heap.IsGen a g ∧ s'.gens[g]? = some (.fresh c) ∧ s'.os = s.os ∧ AllBare s'.gens ∧ s'.heap.NoLimit ∧ (∀ b o, s.heap.get? b = some o → s'.heap.get? b = some o) ∧
    ∀ (A : Around) (ps : List (Addr × Obj)) (s2 : Shared), Room k A → A.frames = some outer → (∀ p ∈ ps, s'.heap.objs.size ≤ p.1) → (∀ b o, s'.heap.get? b = some o → s2.heap.get? b = some o) →
      (∀ p ∈ ps, s2.heap.get? p.1 = some p.2 ∧ ∀ v, p.2.data ≠ .cell v) → s2.os = s.os → AllBare s2.gens →
      Seg (model P w) A (RN P w outer H s ex (ps.map (·.1)) cont) (YN P w outer H s ex (ps.map (·.1)) a g ys out) ys.length s2 c ((model P w).den c) [] s2

abbrev TGN := St → Hp → (List V → (Nat → Hp → Prop) → (Hp → Prop) → Prop) → Prop
structure PGN (X : Cx) (k : Nat) (e : Expr) (tg : TGN) : Prop where
  run : ∀ (pins : List (Addr × Obj)) (s : Shared) (σ : St) (H : Hp) (K : List V → (Nat → Hp → Prop) → (Hp → Prop) → Prop), Inv X pins σ H s → tg σ H K → wpAny (model X.prog X.w) X.A (eval e X.env)
    (fun u s' => ∃ H1 sc ex ys out cont, Inv X pins σ H1 sc ∧ ExOk X pins ex ∧ GMadeN X.prog X.w k X.stack H1 sc ex ys out cont u s' ∧ K ys out cont) X.xe s

def tGenN (T : List (Addr × Str)) (wi : TI) (g : TG) (tt : TT) (te : TE) (vs : List Nat) : TGN := fun σ H K =>
  wi σ H fun J H1 => Tabs T H1 ∧ ∀ H2, Grows T H1 H2 → ∃ ys out cont, tGxN wi g tt te vs J H2 σ ys out cont ∧ K ys out cont

section
variable {X : Cx}
theorem pgen_gxN {T : List (Addr × Str)} {c P : Addr} {k : Nat} {elt tg iter : Expr} {ifs : List Expr} {scope : Scope} {own : List (Str × Nat)} {pos : Pos} {wi : TI} {g : TG} {tt : TT} {te : TE}
    (hr : Room k X.A) (TB : TabB X.base X.mg c P) (hcode : X.env.code = .ref c) (hm : (P, X.env.qual ++ "<genexpr>") ∈ T) (hu : ∀ p ∈ T, p.1 = P → p.2 = X.env.qual ++ "<genexpr>")
    (nd : X.N.Nodup) (hi : PI X tg iter wi) (ok : BlkOk X.N X.env.scope scope own) (gx : GxOk scope)
    (hg : ∀ A sc H C code fp, Room k (Around.deeper A (gEnv X scope C code)) → PG (genCx X A sc H scope C code fp) tg g)
    (ht : ∀ A sc H C code fp, Room k (Around.deeper A (gEnv X scope C code)) → PTs (genCx X A sc H scope C code fp) ifs tt)
    (he : ∀ A sc H C code fp, Room k (Around.deeper A (gEnv X scope C code)) → PE (genCx X A sc H scope C code fp) elt te)
    (hs : ∀ x, genFold iter X.env x = pure x := by intro _; rfl) :
    PGN X (k + 1) (.GeneratorExp elt [⟨tg, iter, ifs, 0⟩] scope pos) (tGenN T wi g tt te (own.map (·.2))) := by
  refine ⟨fun pins s σ H K I h => ?_⟩
  have capt : ∀ y ∈ scope.names, y.2 = .free → ∃ c, X.env.cells.lookup y.1 = some c := fun y hy e =>
    (ok.free y hy e).elim (fun k => I.ok.has _ (.inl k)) (fun k => I.ok.has _ (.inr k))
  have room : X.A.depth < recursionLimit := by have := hr.dp; omega
  refine wpAny_GeneratorExp_make gx.co (closure_ok capt) gx.nocell gx.dot ok.kind room (thn (hi.run pins s σ H _ I h) ?_) hs
  intro xv s1 hx
  refine thn hx ?_
  rintro itv s2 ⟨it, fp, tn, J, H2, rfl, I2, Tn, st2, f2, hT, q⟩
  have small : ∀ b ∈ fp, b < s2.heap.objs.size := fun b hb => let ⟨_, e, _⟩ := Tn.obj _ _ st2 b hb; Heap.lt_size e
  refine ⟨I2.nolimit, gen_code I2 TB hcode hm hu hT ?_⟩
  intro code H3 s3 I3 gr k3 sz3 nn hP
  have st3 : tn 0 s3.heap := Tn.keep _ _ _ st2 fun b hb o e => k3 b o (fun z => hP (by rw [← z]; exact (f2 b hb).1)) e
  have f3 : ∀ b ∈ fp, FpOk X pins H3 b ∧ b < s3.heap.objs.size := fun b hb => ⟨⟨nn b (small b hb) (f2 b hb).1, (f2 b hb).2⟩, Nat.lt_of_lt_of_le (small b hb) sz3⟩
  obtain ⟨bm, ob, e1, e2, e3, e4, e5, e6, e7, e8⟩ := TB.bm
  refine PySem.wpAny_builtinsFor (m := X.mg) (by rw [I3.ok.glob]; exact I3.mod.glob.keeps I3.bk) e1 e2 (I3.bk _ _ e5) e6 e7 e8 ?_
  intro h' hn' hs'
  obtain ⟨go, ego⟩ : ∃ go : Obj, go = { cls := .type "generator", data := .fields #[.int s3.gens.size 0, .str "<genexpr>" (s3.toks + 1), .str (X.env.qual ++ "<genexpr>") (s3.toks + 1 + 1)] } := ⟨_, rfl⟩
  rw [← ego]
  have hsz : h'.objs.size = s3.heap.objs.size + 1 := by rw [hs'.1, Heap.size_push]
  have kf : ∀ b o, s3.heap.get? b = some o → h'.get? b = some o := fun b o e => hs'.extBut b o (Nat.ne_of_lt (Heap.lt_size e)) (Heap.get?_push_of_some _ e)
  have kp : ∀ b o, s3.heap.get? b = some o → (h'.push go).get? b = some o := fun b o e => Heap.get?_push_of_some _ (kf b o e)
  have hgo : (h'.push go).get? h'.objs.size = some go := by rw [ego]; exact Heap.get?_push_size _ rfl
  have isgen : ∀ h : Heap, h.get? h'.objs.size = some go → h.IsGen h'.objs.size s3.gens.size := fun h e => ⟨go, _, _, e, by rw [ego], by rw [ego], by rw [ego]⟩
  have bare' : AllBare (s3.gens.push (.fresh (.compStart (.GeneratorExp elt [⟨tg, iter, ifs, 0⟩] scope pos) 0 (.ref it) .none (genEnv scope (cloFrom X.env.cells scope.names []) s3.heap.objs.size code builtinsNs X.env)))) := PyProof.Rows.AllBare.push I3.bare rfl
  obtain ⟨ys, out, cont, ⟨W, ⟨m0, w0⟩, turn⟩, qK⟩ := q H3 gr
  refine ⟨H3, s3, fp, ys, out, cont, I3, fun b hb => ⟨(f3 b hb).1.2.2.2.1, (f3 b hb).1.2.1, (f3 b hb).1.2.2.2.2.1, (f3 b hb).1.2.2.2.2.2⟩, ⟨h'.objs.size, s3.gens.size, _, rfl, by omega, by rw [Heap.size_push]; exact Nat.lt_succ_self _, isgen _ hgo, Array.getElem?_push_size .., rfl, bare', I3.nolimit.keeps kp, kp, ?_⟩, qK⟩
  intro A ps s5 hrw hfr hS hk5 hSo hos hba
  have hSz : ∀ p ∈ ps, h'.objs.size < p.1 := fun p hp => by
    have : (h'.push go).objs.size ≤ p.1 := hS p hp
    rw [Heap.size_push] at this
    exact this
  have hC : s3.heap.objs.size < h'.objs.size := by omega
  have kp5 : ∀ b o, s3.heap.get? b = some o → s5.heap.get? b = some o := fun b o e => hk5 b o (kp b o e)
  have hn5 : s5.heap.Ns s3.heap.objs.size (fun y => if y = ".0" then some (.ref it) else none) := (hn'.push go).keeps hk5
  have deep : Room k (A.deeper (gEnv X scope s3.heap.objs.size code)) := hrw.deeper _
  have I5 := gen_start (A := A) (code := code) (C := s3.heap.objs.size) I3 ok gx.nocell nd hrw.hd hfr f3 (Nat.le_refl _) kp5 hn5 hos hba
  have st5 : tn 0 s5.heap := Tn.keep _ _ _ st3 fun b _ o e => kp5 b o e
  have hea : s5.heap.get? h'.objs.size = some go := hk5 _ _ hgo
  have young : ∀ b, s3.heap.objs.size < b → H3 b = none ∧ b ≠ s3.heap.objs.size ∧ b ∉ frs X.stack ∧ s3.heap.objs.size ≤ b ∧ (∀ y c, (cloFrom X.env.cells scope.names []).lookup y = some c → c ≠ b) ∧ b ∉ fp := by
    intro b hb
    refine ⟨I3.hok.fresh (Nat.le_of_lt hb), Nat.ne_of_gt hb, fun hm => ?_, Nat.le_of_lt hb, fun y c e z => ?_, fun hm => Nat.lt_irrefl _ (Nat.lt_trans hb (f3 b hm).2)⟩
    · rcases List.mem_cons.mp (I3.stkSub b hm) with z | z
      · have := I3.lt
        rw [← z] at this
        exact Nat.lt_irrefl _ (Nat.lt_trans hb this)
      · exact I3.nofs (Nat.le_of_lt hb) z
    · obtain ⟨v, q5⟩ := I5.cell y c e
      rcases cloFrom_mem (PySem.mem_of_lookup e) with hm' | ⟨h1, h2⟩
      · cases hm'
      · obtain ⟨c1, hc1⟩ := capt _ h1 rfl
        have hc1 : X.env.cells.lookup y = some c1 := hc1
        have ec : c = c1 := by
          rw [h2, hc1] <;> rfl
        obtain ⟨v2, o2, ho2, _⟩ := I3.cell y c1 hc1
        have := Heap.lt_size ho2
        rw [← ec, z] at this
        exact Nat.lt_irrefl _ (Nat.lt_trans hb this)
  obtain ⟨a1, a2, a3, a4, a5, a6⟩ := young h'.objs.size hC
  have youngS : ∀ p ∈ ps, _ := fun p hp => young p.1 (Nat.lt_trans hC (hSz p hp))
  have I6 : Inv (genCx X A s3 H3 scope s3.heap.objs.size code fp) (ps ++ [(h'.objs.size, go)]) (wipe σ (own.map (·.2))) H3 s5 := by
    refine I5.pins_of fun p hp => ?_
    have hp : p ∈ ps ++ [(h'.objs.size, go)] := hp
    rcases List.mem_append.mp hp with z | z
    · obtain ⟨b1, b2, b3, _⟩ := youngS p z
      exact ⟨(hSo p z).1, b1, b2, b3, (hSo p z).2⟩
    · rw [List.mem_singleton.mp z]; exact ⟨hea, a1, a2, a3, fun v q => by rw [ego] at q; cases q⟩
  have ofS : ∀ S ∈ ps.map (·.1), ∃ p ∈ ps, p.1 = S := fun S hS => let ⟨p, hp, e⟩ := List.mem_map.mp hS; ⟨p, hp, e⟩
  have loop := fun s₀ (h0 : ∀ p ∈ ps, ∀ o', s₀.heap.get? p.1 = some o' → o' = p.2) => gen_segN (σ0 := σ) (SS := ps.map (·.1)) Tn (hg A s3 H3 s3.heap.objs.size code fp deep) (ht A s3 H3 s3.heap.objs.size code fp deep) (he A s3 H3 s3.heap.objs.size code fp deep) gx.co
    (fun z => by obtain ⟨p, hp, e⟩ := ofS _ z; exact Nat.lt_irrefl _ (by have := hSz p hp; rw [e] at this; exact this))
    (fun S hS => by obtain ⟨p, hp, e⟩ := ofS _ hS; rw [← e]; exact (youngS p hp).2.2.2.2.2) a6
    (fun S hS => by obtain ⟨p, hp, e⟩ := ofS _ hS; obtain ⟨b1, b2, b3, b4, b5, b6⟩ := youngS p hp; rw [← e]; exact ⟨⟨b4, b2, b5⟩, b3⟩) isgen turn m0 ys.length 0 0 H3 s₀ s5 ps rfl (by simp) w0 I6 h0 st5 (fun b hb => (f3 b hb).1.1) (iter := iter) (pos := pos)
  have self0 : ∀ p ∈ ps, ∀ o', s5.heap.get? p.1 = some o' → o' = p.2 := fun p hp o' e => by rw [(hSo p hp).1] at e; exact (Option.some.inj e).symm
  show Seg _ A _ _ _ s5 _ ((compStart (.GeneratorExp elt [⟨tg, iter, ifs, 0⟩] scope pos) 0 (.ref it) .none (gEnv X scope s3.heap.objs.size code)).onRaise (leaving (gEnv X scope s3.heap.objs.size code))) [] s5
  unfold compStart
  rw [Sem.onRaise_eq_wrap]
  show Seg _ A _ _ _ s5 _ ((ask >>= _).wrap _ _ _ _) [] s5
  refine seg_bind_wrap (wpAny_askSetting ?_)
  split
  · exact seg_again rfl (loop s5 self0)
  · refine seg_bind_wrap (wpAny_rule ?_)
    show Seg _ A _ _ _ s5 _ ((standAt iter.pos >>= _).wrap _ _ _ _) [] s5
    exact seg_bind_wrap (wpAny_standAt (seg_bind_wrap (Tn.self _ 0 s5 _ _ st5 (seg_again rfl (loop s5 self0)))))
end

/-! ### the consumer's side -/
section
variable {P : Program} {w : World} {outer : List Env} {H1 : Hp} {sc : Shared} {ex : List Addr} {SS : List Addr} {a : Addr} {g : Nat} {ys : List V} {out : Nat → Hp → Prop} {cont : Hp → Prop}
/-- the generator stands, j items are out; A: around the consumer's code -/
def Src (P : Program) (w : World) (outer : List Env) (H1 : Hp) (sc : Shared) (ex SS : List Addr) (a : Addr) (g : Nat) (ys : List V) (out : Nat → Hp → Prop) (cont : Hp → Prop) (A : Around) (j : Nat) (s : Shared) : Prop :=
  s.heap.IsGen a g ∧ s.heap.NoLimit ∧ j ≤ ys.length ∧ ∃ gs, s.gens[g]? = some gs ∧ gs.Goes (model P w) A.in1 (RN P w outer H1 sc ex SS cont) (YN P w outer H1 sc ex SS a g ys out) (ys.length - j) (.send .none) (s.setGen g .running)

theorem Mid.at {R : Hp → Prop} {s : Shared} {S : Addr} (m : Mid P w outer H1 sc ex SS R s) (hS : S ∈ SS) {h' : Heap} {tk : Nat} (k : ∀ b o, b ≠ S → s.heap.get? b = some o → h'.get? b = some o) (hS' : ∃ o, h'.get? S = some o) : Mid P w outer H1 sc ex SS R { s with heap := h', toks := tk } := by
  obtain ⟨m1, m2, H', m3, m4, m5, m6⟩ := m
  obtain ⟨n1, n2⟩ := m5 S hS
  have old : ∀ b o, sc.heap.get? b = some o → b ≠ S := fun b o e => Nat.ne_of_lt (Nat.lt_of_lt_of_le (Heap.lt_size e) n2)
  have nt : ∀ b u, H' b = some u → b ≠ S := fun b u q hb => by rw [hb, n1] at q; cases q
  have nfr : ∀ b, b ∈ frs outer → True := fun _ _ => trivial
  refine ⟨m1, m2, H', ⟨fun b o e a c d => k b o (old b o e) (m3.keep b o e a c d), fun b o e a c d => ?_, m3.free, fun b o e d => ?_, m3.tups, m3.frzs, m3.tbls⟩, fun b u q => (m4 b u q).stay (fun c v hc y => k c v (by
        rcases hc with y | y
        · rw [y]; exact nt b u q
        · exact nt c _ y) y) (fun _ y => y) fun _ _ y => y, m5, m6⟩
  · obtain ⟨sl, e2⟩ := m3.slot b o e a c d
    exact ⟨sl, k b _ (old b o e) e2⟩
  · obtain ⟨o2, e2⟩ := m3.there b o e d
    exact ⟨o2, k b o2 (old b o e) e2⟩
theorem Mid.gen {R : Hp → Prop} {s : Shared} (m : Mid P w outer H1 sc ex SS R s) {x : GenState} (hx : x.bare = true) : Mid P w outer H1 sc ex SS R (s.setGen g x) :=
  ⟨m.1, L2.allBare_setGen m.2.1 hx, m.2.2⟩
theorem Mid.kept {R : Hp → Prop} {s : Shared} {h' : Heap} {tk : Nat} (m : Mid P w outer H1 sc ex SS R s) (k : ∀ b o, s.heap.get? b = some o → h'.get? b = some o) : Mid P w outer H1 sc ex SS R { s with heap := h', toks := tk } := by
  obtain ⟨m1, m2, H', m3, m4, m5⟩ := m
  exact ⟨m1, m2, H', m3.trans (Un.kept k), m4.kept k, m5⟩

theorem src_next {A : Around} {j : Nat} {s : Shared} {Q : Option Value → Shared → Prop} {E : Value → Shared → Prop} (hh : A.handled = none) (hd : A.depth < recursionLimit) (h : Src P w outer H1 sc ex SS a g ys out cont A j s)
    (hY : ∀ v y s', ys[j]? = some y → RelV y v → Mid P w outer H1 sc ex SS (out j) s' → (∀ b ∈ SS, ∀ o, s.heap.get? b = some o → s'.heap.get? b = some o) →
      (∀ s2, Wrk SS s' s2 → s2.gens = s'.gens → s2.heap.IsGen a g → s2.heap.NoLimit → Src P w outer H1 sc ex SS a g ys out cont A (j + 1) s2) → s'.heap.IsGen a g → s'.heap.NoLimit → Q (some v) s')
    (hE : ∀ s', j = ys.length → Mid P w outer H1 sc ex SS cont s' → (∀ b ∈ SS, ∀ o, s.heap.get? b = some o → s'.heap.get? b = some o) → Q none s') :
    wpAny (model P w) A (pyNext (.ref a)) Q E s := by
  obtain ⟨hg, hl, hj, gs, hgs, hgo⟩ := h
  have hgl : g < s.gens.size := (Array.getElem?_eq_some_iff.mp hgs).1
  refine GenW.wpAny_gsz (n := g + 1) hgl (next_genG (A := A) (F := fun n s₀ s1 => n = 0 ∧ (∀ b ∈ SS, ∀ o, s₀.heap.get? b = some o → s1.heap.get? b = some o) ∧ Mid P w outer H1 sc ex SS cont s1) (Er := fun _ _ => False) hh hl hd hg hgs hgo ?_ ?_ ?_)
  · rintro v s₁ gs' hbare ⟨y1, y2, y3, ⟨j', y, e1, e2, e3, e4⟩, y5, hk⟩ hsz
    have hj2 : j' < ys.length := (List.getElem?_eq_some_iff.mp e2).1
    have hlt : j < ys.length := by
      refine Nat.lt_of_le_of_ne hj fun e => ?_
      rw [e, Nat.sub_self] at hk
      exact hk s₁ ⟨rfl, e4.2.1, fun _ _ _ e => e, y5⟩
    have ej : j' = j := by omega
    subst ej
    obtain ⟨m, em⟩ : ∃ m, ys.length - j' = m + 1 := ⟨ys.length - j' - 1, by omega⟩
    rw [em] at hk
    have hsz1 : g < s₁.gens.size := by
      have q : (s₁.setGen g gs').gens.size = s₁.gens.size := GenW.setGen_size _ _ _
      have hsz' : g + 1 ≤ (s₁.setGen g gs').gens.size := hsz
      omega
    refine hY v y (s₁.setGen g gs') e2 e3 (e4.gen hbare) y3 ?_ y2 y1
    intro s2 z zg z1 z2
    refine ⟨z1, z2, hlt, gs', by rw [zg]; exact L2.setGen_at hsz1, ?_⟩
    have em' : ys.length - (j' + 1) = m := by omega
    rw [em']
    refine hk (s2.setGen g .running) ⟨z.os, L2.allBare_setGen z.bare rfl, z.keep, z.own⟩
  · rintro s₁ ⟨p1, p2, p3⟩ h' hk hsz
    exact hE _ (by omega) ((p3.gen (x := .finished) rfl).kept (tk := s₁.toks) hk) (fun b hb o e => hk b o (p2 b hb o e))
  · exact fun _ _ z => z.elim
end
end Y

set_option Elab.async false
set_option linter.all false
set_option maxRecDepth 100000
set_option maxHeartbeats 4000000
namespace Y
open PySem PySem.Spec L2 LamX
open PyProof.Rows (AllBare)

section
variable {P : Program} {w : World} {outer : List Env} {H1 : Hp} {sc s : Shared} {ex : List Addr} {a : Addr} {g : Nat} {out : Nat → Hp → Prop} {cont : Hp → Prop} {R : Result → Shared → Prop} {A : Around}
/-- any(..), from the j-th item on -/
theorem any_loopG {bs : List Bool} (hh : A.handled = none) (hd : A.depth < recursionLimit)
    (hend : ∀ s', Mid P w outer H1 sc ex [] cont s' → bs.any id = false → R (.ok (.ret (.bool false))) s')
    (hyes : ∀ j s', bs[j]? = some true → Mid P w outer H1 sc ex [] (out j) s' → R (.ok (.ret (.bool true))) s') :
    ∀ (k j : Nat) (s : Shared), bs.length - j = k → (∀ i, i < j → bs[i]? = some false) → Src P w outer H1 sc ex [] a g (bs.map V.bl) out cont A.in1 j s →
      codeAny (model P w) A (.builtin "any.loop" ⟨[.ref a], []⟩) R s := by
  intro k
  induction k with
  | zero =>
    intro j s hk hpre h
    have hj : j = bs.length := by have := h.2.2.1; simp at this; omega
    refine codeAny_builtin F.entry_any_loop ?_
    rw [Around.under_plainId F.plain_any_loop _]
    show wpAny _ A.in1 (pyNext (.ref a) >>= _) _ _ s
    refine wpAny_bind (src_next (A := A.in1) hh hd h ?_ ?_)
    · intro v y s' e1
      have := (List.getElem?_eq_some_iff.mp e1).1
      simp at this
      omega
    · intro s' _ m _
      refine wpAny_bind (wpAny_rule (wpAny_pure (hend s' m ?_)))
      rw [List.any_eq_false]
      intro b hb hb2
      obtain ⟨i, hi, e⟩ := List.getElem_of_mem hb
      have := hpre i (by omega)
      rw [List.getElem?_eq_getElem hi] at this
      rw [e] at this
      simp only [id] at hb2
      rw [hb2] at this
      cases this
  | succ k ih =>
    intro j s hk hpre h
    have hlt : j < bs.length := by omega
    refine codeAny_builtin F.entry_any_loop ?_
    rw [Around.under_plainId F.plain_any_loop _]
    show wpAny _ A.in1 (pyNext (.ref a) >>= _) _ _ s
    refine wpAny_bind (src_next (A := A.in1) hh hd h ?_ ?_)
    · intro v y s' e1 r m _ go g1 g2
      rw [List.getElem?_map, List.getElem?_eq_getElem hlt] at e1
      cases e1
      obtain rfl := (show v = Value.bool (bs[j]) from r)
      refine wpAny_bind (wpAny_holding (wpAny_truthy_bool ?_))
      refine wpAny_bind (wpAny_letGo ?_)
      cases hb : bs[j] with
      | true =>
        simp only [if_true]
        exact wpAny_bind (wpAny_rule (wpAny_pure (hyes j s' (by rw [List.getElem?_eq_getElem hlt, hb]) m)))
      | false =>
        simp only [Bool.false_eq_true, if_false]
        refine wpAny_pure ⟨plainId_quiet F.plain_any_loop _, ih (j + 1) s' (by omega) (fun i hi => ?_) (go s' ⟨rfl, m.2.1, fun _ _ _ e => e, [], rfl, fun p hp => absurd hp (by simp)⟩ rfl g1 g2)⟩
        by_cases e : i = j
        · rw [e, List.getElem?_eq_getElem hlt, hb]
        · exact hpre i (by omega)
    · intro s' e
      simp at e
      omega
/-- all(..), from the j-th item on -/
theorem all_loopG {bs : List Bool} (hh : A.handled = none) (hd : A.depth < recursionLimit)
    (hend : ∀ s', Mid P w outer H1 sc ex [] cont s' → bs.all id = true → R (.ok (.ret (.bool true))) s')
    (hno : ∀ j s', bs[j]? = some false → Mid P w outer H1 sc ex [] (out j) s' → R (.ok (.ret (.bool false))) s') :
    ∀ (k j : Nat) (s : Shared), bs.length - j = k → (∀ i, i < j → bs[i]? = some true) → Src P w outer H1 sc ex [] a g (bs.map V.bl) out cont A.in1 j s →
      codeAny (model P w) A (.builtin "all.loop" ⟨[.ref a], []⟩) R s := by
  intro k
  induction k with
  | zero =>
    intro j s hk hpre h
    have hj : j = bs.length := by have := h.2.2.1; simp at this; omega
    refine codeAny_builtin F.entry_all_loop ?_
    rw [Around.under_plainId F.plain_all_loop _]
    show wpAny _ A.in1 (pyNext (.ref a) >>= _) _ _ s
    refine wpAny_bind (src_next (A := A.in1) hh hd h ?_ ?_)
    · intro v y s' e1
      have := (List.getElem?_eq_some_iff.mp e1).1
      simp at this
      omega
    · intro s' _ m _
      refine wpAny_bind (wpAny_rule (wpAny_pure (hend s' m ?_)))
      rw [List.all_eq_true]
      intro b hb
      obtain ⟨i, hi, e⟩ := List.getElem_of_mem hb
      have := hpre i (by omega)
      rw [List.getElem?_eq_getElem hi, e] at this
      exact (Option.some.inj this)
  | succ k ih =>
    intro j s hk hpre h
    have hlt : j < bs.length := by omega
    refine codeAny_builtin F.entry_all_loop ?_
    rw [Around.under_plainId F.plain_all_loop _]
    show wpAny _ A.in1 (pyNext (.ref a) >>= _) _ _ s
    refine wpAny_bind (src_next (A := A.in1) hh hd h ?_ ?_)
    · intro v y s' e1 r m _ go g1 g2
      rw [List.getElem?_map, List.getElem?_eq_getElem hlt] at e1
      cases e1
      obtain rfl := (show v = Value.bool (bs[j]) from r)
      refine wpAny_bind (wpAny_holding (wpAny_truthy_bool ?_))
      refine wpAny_bind (wpAny_letGo ?_)
      cases hb : bs[j] with
      | false =>
        simp only [Bool.false_eq_true, if_false]
        exact wpAny_bind (wpAny_rule (wpAny_pure (hno j s' (by rw [List.getElem?_eq_getElem hlt, hb]) m)))
      | true =>
        simp only [if_true]
        refine wpAny_pure ⟨plainId_quiet F.plain_all_loop _, ih (j + 1) s' (by omega) (fun i hi => ?_) (go s' ⟨rfl, m.2.1, fun _ _ _ e => e, [], rfl, fun p hp => absurd hp (by simp)⟩ rfl g1 g2)⟩
        by_cases e : i = j
        · rw [e, List.getElem?_eq_getElem hlt, hb]
        · exact hpre i (by omega)
    · intro s' e
      simp at e
      omega

/-- a generator just made, seen by a consumer whose own objects are ps -/
theorem src_of {k : Nat} {ys : List V} {a : Addr} {u : Value} {ps : List (Addr × Obj)} {s1 s2 : Shared} (h : GMadeN P w k outer H1 sc ex ys out cont u s1) (hr : Room k A.in1) (hfr : A.in1.frames = some outer)
    (hps : ∀ p ∈ ps, s1.heap.objs.size ≤ p.1) (kp : ∀ b o, s1.heap.get? b = some o → s2.heap.get? b = some o) (hpo : ∀ p ∈ ps, s2.heap.get? p.1 = some p.2 ∧ ∀ v, p.2.data ≠ .cell v) (hos : s2.os = s1.os) (hgs : s2.gens = s1.gens) :
    ∃ a g, u = .ref a ∧ s1.heap.IsGen a g ∧ Src P w outer H1 sc ex (ps.map (·.1)) a g ys out cont A 0 s2 := by
  obtain ⟨a, g, c, rfl, ha1, ha2, hg, hgn, hos1, hb, hl, hkp, wake⟩ := h
  refine ⟨a, g, rfl, hg, hg.keeps kp, hl.keeps kp, Nat.zero_le _, .fresh c, by rw [hgs]; exact hgn, rfl, ?_⟩
  have hb2 : AllBare s2.gens := by rw [hgs]; exact hb
  exact wake A.in1 ps (s2.setGen g .running) hr hfr hps kp hpo (hos.trans hos1) (L2.allBare_setGen hb2 rfl)
end

section
variable {X : Cx} {k : Nat} {p pos : Pos}
theorem mid_inv {pins : List (Addr × Obj)} {σ : St} {H1 : Hp} {sc s' : Shared} {ex SS : List Addr} {R : Hp → Prop} (I : Inv X pins σ H1 sc) (hex : ExOk X pins ex) (m : Mid X.prog X.w X.stack H1 sc ex SS R s') : ∃ H', Inv X pins σ H' s' ∧ R H' := by
  obtain ⟨m1, m2, H', m3, m4, _, m5⟩ := m
  exact ⟨H', I.call' (ch := ex) m1 m3 m4 m2 hex, m5⟩
theorem room_in1 {A : Around} (hr : Room (k + 1) A) : Room k A.in1 := hr.in1

/-- any(g): bs, the truth values that it would hand out -/
def tAnyG (tg : TGN) : TE := fun σ H Q => tg σ H fun ys out cont => ∃ bs : List Bool, ys = bs.map V.bl ∧ (∀ H', cont H' → bs.any id = false → Q (.bl false) H') ∧ ∀ j H', bs[j]? = some true → out j H' → Q (.bl true) H'
def tAllG (tg : TGN) : TE := fun σ H Q => tg σ H fun ys out cont => ∃ bs : List Bool, ys = bs.map V.bl ∧ (∀ H', cont H' → bs.all id = true → Q (.bl true) H') ∧ ∀ j H', bs[j]? = some false → out j H' → Q (.bl false) H'
theorem pe_anyG {e : Expr} {tg : TGN} (h : PGN X k e tg) (hr : Room (k + 4) X.A) (hg : Gl X "any") (hmg : X.mg "any" = none)
    (he : starEach [e] X.env = (false, eval e X.env) :: starEach [] X.env := by rfl) : PE X (.Call (.Name "any" p) [e] [] pos) (tAnyG tg) := by
  refine ⟨fun pins s σ H Q I hq => ?_⟩
  refine wpAny_Call_Name_kw (ld_blt I hg hmg (by decide +kernel : bootBuiltins "any" = some (.builtin "any")) ?_ (by decide) (by decide))
  refine PyProof.Rows.callWith_builtin1 ?_ he rfl
  rw [he]
  show wpAny _ _ (spliced ((false, eval e X.env) :: backTo pos (starEach [] X.env))) _ _ s
  refine Calls.spliced_cons (thn (h.run pins s σ H _ I hq) ?_)
  rintro u s1 ⟨H1, sc, ex, ys, out, cont, I1, hex, hG, bs, rfl, q1, q2⟩
  refine Calls.spliced_nil ?_
  obtain ⟨a, g, rfl, _, S0⟩ := src_of (A := X.A.in1) (ps := []) (s2 := s1) (a := 0) hG ((Room.in1 (Room.in1 (hr.mono (by omega) : Room (k + 2) X.A)))) I1.ok.frames (fun p hp => absurd hp (by simp)) (fun _ _ e => e) (fun p hp => absurd hp (by simp)) rfl rfl
  refine call_function_tree F.kind_any F.plain_any F.entry_any (F.args_any1 _) ?_
  unfold Builtin.«any»
  refine wpAny_bind (m := oneArg "any" _) (wpAny_pure ?_)
  refine wpAny_bind (wpAny_pyIter_gen S0.1 ?_)
  refine wpAny_pure ⟨plainId_quiet F.plain_any_loop _, any_loopG (A := X.A) hr.hd (by have := hr.dp; show X.A.depth < _; omega) ?_ ?_ bs.length 0 s1 (by simp) (fun i hi => absurd hi (by omega)) S0⟩
  · intro s' m hb
    obtain ⟨H', I', c'⟩ := mid_inv I1 hex m
    exact ⟨.bl false, H', I', rfl, q1 H' c' hb⟩
  · intro j s' hj m
    obtain ⟨H', I', c'⟩ := mid_inv I1 hex m
    exact ⟨.bl true, H', I', rfl, q2 j H' hj c'⟩
theorem pe_allG {e : Expr} {tg : TGN} (h : PGN X k e tg) (hr : Room (k + 4) X.A) (hg : Gl X "all") (hmg : X.mg "all" = none)
    (he : starEach [e] X.env = (false, eval e X.env) :: starEach [] X.env := by rfl) : PE X (.Call (.Name "all" p) [e] [] pos) (tAllG tg) := by
  refine ⟨fun pins s σ H Q I hq => ?_⟩
  refine wpAny_Call_Name_kw (ld_blt I hg hmg (by decide +kernel : bootBuiltins "all" = some (.builtin "all")) ?_ (by decide) (by decide))
  refine PyProof.Rows.callWith_builtin1 ?_ he rfl
  rw [he]
  show wpAny _ _ (spliced ((false, eval e X.env) :: backTo pos (starEach [] X.env))) _ _ s
  refine Calls.spliced_cons (thn (h.run pins s σ H _ I hq) ?_)
  rintro u s1 ⟨H1, sc, ex, ys, out, cont, I1, hex, hG, bs, rfl, q1, q2⟩
  refine Calls.spliced_nil ?_
  obtain ⟨a, g, rfl, _, S0⟩ := src_of (A := X.A.in1) (ps := []) (s2 := s1) (a := 0) hG ((Room.in1 (Room.in1 (hr.mono (by omega) : Room (k + 2) X.A)))) I1.ok.frames (fun p hp => absurd hp (by simp)) (fun _ _ e => e) (fun p hp => absurd hp (by simp)) rfl rfl
  refine call_function_tree F.kind_all F.plain_all F.entry_all (F.args_all1 _) ?_
  unfold Builtin.«all»
  refine wpAny_bind (m := oneArg "all" _) (wpAny_pure ?_)
  refine wpAny_bind (wpAny_pyIter_gen S0.1 ?_)
  refine wpAny_pure ⟨plainId_quiet F.plain_all_loop _, all_loopG (A := X.A) hr.hd (by have := hr.dp; show X.A.depth < _; omega) ?_ ?_ bs.length 0 s1 (by simp) (fun i hi => absurd hi (by omega)) S0⟩
  · intro s' m hb
    obtain ⟨H', I', c'⟩ := mid_inv I1 hex m
    exact ⟨.bl true, H', I', rfl, q1 H' c' hb⟩
  · intro j s' hj m
    obtain ⟨H', I', c'⟩ := mid_inv I1 hex m
    exact ⟨.bl false, H', I', rfl, q2 j H' hj c'⟩
end
end Y

set_option Elab.async false
set_option linter.all false
set_option maxRecDepth 100000
set_option maxHeartbeats 4000000
namespace Y
open PySem PySem.Spec L2 LamX
open PyProof.Rows (AllBare)

section
variable {P : Program} {w : World} {outer : List Env} {H1 : Hp} {sc s : Shared} {ex : List Addr} {a : Addr} {g : Nat} {out : Nat → Hp → Prop} {cont : Hp → Prop} {R : Result → Shared → Prop} {A : Around}

/-- min(..): the best so far stands twice in the list at S -/
theorem min_loopG {ns : List Int} {S : Addr} (hh : A.handled = none) (hd : A.depth < recursionLimit)
    (hend : ∀ (s' : Shared) (v : Int) (t : Tok) (c : Nat), Mid P w outer H1 sc ex [S] cont s' → s'.heap.get? S = some (lstObj #[] c) → v ∈ ns → (∀ y ∈ ns, v ≤ y) → R (.ok (.ret (.int v t))) s') :
    ∀ (k j : Nat) (s : Shared) (v : Int) (t : Tok) (c : Nat), ns.length - j = k → v ∈ ns.take j → (∀ y ∈ ns.take j, v ≤ y) → s.heap.get? S = some (lstObj #[.int v t, .int v t] c) →
      Src P w outer H1 sc ex [S] a g (ns.map V.int) out cont A.in1 j s → codeAny (model P w) A (.builtin "min.loop" ⟨[.ref a, .none, .ref S], []⟩) R s := by
  have hname : (toString "min" ++ toString ".loop" : String) = "min.loop" := by decide
  intro k
  induction k with
  | zero =>
    intro j s v t c hk hv hle hS h
    have hj : j = ns.length := by have := h.2.2.1; simp at this; omega
    refine codeAny_builtin F.entry_min_loop ?_
    rw [Around.under_plainId F.plain_min_loop _]
    show wpAny _ A.in1 (seqItems? (.ref S) >>= _) _ _ s
    refine wpAny_bind (wpAny_seqItems hS rfl ?_)
    show wpAny _ A.in1 (tryCatch (pyNext (.ref a)) _ >>= _) _ _ s
    refine wpAny_bind (wpAny_tryCatch (src_next (A := A.in1) hh hd h ?_ ?_))
    · intro v y s' e1
      have := (List.getElem?_eq_some_iff.mp e1).1
      simp at this
      omega
    · intro s' _ m keep
      have hS' := keep S (by simp) _ hS
      show wpAny _ A.in1 (updateSeq S (fun _ => #[]) >>= _) _ _ _
      refine wpAny_bind ?_
      refine wpAny_updateSeq hS' rfl (wpAny_bind (wpAny_letGo (wpAny_pure ?_)))
      rw [hj, List.take_length] at hv hle
      exact hend _ v t _ (m.at (by simp) (fun b o hb e => (Heap.get?_update_other _ _ (Ne.symm hb)).trans e) ⟨_, Heap.get?_update_self _ hS' rfl⟩) (Heap.get?_update_self _ hS' rfl) hv hle
  | succ k ih =>
    intro j s v t c hk hv hle hS h
    have hlt : j < ns.length := by omega
    have tk : ns.take (j + 1) = ns.take j ++ [ns[j]] := by rw [List.take_succ, List.getElem?_eq_getElem hlt]; rfl
    refine codeAny_builtin F.entry_min_loop ?_
    rw [Around.under_plainId F.plain_min_loop _]
    show wpAny _ A.in1 (seqItems? (.ref S) >>= _) _ _ s
    refine wpAny_bind (wpAny_seqItems hS rfl ?_)
    show wpAny _ A.in1 (tryCatch (pyNext (.ref a)) _ >>= _) _ _ s
    refine wpAny_bind (wpAny_tryCatch (src_next (A := A.in1) hh hd h ?_ ?_))
    · intro vv y s' e1 r m keep go g1 g2
      rw [List.getElem?_map, List.getElem?_eq_getElem hlt] at e1
      cases e1
      obtain ⟨t2, rfl⟩ := (show ∃ t2, vv = Value.int (ns[j]) t2 from r)
      have hS' := keep S (by simp) _ hS
      have hcmp : CmpOf P w A.in1 .Lt (fun i x => ∃ t', x = Value.int (if i = 0 then ns[j] else v) t') _ := CmpOf.ints_lt (fun i => if i = 0 then ns[j] else v) (fun i v h => h)
      show wpAny _ A.in1 (tryCatch (holding [Value.int (ns[j]) t2, Value.int (ns[j]) t2] (richCompare .Lt (Value.int (ns[j]) t2) (Value.int v t) >>= _)) _ >>= _) _ _ _
      refine wpAny_bind (wpAny_tryCatch (wpAny_holding (wpAny_bind (hcmp 0 1 _ _ _ _ _ ⟨t2, rfl⟩ ⟨t, rfl⟩ ?_))))
      refine wpAny_bind (wpAny_holding (wpAny_truthy_bool ?_))
      refine wpAny_bind (wpAny_letGo (wpAny_pure ?_))
      simp only [if_true, Nat.one_ne_zero, if_false]
      have self : ∀ (o : Obj) (h' : Heap), (∀ v, o.data ≠ .cell v) → h'.get? S = some o → (∀ b o, b ≠ S → s'.heap.get? b = some o → h'.get? b = some o) → Wrk [S] s' { s' with heap := h' } := fun o h' nc e kp =>
        ⟨rfl, m.2.1, fun b o hb e => kp b o (fun z => hb (by rw [z]; exact List.mem_singleton.mpr rfl)) e, [(S, o)], rfl, fun p hp => by rw [List.mem_singleton.mp hp]; exact ⟨e, nc⟩⟩
      by_cases hb : ns[j] < v
      · have hb' : decide (ns[j] < v) = true := decide_eq_true hb
        rw [hb']
        simp only [if_true]
        refine wpAny_bind ?_
        refine wpAny_updateSeq hS' rfl (wpAny_bind (wpAny_letGo ?_))
        rw [hname]
        have oth : ∀ b o, b ≠ S → s'.heap.get? b = some o → (s'.heap.update S (Obj.mapSeq fun _ => #[Value.int (ns[j]) t2, Value.int (ns[j]) t2])).get? b = some o := fun b o hb e => (Heap.get?_update_other _ _ (Ne.symm hb)).trans e
        have neS : S ≠ a := by
          intro z
          obtain ⟨o, _, _, eo, ec, _⟩ := g1
          rw [z] at hS'
          rw [hS'] at eo
          cases eo
          injection (show Value.type "list" = Value.type "generator" from ec) with e2
          exact absurd e2 (by decide)
        have neC : S ≠ cStatics := by
          intro z
          obtain ⟨_, ⟨o, _, _, eo, ed, _⟩, _⟩ := g2
          rw [z] at hS'
          rw [hS'] at eo
          cases eo
          cases ed
        refine wpAny_pure ⟨plainId_quiet F.plain_min_loop _, ih (j + 1) _ (ns[j]) t2 _ (by omega) (by rw [tk]; exact List.mem_append_right _ List.mem_cons_self) ?_ (Heap.get?_update_self _ hS' rfl)
          (go _ (self _ _ (fun v q => by cases q) (Heap.get?_update_self _ hS' rfl) oth) rfl ?_ ?_)⟩
        · intro y hy
          rw [tk] at hy
          rcases List.mem_append.mp hy with z | z
          · have := hle y z; omega
          · have := List.mem_singleton.mp z; omega
        · obtain ⟨o, nm, qn, eo, r⟩ := g1
          exact ⟨o, nm, qn, oth _ _ (Ne.symm neS) eo, r⟩
        · obtain ⟨mc, hns, hnn⟩ := g2
          exact ⟨mc, hns.at' fun o e => oth _ o (Ne.symm neC) e, hnn⟩
      · have hb' : decide (ns[j] < v) = false := decide_eq_false hb
        rw [hb']
        simp only [Bool.false_eq_true, if_false]
        refine wpAny_bind (wpAny_letGo ?_)
        rw [hname]
        refine wpAny_pure ⟨plainId_quiet F.plain_min_loop _, ih (j + 1) _ v t c (by omega) (by rw [tk]; exact List.mem_append_left _ hv) ?_ hS' (go s' (self _ _ (fun v q => by cases q) hS' fun _ _ _ e => e) rfl g1 g2)⟩
        intro y hy
        rw [tk] at hy
        rcases List.mem_append.mp hy with z | z
        · exact hle y z
        · have := List.mem_singleton.mp z; omega
    · intro s' e
      simp at e
      omega
/-- min(..), from the beginning -/
theorem min_firstG {ns : List Int} {S : Addr} (hh : A.handled = none) (hd : A.depth < recursionLimit) (hpos : 0 < ns.length)
    (hend : ∀ (s' : Shared) (v : Int) (t : Tok) (c : Nat), Mid P w outer H1 sc ex [S] cont s' → s'.heap.get? S = some (lstObj #[] c) → v ∈ ns → (∀ y ∈ ns, v ≤ y) → R (.ok (.ret (.int v t))) s') {s : Shared} {c : Nat} (tk0 : Nat)
    (hS : s.heap.get? S = some (lstObj #[] c)) (h : Src P w outer H1 sc ex [S] a g (ns.map V.int) out cont A.in1 0 s) : codeAny (model P w) A (.builtin "min.loop" ⟨[.ref a, .none, .ref S], []⟩) R s := by
  have hname : (toString "min" ++ toString ".loop" : String) = "min.loop" := by decide
  refine codeAny_builtin F.entry_min_loop ?_
  rw [Around.under_plainId F.plain_min_loop _]
  show wpAny _ A.in1 (seqItems? (.ref S) >>= _) _ _ s
  refine wpAny_bind (wpAny_seqItems hS rfl ?_)
  show wpAny _ A.in1 (tryCatch (pyNext (.ref a)) _ >>= _) _ _ s
  refine wpAny_bind (wpAny_tryCatch (src_next (A := A.in1) hh hd h ?_ ?_))
  · intro vv y s' e1 r m keep go g1 g2
    rw [List.getElem?_map, List.getElem?_eq_getElem hpos] at e1
    cases e1
    obtain ⟨t2, rfl⟩ := (show ∃ t2, vv = Value.int (ns[0]) t2 from r)
    have hS' := keep S (by simp) _ hS
    show wpAny _ A.in1 (updateSeq S (fun _ => #[Value.int (ns[0]) t2, Value.int (ns[0]) t2]) >>= _) _ _ _
    refine wpAny_bind ?_
    refine wpAny_updateSeq hS' rfl ?_
    rw [hname]
    have oth : ∀ b o, b ≠ S → s'.heap.get? b = some o → (s'.heap.update S (Obj.mapSeq fun _ => #[Value.int (ns[0]) t2, Value.int (ns[0]) t2])).get? b = some o := fun b o hb e => (Heap.get?_update_other _ _ (Ne.symm hb)).trans e
    have neS : S ≠ a := by
      intro z
      obtain ⟨o, _, _, eo, ec, _⟩ := g1
      rw [z] at hS'
      rw [hS'] at eo
      cases eo
      injection (show Value.type "list" = Value.type "generator" from ec) with e2
      exact absurd e2 (by decide)
    have neC : S ≠ cStatics := by
      intro z
      obtain ⟨_, ⟨o, _, _, eo, ed, _⟩, _⟩ := g2
      rw [z] at hS'
      rw [hS'] at eo
      cases eo
      cases ed
    have tk : ns.take 1 = [ns[0]] := by
      have := List.take_succ (l := ns) (i := 0)
      rw [List.getElem?_eq_getElem hpos] at this
      simpa using this
    refine wpAny_pure ⟨plainId_quiet F.plain_min_loop _, min_loopG hh hd hend (ns.length - 1) 1 _ (ns[0]) t2 _ rfl (by rw [tk]; exact List.mem_cons_self) (fun y hy => by rw [tk] at hy; have := List.mem_singleton.mp hy; omega) (Heap.get?_update_self _ hS' rfl)
      (go _ ⟨rfl, m.2.1, fun b o hb e => oth b o (fun z => hb (by rw [z]; exact List.mem_singleton.mpr rfl)) e, [(S, _)], rfl, fun p hp => by rw [List.mem_singleton.mp hp]; exact ⟨Heap.get?_update_self _ hS' rfl, fun v q => by cases q⟩⟩ rfl ?_ ?_)⟩
    · obtain ⟨o, nm, qn, eo, r⟩ := g1
      exact ⟨o, nm, qn, oth _ _ (Ne.symm neS) eo, r⟩
    · obtain ⟨mc, hns, hnn⟩ := g2
      exact ⟨mc, hns.at' fun o e => oth _ o (Ne.symm neC) e, hnn⟩
  · intro s' e
    simp at e
    omega

/-- max(..): the best so far stands twice in the list at S -/
theorem max_loopG {ns : List Int} {S : Addr} (hh : A.handled = none) (hd : A.depth < recursionLimit)
    (hend : ∀ (s' : Shared) (v : Int) (t : Tok) (c : Nat), Mid P w outer H1 sc ex [S] cont s' → s'.heap.get? S = some (lstObj #[] c) → v ∈ ns → (∀ y ∈ ns, y ≤ v) → R (.ok (.ret (.int v t))) s') :
    ∀ (k j : Nat) (s : Shared) (v : Int) (t : Tok) (c : Nat), ns.length - j = k → v ∈ ns.take j → (∀ y ∈ ns.take j, y ≤ v) → s.heap.get? S = some (lstObj #[.int v t, .int v t] c) →
      Src P w outer H1 sc ex [S] a g (ns.map V.int) out cont A.in1 j s → codeAny (model P w) A (.builtin "max.loop" ⟨[.ref a, .none, .ref S], []⟩) R s := by
  have hname : (toString "max" ++ toString ".loop" : String) = "max.loop" := by decide
  intro k
  induction k with
  | zero =>
    intro j s v t c hk hv hle hS h
    have hj : j = ns.length := by have := h.2.2.1; simp at this; omega
    refine codeAny_builtin F.entry_max_loop ?_
    rw [Around.under_plainId F.plain_max_loop _]
    show wpAny _ A.in1 (seqItems? (.ref S) >>= _) _ _ s
    refine wpAny_bind (wpAny_seqItems hS rfl ?_)
    show wpAny _ A.in1 (tryCatch (pyNext (.ref a)) _ >>= _) _ _ s
    refine wpAny_bind (wpAny_tryCatch (src_next (A := A.in1) hh hd h ?_ ?_))
    · intro v y s' e1
      have := (List.getElem?_eq_some_iff.mp e1).1
      simp at this
      omega
    · intro s' _ m keep
      have hS' := keep S (by simp) _ hS
      show wpAny _ A.in1 (updateSeq S (fun _ => #[]) >>= _) _ _ _
      refine wpAny_bind ?_
      refine wpAny_updateSeq hS' rfl (wpAny_bind (wpAny_letGo (wpAny_pure ?_)))
      rw [hj, List.take_length] at hv hle
      exact hend _ v t _ (m.at (by simp) (fun b o hb e => (Heap.get?_update_other _ _ (Ne.symm hb)).trans e) ⟨_, Heap.get?_update_self _ hS' rfl⟩) (Heap.get?_update_self _ hS' rfl) hv hle
  | succ k ih =>
    intro j s v t c hk hv hle hS h
    have hlt : j < ns.length := by omega
    have tk : ns.take (j + 1) = ns.take j ++ [ns[j]] := by rw [List.take_succ, List.getElem?_eq_getElem hlt]; rfl
    refine codeAny_builtin F.entry_max_loop ?_
    rw [Around.under_plainId F.plain_max_loop _]
    show wpAny _ A.in1 (seqItems? (.ref S) >>= _) _ _ s
    refine wpAny_bind (wpAny_seqItems hS rfl ?_)
    show wpAny _ A.in1 (tryCatch (pyNext (.ref a)) _ >>= _) _ _ s
    refine wpAny_bind (wpAny_tryCatch (src_next (A := A.in1) hh hd h ?_ ?_))
    · intro vv y s' e1 r m keep go g1 g2
      rw [List.getElem?_map, List.getElem?_eq_getElem hlt] at e1
      cases e1
      obtain ⟨t2, rfl⟩ := (show ∃ t2, vv = Value.int (ns[j]) t2 from r)
      have hS' := keep S (by simp) _ hS
      have hcmp : CmpOf P w A.in1 .Gt (fun i x => ∃ t', x = Value.int (if i = 0 then ns[j] else v) t') _ := CmpOf.ints_gt (fun i => if i = 0 then ns[j] else v) (fun i v h => h)
      show wpAny _ A.in1 (tryCatch (holding [Value.int (ns[j]) t2, Value.int (ns[j]) t2] (richCompare .Gt (Value.int (ns[j]) t2) (Value.int v t) >>= _)) _ >>= _) _ _ _
      refine wpAny_bind (wpAny_tryCatch (wpAny_holding (wpAny_bind (hcmp 0 1 _ _ _ _ _ ⟨t2, rfl⟩ ⟨t, rfl⟩ ?_))))
      refine wpAny_bind (wpAny_holding (wpAny_truthy_bool ?_))
      refine wpAny_bind (wpAny_letGo (wpAny_pure ?_))
      simp only [if_true, Nat.one_ne_zero, if_false]
      have self : ∀ (o : Obj) (h' : Heap), (∀ v, o.data ≠ .cell v) → h'.get? S = some o → (∀ b o, b ≠ S → s'.heap.get? b = some o → h'.get? b = some o) → Wrk [S] s' { s' with heap := h' } := fun o h' nc e kp =>
        ⟨rfl, m.2.1, fun b o hb e => kp b o (fun z => hb (by rw [z]; exact List.mem_singleton.mpr rfl)) e, [(S, o)], rfl, fun p hp => by rw [List.mem_singleton.mp hp]; exact ⟨e, nc⟩⟩
      by_cases hb : v < ns[j]
      · have hb' : decide (v < ns[j]) = true := decide_eq_true hb
        rw [hb']
        simp only [if_true]
        refine wpAny_bind ?_
        refine wpAny_updateSeq hS' rfl (wpAny_bind (wpAny_letGo ?_))
        rw [hname]
        have oth : ∀ b o, b ≠ S → s'.heap.get? b = some o → (s'.heap.update S (Obj.mapSeq fun _ => #[Value.int (ns[j]) t2, Value.int (ns[j]) t2])).get? b = some o := fun b o hb e => (Heap.get?_update_other _ _ (Ne.symm hb)).trans e
        have neS : S ≠ a := by
          intro z
          obtain ⟨o, _, _, eo, ec, _⟩ := g1
          rw [z] at hS'
          rw [hS'] at eo
          cases eo
          injection (show Value.type "list" = Value.type "generator" from ec) with e2
          exact absurd e2 (by decide)
        have neC : S ≠ cStatics := by
          intro z
          obtain ⟨_, ⟨o, _, _, eo, ed, _⟩, _⟩ := g2
          rw [z] at hS'
          rw [hS'] at eo
          cases eo
          cases ed
        refine wpAny_pure ⟨plainId_quiet F.plain_max_loop _, ih (j + 1) _ (ns[j]) t2 _ (by omega) (by rw [tk]; exact List.mem_append_right _ List.mem_cons_self) ?_ (Heap.get?_update_self _ hS' rfl)
          (go _ (self _ _ (fun v q => by cases q) (Heap.get?_update_self _ hS' rfl) oth) rfl ?_ ?_)⟩
        · intro y hy
          rw [tk] at hy
          rcases List.mem_append.mp hy with z | z
          · have := hle y z; omega
          · have := List.mem_singleton.mp z; omega
        · obtain ⟨o, nm, qn, eo, r⟩ := g1
          exact ⟨o, nm, qn, oth _ _ (Ne.symm neS) eo, r⟩
        · obtain ⟨mc, hns, hnn⟩ := g2
          exact ⟨mc, hns.at' fun o e => oth _ o (Ne.symm neC) e, hnn⟩
      · have hb' : decide (v < ns[j]) = false := decide_eq_false hb
        rw [hb']
        simp only [Bool.false_eq_true, if_false]
        refine wpAny_bind (wpAny_letGo ?_)
        rw [hname]
        refine wpAny_pure ⟨plainId_quiet F.plain_max_loop _, ih (j + 1) _ v t c (by omega) (by rw [tk]; exact List.mem_append_left _ hv) ?_ hS' (go s' (self _ _ (fun v q => by cases q) hS' fun _ _ _ e => e) rfl g1 g2)⟩
        intro y hy
        rw [tk] at hy
        rcases List.mem_append.mp hy with z | z
        · exact hle y z
        · have := List.mem_singleton.mp z; omega
    · intro s' e
      simp at e
      omega
/-- max(..), from the beginning -/
theorem max_firstG {ns : List Int} {S : Addr} (hh : A.handled = none) (hd : A.depth < recursionLimit) (hpos : 0 < ns.length)
    (hend : ∀ (s' : Shared) (v : Int) (t : Tok) (c : Nat), Mid P w outer H1 sc ex [S] cont s' → s'.heap.get? S = some (lstObj #[] c) → v ∈ ns → (∀ y ∈ ns, y ≤ v) → R (.ok (.ret (.int v t))) s') {s : Shared} {c : Nat} (tk0 : Nat)
    (hS : s.heap.get? S = some (lstObj #[] c)) (h : Src P w outer H1 sc ex [S] a g (ns.map V.int) out cont A.in1 0 s) : codeAny (model P w) A (.builtin "max.loop" ⟨[.ref a, .none, .ref S], []⟩) R s := by
  have hname : (toString "max" ++ toString ".loop" : String) = "max.loop" := by decide
  refine codeAny_builtin F.entry_max_loop ?_
  rw [Around.under_plainId F.plain_max_loop _]
  show wpAny _ A.in1 (seqItems? (.ref S) >>= _) _ _ s
  refine wpAny_bind (wpAny_seqItems hS rfl ?_)
  show wpAny _ A.in1 (tryCatch (pyNext (.ref a)) _ >>= _) _ _ s
  refine wpAny_bind (wpAny_tryCatch (src_next (A := A.in1) hh hd h ?_ ?_))
  · intro vv y s' e1 r m keep go g1 g2
    rw [List.getElem?_map, List.getElem?_eq_getElem hpos] at e1
    cases e1
    obtain ⟨t2, rfl⟩ := (show ∃ t2, vv = Value.int (ns[0]) t2 from r)
    have hS' := keep S (by simp) _ hS
    show wpAny _ A.in1 (updateSeq S (fun _ => #[Value.int (ns[0]) t2, Value.int (ns[0]) t2]) >>= _) _ _ _
    refine wpAny_bind ?_
    refine wpAny_updateSeq hS' rfl ?_
    rw [hname]
    have oth : ∀ b o, b ≠ S → s'.heap.get? b = some o → (s'.heap.update S (Obj.mapSeq fun _ => #[Value.int (ns[0]) t2, Value.int (ns[0]) t2])).get? b = some o := fun b o hb e => (Heap.get?_update_other _ _ (Ne.symm hb)).trans e
    have neS : S ≠ a := by
      intro z
      obtain ⟨o, _, _, eo, ec, _⟩ := g1
      rw [z] at hS'
      rw [hS'] at eo
      cases eo
      injection (show Value.type "list" = Value.type "generator" from ec) with e2
      exact absurd e2 (by decide)
    have neC : S ≠ cStatics := by
      intro z
      obtain ⟨_, ⟨o, _, _, eo, ed, _⟩, _⟩ := g2
      rw [z] at hS'
      rw [hS'] at eo
      cases eo
      cases ed
    have tk : ns.take 1 = [ns[0]] := by
      have := List.take_succ (l := ns) (i := 0)
      rw [List.getElem?_eq_getElem hpos] at this
      simpa using this
    refine wpAny_pure ⟨plainId_quiet F.plain_max_loop _, max_loopG hh hd hend (ns.length - 1) 1 _ (ns[0]) t2 _ rfl (by rw [tk]; exact List.mem_cons_self) (fun y hy => by rw [tk] at hy; have := List.mem_singleton.mp hy; omega) (Heap.get?_update_self _ hS' rfl)
      (go _ ⟨rfl, m.2.1, fun b o hb e => oth b o (fun z => hb (by rw [z]; exact List.mem_singleton.mpr rfl)) e, [(S, _)], rfl, fun p hp => by rw [List.mem_singleton.mp hp]; exact ⟨Heap.get?_update_self _ hS' rfl, fun v q => by cases q⟩⟩ rfl ?_ ?_)⟩
    · obtain ⟨o, nm, qn, eo, r⟩ := g1
      exact ⟨o, nm, qn, oth _ _ (Ne.symm neS) eo, r⟩
    · obtain ⟨mc, hns, hnn⟩ := g2
      exact ⟨mc, hns.at' fun o e => oth _ o (Ne.symm neC) e, hnn⟩
  · intro s' e
    simp at e
    omega
end

/-- min(g), g hands out the ints ns -/
def tMinG (tg : TGN) : TE := fun σ H Q => tg σ H fun ys out cont => ∃ ns : List Int, ys = ns.map V.int ∧ 0 < ns.length ∧ ∀ H' v, cont H' → v ∈ ns → (∀ y ∈ ns, v ≤ y) → Q (.int v) H'
theorem pe_minG {X : Cx} {k : Nat} {p pos : Pos} {e : Expr} {tg : TGN} (h : PGN X k e tg) (hr : Room (k + 4) X.A) (hg : Gl X "min") (hmg : X.mg "min" = none)
    (he : starEach [e] X.env = (false, eval e X.env) :: starEach [] X.env := by rfl) : PE X (.Call (.Name "min" p) [e] [] pos) (tMinG tg) := by
  refine ⟨fun pins s σ H Q I hq => ?_⟩
  refine wpAny_Call_Name_kw (ld_blt I hg hmg (by decide +kernel : bootBuiltins "min" = some (.builtin "min")) ?_ (by decide) (by decide))
  refine PyProof.Rows.callWith_builtin1 ?_ he rfl
  rw [he]
  show wpAny _ _ (spliced ((false, eval e X.env) :: backTo pos (starEach [] X.env))) _ _ s
  refine Calls.spliced_cons (thn (h.run pins s σ H _ I hq) ?_)
  rintro u s1 ⟨H1, sc, ex, ys, out, cont, I1, hex, hG, ns, rfl, hpos, q⟩
  refine Calls.spliced_nil ?_
  have hsc : sc.heap.objs.size ≤ s1.heap.objs.size := let ⟨_, _, _, _, h1, h2, _⟩ := hG; Nat.le_trans h1 (Nat.le_of_lt h2)
  have hname : (toString "min" ++ toString ".loop" : String) = "min.loop" := by decide
  have new0 : (s1.heap.push { cls := .type "list", data := .seq ([] : List Value).toArray }).get? s1.heap.objs.size = some (lstObj #[] 0) := Heap.get?_push_size _ rfl
  obtain ⟨a, g, rfl, gen1, S0⟩ := src_of (A := X.A.in1) (ps := [(s1.heap.objs.size, lstObj #[] 0)]) (s2 := { s1 with heap := s1.heap.push { cls := .type "list", data := .seq ([] : List Value).toArray } }) (a := 0) hG ((Room.in1 (Room.in1 (hr.mono (by omega) : Room (k + 2) X.A)))) I1.ok.frames
    (fun p hp => by rw [List.mem_singleton.mp hp]; exact Nat.le_refl _) (fun _ _ e => Heap.get?_push_of_some _ e) (fun p hp => by rw [List.mem_singleton.mp hp]; exact ⟨new0, fun v q => by cases q⟩) rfl rfl
  refine call_function_tree F.kind_min F.plain_min F.entry_min (F.args_min1 _) ?_
  show wpAny _ X.A.in1 (Builtin.Builtins.bindParams "min" ["key", "default"] 0 ⟨[], []⟩ >>= _) _ _ s1
  refine wpAny_bind (wpAny_of_eq (show Builtin.Builtins.bindParams "min" ["key", "default"] 0 ⟨[], []⟩ = pure [none, none] from rfl) ?_)
  refine wpAny_bind (wpAny_pure ?_)
  refine wpAny_bind (wpAny_pyIter_gen gen1 ?_)
  refine wpAny_bind (wpAny_newObj_type ?_)
  rw [hname]
  refine wpAny_pure ⟨plainId_quiet F.plain_min_loop _, min_firstG (A := X.A) hr.hd (by have := hr.dp; show X.A.depth < _; omega) hpos ?_ s1.toks new0 S0⟩
  intro s' v t c m e hv hle
  obtain ⟨H', I', c'⟩ := mid_inv I1 hex m
  exact ⟨.int v, H', I', ⟨t, rfl⟩, q H' v c' hv hle⟩

/-- max(g), g hands out the ints ns -/
def tMaxG (tg : TGN) : TE := fun σ H Q => tg σ H fun ys out cont => ∃ ns : List Int, ys = ns.map V.int ∧ 0 < ns.length ∧ ∀ H' v, cont H' → v ∈ ns → (∀ y ∈ ns, y ≤ v) → Q (.int v) H'
theorem pe_maxG {X : Cx} {k : Nat} {p pos : Pos} {e : Expr} {tg : TGN} (h : PGN X k e tg) (hr : Room (k + 4) X.A) (hg : Gl X "max") (hmg : X.mg "max" = none)
    (he : starEach [e] X.env = (false, eval e X.env) :: starEach [] X.env := by rfl) : PE X (.Call (.Name "max" p) [e] [] pos) (tMaxG tg) := by
  refine ⟨fun pins s σ H Q I hq => ?_⟩
  refine wpAny_Call_Name_kw (ld_blt I hg hmg (by decide +kernel : bootBuiltins "max" = some (.builtin "max")) ?_ (by decide) (by decide))
  refine PyProof.Rows.callWith_builtin1 ?_ he rfl
  rw [he]
  show wpAny _ _ (spliced ((false, eval e X.env) :: backTo pos (starEach [] X.env))) _ _ s
  refine Calls.spliced_cons (thn (h.run pins s σ H _ I hq) ?_)
  rintro u s1 ⟨H1, sc, ex, ys, out, cont, I1, hex, hG, ns, rfl, hpos, q⟩
  refine Calls.spliced_nil ?_
  have hsc : sc.heap.objs.size ≤ s1.heap.objs.size := let ⟨_, _, _, _, h1, h2, _⟩ := hG; Nat.le_trans h1 (Nat.le_of_lt h2)
  have hname : (toString "max" ++ toString ".loop" : String) = "max.loop" := by decide
  have new0 : (s1.heap.push { cls := .type "list", data := .seq ([] : List Value).toArray }).get? s1.heap.objs.size = some (lstObj #[] 0) := Heap.get?_push_size _ rfl
  obtain ⟨a, g, rfl, gen1, S0⟩ := src_of (A := X.A.in1) (ps := [(s1.heap.objs.size, lstObj #[] 0)]) (s2 := { s1 with heap := s1.heap.push { cls := .type "list", data := .seq ([] : List Value).toArray } }) (a := 0) hG ((Room.in1 (Room.in1 (hr.mono (by omega) : Room (k + 2) X.A)))) I1.ok.frames
    (fun p hp => by rw [List.mem_singleton.mp hp]; exact Nat.le_refl _) (fun _ _ e => Heap.get?_push_of_some _ e) (fun p hp => by rw [List.mem_singleton.mp hp]; exact ⟨new0, fun v q => by cases q⟩) rfl rfl
  refine call_function_tree F.kind_max F.plain_max F.entry_max (F.args_max1 _) ?_
  show wpAny _ X.A.in1 (Builtin.Builtins.bindParams "max" ["key", "default"] 0 ⟨[], []⟩ >>= _) _ _ s1
  refine wpAny_bind (wpAny_of_eq (show Builtin.Builtins.bindParams "max" ["key", "default"] 0 ⟨[], []⟩ = pure [none, none] from rfl) ?_)
  refine wpAny_bind (wpAny_pure ?_)
  refine wpAny_bind (wpAny_pyIter_gen gen1 ?_)
  refine wpAny_bind (wpAny_newObj_type ?_)
  rw [hname]
  refine wpAny_pure ⟨plainId_quiet F.plain_max_loop _, max_firstG (A := X.A) hr.hd (by have := hr.dp; show X.A.depth < _; omega) hpos ?_ s1.toks new0 S0⟩
  intro s' v t c m e hv hle
  obtain ⟨H', I', c'⟩ := mid_inv I1 hex m
  exact ⟨.int v, H', I', ⟨t, rfl⟩, q H' v c' hv hle⟩
end Y

set_option Elab.async false
set_option linter.all false
set_option maxRecDepth 100000
set_option maxHeartbeats 4000000
namespace Y
open PySem PySem.Spec L2 LamX
open PyProof.Rows (AllBare)
theorem sum_take {ns : List Int} {j : Nat} (h : j < ns.length) : (ns.take (j + 1)).sum = (ns.take j).sum + ns[j] := by
  rw [List.take_succ, List.getElem?_eq_getElem h, List.sum_append]; simp
section
variable {P : Program} {w : World} {outer : List Env} {H1 : Hp} {sc s : Shared} {ex : List Addr} {a : Addr} {g : Nat} {out : Nat → Hp → Prop} {cont : Hp → Prop} {R : Result → Shared → Prop} {A : Around}
/-- sum(..): the sum so far stands in the list at S -/
theorem sum_loopG {ns : List Int} {S : Addr} (hh : A.handled = none) (hd : A.depth < recursionLimit)
    (hend : ∀ (s' : Shared) (t : Tok), Mid P w outer H1 sc ex [S] cont s' → R (.ok (.ret (.int ns.sum t))) s') :
    ∀ (k j : Nat) (s : Shared) (v : Int) (t : Tok) (c : Nat) (st : Int), (st = 0 ∨ st = 2) → ns.length - j = k → v = (ns.take j).sum → s.heap.get? S = some (lstObj #[.int v t] c) →
      Src P w outer H1 sc ex [S] a g (ns.map V.int) out cont A.in1 j s → codeAny (model P w) A (.builtin "sum.loop" ⟨[.ref a, .ref S, rawInt st, rawInt 0], []⟩) R s := by
  intro k
  induction k with
  | zero =>
    intro j s v t c st hst hk hv hS h
    have hj : j = ns.length := by have := h.2.2.1; simp at this; omega
    refine codeAny_builtin F.entry_sum_loop ?_
    rw [Around.under_plainId F.plain_sum_loop _]
    show wpAny _ A.in1 (seqItems? (.ref S) >>= _) _ _ s
    refine wpAny_bind (wpAny_seqItems hS rfl ?_)
    show wpAny _ A.in1 (tryCatch (pyNext (.ref a)) _ >>= _) _ _ s
    refine wpAny_bind (wpAny_tryCatch (src_next (A := A.in1) hh hd h ?_ ?_))
    · intro v y s' e1
      have := (List.getElem?_eq_some_iff.mp e1).1
      simp at this
      omega
    · intro s' _ m keep
      rw [hj, List.take_length] at hv
      subst hv
      exact wpAny_pure (hend _ t m)
  | succ k ih =>
    intro j s v t c st hst hk hv hS h
    have hlt : j < ns.length := by omega
    refine codeAny_builtin F.entry_sum_loop ?_
    rw [Around.under_plainId F.plain_sum_loop _]
    show wpAny _ A.in1 (seqItems? (.ref S) >>= _) _ _ s
    refine wpAny_bind (wpAny_seqItems hS rfl ?_)
    show wpAny _ A.in1 (tryCatch (pyNext (.ref a)) _ >>= _) _ _ s
    refine wpAny_bind (wpAny_tryCatch (src_next (A := A.in1) hh hd h ?_ ?_))
    · intro vv y s' e1 r m keep go g1 g2
      rw [List.getElem?_map, List.getElem?_eq_getElem hlt] at e1
      cases e1
      obtain ⟨t2, rfl⟩ := (show ∃ t2, vv = Value.int (ns[j]) t2 from r)
      have hS' := keep S (by simp) _ hS
      have hv2 : v + ns[j] = (ns.take (j + 1)).sum := by rw [sum_take hlt, hv]
      have neS : S ≠ a := by
        intro z
        obtain ⟨o, _, _, eo, ec, _⟩ := g1
        rw [z] at hS'
        rw [hS'] at eo
        cases eo
        injection (show Value.type "list" = Value.type "generator" from ec) with e2
        exact absurd e2 (by decide)
      have neC : S ≠ cStatics := by
        intro z
        obtain ⟨_, ⟨o, _, _, eo, ed, _⟩, _⟩ := g2
        rw [z] at hS'
        rw [hS'] at eo
        cases eo
        cases ed
      have fin : ∀ (s2 : Shared) (t3 : Tok) (c2 : Nat) (st2 : Int), (st2 = 0 ∨ st2 = 2) → s2.heap.get? S = some (lstObj #[.int (v + ns[j]) t3] c2) → (∀ b o, b ≠ S → s'.heap.get? b = some o → s2.heap.get? b = some o) → s2.gens = s'.gens → s'.toks ≤ s2.toks → { s2 with heap := s'.heap, toks := s'.toks } = s' →
          codeAny (model P w) A (.builtin "sum.loop" ⟨[.ref a, .ref S, rawInt st2, rawInt 0], []⟩) R s2 := by
        intro s2 t3 c2 st2 h2 e kp eg et es
        refine ih (j + 1) s2 _ t3 c2 st2 h2 (by omega) hv2 e (go _ ⟨?_, ?_, fun b o hb e => kp b o (fun z => hb (by rw [z]; exact List.mem_singleton.mpr rfl)) e, [(S, _)], rfl, fun p hp => by rw [List.mem_singleton.mp hp]; exact ⟨e, fun v q => by cases q⟩⟩ eg ?_ ?_)
        · cases s2; cases s'; simp_all
        · rw [eg]; exact m.2.1
        · obtain ⟨o, nm, qn, eo, r⟩ := g1
          exact ⟨o, nm, qn, kp _ _ (Ne.symm neS) eo, r⟩
        · obtain ⟨mc, hns, hnn⟩ := g2
          exact ⟨mc, hns.at' fun o e => kp _ o (Ne.symm neC) e, hnn⟩
      have oth : ∀ (h : Heap) (f : Array Value → Array Value) b o, b ≠ S → h.get? b = some o → (h.update S (Obj.mapSeq f)).get? b = some o := fun h f b o hb e => (Heap.get?_update_other _ _ (Ne.symm hb)).trans e
      rcases hst with rfl | rfl
      · show wpAny _ A.in1 (if (_ : Bool) = true then (mkInt (v + ns[j]) >>= _) else _) _ _ _
        split
        · refine wpAny_bind (wpAny_mkInt ?_)
          show wpAny _ A.in1 (updateSeq S (fun _ => #[.int (v + ns[j]) s'.toks]) >>= _) _ _ _
          refine wpAny_bind ?_
          refine wpAny_updateSeq hS' rfl (wpAny_pure ⟨plainId_quiet F.plain_sum_loop _, fin _ s'.toks _ 0 (.inl rfl) (Heap.get?_update_self _ hS' rfl) (fun b o hb e => oth _ _ b o hb e) rfl (by first | exact Nat.le_succ _ | exact Nat.le_refl _) rfl⟩)
        · refine wpAny_bind (wpAny_rule ?_)
          refine wpAny_bind (wpAny_attempt (wpAny_holding (wpAny_add_int ?_)))
          show wpAny _ A.in1 (updateSeq S (fun _ => #[.int (v + ns[j]) s'.toks]) >>= _) _ _ _
          refine wpAny_bind (wpAny_updateSeq hS' rfl ?_)
          have hS2 := Heap.get?_update_self (Obj.mapSeq fun _ => #[Value.int (v + ns[j]) s'.toks]) hS' rfl
          refine wpAny_bind (wpAny_letGo ?_)
          refine wpAny_bind (wpAny_updateSeq hS2 rfl (wpAny_pure ⟨plainId_quiet F.plain_sum_loop _, fin _ s'.toks _ 2 (.inr rfl) (Heap.get?_update_self _ hS2 rfl) (fun b o hb e => oth _ _ b o hb (oth _ _ b o hb e)) rfl (by first | exact Nat.le_succ _ | exact Nat.le_refl _) rfl⟩))
      · show wpAny _ A.in1 ((holding [Value.int (ns[j]) t2] (binaryOp .Add (.int v t) (.int (ns[j]) t2))).attempt >>= _) _ _ _
        refine wpAny_bind (wpAny_attempt (wpAny_holding (wpAny_add_int ?_)))
        show wpAny _ A.in1 (updateSeq S (fun _ => #[.int (v + ns[j]) s'.toks]) >>= _) _ _ _
        refine wpAny_bind (wpAny_updateSeq hS' rfl ?_)
        have hS2 := Heap.get?_update_self (Obj.mapSeq fun _ => #[Value.int (v + ns[j]) s'.toks]) hS' rfl
        refine wpAny_bind (wpAny_letGo ?_)
        refine wpAny_bind (wpAny_updateSeq hS2 rfl (wpAny_pure ⟨plainId_quiet F.plain_sum_loop _, fin _ s'.toks _ 2 (.inr rfl) (Heap.get?_update_self _ hS2 rfl) (fun b o hb e => oth _ _ b o hb (oth _ _ b o hb e)) rfl (by first | exact Nat.le_succ _ | exact Nat.le_refl _) rfl⟩))
    · intro s' e
      simp at e
      omega
end
/-- sum(g), g hands out the ints ns -/
def tSumG (tg : TGN) : TE := fun σ H Q => tg σ H fun ys out cont => ∃ ns : List Int, ys = ns.map V.int ∧ ∀ H', cont H' → Q (.int ns.sum) H'
theorem pe_sumG {X : Cx} {k : Nat} {p pos : Pos} {e : Expr} {tg : TGN} (h : PGN X k e tg) (hr : Room (k + 4) X.A) (hg : Gl X "sum") (hmg : X.mg "sum" = none)
    (he : starEach [e] X.env = (false, eval e X.env) :: starEach [] X.env := by rfl) : PE X (.Call (.Name "sum" p) [e] [] pos) (tSumG tg) := by
  refine ⟨fun pins s σ H Q I hq => ?_⟩
  refine wpAny_Call_Name_kw (ld_blt I hg hmg (by decide +kernel : bootBuiltins "sum" = some (.builtin "sum")) ?_ (by decide) (by decide))
  refine PyProof.Rows.callWith_builtin1 ?_ he rfl
  rw [he]
  show wpAny _ _ (spliced ((false, eval e X.env) :: backTo pos (starEach [] X.env))) _ _ s
  refine Calls.spliced_cons (thn (h.run pins s σ H _ I hq) ?_)
  rintro u s1 ⟨H1, sc, ex, ys, out, cont, I1, hex, hG, ns, rfl, q⟩
  refine Calls.spliced_nil ?_
  have hsc : sc.heap.objs.size ≤ s1.heap.objs.size := let ⟨_, _, _, _, h1, h2, _⟩ := hG; Nat.le_trans h1 (Nat.le_of_lt h2)
  have new0 : (s1.heap.push { cls := .type "list", data := .seq ([.int 0 s1.toks] : List Value).toArray }).get? s1.heap.objs.size = some (lstObj #[.int 0 s1.toks] 0) := Heap.get?_push_size _ rfl
  obtain ⟨a, g, rfl, gen1, S0⟩ := src_of (A := X.A.in1) (ps := [(s1.heap.objs.size, lstObj #[.int 0 s1.toks] 0)]) (s2 := { s1 with heap := s1.heap.push { cls := .type "list", data := .seq ([.int 0 s1.toks] : List Value).toArray }, toks := s1.toks + 1 }) (a := 0) hG ((Room.in1 (Room.in1 (hr.mono (by omega) : Room (k + 2) X.A)))) I1.ok.frames
    (fun p hp => by rw [List.mem_singleton.mp hp]; exact Nat.le_refl _) (fun _ _ e => Heap.get?_push_of_some _ e) (fun p hp => by rw [List.mem_singleton.mp hp]; exact ⟨new0, fun v q => by cases q⟩) rfl rfl
  refine call_function_tree F.kind_sum F.plain_sum F.entry_sum (F.args_sum1 _) ?_
  unfold Builtin.«sum»
  simp only [List.length_cons, List.length_nil]
  rw [if_neg (by decide)]
  refine wpAny_bind (wpAny_of_eq (show Builtin.Builtins.bindParams "sum" ["start"] 0 { } = pure [none] from rfl) ?_)
  refine wpAny_bind (wpAny_pyIter_gen gen1 ?_)
  refine wpAny_bind (wpAny_mkInt ?_)
  refine wpAny_bind (wpAny_pure ?_)
  simp only [List.forIn_cons, List.forIn_nil]
  refine wpAny_bind (wpAny_bind (wpAny_bind (wpAny_isInstance (T := "int") (b := false) (typeIs_int _ _ _) sub_int_str ?_)))
  simp only [Bool.false_eq_true, if_false]
  refine wpAny_pure (wpAny_bind (wpAny_bind (wpAny_isInstance (T := "int") (b := false) (typeIs_int _ _ _) sub_int_bytes ?_)))
  simp only [Bool.false_eq_true, if_false]
  refine wpAny_pure (wpAny_bind (wpAny_bind (wpAny_isInstance (T := "int") (b := false) (typeIs_int _ _ _) sub_int_bytearray ?_)))
  simp only [Bool.false_eq_true, if_false]
  refine wpAny_pure (wpAny_pure ?_)
  refine wpAny_bind (wpAny_newObj_type ?_)
  refine wpAny_pure ⟨plainId_quiet F.plain_sum_loop _, sum_loopG (A := X.A) hr.hd (by have := hr.dp; show X.A.depth < _; omega) ?_ ns.length 0 _ 0 s1.toks _ 0 (.inl rfl) (by omega) (by simp) new0 S0⟩
  intro s' t m
  obtain ⟨H', I', c'⟩ := mid_inv I1 hex m
  exact ⟨.int _, H', I', ⟨t, rfl⟩, q H' c'⟩
end Y

set_option Elab.async false
set_option linter.all false
set_option maxRecDepth 100000
set_option maxHeartbeats 4000000
/-! own layer: what may change in a heap; rules by values; small wrappers -/
namespace Y
open PySem PySem.Spec L2 LamX
abbrev FS := List (Str × V)

/-! ### what changes -/
def isTbl : HO → Bool
  | .tbl _ => true
  | _ => false
theorem isTbl_ne {o : HO} (h : isTbl o = false) : ∀ ps, o ≠ .tbl ps := fun ps e => by rw [e] at h; cases h
/-- all but S (and tables) stays; nothing goes -/
structure Chg (T : List (Addr × Str)) (S : Addr → Prop) (H H' : Hp) : Prop where
  keep : ∀ b o, H b = some o → ¬ S b → (∀ ps, o ≠ .tbl ps) → H' b = some o
  dom : ∀ b, H' b = none → H b = none
  tabs : Tabs T H → Tabs T H'
def nil : Addr → Prop := fun _ => False
section
variable {T : List (Addr × Str)} {S S' : Addr → Prop} {H H1 H2 H' : Hp} {a b l p : Addr} {o u : HO}
theorem Chg.look (c : Chg T S H H') (h : H b = some o) (n : ¬ S b) (nt : isTbl o = false) : H' b = some o := c.keep b o h n (isTbl_ne nt)
theorem Chg.refl (H : Hp) : Chg T S H H := ⟨fun _ _ h _ _ => h, fun _ h => h, fun h => h⟩
theorem Chg.trans (c : Chg T S H H1) (d : Chg T S' H1 H2) (s : ∀ b, S' b → S b ∨ H b = none) : Chg T S H H2 :=
  ⟨fun b o h n nt => d.keep b o (c.keep b o h n nt) (fun z => (s b z).elim n fun e => by rw [e] at h; cases h) nt, fun b h => c.dom b (d.dom b h), fun h => d.tabs (c.tabs h)⟩
theorem Chg.mono (c : Chg T S H H') (s : ∀ b, S b → S' b ∨ H b = none) : Chg T S' H H' :=
  ⟨fun b o h n nt => c.keep b o h (fun z => (s b z).elim n fun e => by rw [e] at h; cases h) nt, c.dom, c.tabs⟩
theorem Chg.any (c : Chg T nil H H') : Chg T S H H' := c.mono fun _ h => h.elim
theorem Chg.ofGrows (g : Grows T H H') : Chg T S H H' := ⟨fun b o h _ nt => g.ext b o h nt, g.dom, fun _ => g.tabs⟩
theorem Chg.seqL {K : PySem.W.Frag} {xs : List V} (c : Chg T S H H') (h : SqL K H a xs) (n : ¬ S a) : SqL K H' a xs := by
  rcases h with (h | ⟨ob, h⟩) | h
  · exact .inl (.inl (c.look h n rfl))
  · exact .inl (.inr ⟨ob, c.look h n rfl⟩)
  · exact .inr h

/-- something new at p -/
structure Nw (H : Hp) (p : Addr) (o : HO) (H' : Hp) : Prop where
  eq : H' = upd H p o
  new : H p = none
theorem Nw.at (n : Nw H p o H') : H' p = some o := by rw [n.eq]; exact upd_same
theorem Nw.look (n : Nw H p o H') (h : H b = some u) : H' b = some u := by rw [n.eq, upd_ne (ne_of_none h n.new)]; exact h
theorem Nw.dom (n : Nw H p o H') (h : H' b = none) : H b = none := by
  rw [n.eq] at h
  by_cases e : b = p
  · rw [e]; exact n.new
  · rwa [upd_ne e] at h
theorem Nw.chg (n : Nw H p o H') : Chg T S H H' := ⟨fun _ _ h _ _ => n.look h, fun _ h => n.dom h, fun h => h.ext fun _ _ e => n.look e⟩
theorem Nw.ne (n : Nw H p o H') (h : H b = some u) : b ≠ p := ne_of_none h n.new
/-- what stood at l is another thing -/
structure Wr (H : Hp) (l : Addr) (o : HO) (H' : Hp) : Prop where
  eq : H' = upd H l o
  old : ∃ u, H l = some u ∧ isTbl u = false ∧ ∀ φ, u ≠ .ext φ
theorem Wr.at (n : Wr H l o H') : H' l = some o := by rw [n.eq]; exact upd_same
theorem Wr.look (n : Wr H l o H') (h : H b = some u) (d : b ≠ l) : H' b = some u := by rw [n.eq, upd_ne d]; exact h
theorem Wr.dom (n : Wr H l o H') (h : H' b = none) : H b = none := by
  rw [n.eq] at h
  by_cases e : b = l
  · rw [e, upd_same] at h; cases h
  · rwa [upd_ne e] at h
theorem Wr.chg (n : Wr H l o H') (s : S l) : Chg T S H H' := by
  obtain ⟨u, e, t, x⟩ := n.old
  refine ⟨fun b o h m _ => n.look h fun z => m (z ▸ s), fun _ h => n.dom h, fun h p hp => ?_⟩
  obtain ⟨ps, h1, h2, h3⟩ := h p hp
  refine ⟨ps, n.look h1 fun z => ?_, h2, fun pos cv hc => ?_⟩
  · rw [z, e] at h1
    exact isTbl_ne t ps (Option.some.inj h1)
  · obtain ⟨c, e1, e2⟩ := h3 pos cv hc
    refine ⟨c, e1, n.look e2 fun z => ?_⟩
    rw [z, e] at e2
    exact x _ (Option.some.inj e2)
theorem nw_all {Q : Addr → Hp → Prop} (h : ∀ p H', Nw H p o H' → Q p H') : ∀ p, H p = none → Q p (upd H p o) := fun p hp => h p _ ⟨rfl, hp⟩
theorem wr_all {Q : Hp → Prop} (ho : H l = some u) (t : isTbl u = false) (x : ∀ φ, u ≠ .ext φ) (h : ∀ H', Wr H l o H' → Q H') : Q (upd H l o) := h _ ⟨rfl, u, ho, t, x⟩
end

/-! ### readings made weaker -/
def up (t : TE) : TE := fun σ H Q => ∃ Q0 : VK, t σ H Q0 ∧ ∀ v H', Q0 v H' → Q v H'
def upA (t : TA) : TA := fun σ H Q => ∃ Q0 : List V → Hp → Prop, t σ H Q0 ∧ ∀ v H', Q0 v H' → Q v H'
section
variable {X : Cx} {e : Expr} {es : List Expr} {t t' : TE} {ta : TA} {st : Stmt} {ts ts' : TS}
theorem peU (h : PE X e t) : PE X e (up t) := ⟨fun pins s σ H Q I ⟨Q0, a, b⟩ => thn (h.run pins s σ H Q0 I a) fun u s' ⟨v, H', J, r, q⟩ => ⟨v, H', J, r, b v H' q⟩⟩
theorem paU (h : PA X es ta) : PA X es (upA ta) := ⟨fun pos pins s σ H Q I ⟨Q0, a, b⟩ => thn (h.run pos pins s σ H Q0 I a) fun u s' ⟨v, H', J, r, q⟩ => ⟨v, H', J, r, b v H' q⟩⟩
theorem peI (h : PE X e t) (i : ∀ σ H Q, t' σ H Q → t σ H Q) : PE X e t' := ⟨fun pins s σ H Q I q => h.run pins s σ H Q I (i σ H Q q)⟩
theorem psI (h : PS X st ts) (i : ∀ D σ H, ts' D σ H → ts D σ H) : PS X st ts' := ⟨fun pins s σ H D I q => h.run pins s σ H D I (i D σ H q)⟩
end

section
variable {X : Cx} {e o value : Expr} {es : List Expr} {f m : Str} {te to tv ti : TE} {ta : TA} {C : Addr} {pos pos' tpos : Pos}
/-- o.f of an instance of the class at C -/
def tF (C : Addr) (f : Str) (te : TE) : TE := fun σ H Q => te σ H fun x H1 => ∃ p dx fs v, x = .ref p ∧ H1 p = some (.ins C dx fs) ∧ fs.lookup f = some v ∧ Q v H1
theorem pe_f (cl : Cls X.K C) (na : NoAttr X.K C f) (he : PE X e te) (hb : attributeBase e f X.env (eval e X.env) = eval e X.env := by rfl) : PE X (.Attribute e f pos) (tF C f te) :=
  peI (pe_fld (peU he) hb) fun σ H Q h => ⟨_, h, fun v H1 ⟨p, dx, fs, w, a, b, c, d⟩ => ⟨p, C, dx, fs, w, a, b, cl, na, c, d⟩⟩
/-- o.f = value -/
def sF (C : Addr) (f : Str) (to tv : TE) : TS := fun D σ H => tv σ H fun y H1 => to σ H1 fun x H2 => ∃ p dx fs, x = .ref p ∧ H2 p = some (.ins C dx fs) ∧ fs.length < 1000 ∧ ∀ H', Wr H2 p (.ins C dx (putF f y fs)) H' → D.nx σ H'
def upE2 (to : TE) : TE := up to
theorem ps_f (cl : Cls X.K C) (na : NoAttr X.K C f) (ho : PE X o to) (hv : PE X value tv) (hs : swapsWith value (some (.Attribute o f pos')) pos.line X.env = pure false := by rfl) : PS X (.Assign [.Attribute o f pos'] value pos) (sF C f to tv) :=
  psI (ps_fld (peU ho) (peU hv) hs) fun D σ H h => ⟨_, h, fun y H1 h1 => ⟨_, h1, fun x H2 ⟨p, dx, fs, a, b, c, d⟩ => ⟨p, C, dx, fs, a, b, cl, na, c, wr_all b rfl (fun _ z => nomatch z) d⟩⟩⟩
/-- o.f += value -/
def sFA (C : Addr) (f : Str) (rd : V → V → Hp → VK → Prop) (to tv : TE) : TS := fun D σ H => to σ H fun x H1 => ∃ p dx fs v, x = .ref p ∧ H1 p = some (.ins C dx fs) ∧ fs.lookup f = some v ∧
  tv σ H1 fun y H2 => rd v y H2 fun z H3 => ∃ dx' fs', H3 p = some (.ins C dx' fs') ∧ fs'.length < 1000 ∧ ∀ H', Wr H3 p (.ins C dx' (putF f z fs')) H' → D.nx σ H'
theorem ps_fa {op : Operator} {rd : V → V → Hp → VK → Prop} (cl : Cls X.K C) (na : NoAttr X.K C f) (hop : InOp X op rd) (ho : PE X o to) (hv : PE X value tv)
    (hm : ∀ x y H Q Q', (∀ v H', Q v H' → Q' v H') → rd x y H Q → rd x y H Q' := by
      intro x y H Q Q' i ⟨a, b, e1, e2, q⟩; exact ⟨a, b, e1, e2, i _ _ q⟩) : PS X (.AugAssign (.Attribute o f tpos) op value pos) (sFA C f rd to tv) :=
  psI (ps_fldaug (peU ho) (peU hv) hop) fun D σ H h => ⟨_, h, fun x H1 ⟨p, dx, fs, v, a, b, c, d⟩ => ⟨p, C, dx, fs, v, a, b, cl, na, c, ⟨_, d, fun y H2 h2 => hm _ _ _ _ _ (fun z H3 ⟨dx', fs', e1, e2, e3⟩ => ⟨dx', fs', e1, e2, wr_all e1 rfl (fun _ z => nomatch z) e3⟩) h2⟩⟩⟩
def tTu (t : TA) : TE := fun σ H Q => t σ H fun xs H1 => xs.length ≤ sizeLine ∧ ∀ p H', Nw H1 p (.tup xs) H' → Q (.ref p) H'
def tLs (t : TA) : TE := fun σ H Q => t σ H fun xs H1 => xs.length ≤ sizeLine ∧ ∀ p H', Nw H1 p (.lst xs) H' → Q (.ref p) H'
theorem pe_tu {x1} (h : PA X es ta) : PE X (.Tuple es x1 pos) (tTu ta) := peI (pe_tup (paU h)) fun σ H Q q => ⟨_, q, fun xs H1 ⟨a, b⟩ => ⟨a, nw_all b⟩⟩
theorem pe_ls (h : PA X es ta) : PE X (.List es pos) (tLs ta) := peI (pe_lst (paU h)) fun σ H Q q => ⟨_, q, fun xs H1 ⟨a, b⟩ => ⟨a, nw_all b⟩⟩
/-- C(..): the new instance is empty -/
structure Mkd (H : Hp) (C x dx : Addr) (H' : Hp) : Prop where
  eq : H' = upd (upd H dx (.own x)) x (.ins C dx [])
  nx : H x = none
  nd : H dx = none
  ne : dx ≠ x
theorem Mkd.at {H H' : Hp} {C x dx : Addr} (m : Mkd H C x dx H') : H' x = some (.ins C dx []) := by rw [m.eq]; exact upd_same
theorem Mkd.look {H H' : Hp} {C x dx b : Addr} {u : HO} (m : Mkd H C x dx H') (h : H b = some u) : H' b = some u := by
  rw [m.eq, upd_ne (ne_of_none h m.nx), upd_ne (ne_of_none h m.nd)]; exact h
theorem Mkd.dom {H H' : Hp} {C x dx b : Addr} (m : Mkd H C x dx H') (h : H' b = none) : H b = none := by
  rw [m.eq] at h
  by_cases e : b = x
  · rw [e]; exact m.nx
  · rw [upd_ne e] at h
    by_cases e2 : b = dx
    · rw [e2]; exact m.nd
    · rwa [upd_ne e2] at h
theorem Mkd.chg {T : List (Addr × Str)} {S : Addr → Prop} {H H' : Hp} {C x dx : Addr} (m : Mkd H C x dx H') : Chg T S H H' := ⟨fun _ _ h _ _ => m.look h, fun _ h => m.dom h, fun h => h.ext fun _ _ e => m.look e⟩
def tMk (C : Addr) (sp : Sp) (dvs : List V) (E : XK) (t : TA) : TE := fun σ H Q => t σ H fun vs H1 => ∀ x dx H', Mkd H1 C x dx H' → sp (.ref x :: (vs ++ dvs)) H' (fun v H2 => v = .non ∧ Q (.ref x) H2) E
theorem pe_mk {CX : CXT} {k : Nat} {fi : Addr} {fd : FuncData} {ps : List Str} {sp : Sp} {dvs : List V} {ds : List Value} {E : XK} {x : Str} {p : Pos} (M : Mk X.K C fi) (F : FnOk X.prog X.w X.K X.mg X.base CX k fi fd ps sp) (hr : Room (k + 1) X.A) (hg : Gl X x) (hm : X.mg x = some (.ref C)) (hb : Binds X.K fd ps ds) (hd : Vals dvs ds) (hx : Passes CX X E)
    (ha : PA X (e :: es) ta) (hdb : (x == ("__debug__" : Str)) = false := by decide) (he : starEach (e :: es) X.env = (false, eval e X.env) :: starEach es X.env := by rfl) (hpl : (backTo pos (starEach es X.env)).any (·.1) = false := by rfl) :
    PE X (.Call (.Name x p) (e :: es) [] pos) (tMk C sp dvs E ta) := peI (pe_make M F hr hg hm hb hd hx (paU ha) (hdb := hdb) (he := he) (hpl := hpl)) fun σ H Q q => ⟨_, q, fun vs H1 h x dx nx nd ne => h x dx _ ⟨rfl, nx, nd, ne⟩⟩
theorem pe_mk0 {CX : CXT} {k : Nat} {fi : Addr} {fd : FuncData} {ps : List Str} {sp : Sp} {dvs : List V} {ds : List Value} {E : XK} {x : Str} {p : Pos} (M : Mk X.K C fi) (F : FnOk X.prog X.w X.K X.mg X.base CX k fi fd ps sp) (hr : Room (k + 1) X.A) (hg : Gl X x) (hm : X.mg x = some (.ref C)) (hb : Binds X.K fd ps ds) (hd : Vals dvs ds) (hx : Passes CX X E)
    (hdb : (x == ("__debug__" : Str)) = false := by decide) :
    PE X (.Call (.Name x p) [] [] pos) (tMk C sp dvs E tNil) := peI (pe_make0 M F hr hg hm hb hd hx (hdb := hdb)) fun σ H Q q => fun x dx nx nd ne => q x dx _ ⟨rfl, nx, nd, ne⟩
end
end Y

set_option Elab.async false
set_option linter.all false
set_option maxRecDepth 100000
set_option maxHeartbeats 4000000
/-! own layer: operators, calls and subscripts by values -/
namespace Y
open PySem PySem.Spec L2 LamX

/-- r is a tuple of xs, new or not -/
structure Tp (K : PySem.W.Frag) (H : Hp) (r : Addr) (xs : List V) (H' : Hp) : Prop where
  same : ∀ b o, H b = some o → H' b = some o
  dom : ∀ b, H' b = none → H b = none
  sq : SqT K H' r xs
theorem Tp.chg {K : PySem.W.Frag} {H H' : Hp} {r : Addr} {xs : List V} {T : List (Addr × Str)} {S : Addr → Prop} (t : Tp K H r xs H') : Chg T S H H' := ⟨fun b o h _ _ => t.same b o h, t.dom, fun h => h.ext t.same⟩
theorem Tp.old {K : PySem.W.Frag} {H : Hp} {r : Addr} {xs : List V} (h : SqT K H r xs) : Tp K H r xs H := ⟨fun _ _ h => h, fun _ h => h, h⟩
theorem Tp.new {K : PySem.W.Frag} {H : Hp} {r : Addr} {xs : List V} (h : H r = none) : Tp K H r xs (upd H r (.tup xs)) :=
  have n : Nw H r (.tup xs) (upd H r (.tup xs)) := ⟨rfl, h⟩
  ⟨fun _ _ e => n.look e, fun _ e => n.dom e, SqT.of n.at⟩

section
variable {X : Cx}
theorem opI2 {f : Value → Value → Sem Value} {r r' : R2} (h : OpR X f r) (i : ∀ x y H Q, r' x y H Q → r x y H Q) : OpR X f r' := fun pins s σ H x y v u Q I rx ry q => h pins s σ H x y v u Q I rx ry (i x y H Q q)
theorem opOr {f : Value → Value → Sem Value} {r r' : R2} (h : OpR X f r) (h' : OpR X f r') : OpR X f (fun x y H Q => r x y H Q ∨ r' x y H Q) := fun pins s σ H x y v u Q I rx ry q =>
  q.elim (h pins s σ H x y v u Q I rx ry) (h' pins s σ H x y v u Q I rx ry)
theorem crI {f : Value} {r r' : List V → Hp → VK → Prop} (h : CallR X f r) (i : ∀ xs H Q, r' xs H Q → r xs H Q) : CallR X f r' := fun pins s σ H xs us Q I r q => h pins s σ H xs us Q I r (i xs H Q q)
theorem crOr {f : Value} {r r' : List V → Hp → VK → Prop} (h : CallR X f r) (h' : CallR X f r') : CallR X f (fun xs H Q => r xs H Q ∨ r' xs H Q) := fun pins s σ H xs us Q I rr q =>
  q.elim (h pins s σ H xs us Q I rr) (h' pins s σ H xs us Q I rr)

/-! ### + * -/
def uAdd (K : PySem.W.Frag) : R2 := fun x y H Q => match x, y with
  | .int i, .int j => Q (.int (i + j)) H
  | .str a, .str b => a.length + b.length ≤ sizeLine ∧ Q (.str (a ++ b)) H
  | .int i, .bl k => Q (.int (i + PyProof.Rows.b2i k)) H
  | .ref a, .ref b => (∃ xs ys, H a = some (.lst xs) ∧ H b = some (.lst ys) ∧ xs.length + ys.length ≤ sizeLine ∧ ∀ p H', Nw H p (.lst (xs ++ ys)) H' → Q (.ref p) H') ∨
    (∃ xs ys, SqT K H a xs ∧ SqT K H b ys ∧ xs.length + ys.length ≤ sizeLine ∧ ∀ r H', Tp K H r (xs ++ ys) H' → Q (.ref r) H')
  | _, _ => False
theorem op_add : OpR X (binaryOp .Add) (uAdd X.K) := by
  intro pins s σ H x y v u Q I rx ry h
  cases x <;> cases y <;> simp only [uAdd] at h <;> first
    | exact h.elim
    | exact L2.op_add pins s σ H _ _ v u Q I rx ry ⟨_, _, rfl, rfl, h⟩
    | exact L2.op_add_str pins s σ H _ _ v u Q I rx ry ⟨_, _, rfl, rfl, h⟩
    | exact L2.op_add_ib pins s σ H _ _ v u Q I rx ry ⟨_, _, rfl, rfl, h⟩
    | skip
  rcases h with ⟨xs, ys, h1, h2, h3, h4⟩ | ⟨xs, ys, h1, h2, h3, h4⟩
  · exact L2.op_cat pins s σ H _ _ v u Q I rx ry ⟨_, _, xs, ys, rfl, rfl, h1, h2, h3, nw_all h4⟩
  · refine L2.op_catA pins s σ H _ _ v u Q I rx ry ⟨_, _, xs, ys, rfl, rfl, h1, h2, h3, fun e => h4 _ _ (Tp.old ?_), fun _ e => h4 _ _ (Tp.old ?_), fun _ _ p hp => h4 _ _ (Tp.new hp)⟩
    · rw [e]; exact h2
    · rw [e, List.append_nil]; exact h1
def uMul : R2 := fun x y H Q => match x, y with
  | .int i, .int j => CMul i j ∧ Q (.int (i * j)) H
  | .ref l, .int k => ∃ xs, H l = some (.lst xs) ∧ -(2 ^ 63) ≤ k ∧ k < 2 ^ 63 ∧ xs.length * k.toNat ≤ sizeLine ∧ ∀ p H', Nw H p (.lst (List.replicate k.toNat xs).flatten) H' → Q (.ref p) H'
  | _, _ => False
theorem op_mul : OpR X (binaryOp .Mult) uMul := by
  intro pins s σ H x y v u Q I rx ry h
  cases x <;> cases y <;> simp only [uMul] at h <;> first
    | exact h.elim
    | exact L2.op_mul pins s σ H _ _ v u Q I rx ry ⟨_, _, rfl, rfl, h⟩
    | skip
  obtain ⟨xs, h1, h2, h3, h4, h5⟩ := h
  exact L2.op_rep pins s σ H _ _ v u Q I rx ry ⟨_, _, xs, rfl, rfl, h1, h2, h3, h4, nw_all h5⟩
def uI (g : Int → Int → V) : R2 := fun x y H Q => match x, y with
  | .int i, .int j => Q (g i j) H
  | _, _ => False
def uIC (C : Int → Int → Prop) (g : Int → Int → V) : R2 := fun x y H Q => match x, y with
  | .int i, .int j => C i j ∧ Q (g i j) H
  | _, _ => False
theorem uI_of {f : Value → Value → Sem Value} {g : Int → Int → V} (h : OpR X f (rI0 g)) : OpR X f (uI g) := opI2 h fun x y H Q q => by
  cases x <;> cases y <;> simp only [uI] at q <;> first | exact q.elim | exact ⟨_, _, rfl, rfl, q⟩
theorem uIC_of {f : Value → Value → Sem Value} {C : Int → Int → Prop} {g : Int → Int → V} (h : OpR X f (rI C g)) : OpR X f (uIC C g) := opI2 h fun x y H Q q => by
  cases x <;> cases y <;> simp only [uIC] at q <;> first | exact q.elim | exact ⟨_, _, rfl, rfl, q⟩
theorem op_sub : OpR X (binaryOp .Sub) (uI fun i j => .int (i - j)) := uI_of L2.op_sub
theorem op_mod : OpR X (binaryOp .Mod) (uIC (fun _ j => 0 < j) fun i j => .int (i % j)) := uIC_of L2.op_mod
theorem op_fdiv : OpR X (binaryOp .FloorDiv) (uIC CDiv fun i j => .int (i / j)) := uIC_of L2.op_fdiv
theorem op_pow : OpR X (binaryOp .Pow) (uIC CPow fun i j => .int (i ^ j.toNat)) := uIC_of L2.op_pow

/-! ### comparisons -/
def uLt : R2 := uI fun i j => .bl (decide (i < j))
def uLe : R2 := uI fun i j => .bl (decide (i ≤ j))
def uGt : R2 := uI fun i j => .bl (decide (j < i))
def uGe : R2 := uI fun i j => .bl (decide (j ≤ i))
theorem op_lt : OpR X (compareOp .Lt) uLt := uI_of L2.op_lt
theorem op_le : OpR X (compareOp .LtE) uLe := uI_of L2.op_le
theorem op_gt : OpR X (compareOp .Gt) uGt := uI_of L2.op_gt
theorem op_ge : OpR X (compareOp .GtE) uGe := uI_of L2.op_ge
/-- ==: flat things, or data of any depth -/
def uEq (K : PySem.W.Frag) : R2 := fun x y H Q => rEq x y H Q ∨ rEqD K x y H Q
def uNe (K : PySem.W.Frag) : R2 := fun x y H Q => rNe x y H Q ∨ rNeD K x y H Q
theorem op_eq (hu : X.A.units + 64 < cLine) : OpR X (compareOp .Eq) (uEq X.K) := opOr L2.op_eq (L2.op_eqD hu)
theorem op_ne (hu : X.A.units + 64 < cLine) : OpR X (compareOp .NotEq) (uNe X.K) := opOr L2.op_ne (L2.op_neD hu)
def uIsN : R2 := fun x y H Q => y = .non ∧ Q (.bl (decide (x = .non))) H
def uNotN : R2 := fun x y H Q => y = .non ∧ Q (.bl (!decide (x = .non))) H
theorem op_isN : OpR X (compareOp .Is) uIsN := L2.op_isN
theorem op_notN : OpR X (compareOp .IsNot) uNotN := L2.op_notN

/-! ### calls of built-ins -/
def uLen (K : PySem.W.Frag) : List V → Hp → VK → Prop := fun xs H Q => (∃ p ys, xs = [.ref p] ∧ (SqL K H p ys ∨ SqT K H p ys) ∧ Q (.int ys.length) H) ∨ ∃ z, xs = [.str z] ∧ z.length ≤ sizeLine ∧ Q (.int z.length) H
theorem call_len : CallR X (.builtin "len") (uLen X.K) := crOr L2.call_len_seq L2.call_len_str
def uList (K : PySem.W.Frag) : List V → Hp → VK → Prop := fun xs H Q => ∃ p ys, xs = [.ref p] ∧ (SqL K H p ys ∨ SqT K H p ys) ∧ ∀ l H', Nw H l (.lst ys) H' → Q (.ref l) H'
theorem call_list : CallR X (.type "list") (uList X.K) := crI L2.call_list_of fun xs H Q ⟨p, ys, e, h, q⟩ => ⟨p, ys, e, h, nw_all q⟩
def uTuple (K : PySem.W.Frag) : List V → Hp → VK → Prop := fun xs H Q => ∃ p ys, xs = [.ref p] ∧ ((SqL K H p ys ∧ ∀ l H', Nw H l (.tup ys) H' → Q (.ref l) H') ∨ (SqT K H p ys ∧ Q (.ref p) H))
theorem call_tuple : CallR X (.type "tuple") (uTuple X.K) := crI L2.call_tuple_of fun xs H Q ⟨p, ys, e, h⟩ => ⟨p, ys, e, h.elim (fun ⟨a, b⟩ => .inl ⟨a, nw_all b⟩) .inr⟩

/-! ### subscripts -/
def uSl (K : PySem.W.Frag) : V → Option Int → Option Int → Hp → VK → Prop := fun x lo hi H Q => (∃ a xs, x = .ref a ∧ SqL K H a xs ∧ ∀ p H', Nw H p (.lst (cutV xs lo hi)) H' → Q (.ref p) H') ∨
  ∃ a xs, x = .ref a ∧ SqT K H a xs ∧ ∀ r H', Tp K H r (cutV xs lo hi) H' → Q (.ref r) H'
theorem slI {r r' : V → Option Int → Option Int → Hp → VK → Prop} (h : SlR X r) (i : ∀ x lo hi H Q, r' x lo hi H Q → r x lo hi H Q) : SlR X r' := fun pins s σ H x v vl vu lo hi sl Q I rx hs p1 p2 q => h pins s σ H x v vl vu lo hi sl Q I rx hs p1 p2 (i _ _ _ _ _ q)
theorem sl_any : SlR X (uSl X.K) := SlR.or (slI L2.sl_list fun x lo hi H Q ⟨a, xs, e, h, q⟩ => ⟨a, xs, e, h, nw_all q⟩)
  (slI L2.sl_tupA fun x lo hi H Q ⟨a, xs, e, h, q⟩ => ⟨a, xs, e, h, fun w => q _ _ (Tp.old (by
    have : cutV xs lo hi = xs := by unfold cutV; rw [w.1, w.2]; simp
    rw [this]; exact h)), fun _ p hp => q _ _ (Tp.new hp)⟩)
def uSet : TSet := fun o i v H Q => ∃ p xs k j, o = .ref p ∧ i = .int k ∧ H p = some (.lst xs) ∧ ixN xs.length k = some j ∧ ∀ H', Wr H p (.lst (xs.set j v)) H' → Q H'
theorem set_lst : PSet X uSet := by
  intro pins s σ H o i v vo vi vv Q I ro ri rv q
  obtain ⟨p, xs, k, j, e1, e2, e3, e4, e5⟩ := q
  exact L2.set_list pins s σ H o i v vo vi vv Q I ro ri rv ⟨p, xs, k, j, e1, e2, e3, e4, wr_all e3 rfl (fun _ z => nomatch z) e5⟩
variable {o e : Expr} {es : List Expr} {to te : TE} {ta : TA} {apos cpos pos : Pos}
/-- o.append(e) -/
def tApp (to te : TE) : TE := fun σ H Q => to σ H fun x H1 => ∃ l xs0, x = .ref l ∧ H1 l = some (.lst xs0) ∧ te σ H1 fun y H2 => ∃ xs, H2 l = some (.lst xs) ∧ xs.length < sizeLine ∧ ∀ H', Wr H2 l (.lst (xs ++ [y])) H' → Q .non H'
theorem app_i {K : PySem.W.Frag} : ∀ σ H Q, tApp to te σ H Q → tBM K "list" rAppend (up to) (tCons (up te) tNil) σ H Q := fun σ H Q h =>
    ⟨_, h, fun x H1 ⟨l, xs0, e1, e2, h2⟩ => ⟨by subst e1; exact .inl ⟨rfl, _, SqL.of e2⟩, ⟨_, h2, fun y H2 ⟨xs, a, b, c⟩ => ⟨l, xs, y, e1, rfl, a, b, wr_all a rfl (fun _ z => nomatch z) c⟩⟩⟩⟩
/-- o.pop() -/
def tPop (to : TE) : TE := fun σ H Q => to σ H fun x H1 => ∃ l xs y, x = .ref l ∧ H1 l = some (.lst (xs ++ [y])) ∧ ∀ H', Wr H1 l (.lst xs) H' → Q y H'
theorem pop_i {K : PySem.W.Frag} : ∀ σ H Q, tPop to σ H Q → tBM0 K "list" rPop (up to) σ H Q := fun σ H Q h =>
    ⟨_, h, fun x H1 ⟨l, xs, y, e1, e2, h2⟩ => ⟨by subst e1; exact .inl ⟨rfl, _, SqL.of e2⟩, l, xs ++ [y], y, e1, rfl, e2, by simp, by
      rw [List.dropLast_concat]; exact wr_all e2 rfl (fun _ z => nomatch z) h2⟩⟩
/-- l[::-1] -/
def tRev (K : PySem.W.Frag) (te : TE) : TE := fun σ H Q => te σ H fun x H1 => ∃ a xs, x = .ref a ∧ SqL K H1 a xs ∧ ∀ p H', Nw H1 p (.lst xs.reverse) H' → Q (.ref p) H'
theorem pe_rev {k : Nat} {p1 p2 p3 pos : Pos} (he : PE X e te) : PE X (.Subscript e (.Slice none none (some (.UnaryOp .USub (.Constant (.int 1) k p1) p2)) p3) pos) (tRev X.K te) :=
  peI (pe_revL (peU he)) fun σ H Q h => ⟨_, h, fun x H1 ⟨a, xs, e1, e2, q⟩ => ⟨a, xs, e1, e2, nw_all q⟩⟩
/-- what a for walks: a list or a tuple -/
def iSeq (K : PySem.W.Frag) (tl : TE) : TI := fun σ H R => tl σ H fun x H1 => ∃ a, x = .ref a ∧ (((∃ xs, SqL K H1 a xs) ∧ R (Itl K a) H1) ∨ ((∃ xs, SqT K H1 a xs) ∧ R (Itt K a) H1))
theorem piI {tg it : Expr} {wi wi' : TI} (h : PI X tg it wi) (i : ∀ σ H R, wi' σ H R → wi σ H R) : PI X tg it wi' := ⟨fun pins s σ H R I q => h.run pins s σ H R I (i σ H R q)⟩
theorem pi_lst {tg : Expr} (he : PE X e te) : PI X tg e (fun σ H R => te σ H fun x H1 => ∃ a xs, x = .ref a ∧ SqL X.K H1 a xs ∧ R (Itl X.K a) H1) :=
  piI (pi_list (peU he)) fun σ H R h => ⟨_, h, fun x H1 ⟨a, xs, e1, e2, q⟩ => ⟨a, e1, ⟨xs, e2⟩, q⟩⟩
/-- x += y of lists; of ints -/
def uIAdd : TIp := fun x y H Q => match x, y with
  | .int i, .int j => Q (.int (i + j)) H
  | .ref l, .ref b => ∃ xs zs, H l = some (.lst xs) ∧ H b = some (.lst zs) ∧ xs.length + zs.length ≤ sizeLine ∧ ∀ H', Wr H l (.lst (xs ++ zs)) H' → Q (.ref l) H'
  | _, _ => False
theorem ip_add : PIp X .Add uIAdd := by
  intro pins s σ H x y u v Q I rx ry h
  cases x <;> cases y <;> simp only [uIAdd] at h <;> first
    | exact h.elim
    | exact L2.ip_add pins s σ H _ _ u v Q I rx ry ⟨_, _, rfl, rfl, h⟩
    | skip
  obtain ⟨xs, zs, h1, h2, h3, h4⟩ := h
  exact iop_ext pins s σ H _ _ u v Q I rx ry ⟨_, _, xs, zs, rfl, rfl, h1, h2, h3, wr_all h1 rfl (fun _ z => nomatch z) h4⟩
end
end Y

set_option Elab.async false
set_option linter.all false
set_option maxRecDepth 100000
set_option maxHeartbeats 4000000
/-! own layer: defs whose code object is known; lambdas as values; what told gives -/
namespace Y
open PySem PySem.Spec L2 LamX
abbrev E0 : XK := C8.E0

/-! ### defs -/
/-- a def of the text as it stands behind the top, its code object at c, its defaults dvs -/
structure DF (K : PySem.W.Frag) (x qual : Str) (st : Stmt) (f c : Addr) (fd : FuncData) (dvs : List V) : Prop where
  ex : ∃ (oc : Value) (od : Option Addr) (dV kV doc pm : Value) (an : Option Addr) (ct : Value) (osl : Array (Option Value)),
    fd = PySem.W.fnOf x qual (defArgs st) (defBody st) (defScope st) dV kV doc pm an (.ref c) ct ∧ K.lookup f = some ⟨oc, od, .func fd, osl⟩ ∧ PySem.W.codeIn K (.ref c) qual = true ∧ DflV K dV dvs
  kp : PySem.W.keepIn K (.ref f) = true
section
variable {P : Program} {w : World} {K : PySem.W.Frag} {mg : Str → Option Value} {base : Heap} {x qual : Str} {st : Stmt} {f c : Addr} {fd : FuncData} {dvs : List V}
theorem df_mk {oc : Value} {od an : Option Addr} {osl : Array (Option Value)} {dV kV doc pm ct : Value} (l : K.lookup f = some ⟨oc, od, .func (PySem.W.fnOf x qual (defArgs st) (defBody st) (defScope st) dV kV doc pm an (.ref c) ct), osl⟩)
    (h : PySem.W.codeIn K (.ref c) qual = true) (k : PySem.W.keepIn K (.ref f) = true) (d : DflV K dV dvs) : DF K x qual st f c (PySem.W.fnOf x qual (defArgs st) (defBody st) (defScope st) dV kV doc pm an (.ref c) ct) dvs :=
  ⟨⟨oc, od, dV, kV, doc, pm, an, ct, osl, rfl, l, h, d⟩, k⟩
theorem DF.fund (F : DF K x qual st f c fd dvs) : FunD K x qual (defArgs st) (defBody st) (defScope st) dvs [] f fd := by
  obtain ⟨oc, od, dV, kV, doc, pm, an, ct, osl, e, l, h, d⟩ := F.ex
  exact ⟨⟨oc, od, dV, kV, doc, pm, an, .ref c, ct, osl, e, l, h, d, .inl rfl⟩, F.kp⟩
theorem DF.fn (F : DF K x qual st f c fd []) : L2.Fun K x qual st f fd := by
  obtain ⟨oc, od, dV, kV, doc, pm, an, ct, osl, e, l, h, d⟩ := F.ex
  rcases d with ⟨_, rfl⟩ | ⟨z, _⟩
  · exact ⟨⟨oc, od, kV, doc, pm, an, .ref c, ct, osl, e, l, h⟩, F.kp⟩
  · exact (z rfl).elim
theorem DF.ok {N ps : List Str} {k : Nat} {sp : Sp} (F : DF K x qual st f c fd dvs) (S : FnScope N ps (defScope st)) (len : ∀ vs H Q E, sp vs H Q E → vs.length = ps.length)
    (hbody : ∀ (A : Around) (outer : List Env) (s : Shared) (H : Hp) (vs : List V) (Q : VK) (E : XK), Room k (A.deeper (PyProof.Rows.envOfC qual (defScope st) s.heap.objs.size f (.ref c))) → sp vs H Q E →
      ∃ t, PSs (cxOf (L2.CX P w) P w K mg base N qual (defScope st) f (.ref c) A outer s H E) (defBody st) t ∧ t { nx := fun _ H' => Q .non H', rt := Q } (start N vs) H) : FnOk P w K mg base (L2.CX P w) (k + 1) f fd ps sp := by
  obtain ⟨oc, od, dV, kV, doc, pm, an, ct, osl, rfl, lk, hcd, _⟩ := F.ex
  exact fn_of lk hcd S len fun A outer s H vs Q E hr hsp => hbody A outer s H vs Q E hr hsp
end
section
variable {X : Cx} {E : XK}
theorem passD (hs : X.stack = X.env :: X.outer) (hf : X.env.frame = some X.env.locals) (hex : X.ex = []) {E₁ : Value → Shared → Prop}
    (hx : X.xe = fun e s' => wpAny (model X.prog X.w) X.A (leaving X.env e) (fun _ s'' => L2.CX X.prog X.w X.outer X.H_0 X.s_0 E e s'') E₁ s') : Passes (L2.CX X.prog X.w) X E :=
  passes_call (takes_of hs hf hex hx) fun _ _ _ _ z => z
theorem passN : Passes (L2.CX X.prog X.w) X E0 := L2.passL
end

/-! ### lambdas -/
/-- f is a lambda of X, its body's reading is t -/
def IsLam (X : Cx) (k : Nat) (H : Hp) (f : Addr) (t : XK → TE) : Prop := ∃ (c' : Addr) (params : Arguments) (body : Expr) (scope : Scope), LamGood X k params body scope t ∧
  H f = some (LamO f c' (X.env.qual ++ "<lambda>") params body scope (cloFrom X.env.cells scope.names [])) ∧ H c' = some (CodeO c' (X.env.qual ++ "<lambda>"))
def isExt : HO → Bool
  | .ext _ => true
  | _ => false
theorem IsLam.chg {X : Cx} {k : Nat} {H H' : Hp} {f : Addr} {t : XK → TE} {T : List (Addr × Str)} {S : Addr → Prop} (L : IsLam X k H f t) (c : Chg T S H H') (hS : ∀ b, S b → ∀ o, H b = some o → isExt o = false) : IsLam X k H' f t := by
  obtain ⟨c', params, body, scope, G, h1, h2⟩ := L
  exact ⟨c', params, body, scope, G, c.look h1 (fun z => nomatch hS _ z _ h1) rfl, c.look h2 (fun z => nomatch hS _ z _ h2) rfl⟩
theorem IsLam.same {X : Cx} {k : Nat} {H H' : Hp} {f : Addr} {t : XK → TE} (L : IsLam X k H f t) (c : ∀ b o, H b = some o → H' b = some o) : IsLam X k H' f t := by
  obtain ⟨c', params, body, scope, G, h1, h2⟩ := L
  exact ⟨c', params, body, scope, G, c _ _ h1, c _ _ h2⟩
def tLamG (X : Cx) (k : Nat) (T : List (Addr × Str)) (t : XK → TE) : TE := fun σ H Q => Tabs T H ∧ ∀ f H1, Grows T H H1 → H f = none → IsLam X k H1 f t → Q (.ref f) H1
theorem pe_lamG {X : Cx} {T : List (Addr × Str)} {k : Nat} {c P : Addr} {params : Arguments} {body : Expr} {scope : Scope} {pos : Pos} {t : XK → TE}
    (TB : TabB X.base X.mg c P) (hcode : X.env.code = .ref c) (hm : (P, X.env.qual ++ "<lambda>") ∈ T) (hu : ∀ p ∈ T, p.1 = P → p.2 = X.env.qual ++ "<lambda>")
    (hdef : defaultsOf params X.env = ([], [])) (G : LamGood X k params body scope t) : PE X (.Lambda params body scope pos) (tLamG X k T t) :=
  peI (pe_lamV TB hcode hm hu hdef G.L) fun σ H Q ⟨h, q⟩ => ⟨h, fun f c' H1 e1 e2 e3 e4 e5 e6 => q f H1 ⟨e1, e2, e3⟩ e4 ⟨c', params, body, scope, G, e5, e6⟩⟩

/-- told(e), e a lambda of X -/
def ErrTo (X : Cx) (CS : Addr) (ret : Str) (Q : VK) : XK := fun cls _ H' => ∃ b, PySem.W.exmOne X.K cls (.ref CS) = some b ∧ (b = true → Q (.str ret) H') ∧ (b = false → False)
theorem err_to {X : Cx} {CS : Addr} {ret : Str} {Q : VK} {d : Option Addr} {H : Hp} (hm : PySem.W.exmOne X.K (.ref CS) (.ref CS) = some true) (q : Q (.str ret) H) : ErrTo X CS ret Q (.ref CS) d H := ⟨true, hm, fun _ => q, fun z => nomatch z⟩
def tTo (X : Cx) (k : Nat) (CS : Addr) (ret : Str) (pr : L2.St → L2.St) (te : TE) : TE := fun σ H Q => te σ H fun v H1 => ∃ f t, v = .ref f ∧ IsLam X k H1 f t ∧ t (ErrTo X CS ret Q) (pr σ) H1 Q
theorem tTo_i {X : Cx} {k : Nat} {CS : Addr} {ret : Str} {pr : L2.St → L2.St} {te : TE} : ∀ σ H Q, tTo X k CS ret pr te σ H Q → tTold X k CS ret pr (up te) σ H Q := fun σ H Q h =>
  ⟨_, h, fun v H1 ⟨f, t, e, ⟨c', params, body, scope, G, h1, h2⟩, q⟩ => ⟨f, c', params, body, scope, t, e, G, h1, h2, q⟩⟩
section
variable {X : Cx} {k : Nat} {x a ee ret : Str} {st : Stmt} {g CS c : Addr} {fd : FuncData} {Ng : List Str} {e : Expr} {te : TE} {p pos p1 p2 p3 p4 p5 p6 p7 p8 : Pos} {j : Nat}
/-- _law_told(e) in X -/
theorem pe_toD (F : DF X.K x x st g c fd []) (hm : X.mg x = some (.ref g)) (hb : L2.Binds X.K fd [a] []) (Sg : FnScope Ng [a] (defScope st)) (hme : X.mg ee = some (.ref CS)) (hr : Room (k + 2) X.A) (he : PE X e te)
    (hg : Gl X x) (hNg : Ng[0]? = some a) (hva : Vis (defScope st) a)
    (hbody : defBody st = [.Try [.Return (some (.Call (.Name a p1) [] [] p2)) p3] [.ExceptHandler (some (.Name ee p4)) none [.Return (some (.Constant (.str ret) j p5)) p6] p7] [] [] p8])
    (h0a : ∀ f : Addr, (L2.start Ng [V.ref f])[0]? = some (some (V.ref f))) (hge : (defScope st).names.lookup ee = some .globalImplicit)
    (hde : (ee == ("__debug__" : Str)) = false := by decide) (hdb : (x == ("__debug__" : Str)) = false := by decide) (hd : (a == ("__debug__" : Str)) = false := by decide) (hcd : (a == ("__classdict__" : Str)) = false := by decide)
    (hse : starEach [e] X.env = (false, eval e X.env) :: starEach [] X.env := by rfl) (hpl : (backTo pos (starEach ([] : List Expr) X.env)).any (·.1) = false := by rfl) :
    PE X (.Call (.Name x p) [e] [] pos) (tTo X k CS ret id te) :=
  peI (pe_toldI (X := X) (s0 := X.s_0) (h0 := X.H_0) (en := X.env) (ou := X.outer) (ex := X.ex) (fn := X.fn) (pn := X.pn) (xe := X.xe) (pr := id) (k := k) (CS := CS) (fun pins σ H s I => ⟨pins, I⟩) hg hm F.fn hb Sg hNg hva hbody h0a hge hme hr (pa_cons (peU he) pa_nil (hs := hse)) hde hdb hd hcd hse hpl) tTo_i
/-- _law_told(e) in a comprehension's block in X -/
theorem pe_toB {σ0 : L2.St} {s : Shared} {H : Hp} {scope : Scope} {en : Env} {fp : List Addr} (bk : Back X σ0 H s scope en fp) (F : DF X.K x x st g c fd []) (hm : X.mg x = some (.ref g)) (hb : L2.Binds X.K fd [a] []) (Sg : FnScope Ng [a] (defScope st)) (hme : X.mg ee = some (.ref CS)) (hr : Room (k + 2) X.A) (he : PE (X.blk s H scope en fp) e te)
    (hg : Gl (X.blk s H scope en fp) x) (hNg : Ng[0]? = some a) (hva : Vis (defScope st) a)
    (hbody : defBody st = [.Try [.Return (some (.Call (.Name a p1) [] [] p2)) p3] [.ExceptHandler (some (.Name ee p4)) none [.Return (some (.Constant (.str ret) j p5)) p6] p7] [] [] p8])
    (h0a : ∀ f : Addr, (L2.start Ng [V.ref f])[0]? = some (some (V.ref f))) (hge : (defScope st).names.lookup ee = some .globalImplicit)
    (hde : (ee == ("__debug__" : Str)) = false := by decide) (hdb : (x == ("__debug__" : Str)) = false := by decide) (hd : (a == ("__debug__" : Str)) = false := by decide) (hcd : (a == ("__classdict__" : Str)) = false := by decide)
    (hse : starEach [e] en = (false, eval e en) :: starEach [] en := by rfl) (hpl : (backTo pos (starEach ([] : List Expr) en)).any (·.1) = false := by rfl) :
    PE (X.blk s H scope en fp) (.Call (.Name x p) [e] [] pos) (tTo X k CS ret (fun _ => σ0) te) :=
  peI (pe_toldI (X := X) (s0 := (X.blk s H scope en fp).s_0) (h0 := (X.blk s H scope en fp).H_0) (en := en) (ou := (X.blk s H scope en fp).outer) (ex := (X.blk s H scope en fp).ex) (fn := (X.blk s H scope en fp).fn) (pn := (X.blk s H scope en fp).pn) (xe := (X.blk s H scope en fp).xe) (pr := fun _ => σ0) (k := k) (CS := CS) (fun pins σ H s I => bk pins σ H s I) hg hm F.fn hb Sg hNg hva hbody h0a hge hme hr (pa_cons (peU he) pa_nil (hs := hse)) hde hdb hd hcd hse hpl) tTo_i
end
theorem hu_nd {T : List (Addr × Str)} {P : Addr} {q : Str} (nd : (T.map (·.1)).Nodup) (m : (P, q) ∈ T) : ∀ p ∈ T, p.1 = P → p.2 = q := by
  induction T with
  | nil => cases m
  | cons t T ih =>
    simp only [List.map_cons, List.nodup_cons] at nd
    intro p hp e
    rcases List.mem_cons.mp hp with rfl | hp2
    · rcases List.mem_cons.mp m with z | z
      · rw [← z]
      · exact (nd.1 (e ▸ List.mem_map_of_mem z)).elim
    · rcases List.mem_cons.mp m with z | z
      · subst z; exact (nd.1 (List.mem_map.mpr ⟨p, hp2, e⟩)).elim
      · exact ih nd.2 z p hp2 e
end Y

set_option Elab.async false
set_option linter.all false
set_option maxRecDepth 100000
set_option maxHeartbeats 4000000
namespace Y
open PySem PySem.Spec L2 LamX
/-- for over a list or a tuple -/
theorem pi_seq {X : Cx} {tg l : Expr} {tl : TE} (hl : PE X l tl) : PI X tg l (iSeq X.K tl) := by
  refine ⟨fun pins s σ H R I h => ?_⟩
  refine thn (hl.run pins s σ H _ I h) fun v s1 ⟨x, H1, I1, r1, q1⟩ => ?_
  obtain ⟨a, e, q1⟩ := q1
  subst e
  cases r1
  rcases q1 with ⟨⟨xs, hq⟩, q⟩ | ⟨⟨xs, hq⟩, q⟩
  · obtain ⟨its, rv, p, hz⟩ := I1.list hq
    refine wpAny_pyIter_list p.isList ?_
    refine ⟨s1.heap.objs.size, [s1.heap.objs.size], _, _, H1, rfl, I1.kept (t' := s1.toks) fun b o e => Heap.get?_push_of_some _ e, turn_list a _, ⟨_, Heap.get?_push_size _ rfl, rfl, rfl⟩, fun b hb => ?_, q⟩
    have e : b = s1.heap.objs.size := by simpa using hb
    subst e
    exact I1.fpOk (Nat.le_refl _) (I1.hok.fresh (Nat.le_refl _))
  · obtain ⟨its, rv, p, hz⟩ := I1.tuple hq
    refine wpAny_pyIter_tuple (show s1.heap.IsTuple a its.toArray from p) ?_
    refine ⟨s1.heap.objs.size, [s1.heap.objs.size], _, _, H1, rfl, I1.kept (t' := s1.toks) fun b o e => Heap.get?_push_of_some _ e, turn_tuple a _, ⟨_, Heap.get?_push_size _ rfl, rfl, rfl⟩, fun b hb => ?_, q⟩
    have e : b = s1.heap.objs.size := by simpa using hb
    subst e
    exact I1.fpOk (Nat.le_refl _) (I1.hok.fresh (Nat.le_refl _))
theorem okNo {P : Program} {w : World} {K : PySem.W.Frag} {mg : Str → Option Value} {base : Heap} {CX : CXT} {k : Nat} {f : Addr} {fd : FuncData} {ps : List Str} : FnOk P w K mg base CX k f fd ps (fun _ _ _ _ => False) :=
  ⟨fun _ _ _ _ z => z.elim, fun _ _ _ _ _ _ _ _ _ _ _ _ _ z => z.elim⟩
/-! ### small -/
theorem upd_upd {H : Hp} {a : Addr} {x y : HO} : upd (upd H a x) a y = upd H a y := by
  funext b
  unfold upd
  split <;> rfl
theorem Wr.trans {H H1 H2 : Hp} {l : Addr} {o u : HO} (a : Wr H l o H1) (b : Wr H1 l u H2) : Wr H l u H2 := ⟨by rw [b.eq, a.eq, upd_upd], a.old⟩
theorem ne_obj {H : Hp} {a b : Addr} {o u : HO} (h : H a = some o) (h2 : H b = some u) (n : o ≠ u) : a ≠ b := fun e => by
  rw [e, h2] at h
  exact n (Option.some.inj h).symm
def kd : HO → Nat
  | .lst _ => 0
  | .tup _ => 1
  | .ins C _ _ => 10 + C
  | .ext _ => 2
  | .tbl _ => 3
  | _ => 4
theorem ne_kd {H : Hp} {a b : Addr} {o u : HO} (h : H a = some o) (h2 : H b = some u) (n : kd o ≠ kd u) : a ≠ b := ne_obj h h2 fun e => n (by rw [e])
theorem nin_nil {b : Addr} : ¬ b ∈ ([] : List Addr) := fun z => nomatch z
theorem nin_cons {b a : Addr} {l : List Addr} (h : b ≠ a) (t : ¬ b ∈ l) : ¬ b ∈ a :: l := fun z => (List.mem_cons.mp z).elim h t
abbrev In (l : List Addr) : Addr → Prop := fun b => b ∈ l
theorem ite_i {c : Prop} [Decidable c] {A B : Prop} (h1 : c → A) (h2 : ¬ c → B) : if c then A else B := by split <;> (rename_i h; first | exact h1 h | exact h2 h)
theorem ite_d {p : Prop} {i : Decidable p} {A B : Prop} (h1 : p → A) (h2 : ¬ p → B) : if decide p = true then A else B := ite_i (fun h => h1 (of_decide_eq_true h)) fun h => h2 fun z => h (decide_eq_true z)
theorem ite_nd {p : Prop} {i : Decidable p} {A B : Prop} (h1 : ¬ p → A) (h2 : p → B) : if (!decide p) = true then A else B := ite_i (fun h => h1 (by simpa using h)) fun h => h2 (by simpa using h)
theorem ite_t {b : Bool} {A B : Prop} (h : b = true) (h1 : A) : if b = true then A else B := by rw [if_pos h]; exact h1
theorem ite_f {b : Bool} {A B : Prop} (h : b = false) (h1 : B) : if b = true then A else B := by rw [if_neg (by rw [h]; simp)]; exact h1
theorem ite_eqt {b : Bool} {A B : Prop} (h1 : b = true → A) (h2 : b = false → B) : if b = true then A else B := by cases b <;> simp_all
/-! ### by values -/
section
variable {X : Cx}
def uInt : List V → Hp → VK → Prop := fun xs H Q => match xs with
  | [.int i] => Q (.int i) H
  | [.bl k] => Q (.int (if k then 1 else 0)) H
  | _ => False
theorem call_int1 : CallR X (.type "int") uInt := crI L2.call_int1 fun xs H Q h => by
  unfold uInt at h
  split at h
  · exact .inl ⟨_, rfl, h⟩
  · exact .inr ⟨_, rfl, h⟩
  · exact h.elim
def uInt1 (g : Int → V) : List V → Hp → VK → Prop := fun xs H Q => match xs with
  | [.int i] => Q (g i) H
  | _ => False
def uInt2 (g : Int → Int → V) : List V → Hp → VK → Prop := fun xs H Q => match xs with
  | [.int i, .int j] => Q (g i j) H
  | _ => False
theorem call_abs : CallR X (.builtin "abs") (uInt1 fun i => .int (if i < 0 then -i else i)) := crI L2.call_abs fun xs H Q h => by
  unfold uInt1 at h
  split at h
  · exact ⟨_, rfl, h⟩
  · exact h.elim
theorem min_i {i j : Int} : (if j < i then j else i) = min i j := by split <;> omega
theorem max_i {i j : Int} : (if j > i then j else i) = max i j := by split <;> omega
theorem call_min2 (hc : X.calm = true) : CallR X (.builtin "min") (uInt2 fun i j => .int (min i j)) := crI (L2.call_min2 hc) fun xs H Q h => by
  unfold uInt2 at h
  split at h
  · exact ⟨_, _, rfl, by rw [min_i]; exact h⟩
  · exact h.elim
theorem call_max2 (hc : X.calm = true) : CallR X (.builtin "max") (uInt2 fun i j => .int (max i j)) := crI (L2.call_max2 hc) fun xs H Q h => by
  unfold uInt2 at h
  split at h
  · exact ⟨_, _, rfl, by rw [max_i]; exact h⟩
  · exact h.elim
def vEq (K : PySem.W.Frag) (f : Bool → Bool) : R2 := fun x y H Q => match x, y with
  | .int i, .int j => Q (.bl (f (decide (i = j)))) H
  | .str i, .str j => Q (.bl (f (decide (i = j)))) H
  | .bl i, .bl j => Q (.bl (f (decide (i = j)))) H
  | .non, .non => Q (.bl (f true)) H
  | x, y => (scal x y = true ∧ Q (.bl (f (decide (x = y)))) H) ∨ ∃ d e, Dp K H x d ∧ Dp K H y e ∧ SeqAt.shaped d = true ∧ SeqAt.shaped e = true ∧ Q (.bl (f (PyData.eqv d e))) H
theorem vEq_i {K : PySem.W.Frag} {f : Bool → Bool} {x y : V} {H : Hp} {Q : VK} (h : vEq K f x y H Q) : (scal x y = true ∧ Q (.bl (f (decide (x = y)))) H) ∨ ∃ d e, Dp K H x d ∧ Dp K H y e ∧ SeqAt.shaped d = true ∧ SeqAt.shaped e = true ∧ Q (.bl (f (PyData.eqv d e))) H := by
  unfold vEq at h
  split at h
  · exact .inl ⟨rfl, by simpa only [V.int.injEq] using h⟩
  · exact .inl ⟨rfl, by simpa only [V.str.injEq] using h⟩
  · exact .inl ⟨rfl, by simpa only [V.bl.injEq] using h⟩
  · exact .inl ⟨rfl, by simpa using h⟩
  · exact h
theorem op_eqV (hu : X.A.units + 64 < cLine) : OpR X (compareOp .Eq) (vEq X.K id) := opI2 (op_eq hu) fun x y H Q h => vEq_i h
theorem op_neV (hu : X.A.units + 64 < cLine) : OpR X (compareOp .NotEq) (vEq X.K not) := opI2 (op_ne hu) fun x y H Q h => vEq_i h
end
section
variable {X : Cx}
/-- a[i] of a list, a tuple, a text -/
def uIx (K : PySem.W.Frag) : R2 := fun x y H Q => match x, y with
  | .ref p, .int i => ∃ xs v, (SqL K H p xs ∨ SqT K H p xs) ∧ atI xs i = some v ∧ Q v H
  | .str z, .int i => ∃ c, z.length ≤ sizeLine ∧ atI z.cps.toList i = some c ∧ Q (.str ⟨#[c]⟩) H
  | _, _ => False
theorem ix_any : IxR X (uIx X.K) := by
  intro value slice pins s σ H x y v u Q I rx ry h hs
  refine ix_seq value slice pins s σ H x y v u Q I rx ry ?_ hs
  unfold uIx at h
  split at h
  · obtain ⟨xs, v, h1 | h1, h2, h3⟩ := h
    · exact .inl ⟨_, xs, _, v, rfl, rfl, h1, h2, h3⟩
    · exact .inr (.inl ⟨_, xs, _, v, rfl, rfl, h1, h2, h3⟩)
  · obtain ⟨c, h1, h2, h3⟩ := h
    exact .inr (.inr ⟨_, _, c, rfl, rfl, h1, h2, h3⟩)
  · exact h.elim
end
theorem le_line {n : Nat} (h : n ≤ 16777216) : n ≤ sizeLine := h
end Y

set_option Elab.async false
set_option linter.all false
set_option maxRecDepth 100000
set_option maxHeartbeats 4000000
/-! own layer: list comprehensions by an invariant, the list's own object at D -/
namespace Y
open PySem PySem.Spec L2 LamX
/-- what a comprehension of iterator J asks -/
def LcW (J : It) (g : TG) (tt : TT) (te : TE) (vs : List Nat) (σ : L2.St) (H1 : Hp) (D : Addr) (Qd : Hp → Prop) : Prop := ∃ W : Nat → Nat → Hp → Prop, (∃ m, W 0 m (upd H1 D (.lst []))) ∧ ∀ i m H, W i m H →
  (J.stop i H ∧ Qd H) ∨ (J.go i H ∧ ∃ Nx : Hp → Prop, (∀ H', Nx H' → ∃ m', m' < m ∧ W (i + 1) m' H') ∧ ∀ x H', J.yld i H x H' → g x (wipe σ vs) H' fun σ2 H2 => wipe σ2 vs = wipe σ vs ∧ tt σ2 H2 fun b H3 =>
    if b = true then te σ2 H3 fun y H4 => ∃ acc, H4 D = some (.lst acc) ∧ acc.length < sizeLine ∧ Nx (upd H4 D (.lst (acc ++ [y]))) else Nx H3)
/-- one turn of a comprehension whose state ahead of turn i is Pv i -/
def LcTurn (g : TG) (tt : TT) (te : TE) (vs : List Nat) (σ : L2.St) (D : Addr) (Pn : Hp → Prop) (x : V) (H : Hp) : Prop := ∀ (Nx : V → Hp → Prop) (Sk : Hp → Prop),
  (∀ y H4 acc, H4 D = some (.lst acc) → acc.length < sizeLine → (∀ H', Wr H4 D (.lst (acc ++ [y])) H' → Pn H') → Nx y H4) → (∀ H', Pn H' → Sk H') →
  g x (wipe σ vs) H fun σ2 H2 => wipe σ2 vs = wipe σ vs ∧ tt σ2 H2 fun b H3 => if b = true then te σ2 H3 Nx else Sk H3
section
variable {K : PySem.W.Frag} {a : Addr} {xs : List V} {g : TG} {tt : TT} {te : TE} {vs : List Nat} {σ : L2.St} {H1 : Hp} {D : Addr} {Qd : Hp → Prop}
theorem LcTurn.at {Pn : Hp → Prop} {x : V} {H : Hp} (t : LcTurn g tt te vs σ D Pn x H) : g x (wipe σ vs) H fun σ2 H2 => wipe σ2 vs = wipe σ vs ∧ tt σ2 H2 fun b H3 =>
    if b = true then te σ2 H3 fun y H4 => ∃ acc, H4 D = some (.lst acc) ∧ acc.length < sizeLine ∧ Pn (upd H4 D (.lst (acc ++ [y]))) else Pn H3 :=
  t _ _ (fun y H4 acc e l h => ⟨acc, e, l, h _ ⟨rfl, _, e, rfl, fun _ z => nomatch z⟩⟩) fun H' h => h
theorem lcl (Pv : Nat → Hp → Prop) (hD : H1 D = none) (h0 : ∀ H', Nw H1 D (.lst []) H' → Pv 0 H') (hl : ∀ i H, i ≤ xs.length → Pv i H → SqL K H a xs) (hd : ∀ H, Pv xs.length H → Qd H)
    (hs : ∀ i x H, xs[i]? = some x → Pv i H → LcTurn g tt te vs σ D (Pv (i + 1)) x H) : LcW (Itl K a) g tt te vs σ H1 D Qd :=
  lc_list Pv (h0 _ ⟨rfl, hD⟩) hl (fun i x H hx p => (hs i x H hx p).at) hd
theorem lcr {lo : Int} {n : Nat} (Pv : Nat → Hp → Prop) (hD : H1 D = none) (h0 : ∀ H', Nw H1 D (.lst []) H' → Pv 0 H') (hd : ∀ H, Pv n H → Qd H)
    (hs : ∀ i H, i < n → Pv i H → LcTurn g tt te vs σ D (Pv (i + 1)) (.int (lo + i)) H) : LcW (Itr lo n) g tt te vs σ H1 D Qd :=
  lc_range Pv (h0 _ ⟨rfl, hD⟩) (fun i H hx p => (hs i H hx p).at) hd
theorem lct (Pv : Nat → Hp → Prop) (hD : H1 D = none) (h0 : ∀ H', Nw H1 D (.lst []) H' → Pv 0 H') (hl : ∀ i H, i ≤ xs.length → Pv i H → SqT K H a xs) (hd : ∀ H, Pv xs.length H → Qd H)
    (hs : ∀ i x H, xs[i]? = some x → Pv i H → LcTurn g tt te vs σ D (Pv (i + 1)) x H) : LcW (Itt K a) g tt te vs σ H1 D Qd := by
  refine ⟨fun i m H => m = xs.length - i ∧ i ≤ xs.length ∧ Pv i H, ⟨xs.length, by simp, Nat.zero_le _, h0 _ ⟨rfl, hD⟩⟩, ?_⟩
  rintro i m H ⟨rfl, hi, p⟩
  have hq := hl i H hi p
  by_cases hlt : i < xs.length
  · refine .inr ⟨⟨xs, xs[i], hq, List.getElem?_eq_getElem hlt⟩, fun H' => Pv (i + 1) H', fun H' p' => ⟨xs.length - (i + 1), by omega, rfl, hlt, p'⟩, ?_⟩
    rintro x H' ⟨rfl, hx⟩
    exact (hs i x _ (hx xs hq) p).at
  · have e : i = xs.length := by omega
    exact .inl ⟨⟨xs, hq, by omega⟩, hd H (e ▸ p)⟩
end
end Y

set_option Elab.async false
set_option linter.all false
set_option maxRecDepth 100000
set_option maxHeartbeats 4000000
/-! own layer: == of data -/
namespace Y
open PySem PySem.Spec L2 LamX
mutual
/-- data without truths and dicts: == is sameness -/
def clean : PyData → Bool
  | .none | .int _ | .str _ => true
  | .bool _ | .dict _ => false
  | .list xs | .tuple xs => cleanAll xs
def cleanAll : List PyData → Bool
  | [] => true
  | x :: xs => clean x && cleanAll xs
end
mutual
theorem eqv_clean : ∀ d e : PyData, clean d = true → clean e = true → (PyData.eqv d e = true ↔ d = e)
  | .none, e, _, he => by cases e <;> simp_all [PyData.eqv, clean]
  | .bool _, _, h, _ => by simp [clean] at h
  | .dict _, _, h, _ => by simp [clean] at h
  | .int i, e, _, he => by cases e <;> simp_all [PyData.eqv, clean]
  | .str i, e, _, he => by cases e <;> simp_all [PyData.eqv, clean]
  | .list xs, e, hd, he => by
    cases e <;> simp_all [PyData.eqv, clean]
    rename_i ys
    exact eqvAll_clean xs ys hd he
  | .tuple xs, e, hd, he => by
    cases e <;> simp_all [PyData.eqv, clean]
    rename_i ys
    exact eqvAll_clean xs ys hd he
theorem eqvAll_clean : ∀ ds es : List PyData, cleanAll ds = true → cleanAll es = true → (PyData.eqvAll ds es = true ↔ ds = es)
  | [], es, _, _ => by cases es <;> simp [PyData.eqvAll]
  | x :: xs, es, hd, he => by
    cases es with
    | nil => simp [PyData.eqvAll]
    | cons y ys =>
      simp only [cleanAll, Bool.and_eq_true] at hd he
      simp only [PyData.eqvAll, Bool.and_eq_true, List.cons.injEq, eqv_clean x y hd.1 he.1, eqvAll_clean xs ys hd.2 he.2]
end
theorem eqv_dec {d e : PyData} (hd : clean d = true) (he : clean e = true) {p : Prop} [Decidable p] (h : d = e ↔ p) : PyData.eqv d e = decide p := by
  rw [Bool.eq_iff_iff, eqv_clean d e hd he, h]
  simp
/-- scalars as data -/
def sd : V → PyData
  | .int i => .int i
  | .str x => .str x
  | .bl b => .bool b
  | _ => .none
/-- an int, None or a short text -/
def flat : V → Bool
  | .int _ => true
  | .non => true
  | .str x => PyData.strOk x
  | _ => false
theorem clean_l {xs : List PyData} (h : cleanAll xs = true) : clean (.list xs) = true := h
theorem clean_t {xs : List PyData} (h : cleanAll xs = true) : clean (.tuple xs) = true := h
theorem sd_inj {x y : V} (hx : flat x = true) (hy : flat y = true) (h : sd x = sd y) : x = y := by
  cases x <;> cases y <;> simp_all [sd, flat]
theorem clean_sd {x : V} (hx : flat x = true) : clean (sd x) = true := by cases x <;> simp_all [sd, flat, clean]
theorem cleanAll_sd : ∀ {xs : List V}, (∀ x ∈ xs, flat x = true) → cleanAll (xs.map sd) = true
  | [], _ => rfl
  | x :: xs, h => by
    simp only [List.map_cons, cleanAll, Bool.and_eq_true]
    exact ⟨clean_sd (h x (by simp)), cleanAll_sd fun y hy => h y (by simp [hy])⟩
theorem canLay_sd {x : V} (hx : flat x = true) : (sd x).canLay0 = true := by cases x <;> simp_all [sd, flat, PyData.canLay0]
theorem canLayAll_sd : ∀ {xs : List V}, (∀ x ∈ xs, flat x = true) → PyData.canLayAll0 (xs.map sd) = true
  | [], _ => rfl
  | x :: xs, h => by
    simp only [List.map_cons, PyData.canLayAll0, Bool.and_eq_true]
    exact ⟨canLay_sd (h x (by simp)), canLayAll_sd fun y hy => h y (by simp [hy])⟩
theorem depth_sd {x : V} : (sd x).depth = 0 := by cases x <;> simp [sd, PyData.depth]
theorem depthAll_sd : ∀ {xs : List V}, PyData.depthAll (xs.map sd) = 0
  | [] => by simp [PyData.depthAll]
  | x :: xs => by simp only [List.map_cons, PyData.depthAll, depth_sd, depthAll_sd]; rfl
theorem shaped_sd {x : V} (hx : flat x = true) : SeqAt.shaped (sd x) = true := by
  simp only [SeqAt.shaped, canLay_sd hx, depth_sd, Bool.true_and, decide_eq_true_eq]; omega
theorem shaped_list {xs : List V} (h : ∀ x ∈ xs, flat x = true) : SeqAt.shaped (.list (xs.map sd)) = true := by
  simp only [SeqAt.shaped, PyData.canLay0, canLayAll_sd h, PyData.depth, depthAll_sd, Bool.true_and, decide_eq_true_eq]; omega
theorem shaped_tup {xs : List V} (h : ∀ x ∈ xs, flat x = true) : SeqAt.shaped (.tuple (xs.map sd)) = true := by
  simp only [SeqAt.shaped, PyData.canLay0, canLayAll_sd h, PyData.depth, depthAll_sd, Bool.true_and, decide_eq_true_eq]; omega
section
variable {K : PySem.W.Frag} {H : Hp} {a b : Addr} {xs ys : List V} {f : Bool → Bool} {Q : VK} {x y : V}
theorem dp_flat (hx : flat x = true) : Dp K H x (sd x) := by
  cases x <;> simp_all [flat, sd] <;> constructor
theorem dps_flat : ∀ {xs : List V}, (∀ x ∈ xs, flat x = true) → DpAll K H xs (xs.map sd)
  | [], _ => .nil
  | x :: xs, h => .cons (dp_flat (h x (by simp))) (dps_flat fun y hy => h y (by simp [hy]))
theorem map_sd_inj : ∀ {xs ys : List V}, (∀ x ∈ xs, flat x = true) → (∀ x ∈ ys, flat x = true) → xs.map sd = ys.map sd → xs = ys
  | [], [], _, _, _ => rfl
  | [], _ :: _, _, _, h => by simp at h
  | _ :: _, [], _, _, h => by simp at h
  | x :: xs, y :: ys, hx, hy, h => by
    simp only [List.map_cons, List.cons.injEq] at h
    rw [sd_inj (hx x (by simp)) (hy y (by simp)) h.1, map_sd_inj (fun z hz => hx z (by simp [hz])) (fun z hz => hy z (by simp [hz])) h.2]
/-- == of two lists of scalars -/
theorem veq_ll (h1 : SqL K H a xs) (h2 : SqL K H b ys) (hx : ∀ x ∈ xs, flat x = true) (hy : ∀ x ∈ ys, flat x = true) {p : Prop} [Decidable p] (hp : xs = ys ↔ p) (q : Q (.bl (f (decide p))) H) : vEq K f (.ref a) (.ref b) H Q := by
  refine .inr ⟨_, _, .lst h1 (dps_flat hx), .lst h2 (dps_flat hy), shaped_list hx, shaped_list hy, ?_⟩
  rw [eqv_dec (p := p) (clean_l (cleanAll_sd hx)) (clean_l (cleanAll_sd hy)) ⟨fun e => hp.mp (map_sd_inj hx hy (by simpa using e)), fun e => by rw [hp.mpr e]⟩]
  exact q
theorem veq_tt (h1 : SqT K H a xs) (h2 : SqT K H b ys) (hx : ∀ x ∈ xs, flat x = true) (hy : ∀ x ∈ ys, flat x = true) {p : Prop} [Decidable p] (hp : xs = ys ↔ p) (q : Q (.bl (f (decide p))) H) : vEq K f (.ref a) (.ref b) H Q := by
  refine .inr ⟨_, _, .tup h1 (dps_flat hx), .tup h2 (dps_flat hy), shaped_tup hx, shaped_tup hy, ?_⟩
  rw [eqv_dec (p := p) (clean_t (cleanAll_sd hx)) (clean_t (cleanAll_sd hy)) ⟨fun e => hp.mp (map_sd_inj hx hy (by simpa using e)), fun e => by rw [hp.mpr e]⟩]
  exact q
/-- == of data in general -/
def _root_.L2.V.isRef : L2.V → Bool
  | .ref _ => true
  | _ => false
theorem veq_d {d e : PyData} (n : (x.isRef || y.isRef) = true) (h1 : Dp K H x d) (h2 : Dp K H y e) (s1 : SeqAt.shaped d = true) (s2 : SeqAt.shaped e = true) {b : Bool} (hb : PyData.eqv d e = b) (q : Q (.bl (f b)) H) : vEq K f x y H Q := by
  have : (scal x y = true ∧ Q (.bl (f (decide (x = y)))) H) ∨ ∃ d e, Dp K H x d ∧ Dp K H y e ∧ SeqAt.shaped d = true ∧ SeqAt.shaped e = true ∧ Q (.bl (f (PyData.eqv d e))) H :=
    .inr ⟨d, e, h1, h2, s1, s2, by rw [hb]; exact q⟩
  unfold vEq
  cases x <;> cases y <;> first | exact this | simp [V.isRef] at n
theorem ints_flat {ns : List Int} : ∀ x ∈ ns.map V.int, flat x = true := fun x h => by
  obtain ⟨n, _, rfl⟩ := List.mem_map.mp h
  rfl
theorem ints_inj {xs ys : List Int} : xs.map V.int = ys.map V.int ↔ xs = ys :=
  ⟨fun h => (List.map_inj_right fun _ _ e => V.int.inj e).mp h, fun h => by rw [h]⟩
end
/-! ### parts of lists -/
section
variable {xs : List V}
theorem cut_to {k : Int} (h : 0 ≤ k) : cutV xs none (some k) = xs.take k.toNat := by
  have e : ¬ k < 0 := by omega
  simp only [cutV, HT.sIx, if_neg e, Nat.sub_zero, List.drop_zero]
  by_cases l : k.toNat ≤ xs.length
  · rw [Nat.min_eq_left l]
  · rw [Nat.min_eq_right (by omega), List.take_of_length_le (Nat.le_refl _), List.take_of_length_le (by omega)]
theorem cut_from {k : Int} (h : 0 ≤ k) : cutV xs (some k) none = xs.drop k.toNat := by
  have e : ¬ k < 0 := by omega
  simp only [cutV, HT.sIx, if_neg e]
  by_cases l : k.toNat ≤ xs.length
  · rw [Nat.min_eq_left l, List.take_of_length_le (by simp)]
  · rw [Nat.min_eq_right (by omega), List.drop_of_length_le (by omega), List.drop_of_length_le (by omega)]; simp
theorem cut_all : cutV xs none none = xs := by simp [cutV, HT.sIx]
theorem cut_both {i j : Int} (h : 0 ≤ i) (h2 : 0 ≤ j) : cutV xs (some i) (some j) = (xs.take j.toNat).drop i.toNat := by
  have e : ¬ i < 0 := by omega
  have e2 : ¬ j < 0 := by omega
  simp only [cutV, HT.sIx, if_neg e, if_neg e2]
  rw [List.drop_take]
  by_cases l : i.toNat ≤ xs.length
  · rw [Nat.min_eq_left l]
    by_cases l2 : j.toNat ≤ xs.length
    · rw [Nat.min_eq_left l2]
    · rw [Nat.min_eq_right (by omega), List.take_of_length_le (by simp), List.take_of_length_le (by simp; omega)]
  · rw [Nat.min_eq_right (by omega : xs.length ≤ i.toNat), List.drop_of_length_le (by omega), List.drop_of_length_le (by omega)]; simp
theorem cut_last : cutV xs none (some (-1)) = xs.dropLast := by
  simp only [cutV, HT.sIx, Nat.sub_zero, List.drop_zero, List.dropLast_eq_take]
  rw [if_pos (by omega)]
  congr 1
  omega
/-- the i-th from the first on, or back from the last -/
theorem atI_nat {α : Type} {xs : List α} {i : Int} (h : 0 ≤ i) (l : i < xs.length) : atI xs i = xs[i.toNat]? := by
  simp only [atI, ixN, if_pos h, if_pos l, Option.bind_some]
theorem atI_back {α : Type} {xs : List α} {i : Int} (h : i < 0) (l : -(xs.length : Int) ≤ i) : atI xs i = xs[(i + xs.length).toNat]? := by
  simp only [atI, ixN, if_neg (by omega : ¬ 0 ≤ i), if_pos l, Option.bind_some]
theorem atI_m1 {α : Type} {xs : List α} {x : α} : atI (xs ++ [x]) (-1) = some x := by
  rw [atI_back (by omega) (by simp; omega)]
  have : ((-1 : Int) + ((xs ++ [x]).length : Nat)).toNat = xs.length := by simp only [List.length_append, List.length_singleton]; omega
  rw [this]; simp
theorem atI_0 {α : Type} {xs : List α} {x : α} : atI (x :: xs) 0 = some x := by
  rw [atI_nat (by omega) (by simp only [List.length_cons]; omega)]; rfl
theorem ixN_nat {n : Nat} {i : Int} (h : 0 ≤ i) (l : i < n) : ixN n i = some i.toNat := by
  simp only [ixN, if_pos h, if_pos l]
end
/-! ### steps of change -/
section
variable {T : List (Addr × Str)} {S S' : Addr → Prop} {H G H' : Hp} {p l C dx : Addr} {o : HO} {K : PySem.W.Frag} {xs : List V}
theorem Chg.nw (n : Nw G p o H') (c : Chg T S H G) : Chg T S H H' := c.trans (S' := nil) n.chg fun _ z => z.elim
theorem Chg.mkd (n : Mkd G C p dx H') (c : Chg T S H G) : Chg T S H H' := c.trans (S' := nil) n.chg fun _ z => z.elim
theorem Chg.tp (n : Tp K G p xs H') (c : Chg T S H G) : Chg T S H H' := c.trans (S' := nil) n.chg fun _ z => z.elim
theorem Chg.wr (n : Wr G l o H') (c : Chg T S H G) (h : S l ∨ H l = none) : Chg T S H H' := c.trans (S' := In [l]) (n.chg (by simp [In])) fun b z => by
  have : b = l := by simpa [In] using z
  rw [this]; exact h
theorem Chg.ch (n : Chg T S' G H') (c : Chg T S H G) (h : ∀ b, S' b → S b ∨ H b = none) : Chg T S H H' := c.trans n h
theorem Chg.gr (n : Grows T G H') (c : Chg T S H G) : Chg T S H H' := c.trans (S' := nil) (.ofGrows n) fun _ z => z.elim
theorem sub_nil0 : ∀ b, nil b → S b ∨ H b = none := fun _ z => z.elim
theorem sub_nil : ∀ b, In [] b → S b ∨ H b = none := fun _ z => nomatch z
theorem sub_cons {ls : List Addr} (h : S l ∨ H l = none) (t : ∀ b, In ls b → S b ∨ H b = none) : ∀ b, In (l :: ls) b → S b ∨ H b = none := fun b z => by
  rcases List.mem_cons.mp z with e | z
  · rw [e]; exact h
  · exact t b z
theorem Grows.look (g : Grows T H H') {b : Addr} {u : HO} (h : H b = some u) (nt : isTbl u = false) : H' b = some u := g.ext b u h (isTbl_ne nt)
theorem SqL.keep {H H' : Hp} {a : Addr} (h : SqL K H a xs) (k : ∀ o, H a = some o → isTbl o = false → H' a = some o) : SqL K H' a xs := by
  rcases h with (h | ⟨ob, h⟩) | h
  · exact .inl (.inl (k _ h rfl))
  · exact .inl (.inr ⟨ob, k _ h rfl⟩)
  · exact .inr h
end
/-! ### calls by values -/
section
variable {X : Cx}
def vLen (K : PySem.W.Frag) : List V → Hp → VK → Prop := fun xs H Q => match xs with
  | [.ref p] => ∃ ys, (SqL K H p ys ∨ SqT K H p ys) ∧ Q (.int (ys.length : Nat)) H
  | [.str z] => z.length ≤ sizeLine ∧ Q (.int (z.length : Nat)) H
  | _ => False
theorem call_lenV : CallR X (.builtin "len") (vLen X.K) := crI call_len fun xs H Q h => by
  unfold vLen at h
  split at h
  · obtain ⟨ys, a, b⟩ := h
    exact .inl ⟨_, ys, rfl, a, b⟩
  · exact .inr ⟨_, rfl, h⟩
  · exact h.elim
def vList (K : PySem.W.Frag) : List V → Hp → VK → Prop := fun xs H Q => match xs with
  | [.ref p] => ∃ ys, (SqL K H p ys ∨ SqT K H p ys) ∧ ∀ l H', Nw H l (.lst ys) H' → Q (.ref l) H'
  | _ => False
theorem call_listV : CallR X (.type "list") (vList X.K) := crI call_list fun xs H Q h => by
  unfold vList at h
  split at h
  · obtain ⟨ys, a, b⟩ := h
    exact ⟨_, ys, rfl, a, b⟩
  · exact h.elim
def vTuple (K : PySem.W.Frag) : List V → Hp → VK → Prop := fun xs H Q => match xs with
  | [.ref p] => (∃ ys, SqL K H p ys ∧ ∀ l H', Nw H l (.tup ys) H' → Q (.ref l) H') ∨ (∃ ys, SqT K H p ys ∧ Q (.ref p) H)
  | _ => False
theorem call_tupleV : CallR X (.type "tuple") (vTuple X.K) := crI call_tuple fun xs H Q h => by
  unfold vTuple at h
  split at h
  · rcases h with ⟨ys, a, b⟩ | ⟨ys, a, b⟩
    · exact ⟨_, ys, rfl, .inl ⟨a, b⟩⟩
    · exact ⟨_, ys, rfl, .inr ⟨a, b⟩⟩
  · exact h.elim
end
/-! ### x op= y of ints -/
section
variable {X : Cx}
def uIp (C : Int → Int → Prop) (f : Int → Int → Int) : TIp := fun x y H Q => match x, y with
  | .int i, .int j => C i j ∧ Q (.int (f i j)) H
  | _, _ => False
def uIp0 (f : Int → Int → Int) : TIp := fun x y H Q => match x, y with
  | .int i, .int j => Q (.int (f i j)) H
  | _, _ => False
theorem ip_sub : PIp X .Sub (uIp0 fun i j => i - j) := by
  intro pins s σ H x y u v Q I rx ry h
  cases x <;> cases y <;> simp only [uIp0] at h <;> first
    | exact h.elim
    | exact L2.ip_sub pins s σ H _ _ u v Q I rx ry ⟨_, _, rfl, rfl, h⟩
theorem ip_mult : PIp X .Mult (uIp CMul fun i j => i * j) := by
  intro pins s σ H x y v u Q I r1 r2 h
  cases x <;> cases y <;> simp only [uIp] at h <;> first
    | exact h.elim
    | skip
  obtain ⟨t, rfl⟩ := r1
  obtain ⟨t', rfl⟩ := r2
  exact PySem.P.imul_int ⟨.int _, H, I.tok _, ⟨_, rfl⟩, h.2⟩ h.1.ok
theorem ip_floordiv : PIp X .FloorDiv (uIp CDiv fun i j => i / j) := by
  intro pins s σ H x y v u Q I r1 r2 h
  cases x <;> cases y <;> simp only [uIp] at h <;> first
    | exact h.elim
    | skip
  obtain ⟨t, rfl⟩ := r1
  obtain ⟨t', rfl⟩ := r2
  rename_i i j
  have h1 : (0 : Int) < j := h.1.1
  have h2 : j < 1073741824 := h.1.2
  exact PyProof.Rows.ifloordiv_int (by omega) (by rw [Int.fdiv_eq_ediv_of_nonneg i (by omega)]; exact ⟨.int _, H, I.tok _, ⟨_, rfl⟩, h.2⟩) (.inl (PyProof.noPylong_small (by omega)))
theorem ip_mod : PIp X .Mod (uIp (fun _ j => 0 < j) fun i j => i % j) := by
  intro pins s σ H x y v u Q I r1 r2 h
  cases x <;> cases y <;> simp only [uIp] at h <;> first
    | exact h.elim
    | skip
  obtain ⟨t, rfl⟩ := r1
  obtain ⟨t', rfl⟩ := r2
  rename_i i j
  have h1 : (0 : Int) < j := h.1
  exact PyProof.Rows.imod_int (by omega) (by rw [Int.fmod_eq_emod_of_nonneg i (by omega)]; exact ⟨.int _, H, I.tok _, ⟨_, rfl⟩, h.2⟩)
end
/-! ### while -/
def WhN (Pv : L2.St → Hp → Prop) (μ : L2.St → Hp → Nat) (m : Nat) (D : Ends) (tb : TS) (σ : L2.St) (H1 : Hp) : Prop :=
  ∃ N : L2.St → Hp → Prop, (∀ σ' H', N σ' H' → ∃ m', m' < m ∧ m' = μ σ' H' ∧ Pv σ' H') ∧ tb { D with nx := N, ct := N, bk := D.nx } σ H1
theorem wh_step {Pv : L2.St → Hp → Prop} {μ : L2.St → Hp → Nat} {m : Nat} {D : Ends} {tb : TS} {σ : L2.St} {H1 : Hp}
    (h : tb { D with nx := fun σ' H' => Pv σ' H' ∧ μ σ' H' < m, ct := fun σ' H' => Pv σ' H' ∧ μ σ' H' < m, bk := D.nx } σ H1) : WhN Pv μ m D tb σ H1 := ⟨_, fun _ _ z => ⟨_, z.2, rfl, z.1⟩, h⟩
theorem while_n {c : TT} {tb : TS} {D : Ends} {σ : L2.St} {H : Hp} (Pv : L2.St → Hp → Prop) (μ : L2.St → Hp → Nat) (h0 : Pv σ H)
    (hs : ∀ σ H, Pv σ H → c σ H fun b H1 => if b = true then WhN Pv μ (μ σ H) D tb σ H1 else D.nx σ H1) : tWhile c tb D σ H := by
  refine ⟨fun m σ H => m = μ σ H ∧ Pv σ H, ⟨_, rfl, h0⟩, ?_⟩
  rintro m σ H ⟨rfl, p⟩
  exact hs σ H p
end Y

set_option Elab.async false
set_option linter.all false
set_option maxRecDepth 100000
set_option maxHeartbeats 4000000
/-! own layer: generator expressions by an invariant -/
namespace Y
open PySem PySem.Spec L2 LamX
/-- one turn of a generator expression that has handed on ys -/
def GxTurn (g : TG) (tt : TT) (te : TE) (vs : List Nat) (σ : L2.St) (ys : List V) (Pn : List V → Hp → Prop) (x : V) (H : Hp) : Prop := ∀ (Nx : V → Hp → Prop) (Sk : Hp → Prop),
  (∀ y H4, ys.length < sizeLine → Pn (ys ++ [y]) H4 → Nx y H4) → (∀ H', Pn ys H' → Sk H') →
  g x (wipe σ vs) H fun σ2 H2 => wipe σ2 vs = wipe σ vs ∧ tt σ2 H2 fun b H3 => if b = true then te σ2 H3 Nx else Sk H3
section
variable {K : PySem.W.Frag} {a : Addr} {xs : List V} {g : TG} {tt : TT} {te : TE} {vs : List Nat} {σ : L2.St} {H1 : Hp} {wi : TI} {cont : List V → Hp → Prop}
theorem GxTurn.at {Pn : List V → Hp → Prop} {x : V} {H : Hp} {ys : List V} (t : GxTurn g tt te vs σ ys Pn x H) : g x (wipe σ vs) H fun σ2 H2 => wipe σ2 vs = wipe σ vs ∧ tt σ2 H2 fun b H3 =>
    if b = true then te σ2 H3 fun y H4 => ys.length < sizeLine ∧ Pn (ys ++ [y]) H4 else Pn ys H3 :=
  t _ _ (fun y H4 l h => ⟨l, h⟩) fun H' h => h
theorem gxr {lo : Int} {n : Nat} (Pv : Nat → List V → Hp → Prop) (h0 : Pv 0 [] H1) (hd : ∀ ys H, Pv n ys H → cont ys H)
    (hs : ∀ i ys H, i < n → Pv i ys H → GxTurn g tt te vs σ ys (Pv (i + 1)) (.int (lo + i)) H) : tGx wi g tt te vs (Itr lo n) H1 σ cont := by
  refine ⟨fun i m ys H => m = n - i ∧ i ≤ n ∧ Pv i ys H, ⟨n, by simp, Nat.zero_le _, h0⟩, ?_⟩
  rintro i m ys H ⟨rfl, hi, p⟩
  by_cases hlt : i < n
  · refine .inr ⟨hlt, fun ys' H' => Pv (i + 1) ys' H', fun ys' H' p' => ⟨n - (i + 1), by omega, rfl, hlt, p'⟩, ?_⟩
    rintro x H' ⟨rfl, rfl⟩
    exact (hs i ys _ hlt p).at
  · have e : i = n := by omega
    exact .inl ⟨by show n ≤ i; omega, hd ys H (e ▸ p)⟩
theorem gxl (Pv : Nat → List V → Hp → Prop) (h0 : Pv 0 [] H1) (hl : ∀ i ys H, i ≤ xs.length → Pv i ys H → SqL K H a xs) (hd : ∀ ys H, Pv xs.length ys H → cont ys H)
    (hs : ∀ i x ys H, xs[i]? = some x → Pv i ys H → GxTurn g tt te vs σ ys (Pv (i + 1)) x H) : tGx wi g tt te vs (Itl K a) H1 σ cont := by
  refine ⟨fun i m ys H => m = xs.length - i ∧ i ≤ xs.length ∧ Pv i ys H, ⟨xs.length, by simp, Nat.zero_le _, h0⟩, ?_⟩
  rintro i m ys H ⟨rfl, hi, p⟩
  have hq := hl i ys H hi p
  by_cases hlt : i < xs.length
  · refine .inr ⟨⟨xs, xs[i], hq, List.getElem?_eq_getElem hlt⟩, fun ys' H' => Pv (i + 1) ys' H', fun ys' H' p' => ⟨xs.length - (i + 1), by omega, rfl, hlt, p'⟩, ?_⟩
    rintro x H' ⟨rfl, hx⟩
    exact (hs i x ys _ (hx xs hq) p).at
  · have e : i = xs.length := by omega
    exact .inl ⟨⟨xs, hq, by omega⟩, hd ys H (e ▸ p)⟩
theorem gxt (Pv : Nat → List V → Hp → Prop) (h0 : Pv 0 [] H1) (hl : ∀ i ys H, i ≤ xs.length → Pv i ys H → SqT K H a xs) (hd : ∀ ys H, Pv xs.length ys H → cont ys H)
    (hs : ∀ i x ys H, xs[i]? = some x → Pv i ys H → GxTurn g tt te vs σ ys (Pv (i + 1)) x H) : tGx wi g tt te vs (Itt K a) H1 σ cont := by
  refine ⟨fun i m ys H => m = xs.length - i ∧ i ≤ xs.length ∧ Pv i ys H, ⟨xs.length, by simp, Nat.zero_le _, h0⟩, ?_⟩
  rintro i m ys H ⟨rfl, hi, p⟩
  have hq := hl i ys H hi p
  by_cases hlt : i < xs.length
  · refine .inr ⟨⟨xs, xs[i], hq, List.getElem?_eq_getElem hlt⟩, fun ys' H' => Pv (i + 1) ys' H', fun ys' H' p' => ⟨xs.length - (i + 1), by omega, rfl, hlt, p'⟩, ?_⟩
    rintro x H' ⟨rfl, hx⟩
    exact (hs i x ys _ (hx xs hq) p).at
  · have e : i = xs.length := by omega
    exact .inl ⟨⟨xs, hq, by omega⟩, hd ys H (e ▸ p)⟩
/-- one turn of one whose items are known: the j-th of ys is due -/
def GxNTurn (g : TG) (tt : TT) (te : TE) (vs : List Nat) (σ : L2.St) (ys : List V) (out : Nat → Hp → Prop) (j : Nat) (Pn : Nat → Hp → Prop) (x : V) (H : Hp) : Prop := ∀ (Nx : V → Hp → Prop) (Sk : Hp → Prop),
  (∀ y H4, ys[j]? = some y → out j H4 → Pn (j + 1) H4 → Nx y H4) → (∀ H', Pn j H' → Sk H') →
  g x (wipe σ vs) H fun σ2 H2 => wipe σ2 vs = wipe σ vs ∧ tt σ2 H2 fun b H3 => if b = true then te σ2 H3 Nx else Sk H3
theorem GxNTurn.at {Pn : Nat → Hp → Prop} {x : V} {H : Hp} {ys : List V} {out : Nat → Hp → Prop} {j : Nat} (t : GxNTurn g tt te vs σ ys out j Pn x H) : g x (wipe σ vs) H fun σ2 H2 => wipe σ2 vs = wipe σ vs ∧ tt σ2 H2 fun b H3 =>
    if b = true then te σ2 H3 fun y H4 => ys[j]? = some y ∧ out j H4 ∧ Pn (j + 1) H4 else Pn j H3 :=
  t _ _ (fun y H4 a b c => ⟨a, b, c⟩) fun H' h => h
variable {ys : List V} {out : Nat → Hp → Prop} {ct : Hp → Prop}
theorem gnr {lo : Int} {n : Nat} (Pv : Nat → Nat → Hp → Prop) (h0 : Pv 0 0 H1) (hd : ∀ j H, Pv n j H → j = ys.length ∧ ct H)
    (hs : ∀ i j H, i < n → Pv i j H → GxNTurn g tt te vs σ ys out j (Pv (i + 1)) (.int (lo + i)) H) : tGxN wi g tt te vs (Itr lo n) H1 σ ys out ct := by
  refine ⟨fun i m j H => m = n - i ∧ i ≤ n ∧ Pv i j H, ⟨n, by simp, Nat.zero_le _, h0⟩, ?_⟩
  rintro i m j H ⟨rfl, hi, p⟩
  by_cases hlt : i < n
  · refine .inr ⟨hlt, fun j' H' => Pv (i + 1) j' H', fun j' H' p' => ⟨n - (i + 1), by omega, rfl, hlt, p'⟩, ?_⟩
    rintro x H' ⟨rfl, rfl⟩
    exact (hs i j _ hlt p).at
  · have e : i = n := by omega
    obtain ⟨a, b⟩ := hd j H (e ▸ p)
    exact .inl ⟨by show n ≤ i; omega, a, b⟩
theorem gnl (Pv : Nat → Nat → Hp → Prop) (h0 : Pv 0 0 H1) (hl : ∀ i j H, i ≤ xs.length → Pv i j H → SqL K H a xs) (hd : ∀ j H, Pv xs.length j H → j = ys.length ∧ ct H)
    (hs : ∀ i x j H, xs[i]? = some x → Pv i j H → GxNTurn g tt te vs σ ys out j (Pv (i + 1)) x H) : tGxN wi g tt te vs (Itl K a) H1 σ ys out ct := by
  refine ⟨fun i m j H => m = xs.length - i ∧ i ≤ xs.length ∧ Pv i j H, ⟨xs.length, by simp, Nat.zero_le _, h0⟩, ?_⟩
  rintro i m j H ⟨rfl, hi, p⟩
  have hq := hl i j H hi p
  by_cases hlt : i < xs.length
  · refine .inr ⟨⟨xs, xs[i], hq, List.getElem?_eq_getElem hlt⟩, fun j' H' => Pv (i + 1) j' H', fun j' H' p' => ⟨xs.length - (i + 1), by omega, rfl, hlt, p'⟩, ?_⟩
    rintro x H' ⟨rfl, hx⟩
    exact (hs i x j _ (hx xs hq) p).at
  · have e : i = xs.length := by omega
    obtain ⟨a, b⟩ := hd j H (e ▸ p)
    exact .inl ⟨⟨xs, hq, by omega⟩, a, b⟩
theorem gnt (Pv : Nat → Nat → Hp → Prop) (h0 : Pv 0 0 H1) (hl : ∀ i j H, i ≤ xs.length → Pv i j H → SqT K H a xs) (hd : ∀ j H, Pv xs.length j H → j = ys.length ∧ ct H)
    (hs : ∀ i x j H, xs[i]? = some x → Pv i j H → GxNTurn g tt te vs σ ys out j (Pv (i + 1)) x H) : tGxN wi g tt te vs (Itt K a) H1 σ ys out ct := by
  refine ⟨fun i m j H => m = xs.length - i ∧ i ≤ xs.length ∧ Pv i j H, ⟨xs.length, by simp, Nat.zero_le _, h0⟩, ?_⟩
  rintro i m j H ⟨rfl, hi, p⟩
  have hq := hl i j H hi p
  by_cases hlt : i < xs.length
  · refine .inr ⟨⟨xs, xs[i], hq, List.getElem?_eq_getElem hlt⟩, fun j' H' => Pv (i + 1) j' H', fun j' H' p' => ⟨xs.length - (i + 1), by omega, rfl, hlt, p'⟩, ?_⟩
    rintro x H' ⟨rfl, hx⟩
    exact (hs i x j _ (hx xs hq) p).at
  · have e : i = xs.length := by omega
    obtain ⟨a, b⟩ := hd j H (e ▸ p)
    exact .inl ⟨⟨xs, hq, by omega⟩, a, b⟩
end
end Y

set_option Elab.async false
set_option linter.all false
set_option maxRecDepth 100000
/-! own layer: the rules with the text's K named ahead -/
namespace Y
open PySem PySem.Spec L2 LamX
section
variable {X : Cx} {K : PySem.W.Frag} (hK : X.K = K)
include hK
theorem op_addK : OpR X (binaryOp .Add) (uAdd K) := hK ▸ op_add
theorem op_eqK (hu : X.A.units + 64 < cLine) : OpR X (compareOp .Eq) (vEq K id) := hK ▸ op_eqV hu
theorem op_neK (hu : X.A.units + 64 < cLine) : OpR X (compareOp .NotEq) (vEq K not) := hK ▸ op_neV hu
theorem lenK : CallR X (.builtin "len") (vLen K) := hK ▸ call_lenV
theorem listK : CallR X (.type "list") (vList K) := hK ▸ call_listV
theorem tupleK : CallR X (.type "tuple") (vTuple K) := hK ▸ call_tupleV
theorem slK : SlR X (uSl K) := hK ▸ sl_any
theorem ixK : IxR X (uIx K) := hK ▸ ix_any
theorem pi_seqK {tg l : Expr} {tl : TE} (hl : PE X l tl) : PI X tg l (iSeq K tl) := hK ▸ pi_seq hl
theorem pe_revK {e : Expr} {te : TE} {k : Nat} {p1 p2 p3 pos : Pos} (he : PE X e te) : PE X (.Subscript e (.Slice none none (some (.UnaryOp .USub (.Constant (.int 1) k p1) p2)) p3) pos) (tRev K te) := hK ▸ pe_rev he
end
section
variable {K : PySem.W.Frag} {H H' : Hp} {a p l : Addr} {xs ys : List V} {o u : HO} {T : List (Addr × Str)} {S : Addr → Prop}
theorem SqT.keep (h : SqT K H a xs) (k : ∀ o, H a = some o → isTbl o = false → kd o ≠ 0 → H' a = some o) : SqT K H' a xs := by
  rcases h with (h | ⟨ob, h⟩) | h
  · exact .inl (.inl (k _ h rfl (by simp [kd])))
  · exact .inl (.inr ⟨ob, k _ h rfl (by simp [kd])⟩)
  · exact .inr h
theorem SqT.nw (n : Nw H p o H') (h : SqT K H a xs) : SqT K H' a xs := Y.SqT.keep h fun _ e _ _ => n.look e
theorem SqT.tp (n : Tp K H p ys H') (h : SqT K H a xs) : SqT K H' a xs := Y.SqT.keep h fun _ e _ _ => n.same _ _ e
theorem SqT.mkd {C dx : Addr} (n : Mkd H C p dx H') (h : SqT K H a xs) : SqT K H' a xs := Y.SqT.keep h fun _ e _ _ => n.look e
theorem SqT.wrl {zs : List V} (n : Wr H l o H') (e : H l = some (.lst zs)) (h : SqT K H a xs) : SqT K H' a xs := Y.SqT.keep h fun o e2 _ k => n.look e2 fun z => k (by rw [z, e] at e2; cases e2; rfl)
theorem SqT.chg (c : Chg T S H H') (h : SqT K H a xs) (n : ¬ S a) : SqT K H' a xs := Y.SqT.keep h fun _ e t _ => c.look e n t
theorem SqL.nw (n : Nw H p o H') (h : SqL K H a xs) : SqL K H' a xs := Y.SqL.keep h fun _ e _ => n.look e
theorem SqL.tp (n : Tp K H p ys H') (h : SqL K H a xs) : SqL K H' a xs := Y.SqL.keep h fun _ e _ => n.same _ _ e
theorem SqL.mkd {C dx : Addr} (n : Mkd H C p dx H') (h : SqL K H a xs) : SqL K H' a xs := Y.SqL.keep h fun _ e _ => n.look e
theorem SqL.wr (n : Wr H l o H') (h : SqL K H a xs) (d : a ≠ l) : SqL K H' a xs := Y.SqL.keep h fun _ e _ => n.look e d
end
theorem lt1000 {n : Nat} (h : Nat.ble (n + 1) 1000 = true) : n < 1000 := Nat.le_of_ble_eq_true h
theorem ne_fr {H : Hp} {b p : Addr} {u : HO} (n : H p = none) (h : H b = some u) : b ≠ p := ne_of_none h n
/-! ### lists -/
theorem snocRec {α : Type} {P : List α → Prop} (n : P []) (s : ∀ xs x, P xs → P (xs ++ [x])) (xs : List α) : P xs := by
  have : ∀ k (xs : List α), xs.length = k → P xs := by
    intro k
    induction k with
    | zero => intro xs h; rw [List.length_eq_zero_iff.mp h]; exact n
    | succ k ih =>
      intro xs h
      rcases List.eq_nil_or_concat xs with e | ⟨ys, y, e⟩
      · rw [e] at h; simp at h
      · rw [List.concat_eq_append] at e
        subst e
        exact s _ _ (ih ys (by simp at h; omega))
  exact this _ xs rfl
inductive All2 {α β : Type} (R : α → β → Prop) : List α → List β → Prop
  | nil : All2 R [] []
  | cons {a b as bs} : R a b → All2 R as bs → All2 R (a :: as) (b :: bs)
theorem All2.imp {α β : Type} {R S : α → β → Prop} {as : List α} {bs : List β} (h : All2 R as bs) (i : ∀ a b, R a b → S a b) : All2 S as bs := by
  induction h with
  | nil => exact .nil
  | cons r _ ih => exact .cons (i _ _ r) ih
theorem All2.len {α β : Type} {R : α → β → Prop} {as : List α} {bs : List β} (h : All2 R as bs) : as.length = bs.length := by
  induction h with
  | nil => rfl
  | cons r _ ih => simp [ih]
theorem All2.app {α β : Type} {R : α → β → Prop} {as as' : List α} {bs bs' : List β} (h : All2 R as bs) (h' : All2 R as' bs') : All2 R (as ++ as') (bs ++ bs') := by
  induction h with
  | nil => exact h'
  | cons r _ ih => exact .cons r ih
theorem All2.snoc {α β : Type} {R : α → β → Prop} {as : List α} {bs : List β} {a : α} {b : β} (h : All2 R as bs) (r : R a b) : All2 R (as ++ [a]) (bs ++ [b]) := h.app (.cons r .nil)
theorem All2.get {α β : Type} {R : α → β → Prop} {as : List α} {bs : List β} (h : All2 R as bs) {i : Nat} {b : β} (e : bs[i]? = some b) : ∃ a, as[i]? = some a ∧ R a b := by
  induction h generalizing i with
  | nil => simp at e
  | cons r _ ih =>
    cases i with
    | zero => simp at e; subst e; exact ⟨_, rfl, r⟩
    | succ i => exact ih (by simpa using e)
theorem All2.getL {α β : Type} {R : α → β → Prop} {as : List α} {bs : List β} (h : All2 R as bs) {i : Nat} {a : α} (e : as[i]? = some a) : ∃ b, bs[i]? = some b ∧ R a b := by
  induction h generalizing i with
  | nil => simp at e
  | cons r _ ih =>
    cases i with
    | zero => simp at e; subst e; exact ⟨_, rfl, r⟩
    | succ i => exact ih (by simpa using e)
theorem All2.rev {α β : Type} {R : α → β → Prop} {as : List α} {bs : List β} (h : All2 R as bs) : All2 R as.reverse bs.reverse := by
  induction h with
  | nil => exact .nil
  | cons r _ ih => simpa using ih.snoc r
theorem All2.unsnoc {α β : Type} {R : α → β → Prop} {as : List α} {bs : List β} {b : β} (h : All2 R as (bs ++ [b])) : ∃ as' a, as = as' ++ [a] ∧ All2 R as' bs ∧ R a b := by
  have r := h.rev
  rw [List.reverse_append] at r
  generalize hs : as.reverse = ss at r
  cases r with
  | cons x y =>
    rename_i a as2
    refine ⟨as2.reverse, a, by rw [← List.reverse_reverse as, hs]; simp, ?_, x⟩
    have := y.rev
    simpa using this
theorem lt_line {n : Nat} (h : n < 16777216) : n < sizeLine := h
theorem pg_tupK {X : Cx} {K : PySem.W.Frag} {es : List Expr} {k : Nat} {t : TGs} {n : Nat} {pos : Pos} (hK : X.K = K) (hc : X.calm = true) (h : PGs X es t)
    (hn : (assignEach es X.env).length = n := by rfl) (hst : (assignEach es X.env).findIdx? (·.1) = none := by rfl) : PG X (.Tuple es k pos) (gTup K n t) := hK ▸ pg_tup hc h hn hst
end Y

set_option Elab.async false
set_option linter.all false
set_option maxRecDepth 100000
set_option maxHeartbeats 4000000
/-! own layer: enumerate over a tuple, and over a list or a tuple -/
namespace Y
open PySem PySem.Spec L2 LamX
theorem meets_enum1 {v : Value} {o : Obj} {H : Heap → Prop} (B : Begins v o H) :
    Meets (Builtin.«enumerate.__new__» ⟨[.type "enumerate", v], []⟩) (fun _ R s => H s.heap ∧
      R (.ok (.ret (.ref (s.heap.push o).objs.size))) { s with heap := (s.heap.push o).push { cls := .type "enumerate", data := .fields #[.none, .bool false, .ref s.heap.objs.size, rawInt 0, .none, .none] } }) :=
  .of_wp fun prog w A R s h => by
    obtain ⟨hp, g, d, tk, os⟩ := s; obtain ⟨h1, h⟩ := h
    have hsub := sub_enumerate
    have q1 : ∀ {A' : Around} {E : Value → Shared → Prop} {Q : Value → Shared → Prop}, Q (.ref hp.objs.size) ⟨hp.push o, g, d, tk, os⟩ → wpAny (model prog w) A' (pyIter v) Q E ⟨hp, g, d, tk, os⟩ :=
      fun q => B.iter prog w _ _ ⟨hp, g, d, tk, os⟩ _ h1 q
    wp_walk using q1
    refine wpAny_stack_any fun st => wpAny_pure ?_
    split
    · rename_i c _ _ _ _ _
      cases (c == Value.type "enumerate")
      · wp_walk using q1
        exact ⟨_, rfl, h⟩
      · wp_walk using q1
        exact ⟨_, rfl, h⟩
    · wp_walk using q1
      exact ⟨_, rfl, h⟩
section
variable {prog : Program} {w : World} {A : Around} {E : Value → Shared → Prop} {s : Shared}
theorem enum_begins1 {v : Value} {o : Obj} {H : Heap → Prop} {Q : Value → Shared → Prop} (B : Begins v o H) (h1 : H s.heap)
    (h : ∀ h', IsEnum h' (s.heap.objs.size + 1) s.heap.objs.size 0 .none → h'.get? s.heap.objs.size = some o → h'.objs.size = s.heap.objs.size + 2 →
      (∀ b o, s.heap.get? b = some o → h'.get? b = some o) → Q (.ref (s.heap.objs.size + 1)) { s with heap := h' }) :
    wpAny (model prog w) A (call (.type "enumerate") [v]) Q E s := by
  refine callType_new F.called_enumerate (by decide) (F.typeCall_enumerate_1 _) (F.newCall_enumerate_1 _) (fun obj => F.args_object_init_2 obj _) F.entry_enumerate_new
    (meets_enum1 B) ⟨h1, ?_⟩
  have hz : (s.heap.push o).objs.size = s.heap.objs.size + 1 := Heap.size_push ..
  show _ ∧ _
  rw [hz]
  have he : IsEnum ((s.heap.push o).push { cls := .type "enumerate", data := .fields #[.none, .bool false, .ref s.heap.objs.size, rawInt 0, .none, .none] }) (s.heap.objs.size + 1) s.heap.objs.size 0 .none := by
    have := Heap.get?_push_size (s.heap.push o) (o := { cls := .type "enumerate", data := .fields #[.none, .bool false, .ref s.heap.objs.size, rawInt 0, .none, .none] }) rfl
    rw [hz] at this; exact this
  refine ⟨⟨_, he, rfl⟩, h _ he (Heap.get?_push_of_some _ (Heap.get?_push_size _ B.free)) (by rw [Heap.size_push, hz]) fun b o x => Heap.get?_push_of_some _ (Heap.get?_push_of_some _ x)⟩
end
/-- the tuple at a, each item in a new pair -/
def IteT (K : PySem.W.Frag) (a : Addr) : It :=
  ⟨fun i H => ∃ (xs : List V) (x : V), SqT K H a xs ∧ xs[i]? = some x, fun i H v H' => ∃ T x, v = .ref T ∧ H T = none ∧ H' = upd H T (.tup [.int (i : Nat), x]) ∧ ∀ xs, SqT K H a xs → xs[i]? = some x, fun i H => ∃ xs : List V, SqT K H a xs ∧ xs.length ≤ i⟩
theorem turn_enumT {P : Program} {w : World} {K : PySem.W.Frag} {elts : List Expr} {kk : Nat} {tpos : Pos} (a e it : Addr) :
    Turn P w K (.Tuple elts kk tpos) (IteT K a) [e, it] e (fun i h => (∃ old, IsEnum h e it ((i : Nat) : Int) old) ∧ h.IsTupleIter it a i ∧ e ≠ it ∧ a ≠ it ∧ a ≠ e) where
  mem := by simp
  obj := fun i h st b hb => by
    obtain ⟨⟨old, he⟩, ⟨o, ho, hc, hd⟩, _⟩ := st
    have e' : b = e ∨ b = it := by simpa using hb
    rcases e' with z | z
    · rw [z]; exact ⟨_, he, fun v q => nomatch q⟩
    · rw [z]; exact ⟨o, ho, fun v q => by rw [hd] at q; cases q⟩
  keep := fun i h h' st k => let ⟨⟨old, he⟩, hi, hne⟩ := st; ⟨⟨old, k e (by simp) _ he⟩, hi.at fun o q => k it (by simp) o q, hne⟩
  item := by
    intro X hP hw hK hc i pins s σ H E I hf st hg
    subst hP hw hK
    obtain ⟨⟨old, he⟩, hit, hne, hai, hae⟩ := st
    obtain ⟨xs, x, hq, hx⟩ := hg
    obtain ⟨its, rv, p, hz⟩ := I.tuple hq
    obtain ⟨u, hu, ru⟩ := rv.get hx
    have hel : e < s.heap.objs.size := Heap.lt_size he
    have hil : it < s.heap.objs.size := by obtain ⟨_, q, _⟩ := hit; exact Heap.lt_size q
    have hlt : i < its.toArray.size := by
      have : i < its.length := (List.getElem?_eq_some_iff.mp hu).1
      simpa using this
    have DD := Draws.tuple (prog := X.prog) (w := X.w) (A := X.A.in1) (show X.A.in1.handled = none from I.ok.hd hc) it a hai its.toArray
    refine wpAny_pyNext_enum_itemD DD he ⟨hit, p⟩ hlt hne (by simp [hne, Ne.symm hae]) fun x' h' tk hx' ho hit' hT hsz hk => ?_
    obtain rfl : u = x' := by
      have hx2 : its.toArray[i]? = some x' := hx'
      rw [List.getElem?_toArray, hu] at hx2
      exact Option.some.inj hx2
    refine ⟨_, rfl, wpAny_letOwnedTupleGo_enum (s := { s with heap := h', toks := tk + 1 }) ho fun h'' he' sb => ?_⟩
    have hT2 : h''.get? s.heap.objs.size = some { cls := .type "tuple", data := .seq #[.int i tk, u] } := (sb.2 _ (Nat.ne_of_gt hel)).trans hT
    have new : ObjOk X.prog X.w (upd H s.heap.objs.size (.tup [.int (i : Nat), x])) h'' s.heap.objs.size (.tup [.int (i : Nat), x]) :=
      ⟨by show 2 ≤ sizeLine; decide, [.int i tk, u], .cons ⟨_, rfl⟩ (.cons ru .nil), ⟨_, hT2, rfl, _, rfl⟩⟩
    have I1 : Inv X pins σ (upd H s.heap.objs.size (.tup [.int (i : Nat), x])) { s with heap := h'', toks := tk + 1 } :=
      I.turnedNew (ch := [e, it]) (fun b ob hb q => (sb.2 b (fun z => hb (by simp [z]))).trans (hk b ob (fun z => hb (by simp [z])) (fun z => hb (by simp [z])) q)) hf (Nat.le_refl _) new
    refine ⟨.ref s.heap.objs.size, _, I1, rfl, ⟨_, x, rfl, I.hok.fresh (Nat.le_refl _), rfl, fun ys hy => by rw [I.tuple_inj hy hq]; exact hx⟩, ⟨⟨u, ?_⟩, hit'.1.at fun o q => (sb.2 it (Ne.symm hne)).trans q, hne, hai, hae⟩, fun b hb => ?_⟩
    · have e1 : ((i + 1 : Nat) : Int) = (i : Int) + 1 := by omega
      rw [e1]; exact he'
    · have hb' : b < s.heap.objs.size := by
        have e' : b = e ∨ b = it := by simpa using hb
        rcases e' with z | z
        · rw [z]; exact hel
        · rw [z]; exact hil
      rw [upd_ne (Nat.ne_of_lt hb')]
      exact (hf b hb).1
  done := by
    intro X hP hw hK hc i pins s σ H E I hf st hg
    subst hP hw hK
    obtain ⟨⟨old, he⟩, hit, hne, hai, hae⟩ := st
    obtain ⟨xs, hq, hx⟩ := hg
    obtain ⟨its, rv, p, hz⟩ := I.tuple hq
    obtain ⟨f0, f1, f2, f3, f4, f5⟩ := hf it (by simp)
    have hl := rv.length
    have hT : s.TypeIs (.ref e) "enumerate" := ⟨_, he, rfl⟩
    unfold pyNext
    refine wpAny_bind (wpAny_attempt (wpAny_callSpecial?_slot (name := Str.ofString "__next__") hT F.slot_enumerate_next
      (wpAny_call_entry F.slot_enumerate_next hT F.entry_enumerate_next ?_ (F.args_enumerate_next_1 _))))
    show wpAny _ _ (field (.ref e) 2 >>= _) _ _ _
    refine wpAny_bind (wpAny_field he rfl (x := .ref it) rfl ?_)
    refine wpAny_bind (wpAny_nextOf_tuple_end (I.ok.hd hc) hit (show s.heap.IsTuple a its.toArray from p) (by simp; omega) fun h' x he' hx' => ?_)
    obtain ⟨o, ho, hcl⟩ := hx'
    refine wpAny_bind (wpAny_isInstance (T := "StopIteration") (b := true) ⟨o, ho, hcl⟩ isSubtype_stop ?_)
    exact wpAny_pure ⟨rfl, I.turned (t' := s.toks) (fun b o hb q => he' b o hb q) f0 f1 f3 f4 f5⟩
  self := fun A i s Q E st h => let ⟨⟨_, he⟩, _⟩ := st; wpAny_pyIter_enum he h

/-- enumerate over a list or a tuple -/
def iEnumA (K : PySem.W.Frag) (ta : TA) : TI := fun σ H R => ta σ H fun vs H1 => ∃ a, vs = [.ref a] ∧ (((∃ xs, SqL K H1 a xs) ∧ R (Ite K a) H1) ∨ ((∃ xs, SqT K H1 a xs) ∧ R (IteT K a) H1))
theorem pi_enumK {X : Cx} {K : PySem.W.Frag} (hK : X.K = K) {e : Expr} {ta : TA} {p pos tpos : Pos} {elts : List Expr} {kk : Nat} (hg : Gl X "enumerate") (hm : X.mg "enumerate" = none) (ha : PA X [e] ta) (hs : starEach [e] X.env = [(false, eval e X.env)] := by rfl) :
    PI X (.Tuple elts kk tpos) (.Call (.Name "enumerate" p) [e] [] pos) (iEnumA K ta) := by
  subst hK
  refine ⟨fun pins s σ H R I h => ?_⟩
  refine PyProof.Rows.Call_ (ld_blt I hg hm PyProof.Rows.boot_enumerate (PyProof.Rows.callWith_type1 (thn (ha.run pos pins s σ H _ I h) fun us s1 ⟨vs, H1, I1, r1, q1⟩ => ?_) hs rfl))
  obtain ⟨a, ex, q1⟩ := q1
  subst ex
  cases r1 with
  | cons r rr =>
    cases rr
    cases r
    have fp : ∀ b ∈ [s1.heap.objs.size + 1, s1.heap.objs.size], s1.heap.objs.size ≤ b := by
      intro b hb
      have e' : b = s1.heap.objs.size + 1 ∨ b = s1.heap.objs.size := by simpa using hb
      rcases e' with z | z
      · rw [z]; exact Nat.le_add_right _ _
      · rw [z]; exact Nat.le_refl _
    rcases q1 with ⟨⟨xs, hq⟩, q⟩ | ⟨⟨xs, hq⟩, q⟩
    · obtain ⟨its, rv, p', hz⟩ := I1.list hq
      refine call_enumerate_list p'.isList fun h' he hit hsz hk => wpAny_pyIter_enum he ?_
      have I2 : Inv X pins σ H1 { s1 with heap := h' } := I1.kept (t' := s1.toks) hk
      exact ⟨s1.heap.objs.size + 1, [s1.heap.objs.size + 1, s1.heap.objs.size], _, _, H1, rfl, I2, turn_enum a (s1.heap.objs.size + 1) s1.heap.objs.size, ⟨⟨.none, he⟩, hit, Nat.succ_ne_self _⟩, fun b hb => I1.fpOk (fp b hb) (I1.hok.fresh (fp b hb)), q⟩
    · obtain ⟨its, rv, p', hz⟩ := I1.tuple hq
      refine enum_begins1 (begins_tuple a its.toArray) p' fun h' he hit hsz hk => wpAny_pyIter_enum he ?_
      have I2 : Inv X pins σ H1 { s1 with heap := h' } := I1.kept (t' := s1.toks) hk
      have hl : a < s1.heap.objs.size := by obtain ⟨_, q, _⟩ := p'; exact Heap.lt_size q
      exact ⟨s1.heap.objs.size + 1, [s1.heap.objs.size + 1, s1.heap.objs.size], _, _, H1, rfl, I2, turn_enumT a (s1.heap.objs.size + 1) s1.heap.objs.size, ⟨⟨.none, he⟩, ⟨_, hit, rfl, rfl⟩, Nat.succ_ne_self _, Nat.ne_of_lt hl, Nat.ne_of_lt (Nat.lt_succ_of_lt hl)⟩, fun b hb => I1.fpOk (fp b hb) (I1.hok.fresh (fp b hb)), q⟩
theorem walk_enumT {K : PySem.W.Frag} {a : Addr} {xs : List V} : Walk (IteT K a) xs.length (fun H => SqT K H a xs) (YPair (fun i => some (.int (i : Nat))) (fun i => xs[i]?)) := by
  refine ⟨fun i _ hi q => ⟨xs, xs[i], q, by simp [hi]⟩, fun _ q => ⟨xs, q, Nat.le_refl _⟩, fun i H v H' _ q y => ?_⟩
  obtain ⟨T, x, h1, h2, h3, h4⟩ := y
  exact ⟨T, .int (i : Nat), x, h1, h2, h3, rfl, h4 xs q⟩
theorem for_enumL {K : PySem.W.Frag} {a : Addr} {xs : List V} {g : TG} {tb : TS} {D : Ends} {σ : L2.St} {H : Hp} (Pv : Nat → L2.St → Hp → Prop) (h0 : Pv 0 σ H) (hl : ∀ i σ H, i ≤ xs.length → Pv i σ H → SqL K H a xs)
    (hs : ∀ i x σ H, xs[i]? = some x → Pv i σ H → ∀ t H', Nw H t (.tup [.int (i : Nat), x]) H' → g (.ref t) σ H' fun σ2 H2 => tb { D with nx := Pv (i + 1), ct := Pv (i + 1), bk := D.nx } σ2 H2) (hd : ∀ σ H, Pv xs.length σ H → D.nx σ H) :
    ∃ W : Nat → Nat → L2.St → Hp → Prop, (∃ m, W 0 m σ H) ∧ ∀ i m σ H, W i m σ H →
      ((Ite K a).stop i H ∧ D.nx σ H) ∨ ((Ite K a).go i H ∧ ∃ N : L2.St → Hp → Prop, (∀ σ' H', N σ' H' → ∃ m', m' < m ∧ W (i + 1) m' σ' H') ∧ ∀ x H', (Ite K a).yld i H x H' → g x σ H' fun σ2 H2 => tb { D with nx := N, ct := N, bk := D.nx } σ2 H2) := by
  refine ⟨fun i m σ H => m = xs.length - i ∧ i ≤ xs.length ∧ Pv i σ H, ⟨xs.length, by simp, Nat.zero_le _, h0⟩, ?_⟩
  rintro i m σ H ⟨rfl, hi, p⟩
  have q := hl i σ H hi p
  by_cases hlt : i < xs.length
  · refine .inr ⟨⟨xs, xs[i], q, List.getElem?_eq_getElem hlt⟩, fun σ' H' => Pv (i + 1) σ' H', fun σ' H' p' => ⟨xs.length - (i + 1), by omega, rfl, hlt, p'⟩, ?_⟩
    rintro v H' ⟨t, x, rfl, hn, rfl, hx⟩
    exact hs i x σ H (hx xs q) p t _ ⟨rfl, hn⟩
  · have e : i = xs.length := by omega
    exact .inl ⟨⟨xs, q, by omega⟩, hd σ H (e ▸ p)⟩
theorem for_enumT {K : PySem.W.Frag} {a : Addr} {xs : List V} {g : TG} {tb : TS} {D : Ends} {σ : L2.St} {H : Hp} (Pv : Nat → L2.St → Hp → Prop) (h0 : Pv 0 σ H) (hl : ∀ i σ H, i ≤ xs.length → Pv i σ H → SqT K H a xs)
    (hs : ∀ i x σ H, xs[i]? = some x → Pv i σ H → ∀ t H', Nw H t (.tup [.int (i : Nat), x]) H' → g (.ref t) σ H' fun σ2 H2 => tb { D with nx := Pv (i + 1), ct := Pv (i + 1), bk := D.nx } σ2 H2) (hd : ∀ σ H, Pv xs.length σ H → D.nx σ H) :
    ∃ W : Nat → Nat → L2.St → Hp → Prop, (∃ m, W 0 m σ H) ∧ ∀ i m σ H, W i m σ H →
      ((IteT K a).stop i H ∧ D.nx σ H) ∨ ((IteT K a).go i H ∧ ∃ N : L2.St → Hp → Prop, (∀ σ' H', N σ' H' → ∃ m', m' < m ∧ W (i + 1) m' σ' H') ∧ ∀ x H', (IteT K a).yld i H x H' → g x σ H' fun σ2 H2 => tb { D with nx := N, ct := N, bk := D.nx } σ2 H2) := by
  refine ⟨fun i m σ H => m = xs.length - i ∧ i ≤ xs.length ∧ Pv i σ H, ⟨xs.length, by simp, Nat.zero_le _, h0⟩, ?_⟩
  rintro i m σ H ⟨rfl, hi, p⟩
  have q := hl i σ H hi p
  by_cases hlt : i < xs.length
  · refine .inr ⟨⟨xs, xs[i], q, List.getElem?_eq_getElem hlt⟩, fun σ' H' => Pv (i + 1) σ' H', fun σ' H' p' => ⟨xs.length - (i + 1), by omega, rfl, hlt, p'⟩, ?_⟩
    rintro v H' ⟨t, x, rfl, hn, rfl, hx⟩
    exact hs i x σ H (hx xs q) p t _ ⟨rfl, hn⟩
  · have e : i = xs.length := by omega
    exact .inl ⟨⟨xs, q, by omega⟩, hd σ H (e ▸ p)⟩
theorem lce {K : PySem.W.Frag} {a : Addr} {xs : List V} {g : TG} {tt : TT} {te : TE} {vs : List Nat} {σ : L2.St} {H1 : Hp} {D : Addr} {Qd : Hp → Prop} (Pv : Nat → Hp → Prop) (hD : H1 D = none) (h0 : ∀ H', Nw H1 D (.lst []) H' → Pv 0 H') (hl : ∀ i H, i ≤ xs.length → Pv i H → SqL K H a xs) (hd : ∀ H, Pv xs.length H → Qd H)
    (hs : ∀ i x H, xs[i]? = some x → Pv i H → ∀ t H', Nw H t (.tup [.int (i : Nat), x]) H' → LcTurn g tt te vs σ D (Pv (i + 1)) (.ref t) H') : LcW (Ite K a) g tt te vs σ H1 D Qd := by
  refine ⟨fun i m H => m = xs.length - i ∧ i ≤ xs.length ∧ Pv i H, ⟨xs.length, by simp, Nat.zero_le _, h0 _ ⟨rfl, hD⟩⟩, ?_⟩
  rintro i m H ⟨rfl, hi, p⟩
  have hq := hl i H hi p
  by_cases hlt : i < xs.length
  · refine .inr ⟨⟨xs, xs[i], hq, List.getElem?_eq_getElem hlt⟩, fun H' => Pv (i + 1) H', fun H' p' => ⟨xs.length - (i + 1), by omega, rfl, hlt, p'⟩, ?_⟩
    rintro v H' ⟨t, x, rfl, hn, rfl, hx⟩
    exact (hs i x _ (hx xs hq) p t _ ⟨rfl, hn⟩).at
  · have e : i = xs.length := by omega
    exact .inl ⟨⟨xs, hq, by omega⟩, hd H (e ▸ p)⟩
theorem lceT {K : PySem.W.Frag} {a : Addr} {xs : List V} {g : TG} {tt : TT} {te : TE} {vs : List Nat} {σ : L2.St} {H1 : Hp} {D : Addr} {Qd : Hp → Prop} (Pv : Nat → Hp → Prop) (hD : H1 D = none) (h0 : ∀ H', Nw H1 D (.lst []) H' → Pv 0 H') (hl : ∀ i H, i ≤ xs.length → Pv i H → SqT K H a xs) (hd : ∀ H, Pv xs.length H → Qd H)
    (hs : ∀ i x H, xs[i]? = some x → Pv i H → ∀ t H', Nw H t (.tup [.int (i : Nat), x]) H' → LcTurn g tt te vs σ D (Pv (i + 1)) (.ref t) H') : LcW (IteT K a) g tt te vs σ H1 D Qd := by
  refine ⟨fun i m H => m = xs.length - i ∧ i ≤ xs.length ∧ Pv i H, ⟨xs.length, by simp, Nat.zero_le _, h0 _ ⟨rfl, hD⟩⟩, ?_⟩
  rintro i m H ⟨rfl, hi, p⟩
  have hq := hl i H hi p
  by_cases hlt : i < xs.length
  · refine .inr ⟨⟨xs, xs[i], hq, List.getElem?_eq_getElem hlt⟩, fun H' => Pv (i + 1) H', fun H' p' => ⟨xs.length - (i + 1), by omega, rfl, hlt, p'⟩, ?_⟩
    rintro v H' ⟨t, x, rfl, hn, rfl, hx⟩
    exact (hs i x _ (hx xs hq) p t _ ⟨rfl, hn⟩).at
  · have e : i = xs.length := by omega
    exact .inl ⟨⟨xs, hq, by omega⟩, hd H (e ▸ p)⟩
/-! ### list(range(..)) -/
section
variable {X : Cx} {a b : Expr} {ta tb : TE} {p p2 pos pos2 : Pos}
def tLRg (mk : List V → HO) (ta : TE) : TE := fun σ H Q => ta σ H fun x H1 => ∃ n : Int, x = .int n ∧ (-16777216 ≤ n ∧ n ≤ 16777216) ∧ ∀ q H2, Nw H1 q (mk (rgV 0 n)) H2 → Q (.ref q) H2
def tLRg2 (mk : List V → HO) (ta tb : TE) : TE := fun σ H Q => ta σ H fun x H1 => tb σ H1 fun y H2 => ∃ i j : Int, x = .int i ∧ y = .int j ∧ (-8388608 ≤ i ∧ i ≤ 8388608) ∧ (-8388608 ≤ j ∧ j ≤ 8388608) ∧ ∀ q H3, Nw H2 q (mk (rgV i j)) H3 → Q (.ref q) H3
theorem rg_ok1 {n : Int} (h : -16777216 ≤ n ∧ n ≤ 16777216) : RgOk 0 n := ⟨by omega, by omega, by omega, by omega, by omega⟩
theorem rg_ok2 {i j : Int} (h : -8388608 ≤ i ∧ i ≤ 8388608) (h2 : -8388608 ≤ j ∧ j ≤ 8388608) : RgOk i j := ⟨by omega, by omega, by omega, by omega, by omega⟩
theorem pe_listRg1 (hc : X.calm = true) (hg : Gl X "list") (hm : X.mg "list" = none) (hg2 : Gl X "range") (hm2 : X.mg "range" = none) (ha : PE X a ta) (na : starEach [a] X.env = (false, eval a X.env) :: starEach [] X.env := by rfl) (na2 : starEach [.Call (.Name "range" p) [a] [] pos] X.env = (false, eval (.Call (.Name "range" p) [a] [] pos) X.env) :: starEach [] X.env := by rfl) :
    PE X (.Call (.Name "list" p2) [.Call (.Name "range" p) [a] [] pos] [] pos2) (tLRg .lst ta) :=
  peI (pe_listRg hc hg hm (prg_1 hg2 hm2 (peU ha) na) na2) fun σ H Q h => ⟨_, h, fun x H1 ⟨n, e, o, q⟩ => ⟨n, e, rg_ok1 o, fun r f => q r _ ⟨rfl, f⟩⟩⟩
theorem pe_tupRg1 (hc : X.calm = true) (hg : Gl X "tuple") (hm : X.mg "tuple" = none) (hg2 : Gl X "range") (hm2 : X.mg "range" = none) (ha : PE X a ta) (na : starEach [a] X.env = (false, eval a X.env) :: starEach [] X.env := by rfl) (na2 : starEach [.Call (.Name "range" p) [a] [] pos] X.env = (false, eval (.Call (.Name "range" p) [a] [] pos) X.env) :: starEach [] X.env := by rfl) :
    PE X (.Call (.Name "tuple" p2) [.Call (.Name "range" p) [a] [] pos] [] pos2) (tLRg .tup ta) :=
  peI (pe_tupRg hc hg hm (prg_1 hg2 hm2 (peU ha) na) na2) fun σ H Q h => ⟨_, h, fun x H1 ⟨n, e, o, q⟩ => ⟨n, e, rg_ok1 o, fun r f => q r _ ⟨rfl, f⟩⟩⟩
end
/-! ### a list or a tuple -/
abbrev SqA (K : PySem.W.Frag) (H : Hp) (a : Addr) (xs : List V) : Prop := SqL K H a xs ∨ SqT K H a xs
theorem SqA.ofL {K : PySem.W.Frag} {H : Hp} {a : Addr} {xs : List V} (h : H a = some (.lst xs)) : SqA K H a xs := .inl (SqL.of h)
theorem SqA.ofT {K : PySem.W.Frag} {H : Hp} {a : Addr} {xs : List V} (h : H a = some (.tup xs)) : SqA K H a xs := .inr (SqT.of h)
theorem SqA.chg {K : PySem.W.Frag} {H H' : Hp} {a : Addr} {xs : List V} {T : List (Addr × Str)} {S : Addr → Prop} (h : SqA K H a xs) (c : Chg T S H H') (n : ¬ S a) : SqA K H' a xs :=
  h.imp (fun q => c.seqL q n) fun q => SqT.chg c q n
theorem SqA.keepN {K : PySem.W.Frag} {H H' : Hp} {a : Addr} {xs : List V} {T : List (Addr × Str)} (h : SqA K H a xs) (c : Chg T nil H H') : SqA K H' a xs := h.chg c id
theorem for_enumA {K : PySem.W.Frag} {a : Addr} {xs : List V} {g : TG} {tb : TS} {D : Ends} {σ : L2.St} {H : Hp} {T : List (Addr × Str)} {H0 : Hp} (sq : SqA K H0 a xs) (c0 : Chg T nil H0 H) (Pv : Nat → L2.St → Hp → Prop) (h0 : Pv 0 σ H) (hl : ∀ i σ' H', Pv i σ' H' → Chg T nil H0 H')
    (hs : ∀ i x σ H, xs[i]? = some x → Pv i σ H → ∀ t H', Nw H t (.tup [.int (i : Nat), x]) H' → g (.ref t) σ H' fun σ2 H2 => tb { D with nx := Pv (i + 1), ct := Pv (i + 1), bk := D.nx } σ2 H2) (hd : ∀ σ H, Pv xs.length σ H → D.nx σ H) :
    ((∃ xs, SqL K H a xs) ∧ ∃ W : Nat → Nat → L2.St → Hp → Prop, (∃ m, W 0 m σ H) ∧ ∀ i m σ H, W i m σ H →
      ((Ite K a).stop i H ∧ D.nx σ H) ∨ ((Ite K a).go i H ∧ ∃ N : L2.St → Hp → Prop, (∀ σ' H', N σ' H' → ∃ m', m' < m ∧ W (i + 1) m' σ' H') ∧ ∀ x H', (Ite K a).yld i H x H' → g x σ H' fun σ2 H2 => tb { D with nx := N, ct := N, bk := D.nx } σ2 H2)) ∨ ((∃ xs, SqT K H a xs) ∧ ∃ W : Nat → Nat → L2.St → Hp → Prop, (∃ m, W 0 m σ H) ∧ ∀ i m σ H, W i m σ H →
      ((IteT K a).stop i H ∧ D.nx σ H) ∨ ((IteT K a).go i H ∧ ∃ N : L2.St → Hp → Prop, (∀ σ' H', N σ' H' → ∃ m', m' < m ∧ W (i + 1) m' σ' H') ∧ ∀ x H', (IteT K a).yld i H x H' → g x σ H' fun σ2 H2 => tb { D with nx := N, ct := N, bk := D.nx } σ2 H2)) := by
  rcases sq with q | q
  · exact .inl ⟨⟨_, c0.seqL q id⟩, for_enumL Pv h0 (fun i σ' H' hi p => (hl i σ' H' p).seqL q id) hs hd⟩
  · exact .inr ⟨⟨_, SqT.chg c0 q id⟩, for_enumT Pv h0 (fun i σ' H' hi p => SqT.chg (hl i σ' H' p) q id) hs hd⟩
/-! ### objects of different sorts -/
def kdn : HO → Nat
  | .lst _ => 0
  | .tup _ => 1
  | .ins _ _ _ => 2
  | .ext _ => 3
  | .tbl _ => 4
  | _ => 5
def kdne (o u : HO) : Bool := !(Nat.beq (kdn o) (kdn u))
theorem ne_kdn {H : Hp} {a b : Addr} {o u : HO} (h : H a = some o) (h2 : H b = some u) (n : kdne o u = true) : a ≠ b := ne_obj h h2 fun e => by
  subst e
  simp [kdne] at n
/-- what stands where two ways meet -/
theorem join {t : TS} {D : Ends} {σ : L2.St} {H : Hp} (Xv : L2.St → Hp → Prop) (hx : ∀ σ H, Xv σ H → D.nx σ H) (hw : ∀ N : L2.St → Hp → Prop, (∀ σ H, Xv σ H → N σ H) → t { D with nx := N } σ H) : t D σ H := hw D.nx hx
theorem join2 {a b : TS} {D : Ends} {σ : L2.St} {H : Hp} (Xv : L2.St → Hp → Prop) (hx : ∀ σ H, Xv σ H → b D σ H) (hw : ∀ N : L2.St → Hp → Prop, (∀ σ H, Xv σ H → N σ H) → a { D with nx := N } σ H) : tSeq a b D σ H := hw _ hx
theorem join_if {A B : TS} {D : Ends} {σ : L2.St} {H : Hp} {c : Prop} {i : Decidable c} (Xv : L2.St → Hp → Prop) (hx : ∀ σ H, Xv σ H → D.nx σ H) (hw : ∀ N : L2.St → Hp → Prop, (∀ σ H, Xv σ H → N σ H) → if c then A { D with nx := N } σ H else B { D with nx := N } σ H) : if c then A D σ H else B D σ H := hw D.nx hx
end Y

set_option Elab.async false
set_option linter.all false
set_option maxRecDepth 100000
set_option maxHeartbeats 4000000
/-! own layer: many things on one heap, each with its own cells -/
namespace Y
open PySem PySem.Spec L2 LamX
/-- a thing: what is said of it holds as long as its cells stay -/
def isTup : HO → Bool
  | .tup _ => true
  | _ => false
structure Obj (T : List (Addr × Str)) (F : List Addr) (P : Hp → Prop) : Prop where
  keep : ∀ S H H', Chg T S H H' → (∀ x ∈ F, ¬ S x) → (∀ x, S x → ∀ o, H x = some o → isTup o = false) → P H → P H'
  live : ∀ H, P H → ∀ x ∈ F, ∃ o, H x = some o ∧ isTup o = false
abbrev Th := List Addr × (Hp → Prop)
def Apt (a b : Th) : Prop := ∀ x ∈ a.1, ¬ x ∈ b.1
theorem Apt.symm {a b : Th} (h : Apt a b) : Apt b a := fun x hb ha => h x ha hb
/-- since H0 but S0 was changed; the things in L stand in H, apart from one another -/
structure Wd (T : List (Addr × Str)) (S0 : Addr → Prop) (H0 H : Hp) (L : List Th) : Prop where
  chg : Chg T S0 H0 H
  all : ∀ o ∈ L, Obj T o.1 o.2 ∧ o.2 H
  mine : ∀ o ∈ L, ∀ x ∈ o.1, S0 x ∨ H0 x = none
  apt : L.Pairwise Apt
section
variable {T : List (Addr × Str)} {S S0 : Addr → Prop} {H0 H H' : Hp} {a b c d e : Th} {F F' : List Addr} {P P' : Hp → Prop} {R L : List Th}
theorem wd0 (c : Chg T S0 H0 H) : Wd T S0 H0 H [] := ⟨c, (fun _ h => nomatch h), (fun _ h => nomatch h), .nil⟩
theorem Wd.hd (w : Wd T S0 H0 H ((F, P) :: R)) : P H := (w.all _ List.mem_cons_self).2
theorem Wd.get (w : Wd T S0 H0 H L) (h : (F, P) ∈ L) : P H := (w.all _ h).2
theorem Wd.perm (w : Wd T S0 H0 H L) {L' : List Th} (p : L.Perm L') : Wd T S0 H0 H L' :=
  ⟨w.chg, fun o h => w.all o (p.mem_iff.mpr h), fun o h => w.mine o (p.mem_iff.mpr h), p.pairwise w.apt fun h => h.symm⟩
theorem Wd.to2 (w : Wd T S0 H0 H (a :: b :: R)) : Wd T S0 H0 H (b :: a :: R) := w.perm (.swap _ _ _)
theorem Wd.to3 (w : Wd T S0 H0 H (a :: b :: c :: R)) : Wd T S0 H0 H (c :: a :: b :: R) := w.perm (((List.Perm.swap c b R).cons a).trans (.swap c a _))
theorem Wd.to4 (w : Wd T S0 H0 H (a :: b :: c :: d :: R)) : Wd T S0 H0 H (d :: a :: b :: c :: R) := w.perm ((((List.Perm.swap d c R).cons b).trans (.swap d b _)).cons a |>.trans (.swap d a _))
theorem Wd.to5 (w : Wd T S0 H0 H (a :: b :: c :: d :: e :: R)) : Wd T S0 H0 H (e :: a :: b :: c :: d :: R) := w.perm (((((List.Perm.swap e d R).cons c).trans (.swap e c _)).cons b |>.trans (.swap e b _)).cons a |>.trans (.swap e a _))
theorem Wd.tail (w : Wd T S0 H0 H (a :: R)) : Wd T S0 H0 H R := ⟨w.chg, fun o h => w.all o (List.mem_cons_of_mem _ h), fun o h => w.mine o (List.mem_cons_of_mem _ h), (List.pairwise_cons.mp w.apt).2⟩
/-- the first thing is changed -/
theorem Wd.step (w : Wd T S0 H0 H ((F, P) :: R)) (c : Chg T S H H') (hS : ∀ x, S x → x ∈ F ∨ H x = none) (o : Obj T F' P') (p : P' H') (hF : ∀ x ∈ F', x ∈ F ∨ H x = none) : Wd T S0 H0 H' ((F', P') :: R) := by
  have hp := List.pairwise_cons.mp w.apt
  have off : ∀ q ∈ R, ∀ x ∈ q.1, ¬ (x ∈ F ∨ H x = none) := by
    intro q hq x hx z
    obtain ⟨oq, pq⟩ := w.all q (List.mem_cons_of_mem _ hq)
    rcases z with z | z
    · exact hp.1 q hq x z hx
    · obtain ⟨o, e, _⟩ := oq.live H pq x hx
      rw [e] at z; cases z
  have nt : ∀ x, S x → ∀ o, H x = some o → isTup o = false := by
    intro x hx o e
    rcases hS x hx with z | z
    · obtain ⟨op, pp⟩ := w.all _ (List.mem_cons_self)
      obtain ⟨o2, e2, t⟩ := op.live H pp x z
      rw [e] at e2; cases e2; exact t
    · rw [e] at z; cases z
  have old : ∀ x, x ∈ F ∨ H x = none → S0 x ∨ H0 x = none := fun x h => h.elim (fun h => w.mine _ List.mem_cons_self x h) fun h => .inr (w.chg.dom _ h)
  refine ⟨w.chg.trans c fun x h => old x (hS x h), fun q hq => ?_, fun q hq => ?_, List.pairwise_cons.mpr ⟨fun q hq x hx hx2 => off q hq x hx2 (hF x hx), hp.2⟩⟩
  · rcases List.mem_cons.mp hq with rfl | z
    · exact ⟨o, p⟩
    · obtain ⟨oq, pq⟩ := w.all q (List.mem_cons_of_mem _ z)
      exact ⟨oq, oq.keep S H H' c (fun x hx hs => off q z x hx (hS x hs)) nt pq⟩
  · rcases List.mem_cons.mp hq with rfl | z
    · exact fun x hx => old x (hF x hx)
    · exact w.mine q (List.mem_cons_of_mem _ z)
/-- nothing of them is changed -/
theorem Wd.idle (w : Wd T S0 H0 H L) (c : Chg T nil H H') : Wd T S0 H0 H' L := ⟨w.chg.trans c (fun _ z => z.elim), fun o h => ⟨(w.all o h).1, (w.all o h).1.keep nil H H' c (fun _ _ z => z) (fun _ z => z.elim) (w.all o h).2⟩, w.mine, w.apt⟩
/-- one more -/
theorem Wd.add (w : Wd T S0 H0 H R) (c : Chg T S H H') (hS : ∀ x, S x → H x = none) (o : Obj T F P) (p : P H') (hF : ∀ x ∈ F, H x = none) : Wd T S0 H0 H' ((F, P) :: R) := by
  have w0 : Wd T S0 H0 H (([], fun _ => True) :: R) := ⟨w.chg, fun q hq => by
    rcases List.mem_cons.mp hq with rfl | z
    · exact ⟨⟨fun _ _ _ _ _ _ _ => trivial, (fun _ _ _ h => nomatch h)⟩, trivial⟩
    · exact w.all q z, fun q hq => by
    rcases List.mem_cons.mp hq with rfl | z
    · exact (fun x h => nomatch h)
    · exact w.mine q z, List.pairwise_cons.mpr ⟨(fun _ _ _ h => nomatch h), w.apt⟩⟩
  exact w0.step c (fun x h => .inr (hS x h)) o p fun x h => .inr (hF x h)
theorem Wd.add0 (w : Wd T S0 H0 H R) (c : Chg T nil H H') (o : Obj T F P) (p : P H') (hF : ∀ x ∈ F, H x = none) : Wd T S0 H0 H' ((F, P) :: R) := w.add c (fun _ h => h.elim) o p hF
/-- a thing that was there ahead -/
theorem Wd.own (w : Wd T S0 H0 H R) (o : Obj T F P) (p : P H) (m : ∀ x ∈ F, S0 x) (n : ∀ q ∈ R, ∀ x ∈ F, ¬ x ∈ q.1) : Wd T S0 H0 H ((F, P) :: R) :=
  ⟨w.chg, fun q hq => by
    rcases List.mem_cons.mp hq with rfl | z
    · exact ⟨o, p⟩
    · exact w.all q z, fun q hq => by
    rcases List.mem_cons.mp hq with rfl | z
    · exact fun x h => .inl (m x h)
    · exact w.mine q z, List.pairwise_cons.mpr ⟨fun q hq x hx => n q hq x hx, w.apt⟩⟩
end
/-- one cell -/
theorem obj_at {T : List (Addr × Str)} {a : Addr} {o : HO} (n : isTbl o = false) (t : isTup o = false) : Obj T [a] (fun H => H a = some o) :=
  ⟨fun S H H' c h _ e => c.look e (h a (by simp)) n, fun H e x hx => by simp at hx; subst hx; exact ⟨_, e, t⟩⟩
/-- a tuple stays -/
theorem obj_tup {T : List (Addr × Str)} {a : Addr} {xs : List V} : Obj T [] (fun H => H a = some (.tup xs)) :=
  ⟨fun S H H' c _ h e => c.look e (fun z => nomatch h a z _ e) rfl, fun H e x hx => nomatch hx⟩
theorem obj_true {T : List (Addr × Str)} : Obj T [] (fun _ => True) := ⟨fun _ _ _ _ _ _ _ => trivial, (fun _ _ _ h => nomatch h)⟩
abbrev TupIs (t : Addr) (xs : List V) : Th := ([], fun H => H t = some (.tup xs))
abbrev LstIs (a : Addr) (xs : List V) : Th := ([a], fun H => H a = some (.lst xs))
section
variable {T : List (Addr × Str)} {S S0 : Addr → Prop} {H0 H H' : Hp} {t a : Addr} {xs ys : List V} {R : List Th}
theorem Wd.tup (w : Wd T S0 H0 H R) (n : Nw H t (.tup xs) H') : Wd T S0 H0 H' (TupIs t xs :: R) := w.add0 n.chg obj_tup n.at (fun _ h => nomatch h)
theorem Wd.tupAt (w : Wd T S0 H0 H R) (e : H t = some (.tup xs)) : Wd T S0 H0 H (TupIs t xs :: R) := w.add0 (.refl _) obj_tup e (fun _ h => nomatch h)
theorem Wd.lst (w : Wd T S0 H0 H R) (n : Nw H a (.lst xs) H') : Wd T S0 H0 H' (LstIs a xs :: R) := w.add0 n.chg (obj_at rfl rfl) n.at (fun x h => by simp at h; subst h; exact n.new)
theorem Wd.wr (w : Wd T S0 H0 H (LstIs a xs :: R)) (n : Wr H a (.lst ys) H') : Wd T S0 H0 H' (LstIs a ys :: R) := w.step (n.chg (S := In [a]) (by simp [In])) (fun x h => .inl h) (obj_at rfl rfl) n.at (fun x h => .inl h)
end
theorem perm_to {α : Type} (L : List α) (x : α) (R : List α) : (L ++ x :: R).Perm (x :: (L ++ R)) := List.perm_middle
section
variable {T : List (Addr × Str)} {S0 : Addr → Prop} {H0 H : Hp} {a b c d e f g h i : Th} {R : List Th}
theorem Wd.to6 (w : Wd T S0 H0 H (a :: b :: c :: d :: e :: f :: R)) : Wd T S0 H0 H (f :: a :: b :: c :: d :: e :: R) := w.perm (perm_to [a, b, c, d, e] f R)
theorem Wd.to7 (w : Wd T S0 H0 H (a :: b :: c :: d :: e :: f :: g :: R)) : Wd T S0 H0 H (g :: a :: b :: c :: d :: e :: f :: R) := w.perm (perm_to [a, b, c, d, e, f] g R)
theorem Wd.to8 (w : Wd T S0 H0 H (a :: b :: c :: d :: e :: f :: g :: h :: R)) : Wd T S0 H0 H (h :: a :: b :: c :: d :: e :: f :: g :: R) := w.perm (perm_to [a, b, c, d, e, f, g] h R)
theorem Wd.to9 (w : Wd T S0 H0 H (a :: b :: c :: d :: e :: f :: g :: h :: i :: R)) : Wd T S0 H0 H (i :: a :: b :: c :: d :: e :: f :: g :: h :: R) := w.perm (perm_to [a, b, c, d, e, f, g, h] i R)
end
def forBody : Stmt → List Stmt
  | .For _ _ b _ _ => b
  | _ => []
section
variable {T : List (Addr × Str)} {S0 : Addr → Prop} {H0 H : Hp} {a b c d e f g h i j k l m n o p : Th} {R : List Th}
theorem Wd.to10 (w : Wd T S0 H0 H (a :: b :: c :: d :: e :: f :: g :: h :: i :: j :: R)) : Wd T S0 H0 H (j :: a :: b :: c :: d :: e :: f :: g :: h :: i :: R) := w.perm (perm_to [a, b, c, d, e, f, g, h, i] j R)
theorem Wd.to11 (w : Wd T S0 H0 H (a :: b :: c :: d :: e :: f :: g :: h :: i :: j :: k :: R)) : Wd T S0 H0 H (k :: a :: b :: c :: d :: e :: f :: g :: h :: i :: j :: R) := w.perm (perm_to [a, b, c, d, e, f, g, h, i, j] k R)
theorem Wd.to12 (w : Wd T S0 H0 H (a :: b :: c :: d :: e :: f :: g :: h :: i :: j :: k :: l :: R)) : Wd T S0 H0 H (l :: a :: b :: c :: d :: e :: f :: g :: h :: i :: j :: k :: R) := w.perm (perm_to [a, b, c, d, e, f, g, h, i, j, k] l R)
theorem Wd.to13 (w : Wd T S0 H0 H (a :: b :: c :: d :: e :: f :: g :: h :: i :: j :: k :: l :: m :: R)) : Wd T S0 H0 H (m :: a :: b :: c :: d :: e :: f :: g :: h :: i :: j :: k :: l :: R) := w.perm (perm_to [a, b, c, d, e, f, g, h, i, j, k, l] m R)
theorem Wd.to14 (w : Wd T S0 H0 H (a :: b :: c :: d :: e :: f :: g :: h :: i :: j :: k :: l :: m :: n :: R)) : Wd T S0 H0 H (n :: a :: b :: c :: d :: e :: f :: g :: h :: i :: j :: k :: l :: m :: R) := w.perm (perm_to [a, b, c, d, e, f, g, h, i, j, k, l, m] n R)
theorem Wd.to15 (w : Wd T S0 H0 H (a :: b :: c :: d :: e :: f :: g :: h :: i :: j :: k :: l :: m :: n :: o :: R)) : Wd T S0 H0 H (o :: a :: b :: c :: d :: e :: f :: g :: h :: i :: j :: k :: l :: m :: n :: R) := w.perm (perm_to [a, b, c, d, e, f, g, h, i, j, k, l, m, n] o R)
end
end Y

set_option Elab.async false
set_option linter.all false
set_option maxRecDepth 100000
set_option maxHeartbeats 4000000
/-! own layer: told(lambda: e) at once, the reading without the place -/
namespace Y
open PySem PySem.Spec L2 LamX
def ErrK (K : PySem.W.Frag) (CS : Addr) (ret : Str) (Q : VK) : XK := fun cls _ H' => ∃ b, PySem.W.exmOne K cls (.ref CS) = some b ∧ (b = true → Q (.str ret) H') ∧ (b = false → False)
theorem err_k {K : PySem.W.Frag} {CS : Addr} {ret : Str} {Q : VK} {d : Option Addr} {H : Hp} (hm : PySem.W.exmOne K (.ref CS) (.ref CS) = some true) (q : Q (.str ret) H) : ErrK K CS ret Q (.ref CS) d H := ⟨true, hm, fun _ => q, fun z => nomatch z⟩
def tToL (K : PySem.W.Frag) (T : List (Addr × Str)) (CS : Addr) (ret : Str) (t : XK → TE) : TE := fun σ H Q => Tabs T H ∧ ∀ H1, Grows T H H1 → t (ErrK K CS ret Q) σ H1 Q
theorem pe_toL {X : Cx} {K : PySem.W.Frag} {T : List (Addr × Str)} {k : Nat} {x a ee ret : Str} {st : Stmt} {g CS c c0 P0 : Addr} {fd : FuncData} {Ng : List Str} {p pos p1 p2 p3 p4 p5 p6 p7 p8 lp : Pos} {j : Nat} {params : Arguments} {body : Expr} {scope : Scope} {t : XK → TE}
    (hK : X.K = K) (F : DF X.K x x st g c fd []) (hm : X.mg x = some (.ref g)) (hb : L2.Binds X.K fd [a] []) (Sg : FnScope Ng [a] (defScope st)) (hme : X.mg ee = some (.ref CS)) (hr : Room (k + 2) X.A)
    (TB : TabB X.base X.mg c0 P0) (hcode : X.env.code = .ref c0) (hmt : (P0, X.env.qual ++ "<lambda>") ∈ T) (hu : ∀ p ∈ T, p.1 = P0 → p.2 = X.env.qual ++ "<lambda>")
    (hdef : defaultsOf params X.env = ([], [])) (G : LamGood X k params body scope t)
    (hg : Gl X x) (hNg : Ng[0]? = some a) (hva : Vis (defScope st) a)
    (hbody : defBody st = [.Try [.Return (some (.Call (.Name a p1) [] [] p2)) p3] [.ExceptHandler (some (.Name ee p4)) none [.Return (some (.Constant (.str ret) j p5)) p6] p7] [] [] p8])
    (h0a : ∀ f : Addr, (L2.start Ng [V.ref f])[0]? = some (some (V.ref f))) (hge : (defScope st).names.lookup ee = some .globalImplicit)
    (hde : (ee == ("__debug__" : Str)) = false := by decide) (hdb : (x == ("__debug__" : Str)) = false := by decide) (hd : (a == ("__debug__" : Str)) = false := by decide) (hcd : (a == ("__classdict__" : Str)) = false := by decide)
    (hse : starEach [.Lambda params body scope lp] X.env = (false, eval (.Lambda params body scope lp) X.env) :: starEach [] X.env := by rfl) (hpl : (backTo pos (starEach ([] : List Expr) X.env)).any (·.1) = false := by rfl) :
    PE X (.Call (.Name x p) [.Lambda params body scope lp] [] pos) (tToL K T CS ret t) := by
  subst hK
  exact peI (pe_toD F hm hb Sg hme hr (pe_lamG TB hcode hmt hu hdef G) hg hNg hva hbody h0a hge hde hdb hd hcd hse hpl) fun σ H Q h => ⟨h.1, fun f H1 g1 nf L => ⟨f, t, rfl, L, h.2 H1 g1⟩⟩
theorem cr_minK {X : Cx} {K : PySem.W.Frag} (hK : X.K = K) (hc : X.calm = true) : CallR X (.builtin "min") (rMin K) := hK ▸ cr_min hc
theorem cr_maxK {X : Cx} {K : PySem.W.Frag} (hK : X.K = K) (hc : X.calm = true) : CallR X (.builtin "max") (rMax K) := hK ▸ cr_max hc
end Y

set_option Elab.async false
set_option linter.all false
set_option maxRecDepth 100000
set_option maxHeartbeats 4000000
/-! dicts by whole numbers; chains of three; tuples in order; the least row -/
namespace Y
open PySem PySem.Spec L2 LamX
open PyProof.Rows (Compare_chain isTrue_chain chain_link test_link chain_last test_last)
section
variable {X : Cx} {o i value : Expr} {td ty tv : TE} {pos pos' : Pos}
/-- d[n], there -/
def tDG (td ty : TE) : TE := fun σ H Q => td σ H fun x H1 => ty σ H1 fun y H2 => ∃ a kvs n v, x = .ref a ∧ y = .int n ∧ H2 a = some (.dK kvs) ∧ valV kvs (.inl n) = some v ∧ Q v H2
theorem pe_dg (hu : X.A.units + 64 < cLine) (ho : PE X o td) (hi : PE X i ty) (hs : NoSl i) : PE X (.Subscript o i pos) (tDG td ty) :=
  peI (pe_dget (by omega) (peU ho) (peU hi) hs) fun σ H Q h => ⟨_, h, fun x H1 h1 => ⟨_, h1, fun y H2 ⟨a, kvs, n, v, e1, e2, hk, hv, q⟩ => ⟨a, v, e1, by rw [e2, ← hv]; exact DGet.k (k := .inl n) hk, q⟩⟩⟩
/-- d[n] = v -/
def sDP (td ty tv : TE) : TS := fun D σ H => tv σ H fun v H1 => td σ H1 fun x H2 => ty σ H2 fun y H3 => ∃ a kvs n, x = .ref a ∧ y = .int n ∧ H3 a = some (.dK kvs) ∧ kvs.length < sizeLine ∧ ∀ H', Wr H3 a (.dK (putK kvs (.inl n) v)) H' → D.nx σ H'
theorem ps_dp (hu : X.A.units + 64 < cLine) (ho : PE X o td) (hi : PE X i ty) (hv : PE X value tv) (hs : swapsWith value (some (.Subscript o i pos')) pos.line X.env = pure false) :
    PS X (.Assign [.Subscript o i pos'] value pos) (sDP td ty tv) :=
  psI (ps_dput (by omega) (peU ho) (peU hi) (peU hv) hs) fun D σ H h => ⟨_, h, fun v H1 h1 => ⟨_, h1, fun x H2 h2 => ⟨_, h2, fun y H3 ⟨a, kvs, n, e1, e2, hk, hl, q⟩ => ⟨a, _, e1, by rw [e2]; exact DPut.k (k := .inl n) hk hl, q _ ⟨rfl, _, hk, rfl, fun _ z => nomatch z⟩⟩⟩⟩⟩
/-- {} -/
def tDN : TE := fun _ H Q => ∀ p H', Nw H p (.dK []) H' → Q (.ref p) H'
theorem pe_dn : PE X (.Dict [] [] pos) tDN := peI pe_dnewK fun σ H Q h => nw_all h
end
/-- the other way of a test of two parts, once -/
theorem tIf_rest {c : TT} {t u : TS} {D : Ends} {σ : L2.St} {H : Hp} (P : Prop) (hu : P → u D σ H) (hw : ∀ U : TS, (P → U D σ H) → tIfS c t U D σ H) : tIfS c t u D σ H := hw u hu
theorem tIf_then {c : TT} {t u : TS} {D : Ends} {σ : L2.St} {H : Hp} (P : Prop) (hu : P → t D σ H) (hw : ∀ U : TS, (P → U D σ H) → tIfS c U u D σ H) : tIfS c t u D σ H := hw t hu
theorem itff {p q : Prop} (h : q) : if false = true then p else q := by simpa using h
theorem ittt {p q : Prop} (h : p) : if true = true then p else q := by simpa using h
section
variable {X : Cx} {a b c d : Expr} {ta tb tc td : TE} {pos : Pos}
/-- a op1 b op2 c op3 d -/
def tChain3 (r r' r2 : R2) (ta tb tc td : TE) : TE := fun σ H Q => ta σ H fun x H1 => tb σ H1 fun y H2 => r x y H2 fun z H3 => ∃ k, z = .bl k ∧
  (if k = true then tc σ H3 fun x2 H4 => r' y x2 H4 fun z2 H5 => ∃ k2, z2 = .bl k2 ∧ (if k2 = true then td σ H5 fun w' H6 => r2 x2 w' H6 Q else Q (.bl false) H5) else Q (.bl false) H3)
theorem pt_chain3 {op op' op2 : CmpOp} {r r' r2 : R2} (ho : OpR X (compareOp op) r) (ho' : OpR X (compareOp op') r') (ho2 : OpR X (compareOp op2) r2) (ha : PE X a ta) (hb : PE X b tb) (hc : PE X c tc) (hd : PE X d td)
    (hm : lastMarks [op, op', op2] [b, c, d] = false := by with_unfolding_all rfl) : PT X (.Compare a [op, op', op2] [b, c, d] pos) (tTest (tChain3 r r' r2 ta tb tc td)) := by
  refine ⟨fun pins s σ H Q I h => ?_⟩
  refine isTrue_chain (thn (ha.run pins s σ H _ I h) fun v s1 ⟨x, H1, I1, r1, q1⟩ => test_link (thn (hb.run pins s1 σ H1 _ I1 q1) fun u s2 ⟨y, H2, I2, rr2, q2⟩ =>
    thn (ho pins s2 σ H2 x y v u _ I2 r1 rr2 q2) fun d' s3 ⟨z, H3, I3, r3, k, e, q3⟩ => ?_)) hm
  subst e
  cases r3
  refine wpAny_truthy_bool ?_
  cases k with
  | false =>
    obtain ⟨k', e', q'⟩ := q3
    cases e'
    exact itff ⟨H3, I3, q'⟩
  | true =>
    refine ittt (test_link (thn (hc.run pins s3 σ H3 _ I3 q3) fun u2 s4 ⟨x2, H4, I4, r4, q4⟩ => thn (ho' pins s4 σ H4 y x2 u u2 _ I4 rr2 r4 q4) fun d2 s5 ⟨z2, H5, I5, r5, k2, e2, q5⟩ => ?_))
    subst e2
    cases r5
    refine wpAny_truthy_bool ?_
    cases k2 with
    | false =>
      obtain ⟨k', e', q'⟩ := q5
      cases e'
      exact itff ⟨H5, I5, q'⟩
    | true => exact ittt (test_last (thn (hd.run pins s5 σ H5 _ I5 q5) fun w' s6 ⟨z', H6, I6, r6, q6⟩ => thn (ho2 pins s6 σ H6 x2 z' u2 w' _ I6 r4 r6 q6) fun d3 s7 ⟨z3, H7, I7, r7, k3, e3, q7⟩ => by
        subst e3
        cases r7
        exact wpAny_truthy_bool ⟨H7, I7, q7⟩))
end
/-! the least of rows of whole numbers -/
section
open PySem.W (alike alikeAll dataLt minD min_list_data dataLt_tuple dataLt_ints AlikeAll)
theorem alikeAll_ints : ∀ xs ys : List Int, xs.length = ys.length → alikeAll (xs.map PyData.int) (ys.map PyData.int) = true
  | [], [], _ => by simp [alikeAll]
  | x :: xs, y :: ys, h => by simp [alikeAll, alike, alikeAll_ints xs ys (by simpa using h)]
  | [], _ :: _, h => by simp at h
  | _ :: _, [], h => by simp at h
abbrev rowD (r : List Int) : PyData := .tuple (r.map .int)
theorem dataLt_row (r t : List Int) : dataLt (rowD r) (rowD t) = decide (r < t) := (dataLt_tuple _ _).trans (dataLt_ints r t)
theorem minD_rows : ∀ (r : List Int) (rs : List (List Int)), ∃ m, minD (rowD r) (rs.map rowD) = rowD m ∧ m ∈ r :: rs ∧ ∀ t ∈ r :: rs, ¬ t < m := by
  intro r rs
  induction rs generalizing r with
  | nil => exact ⟨r, rfl, List.mem_cons_self, fun t ht => by rw [List.mem_singleton.mp ht]; exact List.lt_irrefl r⟩
  | cons t rs ih =>
    have e : minD (rowD r) ((t :: rs).map rowD) = minD (rowD (if t < r then t else r)) (rs.map rowD) := by
      show List.foldl _ (if dataLt (rowD t) (rowD r) = true then rowD t else rowD r) _ = _
      rw [dataLt_row]
      by_cases h : t < r
      · simp [h, minD]
      · simp [h, minD]
    obtain ⟨m, e2, hm, hl⟩ := ih (if t < r then t else r)
    refine ⟨m, e.trans e2, ?_, fun u hu => ?_⟩
    · rcases List.mem_cons.mp hm with z | z
      · by_cases h : t < r
        · rw [if_pos h] at z; rw [z]; simp
        · rw [if_neg h] at z; rw [z]; simp
      · simp [z]
    · have h0 := hl _ List.mem_cons_self
      rcases List.mem_cons.mp hu with rfl | hu
      · by_cases h : t < u
        · rw [if_pos h] at h0
          exact fun z => h0 (List.lt_trans h z)
        · rwa [if_neg h] at h0
      · rcases List.mem_cons.mp hu with rfl | hu
        · by_cases h : u < r
          · rwa [if_pos h] at h0
          · rw [if_neg h] at h0
            intro z
            by_cases q : r < u
            · exact h0 (List.lt_trans q z)
            · have : r = u := List.le_antisymm (List.not_lt.mp h) (List.not_lt.mp q)
              exact h0 (this ▸ z)
        · exact hl u (List.mem_cons_of_mem _ hu)
theorem rows_at {X : Cx} {pins : List (Addr × PySem.Obj)} {σ : L2.St} {H : Hp} {s : Shared} (I : Inv X pins σ H s) : ∀ {xs : List V} {rows : List (List Int)} {us : List Value}, Paired (fun x r => Dp X.K H x (rowD r)) xs rows → Vals xs us →
    ∀ (i : Nat) v, us[i]? = some v → ∃ x row as, xs[i]? = some x ∧ rows[i]? = some row ∧ RelV x v ∧ Reads s.heap v (rowD row) as
  | _, _, _, .nil, .nil, i, v, h => by simp at h
  | _, _, _, .cons (a := a) (b := b) r t, .cons r2 t2, i, v, h => by
    cases i with
    | zero =>
      obtain ⟨as, h2⟩ := Dp.reads I _ _ _ r r2
      cases h
      exact ⟨a, b, as, rfl, rfl, r2, h2⟩
    | succ i => exact rows_at I t t2 i v (by simpa using h)
theorem depth_row : ∀ r : List Int, PyData.depthAll (r.map PyData.int) = 0
  | [] => rfl
  | x :: xs => by simp [PyData.depthAll, PyData.depth, depth_row xs]
theorem depth_rows : ∀ rs : List (List Int), PyData.depthAll (rs.map rowD) ≤ 1
  | [] => by simp [PyData.depthAll]
  | x :: xs => by
    have := depth_rows xs
    have e : PyData.depth (rowD x) = 1 := by simp [PyData.depth, depth_row]
    simp only [List.map_cons, PyData.depthAll, e]
    omega
def rMinR (K : PySem.W.Frag) : List V → Hp → VK → Prop := fun vs H Q => ∃ (a : Addr) (xs : List V) (rows : List (List Int)) (n : Nat), vs = [.ref a] ∧ SqL K H a xs ∧ Paired (fun x r => Dp K H x (rowD r)) xs rows ∧ rows ≠ [] ∧ (∀ r ∈ rows, r.length = n) ∧
  ∀ (i : Nat) v m, xs[i]? = some v → rows[i]? = some m → (∀ t ∈ rows, ¬ t < m) → Q v H
theorem reads_rows {X : Cx} {pins : List (Addr × PySem.Obj)} {σ : L2.St} {H : Hp} {s : Shared} (I : Inv X pins σ H s) : ∀ {xs : List V} {rows : List (List Int)} {us : List Value}, Paired (fun x r => Dp X.K H x (rowD r)) xs rows → Vals xs us → ∃ as, ReadsAll s.heap us (rows.map rowD) as
  | _, _, _, .nil, .nil => ⟨[], .nil⟩
  | _, _, _, .cons r t, .cons r2 t2 => by
    obtain ⟨as, h⟩ := Dp.reads I _ _ _ r r2
    obtain ⟨bs, h2⟩ := reads_rows I t t2
    exact ⟨_, .cons h h2⟩
theorem cr_minR {X : Cx} (hc : X.calm = true) (hu : X.A.units + 64 < cLine) : CallR X (.builtin "min") (rMinR X.K) := by
  intro pins s σ H vs us Q I r h
  obtain ⟨a, xs, rows, n, rfl, hs, hp, hne, hl, q⟩ := h
  obtain ⟨its, rv, hl2, _⟩ := I.list hs
  rw [Vals.ref1 r]
  obtain ⟨as, hr⟩ := reads_rows I hp rv
  cases rows with
  | nil => exact (hne rfl).elim
  | cons r0 rs =>
    obtain ⟨m, em, hm, hml⟩ := minD_rows r0 rs
    have al : AlikeAll ((r0 :: rs).map rowD) := ⟨fun x hx y hy => by
      obtain ⟨p, hp1, rfl⟩ := List.mem_map.mp hx
      obtain ⟨p2, hp2, rfl⟩ := List.mem_map.mp hy
      show alike (.tuple _) (.tuple _) = true
      simp only [alike]
      exact alikeAll_ints _ _ ((hl _ hp1).trans (hl _ hp2).symm), fun x hx z => by
      obtain ⟨p, hp1, rfl⟩ := List.mem_map.mp hx
      cases z⟩
    have dep := depth_rows (r0 :: rs)
    refine min_list_data (I.ok.hd hc) hl2.isList hr al (by rw [List.map_cons] at dep; omega) fun i v h' tk bs hv hrd hk => ?_
    obtain ⟨x, row, as, e1, e2, e3, e4⟩ := rows_at I hp rv i v (by simpa using hv)
    have e5 : rowD row = rowD m := by
      have := PySem.W.reads_keeps hk e4
      rw [em] at hrd
      exact (this.unique _ _ hrd).1
    have e6 : row = m := by
      have h9 := PyData.tuple.inj e5
      exact List.map_inj_right (fun a b h => PyData.int.inj h) |>.mp h9
    subst e6
    exact ⟨x, H, I.kept hk, e3, q i x row e1 e2 hml⟩
end
end Y

set_option Elab.async false
set_option linter.all false
set_option maxRecDepth 100000
set_option maxHeartbeats 4000000
/-! own layer: lists of tuples of flat values -/
namespace Y
open PySem PySem.Spec L2 LamX
/-- a tuple of flat values -/
def RowV (H : Hp) (t : V) (r : List V) : Prop := ∃ a, t = .ref a ∧ H a = some (.tup r)
abbrev RowsV (H : Hp) (ts : List V) (rs : List (List V)) : Prop := All2 (RowV H) ts rs
theorem RowV.keep {H H' : Hp} {t : V} {r : List V} {T : List (Addr × Str)} {S : Addr → Prop} (h : RowV H t r) (c : Chg T S H H') (n : ∀ a ts, H a = some (.tup ts) → ¬ S a) : RowV H' t r :=
  let ⟨a, e, z⟩ := h; ⟨a, e, c.look z (n a _ z) rfl⟩
theorem RowsV.keep {H H' : Hp} {ts : List V} {rs : List (List V)} {T : List (Addr × Str)} {S : Addr → Prop} (h : RowsV H ts rs) (c : Chg T S H H') (n : ∀ a ts, H a = some (.tup ts) → ¬ S a) : RowsV H' ts rs := h.imp fun _ _ z => z.keep c n
theorem RowsV.keepN {H H' : Hp} {ts : List V} {rs : List (List V)} {T : List (Addr × Str)} (h : RowsV H ts rs) (c : Chg T nil H H') : RowsV H' ts rs := h.keep c fun _ _ _ z => z
def FlatR (r : List V) : Prop := ∀ x ∈ r, flat x = true
abbrev rowSd (r : List V) : PyData := .tuple (r.map sd)
theorem rows_dp {K : PySem.W.Frag} {H : Hp} {ts : List V} {rs : List (List V)} (h : RowsV H ts rs) (f : ∀ r ∈ rs, FlatR r) : DpAll K H ts (rs.map rowSd) := by
  induction h with
  | nil => exact .nil
  | cons a _ ih =>
    obtain ⟨p, rfl, h⟩ := a
    exact .cons (.tup (.of h) (dps_flat (f _ List.mem_cons_self))) (ih fun r hr => f r (List.mem_cons_of_mem _ hr))
theorem rows_lay : ∀ {rs : List (List V)}, (∀ r ∈ rs, FlatR r) → PyData.canLayAll0 (rs.map rowSd) = true ∧ PyData.depthAll (rs.map rowSd) ≤ 1 ∧ cleanAll (rs.map rowSd) = true
  | [], _ => ⟨rfl, by simp [PyData.depthAll], rfl⟩
  | r :: rs, f => by
    obtain ⟨a, b, c⟩ := rows_lay (rs := rs) fun r hr => f r (List.mem_cons_of_mem _ hr)
    have f0 := f r List.mem_cons_self
    have e : PyData.depth (rowSd r) = 1 := by simp only [PyData.depth, depthAll_sd]
    refine ⟨?_, ?_, ?_⟩
    · simp only [List.map_cons, PyData.canLayAll0, PyData.canLay0, a, canLayAll_sd f0]; rfl
    · simp only [List.map_cons, PyData.depthAll, e]; omega
    · simp only [List.map_cons, cleanAll, c, Bool.and_true]; exact clean_t (cleanAll_sd f0)
theorem rows_sh {rs : List (List V)} (f : ∀ r ∈ rs, FlatR r) : SeqAt.shaped (.list (rs.map rowSd)) = true ∧ SeqAt.shaped (.tuple (rs.map rowSd)) = true := by
  obtain ⟨a, b, -⟩ := rows_lay f
  constructor <;>
  · simp only [SeqAt.shaped, PyData.canLay0, a, PyData.depth, Bool.true_and, decide_eq_true_eq]
    exact decide_eq_true (by omega)
theorem rowSd_inj : ∀ {rs qs : List (List V)}, (∀ r ∈ rs, FlatR r) → (∀ r ∈ qs, FlatR r) → rs.map rowSd = qs.map rowSd → rs = qs
  | [], [], _, _, _ => rfl
  | [], _ :: _, _, _, h => by simp at h
  | _ :: _, [], _, _, h => by simp at h
  | r :: rs, q :: qs, f, g, h => by
    simp only [List.map_cons, List.cons.injEq, PyData.tuple.injEq] at h
    rw [map_sd_inj (f r List.mem_cons_self) (g q List.mem_cons_self) h.1, rowSd_inj (fun r hr => f r (List.mem_cons_of_mem _ hr)) (fun r hr => g r (List.mem_cons_of_mem _ hr)) h.2]
section
variable {K : PySem.W.Frag} {H : Hp} {a b : Addr} {ts us : List V} {rs qs : List (List V)} {f : Bool → Bool} {Q : VK}
/-- lists of such tuples compared -/
theorem veq_rows (h1 : SqL K H a ts) (h2 : SqL K H b us) (r1 : RowsV H ts rs) (r2 : RowsV H us qs) (f1 : ∀ r ∈ rs, FlatR r) (f2 : ∀ r ∈ qs, FlatR r) {p : Prop} [Decidable p] (hp : rs = qs ↔ p) (q : Q (.bl (f (decide p))) H) : vEq K f (.ref a) (.ref b) H Q :=
  veq_d rfl (.lst h1 (rows_dp r1 f1)) (.lst h2 (rows_dp r2 f2)) (rows_sh f1).1 (rows_sh f2).1 (b := decide p) (eqv_dec (clean_l (rows_lay f1).2.2) (clean_l (rows_lay f2).2.2) ⟨fun e => hp.mp (rowSd_inj f1 f2 (by simpa using e)), fun e => by rw [hp.mpr e]⟩) q
theorem veq_rowsT (h1 : SqT K H a ts) (h2 : SqT K H b us) (r1 : RowsV H ts rs) (r2 : RowsV H us qs) (f1 : ∀ r ∈ rs, FlatR r) (f2 : ∀ r ∈ qs, FlatR r) {p : Prop} [Decidable p] (hp : rs = qs ↔ p) (q : Q (.bl (f (decide p))) H) : vEq K f (.ref a) (.ref b) H Q :=
  veq_d rfl (.tup h1 (rows_dp r1 f1)) (.tup h2 (rows_dp r2 f2)) (rows_sh f1).2 (rows_sh f2).2 (b := decide p) (eqv_dec (clean_t (rows_lay f1).2.2) (clean_t (rows_lay f2).2.2) ⟨fun e => hp.mp (rowSd_inj f1 f2 (by simpa using e)), fun e => by rw [hp.mpr e]⟩) q
end
/-- t * n -/
def uRep (K : PySem.W.Frag) : R2 := fun x y H Q => ∃ l k xs, x = .ref l ∧ y = .int k ∧ SqT K H l xs ∧ xs ≠ [] ∧ 2 ≤ k ∧ k ≤ 1000 ∧ xs.length ≤ 1000 ∧ ∀ p H', Nw H p (.tup (List.replicate k.toNat xs).flatten) H' → Q (.ref p) H'
theorem op_repK {X : Cx} {K : PySem.W.Frag} (hK : X.K = K) : OpR X (binaryOp .Mult) (uRep K) := hK ▸ opI2 L2.op_repT fun x y H Q ⟨l, k, xs, a, b, c, d, e, f, g, q⟩ => ⟨l, k, xs, a, b, c, d, e, f, g, nw_all q⟩
theorem cr_sumK {X : Cx} {K : PySem.W.Frag} (hK : X.K = K) (hc : X.calm = true) : CallR X (.builtin "sum") (rSum K) := hK ▸ cr_sum hc
/-! while, the measure told by the invariant -/
def WhM (Pv : Nat → L2.St → Hp → Prop) (m : Nat) (D : Ends) (tb : TS) (σ : L2.St) (H1 : Hp) : Prop :=
  ∃ N : L2.St → Hp → Prop, (∀ σ' H', N σ' H' → ∃ m', m' < m ∧ Pv m' σ' H') ∧ tb { D with nx := N, ct := N, bk := D.nx } σ H1
theorem whm_step {Pv : Nat → L2.St → Hp → Prop} {m : Nat} {D : Ends} {tb : TS} {σ : L2.St} {H1 : Hp}
    (h : ∀ N : L2.St → Hp → Prop, (∀ m' σ' H', m' < m → Pv m' σ' H' → N σ' H') → tb { D with nx := N, ct := N, bk := D.nx } σ H1) : WhM Pv m D tb σ H1 :=
  ⟨fun σ' H' => ∃ m', m' < m ∧ Pv m' σ' H', fun _ _ z => z, h _ fun m' σ' H' a b => ⟨m', a, b⟩⟩
theorem while_m {c : TT} {tb : TS} {D : Ends} {σ : L2.St} {H : Hp} (Pv : Nat → L2.St → Hp → Prop) (m0 : Nat) (h0 : Pv m0 σ H)
    (hs : ∀ m σ H, Pv m σ H → c σ H fun b H1 => if b = true then WhM Pv m D tb σ H1 else D.nx σ H1) : tWhile c tb D σ H := ⟨Pv, ⟨m0, h0⟩, hs⟩
theorem All2.unapp {α β : Type} {R : α → β → Prop} : ∀ {as : List α} {bs cs : List β}, All2 R as (bs ++ cs) → ∃ a1 a2, as = a1 ++ a2 ∧ All2 R a1 bs ∧ All2 R a2 cs
  | as, [], cs, h => ⟨[], as, rfl, .nil, h⟩
  | _, b :: bs, cs, h => by
    cases h with
    | cons r t =>
      obtain ⟨a1, a2, rfl, h1, h2⟩ := t.unapp
      exact ⟨_, _, rfl, .cons r h1, h2⟩
end Y

set_option Elab.async false
set_option linter.all false
set_option maxRecDepth 100000
set_option maxHeartbeats 4000000
/-! the text of k11_parts_of_a_row: statements, scopes, what the top has written -/
namespace Z
open PySem PySem.Spec L2 LamX
abbrev prg : Program := PySem.Challenge.pw_treestack_k11_parts_of_a_row
def top (i : Nat) : Stmt := PySem.Challenge.pw_treestack_k11_parts_of_a_row.main.body.getD i (.Pass ⟨0, 0, 0, 0⟩)
abbrev s_Segments___init__ : Stmt := inClass (top 5) 0
def N_Segments___init__ : List Str := ["self", "values"]
theorem sc_Segments___init__ : FnScope N_Segments___init__ ["self", "values"] (defScope s_Segments___init__) := C8.fnScope_by (by decide +kernel)
abbrev s_Segments_build_node : Stmt := inClass (top 5) 1
def N_Segments_build_node : List Str := ["self", "node", "first", "behind", "values", "middle"]
theorem sc_Segments_build_node : FnScope N_Segments_build_node ["self", "node", "first", "behind", "values"] (defScope s_Segments_build_node) := C8.fnScope_by (by decide +kernel)
abbrev s_Segments_gather_two : Stmt := inClass (top 5) 2
def N_Segments_gather_two : List Str := ["self", "node", "low", "high", "kept"]
theorem sc_Segments_gather_two : FnScope N_Segments_gather_two ["self", "node"] (defScope s_Segments_gather_two) := C8.fnScope_by (by decide +kernel)
abbrev s_Segments_lay_on : Stmt := inClass (top 5) 3
def N_Segments_lay_on : List Str := ["self", "node", "long", "word", "value", "row"]
theorem sc_Segments_lay_on : FnScope N_Segments_lay_on ["self", "node", "long", "word", "value"] (defScope s_Segments_lay_on) := C8.fnScope_by (by decide +kernel)
abbrev s_Segments_push_down : Stmt := inClass (top 5) 4
def N_Segments_push_down : List Str := ["self", "node", "first", "behind", "row", "middle", "word", "value"]
theorem sc_Segments_push_down : FnScope N_Segments_push_down ["self", "node", "first", "behind"] (defScope s_Segments_push_down) := C8.fnScope_by (by decide +kernel)
abbrev s_Segments_check_part : Stmt := inClass (top 5) 5
def N_Segments_check_part : List Str := ["self", "first", "behind"]
theorem sc_Segments_check_part : FnScope N_Segments_check_part ["self", "first", "behind"] (defScope s_Segments_check_part) := C8.fnScope_by (by decide +kernel)
abbrev s_Segments_change_under : Stmt := inClass (top 5) 6
def N_Segments_change_under : List Str := ["self", "node", "here", "end", "first", "behind", "word", "value", "middle"]
theorem sc_Segments_change_under : FnScope N_Segments_change_under ["self", "node", "here", "end", "first", "behind", "word", "value"] (defScope s_Segments_change_under) := C8.fnScope_by (by decide +kernel)
abbrev s_Segments_add_to : Stmt := inClass (top 5) 7
def N_Segments_add_to : List Str := ["self", "first", "behind", "value"]
theorem sc_Segments_add_to : FnScope N_Segments_add_to ["self", "first", "behind", "value"] (defScope s_Segments_add_to) := C8.fnScope_by (by decide +kernel)
abbrev s_Segments_set_to : Stmt := inClass (top 5) 8
def N_Segments_set_to : List Str := ["self", "first", "behind", "value"]
theorem sc_Segments_set_to : FnScope N_Segments_set_to ["self", "first", "behind", "value"] (defScope s_Segments_set_to) := C8.fnScope_by (by decide +kernel)
abbrev s_Segments_told_in : Stmt := inClass (top 5) 9
def N_Segments_told_in : List Str := ["self", "first", "behind"]
theorem sc_Segments_told_in : FnScope N_Segments_told_in ["self", "first", "behind"] (defScope s_Segments_told_in) := C8.fnScope_by (by decide +kernel)
abbrev s_Segments_told_under : Stmt := inClass (top 5) 10
def N_Segments_told_under : List Str := ["self", "node", "here", "end", "first", "behind", "middle", "rows", "row"]
theorem sc_Segments_told_under : FnScope N_Segments_told_under ["self", "node", "here", "end", "first", "behind"] (defScope s_Segments_told_under) := C8.fnScope_by (by decide +kernel)
abbrev s_Segments_all_values : Stmt := inClass (top 5) 11
def N_Segments_all_values : List Str := ["self", "place"]
theorem sc_Segments_all_values : FnScope N_Segments_all_values ["self"] (defScope s_Segments_all_values) := C8.fnScope_by (by decide +kernel)
abbrev s_Segments_first_above : Stmt := inClass (top 5) 12
def N_Segments_first_above : List Str := ["self", "start", "value", "low", "high", "middle", "is_low"]
theorem sc_Segments_first_above : FnScope N_Segments_first_above ["self", "start", "value"] (defScope s_Segments_first_above) := C8.fnScope_by (by decide +kernel)
abbrev s_Segments_places_of : Stmt := inClass (top 5) 13
def N_Segments_places_of : List Str := ["self", "first", "behind", "is_least", "told", "want", "place"]
theorem sc_Segments_places_of : FnScope N_Segments_places_of ["self", "first", "behind", "is_least"] (defScope s_Segments_places_of) := C8.fnScope_by (by decide +kernel)
abbrev s_Segments_reach_from : Stmt := inClass (top 5) 14
def N_Segments_reach_from : List Str := ["self", "start", "goal", "low", "high", "middle", "is_low"]
theorem sc_Segments_reach_from : FnScope N_Segments_reach_from ["self", "start", "goal"] (defScope s_Segments_reach_from) := C8.fnScope_by (by decide +kernel)
abbrev s_Segments_nodes_for : Stmt := inClass (top 5) 15
def N_Segments_nodes_for : List Str := ["self", "first", "behind", "found", "left", "here", "end", "middle"]
theorem sc_Segments_nodes_for : FnScope N_Segments_nodes_for ["self", "first", "behind"] (defScope s_Segments_nodes_for) := C8.fnScope_by (by decide +kernel)
abbrev s_best_part : Stmt := top 6
def N_best_part : List Str := ["values", "best", "here", "place", "value", "row"]
theorem sc_best_part : FnScope N_best_part ["values"] (defScope s_best_part) := C8.fnScope_by (by decide +kernel)
abbrev s_windows_least : Stmt := top 7
def N_windows_least : List Str := ["values", "long", "tree", "place"]
theorem sc_windows_least : FnScope N_windows_least ["values", "long"] (defScope s_windows_least) := C8.fnScope_by (by decide +kernel)
abbrev s__law_dice : Stmt := top 9
def N__law_dice : List Str := ["cell"]
theorem sc__law_dice : FnScope N__law_dice ["cell"] (defScope s__law_dice) := C8.fnScope_by (by decide +kernel)
abbrev s__law_roll : Stmt := top 10
def N__law_roll : List Str := ["dice", "many", "found"]
theorem sc__law_roll : FnScope N__law_roll ["dice", "many"] (defScope s__law_roll) := C8.fnScope_by (by decide +kernel)
abbrev s__law_rounds : Stmt := top 11
def N__law_rounds : List Str := ["script", "most", "cells", "cell"]
theorem sc__law_rounds : FnScope N__law_rounds ["script", "most"] (defScope s__law_rounds) := C8.fnScope_by (by decide +kernel)
abbrev s__law_told : Stmt := top 12
def N__law_told : List Str := ["what"]
theorem sc__law_told : FnScope N__law_told ["what"] (defScope s__law_told) := C8.fnScope_by (by decide +kernel)
abbrev s__law_nodes : Stmt := top 13
def N__law_nodes : List Str := ["here", "end", "first", "behind", "middle"]
theorem sc__law_nodes : FnScope N__law_nodes ["here", "end", "first", "behind"] (defScope s__law_nodes) := C8.fnScope_by (by decide +kernel)
abbrev s__law_plain : Stmt := top 14
def N__law_plain : List Str := ["tree", "low", "told", "bad", "f"]
theorem sc__law_plain : FnScope N__law_plain [] (defScope s__law_plain) := C8.fnScope_by (by decide +kernel)
abbrev s_law : Stmt := top 15
def N_law : List Str := ["script", "dice", "own", "k", "tree", "many", "step", "first", "behind", "value", "sort", "good", "mine", "flag", "part", "start", "goal", "above", "reach", "parts", "a", "b", "best", "long"]
theorem sc_law : FnScope N_law ["script"] (defScope s_law) := C8.fnScope_by (by decide +kernel)
structure Env (w : World) (K : PySem.W.Frag) (mg : Str → Option Value) (base : Heap) : Type where
  C_SegmentError : Addr
  mg_SegmentError : mg "SegmentError" = some (.ref C_SegmentError)
  x_SegmentError : PySem.W.excIn K C_SegmentError [.type "ValueError", .type "Exception", .type "BaseException", .type "object"] "ValueError.__new__" = true
  k_SegmentError : PySem.W.keepIn K (.ref C_SegmentError) = true
  bb_SegmentError : PySem.W.subIn K (.ref C_SegmentError) (.type "BaseException") = some true
  tt_SegmentError : PySem.W.typeIn K (.ref C_SegmentError) = some (.type "type")
  ex_SegmentError : PySem.W.exmOne K (.ref C_SegmentError) (.ref C_SegmentError) = some true
  C_Segments : Addr
  mg_Segments : mg "Segments" = some (.ref C_Segments)
  cl_Segments : Cls K C_Segments
  na_Segments_many : NoAttr K C_Segments "many"
  na_Segments_nodes : NoAttr K C_Segments "nodes"
  f_Segments___init__ : Addr
  c_Segments___init__ : Addr
  fd_Segments___init__ : FuncData
  F_Segments___init__ : Y.DF K "__init__" "Segments.__init__" s_Segments___init__ f_Segments___init__ c_Segments___init__ fd_Segments___init__ []
  b_Segments___init__ : Binds K fd_Segments___init__ ["self", "values"] []
  mk_Segments : Mk K C_Segments f_Segments___init__
  f_Segments_build_node : Addr
  c_Segments_build_node : Addr
  fd_Segments_build_node : FuncData
  F_Segments_build_node : Y.DF K "build_node" "Segments.build_node" s_Segments_build_node f_Segments_build_node c_Segments_build_node fd_Segments_build_node []
  b_Segments_build_node : Binds K fd_Segments_build_node ["self", "node", "first", "behind", "values"] []
  me_Segments_build_node : Meth K C_Segments "build_node" f_Segments_build_node
  f_Segments_gather_two : Addr
  c_Segments_gather_two : Addr
  fd_Segments_gather_two : FuncData
  F_Segments_gather_two : Y.DF K "gather_two" "Segments.gather_two" s_Segments_gather_two f_Segments_gather_two c_Segments_gather_two fd_Segments_gather_two []
  b_Segments_gather_two : Binds K fd_Segments_gather_two ["self", "node"] []
  me_Segments_gather_two : Meth K C_Segments "gather_two" f_Segments_gather_two
  f_Segments_lay_on : Addr
  c_Segments_lay_on : Addr
  fd_Segments_lay_on : FuncData
  F_Segments_lay_on : Y.DF K "lay_on" "Segments.lay_on" s_Segments_lay_on f_Segments_lay_on c_Segments_lay_on fd_Segments_lay_on []
  b_Segments_lay_on : Binds K fd_Segments_lay_on ["self", "node", "long", "word", "value"] []
  me_Segments_lay_on : Meth K C_Segments "lay_on" f_Segments_lay_on
  f_Segments_push_down : Addr
  c_Segments_push_down : Addr
  fd_Segments_push_down : FuncData
  F_Segments_push_down : Y.DF K "push_down" "Segments.push_down" s_Segments_push_down f_Segments_push_down c_Segments_push_down fd_Segments_push_down []
  b_Segments_push_down : Binds K fd_Segments_push_down ["self", "node", "first", "behind"] []
  me_Segments_push_down : Meth K C_Segments "push_down" f_Segments_push_down
  f_Segments_check_part : Addr
  c_Segments_check_part : Addr
  fd_Segments_check_part : FuncData
  F_Segments_check_part : Y.DF K "check_part" "Segments.check_part" s_Segments_check_part f_Segments_check_part c_Segments_check_part fd_Segments_check_part []
  b_Segments_check_part : Binds K fd_Segments_check_part ["self", "first", "behind"] []
  me_Segments_check_part : Meth K C_Segments "check_part" f_Segments_check_part
  f_Segments_change_under : Addr
  c_Segments_change_under : Addr
  fd_Segments_change_under : FuncData
  F_Segments_change_under : Y.DF K "change_under" "Segments.change_under" s_Segments_change_under f_Segments_change_under c_Segments_change_under fd_Segments_change_under []
  b_Segments_change_under : Binds K fd_Segments_change_under ["self", "node", "here", "end", "first", "behind", "word", "value"] []
  me_Segments_change_under : Meth K C_Segments "change_under" f_Segments_change_under
  f_Segments_add_to : Addr
  c_Segments_add_to : Addr
  fd_Segments_add_to : FuncData
  F_Segments_add_to : Y.DF K "add_to" "Segments.add_to" s_Segments_add_to f_Segments_add_to c_Segments_add_to fd_Segments_add_to []
  b_Segments_add_to : Binds K fd_Segments_add_to ["self", "first", "behind", "value"] []
  me_Segments_add_to : Meth K C_Segments "add_to" f_Segments_add_to
  f_Segments_set_to : Addr
  c_Segments_set_to : Addr
  fd_Segments_set_to : FuncData
  F_Segments_set_to : Y.DF K "set_to" "Segments.set_to" s_Segments_set_to f_Segments_set_to c_Segments_set_to fd_Segments_set_to []
  b_Segments_set_to : Binds K fd_Segments_set_to ["self", "first", "behind", "value"] []
  me_Segments_set_to : Meth K C_Segments "set_to" f_Segments_set_to
  f_Segments_told_in : Addr
  c_Segments_told_in : Addr
  fd_Segments_told_in : FuncData
  F_Segments_told_in : Y.DF K "told_in" "Segments.told_in" s_Segments_told_in f_Segments_told_in c_Segments_told_in fd_Segments_told_in []
  b_Segments_told_in : Binds K fd_Segments_told_in ["self", "first", "behind"] []
  me_Segments_told_in : Meth K C_Segments "told_in" f_Segments_told_in
  f_Segments_told_under : Addr
  c_Segments_told_under : Addr
  fd_Segments_told_under : FuncData
  F_Segments_told_under : Y.DF K "told_under" "Segments.told_under" s_Segments_told_under f_Segments_told_under c_Segments_told_under fd_Segments_told_under []
  b_Segments_told_under : Binds K fd_Segments_told_under ["self", "node", "here", "end", "first", "behind"] []
  me_Segments_told_under : Meth K C_Segments "told_under" f_Segments_told_under
  P_Segments_told_under : Addr
  tb_Segments_told_under : TabB base mg c_Segments_told_under P_Segments_told_under
  f_Segments_all_values : Addr
  c_Segments_all_values : Addr
  fd_Segments_all_values : FuncData
  F_Segments_all_values : Y.DF K "all_values" "Segments.all_values" s_Segments_all_values f_Segments_all_values c_Segments_all_values fd_Segments_all_values []
  b_Segments_all_values : Binds K fd_Segments_all_values ["self"] []
  me_Segments_all_values : Meth K C_Segments "all_values" f_Segments_all_values
  P_Segments_all_values : Addr
  tb_Segments_all_values : TabB base mg c_Segments_all_values P_Segments_all_values
  f_Segments_first_above : Addr
  c_Segments_first_above : Addr
  fd_Segments_first_above : FuncData
  F_Segments_first_above : Y.DF K "first_above" "Segments.first_above" s_Segments_first_above f_Segments_first_above c_Segments_first_above fd_Segments_first_above []
  b_Segments_first_above : Binds K fd_Segments_first_above ["self", "start", "value"] []
  me_Segments_first_above : Meth K C_Segments "first_above" f_Segments_first_above
  f_Segments_places_of : Addr
  c_Segments_places_of : Addr
  fd_Segments_places_of : FuncData
  F_Segments_places_of : Y.DF K "places_of" "Segments.places_of" s_Segments_places_of f_Segments_places_of c_Segments_places_of fd_Segments_places_of []
  b_Segments_places_of : Binds K fd_Segments_places_of ["self", "first", "behind", "is_least"] []
  me_Segments_places_of : Meth K C_Segments "places_of" f_Segments_places_of
  P_Segments_places_of : Addr
  tb_Segments_places_of : TabB base mg c_Segments_places_of P_Segments_places_of
  f_Segments_reach_from : Addr
  c_Segments_reach_from : Addr
  fd_Segments_reach_from : FuncData
  F_Segments_reach_from : Y.DF K "reach_from" "Segments.reach_from" s_Segments_reach_from f_Segments_reach_from c_Segments_reach_from fd_Segments_reach_from []
  b_Segments_reach_from : Binds K fd_Segments_reach_from ["self", "start", "goal"] []
  me_Segments_reach_from : Meth K C_Segments "reach_from" f_Segments_reach_from
  f_Segments_nodes_for : Addr
  c_Segments_nodes_for : Addr
  fd_Segments_nodes_for : FuncData
  F_Segments_nodes_for : Y.DF K "nodes_for" "Segments.nodes_for" s_Segments_nodes_for f_Segments_nodes_for c_Segments_nodes_for fd_Segments_nodes_for []
  b_Segments_nodes_for : Binds K fd_Segments_nodes_for ["self", "first", "behind"] []
  me_Segments_nodes_for : Meth K C_Segments "nodes_for" f_Segments_nodes_for
  f_best_part : Addr
  c_best_part : Addr
  fd_best_part : FuncData
  F_best_part : Y.DF K "best_part" "best_part" s_best_part f_best_part c_best_part fd_best_part []
  b_best_part : Binds K fd_best_part ["values"] []
  mg_best_part : mg "best_part" = some (.ref f_best_part)
  f_windows_least : Addr
  c_windows_least : Addr
  fd_windows_least : FuncData
  F_windows_least : Y.DF K "windows_least" "windows_least" s_windows_least f_windows_least c_windows_least fd_windows_least []
  b_windows_least : Binds K fd_windows_least ["values", "long"] []
  mg_windows_least : mg "windows_least" = some (.ref f_windows_least)
  P_windows_least : Addr
  tb_windows_least : TabB base mg c_windows_least P_windows_least
  f__law_dice : Addr
  c__law_dice : Addr
  fd__law_dice : FuncData
  F__law_dice : Y.DF K "_law_dice" "_law_dice" s__law_dice f__law_dice c__law_dice fd__law_dice []
  b__law_dice : Binds K fd__law_dice ["cell"] []
  mg__law_dice : mg "_law_dice" = some (.ref f__law_dice)
  f__law_roll : Addr
  c__law_roll : Addr
  fd__law_roll : FuncData
  F__law_roll : Y.DF K "_law_roll" "_law_roll" s__law_roll f__law_roll c__law_roll fd__law_roll []
  b__law_roll : Binds K fd__law_roll ["dice", "many"] []
  mg__law_roll : mg "_law_roll" = some (.ref f__law_roll)
  f__law_rounds : Addr
  c__law_rounds : Addr
  fd__law_rounds : FuncData
  F__law_rounds : Y.DF K "_law_rounds" "_law_rounds" s__law_rounds f__law_rounds c__law_rounds fd__law_rounds []
  b__law_rounds : Binds K fd__law_rounds ["script", "most"] []
  mg__law_rounds : mg "_law_rounds" = some (.ref f__law_rounds)
  f__law_told : Addr
  c__law_told : Addr
  fd__law_told : FuncData
  F__law_told : Y.DF K "_law_told" "_law_told" s__law_told f__law_told c__law_told fd__law_told []
  b__law_told : Binds K fd__law_told ["what"] []
  mg__law_told : mg "_law_told" = some (.ref f__law_told)
  f__law_nodes : Addr
  c__law_nodes : Addr
  fd__law_nodes : FuncData
  F__law_nodes : Y.DF K "_law_nodes" "_law_nodes" s__law_nodes f__law_nodes c__law_nodes fd__law_nodes []
  b__law_nodes : Binds K fd__law_nodes ["here", "end", "first", "behind"] []
  mg__law_nodes : mg "_law_nodes" = some (.ref f__law_nodes)
  f__law_plain : Addr
  c__law_plain : Addr
  fd__law_plain : FuncData
  F__law_plain : Y.DF K "_law_plain" "_law_plain" s__law_plain f__law_plain c__law_plain fd__law_plain []
  b__law_plain : Binds K fd__law_plain [] []
  mg__law_plain : mg "_law_plain" = some (.ref f__law_plain)
  P__law_plain : Addr
  tb__law_plain : TabB base mg c__law_plain P__law_plain
  f_law : Addr
  c_law : Addr
  fd_law : FuncData
  F_law : Y.DF K "law" "law" s_law f_law c_law fd_law []
  b_law : Binds K fd_law ["script"] []
  mg_law : mg "law" = some (.ref f_law)
  P_law : Addr
  tb_law : TabB base mg c_law P_law
  pnd : [P_Segments_told_under, P_Segments_all_values, P_Segments_places_of, P_windows_least, P__law_plain, P_law].Nodup
  u_MOST_LONG : Value
  mg_MOST_LONG : mg "MOST_LONG" = some u_MOST_LONG
  rv_MOST_LONG : RelV (.int 500) u_MOST_LONG
  no_len : mg "len" = none
  no_list : mg "list" = none
  no_min : mg "min" = none
  no_max : mg "max" = none
  no_tuple : mg "tuple" = none
  no_sum : mg "sum" = none
  no_range : mg "range" = none
  no_enumerate : mg "enumerate" = none
  no_int : mg "int" = none
  no_abs : mg "abs" = none
section
variable {w : World} {K : PySem.W.Frag} {mg : Str → Option Value} {base : Heap} (T : Env w K mg base)
def Env.tabs : List (Addr × Str) := [(T.P_Segments_told_under, "Segments.told_under.<locals>.<genexpr>"), (T.P_Segments_all_values, "Segments.all_values.<locals>.<genexpr>"), (T.P_Segments_places_of, "Segments.places_of.<locals>.<genexpr>"), (T.P_windows_least, "windows_least.<locals>.<genexpr>"), (T.P__law_plain, "_law_plain.<locals>.<lambda>"), (T.P_law, "law.<locals>.<lambda>")]
theorem Env.tm_Segments_told_under : (T.P_Segments_told_under, ("Segments.told_under.<locals>.<genexpr>" : Str)) ∈ T.tabs := by simp only [Env.tabs, List.mem_cons, true_or, or_true]
theorem Env.tu_Segments_told_under : ∀ p ∈ T.tabs, p.1 = T.P_Segments_told_under → p.2 = ("Segments.told_under.<locals>.<genexpr>" : Str) := Y.hu_nd T.pnd T.tm_Segments_told_under
theorem Env.tm_Segments_all_values : (T.P_Segments_all_values, ("Segments.all_values.<locals>.<genexpr>" : Str)) ∈ T.tabs := by simp only [Env.tabs, List.mem_cons, true_or, or_true]
theorem Env.tu_Segments_all_values : ∀ p ∈ T.tabs, p.1 = T.P_Segments_all_values → p.2 = ("Segments.all_values.<locals>.<genexpr>" : Str) := Y.hu_nd T.pnd T.tm_Segments_all_values
theorem Env.tm_Segments_places_of : (T.P_Segments_places_of, ("Segments.places_of.<locals>.<genexpr>" : Str)) ∈ T.tabs := by simp only [Env.tabs, List.mem_cons, true_or, or_true]
theorem Env.tu_Segments_places_of : ∀ p ∈ T.tabs, p.1 = T.P_Segments_places_of → p.2 = ("Segments.places_of.<locals>.<genexpr>" : Str) := Y.hu_nd T.pnd T.tm_Segments_places_of
theorem Env.tm_windows_least : (T.P_windows_least, ("windows_least.<locals>.<genexpr>" : Str)) ∈ T.tabs := by simp only [Env.tabs, List.mem_cons, true_or, or_true]
theorem Env.tu_windows_least : ∀ p ∈ T.tabs, p.1 = T.P_windows_least → p.2 = ("windows_least.<locals>.<genexpr>" : Str) := Y.hu_nd T.pnd T.tm_windows_least
theorem Env.tm__law_plain : (T.P__law_plain, ("_law_plain.<locals>.<lambda>" : Str)) ∈ T.tabs := by simp only [Env.tabs, List.mem_cons, true_or, or_true]
theorem Env.tu__law_plain : ∀ p ∈ T.tabs, p.1 = T.P__law_plain → p.2 = ("_law_plain.<locals>.<lambda>" : Str) := Y.hu_nd T.pnd T.tm__law_plain
theorem Env.tm_law : (T.P_law, ("law.<locals>.<lambda>" : Str)) ∈ T.tabs := by simp only [Env.tabs, List.mem_cons, true_or, or_true]
theorem Env.tu_law : ∀ p ∈ T.tabs, p.1 = T.P_law → p.2 = ("law.<locals>.<lambda>" : Str) := Y.hu_nd T.pnd T.tm_law
end
end Z

set_option Elab.async false
set_option linter.all false
set_option maxRecDepth 100000
set_option maxHeartbeats 4000000
set_option pp.maxSteps 1200
namespace Z
open PySem PySem.Spec L2 LamX Y
local macro_rules | `(tactic| walk_at "lk") => `(tactic| first
  | assumption
  | exact Nw.at (by assumption)
  | exact Wr.at (by assumption)
  | exact Mkd.at (by assumption)
  | exact Nw.look (by assumption) (by walk_at "lk")
  | exact Mkd.look (by assumption) (by walk_at "lk")
  | exact Wr.look (by assumption) (by walk_at "lk") (by walk_at "ne")
  | exact Chg.look (by assumption) (by walk_at "lk") (by walk_at "nin") rfl
  | exact Tp.same (by assumption) _ _ (by walk_at "lk")
  | exact Grows.look (by assumption) (by walk_at "lk") rfl
  | fail)
local macro_rules | `(tactic| walk_at "ne") => `(tactic| first
  | assumption
  | exact Ne.symm (by assumption)
  | exact Nw.ne (by assumption) (by walk_at "lk")
  | exact Ne.symm (Nw.ne (by assumption) (by walk_at "lk"))
  | exact ne_fr (by assumption) (by walk_at "lk")
  | exact Ne.symm (ne_fr (by assumption) (by walk_at "lk"))
  | exact ne_fr (Mkd.nx (by assumption)) (by walk_at "lk")
  | exact Ne.symm (ne_fr (Mkd.nx (by assumption)) (by walk_at "lk"))
  | exact ne_kdn (by assumption) (by walk_at "lk") rfl
  | exact Ne.symm (ne_kdn (by assumption) (by walk_at "lk") rfl)
  | fail)
local macro_rules | `(tactic| walk_at "nin") => `(tactic| first
  | exact nin_nil
  | exact id
  | exact nin_cons (by walk_at "ne") (by walk_at "nin")
  | fail)
local macro_rules | `(tactic| walk_at "fr") => `(tactic| first
  | assumption
  | exact Nw.new (by assumption)
  | exact Mkd.nx (by assumption)
  | exact Nw.dom (by assumption) (by walk_at "fr")
  | exact Wr.dom (by assumption) (by walk_at "fr")
  | exact Mkd.dom (by assumption) (by walk_at "fr")
  | exact Chg.dom (by assumption) _ (by walk_at "fr")
  | exact Tp.dom (by assumption) _ (by walk_at "fr")
  | exact Grows.dom (by assumption) _ (by walk_at "fr")
  | fail)
local macro_rules | `(tactic| walk_at "mem") => `(tactic| first
  | assumption
  | exact List.mem_cons_self
  | (apply List.mem_cons_of_mem; walk_at "mem")
  | fail)
local macro_rules | `(tactic| walk_at "in") => `(tactic| first
  | assumption
  | (apply Or.inl; walk_at "mem")
  | (apply Or.inr; walk_at "fr")
  | fail)
local macro_rules | `(tactic| walk_at "sub") => `(tactic| first
  | exact sub_nil0
  | exact sub_nil
  | exact sub_cons (by walk_at "in") (by walk_at "sub")
  | fail)
local macro_rules | `(tactic| walk_at "chg") => `(tactic| first
  | assumption
  | exact Chg.refl _
  | exact Chg.nw (by assumption) (by walk_at "chg")
  | exact Chg.mkd (by assumption) (by walk_at "chg")
  | exact Chg.tp (by assumption) (by walk_at "chg")
  | exact Chg.gr (by assumption) (by walk_at "chg")
  | exact Chg.wr (by assumption) (by walk_at "chg") (by walk_at "in")
  | exact Chg.ch (by assumption) (by walk_at "chg") (by walk_at "sub")
  | fail)
local macro_rules | `(tactic| walk_at "sq") => `(tactic| first
  | assumption
  | exact SqL.of (by walk_at "lk")
  | exact Chg.seqL (by assumption) (by walk_at "sq") (by walk_at "nin")
  | exact SqL.nw (by assumption) (by walk_at "sq")
  | exact SqL.tp (by assumption) (by walk_at "sq")
  | exact SqL.mkd (by assumption) (by walk_at "sq")
  | exact SqL.wr (by assumption) (by walk_at "sq") (by walk_at "ne")
  | fail)
local macro_rules | `(tactic| walk_at "sqt") => `(tactic| first
  | assumption
  | exact SqT.of (by walk_at "lk")
  | exact Tp.sq (by assumption)
  | exact SqT.nw (by assumption) (by walk_at "sqt")
  | exact SqT.tp (by assumption) (by walk_at "sqt")
  | exact SqT.mkd (by assumption) (by walk_at "sqt")
  | exact SqT.chg (by assumption) (by walk_at "sqt") (by walk_at "nin")
  | fail)
local macro_rules | `(tactic| walk_at "seq") => `(tactic| first
  | assumption
  | exact .inl (by walk_at "sq")
  | exact .inr (by walk_at "sqt")
  | exact SqA.keepN (T := Env.tabs (by assumption)) (by assumption) (by walk_at "chg")
  | fail)
local macro_rules | `(tactic| walk_at "go") => `(tactic| repeat first
  | refine ⟨_, rfl, ?_⟩
  | refine ⟨_, _, _, _, rfl, And.intro (by walk_at "lk") (And.intro rfl ?_)⟩
  | refine ⟨_, _, _, rfl, And.intro (by walk_at "lk") (And.intro (by walk_at "side") ?_)⟩
  | refine ⟨_, _, And.intro rfl (And.intro rfl ?_)⟩
  | refine ⟨_, _, And.intro rfl (And.intro (by walk_at "lk") ?_)⟩
  | refine ⟨_, _, _, And.intro rfl (And.intro (by walk_at "lk") ?_)⟩
  | refine ⟨_, And.intro (by walk_at "lk") (And.intro (by walk_at "side") ?_)⟩
  | refine ⟨_, _, And.intro (by walk_at "lk") (And.intro (by walk_at "side") ?_)⟩
  | refine ⟨_, _, And.intro (by walk_at "seq") (And.intro rfl ?_)⟩
  | refine ⟨_, _, And.intro (by walk_at "seq") (And.intro (by assumption) ?_)⟩
  | refine ⟨_, And.intro (by walk_at "seq") ?_⟩
  | refine ⟨_, And.intro (by walk_at "lk") (And.intro (by walk_at "side") (And.intro (by walk_at "side") (And.intro (by walk_at "side") ?_)))⟩
  | refine .inl ⟨_, _, And.intro (by walk_at "lk") (And.intro (by walk_at "lk") (And.intro (by walk_at "side") ?_))⟩
  | refine .inr ⟨_, _, And.intro (by walk_at "sqt") (And.intro (by walk_at "sqt") (And.intro (by walk_at "side") ?_))⟩
  | refine .inl ⟨_, And.intro (by walk_at "sq") ?_⟩
  | refine .inr ⟨_, And.intro (by walk_at "sqt") ?_⟩
  | refine ⟨_, _, _, _, rfl, rfl, And.intro (by walk_at "lk") (And.intro rfl ?_)⟩
  | refine ⟨_, _, _, _, rfl, rfl, And.intro (by walk_at "lk") (And.intro (by walk_at "key") ?_)⟩
  | refine ⟨_, _, _, rfl, rfl, And.intro (by walk_at "lk") (And.intro (by walk_at "side") ?_)⟩
  | refine fun H' (n : Wr _ _ _ H') => ?_
  | refine fun p H' (n : Nw _ p _ H') => ?_
  | refine fun r H' (n : Tp _ _ r _ H') => ?_
  | refine fun x dx H' (n : Mkd _ _ x dx H') => ?_
  | refine .inl ⟨_, _, rfl, And.intro (by walk_at "sq") (fun p H' (n : Nw _ p _ H') => ?_)⟩
  | refine .inr ⟨_, _, rfl, And.intro (by walk_at "sqt") (fun r H' (n : Tp _ _ r _ H') => ?_)⟩
  | refine ⟨_, _, rfl, And.intro (by walk_at "sq") (fun p H' (n : Nw _ p _ H') => ?_)⟩
  | refine .inl (And.intro ⟨_, by walk_at "sq"⟩ ?_)
  | refine .inr (And.intro ⟨_, by walk_at "sqt"⟩ ?_)
  | refine ⟨_, _, rfl, And.intro (by walk_at "sqt") (And.intro rfl ?_)⟩
  | refine ⟨_, _, And.intro rfl ?_⟩
  | refine ⟨_, _, _, And.intro rfl ?_⟩
  | refine And.intro rfl ?_
  | (refine ite_t ?_ ?_; exact rfl)
  | (refine ite_f ?_ ?_; exact rfl)
  | refine And.intro (by walk_at "side") ?_)
local macro_rules | `(tactic| walk_at "side") => `(tactic| first
  | exact (rfl : _ = _)
  | decide
  | exact lt1000 rfl
  | with_reducible assumption
  | exact ⟨by omega, by omega⟩
  | exact .inl ⟨by omega, by omega⟩
  | exact .inr ⟨by omega, by omega⟩
  | omega
  | (apply le_line; omega)
  | (apply lt_line; omega)
  | (apply le_line; simp <;> omega)
  | (apply lt_line; simp <;> omega)
  | fail)
local macro_rules | `(tactic| walk_at "if") => `(tactic| first
  | refine ite_nd ?_ ?_
  | refine ite_d ?_ ?_
  | refine ite_eqt ?_ ?_
  | fail)
local macro_rules | `(tactic| walk_at "roll") => `(tactic| first
  | (refine And.intro (show Dice _ _ from ⟨_, _, _, by walk_at "lk"⟩) (And.intro (by walk_at "side") (And.intro (by walk_at "side") (fun r H' r0 r1 ro => ?_))); obtain ⟨a', b', c', w⟩ := ro)
  | fail)
local macro_rules | `(tactic| walk_at "run") => `(tactic| (walk_at "go"; repeat (walk_at "roll"; walk_at "go")))
local macro_rules | `(tactic| walk_at "dp") => `(tactic| first
  | exact Dp.non
  | exact Dp.int _
  | exact Dp.str _
  | exact Dp.bl _
  | exact DpAll.nil
  | exact DpAll.cons (by walk_at "dp") (by walk_at "dp")
  | exact Dp.tup (by walk_at "sqt") (by walk_at "dp")
  | exact Dp.lst (by walk_at "sq") (by walk_at "dp")
  | fail)
local macro_rules | `(tactic| walk_at "key") => `(tactic| first
  | assumption
  | fail)

section
variable {w : World} {K : PySem.W.Frag} {mg : Str → Option Value} {base : Heap}
/-- the dice stand at d -/
def Dice (H : Hp) (d : Addr) : Prop := ∃ a b c : Int, H d = some (.lst [.int a, .int b, .int c])
def sp__law_dice (T : Env w K mg base) : Sp := fun vs H Q _ => match vs with
  | [.int _] => ∀ d H' a b c, Nw H d (.lst [.int a, .int b, .int c]) H' → Q (.ref d) H'
  | _ => False
theorem ok__law_dice (T : Env w K mg base) : FnOk prg w K mg base (L2.CX prg w) 8 T.f__law_dice T.fd__law_dice ["cell"] (sp__law_dice T) := by
  refine T.F__law_dice.ok sc__law_dice (fun vs H Q E h => by unfold sp__law_dice at h; split at h <;> first | rfl | exact h.elim) fun A outer s H vs Q E hr h => ?_
  refine ⟨_, (pss_cons (ps_if (pt_chain Y.op_lt Y.op_lt (pe_op Y.op_sub pe_int pe_int) (pv 0) pe_int) (pss_one (ps_ret (Y.pe_ls (pa_cons (pe_callB Y.call_abs (by rfl) T.no_abs (by decide +kernel) (pa_cons (pv 0) pa_nil)) (pa_cons pe_int (pa_cons pe_int pa_nil)))))) pss_nil)
  (pss_one (ps_ret (Y.pe_ls (pa_cons (pv 0) (pa_cons (pe_op (Y.op_addK (K := K) rfl) pe_int (pe_op Y.op_mod (pe_callTy Y.call_int1 (by rfl) T.no_int (by decide +kernel) (pa_cons (pv 0) pa_nil)) pe_int)) (pa_cons (pe_callTy Y.call_int1 (by rfl) T.no_int (by decide +kernel) (pa_cons (pe_cmpR Y.op_ge (pv 0) (pe_op Y.op_pow pe_int pe_int) (nomark _)) pa_nil)) pa_nil))))))), ?_⟩
  unfold sp__law_dice at h
  split at h
  next i =>
    walk_at "go"
    walk_at "if"
    · intro c
      walk_at "go"
      walk_at "if"
      · intro c2
        walk_at "go"
        exact h _ _ _ _ _ (by assumption)
      · intro c2
        walk_at "go"
        exact h _ _ _ _ _ (by assumption)
    · intro c
      walk_at "go"
      exact h _ _ _ _ _ (by assumption)
  next => exact h.elim
/-- the dice have gone on -/
def Rolled (H : Hp) (d : Addr) (H' : Hp) : Prop := ∃ a b c : Int, Wr H d (.lst [.int a, .int b, .int c]) H'
theorem Rolled.dice {H H' : Hp} {d : Addr} (r : Rolled H d H') : Dice H' d := let ⟨a, b, c, h⟩ := r; ⟨a, b, c, h.at⟩
theorem Rolled.chg {H H' : Hp} {d : Addr} (r : Rolled H d H') {T : List (Addr × Str)} : Chg T (In [d]) H H' := let ⟨_, _, _, h⟩ := r; h.chg (by simp)
def sp__law_roll (T : Env w K mg base) : Sp := fun vs H Q _ => match vs with
  | [.ref d, .int m] => Dice H d ∧ 1 ≤ m ∧ m ≤ 100000000 ∧ ∀ r H', 0 ≤ r → r < m → Rolled H d H' → Q (.int r) H'
  | _ => False
theorem ok__law_roll (T : Env w K mg base) : FnOk prg w K mg base (L2.CX prg w) 8 T.f__law_roll T.fd__law_roll ["dice", "many"] (sp__law_roll T) := by
  refine T.F__law_roll.ok sc__law_roll (fun vs H Q E h => by unfold sp__law_roll at h; split at h <;> first | rfl | exact h.elim) fun A outer s H vs Q E hr h => ?_
  refine ⟨_, (pss_cons (ps_if (PW.pt (pw_or (pt_cmpR (Y.op_eqK (K := K) rfl hr.units) (pe_ix (Y.ixK (K := K) rfl) (pv 0) pe_int (fun _ _ => rfl)) pe_int (nomark _)) (pw_or1 (PW.pt (pw_and (pt_cmpR (Y.op_eqK (K := K) rfl hr.units) (pe_ix (Y.ixK (K := K) rfl) (pv 0) pe_int (fun _ _ => rfl)) pe_int (nomark _)) (pw_and1 (pt_cmpR Y.op_gt (pe_ix (Y.ixK (K := K) rfl) (pv 0) pe_int (fun _ _ => rfl)) pe_int (nomark _)))))))) (pss_cons (ps_set (i := 2) sc__law_roll.nd rfl (Or.inl rfl) (pe_op Y.op_mod (pe_callTy Y.call_int1 (by rfl) T.no_int (by decide +kernel) (pa_cons (pe_ix (Y.ixK (K := K) rfl) (pv 0) pe_int (fun _ _ => rfl)) pa_nil)) (pv 1)))
  (pss_cons (ps_asg (pe_op Y.op_fdiv (pe_ix (Y.ixK (K := K) rfl) (pv 0) pe_int (fun _ _ => rfl)) (pv 1)) (pg_sub (pv 0) pe_int Y.set_lst))
  (pss_one (ps_ret (pv 2))))) pss_nil)
  (pss_cons (ps_asg pe_int (pg_sub (pv 0) pe_int Y.set_lst))
  (pss_cons (ps_if (pt_cmpR Y.op_gt (pv 1) pe_int (nomark _)) (pss_one (ps_ret (pe_op Y.op_mod (pe_callTy Y.call_int1 (by rfl) T.no_int (by decide +kernel) (pa_cons (pe_op (Y.op_addK (K := K) rfl) (pe_op Y.op_mul (pe_call (Y.okNo (k := 0)) (hr.mono (by decide)) rfl T.mg__law_roll T.F__law_roll.kp T.b__law_roll .nil (Y.passD rfl rfl rfl rfl) (pa_cons (pv 0) (pa_cons (pe_op (Y.op_addK (K := K) rfl) (pe_op Y.op_fdiv (pv 1) pe_int) pe_int) pa_nil))) pe_int) (pe_call (Y.okNo (k := 0)) (hr.mono (by decide)) rfl T.mg__law_roll T.F__law_roll.kp T.b__law_roll .nil (Y.passD rfl rfl rfl rfl) (pa_cons (pv 0) (pa_cons pe_int pa_nil)))) pa_nil)) (pv 1)))) pss_nil)
  (pss_cons (ps_asg (pe_op Y.op_mod (pe_callTy Y.call_int1 (by rfl) T.no_int (by decide +kernel) (pa_cons (pe_op (Y.op_addK (K := K) rfl) (pe_op (Y.op_addK (K := K) rfl) (pe_op Y.op_mul (pe_ix (Y.ixK (K := K) rfl) (pv 0) pe_int (fun _ _ => rfl)) pe_int) (pe_op Y.op_mul (pe_ix (Y.ixK (K := K) rfl) (pv 0) pe_int (fun _ _ => rfl)) pe_int)) pe_int) pa_nil)) pe_int) (pg_sub (pv 0) pe_int Y.set_lst))
  (pss_cons (ps_asg (pe_op (Y.op_addK (K := K) rfl) (pe_ix (Y.ixK (K := K) rfl) (pv 0) pe_int (fun _ _ => rfl)) pe_int) (pg_sub (pv 0) pe_int Y.set_lst))
  (pss_one (ps_ret (pe_op Y.op_mod (pe_callTy Y.call_int1 (by rfl) T.no_int (by decide +kernel) (pa_cons (pe_op Y.op_fdiv (pe_ix (Y.ixK (K := K) rfl) (pv 0) pe_int (fun _ _ => rfl)) pe_int) pa_nil)) (pv 1))))))))), ?_⟩
  unfold sp__law_roll at h
  split at h
  next d m =>
    obtain ⟨⟨a, b, c, hd⟩, m1, m2, h⟩ := h
    have rd : ∀ r : Int, 0 ≤ r % m ∧ r % m < m := fun r => ⟨Int.emod_nonneg _ (by omega), Int.emod_lt_of_pos _ (by omega)⟩
    have low : ∀ H3, Rolled H d H3 → ∀ z : Int, Q (.int (z % m)) H3 := fun H3 r z => h _ _ (rd z).1 (rd z).2 r
    have pA : ∀ H', Wr H d (.lst [.int (a / m), .int b, .int c]) H' → Q (.int (a % m)) H' := fun H' n => h _ _ (rd a).1 (rd a).2 ⟨_, _, _, n⟩
    walk_at "go"
    walk_at "if"
    · intro c2
      walk_at "go"
      exact pA _ (by assumption)
    · intro c2
      walk_at "go"
      walk_at "if"
      · intro c1
        walk_at "go"
        walk_at "if"
        · intro a1
          walk_at "go"
          exact pA _ (by assumption)
        · intro a1
          walk_at "go"
          walk_at "if"
          · intro z; omega
          · intro _
            walk_at "go"
            exact low _ ⟨_, _, _, Wr.trans (Wr.trans (by assumption) (by assumption)) (by assumption)⟩ _
      · intro c1
        walk_at "go"
        walk_at "if"
        · intro z; omega
        · intro _
          walk_at "go"
          exact low _ ⟨_, _, _, Wr.trans (Wr.trans (by assumption) (by assumption)) (by assumption)⟩ _
  next => exact h.elim
def sp__law_rounds (T : Env w K mg base) : Sp := fun vs H Q _ => match vs with
  | [.ref a, .int m] => m = 1 ∧ (∃ ns : List Int, SqL K H a (ns.map V.int)) ∧ ∀ l d H', Chg T.tabs nil H H' → H l = none → H d = none → l ≠ d → H' l = some (.lst [.ref d]) → Dice H' d → Q (.ref l) H'
  | _ => False
theorem rounds_one {X : List Int} (h : X ≠ []) : ∃ i, cutV (X.map V.int) none (some 1) = [V.int i] := by
  cases X with
  | nil => exact (h rfl).elim
  | cons i X => exact ⟨i, by rw [cut_to (by omega)]; simp⟩
theorem ok__law_rounds (T : Env w K mg base) : FnOk prg w K mg base (L2.CX prg w) 16 T.f__law_rounds T.fd__law_rounds ["script", "most"] (sp__law_rounds T) := by
  refine T.F__law_rounds.ok sc__law_rounds (fun vs H Q E h => by unfold sp__law_rounds at h; split at h <;> first | rfl | exact h.elim) fun A outer s H vs Q E hr h => ?_
  refine ⟨_, (pss_cons (ps_set (i := 2) sc__law_rounds.nd rfl (Or.inl rfl) (pe_slice (Y.slK (K := K) rfl) (pv 0) po_none (po_some (pv 1))))
  (pss_cons (ps_if (pt_cmpR (Y.op_eqK (K := K) rfl hr.units) (pv 2) (Y.pe_ls pa_nil) (nomark _)) (pss_one (ps_set (i := 2) sc__law_rounds.nd rfl (Or.inl rfl) (Y.pe_ls (pa_cons pe_int pa_nil)))) pss_nil)
  (pss_one (ps_ret (pe_lc (own := [("cell", 3)]) rfl sc__law_rounds.nd (Y.pi_seqK (K := K) rfl (pv 2)) (blkOk_by (own := [("cell", 3)]) (N := N__law_rounds) (sc := defScope s__law_rounds) (by decide +kernel)) (fun _ _ _ _ _ => (pg_name (i := 3) sc__law_rounds.nd rfl (Or.inl rfl))) (fun _ _ _ _ _ => pts_nil) (fun _ _ _ _ _ => (pe_call (ok__law_dice T) (hr.mono (by decide)) rfl T.mg__law_dice T.F__law_dice.kp T.b__law_dice .nil Y.passN (pa_cons (pv 3) pa_nil)))))))), ?_⟩
  unfold sp__law_rounds at h
  split at h
  next a m =>
    obtain ⟨rfl, ⟨ns, hs⟩, h⟩ := h
    walk_at "go"
    rename_i c H1 n1 e H2 n2
    have nl : ∀ (G : Hp) (c2 : Addr) (i : Int), G c2 = some (.lst [.int i]) → Chg T.tabs nil H G → ∀ D, G D = none →
        LcW (Itl K c2) (gName 3) tYes (tCall (sp__law_dice T) [] Y.E0 (tCons (tVar 3) tNil)) [3] [some (.ref a), some (.int 1), some (.ref c2), none] G D (fun H' => Q (.ref D) H') := by
      intro G c2 i hc cg D hD
      refine lcl (xs := [.int i]) (fun j H' => (j = 0 ∧ Nw G D (.lst []) H') ∨ (j = 1 ∧ ∃ d H3 a b c, ∃ H2, Nw G D (.lst []) H2 ∧ Nw H2 d (.lst [.int a, .int b, .int c]) H3 ∧ Wr H3 D (.lst [.ref d]) H')) hD (fun H' n => .inl ⟨rfl, n⟩) ?_ ?_ ?_
      · rintro j H' - (⟨-, n⟩ | ⟨-, d, H3, x, y, z, H2, n, n2, n3⟩)
        · walk_at "sq"
        · walk_at "sq"
      · rintro H' (⟨z, -⟩ | ⟨-, d, H3, x, y, z, H2, n, n2, n3⟩)
        · cases z
        · have nD : H D = none := cg.dom _ hD
          have nd : H2 d = none := n2.new
          have c1 : Chg T.tabs nil H H' := by walk_at "chg"
          exact h _ d _ c1 nD (cg.dom _ (n.dom n2.new)) (by walk_at "ne") (by walk_at "lk") ⟨_, _, _, by walk_at "lk"⟩
      · rintro j x H' hx (⟨rfl, n⟩ | ⟨rfl, -⟩)
        · obtain rfl : V.int i = x := by simpa using hx
          intro Nx Sk hN hS
          walk_at "go"
          intro d H2 a b c n2
          exact hN _ _ _ (by walk_at "lk") (by decide) fun H' n3 => .inr ⟨rfl, _, _, _, _, _, _, n, n2, n3⟩
        · simp at hx
    refine veq_ll (by walk_at "sq") (by walk_at "sq") ?_ (by simp) (p := ns = []) ?_ ?_
    · rw [cut_to (by omega)]
      intro x hx
      exact ints_flat x (List.mem_of_mem_take hx)
    · rw [cut_to (by omega)]
      cases ns <;> simp
    walk_at "go"
    walk_at "if"
    · intro z
      walk_at "go"
      exact fun D hD => nl _ _ _ (by walk_at "lk") (by walk_at "chg") D hD
    · intro z
      obtain ⟨i, e⟩ := rounds_one z
      rw [e] at n1
      walk_at "go"
      exact fun D hD => nl _ _ _ (by walk_at "lk") (by walk_at "chg") D hD
  next => exact h.elim
end
end Z


set_option Elab.async false
set_option linter.all false
set_option maxRecDepth 100000
set_option maxHeartbeats 4000000
/-! a tree of rows of sums over a list of whole numbers, without any program -/
namespace Z
structure Rw where
  s : Int
  mn : Int
  mx : Int
  ad : Int
  st : Option Int
abbrev Nd := Int → Option Rw
def updN (N : Nd) (i : Int) (r : Rw) : Nd := fun j => if j = i then some r else N j
theorem updN_at {N : Nd} {i : Int} {r : Rw} : updN N i r i = some r := by simp [updN]
theorem updN_ne {N : Nd} {i j : Int} {r : Rw} (h : j ≠ i) : updN N i r j = N j := by simp [updN, h]
inductive Und : Int → Int → Prop
  | refl (n : Int) : Und n n
  | lo {n i : Int} : Und (2 * n) i → Und n i
  | hi {n i : Int} : Und (2 * n + 1) i → Und n i
theorem Und.ge {n i : Int} (u : Und n i) (h : 1 ≤ n) : n ≤ i := by
  induction u with
  | refl => exact Int.le_refl _
  | lo _ ih => have := ih (by omega); omega
  | hi _ ih => have := ih (by omega); omega
theorem dd {i a b : Int} (h : 0 ≤ a) : i / (a * b) = i / a / b := by rw [Int.ediv_ediv, if_neg (fun z => absurd z.1 (by omega))]; omega
theorem Und.div {n i : Int} (u : Und n i) : ∃ k : Nat, i / 2 ^ k = n := by
  induction u with
  | refl n => exact ⟨0, by simp⟩
  | lo _ ih =>
    obtain ⟨k, e⟩ := ih
    exact ⟨k + 1, by rw [Int.pow_succ, dd (Int.le_of_lt (Int.pow_pos (by omega))), e]; omega⟩
  | hi _ ih =>
    obtain ⟨k, e⟩ := ih
    exact ⟨k + 1, by rw [Int.pow_succ, dd (Int.le_of_lt (Int.pow_pos (by omega))), e]; omega⟩
theorem div_far {i a : Int} {k j : Nat} (e : i / 2 ^ k = a) (h : k < j) (ha : 0 ≤ a) : i / 2 ^ j ≤ a / 2 := by
  obtain ⟨m, rfl⟩ := Nat.exists_eq_add_of_lt h
  have p : (2 : Int) ^ (k + m + 1) = 2 ^ k * (2 * 2 ^ m) := by rw [Int.pow_succ, Int.pow_add]; rw [Int.mul_assoc, Int.mul_comm (2 ^ m)]
  rw [p, dd (Int.le_of_lt (Int.pow_pos (by omega))), e, dd (by omega)]
  exact Int.ediv_le_self _ (by omega)
theorem Und.apart {n i : Int} (h : 1 ≤ n) (u : Und (2 * n) i) (v : Und (2 * n + 1) i) : False := by
  obtain ⟨k, e⟩ := u.div
  obtain ⟨j, e2⟩ := v.div
  rcases Nat.lt_trichotomy k j with z | z | z
  · have := div_far e z (by omega); omega
  · subst z; omega
  · have := div_far e2 z (by omega); omega
theorem Und.ne {n i : Int} (h : 1 ≤ n) (u : Und (2 * n) i) : i ≠ n := by have := u.ge (by omega); omega
theorem Und.ne2 {n i : Int} (h : 1 ≤ n) (u : Und (2 * n + 1) i) : i ≠ n := by have := u.ge (by omega); omega

def IsMin (m : Int) (xs : List Int) : Prop := m ∈ xs ∧ ∀ y ∈ xs, m ≤ y
def IsMax (m : Int) (xs : List Int) : Prop := m ∈ xs ∧ ∀ y ∈ xs, y ≤ m
def Fits (s mn mx : Int) (xs : List Int) : Prop := s = xs.sum ∧ IsMin mn xs ∧ IsMax mx xs
theorem fits_one (x : Int) : Fits x x x [x] := ⟨by simp, ⟨by simp, by simp⟩, by simp, by simp⟩
theorem fits_app {s mn mx s2 mn2 mx2 : Int} {xs ys : List Int} (h : Fits s mn mx xs) (k : Fits s2 mn2 mx2 ys) : Fits (s + s2) (min mn mn2) (max mx mx2) (xs ++ ys) := by
  obtain ⟨rfl, ⟨a1, a2⟩, b1, b2⟩ := h
  obtain ⟨rfl, ⟨c1, c2⟩, d1, d2⟩ := k
  refine ⟨by simp, ⟨?_, ?_⟩, ?_, ?_⟩
  · rcases Int.le_total mn mn2 with z | z
    · rw [Int.min_eq_left z]; simp [a1]
    · rw [Int.min_eq_right z]; simp [c1]
  · intro y hy
    rcases List.mem_append.mp hy with z | z
    · have := a2 y z; omega
    · have := c2 y z; omega
  · rcases Int.le_total mx mx2 with z | z
    · rw [Int.max_eq_right z]; simp [d1]
    · rw [Int.max_eq_left z]; simp [b1]
  · intro y hy
    rcases List.mem_append.mp hy with z | z
    · have := b2 y z; omega
    · have := d2 y z; omega
def opV (isSet : Bool) (v x : Int) : Int := if isSet then v else x + v
theorem sum_addc (v : Int) : ∀ xs : List Int, (xs.map (opV false v)).sum = xs.sum + v * xs.length
  | [] => by simp
  | x :: xs => by
    have := sum_addc v xs
    simp only [List.map_cons, List.sum_cons, List.length_cons, this, opV, Bool.false_eq_true, if_false, Int.natCast_add, Int.mul_add]
    omega
theorem sum_setc (v : Int) : ∀ xs : List Int, (xs.map (opV true v)).sum = v * xs.length
  | [] => by simp
  | x :: xs => by
    have := sum_setc v xs
    simp only [List.map_cons, List.sum_cons, List.length_cons, this, opV, if_true, Int.natCast_add, Int.mul_add]
    omega
theorem fits_add {s mn mx v : Int} {xs : List Int} (h : Fits s mn mx xs) : Fits (s + v * xs.length) (mn + v) (mx + v) (xs.map (opV false v)) := by
  obtain ⟨rfl, ⟨a1, a2⟩, b1, b2⟩ := h
  refine ⟨(sum_addc v xs).symm, ⟨List.mem_map.mpr ⟨_, a1, rfl⟩, ?_⟩, List.mem_map.mpr ⟨_, b1, rfl⟩, ?_⟩
  · intro y hy
    obtain ⟨x, hx, rfl⟩ := List.mem_map.mp hy
    have := a2 x hx
    show mn + v ≤ x + v
    omega
  · intro y hy
    obtain ⟨x, hx, rfl⟩ := List.mem_map.mp hy
    have := b2 x hx
    show x + v ≤ mx + v
    omega
theorem fits_set {v : Int} {xs : List Int} (h : xs ≠ []) : Fits (v * xs.length) v v (xs.map (opV true v)) := by
  have m : v ∈ xs.map (opV true v) := by
    cases xs with
    | nil => exact (h rfl).elim
    | cons x r => simp [opV]
  refine ⟨(sum_setc v xs).symm, ⟨m, ?_⟩, m, ?_⟩ <;>
  · intro y hy
    obtain ⟨x, hx, rfl⟩ := List.mem_map.mp hy
    exact Int.le_refl _
def lz (r : Rw) (l : List Int) : List Int := match r.st with | some v => l.map (opV true v) | none => l.map (opV false r.ad)
theorem lz_len {r : Rw} {l : List Int} : (lz r l).length = l.length := by unfold lz; split <;> simp
theorem lz_ne {r : Rw} {l : List Int} (h : l ≠ []) : lz r l ≠ [] := fun z => h (List.length_eq_zero_iff.mp (by rw [← lz_len (r := r), z]; rfl))
theorem op0 (xs : List Int) : xs.map (opV false 0) = xs := by
  induction xs with
  | nil => rfl
  | cons x r ih => rw [List.map_cons, ih]; simp [opV]
theorem lz_none {r : Rw} {l : List Int} (h : r.st = none) (h2 : r.ad = 0) : lz r l = l := by unfold lz; rw [h, h2]; exact op0 l

inductive Seg (N : Nd) : Int → List Int → Prop
  | leaf {n x : Int} {r : Rw} : N n = some r → Fits r.s r.mn r.mx [x] → Seg N n [x]
  | node {n : Int} {r : Rw} {ys zs xs : List Int} : N n = some r → Seg N (2 * n) ys → Seg N (2 * n + 1) zs → ys ≠ [] → ys.length = (ys.length + zs.length) / 2 → xs = lz r (ys ++ zs) → Fits r.s r.mn r.mx xs → Seg N n xs
theorem Seg.row {N : Nd} {n : Int} {xs : List Int} (h : Seg N n xs) : ∃ r, N n = some r ∧ Fits r.s r.mn r.mx xs := by
  cases h with
  | leaf a b => exact ⟨_, a, b⟩
  | node a _ _ _ _ _ b => exact ⟨_, a, b⟩
theorem Seg.ne {N : Nd} {n : Int} {xs : List Int} (h : Seg N n xs) : xs ≠ [] := by
  obtain ⟨r, _, _, ⟨h, _⟩, _⟩ := h.row
  exact fun z => by rw [z] at h; cases h
theorem Seg.keep {N N' : Nd} {n : Int} {xs : List Int} (h : Seg N n xs) (k : ∀ i, Und n i → N' i = N i) : Seg N' n xs := by
  induction h with
  | leaf a b => exact .leaf ((k _ (.refl _)).trans a) b
  | node a _ _ c d e f i1 i2 => exact .node ((k _ (.refl _)).trans a) (i1 fun i u => k i (.lo u)) (i2 fun i u => k i (.hi u)) c d e f
def lay (r : Rw) (long : Int) (isSet : Bool) (v : Int) : Rw :=
  if isSet then ⟨v * long, v, v, 0, some v⟩ else match r.st with
  | some u => ⟨r.s + v * long, r.mn + v, r.mx + v, 0, some (u + v)⟩
  | none => ⟨r.s + v * long, r.mn + v, r.mx + v, r.ad + v, none⟩
theorem lay_fits {r : Rw} {xs : List Int} {b : Bool} {v : Int} (h : Fits r.s r.mn r.mx xs) (hn : xs ≠ []) : Fits (lay r xs.length b v).s (lay r xs.length b v).mn (lay r xs.length b v).mx (xs.map (opV b v)) := by
  cases b with
  | true => exact fits_set hn
  | false =>
    cases e : r.st with
    | none => simp only [lay, e, Bool.false_eq_true, if_false]; exact fits_add h
    | some u => simp only [lay, e, Bool.false_eq_true, if_false]; exact fits_add h
theorem lay_lz {r : Rw} {long : Int} {l : List Int} {b : Bool} {v : Int} : lz (lay r long b v) l = (lz r l).map (opV b v) := by
  cases b with
  | true =>
    simp only [lay, if_true, lz]
    cases e : r.st <;> simp [opV]
  | false =>
    cases e : r.st with
    | none => simp [lay, lz, e, opV, Int.add_assoc]
    | some u => simp [lay, lz, e, opV]
theorem Seg.lay {N : Nd} {n : Int} {xs : List Int} {r : Rw} {b : Bool} {v : Int} (h : Seg N n xs) (h1 : 1 ≤ n) (e : N n = some r) : Seg (updN N n (lay r xs.length b v)) n (xs.map (opV b v)) := by
  cases h with
  | leaf a f =>
    rw [e] at a
    cases a
    exact .leaf (r := Z.lay r _ b v) updN_at (lay_fits f (by simp))
  | node a s1 s2 hn hl ex f =>
    rw [e] at a
    cases a
    refine .node (r := Z.lay r _ b v) updN_at (s1.keep fun i u => updN_ne (u.ne h1)) (s2.keep fun i u => updN_ne (u.ne2 h1)) hn hl ?_ (lay_fits f ?_)
    · rw [lay_lz, ← ex]
    · rw [ex]; exact lz_ne (by simp [hn])
/-- pushed down -/
def psh (r : Rw) (c : Rw) (long : Int) : Rw := match r.st with
  | some v => lay c long true v
  | none => if r.ad = 0 then c else lay c long false r.ad
theorem psh_lay {r c : Rw} {long : Int} : psh r c long = c ∧ r.st = none ∧ r.ad = 0 ∨ ∃ b v, psh r c long = lay c long b v ∧ ∀ l, lz r l = l.map (opV b v) := by
  unfold psh
  cases e : r.st with
  | some v => exact .inr ⟨true, v, rfl, fun l => by simp [lz, e]⟩
  | none =>
    by_cases z : r.ad = 0
    · exact .inl ⟨by simp [z], rfl, z⟩
    · exact .inr ⟨false, r.ad, by simp [z], fun l => by simp [lz, e]⟩
def flat (r : Rw) : Rw := ⟨r.s, r.mn, r.mx, 0, none⟩
def pshN (N : Nd) (n : Int) (r l h : Rw) (a b : Int) : Nd := updN (updN (updN N (2 * n) (psh r l a)) (2 * n + 1) (psh r h b)) n (flat r)
theorem seg_psh {N : Nd} {m : Int} {xs : List Int} {r c : Rw} (h : Seg N m xs) (h1 : 1 ≤ m) (e : N m = some c) : Seg (updN N m (psh r c xs.length)) m (lz r xs) := by
  rcases psh_lay (r := r) (c := c) (long := xs.length) with ⟨z, a, b⟩ | ⟨b, v, z, hl⟩
  · rw [z, lz_none a b]
    exact h.keep fun i _ => by
      by_cases q : i = m
      · rw [q, updN_at, e]
      · exact updN_ne q
  · rw [z, hl]
    exact h.lay h1 e
theorem lz_app {r : Rw} {ys zs : List Int} : lz r (ys ++ zs) = lz r ys ++ lz r zs := by unfold lz; split <;> simp
/-- what push_down meets and what it leaves -/
theorem Seg.open {N : Nd} {n : Int} {xs : List Int} (h : Seg N n xs) (h1 : 1 ≤ n) (h2 : 2 ≤ xs.length) : ∃ r l k ys zs, N n = some r ∧ N (2 * n) = some l ∧ N (2 * n + 1) = some k ∧ xs = ys ++ zs ∧ ys ≠ [] ∧ zs ≠ [] ∧ ys.length = xs.length / 2 ∧
    Seg (pshN N n r l k ys.length zs.length) (2 * n) ys ∧ Seg (pshN N n r l k ys.length zs.length) (2 * n + 1) zs ∧ pshN N n r l k ys.length zs.length n = some (flat r) ∧ Seg (pshN N n r l k ys.length zs.length) n xs ∧
    (∀ i, ¬ Und n i → pshN N n r l k ys.length zs.length i = N i) := by
  cases h with
  | leaf a f => simp at h2
  | node a s1 s2 hn hl ex f =>
    rename_i r ys zs
    obtain ⟨l, el, fl⟩ := s1.row
    obtain ⟨k, ek, fk⟩ := s2.row
    have g1 : Seg (pshN N n r l k ys.length zs.length) (2 * n) (lz r ys) := (seg_psh (r := r) s1 (by omega) el).keep fun i u => by
      unfold pshN
      rw [updN_ne (u.ne h1), updN_ne (fun z => by subst z; exact Und.apart h1 u (.refl _))]
    have g2 : Seg (pshN N n r l k ys.length zs.length) (2 * n + 1) (lz r zs) := (seg_psh (N := updN N (2 * n) (psh r l ys.length)) (r := r) (c := k) (s2.keep fun i u => updN_ne fun z => by subst z; exact Und.apart h1 (.refl _) u) (by omega) (by rw [updN_ne (by omega)]; exact ek)).keep fun i u => by
      unfold pshN
      rw [updN_ne (u.ne2 h1)]
    have g0 : pshN N n r l k ys.length zs.length n = some (flat r) := updN_at
    have ez : xs = lz r ys ++ lz r zs := by rw [ex, lz_app]
    have lx : xs.length = ys.length + zs.length := by rw [ez]; simp [lz_len]
    refine ⟨r, l, k, lz r ys, lz r zs, a, el, ek, ez, lz_ne hn, lz_ne s2.ne, by rw [lz_len, lx]; exact hl, by rw [lz_len, lz_len]; exact g1, by rw [lz_len, lz_len]; exact g2, by rw [lz_len, lz_len]; exact g0, ?_, ?_⟩
    · rw [lz_len, lz_len]
      exact .node g0 g1 g2 (lz_ne hn) (by rw [lz_len, lz_len]; exact hl) (by rw [lz_none rfl rfl]; exact ez) f
    · intro i hi
      rw [lz_len, lz_len]
      unfold pshN
      rw [updN_ne (fun z => hi (by rw [z]; exact .refl _)), updN_ne (fun z => hi (.hi (by rw [z]; exact .refl _))), updN_ne (fun z => hi (.lo (by rw [z]; exact .refl _)))]
def gat (r l h : Rw) : Rw := ⟨l.s + h.s, min l.mn h.mn, max l.mx h.mx, r.ad, r.st⟩
theorem Seg.gather {N : Nd} {n : Int} {ys zs : List Int} {r l k : Rw} (s1 : Seg N (2 * n) ys) (s2 : Seg N (2 * n + 1) zs) (h1 : 1 ≤ n) (e1 : N (2 * n) = some l) (e2 : N (2 * n + 1) = some k) (a : r.ad = 0) (b : r.st = none) (hl : ys.length = (ys.length + zs.length) / 2) :
    Seg (updN N n (gat r l k)) n (ys ++ zs) := by
  obtain ⟨l', z, f1⟩ := s1.row
  rw [e1] at z; cases z
  obtain ⟨k', z, f2⟩ := s2.row
  rw [e2] at z; cases z
  exact .node (r := gat r l k) updN_at (s1.keep fun i u => updN_ne (u.ne h1)) (s2.keep fun i u => updN_ne (u.ne2 h1)) s1.ne hl (by rw [lz_none (r := gat r l k) b a]) (fits_app f1 f2)
/-- a part changed -/
def chgL (f b : Int) (g : Int → Int) : Int → List Int → List Int
  | _, [] => []
  | k, x :: r => (if f ≤ k ∧ k < b then g x else x) :: chgL f b g (k + 1) r
theorem chgL_len {f b : Int} {g : Int → Int} : ∀ (xs : List Int) (k : Int), (chgL f b g k xs).length = xs.length
  | [], _ => rfl
  | x :: r, k => by simp [chgL, chgL_len r]
theorem chgL_app {f b : Int} {g : Int → Int} {ys : List Int} : ∀ (xs : List Int) (k : Int), chgL f b g k (xs ++ ys) = chgL f b g k xs ++ chgL f b g (k + xs.length) ys
  | [], k => by simp [chgL]
  | x :: r, k => by
    simp only [List.cons_append, chgL, chgL_app r, List.length_cons, Int.natCast_add]
    congr 3
    show _ = k + (_ + 1)
    omega
theorem chgL_all {f b : Int} {g : Int → Int} : ∀ (xs : List Int) (k : Int), f ≤ k → k + xs.length ≤ b → chgL f b g k xs = xs.map g
  | [], _, _, _ => rfl
  | x :: r, k, h, h2 => by
    simp only [List.length_cons, Int.natCast_add] at h2
    simp only [chgL, List.map_cons, chgL_all (f := f) (b := b) (g := g) r (k + 1) (by omega) (by omega), if_pos (show f ≤ k ∧ k < b from ⟨h, by omega⟩)]
theorem chgL_none {f b : Int} {g : Int → Int} : ∀ (xs : List Int) (k : Int), (b ≤ k ∨ k + xs.length ≤ f) → chgL f b g k xs = xs
  | [], _, _ => rfl
  | x :: r, k, h => by
    simp only [List.length_cons, Int.natCast_add] at h
    simp only [chgL, chgL_none (f := f) (b := b) (g := g) r (k + 1) (by omega), if_neg (show ¬ (f ≤ k ∧ k < b) by omega)]
/-- a part alone -/
def prt (f b : Int) : Int → List Int → List Int
  | _, [] => []
  | k, x :: r => if f ≤ k ∧ k < b then x :: prt f b (k + 1) r else prt f b (k + 1) r
theorem prt_app {f b : Int} {ys : List Int} : ∀ (xs : List Int) (k : Int), prt f b k (xs ++ ys) = prt f b k xs ++ prt f b (k + xs.length) ys
  | [], k => by simp [prt]
  | x :: r, k => by
    simp only [List.cons_append, prt, prt_app r, List.length_cons, Int.natCast_add]
    have e : k + 1 + (r.length : Int) = k + (r.length + 1) := by omega
    rw [e]
    split <;> simp
theorem prt_all {f b : Int} : ∀ (xs : List Int) (k : Int), f ≤ k → k + xs.length ≤ b → prt f b k xs = xs
  | [], _, _, _ => rfl
  | x :: r, k, h, h2 => by
    simp only [List.length_cons, Int.natCast_add] at h2
    simp only [prt, prt_all (f := f) (b := b) r (k + 1) (by omega) (by omega), if_pos (show f ≤ k ∧ k < b from ⟨h, by omega⟩)]
theorem prt_none {f b : Int} : ∀ (xs : List Int) (k : Int), (b ≤ k ∨ k + xs.length ≤ f) → prt f b k xs = []
  | [], _, _ => rfl
  | x :: r, k, h => by
    simp only [List.length_cons, Int.natCast_add] at h
    simp only [prt, prt_none (f := f) (b := b) r (k + 1) (by omega), if_neg (show ¬ (f ≤ k ∧ k < b) by omega)]
theorem prt_low {f b : Int} : ∀ (xs : List Int) (k : Int), f + 1 ≤ k → prt f b k xs = prt (f + 1) b k xs
  | [], _, _ => rfl
  | x :: r, k, h => by
    simp only [prt, prt_low (f := f) (b := b) r (k + 1) (by omega)]
    by_cases z : k < b
    · rw [if_pos ⟨by omega, z⟩, if_pos ⟨by omega, z⟩]
    · rw [if_neg (by omega), if_neg (by omega)]
theorem prt_cut {f b : Int} : ∀ (xs : List Int) (k : Int), k ≤ f → f ≤ b → prt f b k xs = (xs.drop (f - k).toNat).take (b - f).toNat
  | [], k, _, _ => by simp [prt]
  | x :: r, k, h, h2 => by
    by_cases z : k = f
    · subst z
      by_cases q : k < b
      · have e : (b - k).toNat = (b - (k + 1)).toNat + 1 := by omega
        simp only [prt, if_pos (show k ≤ k ∧ k < b from ⟨by omega, q⟩), Int.sub_self, Int.toNat_zero, List.drop_zero, e, List.take_succ_cons]
        congr 1
        have : prt k b (k + 1) r = prt (k + 1) b (k + 1) r := prt_low r (k + 1) (by omega)
        rw [this, prt_cut r (k + 1) (by omega) (by omega)]
        simp
      · have e : (b - k).toNat = 0 := by omega
        rw [prt_none _ _ (.inl (by omega)), e]; simp
    · have e : (f - k).toNat = (f - (k + 1)).toNat + 1 := by omega
      rw [e, List.drop_succ_cons, ← prt_cut r (k + 1) (by omega) h2]
      simp only [prt, if_neg (show ¬ (f ≤ k ∧ k < b) by omega)]
end Z

set_option Elab.async false
set_option linter.all false
set_option maxRecDepth 100000
set_option maxHeartbeats 4000000
set_option pp.maxSteps 1500
namespace Z
open PySem PySem.Spec L2 LamX Y
local macro_rules | `(tactic| walk_at "lk") => `(tactic| first
  | assumption
  | exact Nw.at (by assumption)
  | exact Wr.at (by assumption)
  | exact Mkd.at (by assumption)
  | exact Nw.look (by assumption) (by walk_at "lk")
  | exact Mkd.look (by assumption) (by walk_at "lk")
  | exact Wr.look (by assumption) (by walk_at "lk") (by walk_at "ne")
  | exact Chg.look (by assumption) (by walk_at "lk") (by walk_at "nin") rfl
  | exact Tp.same (by assumption) _ _ (by walk_at "lk")
  | exact Grows.look (by assumption) (by walk_at "lk") rfl
  | fail)
local macro_rules | `(tactic| walk_at "ne") => `(tactic| first
  | assumption
  | exact Ne.symm (by assumption)
  | exact Nw.ne (by assumption) (by walk_at "lk")
  | exact Ne.symm (Nw.ne (by assumption) (by walk_at "lk"))
  | exact ne_fr (by assumption) (by walk_at "lk")
  | exact Ne.symm (ne_fr (by assumption) (by walk_at "lk"))
  | exact ne_fr (Mkd.nx (by assumption)) (by walk_at "lk")
  | exact Ne.symm (ne_fr (Mkd.nx (by assumption)) (by walk_at "lk"))
  | exact ne_kdn (by assumption) (by walk_at "lk") rfl
  | exact Ne.symm (ne_kdn (by assumption) (by walk_at "lk") rfl)
  | fail)
local macro_rules | `(tactic| walk_at "nin") => `(tactic| first
  | exact nin_nil
  | exact id
  | exact nin_cons (by walk_at "ne") (by walk_at "nin")
  | fail)
local macro_rules | `(tactic| walk_at "fr") => `(tactic| first
  | assumption
  | exact Nw.new (by assumption)
  | exact Mkd.nx (by assumption)
  | exact Nw.dom (by assumption) (by walk_at "fr")
  | exact Wr.dom (by assumption) (by walk_at "fr")
  | exact Mkd.dom (by assumption) (by walk_at "fr")
  | exact Chg.dom (by assumption) _ (by walk_at "fr")
  | exact Tp.dom (by assumption) _ (by walk_at "fr")
  | exact Grows.dom (by assumption) _ (by walk_at "fr")
  | fail)
local macro_rules | `(tactic| walk_at "mem") => `(tactic| first
  | assumption
  | exact List.mem_cons_self
  | (apply List.mem_cons_of_mem; walk_at "mem")
  | fail)
local macro_rules | `(tactic| walk_at "in") => `(tactic| first
  | assumption
  | (apply Or.inl; walk_at "mem")
  | (apply Or.inr; walk_at "fr")
  | fail)
local macro_rules | `(tactic| walk_at "sub") => `(tactic| first
  | exact sub_nil0
  | exact sub_nil
  | exact sub_cons (by walk_at "in") (by walk_at "sub")
  | fail)
local macro_rules | `(tactic| walk_at "chg") => `(tactic| first
  | assumption
  | exact Chg.refl _
  | exact Chg.nw (by assumption) (by walk_at "chg")
  | exact Chg.mkd (by assumption) (by walk_at "chg")
  | exact Chg.tp (by assumption) (by walk_at "chg")
  | exact Chg.gr (by assumption) (by walk_at "chg")
  | exact Chg.wr (by assumption) (by walk_at "chg") (by walk_at "in")
  | exact Chg.ch (by assumption) (by walk_at "chg") (by walk_at "sub")
  | fail)
local macro_rules | `(tactic| walk_at "sq") => `(tactic| first
  | assumption
  | exact SqL.of (by walk_at "lk")
  | exact Chg.seqL (by assumption) (by walk_at "sq") (by walk_at "nin")
  | exact SqL.nw (by assumption) (by walk_at "sq")
  | exact SqL.tp (by assumption) (by walk_at "sq")
  | exact SqL.mkd (by assumption) (by walk_at "sq")
  | exact SqL.wr (by assumption) (by walk_at "sq") (by walk_at "ne")
  | fail)
local macro_rules | `(tactic| walk_at "sqt") => `(tactic| first
  | assumption
  | exact SqT.of (by walk_at "lk")
  | exact Tp.sq (by assumption)
  | exact SqT.nw (by assumption) (by walk_at "sqt")
  | exact SqT.tp (by assumption) (by walk_at "sqt")
  | exact SqT.mkd (by assumption) (by walk_at "sqt")
  | exact SqT.chg (by assumption) (by walk_at "sqt") (by walk_at "nin")
  | fail)
local macro_rules | `(tactic| walk_at "seq") => `(tactic| first
  | assumption
  | exact .inl (by walk_at "sq")
  | exact .inr (by walk_at "sqt")
  | exact SqA.keepN (T := Env.tabs (by assumption)) (by assumption) (by walk_at "chg")
  | fail)
local macro_rules | `(tactic| walk_at "go") => `(tactic| repeat first
  | refine ⟨_, rfl, ?_⟩
  | refine ⟨_, _, _, _, rfl, And.intro (by walk_at "lk") (And.intro rfl ?_)⟩
  | refine ⟨_, _, _, rfl, And.intro (by walk_at "lk") (And.intro (by walk_at "side") ?_)⟩
  | refine ⟨_, _, And.intro rfl (And.intro rfl ?_)⟩
  | refine ⟨_, _, And.intro rfl (And.intro (by walk_at "lk") ?_)⟩
  | refine ⟨_, _, _, And.intro rfl (And.intro (by walk_at "lk") ?_)⟩
  | refine ⟨_, And.intro (by walk_at "lk") (And.intro (by walk_at "side") ?_)⟩
  | refine ⟨_, _, And.intro (by walk_at "lk") (And.intro (by walk_at "side") ?_)⟩
  | refine ⟨_, _, And.intro (by walk_at "seq") (And.intro rfl ?_)⟩
  | refine ⟨_, _, And.intro (by walk_at "seq") (And.intro (by assumption) ?_)⟩
  | refine ⟨_, And.intro (by walk_at "seq") ?_⟩
  | refine ⟨_, And.intro (by walk_at "lk") (And.intro (by walk_at "side") (And.intro (by walk_at "side") (And.intro (by walk_at "side") ?_)))⟩
  | refine .inl ⟨_, _, And.intro (by walk_at "lk") (And.intro (by walk_at "lk") (And.intro (by walk_at "side") ?_))⟩
  | refine .inr ⟨_, _, And.intro (by walk_at "sqt") (And.intro (by walk_at "sqt") (And.intro (by walk_at "side") ?_))⟩
  | refine .inl ⟨_, And.intro (by walk_at "sq") ?_⟩
  | refine .inr ⟨_, And.intro (by walk_at "sqt") ?_⟩
  | refine ⟨_, _, _, _, rfl, rfl, And.intro (by walk_at "lk") (And.intro rfl ?_)⟩
  | refine ⟨_, _, _, _, rfl, rfl, And.intro (by walk_at "lk") (And.intro (by walk_at "key") ?_)⟩
  | refine ⟨_, _, _, rfl, rfl, And.intro (by walk_at "lk") (And.intro (by walk_at "side") ?_)⟩
  | refine fun H' (n : Wr _ _ _ H') => ?_
  | refine fun p H' (n : Nw _ p _ H') => ?_
  | refine fun r H' (n : Tp _ _ r _ H') => ?_
  | refine fun x dx H' (n : Mkd _ _ x dx H') => ?_
  | refine .inl ⟨_, _, rfl, And.intro (by walk_at "sq") (fun p H' (n : Nw _ p _ H') => ?_)⟩
  | refine .inr ⟨_, _, rfl, And.intro (by walk_at "sqt") (fun r H' (n : Tp _ _ r _ H') => ?_)⟩
  | refine ⟨_, _, rfl, And.intro (by walk_at "sq") (fun p H' (n : Nw _ p _ H') => ?_)⟩
  | refine .inl (And.intro ⟨_, by walk_at "sq"⟩ ?_)
  | refine .inr (And.intro ⟨_, by walk_at "sqt"⟩ ?_)
  | refine ⟨_, _, rfl, And.intro (by walk_at "sqt") (And.intro rfl ?_)⟩
  | refine ⟨_, _, And.intro rfl ?_⟩
  | refine ⟨_, _, _, And.intro rfl ?_⟩
  | refine And.intro rfl ?_
  | (refine ite_t ?_ ?_; exact rfl)
  | (refine ite_f ?_ ?_; exact rfl)
  | refine And.intro (by walk_at "side") ?_)
local macro_rules | `(tactic| walk_at "side") => `(tactic| first
  | exact (rfl : _ = _)
  | decide
  | exact lt1000 rfl
  | with_reducible assumption
  | exact ⟨by omega, by omega⟩
  | exact .inl ⟨by omega, by omega⟩
  | exact .inr ⟨by omega, by omega⟩
  | omega
  | (apply le_line; omega)
  | (apply lt_line; omega)
  | (apply le_line; simp <;> omega)
  | (apply lt_line; simp <;> omega)
  | fail)
local macro_rules | `(tactic| walk_at "if") => `(tactic| first
  | refine ite_nd ?_ ?_
  | refine ite_d ?_ ?_
  | refine ite_eqt ?_ ?_
  | fail)
local macro_rules | `(tactic| walk_at "roll") => `(tactic| first
  | (refine And.intro (show Dice _ _ from ⟨_, _, _, by walk_at "lk"⟩) (And.intro (by walk_at "side") (And.intro (by walk_at "side") (fun r H' r0 r1 ro => ?_))); obtain ⟨a', b', c', w⟩ := ro)
  | fail)
local macro_rules | `(tactic| walk_at "run") => `(tactic| (walk_at "go"; repeat (walk_at "roll"; walk_at "go")))
local macro_rules | `(tactic| walk_at "dp") => `(tactic| first
  | exact Dp.non
  | exact Dp.int _
  | exact Dp.str _
  | exact Dp.bl _
  | exact DpAll.nil
  | exact DpAll.cons (by walk_at "dp") (by walk_at "dp")
  | exact Dp.tup (by walk_at "sqt") (by walk_at "dp")
  | exact Dp.lst (by walk_at "sq") (by walk_at "dp")
  | fail)
local macro_rules | `(tactic| walk_at "key") => `(tactic| first
  | assumption
  | fail)

section
variable {w : World} {K : PySem.W.Frag} {mg : Str → Option Value} {base : Heap}
def stV : Option Int → V
  | some v => .int v
  | none => .non
abbrev rowV (r : Rw) : List V := [.int r.s, .int r.mn, .int r.mx, .int r.ad, stV r.st]
/-- the rows told by N stand in the dict -/
def Rows (H : Hp) (kvs : List (Key × V)) (N : Nd) : Prop := ∀ i r, N i = some r → ∃ a, valV kvs (.inl i) = some (.ref a) ∧ H a = some (.lst (rowV r))
def Rep (H : Hp) (dn : Addr) (N : Nd) (L : Nat) : Prop := ∃ kvs, H dn = some (.dK kvs) ∧ kvs.length ≤ L ∧ Rows H kvs N
def fsS (m : Int) (dn : Addr) : FS := [("many", .int m), ("nodes", .ref dn)]
def IsSeg (T : Env w K mg base) (H : Hp) (t dn : Addr) (m : Int) : Prop := ∃ dx, H t = some (.ins T.C_Segments dx (fsS m dn))
theorem putK_old {kvs : List (Key × V)} {k : Key} {v x : V} (h : valV kvs k = some x) : (putK kvs k v).length = kvs.length := by
  unfold putK
  rw [valV_any, h]
  simp
theorem Rows.keep {H H' : Hp} {kvs : List (Key × V)} {N : Nd} {T : List (Addr × Str)} {S : Addr → Prop} (h : Rows H kvs N) (c : Chg T S H H') (n : ∀ a r, H a = some (.lst (rowV r)) → ¬ S a) : Rows H' kvs N := fun i r e =>
  let ⟨a, v, z⟩ := h i r e
  ⟨a, v, c.look z (n a r z) rfl⟩
theorem Rows.put {H H' : Hp} {kvs : List (Key × V)} {N : Nd} {p : Addr} {n : Int} {r : Rw} (h : Rows H kvs N) (k : ∀ a r, H a = some (.lst (rowV r)) → H' a = some (.lst (rowV r))) (e : H' p = some (.lst (rowV r))) : Rows H' (putK kvs (.inl n) (.ref p)) (updN N n r) := by
  intro i r' e'
  by_cases z : i = n
  · subst z
    rw [updN_at] at e'
    cases e'
    exact ⟨p, by rw [valV_put, if_pos rfl], e⟩
  · rw [updN_ne z] at e'
    obtain ⟨a, v, q⟩ := h i r' e'
    exact ⟨a, by rw [valV_put, if_neg (fun y => z (Sum.inl.inj y))]; exact v, k a r' q⟩
theorem Rep.put {H H3 H' : Hp} {kvs : List (Key × V)} {N : Nd} {dn p : Addr} {n : Int} {r : Rw} {L : Nat} {T : List (Addr × Str)} (hd : H dn = some (.dK kvs)) (h : Rows H kvs N) (c : Chg T nil H H3) (e : H3 p = some (.lst (rowV r))) (w : Wr H3 dn (.dK (putK kvs (.inl n) (.ref p))) H') (hl : (putK kvs (.inl n) (.ref p)).length ≤ L) : Rep H' dn (updN N n r) L := by
  have ne : ∀ a r, H a = some (.lst (rowV r)) → a ≠ dn := fun a r q z => by rw [z, hd] at q; cases q
  have hd3 : H3 dn = some (.dK kvs) := c.look hd id rfl
  refine ⟨_, w.at, hl, h.put (fun a r q => w.look (c.look q id rfl) (ne a r q)) (w.look e fun z => ?_)⟩
  rw [z, hd3] at e; cases e
theorem Rep.keep {H H' : Hp} {dn : Addr} {N : Nd} {L : Nat} {T : List (Addr × Str)} {S : Addr → Prop} (h : Rep H dn N L) (c : Chg T S H H') (nd : ¬ S dn) (n : ∀ a r, H a = some (.lst (rowV r)) → ¬ S a) : Rep H' dn N L :=
  let ⟨kvs, a, b, d⟩ := h
  ⟨kvs, c.look a nd rfl, b, d.keep c n⟩
def sp_Segments_gather_two (T : Env w K mg base) : Sp := fun vs H Q _ => match vs with
  | [.ref t, .int n] => ∃ dn m N L r l k, IsSeg T H t dn m ∧ Rep H dn N L ∧ L < 1000000 ∧ N n = some r ∧ N (2 * n) = some l ∧ N (2 * n + 1) = some k ∧ ∀ H', Chg T.tabs (In [dn]) H H' → Rep H' dn (updN N n (gat r l k)) L → Q .non H'
  | _ => False
theorem ok_Segments_gather_two (T : Env w K mg base) : FnOk prg w K mg base (L2.CX prg w) 8 T.f_Segments_gather_two T.fd_Segments_gather_two ["self", "node"] (sp_Segments_gather_two T) := by
  refine T.F_Segments_gather_two.ok sc_Segments_gather_two (fun vs H Q E h => by unfold sp_Segments_gather_two at h; split at h <;> first | rfl | exact h.elim) fun A outer s H vs Q E hr h => ?_
  refine ⟨_, (pss_cons (ps_par (i := 2) (j := 3) (by rfl) sc_Segments_gather_two.nd rfl rfl (by decide) rfl rfl (pa_cons (Y.pe_dg hr.units (Y.pe_f T.cl_Segments T.na_Segments_nodes (pv 0)) (pe_op Y.op_mul pe_int (pv 1)) (fun _ _ => rfl)) (pa_cons (Y.pe_dg hr.units (Y.pe_f T.cl_Segments T.na_Segments_nodes (pv 0)) (pe_op (Y.op_addK (K := K) rfl) (pe_op Y.op_mul pe_int (pv 1)) pe_int) (fun _ _ => rfl)) pa_nil)) (by rfl))
  (pss_cons (ps_set (i := 4) sc_Segments_gather_two.nd rfl (Or.inl rfl) (pe_slice (Y.slK (K := K) rfl) (Y.pe_dg hr.units (Y.pe_f T.cl_Segments T.na_Segments_nodes (pv 0)) (pv 1) (fun _ _ => rfl)) (po_some pe_int) po_none))
  (pss_one (Y.ps_dp hr.units (Y.pe_f T.cl_Segments T.na_Segments_nodes (pv 0)) (pv 1) (pe_op (Y.op_addK (K := K) rfl) (Y.pe_ls (pa_cons (pe_op (Y.op_addK (K := K) rfl) (pe_ix (Y.ixK (K := K) rfl) (pv 2) pe_int (fun _ _ => rfl)) (pe_ix (Y.ixK (K := K) rfl) (pv 3) pe_int (fun _ _ => rfl))) (pa_cons (pe_callB (Y.call_min2 rfl) (by rfl) T.no_min (by decide +kernel) (pa_cons (pe_ix (Y.ixK (K := K) rfl) (pv 2) pe_int (fun _ _ => rfl)) (pa_cons (pe_ix (Y.ixK (K := K) rfl) (pv 3) pe_int (fun _ _ => rfl)) pa_nil))) (pa_cons (pe_callB (Y.call_max2 rfl) (by rfl) T.no_max (by decide +kernel) (pa_cons (pe_ix (Y.ixK (K := K) rfl) (pv 2) pe_int (fun _ _ => rfl)) (pa_cons (pe_ix (Y.ixK (K := K) rfl) (pv 3) pe_int (fun _ _ => rfl)) pa_nil))) pa_nil)))) (pv 4)) rfl)))), ?_⟩
  unfold sp_Segments_gather_two at h
  split at h
  next t n =>
    obtain ⟨dn, m, N, L, r, l, k, ⟨dx, ht⟩, ⟨kvs, hd, hL, hN⟩, hz, e0, e1, e2, h⟩ := h
    obtain ⟨a0, v0, r0⟩ := hN _ _ e0
    obtain ⟨a1, v1, r1⟩ := hN _ _ e1
    obtain ⟨a2, v2, r2⟩ := hN _ _ e2
    walk_at "go"
    rename_i p1 H1 n1 p2 H2 n2 p3 H3 n3 H4 w
    have c : Chg T.tabs nil H H3 := by walk_at "chg"
    exact h _ (by walk_at "chg") (Rep.put hd hN c (r := gat r l k) n3.at w (by rw [putK_old v0]; exact hL))
  next => exact h.elim
def wordV (b : Bool) : V := if b then .str "set" else .str "add"
def sp_Segments_lay_on (T : Env w K mg base) : Sp := fun vs H Q _ => match vs with
  | [.ref t, .int n, .int long, wd, .int v] => ∃ dn m N L r b, IsSeg T H t dn m ∧ Rep H dn N L ∧ L < 1000000 ∧ N n = some r ∧ wd = wordV b ∧ 0 ≤ long ∧ long ≤ 1000 ∧ ∀ H', Chg T.tabs (In [dn]) H H' → Rep H' dn (updN N n (lay r long b v)) L → Q .non H'
  | _ => False
theorem ok_Segments_lay_on (T : Env w K mg base) : FnOk prg w K mg base (L2.CX prg w) 8 T.f_Segments_lay_on T.fd_Segments_lay_on ["self", "node", "long", "word", "value"] (sp_Segments_lay_on T) := by
  refine T.F_Segments_lay_on.ok sc_Segments_lay_on (fun vs H Q E h => by unfold sp_Segments_lay_on at h; split at h <;> first | rfl | exact h.elim) fun A outer s H vs Q E hr h => ?_
  refine ⟨_, (pss_cons (ps_set (i := 5) sc_Segments_lay_on.nd rfl (Or.inl rfl) (Y.pe_dg hr.units (Y.pe_f T.cl_Segments T.na_Segments_nodes (pv 0)) (pv 1) (fun _ _ => rfl)))
  (pss_one (ps_if (pt_cmpR (Y.op_eqK (K := K) rfl hr.units) (pv 3) pe_str (nomark _)) (pss_one (Y.ps_dp hr.units (Y.pe_f T.cl_Segments T.na_Segments_nodes (pv 0)) (pv 1) (Y.pe_ls (pa_cons (pe_op Y.op_mul (pv 4) (pv 2)) (pa_cons (pv 4) (pa_cons (pv 4) (pa_cons pe_int (pa_cons (pv 4) pa_nil)))))) rfl)) (pss_one (ps_if (pt_cmpR Y.op_notN (pe_ix (Y.ixK (K := K) rfl) (pv 5) pe_int (fun _ _ => rfl)) pe_non (nomark _)) (pss_one (Y.ps_dp hr.units (Y.pe_f T.cl_Segments T.na_Segments_nodes (pv 0)) (pv 1) (Y.pe_ls (pa_cons (pe_op (Y.op_addK (K := K) rfl) (pe_ix (Y.ixK (K := K) rfl) (pv 5) pe_int (fun _ _ => rfl)) (pe_op Y.op_mul (pv 4) (pv 2))) (pa_cons (pe_op (Y.op_addK (K := K) rfl) (pe_ix (Y.ixK (K := K) rfl) (pv 5) pe_int (fun _ _ => rfl)) (pv 4)) (pa_cons (pe_op (Y.op_addK (K := K) rfl) (pe_ix (Y.ixK (K := K) rfl) (pv 5) pe_int (fun _ _ => rfl)) (pv 4)) (pa_cons pe_int (pa_cons (pe_op (Y.op_addK (K := K) rfl) (pe_ix (Y.ixK (K := K) rfl) (pv 5) pe_int (fun _ _ => rfl)) (pv 4)) pa_nil)))))) rfl)) (pss_one (Y.ps_dp hr.units (Y.pe_f T.cl_Segments T.na_Segments_nodes (pv 0)) (pv 1) (Y.pe_ls (pa_cons (pe_op (Y.op_addK (K := K) rfl) (pe_ix (Y.ixK (K := K) rfl) (pv 5) pe_int (fun _ _ => rfl)) (pe_op Y.op_mul (pv 4) (pv 2))) (pa_cons (pe_op (Y.op_addK (K := K) rfl) (pe_ix (Y.ixK (K := K) rfl) (pv 5) pe_int (fun _ _ => rfl)) (pv 4)) (pa_cons (pe_op (Y.op_addK (K := K) rfl) (pe_ix (Y.ixK (K := K) rfl) (pv 5) pe_int (fun _ _ => rfl)) (pv 4)) (pa_cons (pe_op (Y.op_addK (K := K) rfl) (pe_ix (Y.ixK (K := K) rfl) (pv 5) pe_int (fun _ _ => rfl)) (pv 4)) (pa_cons pe_non pa_nil)))))) rfl))))))), ?_⟩
  unfold sp_Segments_lay_on at h
  split at h
  next t n long wd v =>
    obtain ⟨dn, m, N, L, r, b, ⟨dx, ht⟩, ⟨kvs, hd, hL, hN⟩, hz, e0, rfl, l0, l1, h⟩ := h
    obtain ⟨a0, v0, r0⟩ := hN _ _ e0
    cases b with
    | true =>
      simp only [wordV, if_true] at *
      walk_at "go"
      rename_i p1 H1 n1 H2 w
      have c : Chg T.tabs nil H H1 := by walk_at "chg"
      exact h _ (by walk_at "chg") (Rep.put hd hN c (r := lay r long true v) n1.at w (by rw [putK_old v0]; exact hL))
    | false =>
      simp only [wordV, Bool.false_eq_true, if_false] at *
      cases e : r.st with
      | none =>
        simp only [rowV, e, stV] at r0
        walk_at "go"
        rename_i p1 H1 n1 H2 w
        have c : Chg T.tabs nil H H1 := by walk_at "chg"
        have g : rowV (lay r long false v) = [.int (r.s + v * long), .int (r.mn + v), .int (r.mx + v), .int (r.ad + v), .non] := by simp [lay, e, stV]
        exact h _ (by walk_at "chg") (Rep.put hd hN c (r := lay r long false v) (by rw [g]; exact n1.at) w (by rw [putK_old v0]; exact hL))
      | some u =>
        simp only [rowV, e, stV] at r0
        walk_at "go"
        rename_i p1 H1 n1 H2 w
        have c : Chg T.tabs nil H H1 := by walk_at "chg"
        have g : rowV (lay r long false v) = [.int (r.s + v * long), .int (r.mn + v), .int (r.mx + v), .int 0, .int (u + v)] := by simp [lay, e, stV]
        exact h _ (by walk_at "chg") (Rep.put hd hN c (r := lay r long false v) (by rw [g]; exact n1.at) w (by rw [putK_old v0]; exact hL))
  next => exact h.elim
/-- push_down -/
def sp_Segments_push_down (T : Env w K mg base) : Sp := fun vs H Q _ => match vs with
  | [.ref t, .int n, .int f, .int b] => ∃ dn m N L r l k, IsSeg T H t dn m ∧ Rep H dn N L ∧ L < 1000000 ∧ 1 ≤ n ∧ N n = some r ∧ N (2 * n) = some l ∧ N (2 * n + 1) = some k ∧ 0 ≤ f ∧ f + 2 ≤ b ∧ b ≤ 1000 ∧
    ∀ H', Chg T.tabs (In [dn]) H H' → Rep H' dn (pshN N n r l k ((f + b) / 2 - f) (b - (f + b) / 2)) L → Q .non H'
  | _ => False
theorem ok_Segments_push_down (T : Env w K mg base) : FnOk prg w K mg base (L2.CX prg w) 16 T.f_Segments_push_down T.fd_Segments_push_down ["self", "node", "first", "behind"] (sp_Segments_push_down T) := by
  refine T.F_Segments_push_down.ok sc_Segments_push_down (fun vs H Q E h => by unfold sp_Segments_push_down at h; split at h <;> first | rfl | exact h.elim) fun A outer s H vs Q E hr h => ?_
  refine ⟨_, (pss_cons (ps_par (i := 4) (j := 5) (by rfl) sc_Segments_push_down.nd rfl rfl (by decide) rfl rfl (pa_cons (Y.pe_dg hr.units (Y.pe_f T.cl_Segments T.na_Segments_nodes (pv 0)) (pv 1) (fun _ _ => rfl)) (pa_cons (pe_op Y.op_fdiv (pe_op (Y.op_addK (K := K) rfl) (pv 2) (pv 3)) pe_int) pa_nil)) (by rfl))
  (pss_cons (ps_asg (pe_ifExp (pt_cmpR Y.op_notN (pe_ix (Y.ixK (K := K) rfl) (pv 4) pe_int (fun _ _ => rfl)) pe_non (nomark _)) (Y.pe_tu (pa_cons pe_str (pa_cons (pe_ix (Y.ixK (K := K) rfl) (pv 4) pe_int (fun _ _ => rfl)) pa_nil))) (Y.pe_tu (pa_cons pe_str (pa_cons (pe_ix (Y.ixK (K := K) rfl) (pv 4) pe_int (fun _ _ => rfl)) pa_nil)))) (Y.pg_tupK (K := K) (n := 2) rfl rfl (pgs_cons (pg_name (i := 6) sc_Segments_push_down.nd rfl (Or.inl rfl)) (pgs_cons (pg_name (i := 7) sc_Segments_push_down.nd rfl (Or.inl rfl)) pgs_nil))))
  (pss_cons (ps_if (PW.pt (pw_or (pt_cmpR (Y.op_eqK (K := K) rfl hr.units) (pv 6) pe_str (nomark _)) (pw_or1 (pt_cmpR (Y.op_neK (K := K) rfl hr.units) (pv 7) pe_int (nomark _))))) (pss_cons (ps_expr (pe_meth (pv 0) T.cl_Segments T.me_Segments_lay_on (ok_Segments_lay_on T) (hr.mono (by decide)) T.b_Segments_lay_on .nil (Y.passD rfl rfl rfl rfl) (pa_cons (pe_op Y.op_mul pe_int (pv 1)) (pa_cons (pe_op Y.op_sub (pv 5) (pv 2)) (pa_cons (pv 6) (pa_cons (pv 7) pa_nil))))))
  (pss_one (ps_expr (pe_meth (pv 0) T.cl_Segments T.me_Segments_lay_on (ok_Segments_lay_on T) (hr.mono (by decide)) T.b_Segments_lay_on .nil (Y.passD rfl rfl rfl rfl) (pa_cons (pe_op (Y.op_addK (K := K) rfl) (pe_op Y.op_mul pe_int (pv 1)) pe_int) (pa_cons (pe_op Y.op_sub (pv 3) (pv 5)) (pa_cons (pv 6) (pa_cons (pv 7) pa_nil)))))))) pss_nil)
  (pss_one (Y.ps_dp hr.units (Y.pe_f T.cl_Segments T.na_Segments_nodes (pv 0)) (pv 1) (pe_op (Y.op_addK (K := K) rfl) (pe_slice (Y.slK (K := K) rfl) (pv 4) po_none (po_some pe_int)) (Y.pe_ls (pa_cons pe_int (pa_cons pe_non pa_nil)))) rfl))))), ?_⟩
  unfold sp_Segments_push_down at h
  split at h
  next t n f b =>
    obtain ⟨dn, m, N, L, r, l, k, ⟨dx, ht⟩, ⟨kvs, hd, hL, hN⟩, hz, h1, e0, e1, e2, f0, f1, f2, h⟩ := h
    obtain ⟨a0, v0, r0⟩ := hN _ _ e0
    have u1 : N (2 * n) = some l := e1
    have na : a0 ≠ dn := fun z => by rw [z, hd] at r0; cases r0
    have nt : t ≠ dn := fun z => by rw [z, hd] at ht; cases ht
    have rp : Rep H dn N L := ⟨kvs, hd, hL, hN⟩
    have nR : ∀ (G : Hp), G dn = some (.dK kvs) → ∀ a r, G a = some (.lst (rowV r)) → ¬ nil a := fun _ _ _ _ _ z => z
    -- the end: the row laid flat, over any N2 that holds r at n
    have fin : ∀ (N2 : Nd) (G H3 H4 : Hp) (p : Addr) (kv2 : List (Key × V)), N2 n = some r → Chg T.tabs (In [dn]) H G → G dn = some (.dK kv2) → kv2.length ≤ L → Rows G kv2 N2 → Chg T.tabs nil G H3 → H3 p = some (.lst (rowV (flat r))) → Wr H3 dn (.dK (putK kv2 (.inl n) (.ref p))) H4 →
        updN N2 n (flat r) = pshN N n r l k ((f + b) / 2 - f) (b - (f + b) / 2) → Q .non H4 := by
      intro N2 G H3 H4 p kv2 en cG gd gl gN c3 gp w eN
      obtain ⟨a9, v9, -⟩ := gN _ _ en
      refine h _ ((cG.trans c3 fun b z => z.elim).trans (w.chg (S := In [dn]) (by simp)) fun b z => .inl z) ?_
      rw [← eN]
      exact Rep.put gd gN c3 gp w (by rw [putK_old v9]; exact gl)
    cases e : r.st with
    | some v =>
      have gr : rowV r = [.int r.s, .int r.mn, .int r.mx, .int r.ad, .int v] := by simp [rowV, e, stV]
      rw [gr] at r0
      walk_at "go"
      rename_i p1 H1 n1
      have rp1 : Rep H1 dn N L := rp.keep (T := T.tabs) (S := nil) (by walk_at "chg") id (fun _ _ _ z => z)
      refine ⟨dn, m, N, L, l, true, ⟨dx, by walk_at "lk"⟩, rp1, hz, e1, rfl, by omega, by omega, fun H2 c2 rp2 => ?_⟩
      walk_at "go"
      refine ⟨dn, m, _, L, k, true, ⟨dx, by walk_at "lk"⟩, rp2, hz, (updN_ne (by omega)).trans e2, rfl, by omega, by omega, fun H3 c3 rp3 => ?_⟩
      obtain ⟨kv3, g3, l3, R3⟩ := rp3
      have c : Chg T.tabs (In [dn]) H H3 := by walk_at "chg"
      walk_at "go"
      rename_i p4 H4 n4 p5 H5 n5
      have z4 : (cutV [V.int r.s, V.int r.mn, V.int r.mx, V.int r.ad, V.int v] none (some 3)) = [V.int r.s, V.int r.mn, V.int r.mx] := by rw [cut_to (by decide)]; rfl
      rw [z4] at n4
      walk_at "go"
      rename_i p6 H6 n6 H7 w7
      refine fin _ H3 H6 H7 p6 kv3 ((updN_ne (by omega)).trans ((updN_ne (by omega)).trans e0)) c g3 l3 R3 (by walk_at "chg") n6.at w7 ?_
      simp only [pshN, psh, e]
    | none =>
      have gr : rowV r = [.int r.s, .int r.mn, .int r.mx, .int r.ad, .non] := by simp [rowV, e, stV]
      rw [gr] at r0
      have z4 : (cutV [V.int r.s, V.int r.mn, V.int r.mx, V.int r.ad, V.non] none (some 3)) = [V.int r.s, V.int r.mn, V.int r.mx] := by rw [cut_to (by decide)]; rfl
      walk_at "go"
      walk_at "if"
      · intro cz
        walk_at "go"
        rename_i p1 H1 n1
        have rp1 : Rep H1 dn N L := rp.keep (T := T.tabs) (S := nil) (by walk_at "chg") id (fun _ _ _ z => z)
        refine ⟨dn, m, N, L, l, false, ⟨dx, by walk_at "lk"⟩, rp1, hz, e1, rfl, by omega, by omega, fun H2 c2 rp2 => ?_⟩
        walk_at "go"
        refine ⟨dn, m, _, L, k, false, ⟨dx, by walk_at "lk"⟩, rp2, hz, (updN_ne (by omega)).trans e2, rfl, by omega, by omega, fun H3 c3 rp3 => ?_⟩
        obtain ⟨kv3, g3, l3, R3⟩ := rp3
        have c : Chg T.tabs (In [dn]) H H3 := by walk_at "chg"
        walk_at "go"
        rename_i p4 H4 n4 p5 H5 n5
        rw [z4] at n4
        walk_at "go"
        rename_i p6 H6 n6 H7 w7
        refine fin _ H3 H6 H7 p6 kv3 ((updN_ne (by omega)).trans ((updN_ne (by omega)).trans e0)) c g3 l3 R3 (by walk_at "chg") n6.at w7 ?_
        have cz' : ¬ r.ad = 0 := by simpa using cz
        simp only [pshN, psh, e, if_neg cz']
      · intro cz
        walk_at "go"
        rename_i p1 H1 n1 p4 H4 n4 p5 H5 n5
        rw [z4] at n4
        walk_at "go"
        rename_i p6 H6 n6 H7 w7
        refine fin N H H6 H7 p6 kvs e0 (.refl _) hd hL hN (by walk_at "chg") n6.at w7 ?_
        have cz' : r.ad = 0 := by simpa using cz
        simp only [pshN, psh, e, if_pos cz']
        funext i
        unfold updN
        by_cases q : i = n
        · rw [if_pos q, if_pos q]
        · rw [if_neg q, if_neg q]
          by_cases q1 : i = 2 * n + 1
          · rw [if_pos q1, q1, e2]
          · rw [if_neg q1]
            by_cases q2 : i = 2 * n
            · rw [if_pos q2, q2, e1]
            · rw [if_neg q2]
  next => exact h.elim
end
end Z


set_option Elab.async false
set_option linter.all false
set_option maxRecDepth 100000
set_option maxHeartbeats 4000000
set_option pp.maxSteps 1500
namespace Z
open PySem PySem.Spec L2 LamX Y
local macro_rules | `(tactic| walk_at "lk") => `(tactic| first
  | assumption
  | exact Nw.at (by assumption)
  | exact Wr.at (by assumption)
  | exact Mkd.at (by assumption)
  | exact Nw.look (by assumption) (by walk_at "lk")
  | exact Mkd.look (by assumption) (by walk_at "lk")
  | exact Wr.look (by assumption) (by walk_at "lk") (by walk_at "ne")
  | exact Chg.look (by assumption) (by walk_at "lk") (by walk_at "nin") rfl
  | exact Tp.same (by assumption) _ _ (by walk_at "lk")
  | exact Grows.look (by assumption) (by walk_at "lk") rfl
  | fail)
local macro_rules | `(tactic| walk_at "ne") => `(tactic| first
  | assumption
  | exact Ne.symm (by assumption)
  | exact Nw.ne (by assumption) (by walk_at "lk")
  | exact Ne.symm (Nw.ne (by assumption) (by walk_at "lk"))
  | exact ne_fr (by assumption) (by walk_at "lk")
  | exact Ne.symm (ne_fr (by assumption) (by walk_at "lk"))
  | exact ne_fr (Mkd.nx (by assumption)) (by walk_at "lk")
  | exact Ne.symm (ne_fr (Mkd.nx (by assumption)) (by walk_at "lk"))
  | exact ne_kdn (by assumption) (by walk_at "lk") rfl
  | exact Ne.symm (ne_kdn (by assumption) (by walk_at "lk") rfl)
  | fail)
local macro_rules | `(tactic| walk_at "nin") => `(tactic| first
  | exact nin_nil
  | exact id
  | exact nin_cons (by walk_at "ne") (by walk_at "nin")
  | fail)
local macro_rules | `(tactic| walk_at "fr") => `(tactic| first
  | assumption
  | exact Nw.new (by assumption)
  | exact Mkd.nx (by assumption)
  | exact Nw.dom (by assumption) (by walk_at "fr")
  | exact Wr.dom (by assumption) (by walk_at "fr")
  | exact Mkd.dom (by assumption) (by walk_at "fr")
  | exact Chg.dom (by assumption) _ (by walk_at "fr")
  | exact Tp.dom (by assumption) _ (by walk_at "fr")
  | exact Grows.dom (by assumption) _ (by walk_at "fr")
  | fail)
local macro_rules | `(tactic| walk_at "mem") => `(tactic| first
  | assumption
  | exact List.mem_cons_self
  | (apply List.mem_cons_of_mem; walk_at "mem")
  | fail)
local macro_rules | `(tactic| walk_at "in") => `(tactic| first
  | assumption
  | (apply Or.inl; walk_at "mem")
  | (apply Or.inr; walk_at "fr")
  | fail)
local macro_rules | `(tactic| walk_at "sub") => `(tactic| first
  | exact sub_nil0
  | exact sub_nil
  | exact sub_cons (by walk_at "in") (by walk_at "sub")
  | fail)
local macro_rules | `(tactic| walk_at "chg") => `(tactic| first
  | assumption
  | exact Chg.refl _
  | exact Chg.nw (by assumption) (by walk_at "chg")
  | exact Chg.mkd (by assumption) (by walk_at "chg")
  | exact Chg.tp (by assumption) (by walk_at "chg")
  | exact Chg.gr (by assumption) (by walk_at "chg")
  | exact Chg.wr (by assumption) (by walk_at "chg") (by walk_at "in")
  | exact Chg.ch (by assumption) (by walk_at "chg") (by walk_at "sub")
  | fail)
local macro_rules | `(tactic| walk_at "sq") => `(tactic| first
  | assumption
  | exact SqL.of (by walk_at "lk")
  | exact Chg.seqL (by assumption) (by walk_at "sq") (by walk_at "nin")
  | exact SqL.nw (by assumption) (by walk_at "sq")
  | exact SqL.tp (by assumption) (by walk_at "sq")
  | exact SqL.mkd (by assumption) (by walk_at "sq")
  | exact SqL.wr (by assumption) (by walk_at "sq") (by walk_at "ne")
  | fail)
local macro_rules | `(tactic| walk_at "sqt") => `(tactic| first
  | assumption
  | exact SqT.of (by walk_at "lk")
  | exact Tp.sq (by assumption)
  | exact SqT.nw (by assumption) (by walk_at "sqt")
  | exact SqT.tp (by assumption) (by walk_at "sqt")
  | exact SqT.mkd (by assumption) (by walk_at "sqt")
  | exact SqT.chg (by assumption) (by walk_at "sqt") (by walk_at "nin")
  | fail)
local macro_rules | `(tactic| walk_at "seq") => `(tactic| first
  | assumption
  | exact .inl (by walk_at "sq")
  | exact .inr (by walk_at "sqt")
  | exact SqA.keepN (T := Env.tabs (by assumption)) (by assumption) (by walk_at "chg")
  | fail)
local macro_rules | `(tactic| walk_at "go") => `(tactic| repeat first
  | refine ⟨_, rfl, ?_⟩
  | refine ⟨_, _, _, _, rfl, And.intro (by walk_at "lk") (And.intro rfl ?_)⟩
  | refine ⟨_, _, _, rfl, And.intro (by walk_at "lk") (And.intro (by walk_at "side") ?_)⟩
  | refine ⟨_, _, And.intro rfl (And.intro rfl ?_)⟩
  | refine ⟨_, _, And.intro rfl (And.intro (by walk_at "lk") ?_)⟩
  | refine ⟨_, _, _, And.intro rfl (And.intro (by walk_at "lk") ?_)⟩
  | refine ⟨_, And.intro (by walk_at "lk") (And.intro (by walk_at "side") ?_)⟩
  | refine ⟨_, _, And.intro (by walk_at "lk") (And.intro (by walk_at "side") ?_)⟩
  | refine ⟨_, _, And.intro (by walk_at "seq") (And.intro rfl ?_)⟩
  | refine ⟨_, _, And.intro (by walk_at "seq") (And.intro (by assumption) ?_)⟩
  | refine ⟨_, And.intro (by walk_at "seq") ?_⟩
  | refine ⟨_, And.intro (by walk_at "lk") (And.intro (by walk_at "side") (And.intro (by walk_at "side") (And.intro (by walk_at "side") ?_)))⟩
  | refine .inl ⟨_, _, And.intro (by walk_at "lk") (And.intro (by walk_at "lk") (And.intro (by walk_at "side") ?_))⟩
  | refine .inr ⟨_, _, And.intro (by walk_at "sqt") (And.intro (by walk_at "sqt") (And.intro (by walk_at "side") ?_))⟩
  | refine .inl ⟨_, And.intro (by walk_at "sq") ?_⟩
  | refine .inr ⟨_, And.intro (by walk_at "sqt") ?_⟩
  | refine ⟨_, _, _, _, rfl, rfl, And.intro (by walk_at "lk") (And.intro rfl ?_)⟩
  | refine ⟨_, _, _, _, rfl, rfl, And.intro (by walk_at "lk") (And.intro (by walk_at "key") ?_)⟩
  | refine ⟨_, _, _, rfl, rfl, And.intro (by walk_at "lk") (And.intro (by walk_at "side") ?_)⟩
  | refine fun H' (n : Wr _ _ _ H') => ?_
  | refine fun p H' (n : Nw _ p _ H') => ?_
  | refine fun r H' (n : Tp _ _ r _ H') => ?_
  | refine fun x dx H' (n : Mkd _ _ x dx H') => ?_
  | refine .inl ⟨_, _, rfl, And.intro (by walk_at "sq") (fun p H' (n : Nw _ p _ H') => ?_)⟩
  | refine .inr ⟨_, _, rfl, And.intro (by walk_at "sqt") (fun r H' (n : Tp _ _ r _ H') => ?_)⟩
  | refine ⟨_, _, rfl, And.intro (by walk_at "sq") (fun p H' (n : Nw _ p _ H') => ?_)⟩
  | refine .inl (And.intro ⟨_, by walk_at "sq"⟩ ?_)
  | refine .inr (And.intro ⟨_, by walk_at "sqt"⟩ ?_)
  | refine ⟨_, _, rfl, And.intro (by walk_at "sqt") (And.intro rfl ?_)⟩
  | refine ⟨_, _, And.intro rfl ?_⟩
  | refine ⟨_, _, _, And.intro rfl ?_⟩
  | refine And.intro rfl ?_
  | (refine ite_t ?_ ?_; exact rfl)
  | (refine ite_f ?_ ?_; exact rfl)
  | refine And.intro (by walk_at "side") ?_)
local macro_rules | `(tactic| walk_at "side") => `(tactic| first
  | exact (rfl : _ = _)
  | decide
  | exact lt1000 rfl
  | with_reducible assumption
  | exact ⟨by omega, by omega⟩
  | exact .inl ⟨by omega, by omega⟩
  | exact .inr ⟨by omega, by omega⟩
  | omega
  | (apply le_line; omega)
  | (apply lt_line; omega)
  | (apply le_line; simp <;> omega)
  | (apply lt_line; simp <;> omega)
  | fail)
local macro_rules | `(tactic| walk_at "if") => `(tactic| first
  | refine ite_nd ?_ ?_
  | refine ite_d ?_ ?_
  | refine ite_eqt ?_ ?_
  | fail)
local macro_rules | `(tactic| walk_at "roll") => `(tactic| first
  | (refine And.intro (show Dice _ _ from ⟨_, _, _, by walk_at "lk"⟩) (And.intro (by walk_at "side") (And.intro (by walk_at "side") (fun r H' r0 r1 ro => ?_))); obtain ⟨a', b', c', w⟩ := ro)
  | fail)
local macro_rules | `(tactic| walk_at "run") => `(tactic| (walk_at "go"; repeat (walk_at "roll"; walk_at "go")))
local macro_rules | `(tactic| walk_at "dp") => `(tactic| first
  | exact Dp.non
  | exact Dp.int _
  | exact Dp.str _
  | exact Dp.bl _
  | exact DpAll.nil
  | exact DpAll.cons (by walk_at "dp") (by walk_at "dp")
  | exact Dp.tup (by walk_at "sqt") (by walk_at "dp")
  | exact Dp.lst (by walk_at "sq") (by walk_at "dp")
  | fail)
local macro_rules | `(tactic| walk_at "key") => `(tactic| first
  | assumption
  | fail)

section
variable {w : World} {K : PySem.W.Frag} {mg : Str → Option Value} {base : Heap}
def lim : Nat → Int
  | 0 => 0
  | 1 => 1
  | d + 2 => 2 * lim (d + 1)
theorem lim_half {d : Nat} {n : Int} (h : 2 ≤ n) (l : n ≤ lim (d + 1)) : n ≤ 2 * lim d := by
  cases d with
  | zero => have : lim 1 = 1 := rfl; rw [this] at l; omega
  | succ d => exact l
/-- the part from f to b -/
def sub (xs : List Int) (f b : Int) : List Int := (xs.drop f.toNat).take (b - f).toNat
theorem sub_len {xs : List Int} {f b : Int} (h : 0 ≤ f) (h2 : f ≤ b) (h3 : b ≤ xs.length) : (sub xs f b).length = (b - f).toNat := by
  unfold sub; rw [List.length_take, List.length_drop]; omega
theorem sub_app {xs : List Int} {f m b : Int} (h : 0 ≤ f) (h1 : f ≤ m) (h2 : m ≤ b) : sub xs f b = sub xs f m ++ sub xs m b := by
  unfold sub
  have e : (b - f).toNat = (m - f).toNat + (b - m).toNat := by omega
  rw [e, List.take_add, List.drop_drop]
  congr 4
  omega
theorem sub_one {xs : List Int} {f : Int} {x : Int} (h : 0 ≤ f) (e : xs[f.toNat]? = some x) : sub xs f (f + 1) = [x] := by
  have q : (f + 1 - f).toNat = 1 := by omega
  unfold sub
  rw [q, List.take_one, List.head?_drop, e]
  rfl
theorem sub_all {xs : List Int} : sub xs 0 xs.length = xs := by simp [sub]
def sp_Segments_check_part (T : Env w K mg base) : Sp := fun vs H Q E => match vs with
  | [.ref t, .int f, .int b] => ∃ dn m, IsSeg T H t dn m ∧ (¬ (0 ≤ f ∧ f < b ∧ b ≤ m) → E (.ref T.C_SegmentError) none H) ∧ (0 ≤ f → f < b → b ≤ m → Q .non H)
  | _ => False
theorem ok_Segments_check_part (T : Env w K mg base) : FnOk prg w K mg base (L2.CX prg w) 8 T.f_Segments_check_part T.fd_Segments_check_part ["self", "first", "behind"] (sp_Segments_check_part T) := by
  refine T.F_Segments_check_part.ok sc_Segments_check_part (fun vs H Q E h => by unfold sp_Segments_check_part at h; split at h <;> first | rfl | exact h.elim) fun A outer s H vs Q E hr h => ?_
  refine ⟨_, (pss_one (ps_if (pt_not (Y.pt_chain3 Y.op_le Y.op_lt Y.op_le pe_int (pv 1) (pv 2) (Y.pe_f T.cl_Segments T.na_Segments_many (pv 0)))) (pss_one (ps_raise rfl (takes_of rfl rfl rfl rfl) (pmk_own PySem.F.excBase_ValueError T.x_SegmentError T.mg_SegmentError T.k_SegmentError (raises_own T.bb_SegmentError T.tt_SegmentError) rfl))) pss_nil)), ?_⟩
  unfold sp_Segments_check_part at h
  split at h
  next t f b =>
    obtain ⟨dn, m, ⟨dx, ht⟩, hE, h⟩ := h
    walk_at "go"
    walk_at "if"
    · intro c1
      walk_at "go"
      walk_at "if"
      · intro c2
        walk_at "go"
        walk_at "if"
        · intro c3
          walk_at "go"
          exact hE (by omega)
        · intro c3
          walk_at "go"
          exact h (by omega) (by omega) (by omega)
      · intro c2
        walk_at "go"
        exact hE (by omega)
    · intro c1
      walk_at "go"
      exact hE (by omega)
  next => exact h.elim
def sp_Segments_build_node (T : Env w K mg base) (d : Nat) : Sp := fun vs H Q _ => match vs with
  | [.ref t, .int n, .int f, .int b, .ref v] => ∃ dn m N L xs, IsSeg T H t dn m ∧ Rep H dn N L ∧ 1 ≤ n ∧ 0 ≤ f ∧ f < b ∧ b ≤ (xs.length : Int) ∧ b - f ≤ lim d ∧ L + (2 * (b - f).toNat - 1) < 100000 ∧ H v = some (.lst (xs.map V.int)) ∧
    ∀ H' N', Chg T.tabs (In [dn]) H H' → Rep H' dn N' (L + (2 * (b - f).toNat - 1)) → Seg N' n (sub xs f b) → (∀ i, ¬ Und n i → N' i = N i) → Q .non H'
  | _ => False
theorem ok_Segments_build_node (T : Env w K mg base) : ∀ d, FnOk prg w K mg base (L2.CX prg w) (8 * d + 16) T.f_Segments_build_node T.fd_Segments_build_node ["self", "node", "first", "behind", "values"] (sp_Segments_build_node T d) := by
  intro d
  induction d with
  | zero =>
    refine FnOk.imp Y.okNo fun vs H Q E h => ?_
    unfold sp_Segments_build_node at h
    split at h
    · obtain ⟨dn, m, N, L, xs, -, -, -, -, fb, -, bd, -⟩ := h
      have : lim 0 = 0 := rfl
      omega
    · exact h
  | succ d ih =>
  refine T.F_Segments_build_node.ok sc_Segments_build_node (fun vs H Q E h => by unfold sp_Segments_build_node at h; split at h <;> first | rfl | exact h.elim) fun A outer s H vs Q E hr h => ?_
  refine ⟨_, (pss_one (ps_if (pt_cmpR (Y.op_eqK (K := K) rfl hr.units) (pe_op Y.op_sub (pv 3) (pv 2)) pe_int (nomark _)) (pss_one (Y.ps_dp hr.units (Y.pe_f T.cl_Segments T.na_Segments_nodes (pv 0)) (pv 1) (Y.pe_ls (pa_cons (pe_ix (Y.ixK (K := K) rfl) (pv 4) (pv 2) (fun _ _ => rfl)) (pa_cons (pe_ix (Y.ixK (K := K) rfl) (pv 4) (pv 2) (fun _ _ => rfl)) (pa_cons (pe_ix (Y.ixK (K := K) rfl) (pv 4) (pv 2) (fun _ _ => rfl)) (pa_cons pe_int (pa_cons pe_non pa_nil)))))) rfl)) (pss_cons (ps_set (i := 5) sc_Segments_build_node.nd rfl (Or.inl rfl) (pe_op Y.op_fdiv (pe_op (Y.op_addK (K := K) rfl) (pv 2) (pv 3)) pe_int))
  (pss_cons (ps_expr (pe_meth (pv 0) T.cl_Segments T.me_Segments_build_node ih (hr.mono (by omega)) T.b_Segments_build_node .nil (Y.passD rfl rfl rfl rfl) (pa_cons (pe_op Y.op_mul pe_int (pv 1)) (pa_cons (pv 2) (pa_cons (pv 5) (pa_cons (pv 4) pa_nil))))))
  (pss_cons (ps_expr (pe_meth (pv 0) T.cl_Segments T.me_Segments_build_node ih (hr.mono (by omega)) T.b_Segments_build_node .nil (Y.passD rfl rfl rfl rfl) (pa_cons (pe_op (Y.op_addK (K := K) rfl) (pe_op Y.op_mul pe_int (pv 1)) pe_int) (pa_cons (pv 5) (pa_cons (pv 3) (pa_cons (pv 4) pa_nil))))))
  (pss_cons (Y.ps_dp hr.units (Y.pe_f T.cl_Segments T.na_Segments_nodes (pv 0)) (pv 1) (Y.pe_ls (pa_cons pe_int (pa_cons pe_int (pa_cons pe_int (pa_cons pe_int (pa_cons pe_non pa_nil)))))) rfl)
  (pss_one (ps_expr (pe_meth (pv 0) T.cl_Segments T.me_Segments_gather_two (ok_Segments_gather_two T) (hr.mono (by omega)) T.b_Segments_gather_two .nil (Y.passD rfl rfl rfl rfl) (pa_cons (pv 1) pa_nil)))))))))), ?_⟩
  unfold sp_Segments_build_node at h
  split at h
  next t n f b v =>
    obtain ⟨dn, m, N, L, xs, ⟨dx, ht⟩, ⟨kvs, hd, hL, hN⟩, n1, f0, fb, bx, bd, hz, hv, h⟩ := h
    have ex : xs[f.toNat]? = some (xs[f.toNat]'(by omega)) := List.getElem?_eq_getElem _
    have hat : atI (xs.map V.int) f = some (.int (xs[f.toNat]'(by omega))) := by
      rw [atI_nat f0 (by simp; omega), List.getElem?_map, ex]; rfl
    have nt : t ≠ dn := fun z => by rw [z, hd] at ht; cases ht
    have nv : v ≠ dn := fun z => by rw [z, hd] at hv; cases hv
    walk_at "go"
    walk_at "if"
    · intro c
      have c' : b = f + 1 := by omega
      walk_at "go"
      rename_i p H1 n1' H2 w2
      have cc : Chg T.tabs nil H H1 := by walk_at "chg"
      have e1 : 2 * (b - f).toNat = 2 := by omega
      refine h _ _ (by walk_at "chg") (Rep.put (L := L + (2 * (b - f).toNat - 1)) (r := ⟨_, _, _, 0, none⟩) hd hN cc n1'.at w2 (by have := length_putK kvs (.inl n) (V.ref p); omega)) ?_ ?_
      · have e9 : sub xs f b = [xs[f.toNat]'(by omega)] := by
          have := sub_one f0 ex
          rw [← c'] at this
          exact this
        rw [e9]
        exact .leaf updN_at (fits_one _)
      · intro i hi
        exact updN_ne fun z => hi (by rw [z]; exact .refl _)
    · intro c
      have c' : f + 2 ≤ b := by omega
      have pw := lim_half (d := d) (n := b - f) (by omega) bd
      walk_at "go"
      refine ⟨dn, m, N, L, xs, ⟨dx, ht⟩, ⟨kvs, hd, hL, hN⟩, by omega, f0, by omega, by omega, by omega, by omega, hv, fun H1 N1 c1 rp1 s1 k1 => ?_⟩
      walk_at "go"
      refine ⟨dn, m, N1, _, xs, ⟨dx, by walk_at "lk"⟩, rp1, by omega, by omega, by omega, bx, by omega, by omega, by walk_at "lk", fun H2 N2 c2 rp2 s2 k2 => ?_⟩
      obtain ⟨kv2, g2, l2, R2⟩ := rp2
      walk_at "go"
      rename_i p H3 n3 H4 w4
      have cc : Chg T.tabs nil H2 H3 := by walk_at "chg"
      have rp4 : Rep H4 dn (updN N2 n ⟨0, 0, 0, 0, none⟩) (L + (2 * (b - f).toNat - 1)) := Rep.put (r := ⟨0, 0, 0, 0, none⟩) g2 R2 cc n3.at w4 (by have := length_putK kv2 (.inl n) (V.ref p); omega)
      have s1' : Seg (updN N2 n ⟨0, 0, 0, 0, none⟩) (2 * n) (sub xs f ((f + b) / 2)) := s1.keep fun i u => (updN_ne (u.ne n1)).trans (k2 i fun z => Und.apart n1 u z)
      have s2' : Seg (updN N2 n ⟨0, 0, 0, 0, none⟩) (2 * n + 1) (sub xs ((f + b) / 2) b) := s2.keep fun i u => updN_ne (u.ne2 n1)
      obtain ⟨l, el, -⟩ := s1'.row
      obtain ⟨k, ek, -⟩ := s2'.row
      have c4 : Chg T.tabs (In [dn]) H H4 := by walk_at "chg"
      refine ⟨dn, m, _, _, _, l, k, ⟨dx, by walk_at "lk"⟩, rp4, by omega, updN_at, el, ek, fun H5 c5 rp5 => ?_⟩
      walk_at "go"
      refine h _ _ (by walk_at "chg") rp5 ?_ ?_
      · rw [sub_app (m := (f + b) / 2) f0 (by omega) (by omega)]
        exact Seg.gather s1' s2' n1 el ek rfl rfl (by rw [sub_len f0 (by omega) (by omega), sub_len (by omega) (by omega) bx]; omega)
      · intro i hi
        rw [updN_ne (fun z => hi (by rw [z]; exact .refl _)), updN_ne (fun z => hi (by rw [z]; exact .refl _)), k2 i fun z => hi (.hi z), k1 i fun z => hi (.lo z)]
  next => exact h.elim
end
end Z


set_option Elab.async false
set_option linter.all false
set_option maxRecDepth 100000
set_option maxHeartbeats 4000000
set_option pp.maxSteps 1500
namespace Z
open PySem PySem.Spec L2 LamX Y
local macro_rules | `(tactic| walk_at "lk") => `(tactic| first
  | assumption
  | exact Nw.at (by assumption)
  | exact Wr.at (by assumption)
  | exact Mkd.at (by assumption)
  | exact Nw.look (by assumption) (by walk_at "lk")
  | exact Mkd.look (by assumption) (by walk_at "lk")
  | exact Wr.look (by assumption) (by walk_at "lk") (by walk_at "ne")
  | exact Chg.look (by assumption) (by walk_at "lk") (by walk_at "nin") rfl
  | exact Tp.same (by assumption) _ _ (by walk_at "lk")
  | exact Grows.look (by assumption) (by walk_at "lk") rfl
  | fail)
local macro_rules | `(tactic| walk_at "ne") => `(tactic| first
  | assumption
  | exact Ne.symm (by assumption)
  | exact Nw.ne (by assumption) (by walk_at "lk")
  | exact Ne.symm (Nw.ne (by assumption) (by walk_at "lk"))
  | exact ne_fr (by assumption) (by walk_at "lk")
  | exact Ne.symm (ne_fr (by assumption) (by walk_at "lk"))
  | exact ne_fr (Mkd.nx (by assumption)) (by walk_at "lk")
  | exact Ne.symm (ne_fr (Mkd.nx (by assumption)) (by walk_at "lk"))
  | exact ne_kdn (by assumption) (by walk_at "lk") rfl
  | exact Ne.symm (ne_kdn (by assumption) (by walk_at "lk") rfl)
  | fail)
local macro_rules | `(tactic| walk_at "nin") => `(tactic| first
  | exact nin_nil
  | exact id
  | exact nin_cons (by walk_at "ne") (by walk_at "nin")
  | fail)
local macro_rules | `(tactic| walk_at "fr") => `(tactic| first
  | assumption
  | exact Nw.new (by assumption)
  | exact Mkd.nx (by assumption)
  | exact Nw.dom (by assumption) (by walk_at "fr")
  | exact Wr.dom (by assumption) (by walk_at "fr")
  | exact Mkd.dom (by assumption) (by walk_at "fr")
  | exact Chg.dom (by assumption) _ (by walk_at "fr")
  | exact Tp.dom (by assumption) _ (by walk_at "fr")
  | exact Grows.dom (by assumption) _ (by walk_at "fr")
  | fail)
local macro_rules | `(tactic| walk_at "mem") => `(tactic| first
  | assumption
  | exact List.mem_cons_self
  | (apply List.mem_cons_of_mem; walk_at "mem")
  | fail)
local macro_rules | `(tactic| walk_at "in") => `(tactic| first
  | assumption
  | (apply Or.inl; walk_at "mem")
  | (apply Or.inr; walk_at "fr")
  | fail)
local macro_rules | `(tactic| walk_at "sub") => `(tactic| first
  | exact sub_nil0
  | exact sub_nil
  | exact sub_cons (by walk_at "in") (by walk_at "sub")
  | fail)
local macro_rules | `(tactic| walk_at "chg") => `(tactic| first
  | assumption
  | exact Chg.refl _
  | exact Chg.nw (by assumption) (by walk_at "chg")
  | exact Chg.mkd (by assumption) (by walk_at "chg")
  | exact Chg.tp (by assumption) (by walk_at "chg")
  | exact Chg.gr (by assumption) (by walk_at "chg")
  | exact Chg.wr (by assumption) (by walk_at "chg") (by walk_at "in")
  | exact Chg.ch (by assumption) (by walk_at "chg") (by walk_at "sub")
  | fail)
local macro_rules | `(tactic| walk_at "sq") => `(tactic| first
  | assumption
  | exact SqL.of (by walk_at "lk")
  | exact Chg.seqL (by assumption) (by walk_at "sq") (by walk_at "nin")
  | exact SqL.nw (by assumption) (by walk_at "sq")
  | exact SqL.tp (by assumption) (by walk_at "sq")
  | exact SqL.mkd (by assumption) (by walk_at "sq")
  | exact SqL.wr (by assumption) (by walk_at "sq") (by walk_at "ne")
  | fail)
local macro_rules | `(tactic| walk_at "sqt") => `(tactic| first
  | assumption
  | exact SqT.of (by walk_at "lk")
  | exact Tp.sq (by assumption)
  | exact SqT.nw (by assumption) (by walk_at "sqt")
  | exact SqT.tp (by assumption) (by walk_at "sqt")
  | exact SqT.mkd (by assumption) (by walk_at "sqt")
  | exact SqT.chg (by assumption) (by walk_at "sqt") (by walk_at "nin")
  | fail)
local macro_rules | `(tactic| walk_at "seq") => `(tactic| first
  | assumption
  | exact .inl (by walk_at "sq")
  | exact .inr (by walk_at "sqt")
  | exact SqA.keepN (T := Env.tabs (by assumption)) (by assumption) (by walk_at "chg")
  | fail)
local macro_rules | `(tactic| walk_at "go") => `(tactic| repeat first
  | refine ⟨_, rfl, ?_⟩
  | refine ⟨_, _, _, _, rfl, And.intro (by walk_at "lk") (And.intro rfl ?_)⟩
  | refine ⟨_, _, _, rfl, And.intro (by walk_at "lk") (And.intro (by walk_at "side") ?_)⟩
  | refine ⟨_, _, And.intro rfl (And.intro rfl ?_)⟩
  | refine ⟨_, _, And.intro rfl (And.intro (by walk_at "lk") ?_)⟩
  | refine ⟨_, _, _, And.intro rfl (And.intro (by walk_at "lk") ?_)⟩
  | refine ⟨_, And.intro (by walk_at "lk") (And.intro (by walk_at "side") ?_)⟩
  | refine ⟨_, _, And.intro (by walk_at "lk") (And.intro (by walk_at "side") ?_)⟩
  | refine ⟨_, _, And.intro (by walk_at "seq") (And.intro rfl ?_)⟩
  | refine ⟨_, _, And.intro (by walk_at "seq") (And.intro (by assumption) ?_)⟩
  | refine ⟨_, And.intro (by walk_at "seq") ?_⟩
  | refine ⟨_, And.intro (by walk_at "lk") (And.intro (by walk_at "side") (And.intro (by walk_at "side") (And.intro (by walk_at "side") ?_)))⟩
  | refine .inl ⟨_, _, And.intro (by walk_at "lk") (And.intro (by walk_at "lk") (And.intro (by walk_at "side") ?_))⟩
  | refine .inr ⟨_, _, And.intro (by walk_at "sqt") (And.intro (by walk_at "sqt") (And.intro (by walk_at "side") ?_))⟩
  | refine .inl ⟨_, And.intro (by walk_at "sq") ?_⟩
  | refine .inr ⟨_, And.intro (by walk_at "sqt") ?_⟩
  | refine ⟨_, _, _, _, rfl, rfl, And.intro (by walk_at "lk") (And.intro rfl ?_)⟩
  | refine ⟨_, _, _, _, rfl, rfl, And.intro (by walk_at "lk") (And.intro (by walk_at "key") ?_)⟩
  | refine ⟨_, _, _, rfl, rfl, And.intro (by walk_at "lk") (And.intro (by walk_at "side") ?_)⟩
  | refine fun H' (n : Wr _ _ _ H') => ?_
  | refine fun p H' (n : Nw _ p _ H') => ?_
  | refine fun r H' (n : Tp _ _ r _ H') => ?_
  | refine fun x dx H' (n : Mkd _ _ x dx H') => ?_
  | refine .inl ⟨_, _, rfl, And.intro (by walk_at "sq") (fun p H' (n : Nw _ p _ H') => ?_)⟩
  | refine .inr ⟨_, _, rfl, And.intro (by walk_at "sqt") (fun r H' (n : Tp _ _ r _ H') => ?_)⟩
  | refine ⟨_, _, rfl, And.intro (by walk_at "sq") (fun p H' (n : Nw _ p _ H') => ?_)⟩
  | refine .inl (And.intro ⟨_, by walk_at "sq"⟩ ?_)
  | refine .inr (And.intro ⟨_, by walk_at "sqt"⟩ ?_)
  | refine ⟨_, _, rfl, And.intro (by walk_at "sqt") (And.intro rfl ?_)⟩
  | refine ⟨_, _, And.intro rfl ?_⟩
  | refine ⟨_, _, _, And.intro rfl ?_⟩
  | refine And.intro rfl ?_
  | (refine ite_t ?_ ?_; exact rfl)
  | (refine ite_f ?_ ?_; exact rfl)
  | refine And.intro (by walk_at "side") ?_)
local macro_rules | `(tactic| walk_at "side") => `(tactic| first
  | exact (rfl : _ = _)
  | decide
  | exact lt1000 rfl
  | with_reducible assumption
  | exact ⟨by omega, by omega⟩
  | exact .inl ⟨by omega, by omega⟩
  | exact .inr ⟨by omega, by omega⟩
  | omega
  | (apply le_line; omega)
  | (apply lt_line; omega)
  | (apply le_line; simp <;> omega)
  | (apply lt_line; simp <;> omega)
  | fail)
local macro_rules | `(tactic| walk_at "if") => `(tactic| first
  | refine ite_nd ?_ ?_
  | refine ite_d ?_ ?_
  | refine ite_eqt ?_ ?_
  | fail)
local macro_rules | `(tactic| walk_at "roll") => `(tactic| first
  | (refine And.intro (show Dice _ _ from ⟨_, _, _, by walk_at "lk"⟩) (And.intro (by walk_at "side") (And.intro (by walk_at "side") (fun r H' r0 r1 ro => ?_))); obtain ⟨a', b', c', w⟩ := ro)
  | fail)
local macro_rules | `(tactic| walk_at "run") => `(tactic| (walk_at "go"; repeat (walk_at "roll"; walk_at "go")))
local macro_rules | `(tactic| walk_at "dp") => `(tactic| first
  | exact Dp.non
  | exact Dp.int _
  | exact Dp.str _
  | exact Dp.bl _
  | exact DpAll.nil
  | exact DpAll.cons (by walk_at "dp") (by walk_at "dp")
  | exact Dp.tup (by walk_at "sqt") (by walk_at "dp")
  | exact Dp.lst (by walk_at "sq") (by walk_at "dp")
  | fail)
local macro_rules | `(tactic| walk_at "key") => `(tactic| first
  | assumption
  | fail)

section
variable {w : World} {K : PySem.W.Frag} {mg : Str → Option Value} {base : Heap}
theorem seqA_ins {H H' : Hp} {v t C dx : Addr} {fs : FS} {xs : List V} {T : List (Addr × Str)} (h : SqL K H v xs ∨ SqT K H v xs) (ht : H t = some (.ins C dx fs)) (c : Chg T (Y.In [t]) H H') : SqL K H' v xs ∨ SqT K H' v xs := by
  have no : ∀ o, H v = some o → (∀ C dx fs, o ≠ .ins C dx fs) → ¬ Y.In [t] v := fun o e n z => by
    obtain rfl : v = t := by simpa [Y.In] using z
    rw [ht] at e; cases e; exact n _ _ _ rfl
  rcases h with ((h | ⟨ob, h⟩) | h) | ((h | ⟨ob, h⟩) | h)
  · exact .inl (.inl (.inl (c.look h (no _ h fun _ _ _ z => nomatch z) rfl)))
  · exact .inl (.inl (.inr ⟨ob, c.look h (no _ h fun _ _ _ z => nomatch z) rfl⟩))
  · exact .inl (.inr h)
  · exact .inr (.inl (.inl (c.look h (no _ h fun _ _ _ z => nomatch z) rfl)))
  · exact .inr (.inl (.inr ⟨ob, c.look h (no _ h fun _ _ _ z => nomatch z) rfl⟩))
  · exact .inr (.inr h)
/-- the tree at t over xs -/
def SegAt (T : Env w K mg base) (H : Hp) (t dn : Addr) (xs : List Int) : Prop := ∃ N L, IsSeg T H t dn xs.length ∧ Rep H dn N L ∧ L < 100000 ∧ Seg N 1 xs ∧ xs.length ≤ 32
def sp_Segments___init__ (T : Env w K mg base) : Sp := fun vs H Q E => match vs with
  | [.ref t, .ref v] => (∃ dx, H t = some (.ins T.C_Segments dx [])) ∧ ∃ xs : List Int, (SqL K H v (xs.map V.int) ∨ SqT K H v (xs.map V.int)) ∧ xs.length < 1000 ∧ (¬ (1 ≤ xs.length ∧ xs.length ≤ 500) → E (.ref T.C_SegmentError) none H) ∧
    (1 ≤ xs.length → xs.length ≤ 500 → xs.length ≤ 32 ∧ ∀ dn H', Chg T.tabs (Y.In [t]) H H' → H dn = none → SegAt T H' t dn xs → Q .non H')
  | _ => False
theorem ok_Segments___init__ (T : Env w K mg base) : FnOk prg w K mg base (L2.CX prg w) 72 T.f_Segments___init__ T.fd_Segments___init__ ["self", "values"] (sp_Segments___init__ T) := by
  refine T.F_Segments___init__.ok sc_Segments___init__ (fun vs H Q E h => by unfold sp_Segments___init__ at h; split at h <;> first | rfl | exact h.elim) fun A outer s H vs Q E hr h => ?_
  refine ⟨_, (pss_cons (ps_if (pt_not (pt_chain Y.op_le Y.op_le pe_int (pe_callB (Y.lenK (K := K) rfl) (by rfl) T.no_len (by decide +kernel) (pa_cons (pv 1) pa_nil)) (pe_glob rfl T.mg_MOST_LONG T.rv_MOST_LONG))) (pss_one (ps_raise rfl (takes_of rfl rfl rfl rfl) (pmk_own PySem.F.excBase_ValueError T.x_SegmentError T.mg_SegmentError T.k_SegmentError (raises_own T.bb_SegmentError T.tt_SegmentError) rfl))) pss_nil)
  (pss_cons (Y.ps_f T.cl_Segments T.na_Segments_many (pv 0) (pe_callB (Y.lenK (K := K) rfl) (by rfl) T.no_len (by decide +kernel) (pa_cons (pv 1) pa_nil)))
  (pss_cons (Y.ps_f T.cl_Segments T.na_Segments_nodes (pv 0) Y.pe_dn)
  (pss_one (ps_expr (pe_meth (pv 0) T.cl_Segments T.me_Segments_build_node (ok_Segments_build_node T 6) (hr.mono (by decide)) T.b_Segments_build_node .nil (Y.passD rfl rfl rfl rfl) (pa_cons pe_int (pa_cons pe_int (pa_cons (Y.pe_f T.cl_Segments T.na_Segments_many (pv 0)) (pa_cons (pe_callTy (Y.listK (K := K) rfl) (by rfl) T.no_list (by decide +kernel) (pa_cons (pv 1) pa_nil)) pa_nil)))))))))), ?_⟩
  unfold sp_Segments___init__ at h
  split at h
  next t v =>
    obtain ⟨⟨dx, ht⟩, xs, hv, hz, hE, h⟩ := h
    have hv0 := hv
    have lz : (xs.map V.int).length ≤ sizeLine := le_line (by simp; omega)
    walk_at "go"
    walk_at "if"
    · intro c1
      walk_at "go"
      walk_at "if"
      · intro c2
        walk_at "go"
        exact hE (by simp at c1 c2; omega)
      · intro c2
        obtain ⟨z5, h⟩ := h (by simp at c1; omega) (by simp at c2; omega)
        walk_at "go"
        rename_i H1 w1 dn H2 n2 H3 w3
        have fd : H dn = none := by walk_at "fr"
        have c3 : Chg T.tabs (Y.In [t]) H H3 := by walk_at "chg"
        have hv3 := seqA_ins hv ht c3
        have nt : t ≠ dn := by walk_at "ne"
        have g3 : H3 dn = some (.dK []) := by walk_at "lk"
        have t3 : H3 t = some (.ins T.C_Segments dx (fsS xs.length dn)) := by
          have := w3.at
          rw [List.length_map] at this
          exact this
        have rp3 : Rep H3 dn (fun _ => none) 0 := ⟨[], g3, Nat.le_refl _, fun i r e => nomatch e⟩
        walk_at "go"
        rename_i l H4 n4
        have rp4 : Rep H4 dn (fun _ => none) 0 := rp3.keep (T := T.tabs) (S := nil) (by walk_at "chg") id (fun _ _ _ z => z)
        have l6 : lim 6 = 32 := rfl
        have lm : ((xs.map V.int).length : Int) = xs.length := by simp
        refine ⟨dn, xs.length, _, 0, xs, ⟨dx, by walk_at "lk"⟩, rp4, by omega, by omega, by simp at c1; omega, by simp, by rw [l6]; simp; omega, by rw [lm]; omega, n4.at, fun H5 N5 c5 rp5 s5 _ => ?_⟩
        walk_at "go"
        rw [lm] at s5 rp5
        rw [sub_all] at s5
        exact h dn _ (by walk_at "chg") fd ⟨N5, _, ⟨dx, by walk_at "lk"⟩, rp5, by omega, s5, z5⟩
    · intro c1
      walk_at "go"
      exact hE (by simp at c1; omega)
  next => exact h.elim
def sp_Segments_change_under (T : Env w K mg base) (d : Nat) : Sp := fun vs H Q _ => match vs with
  | [.ref t, .int n, .int here, .int e, .int f, .int b, wd, .int v] => ∃ dn m N L xs g, IsSeg T H t dn m ∧ Rep H dn N L ∧ L < 100000 ∧ 1 ≤ n ∧ Seg N n xs ∧ wd = wordV g ∧ 0 ≤ here ∧ e = here + xs.length ∧ e ≤ 1000 ∧ (xs.length : Int) ≤ lim d ∧
    ∀ H' N', Chg T.tabs (Y.In [dn]) H H' → Rep H' dn N' L → Seg N' n (chgL f b (opV g v) here xs) → (∀ i, ¬ Und n i → N' i = N i) → Q .non H'
  | _ => False
theorem ok_Segments_change_under (T : Env w K mg base) : ∀ d, FnOk prg w K mg base (L2.CX prg w) (8 * d + 24) T.f_Segments_change_under T.fd_Segments_change_under ["self", "node", "here", "end", "first", "behind", "word", "value"] (sp_Segments_change_under T d) := by
  intro d
  induction d with
  | zero =>
    refine FnOk.imp Y.okNo fun vs H Q E h => ?_
    unfold sp_Segments_change_under at h
    split at h
    · obtain ⟨dn, m, N, L, xs, g, -, -, -, -, s1, -, -, -, -, bd, -⟩ := h
      have : lim 0 = 0 := rfl
      have := List.length_pos_iff.mpr s1.ne
      omega
    · exact h
  | succ d ih =>
  refine T.F_Segments_change_under.ok sc_Segments_change_under (fun vs H Q E h => by unfold sp_Segments_change_under at h; split at h <;> first | rfl | exact h.elim) fun A outer s H vs Q E hr h => ?_
  refine ⟨_, (pss_one (ps_if (PW.pt (pw_and (pt_cmpR Y.op_le (pv 4) (pv 2) (nomark _)) (pw_and1 (pt_cmpR Y.op_le (pv 3) (pv 5) (nomark _))))) (pss_one (ps_expr (pe_meth (pv 0) T.cl_Segments T.me_Segments_lay_on (ok_Segments_lay_on T) (hr.mono (by omega)) T.b_Segments_lay_on .nil (Y.passD rfl rfl rfl rfl) (pa_cons (pv 1) (pa_cons (pe_op Y.op_sub (pv 3) (pv 2)) (pa_cons (pv 6) (pa_cons (pv 7) pa_nil))))))) (pss_one (ps_if (PW.pt (pw_and (pt_cmpR Y.op_lt (pv 2) (pv 5) (nomark _)) (pw_and1 (pt_cmpR Y.op_lt (pv 4) (pv 3) (nomark _))))) (pss_cons (ps_expr (pe_meth (pv 0) T.cl_Segments T.me_Segments_push_down (ok_Segments_push_down T) (hr.mono (by omega)) T.b_Segments_push_down .nil (Y.passD rfl rfl rfl rfl) (pa_cons (pv 1) (pa_cons (pv 2) (pa_cons (pv 3) pa_nil)))))
  (pss_cons (ps_set (i := 8) sc_Segments_change_under.nd rfl (Or.inl rfl) (pe_op Y.op_fdiv (pe_op (Y.op_addK (K := K) rfl) (pv 2) (pv 3)) pe_int))
  (pss_cons (ps_expr (pe_meth (pv 0) T.cl_Segments T.me_Segments_change_under ih (hr.mono (by omega)) T.b_Segments_change_under .nil (Y.passD rfl rfl rfl rfl) (pa_cons (pe_op Y.op_mul pe_int (pv 1)) (pa_cons (pv 2) (pa_cons (pv 8) (pa_cons (pv 4) (pa_cons (pv 5) (pa_cons (pv 6) (pa_cons (pv 7) pa_nil)))))))))
  (pss_cons (ps_expr (pe_meth (pv 0) T.cl_Segments T.me_Segments_change_under ih (hr.mono (by omega)) T.b_Segments_change_under .nil (Y.passD rfl rfl rfl rfl) (pa_cons (pe_op (Y.op_addK (K := K) rfl) (pe_op Y.op_mul pe_int (pv 1)) pe_int) (pa_cons (pv 8) (pa_cons (pv 3) (pa_cons (pv 4) (pa_cons (pv 5) (pa_cons (pv 6) (pa_cons (pv 7) pa_nil)))))))))
  (pss_one (ps_expr (pe_meth (pv 0) T.cl_Segments T.me_Segments_gather_two (ok_Segments_gather_two T) (hr.mono (by omega)) T.b_Segments_gather_two .nil (Y.passD rfl rfl rfl rfl) (pa_cons (pv 1) pa_nil)))))))) pss_nil)))), ?_⟩
  unfold sp_Segments_change_under at h
  split at h
  next t n here e f b wd v =>
    obtain ⟨dn, m, N, L, xs, g, ⟨dx, ht⟩, ⟨kvs, hd, hL, hN⟩, hz, n1, sg, rfl, h0, rfl, e1, bd, h⟩ := h
    have nt : t ≠ dn := fun z => by rw [z, hd] at ht; cases ht
    have l1 := List.length_pos_iff.mpr sg.ne
    have low : f ≤ here → here + xs.length ≤ b → ∀ H', Chg T.tabs (Y.In [dn]) H H' → (∃ r, N n = some r ∧ Rep H' dn (updN N n (lay r xs.length g v)) L) → Q .non H' := by
      intro c1 c2 H' c ⟨r, er, rp⟩
      refine h _ _ c rp ?_ ?_
      · rw [chgL_all _ _ c1 c2]
        exact sg.lay n1 er
      · exact fun i hi => updN_ne fun z => hi (by rw [z]; exact .refl _)
    refine tIf_rest (¬ (f ≤ here ∧ here + xs.length ≤ b)) (fun cn => ?_) (fun U hU => ?_)
    · refine tIf_rest (¬ (here < b ∧ f < here + xs.length)) (fun cm => ?_) (fun U hU => ?_)
      · walk_at "go"
        refine h H N (.refl _) ⟨kvs, hd, hL, hN⟩ ?_ fun i _ => rfl
        rw [chgL_none _ _ (by omega)]
        exact sg
      · walk_at "go"
        walk_at "if"
        · intro c1
          walk_at "go"
          walk_at "if"
          · intro c2
            obtain ⟨r, l, k, ys, zs, er, el, ek, rfl, yn, zn, yl, sy, sz, -, -, fr⟩ := sg.open n1 (by omega)
            have y1 := List.length_pos_iff.mpr yn
            have z1 := List.length_pos_iff.mpr zn
            rw [List.length_append] at yl bd e1 c2 cn
            have em : (here + (here + (ys.length + zs.length : Nat))) / 2 - here = ys.length := by omega
            have em2 : here + ((ys.length + zs.length : Nat) : Int) - (here + (here + (ys.length + zs.length : Nat))) / 2 = zs.length := by omega
            have e3 : (here + (here + ((ys ++ zs).length : Int))) / 2 = here + ys.length := by rw [List.length_append]; omega
            have e4 : (here + ((ys ++ zs).length : Int)) = here + ys.length + zs.length := by rw [List.length_append]; omega
            have pw := lim_half (d := d) (n := ((ys.length + zs.length : Nat) : Int)) (by omega) bd
            rw [e4]
            walk_at "go"
            refine ⟨dn, m, N, L, r, l, k, ⟨dx, ht⟩, ⟨kvs, hd, hL, hN⟩, by omega, n1, er, el, ek, h0, by omega, by omega, fun H1 c3 rp1 => ?_⟩
            have em : (here + (here + (ys.length : Int) + zs.length)) / 2 = here + ys.length := by omega
            have em2 : here + (ys.length : Int) - here = ys.length := by omega
            have em3 : here + (ys.length : Int) + zs.length - (here + ys.length) = zs.length := by omega
            rw [em, em2, em3] at rp1
            walk_at "go"
            refine ⟨dn, m, _, L, ys, g, ⟨dx, by walk_at "lk"⟩, rp1, hz, by omega, sy, rfl, h0, em, by omega, by omega, fun H2 N2 c4 rp2 s2 k2 => ?_⟩
            walk_at "go"
            refine ⟨dn, m, _, L, zs, g, ⟨dx, by walk_at "lk"⟩, rp2, hz, by omega, sz.keep fun i u => k2 i fun z => Und.apart n1 z u, rfl, by omega, by omega, by omega, by omega, fun H3 N3 c5 rp3 s3 k3 => ?_⟩
            have s2' := s2.keep (N' := N3) fun i u => k3 i fun z => Und.apart n1 u z
            obtain ⟨l3, el3, -⟩ := s2'.row
            obtain ⟨k3', ek3, -⟩ := s3.row
            have en : N3 n = some (flat r) := (k3 n fun z => absurd (z.ge (by omega)) (by omega)).trans ((k2 n fun z => absurd (z.ge (by omega)) (by omega)).trans updN_at)
            walk_at "go"
            refine ⟨dn, m, _, L, flat r, l3, k3', ⟨dx, by walk_at "lk"⟩, rp3, by omega, en, el3, ek3, fun H4 c6 rp4 => ?_⟩
            walk_at "go"
            refine h _ _ (by walk_at "chg") rp4 ?_ ?_
            · rw [chgL_app]
              rw [em] at s3
              exact Seg.gather s2' s3 n1 el3 ek3 rfl rfl (by rw [chgL_len, chgL_len]; exact yl)
            · intro i hi
              rw [updN_ne (fun z => hi (by rw [z]; exact .refl _)), k3 i fun z => hi (.hi z), k2 i fun z => hi (.lo z)]
              exact fr i hi
          · intro c2
            exact hU (by omega)
        · intro c1
          exact hU (by omega)
    · walk_at "go"
      walk_at "if"
      · intro c1
        walk_at "go"
        walk_at "if"
        · intro c2
          obtain ⟨r, er, -⟩ := sg.row
          have e9 : here + xs.length - here = xs.length := by omega
          walk_at "go"
          refine ⟨dn, m, N, L, r, g, ⟨dx, ht⟩, ⟨kvs, hd, hL, hN⟩, by omega, er, rfl, by omega, by omega, fun H' c rp => ?_⟩
          rw [e9] at rp
          exact low c1 c2 _ c ⟨r, er, rp⟩
        · intro c2
          exact hU (by omega)
      · intro c1
        exact hU (by omega)
  next => exact h.elim
end
end Z


set_option Elab.async false
set_option linter.all false
set_option maxRecDepth 100000
set_option maxHeartbeats 4000000
set_option pp.maxSteps 1500
namespace Z
open PySem PySem.Spec L2 LamX Y
local macro_rules | `(tactic| walk_at "lk") => `(tactic| first
  | assumption
  | exact Nw.at (by assumption)
  | exact Wr.at (by assumption)
  | exact Mkd.at (by assumption)
  | exact Nw.look (by assumption) (by walk_at "lk")
  | exact Mkd.look (by assumption) (by walk_at "lk")
  | exact Wr.look (by assumption) (by walk_at "lk") (by walk_at "ne")
  | exact Chg.look (by assumption) (by walk_at "lk") (by walk_at "nin") rfl
  | exact Tp.same (by assumption) _ _ (by walk_at "lk")
  | exact Grows.look (by assumption) (by walk_at "lk") rfl
  | fail)
local macro_rules | `(tactic| walk_at "ne") => `(tactic| first
  | assumption
  | exact Ne.symm (by assumption)
  | exact Nw.ne (by assumption) (by walk_at "lk")
  | exact Ne.symm (Nw.ne (by assumption) (by walk_at "lk"))
  | exact ne_fr (by assumption) (by walk_at "lk")
  | exact Ne.symm (ne_fr (by assumption) (by walk_at "lk"))
  | exact ne_fr (Mkd.nx (by assumption)) (by walk_at "lk")
  | exact Ne.symm (ne_fr (Mkd.nx (by assumption)) (by walk_at "lk"))
  | exact ne_kdn (by assumption) (by walk_at "lk") rfl
  | exact Ne.symm (ne_kdn (by assumption) (by walk_at "lk") rfl)
  | fail)
local macro_rules | `(tactic| walk_at "nin") => `(tactic| first
  | exact nin_nil
  | exact id
  | exact nin_cons (by walk_at "ne") (by walk_at "nin")
  | fail)
local macro_rules | `(tactic| walk_at "fr") => `(tactic| first
  | assumption
  | exact Nw.new (by assumption)
  | exact Mkd.nx (by assumption)
  | exact Nw.dom (by assumption) (by walk_at "fr")
  | exact Wr.dom (by assumption) (by walk_at "fr")
  | exact Mkd.dom (by assumption) (by walk_at "fr")
  | exact Chg.dom (by assumption) _ (by walk_at "fr")
  | exact Tp.dom (by assumption) _ (by walk_at "fr")
  | exact Grows.dom (by assumption) _ (by walk_at "fr")
  | fail)
local macro_rules | `(tactic| walk_at "mem") => `(tactic| first
  | assumption
  | exact List.mem_cons_self
  | (apply List.mem_cons_of_mem; walk_at "mem")
  | fail)
local macro_rules | `(tactic| walk_at "in") => `(tactic| first
  | assumption
  | (apply Or.inl; walk_at "mem")
  | (apply Or.inr; walk_at "fr")
  | fail)
local macro_rules | `(tactic| walk_at "sub") => `(tactic| first
  | exact sub_nil0
  | exact sub_nil
  | exact sub_cons (by walk_at "in") (by walk_at "sub")
  | fail)
local macro_rules | `(tactic| walk_at "chg") => `(tactic| first
  | assumption
  | exact Chg.refl _
  | exact Chg.nw (by assumption) (by walk_at "chg")
  | exact Chg.mkd (by assumption) (by walk_at "chg")
  | exact Chg.tp (by assumption) (by walk_at "chg")
  | exact Chg.gr (by assumption) (by walk_at "chg")
  | exact Chg.wr (by assumption) (by walk_at "chg") (by walk_at "in")
  | exact Chg.ch (by assumption) (by walk_at "chg") (by walk_at "sub")
  | fail)
local macro_rules | `(tactic| walk_at "sq") => `(tactic| first
  | assumption
  | exact SqL.of (by walk_at "lk")
  | exact Chg.seqL (by assumption) (by walk_at "sq") (by walk_at "nin")
  | exact SqL.nw (by assumption) (by walk_at "sq")
  | exact SqL.tp (by assumption) (by walk_at "sq")
  | exact SqL.mkd (by assumption) (by walk_at "sq")
  | exact SqL.wr (by assumption) (by walk_at "sq") (by walk_at "ne")
  | fail)
local macro_rules | `(tactic| walk_at "sqt") => `(tactic| first
  | assumption
  | exact SqT.of (by walk_at "lk")
  | exact Tp.sq (by assumption)
  | exact SqT.nw (by assumption) (by walk_at "sqt")
  | exact SqT.tp (by assumption) (by walk_at "sqt")
  | exact SqT.mkd (by assumption) (by walk_at "sqt")
  | exact SqT.chg (by assumption) (by walk_at "sqt") (by walk_at "nin")
  | fail)
local macro_rules | `(tactic| walk_at "seq") => `(tactic| first
  | assumption
  | exact .inl (by walk_at "sq")
  | exact .inr (by walk_at "sqt")
  | exact SqA.keepN (T := Env.tabs (by assumption)) (by assumption) (by walk_at "chg")
  | fail)
local macro_rules | `(tactic| walk_at "go") => `(tactic| repeat first
  | refine ⟨_, rfl, ?_⟩
  | refine ⟨_, _, _, _, rfl, And.intro (by walk_at "lk") (And.intro rfl ?_)⟩
  | refine ⟨_, _, _, rfl, And.intro (by walk_at "lk") (And.intro (by walk_at "side") ?_)⟩
  | refine ⟨_, _, And.intro rfl (And.intro rfl ?_)⟩
  | refine ⟨_, _, And.intro rfl (And.intro (by walk_at "lk") ?_)⟩
  | refine ⟨_, _, _, And.intro rfl (And.intro (by walk_at "lk") ?_)⟩
  | refine ⟨_, And.intro (by walk_at "lk") (And.intro (by walk_at "side") ?_)⟩
  | refine ⟨_, _, And.intro (by walk_at "lk") (And.intro (by walk_at "side") ?_)⟩
  | refine ⟨_, _, And.intro (by walk_at "seq") (And.intro rfl ?_)⟩
  | refine ⟨_, _, And.intro (by walk_at "seq") (And.intro (by assumption) ?_)⟩
  | refine ⟨_, And.intro (by walk_at "seq") ?_⟩
  | refine ⟨_, And.intro (by walk_at "lk") (And.intro (by walk_at "side") (And.intro (by walk_at "side") (And.intro (by walk_at "side") ?_)))⟩
  | refine .inl ⟨_, _, And.intro (by walk_at "lk") (And.intro (by walk_at "lk") (And.intro (by walk_at "side") ?_))⟩
  | refine .inr ⟨_, _, And.intro (by walk_at "sqt") (And.intro (by walk_at "sqt") (And.intro (by walk_at "side") ?_))⟩
  | refine .inl ⟨_, And.intro (by walk_at "sq") ?_⟩
  | refine .inr ⟨_, And.intro (by walk_at "sqt") ?_⟩
  | refine ⟨_, _, _, _, rfl, rfl, And.intro (by walk_at "lk") (And.intro rfl ?_)⟩
  | refine ⟨_, _, _, _, rfl, rfl, And.intro (by walk_at "lk") (And.intro (by walk_at "key") ?_)⟩
  | refine ⟨_, _, _, rfl, rfl, And.intro (by walk_at "lk") (And.intro (by walk_at "side") ?_)⟩
  | refine fun H' (n : Wr _ _ _ H') => ?_
  | refine fun p H' (n : Nw _ p _ H') => ?_
  | refine fun r H' (n : Tp _ _ r _ H') => ?_
  | refine fun x dx H' (n : Mkd _ _ x dx H') => ?_
  | refine .inl ⟨_, _, rfl, And.intro (by walk_at "sq") (fun p H' (n : Nw _ p _ H') => ?_)⟩
  | refine .inr ⟨_, _, rfl, And.intro (by walk_at "sqt") (fun r H' (n : Tp _ _ r _ H') => ?_)⟩
  | refine ⟨_, _, rfl, And.intro (by walk_at "sq") (fun p H' (n : Nw _ p _ H') => ?_)⟩
  | refine .inl (And.intro ⟨_, by walk_at "sq"⟩ ?_)
  | refine .inr (And.intro ⟨_, by walk_at "sqt"⟩ ?_)
  | refine ⟨_, _, rfl, And.intro (by walk_at "sqt") (And.intro rfl ?_)⟩
  | refine ⟨_, _, And.intro rfl ?_⟩
  | refine ⟨_, _, _, And.intro rfl ?_⟩
  | refine And.intro rfl ?_
  | (refine ite_t ?_ ?_; exact rfl)
  | (refine ite_f ?_ ?_; exact rfl)
  | refine And.intro (by walk_at "side") ?_)
local macro_rules | `(tactic| walk_at "side") => `(tactic| first
  | exact (rfl : _ = _)
  | decide
  | exact lt1000 rfl
  | with_reducible assumption
  | exact ⟨by omega, by omega⟩
  | exact .inl ⟨by omega, by omega⟩
  | exact .inr ⟨by omega, by omega⟩
  | omega
  | (apply le_line; omega)
  | (apply lt_line; omega)
  | (apply le_line; simp <;> omega)
  | (apply lt_line; simp <;> omega)
  | fail)
local macro_rules | `(tactic| walk_at "if") => `(tactic| first
  | refine ite_nd ?_ ?_
  | refine ite_d ?_ ?_
  | refine ite_eqt ?_ ?_
  | fail)
local macro_rules | `(tactic| walk_at "roll") => `(tactic| first
  | (refine And.intro (show Dice _ _ from ⟨_, _, _, by walk_at "lk"⟩) (And.intro (by walk_at "side") (And.intro (by walk_at "side") (fun r H' r0 r1 ro => ?_))); obtain ⟨a', b', c', w⟩ := ro)
  | fail)
local macro_rules | `(tactic| walk_at "run") => `(tactic| (walk_at "go"; repeat (walk_at "roll"; walk_at "go")))
local macro_rules | `(tactic| walk_at "dp") => `(tactic| first
  | exact Dp.non
  | exact Dp.int _
  | exact Dp.str _
  | exact Dp.bl _
  | exact DpAll.nil
  | exact DpAll.cons (by walk_at "dp") (by walk_at "dp")
  | exact Dp.tup (by walk_at "sqt") (by walk_at "dp")
  | exact Dp.lst (by walk_at "sq") (by walk_at "dp")
  | fail)
local macro_rules | `(tactic| walk_at "key") => `(tactic| first
  | assumption
  | fail)

section
variable {w : World} {K : PySem.W.Frag} {mg : Str → Option Value} {base : Heap}
def sp_Segments_add_to (T : Env w K mg base) : Sp := fun vs H Q E => match vs with
  | [.ref t, .int f, .int b, .int v] => ∃ dn xs, SegAt T H t dn xs ∧ (¬ (0 ≤ f ∧ f < b ∧ b ≤ (xs.length : Int)) → E (.ref T.C_SegmentError) none H) ∧
    (0 ≤ f → f < b → b ≤ (xs.length : Int) → ∀ H', Chg T.tabs (Y.In [dn]) H H' → SegAt T H' t dn (chgL f b (opV false v) 0 xs) → Q .non H')
  | _ => False
theorem ok_Segments_add_to (T : Env w K mg base) : FnOk prg w K mg base (L2.CX prg w) 80 T.f_Segments_add_to T.fd_Segments_add_to ["self", "first", "behind", "value"] (sp_Segments_add_to T) := by
  refine T.F_Segments_add_to.ok sc_Segments_add_to (fun vs H Q E h => by unfold sp_Segments_add_to at h; split at h <;> first | rfl | exact h.elim) fun A outer s H vs Q E hr h => ?_
  refine ⟨_, (pss_cons (ps_expr (pe_meth (pv 0) T.cl_Segments T.me_Segments_check_part (ok_Segments_check_part T) (hr.mono (by decide)) T.b_Segments_check_part .nil (Y.passD rfl rfl rfl rfl) (pa_cons (pv 1) (pa_cons (pv 2) pa_nil))))
  (pss_one (ps_expr (pe_meth (pv 0) T.cl_Segments T.me_Segments_change_under (ok_Segments_change_under T 6) (hr.mono (by decide)) T.b_Segments_change_under .nil (Y.passD rfl rfl rfl rfl) (pa_cons pe_int (pa_cons pe_int (pa_cons (Y.pe_f T.cl_Segments T.na_Segments_many (pv 0)) (pa_cons (pv 1) (pa_cons (pv 2) (pa_cons pe_str (pa_cons (pv 3) pa_nil))))))))))), ?_⟩
  unfold sp_Segments_add_to at h
  split at h
  next t f b v =>
    obtain ⟨dn, xs, ⟨N, L, ⟨dx, ht⟩, ⟨kvs, hd, hL, hN⟩, hz, sg, l9⟩, hE, h⟩ := h
    have nt : t ≠ dn := fun z => by rw [z, hd] at ht; cases ht
    walk_at "go"
    refine ⟨dn, _, ⟨dx, ht⟩, hE, fun f0 f1 f2 => ?_⟩
    walk_at "go"
    refine ⟨dn, _, N, L, xs, false, ⟨dx, ht⟩, ⟨kvs, hd, hL, hN⟩, hz, by omega, sg, rfl, by omega, by omega, by omega, by have : lim 6 = 32 := rfl; omega, fun H' N' c rp s' _ => ?_⟩
    walk_at "go"
    exact h f0 f1 f2 _ c ⟨N', L, ⟨dx, by rw [chgL_len]; walk_at "lk"⟩, rp, hz, s', by rw [chgL_len]; exact l9⟩
  next => exact h.elim
def sp_Segments_set_to (T : Env w K mg base) : Sp := fun vs H Q E => match vs with
  | [.ref t, .int f, .int b, .int v] => ∃ dn xs, SegAt T H t dn xs ∧ (¬ (0 ≤ f ∧ f < b ∧ b ≤ (xs.length : Int)) → E (.ref T.C_SegmentError) none H) ∧
    (0 ≤ f → f < b → b ≤ (xs.length : Int) → ∀ H', Chg T.tabs (Y.In [dn]) H H' → SegAt T H' t dn (chgL f b (opV true v) 0 xs) → Q .non H')
  | _ => False
theorem ok_Segments_set_to (T : Env w K mg base) : FnOk prg w K mg base (L2.CX prg w) 80 T.f_Segments_set_to T.fd_Segments_set_to ["self", "first", "behind", "value"] (sp_Segments_set_to T) := by
  refine T.F_Segments_set_to.ok sc_Segments_set_to (fun vs H Q E h => by unfold sp_Segments_set_to at h; split at h <;> first | rfl | exact h.elim) fun A outer s H vs Q E hr h => ?_
  refine ⟨_, (pss_cons (ps_expr (pe_meth (pv 0) T.cl_Segments T.me_Segments_check_part (ok_Segments_check_part T) (hr.mono (by decide)) T.b_Segments_check_part .nil (Y.passD rfl rfl rfl rfl) (pa_cons (pv 1) (pa_cons (pv 2) pa_nil))))
  (pss_one (ps_expr (pe_meth (pv 0) T.cl_Segments T.me_Segments_change_under (ok_Segments_change_under T 6) (hr.mono (by decide)) T.b_Segments_change_under .nil (Y.passD rfl rfl rfl rfl) (pa_cons pe_int (pa_cons pe_int (pa_cons (Y.pe_f T.cl_Segments T.na_Segments_many (pv 0)) (pa_cons (pv 1) (pa_cons (pv 2) (pa_cons pe_str (pa_cons (pv 3) pa_nil))))))))))), ?_⟩
  unfold sp_Segments_set_to at h
  split at h
  next t f b v =>
    obtain ⟨dn, xs, ⟨N, L, ⟨dx, ht⟩, ⟨kvs, hd, hL, hN⟩, hz, sg, l9⟩, hE, h⟩ := h
    have nt : t ≠ dn := fun z => by rw [z, hd] at ht; cases ht
    walk_at "go"
    refine ⟨dn, _, ⟨dx, ht⟩, hE, fun f0 f1 f2 => ?_⟩
    walk_at "go"
    refine ⟨dn, _, N, L, xs, true, ⟨dx, ht⟩, ⟨kvs, hd, hL, hN⟩, hz, by omega, sg, rfl, by omega, by omega, by omega, by have : lim 6 = 32 := rfl; omega, fun H' N' c rp s' _ => ?_⟩
    walk_at "go"
    exact h f0 f1 f2 _ c ⟨N', L, ⟨dx, by rw [chgL_len]; walk_at "lk"⟩, rp, hz, s', by rw [chgL_len]; exact l9⟩
  next => exact h.elim
def Row3 (G : Hp) (x : V) (q : Int × Int × Int) : Prop := ∃ p, x = .ref p ∧ G p = some (.tup [.int q.1, .int q.2.1, .int q.2.2])
def Fit3 (q : Int × Int × Int) (xs : List Int) : Prop := Fits q.1 q.2.1 q.2.2 xs
def RowsOf (G : Hp) (l : Addr) (parts : List (List Int)) : Prop := ∃ rs trip, G l = some (.lst rs) ∧ All2 (Row3 G) rs trip ∧ All2 Fit3 trip parts
theorem Row3.keep {G G' : Hp} {x : V} {q : Int × Int × Int} {T : List (Addr × Str)} {S : Addr → Prop} (h : Row3 G x q) (c : Chg T S G G') (n : ∀ a ts, G a = some (.tup ts) → ¬ S a) : Row3 G' x q := let ⟨p, e, z⟩ := h; ⟨p, e, c.look z (n p _ z) rfl⟩
theorem RowsOf.keep {G G' : Hp} {l : Addr} {parts : List (List Int)} {T : List (Addr × Str)} {S : Addr → Prop} (h : RowsOf G l parts) (c : Chg T S G G') (nl : ¬ S l) (n : ∀ a ts, G a = some (.tup ts) → ¬ S a) : RowsOf G' l parts :=
  let ⟨rs, trip, e, a, b⟩ := h
  ⟨rs, trip, c.look e nl rfl, a.imp fun x q z => z.keep c n, b⟩
theorem cols_fit {trip : List (Int × Int × Int)} {parts : List (List Int)} (h : All2 Fit3 trip parts) : (trip.map (·.1)).sum = parts.flatten.sum ∧ (∀ v ∈ trip.map (·.2.1), (∀ y ∈ trip.map (·.2.1), v ≤ y) → IsMin v parts.flatten) ∧ ∀ v ∈ trip.map (·.2.2), (∀ y ∈ trip.map (·.2.2), y ≤ v) → IsMax v parts.flatten := by
  have mm : ∀ {trip : List (Int × Int × Int)} {parts : List (List Int)}, All2 Fit3 trip parts → (∀ y ∈ parts.flatten, (∃ m ∈ trip.map (·.2.1), m ≤ y) ∧ ∃ m ∈ trip.map (·.2.2), y ≤ m) ∧ (∀ m ∈ trip.map (·.2.1), m ∈ parts.flatten) ∧ ∀ m ∈ trip.map (·.2.2), m ∈ parts.flatten := by
    intro trip parts h
    induction h with
    | nil => exact ⟨fun y hy => by simp at hy, fun m hm => by simp at hm, fun m hm => by simp at hm⟩
    | cons a _ ih =>
      obtain ⟨-, ⟨m1, m2⟩, x1, x2⟩ := a
      obtain ⟨i1, i2, i3⟩ := ih
      refine ⟨fun y hy => ?_, fun m hm => ?_, fun m hm => ?_⟩
      · rw [List.flatten_cons] at hy
        rcases List.mem_append.mp hy with z | z
        · exact ⟨⟨_, List.mem_cons_self, m2 y z⟩, _, List.mem_cons_self, x2 y z⟩
        · obtain ⟨⟨m, a, b⟩, k, c, d⟩ := i1 y z
          exact ⟨⟨m, List.mem_cons_of_mem _ a, b⟩, k, List.mem_cons_of_mem _ c, d⟩
      · rw [List.flatten_cons]
        rcases List.mem_cons.mp hm with rfl | z
        · exact List.mem_append_left _ m1
        · exact List.mem_append_right _ (i2 m z)
      · rw [List.flatten_cons]
        rcases List.mem_cons.mp hm with rfl | z
        · exact List.mem_append_left _ x1
        · exact List.mem_append_right _ (i3 m z)
  obtain ⟨a, b, c⟩ := mm h
  refine ⟨?_, fun v hv hy => ⟨b v hv, fun y z => ?_⟩, fun v hv hy => ⟨c v hv, fun y z => ?_⟩⟩
  · induction h with
    | nil => rfl
    | cons f _ ih => rw [List.map_cons, List.sum_cons, List.flatten_cons, List.sum_append, f.1, ih]; all_goals (obtain ⟨a, b, c⟩ := mm (by assumption); assumption)
  · obtain ⟨⟨m, h1, h2⟩, -⟩ := a y z
    exact Int.le_trans (hy m h1) h2
  · obtain ⟨-, m, h1, h2⟩ := a y z
    exact Int.le_trans h2 (hy m h1)
/-- a column of rows -/
theorem row_gen {T : Env w K mg base} {G : Hp} {l : Addr} {rs : List V} {col : List Int} {c : Int} {wi : TI} {x0 x1 x2 x3 x4 x5 x6 x7 x8 : Option V} (hl : G l = some (.lst rs)) (ln : rs.length = col.length)
    (hc : ∀ (i : Nat) (x : V), rs[i]? = some x → ∃ (p : Addr) (ts : List V) (y : Int), x = .ref p ∧ G p = some (.tup ts) ∧ col[i]? = some y ∧ atI ts c = some (.int y)) :
    tGxN wi (gName 8) tYes (tOp (uIx K) (tVar 8) (tC (V.int c))) [8] (Itl K l) G [x0, x1, x2, x3, x4, x5, x6, x7, x8] (col.map V.int) (fun _ _ => True) (fun H' => Chg T.tabs nil G H') := by
  refine gnl (xs := rs) (fun i j H' => Chg T.tabs nil G H' ∧ j = i) ⟨.refl _, rfl⟩ ?_ ?_ ?_
  · rintro i j H' - ⟨c, -⟩
    exact SqL.of (c.look hl id rfl)
  · rintro j H' ⟨c, rfl⟩
    exact ⟨by rw [List.length_map]; exact ln, c⟩
  · rintro i x j H' hx ⟨c, ej⟩
    subst ej
    obtain ⟨p, ts, y, rfl, hp, hy, ha⟩ := hc j x hx
    have hp' := c.look hp id rfl
    intro Nx Sk hN hS
    walk_at "go"
    exact hN _ _ (by rw [List.getElem?_map, hy]; rfl) trivial ⟨c, rfl⟩
def sp_Segments_told_under (T : Env w K mg base) (d : Nat) : Sp := fun vs H Q _ => match vs with
  | [.ref t, .int n, .int here, .int e, .int f, .int b] => ∃ dn m N L xs, IsSeg T H t dn m ∧ Rep H dn N L ∧ L < 100000 ∧ 1 ≤ n ∧ Seg N n xs ∧ Tabs T.tabs H ∧ 0 ≤ here ∧ e = here + xs.length ∧ e ≤ 1000 ∧ (xs.length : Int) ≤ lim d ∧ f < b ∧ f < e ∧ here < b ∧
    ∀ p H' N' s mn mx, Chg T.tabs (Y.In [dn]) H H' → Rep H' dn N' L → Seg N' n xs → (∀ i, ¬ Und n i → N' i = N i) → Fits s mn mx (prt f b here xs) → H p = none → H' p = some (.tup [.int s, .int mn, .int mx]) → Q (.ref p) H'
  | _ => False
theorem ok_Segments_told_under (T : Env w K mg base) : ∀ d, FnOk prg w K mg base (L2.CX prg w) (8 * d + 24) T.f_Segments_told_under T.fd_Segments_told_under ["self", "node", "here", "end", "first", "behind"] (sp_Segments_told_under T d) := by
  intro d
  induction d with
  | zero =>
    refine FnOk.imp Y.okNo fun vs H Q E h => ?_
    unfold sp_Segments_told_under at h
    split at h
    · obtain ⟨dn, m, N, L, xs, -, -, -, -, s1, -, -, -, -, bd, -⟩ := h
      have : lim 0 = 0 := rfl
      have := List.length_pos_iff.mpr s1.ne
      omega
    · exact h
  | succ d ih =>
  refine T.F_Segments_told_under.ok sc_Segments_told_under (fun vs H Q E h => by unfold sp_Segments_told_under at h; split at h <;> first | rfl | exact h.elim) fun A outer s H vs Q E hr h => ?_
  refine ⟨_, (pss_cons (ps_if (PW.pt (pw_and (pt_cmpR Y.op_le (pv 4) (pv 2) (nomark _)) (pw_and1 (pt_cmpR Y.op_le (pv 3) (pv 5) (nomark _))))) (pss_one (ps_ret (pe_callTy (Y.tupleK (K := K) rfl) (by rfl) T.no_tuple (by decide +kernel) (pa_cons (pe_slice (Y.slK (K := K) rfl) (Y.pe_dg hr.units (Y.pe_f T.cl_Segments T.na_Segments_nodes (pv 0)) (pv 1) (fun _ _ => rfl)) po_none (po_some pe_int)) pa_nil)))) pss_nil)
  (pss_cons (ps_expr (pe_meth (pv 0) T.cl_Segments T.me_Segments_push_down (ok_Segments_push_down T) (hr.mono (by omega)) T.b_Segments_push_down .nil (Y.passD rfl rfl rfl rfl) (pa_cons (pv 1) (pa_cons (pv 2) (pa_cons (pv 3) pa_nil)))))
  (pss_cons (ps_par (i := 6) (j := 7) (by rfl) sc_Segments_told_under.nd rfl rfl (by decide) rfl rfl (pa_cons (pe_op Y.op_fdiv (pe_op (Y.op_addK (K := K) rfl) (pv 2) (pv 3)) pe_int) (pa_cons (Y.pe_ls pa_nil) pa_nil)) (by rfl))
  (pss_cons (ps_if (pt_cmpR Y.op_lt (pv 4) (pv 6) (nomark _)) (pss_one (ps_expr (peI (pe_bm PySem.F.plainAttrs_list PySem.F.slot_list_append PySem.F.type_list_append mt_append (peU (pv 7)) (pa_cons (peU (pe_meth (pv 0) T.cl_Segments T.me_Segments_told_under ih (hr.mono (by omega)) T.b_Segments_told_under .nil (Y.passD rfl rfl rfl rfl) (pa_cons (pe_op Y.op_mul pe_int (pv 1)) (pa_cons (pv 2) (pa_cons (pv 6) (pa_cons (pv 4) (pa_cons (pv 5) pa_nil))))))) pa_nil)) Y.app_i))) pss_nil)
  (pss_cons (ps_if (pt_cmpR Y.op_gt (pv 5) (pv 6) (nomark _)) (pss_one (ps_expr (peI (pe_bm PySem.F.plainAttrs_list PySem.F.slot_list_append PySem.F.type_list_append mt_append (peU (pv 7)) (pa_cons (peU (pe_meth (pv 0) T.cl_Segments T.me_Segments_told_under ih (hr.mono (by omega)) T.b_Segments_told_under .nil (Y.passD rfl rfl rfl rfl) (pa_cons (pe_op (Y.op_addK (K := K) rfl) (pe_op Y.op_mul pe_int (pv 1)) pe_int) (pa_cons (pv 6) (pa_cons (pv 3) (pa_cons (pv 4) (pa_cons (pv 5) pa_nil))))))) pa_nil)) Y.app_i))) pss_nil)
  (pss_one (ps_ret (Y.pe_tu (pa_cons (Y.pe_sumG (Y.pgen_gxN (k := 16) (own := [("row", 8)]) (hr.mono (by omega)) T.tb_Segments_told_under rfl T.tm_Segments_told_under T.tu_Segments_told_under sc_Segments_told_under.nd (Y.pi_seqK (K := K) rfl (pv 7)) (blkOk_by (own := [("row", 8)]) (N := N_Segments_told_under) (sc := defScope s_Segments_told_under) (by decide +kernel)) (Y.gxOk_by (by decide +kernel)) (fun _ _ _ _ _ _ hr => (pg_name (i := 8) sc_Segments_told_under.nd rfl (Or.inl rfl))) (fun _ _ _ _ _ _ hr => pts_nil) (fun _ _ _ _ _ _ hr => (pe_ix (Y.ixK (K := K) rfl) (pv 8) pe_int (fun _ _ => rfl)))) (hr.mono (by omega)) rfl T.no_sum) (pa_cons (Y.pe_minG (Y.pgen_gxN (k := 16) (own := [("row", 8)]) (hr.mono (by omega)) T.tb_Segments_told_under rfl T.tm_Segments_told_under T.tu_Segments_told_under sc_Segments_told_under.nd (Y.pi_seqK (K := K) rfl (pv 7)) (blkOk_by (own := [("row", 8)]) (N := N_Segments_told_under) (sc := defScope s_Segments_told_under) (by decide +kernel)) (Y.gxOk_by (by decide +kernel)) (fun _ _ _ _ _ _ hr => (pg_name (i := 8) sc_Segments_told_under.nd rfl (Or.inl rfl))) (fun _ _ _ _ _ _ hr => pts_nil) (fun _ _ _ _ _ _ hr => (pe_ix (Y.ixK (K := K) rfl) (pv 8) pe_int (fun _ _ => rfl)))) (hr.mono (by omega)) rfl T.no_min) (pa_cons (Y.pe_maxG (Y.pgen_gxN (k := 16) (own := [("row", 8)]) (hr.mono (by omega)) T.tb_Segments_told_under rfl T.tm_Segments_told_under T.tu_Segments_told_under sc_Segments_told_under.nd (Y.pi_seqK (K := K) rfl (pv 7)) (blkOk_by (own := [("row", 8)]) (N := N_Segments_told_under) (sc := defScope s_Segments_told_under) (by decide +kernel)) (Y.gxOk_by (by decide +kernel)) (fun _ _ _ _ _ _ hr => (pg_name (i := 8) sc_Segments_told_under.nd rfl (Or.inl rfl))) (fun _ _ _ _ _ _ hr => pts_nil) (fun _ _ _ _ _ _ hr => (pe_ix (Y.ixK (K := K) rfl) (pv 8) pe_int (fun _ _ => rfl)))) (hr.mono (by omega)) rfl T.no_max) pa_nil))))))))))), ?_⟩
  unfold sp_Segments_told_under at h
  split at h
  next t n here e f b =>
    obtain ⟨dn, m, N, L, xs, ⟨dx, ht⟩, ⟨kvs, hd, hL, hN⟩, hz, n1, sg, tb, h0, rfl, e1, bd, fb, fe, hb, h⟩ := h
    have nt : t ≠ dn := fun z => by rw [z, hd] at ht; cases ht
    have l1 := List.length_pos_iff.mpr sg.ne
    obtain ⟨r, er, fr⟩ := sg.row
    obtain ⟨a0, v0, r0⟩ := hN _ _ er
    refine join2 (fun σ G => ¬ (f ≤ here ∧ here + xs.length ≤ b) ∧ G = H ∧ σ = L2.start N_Segments_told_under [V.ref t, V.int n, V.int here, V.int (here + ↑xs.length), V.int f, V.int b]) ?_ ?_
    · rintro σ G ⟨cn, rfl, rfl⟩
      obtain ⟨r, l, k, ys, zs, er, el, ek, rfl, yn, zn, yl, sy, sz, e0, -, fr2⟩ := sg.open n1 (by omega)
      have y1 := List.length_pos_iff.mpr yn
      have z1 := List.length_pos_iff.mpr zn
      rw [List.length_append] at yl bd
      have e4 : (here + ((ys ++ zs).length : Int)) = here + ys.length + zs.length := by rw [List.length_append]; omega
      rw [e4] at fe cn e1
      have em : (here + (here + (ys.length : Int) + zs.length)) / 2 = here + ys.length := by omega
      have em2 : here + (ys.length : Int) - here = ys.length := by omega
      have em3 : here + (ys.length : Int) + zs.length - (here + ys.length) = zs.length := by omega
      have pw := lim_half (d := d) (n := ((ys.length + zs.length : Nat) : Int)) (by omega) bd
      rw [e4]
      walk_at "go"
      refine ⟨dn, m, N, L, r, l, k, ⟨dx, ht⟩, ⟨kvs, hd, hL, hN⟩, by omega, n1, er, el, ek, h0, by omega, by omega, fun H1 c3 rp1 => ?_⟩
      rw [em, em2, em3] at rp1
      have fr' : Fits r.s r.mn r.mx (ys ++ zs) := by
        obtain ⟨r', e', f'⟩ := sg.row
        rw [er] at e'; cases e'; exact f'
      have pt : prt f b here (ys ++ zs) = prt f b here ys ++ prt f b (here + ys.length) zs := prt_app ys here
      dsimp only
      refine join2 (fun σ G' => ∃ a, Chg T.tabs (Y.In [dn]) G G' ∧ Rep G' dn (pshN N n r l k ys.length zs.length) L ∧ G a = none ∧ G' a = some (.lst []) ∧ σ = [some (.ref t), some (.int n), some (.int here), some (.int (here + ys.length + zs.length)), some (.int f), some (.int b), some (.int (here + ys.length)), some (.ref a), none]) ?_ ?_
      · rintro σ G1 ⟨a, c4, rp2, fa, ga, rfl⟩
        refine join2 (fun σ G' => σ = [some (.ref t), some (.int n), some (.int here), some (.int (here + ys.length + zs.length)), some (.int f), some (.int b), some (.int (here + ys.length)), some (.ref a), none] ∧ ∃ N2 parts, Chg T.tabs (Y.In [dn]) G G' ∧ Rep G' dn N2 L ∧ Seg N2 (2 * n) ys ∧ Seg N2 (2 * n + 1) zs ∧ N2 n = some (flat r) ∧ (∀ i, ¬ Und n i → N2 i = N i) ∧ RowsOf G' a parts ∧ (f < here + ys.length → parts ≠ []) ∧ parts.length ≤ 1 ∧ parts.flatten = prt f b here ys) ?_ ?_
        · rintro σ G2 ⟨rfl, N2, parts, c5, rp3, sy2, sz2, e2, k2, ro, pe, pl, pf⟩
          refine join2 (fun σ G' => σ = [some (.ref t), some (.int n), some (.int here), some (.int (here + ys.length + zs.length)), some (.int f), some (.int b), some (.int (here + ys.length)), some (.ref a), none] ∧ ∃ N2 parts, Chg T.tabs (Y.In [dn]) G G' ∧ Rep G' dn N2 L ∧ Seg N2 (2 * n) ys ∧ Seg N2 (2 * n + 1) zs ∧ N2 n = some (flat r) ∧ (∀ i, ¬ Und n i → N2 i = N i) ∧ RowsOf G' a parts ∧ parts ≠ [] ∧ parts.flatten = prt f b here (ys ++ zs)) ?_ ?_
          · rintro σ G3 ⟨rfl, N3, parts, c6, rp4, sy3, sz3, e3, k3, ⟨rs, trip, g3, a3, f3⟩, pn, pf⟩
            have sgf : Seg N3 n (ys ++ zs) := .node (r := flat r) e3 sy3 sz3 yn yl (by rw [lz_none rfl rfl]) fr'
            obtain ⟨q1, q2, q3⟩ := cols_fit f3
            have ln : rs.length = trip.length := a3.len
            have col : ∀ (c : Int) (g : Int × Int × Int → Int) (G4 : Hp), Chg T.tabs nil G3 G4 → (∀ q : Int × Int × Int, atI [V.int q.1, V.int q.2.1, V.int q.2.2] c = some (.int (g q))) → ∀ (i : Nat) (x : V), rs[i]? = some x → ∃ (p : Addr) (ts : List V) (y : Int), x = .ref p ∧ G4 p = some (.tup ts) ∧ (trip.map g)[i]? = some y ∧ atI ts c = some (.int y) := by
              intro c g G4 c7 hg i x hx
              obtain ⟨q, hq, p, e, z⟩ := a3.getL hx
              exact ⟨p, _, g q, e, c7.look z id rfl, by rw [List.getElem?_map, hq]; rfl, hg q⟩
            have t0 : 0 < trip.length := by
              have := f3.len
              have := List.length_pos_iff.mpr pn
              omega
            have fz : G a = none := fa
            walk_at "go"
            refine ⟨c6.tabs tb, fun G4 g4 => ?_⟩
            have c7 : Chg T.tabs nil G3 G4 := .ofGrows g4
            refine ⟨(trip.map (·.1)).map V.int, fun _ _ => True, fun H' => Chg T.tabs nil G4 H', row_gen (c7.look g3 id rfl) (by simp [ln]) (col 0 (·.1) G4 c7 fun q => rfl), _, rfl, fun G5 c8 => ?_⟩
            have c9 : Chg T.tabs nil G3 G5 := by walk_at "chg"
            have g5 : G5 a = some (.lst rs) := c9.look g3 id rfl
            walk_at "go"
            refine ⟨c9.tabs (c6.tabs tb), fun G6 g6 => ?_⟩
            have cA : Chg T.tabs nil G3 G6 := by walk_at "chg"
            have hA : G6 a = some (.lst rs) := cA.look g3 id rfl
            refine ⟨(trip.map (·.2.1)).map V.int, fun _ _ => True, fun H' => Chg T.tabs nil G6 H', row_gen hA (by simp [ln]) (col 1 (·.2.1) G6 cA fun q => rfl), _, rfl, by simpa using t0, fun G7 vmin cB mm1 mm2 => ?_⟩
            have cC : Chg T.tabs nil G3 G7 := by walk_at "chg"
            have hC : G7 a = some (.lst rs) := cC.look g3 id rfl
            walk_at "go"
            refine ⟨cC.tabs (c6.tabs tb), fun G8 g8 => ?_⟩
            have cD : Chg T.tabs nil G3 G8 := by walk_at "chg"
            have hD : G8 a = some (.lst rs) := cD.look g3 id rfl
            refine ⟨(trip.map (·.2.2)).map V.int, fun _ _ => True, fun H' => Chg T.tabs nil G8 H', row_gen hD (by simp [ln]) (col 2 (·.2.2) G8 cD fun q => rfl), _, rfl, by simpa using t0, fun G9 vmax cE mx1 mx2 => ?_⟩
            have cF : Chg T.tabs nil G3 G9 := by walk_at "chg"
            walk_at "go"
            rename_i pz Gz nz
            have cZ : Chg T.tabs (Y.In [dn]) G G9 := by walk_at "chg"
            exact h pz _ N3 _ _ _ (by walk_at "chg") (rp4.keep (T := T.tabs) (S := nil) (by walk_at "chg") id fun _ _ _ z => z) sgf k3 ⟨by rw [q1, pf], by rw [← pf]; exact q2 _ mm1 mm2, by rw [← pf]; exact q3 _ mx1 mx2⟩ (cZ.dom _ nz.new) nz.at
          · intro N9 hN9
            walk_at "go"
            walk_at "if"
            · intro cc
              obtain ⟨rs, trip, ga2, a3, f3⟩ := ro
              have pl2 : rs.length < sizeLine := lt_line (by have := a3.len; have := f3.len; omega)
              have na : a ≠ dn := by walk_at "ne"
              walk_at "go"
              refine ⟨dn, m, N2, L, zs, ⟨dx, by walk_at "lk"⟩, rp3, hz, by omega, sz2, c5.tabs tb, by omega, rfl, by omega, by omega, fb, fe, cc, fun p G3 N3 s3 mn3 mx3 c6 rp4 s4 k4 ft4 fp hp => ?_⟩
              have ga3 : G3 a = some (.lst rs) := c6.look ga2 (by walk_at "nin") rfl
              refine ⟨rs, ga3, pl2, fun (G4 : Hp) (w4 : Wr G3 a (.lst (rs ++ [.ref p])) G4) => ?_⟩
              have nd : ¬ Y.In [dn] a := by walk_at "nin"
              have ntu : ∀ x ts, G2 x = some (.tup ts) → ¬ Y.In [dn] x := fun x ts e z => by
                obtain ⟨kv2, gd, -⟩ := rp3
                obtain rfl : x = dn := by simpa [Y.In] using z
                rw [gd] at e; cases e
              have pa : p ≠ a := fun z => by rw [z, ga2] at fp; cases fp
              have w4c : Chg T.tabs (Y.In [a]) G3 G4 := w4.chg (by simp)
              walk_at "go"
              refine hN9 _ _ ⟨rfl, N3, parts ++ [prt f b (here + ys.length) zs], by walk_at "chg", ?_, sy2.keep fun i u => k4 i fun z => Und.apart n1 u z, s4, (k4 n fun z => (by have := z.ge (by omega); omega)).trans e2, fun i hi => (k4 i fun z => hi (.hi z)).trans (k2 i hi), ?_, by simp, ?_⟩
              · refine rp4.keep w4c ?_ ?_
                · exact fun z => na (Eq.symm (by simpa [Y.In] using z))
                · intro x r9 e z
                  obtain rfl : x = a := by simpa [Y.In] using z
                  rw [ga3] at e
                  cases a3 with
                  | nil => simp at e
                  | cons q _ => obtain ⟨p9, rfl, -⟩ := q; simp at e
              · refine ⟨rs ++ [.ref p], trip ++ [(s3, mn3, mx3)], w4.at, (a3.imp fun x q z => (z.keep c6 ntu).keep w4c fun x ts e z => ?_).snoc ⟨p, rfl, w4.look hp pa⟩, f3.snoc ft4⟩
                obtain rfl : x = a := by simpa [Y.In] using z
                rw [ga3] at e; cases e
              · rw [List.flatten_append, pf, pt]; simp
            · intro cc
              walk_at "go"
              refine hN9 _ _ ⟨rfl, N2, parts, c5, rp3, sy2, sz2, e2, k2, ro, ?_, ?_⟩
              · exact pe (by omega)
              · rw [pf, pt, prt_none zs _ (.inl (by omega))]; simp
        · intro N9 hN9
          walk_at "go"
          walk_at "if"
          · intro cc
            have na : a ≠ dn := by
              obtain ⟨kv2, gd, -⟩ := rp2
              walk_at "ne"
            have nd : ¬ Y.In [dn] a := by walk_at "nin"
            walk_at "go"
            refine ⟨dn, m, _, L, ys, ⟨dx, by walk_at "lk"⟩, rp2, hz, by omega, sy, c4.tabs tb, h0, rfl, by omega, by omega, fb, cc, hb, fun p G3 N3 s3 mn3 mx3 c6 rp4 s4 k4 ft4 fp hp => ?_⟩
            have ga3 : G3 a = some (.lst []) := c6.look ga nd rfl
            refine ⟨[], ga3, by decide, fun (G4 : Hp) (w4 : Wr G3 a (.lst ([] ++ [.ref p])) G4) => ?_⟩
            have pa : p ≠ a := fun z => by rw [z, ga] at fp; cases fp
            have w4c : Chg T.tabs (Y.In [a]) G3 G4 := w4.chg (by simp)
            walk_at "go"
            refine hN9 _ _ ⟨rfl, N3, [prt f b here ys], by walk_at "chg", ?_, s4, sz.keep fun i u => k4 i fun z => Und.apart n1 z u, (k4 n fun z => (by have := z.ge (by omega); omega)).trans e0, fun i hi => (k4 i fun z => hi (.lo z)).trans (fr2 i hi), ?_, fun _ => by simp, by simp, by simp⟩
            · refine rp4.keep w4c ?_ ?_
              · exact fun z => na (Eq.symm (by simpa [Y.In] using z))
              · intro x r9 e z
                obtain rfl : x = a := by simpa [Y.In] using z
                rw [ga3] at e
                simp at e
            · exact ⟨[.ref p], [(s3, mn3, mx3)], w4.at, .cons ⟨p, rfl, w4.look hp pa⟩ .nil, .cons ft4 .nil⟩
          · intro cc
            walk_at "go"
            exact hN9 _ _ ⟨rfl, _, [], c4, rp2, sy, sz, e0, fr2, ⟨[], [], ga, .nil, .nil⟩, fun z => absurd z cc, by simp, by rw [prt_none ys _ (.inr (by omega))]; rfl⟩
      · intro N1 hN1
        have rp2 : ∀ G', Chg T.tabs nil H1 G' → Rep G' dn (pshN N n r l k ys.length zs.length) L := fun G' c => rp1.keep c id (fun _ _ _ z => z)
        walk_at "go"
        rename_i a G1 n9
        exact hN1 _ _ ⟨a, by walk_at "chg", rp2 _ (by walk_at "chg"), by walk_at "fr", n9.at, by
          show [some (V.ref t), some (V.int n), some (V.int here), some (V.int (here + ↑ys.length + ↑zs.length)), some (V.int f), some (V.int b), some (V.int ((here + (here + ↑ys.length + ↑zs.length)) / 2)), some (V.ref a), none] = _
          rw [em]⟩
    · intro N0 hN0
      walk_at "go"
      walk_at "if"
      · intro c1
        walk_at "go"
        walk_at "if"
        · intro c2
          walk_at "go"
          rename_i l H1 n1' p H2 n2'
          refine h p _ N _ _ _ (by walk_at "chg") (Rep.keep (T := T.tabs) (S := nil) ⟨kvs, hd, hL, hN⟩ (by walk_at "chg") id fun _ _ _ z => z) sg (fun i _ => rfl) ?_ (by walk_at "fr") n2'.at
          rw [prt_all _ _ c1 c2]
          exact fr
        · intro c2
          walk_at "go"
          exact hN0 _ _ ⟨by omega, rfl, rfl⟩
      · intro c1
        walk_at "go"
        exact hN0 _ _ ⟨by omega, rfl, rfl⟩
  next => exact h.elim
end
end Z


set_option Elab.async false
set_option linter.all false
set_option maxRecDepth 100000
set_option maxHeartbeats 4000000
set_option pp.maxSteps 1500
namespace Z
open PySem PySem.Spec L2 LamX Y
local macro_rules | `(tactic| walk_at "lk") => `(tactic| first
  | assumption
  | exact Nw.at (by assumption)
  | exact Wr.at (by assumption)
  | exact Mkd.at (by assumption)
  | exact Nw.look (by assumption) (by walk_at "lk")
  | exact Mkd.look (by assumption) (by walk_at "lk")
  | exact Wr.look (by assumption) (by walk_at "lk") (by walk_at "ne")
  | exact Chg.look (by assumption) (by walk_at "lk") (by walk_at "nin") rfl
  | exact Tp.same (by assumption) _ _ (by walk_at "lk")
  | exact Grows.look (by assumption) (by walk_at "lk") rfl
  | fail)
local macro_rules | `(tactic| walk_at "ne") => `(tactic| first
  | assumption
  | exact Ne.symm (by assumption)
  | exact Nw.ne (by assumption) (by walk_at "lk")
  | exact Ne.symm (Nw.ne (by assumption) (by walk_at "lk"))
  | exact ne_fr (by assumption) (by walk_at "lk")
  | exact Ne.symm (ne_fr (by assumption) (by walk_at "lk"))
  | exact ne_fr (Mkd.nx (by assumption)) (by walk_at "lk")
  | exact Ne.symm (ne_fr (Mkd.nx (by assumption)) (by walk_at "lk"))
  | exact ne_kdn (by assumption) (by walk_at "lk") rfl
  | exact Ne.symm (ne_kdn (by assumption) (by walk_at "lk") rfl)
  | fail)
local macro_rules | `(tactic| walk_at "nin") => `(tactic| first
  | exact nin_nil
  | exact id
  | exact nin_cons (by walk_at "ne") (by walk_at "nin")
  | fail)
local macro_rules | `(tactic| walk_at "fr") => `(tactic| first
  | assumption
  | exact Nw.new (by assumption)
  | exact Mkd.nx (by assumption)
  | exact Nw.dom (by assumption) (by walk_at "fr")
  | exact Wr.dom (by assumption) (by walk_at "fr")
  | exact Mkd.dom (by assumption) (by walk_at "fr")
  | exact Chg.dom (by assumption) _ (by walk_at "fr")
  | exact Tp.dom (by assumption) _ (by walk_at "fr")
  | exact Grows.dom (by assumption) _ (by walk_at "fr")
  | fail)
local macro_rules | `(tactic| walk_at "mem") => `(tactic| first
  | assumption
  | exact List.mem_cons_self
  | (apply List.mem_cons_of_mem; walk_at "mem")
  | fail)
local macro_rules | `(tactic| walk_at "in") => `(tactic| first
  | assumption
  | (apply Or.inl; walk_at "mem")
  | (apply Or.inr; walk_at "fr")
  | fail)
local macro_rules | `(tactic| walk_at "sub") => `(tactic| first
  | exact sub_nil0
  | exact sub_nil
  | exact sub_cons (by walk_at "in") (by walk_at "sub")
  | fail)
local macro_rules | `(tactic| walk_at "chg") => `(tactic| first
  | assumption
  | exact Chg.refl _
  | exact Chg.nw (by assumption) (by walk_at "chg")
  | exact Chg.mkd (by assumption) (by walk_at "chg")
  | exact Chg.tp (by assumption) (by walk_at "chg")
  | exact Chg.gr (by assumption) (by walk_at "chg")
  | exact Chg.wr (by assumption) (by walk_at "chg") (by walk_at "in")
  | exact Chg.ch (by assumption) (by walk_at "chg") (by walk_at "sub")
  | fail)
local macro_rules | `(tactic| walk_at "sq") => `(tactic| first
  | assumption
  | exact SqL.of (by walk_at "lk")
  | exact Chg.seqL (by assumption) (by walk_at "sq") (by walk_at "nin")
  | exact SqL.nw (by assumption) (by walk_at "sq")
  | exact SqL.tp (by assumption) (by walk_at "sq")
  | exact SqL.mkd (by assumption) (by walk_at "sq")
  | exact SqL.wr (by assumption) (by walk_at "sq") (by walk_at "ne")
  | fail)
local macro_rules | `(tactic| walk_at "sqt") => `(tactic| first
  | assumption
  | exact SqT.of (by walk_at "lk")
  | exact Tp.sq (by assumption)
  | exact SqT.nw (by assumption) (by walk_at "sqt")
  | exact SqT.tp (by assumption) (by walk_at "sqt")
  | exact SqT.mkd (by assumption) (by walk_at "sqt")
  | exact SqT.chg (by assumption) (by walk_at "sqt") (by walk_at "nin")
  | fail)
local macro_rules | `(tactic| walk_at "seq") => `(tactic| first
  | assumption
  | exact .inl (by walk_at "sq")
  | exact .inr (by walk_at "sqt")
  | exact SqA.keepN (T := Env.tabs (by assumption)) (by assumption) (by walk_at "chg")
  | fail)
local macro_rules | `(tactic| walk_at "go") => `(tactic| repeat first
  | refine ⟨_, rfl, ?_⟩
  | refine ⟨_, _, _, _, rfl, And.intro (by walk_at "lk") (And.intro rfl ?_)⟩
  | refine ⟨_, _, _, rfl, And.intro (by walk_at "lk") (And.intro (by walk_at "side") ?_)⟩
  | refine ⟨_, _, And.intro rfl (And.intro rfl ?_)⟩
  | refine ⟨_, _, And.intro rfl (And.intro (by walk_at "lk") ?_)⟩
  | refine ⟨_, _, _, And.intro rfl (And.intro (by walk_at "lk") ?_)⟩
  | refine ⟨_, And.intro (by walk_at "lk") (And.intro (by walk_at "side") ?_)⟩
  | refine ⟨_, _, And.intro (by walk_at "lk") (And.intro (by walk_at "side") ?_)⟩
  | refine ⟨_, _, And.intro (by walk_at "seq") (And.intro rfl ?_)⟩
  | refine ⟨_, _, And.intro (by walk_at "seq") (And.intro (by assumption) ?_)⟩
  | refine ⟨_, And.intro (by walk_at "seq") ?_⟩
  | refine ⟨_, And.intro (by walk_at "lk") (And.intro (by walk_at "side") (And.intro (by walk_at "side") (And.intro (by walk_at "side") ?_)))⟩
  | refine .inl ⟨_, _, And.intro (by walk_at "lk") (And.intro (by walk_at "lk") (And.intro (by walk_at "side") ?_))⟩
  | refine .inr ⟨_, _, And.intro (by walk_at "sqt") (And.intro (by walk_at "sqt") (And.intro (by walk_at "side") ?_))⟩
  | refine .inl ⟨_, And.intro (by walk_at "sq") ?_⟩
  | refine .inr ⟨_, And.intro (by walk_at "sqt") ?_⟩
  | refine ⟨_, _, _, _, rfl, rfl, And.intro (by walk_at "lk") (And.intro rfl ?_)⟩
  | refine ⟨_, _, _, _, rfl, rfl, And.intro (by walk_at "lk") (And.intro (by walk_at "key") ?_)⟩
  | refine ⟨_, _, _, rfl, rfl, And.intro (by walk_at "lk") (And.intro (by walk_at "side") ?_)⟩
  | refine fun H' (n : Wr _ _ _ H') => ?_
  | refine fun p H' (n : Nw _ p _ H') => ?_
  | refine fun r H' (n : Tp _ _ r _ H') => ?_
  | refine fun x dx H' (n : Mkd _ _ x dx H') => ?_
  | refine .inl ⟨_, _, rfl, And.intro (by walk_at "sq") (fun p H' (n : Nw _ p _ H') => ?_)⟩
  | refine .inr ⟨_, _, rfl, And.intro (by walk_at "sqt") (fun r H' (n : Tp _ _ r _ H') => ?_)⟩
  | refine ⟨_, _, rfl, And.intro (by walk_at "sq") (fun p H' (n : Nw _ p _ H') => ?_)⟩
  | refine .inl (And.intro ⟨_, by walk_at "sq"⟩ ?_)
  | refine .inr (And.intro ⟨_, by walk_at "sqt"⟩ ?_)
  | refine ⟨_, _, rfl, And.intro (by walk_at "sqt") (And.intro rfl ?_)⟩
  | refine ⟨_, _, And.intro rfl ?_⟩
  | refine ⟨_, _, _, And.intro rfl ?_⟩
  | refine And.intro rfl ?_
  | (refine ite_t ?_ ?_; exact rfl)
  | (refine ite_f ?_ ?_; exact rfl)
  | refine And.intro (by walk_at "side") ?_)
local macro_rules | `(tactic| walk_at "side") => `(tactic| first
  | exact (rfl : _ = _)
  | decide
  | exact lt1000 rfl
  | with_reducible assumption
  | exact ⟨by omega, by omega⟩
  | exact .inl ⟨by omega, by omega⟩
  | exact .inr ⟨by omega, by omega⟩
  | omega
  | (apply le_line; omega)
  | (apply lt_line; omega)
  | (apply le_line; simp <;> omega)
  | (apply lt_line; simp <;> omega)
  | fail)
local macro_rules | `(tactic| walk_at "if") => `(tactic| first
  | refine ite_nd ?_ ?_
  | refine ite_d ?_ ?_
  | refine ite_eqt ?_ ?_
  | fail)
local macro_rules | `(tactic| walk_at "roll") => `(tactic| first
  | (refine And.intro (show Dice _ _ from ⟨_, _, _, by walk_at "lk"⟩) (And.intro (by walk_at "side") (And.intro (by walk_at "side") (fun r H' r0 r1 ro => ?_))); obtain ⟨a', b', c', w⟩ := ro)
  | fail)
local macro_rules | `(tactic| walk_at "run") => `(tactic| (walk_at "go"; repeat (walk_at "roll"; walk_at "go")))
local macro_rules | `(tactic| walk_at "dp") => `(tactic| first
  | exact Dp.non
  | exact Dp.int _
  | exact Dp.str _
  | exact Dp.bl _
  | exact DpAll.nil
  | exact DpAll.cons (by walk_at "dp") (by walk_at "dp")
  | exact Dp.tup (by walk_at "sqt") (by walk_at "dp")
  | exact Dp.lst (by walk_at "sq") (by walk_at "dp")
  | fail)
local macro_rules | `(tactic| walk_at "key") => `(tactic| first
  | assumption
  | fail)

section
variable {w : World} {K : PySem.W.Frag} {mg : Str → Option Value} {base : Heap}
theorem prt_sub {xs : List Int} {f b : Int} (h : 0 ≤ f) (h2 : f ≤ b) : prt f b 0 xs = sub xs f b := by
  rw [prt_cut xs 0 h h2, Int.sub_zero]; rfl
theorem SegAt.keep {T : Env w K mg base} {H H' : Hp} {t dn : Addr} {xs : List Int} {S : Addr → Prop} (h : SegAt T H t dn xs) (c : Chg T.tabs S H H') (n1 : ¬ S t) (n2 : ¬ S dn) (n3 : ∀ a r, H a = some (.lst (rowV r)) → ¬ S a) : SegAt T H' t dn xs :=
  let ⟨N, L, ⟨dx, ht⟩, rp, hz, sg, l9⟩ := h
  ⟨N, L, ⟨dx, c.look ht n1 rfl⟩, rp.keep c n2 n3, hz, sg, l9⟩
def sp_Segments_told_in (T : Env w K mg base) : Sp := fun vs H Q E => match vs with
  | [.ref t, .int f, .int b] => ∃ dn xs, SegAt T H t dn xs ∧ Tabs T.tabs H ∧ (¬ (0 ≤ f ∧ f < b ∧ b ≤ (xs.length : Int)) → E (.ref T.C_SegmentError) none H) ∧
    (0 ≤ f → f < b → b ≤ (xs.length : Int) → ∀ p H' s mn mx, Chg T.tabs (Y.In [dn]) H H' → SegAt T H' t dn xs → Fits s mn mx (sub xs f b) → H p = none → H' p = some (.tup [.int s, .int mn, .int mx]) → Q (.ref p) H')
  | _ => False
theorem ok_Segments_told_in (T : Env w K mg base) : FnOk prg w K mg base (L2.CX prg w) 80 T.f_Segments_told_in T.fd_Segments_told_in ["self", "first", "behind"] (sp_Segments_told_in T) := by
  refine T.F_Segments_told_in.ok sc_Segments_told_in (fun vs H Q E h => by unfold sp_Segments_told_in at h; split at h <;> first | rfl | exact h.elim) fun A outer s H vs Q E hr h => ?_
  refine ⟨_, (pss_cons (ps_expr (pe_meth (pv 0) T.cl_Segments T.me_Segments_check_part (ok_Segments_check_part T) (hr.mono (by decide)) T.b_Segments_check_part .nil (Y.passD rfl rfl rfl rfl) (pa_cons (pv 1) (pa_cons (pv 2) pa_nil))))
  (pss_one (ps_ret (pe_meth (pv 0) T.cl_Segments T.me_Segments_told_under (ok_Segments_told_under T 6) (hr.mono (by decide)) T.b_Segments_told_under .nil (Y.passD rfl rfl rfl rfl) (pa_cons pe_int (pa_cons pe_int (pa_cons (Y.pe_f T.cl_Segments T.na_Segments_many (pv 0)) (pa_cons (pv 1) (pa_cons (pv 2) pa_nil))))))))), ?_⟩
  unfold sp_Segments_told_in at h
  split at h
  next t f b =>
    obtain ⟨dn, xs, ⟨N, L, ⟨dx, ht⟩, ⟨kvs, hd, hL, hN⟩, hz, sg, l9⟩, tb, hE, h⟩ := h
    have nt : t ≠ dn := fun z => by rw [z, hd] at ht; cases ht
    walk_at "go"
    refine ⟨dn, _, ⟨dx, ht⟩, hE, fun f0 f1 f2 => ?_⟩
    walk_at "go"
    refine ⟨dn, _, N, L, xs, ⟨dx, ht⟩, ⟨kvs, hd, hL, hN⟩, hz, by omega, sg, tb, by omega, by omega, by omega, by have : lim 6 = 32 := rfl; omega, f1, by omega, by omega, fun p H' N' s mn mx c rp s' _ ft fp hp => ?_⟩
    rw [prt_sub f0 (by omega)] at ft
    exact h f0 f1 f2 p _ s mn mx c ⟨N', L, ⟨dx, by walk_at "lk"⟩, rp, hz, s', l9⟩ ft fp hp
  next => exact h.elim
theorem fits_at {xs : List Int} {i : Nat} {s mn mx : Int} (h : i < xs.length) (f : Fits s mn mx (sub xs i (i + 1))) : s = xs[i] := by
  rw [sub_one (x := xs[i]) (by omega) (by simp [List.getElem?_eq_getElem h])] at f
  simpa using f.1
def sp_Segments_all_values (T : Env w K mg base) : Sp := fun vs H Q E => match vs with
  | [.ref t] => ∃ dn xs, SegAt T H t dn xs ∧ Tabs T.tabs H ∧ ∀ p H', Chg T.tabs (Y.In [dn]) H H' → SegAt T H' t dn xs → H p = none → H' p = some (.tup (xs.map V.int)) → Q (.ref p) H'
  | _ => False
theorem ok_Segments_all_values (T : Env w K mg base) : FnOk prg w K mg base (L2.CX prg w) 88 T.f_Segments_all_values T.fd_Segments_all_values ["self"] (sp_Segments_all_values T) := by
  refine T.F_Segments_all_values.ok sc_Segments_all_values (fun vs H Q E h => by unfold sp_Segments_all_values at h; split at h <;> first | rfl | exact h.elim) fun A outer s H vs Q E hr h => ?_
  refine ⟨_, (pss_one (ps_ret (Y.pe_tupG (Y.pgen_gx (k := 80) (own := [("place", 1)]) (hr.mono (by decide)) T.tb_Segments_all_values rfl T.tm_Segments_all_values T.tu_Segments_all_values sc_Segments_all_values.nd (pi_range1 rfl T.no_range (pa_cons (Y.pe_f T.cl_Segments T.na_Segments_many (pv 0)) pa_nil)) (blkOk_by (own := [("place", 1)]) (N := N_Segments_all_values) (sc := defScope s_Segments_all_values) (by decide +kernel)) (Y.gxOk_by (by decide +kernel)) (fun _ _ _ _ _ _ hr => (pg_name (i := 1) sc_Segments_all_values.nd rfl (Or.inl rfl))) (fun _ _ _ _ _ _ hr => pts_nil) (fun _ _ _ _ _ _ hr => (pe_ix (Y.ixK (K := K) rfl) (pe_meth (pv 0) T.cl_Segments T.me_Segments_told_in (ok_Segments_told_in T) (hr.mono (by decide)) T.b_Segments_told_in .nil Y.passN (pa_cons (pv 1) (pa_cons (pe_op (Y.op_addK (K := K) rfl) (pv 1) pe_int) pa_nil))) pe_int (fun _ _ => rfl)))) (hr.mono (by decide)) rfl T.no_tuple))), ?_⟩
  unfold sp_Segments_all_values at h
  split at h
  next t =>
    obtain ⟨dn, xs, sa, tb, h⟩ := h
    have sa' := sa
    obtain ⟨N, L, ⟨dx, ht⟩, ⟨kvs, hd, hL, hN⟩, hz, sg, l9⟩ := sa'
    walk_at "go"
    intro G g
    have e1 : (xs.length : Int).toNat = xs.length := by omega
    rw [e1]
    have cG : Chg T.tabs nil H G := .ofGrows g
    have saG : SegAt T G t dn xs := sa.keep cG id id fun _ _ _ z => z
    refine gxr (fun i ys H' => Chg T.tabs (Y.In [dn]) G H' ∧ SegAt T H' t dn xs ∧ ys = (xs.take i).map V.int) ⟨.refl _, saG, rfl⟩ ?_ ?_
    · rintro ys H' ⟨c, sa2, rfl⟩
      refine nw_all fun r H3 n => ?_
      rw [List.take_length] at n
      exact h r H3 (by walk_at "chg") (sa2.keep n.chg (T := T) (S := nil) id id fun _ _ _ z => z) (by walk_at "fr") (by walk_at "lk")
    · rintro i ys H' hi ⟨c, sa2, rfl⟩ Nx Sk hN hS
      walk_at "go"
      refine ⟨dn, xs, sa2, c.tabs (cG.tabs tb), fun z => absurd ⟨by omega, by omega, by omega⟩ z, fun f0 f1 f2 p H3 s mn mx c3 sa3 ft fp hp => ?_⟩
      rw [Int.zero_add] at ft
      have := fits_at hi ft
      subst this
      walk_at "go"
      refine hN _ _ ?_ ⟨by walk_at "chg", sa3, ?_⟩
      · simp only [List.length_map, List.length_take]; exact Nat.lt_of_le_of_lt (Nat.min_le_right _ _) (lt_line (by omega))
      · rw [List.take_add_one, List.getElem?_eq_getElem hi, List.map_append]; rfl
  next => exact h.elim
/-- hit: what the search looks for, by the end of the part from s on -/
def sp_Segments_first_above (T : Env w K mg base) : Sp := fun vs H Q E => match vs with
  | [.ref t, .int s, .int v] => ∃ dn xs, SegAt T H t dn xs ∧ Tabs T.tabs H ∧ (¬ (0 ≤ s ∧ s < (xs.length : Int)) → E (.ref T.C_SegmentError) none H) ∧
    (0 ≤ s → s < (xs.length : Int) → ∀ H', Chg T.tabs (Y.In [dn]) H H' → SegAt T H' t dn xs → ((∀ y ∈ sub xs s xs.length, y ≤ v) → Q .non H') ∧ ∀ k, s ≤ k → k < xs.length → (∀ y ∈ sub xs s k, y ≤ v) → (∃ y ∈ sub xs s (k + 1), v < y) → Q (.int k) H')
  | _ => False
theorem ok_Segments_first_above (T : Env w K mg base) : FnOk prg w K mg base (L2.CX prg w) 88 T.f_Segments_first_above T.fd_Segments_first_above ["self", "start", "value"] (sp_Segments_first_above T) := by
  refine T.F_Segments_first_above.ok sc_Segments_first_above (fun vs H Q E h => by unfold sp_Segments_first_above at h; split at h <;> first | rfl | exact h.elim) fun A outer s H vs Q E hr h => ?_
  refine ⟨_, (pss_cons (ps_expr (pe_meth (pv 0) T.cl_Segments T.me_Segments_check_part (ok_Segments_check_part T) (hr.mono (by decide)) T.b_Segments_check_part .nil (Y.passD rfl rfl rfl rfl) (pa_cons (pv 1) (pa_cons (Y.pe_f T.cl_Segments T.na_Segments_many (pv 0)) pa_nil))))
  (pss_cons (ps_if (pt_cmpR Y.op_le (pe_ix (Y.ixK (K := K) rfl) (pe_meth (pv 0) T.cl_Segments T.me_Segments_told_in (ok_Segments_told_in T) (hr.mono (by decide)) T.b_Segments_told_in .nil (Y.passD rfl rfl rfl rfl) (pa_cons (pv 1) (pa_cons (Y.pe_f T.cl_Segments T.na_Segments_many (pv 0)) pa_nil))) pe_int (fun _ _ => rfl)) (pv 2) (nomark _)) (pss_one (ps_ret pe_non)) pss_nil)
  (pss_cons (ps_par (i := 3) (j := 4) (by rfl) sc_Segments_first_above.nd rfl rfl (by decide) rfl rfl (pa_cons (pv 1) (pa_cons (pe_op Y.op_sub (Y.pe_f T.cl_Segments T.na_Segments_many (pv 0)) pe_int) pa_nil)) (by rfl))
  (pss_cons (ps_while (passes_of rfl) (pt_cmpR Y.op_lt (pv 3) (pv 4) (nomark _)) (pss_cons (ps_set (i := 5) sc_Segments_first_above.nd rfl (Or.inl rfl) (pe_op Y.op_fdiv (pe_op (Y.op_addK (K := K) rfl) (pv 3) (pv 4)) pe_int))
  (pss_cons (ps_set (i := 6) sc_Segments_first_above.nd rfl (Or.inl rfl) (pe_cmpR Y.op_gt (pe_ix (Y.ixK (K := K) rfl) (pe_meth (pv 0) T.cl_Segments T.me_Segments_told_in (ok_Segments_told_in T) (hr.mono (by decide)) T.b_Segments_told_in .nil (Y.passD rfl rfl rfl rfl) (pa_cons (pv 1) (pa_cons (pe_op (Y.op_addK (K := K) rfl) (pv 5) pe_int) pa_nil))) pe_int (fun _ _ => rfl)) (pv 2) (nomark _)))
  (pss_cons (ps_set (i := 4) sc_Segments_first_above.nd rfl (Or.inl rfl) (pe_ifExp (pt_truth (pv 6) (by intro _; rfl)) (pv 5) (pv 4)))
  (pss_one (ps_set (i := 3) sc_Segments_first_above.nd rfl (Or.inl rfl) (pe_ifExp (pt_truth (pv 6) (by intro _; rfl)) (pv 3) (pe_op (Y.op_addK (K := K) rfl) (pv 5) pe_int))))))))
  (pss_one (ps_ret (pv 3))))))), ?_⟩
  unfold sp_Segments_first_above at h
  split at h
  next t s v =>
    obtain ⟨dn, xs, sa, tb, hE, h⟩ := h
    have sa' := sa
    obtain ⟨N, L, ⟨dx, ht⟩, ⟨kvs, hd, hL, hN⟩, hz, sg, l9⟩ := sa'
    have nt : t ≠ dn := by walk_at "ne"
    walk_at "go"
    refine ⟨dn, _, ⟨dx, ht⟩, fun z => hE (by omega), fun f0 f1 f2 => ?_⟩
    have h := h f0 f1
    walk_at "go"
    refine fun _ _ _ p H1 s1 mn mx c1 sa1 ft fp hp => ?_
    walk_at "go"
    walk_at "if"
    · intro cc
      walk_at "go"
      exact (h _ c1 sa1).1 fun y hy => Int.le_trans (ft.2.2.2 y hy) cc
    · intro cc
      walk_at "go"
      dsimp only
      have top : ∃ y ∈ sub xs s ((xs.length : Int) - 1 + 1), v < y := ⟨mx, by rw [Int.sub_add_cancel]; exact ft.2.2.1, by omega⟩
      have bot : ∀ y ∈ sub xs s s, y ≤ v := fun y hy => by simp [sub] at hy
      refine join2 (fun σ G => ∃ k x5 x6, σ = [some (.ref t), some (.int s), some (.int v), some (.int k), some (.int k), x5, x6] ∧ Chg T.tabs (Y.In [dn]) H G ∧ SegAt T G t dn xs ∧ s ≤ k ∧ k < xs.length ∧ (∀ y ∈ sub xs s k, y ≤ v) ∧ ∃ y ∈ sub xs s (k + 1), v < y) ?_ ?_
      · rintro σ G ⟨k, x5, x6, rfl, c2, sa2, k0, k1, k2, k3⟩
        walk_at "go"
        exact (h _ c2 sa2).2 k k0 k1 k2 k3
      · intro N0 hN0
        refine while_n (fun σ G => ∃ lo hi x5 x6, σ = [some (.ref t), some (.int s), some (.int v), some (.int lo), some (.int hi), x5, x6] ∧ Chg T.tabs (Y.In [dn]) H G ∧ SegAt T G t dn xs ∧ s ≤ lo ∧ lo ≤ hi ∧ hi < xs.length ∧ (∀ y ∈ sub xs s lo, y ≤ v) ∧ ∃ y ∈ sub xs s (hi + 1), v < y)
          (fun σ _ => match σ with | [_, _, _, some (.int lo), some (.int hi), _, _] => (hi - lo).toNat | _ => 0) ⟨s, xs.length - 1, none, none, rfl, c1, sa1, by omega, by omega, by omega, bot, top⟩ ?_
        rintro σ G ⟨lo, hi, x5, x6, rfl, c2, sa2, k0, k1, k2, k3, k4⟩
        walk_at "go"
        walk_at "if"
        · intro cc
          refine wh_step ?_
          walk_at "go"
          refine ⟨dn, xs, sa2, c2.tabs tb, fun z => absurd ⟨f0, by omega, by omega⟩ z, fun _ _ _ p2 G2 s2 mn2 mx2 c3 sa3 ft2 fp2 hp2 => ?_⟩
          walk_at "go"
          walk_at "if"
          · intro cd
            have cd' : v < mx2 := by simpa using cd
            walk_at "go"
            walk_at "if"
            · intro ce
              walk_at "go"
              exact ⟨⟨lo, (lo + hi) / 2, _, _, rfl, by walk_at "chg", sa3, by omega, by omega, by omega, k3, mx2, ft2.2.2.1, cd'⟩, by show ((lo + hi) / 2 - lo).toNat < (hi - lo).toNat; omega⟩
            · intro ce
              exact absurd cd ce
          · intro cd
            have cd' : mx2 ≤ v := by simpa using cd
            walk_at "go"
            walk_at "if"
            · intro ce
              exact absurd ce cd
            · intro ce
              walk_at "go"
              exact ⟨⟨(lo + hi) / 2 + 1, hi, _, _, rfl, by walk_at "chg", sa3, by omega, by omega, by omega, fun y hy => Int.le_trans (ft2.2.2.2 y hy) cd', k4⟩, by show (hi - ((lo + hi) / 2 + 1)).toNat < (hi - lo).toNat; omega⟩
        · intro cc
          have : lo = hi := by omega
          subst this
          exact hN0 _ _ ⟨lo, x5, x6, rfl, c2, sa2, k0, k2, k3, k4⟩
  next => exact h.elim
end
end Z


set_option Elab.async false
set_option linter.all false
set_option maxRecDepth 100000
set_option maxHeartbeats 4000000
set_option pp.maxSteps 1500
namespace Z
open PySem PySem.Spec L2 LamX Y
local macro_rules | `(tactic| walk_at "lk") => `(tactic| first
  | assumption
  | exact Nw.at (by assumption)
  | exact Wr.at (by assumption)
  | exact Mkd.at (by assumption)
  | exact Nw.look (by assumption) (by walk_at "lk")
  | exact Mkd.look (by assumption) (by walk_at "lk")
  | exact Wr.look (by assumption) (by walk_at "lk") (by walk_at "ne")
  | exact Chg.look (by assumption) (by walk_at "lk") (by walk_at "nin") rfl
  | exact Tp.same (by assumption) _ _ (by walk_at "lk")
  | exact Grows.look (by assumption) (by walk_at "lk") rfl
  | fail)
local macro_rules | `(tactic| walk_at "ne") => `(tactic| first
  | assumption
  | exact Ne.symm (by assumption)
  | exact Nw.ne (by assumption) (by walk_at "lk")
  | exact Ne.symm (Nw.ne (by assumption) (by walk_at "lk"))
  | exact ne_fr (by assumption) (by walk_at "lk")
  | exact Ne.symm (ne_fr (by assumption) (by walk_at "lk"))
  | exact ne_fr (Mkd.nx (by assumption)) (by walk_at "lk")
  | exact Ne.symm (ne_fr (Mkd.nx (by assumption)) (by walk_at "lk"))
  | exact ne_kdn (by assumption) (by walk_at "lk") rfl
  | exact Ne.symm (ne_kdn (by assumption) (by walk_at "lk") rfl)
  | fail)
local macro_rules | `(tactic| walk_at "nin") => `(tactic| first
  | exact nin_nil
  | exact id
  | exact nin_cons (by walk_at "ne") (by walk_at "nin")
  | fail)
local macro_rules | `(tactic| walk_at "fr") => `(tactic| first
  | assumption
  | exact Nw.new (by assumption)
  | exact Mkd.nx (by assumption)
  | exact Nw.dom (by assumption) (by walk_at "fr")
  | exact Wr.dom (by assumption) (by walk_at "fr")
  | exact Mkd.dom (by assumption) (by walk_at "fr")
  | exact Chg.dom (by assumption) _ (by walk_at "fr")
  | exact Tp.dom (by assumption) _ (by walk_at "fr")
  | exact Grows.dom (by assumption) _ (by walk_at "fr")
  | fail)
local macro_rules | `(tactic| walk_at "mem") => `(tactic| first
  | assumption
  | exact List.mem_cons_self
  | (apply List.mem_cons_of_mem; walk_at "mem")
  | fail)
local macro_rules | `(tactic| walk_at "in") => `(tactic| first
  | assumption
  | (apply Or.inl; walk_at "mem")
  | (apply Or.inr; walk_at "fr")
  | fail)
local macro_rules | `(tactic| walk_at "sub") => `(tactic| first
  | exact sub_nil0
  | exact sub_nil
  | exact sub_cons (by walk_at "in") (by walk_at "sub")
  | fail)
local macro_rules | `(tactic| walk_at "chg") => `(tactic| first
  | assumption
  | exact Chg.refl _
  | exact Chg.nw (by assumption) (by walk_at "chg")
  | exact Chg.mkd (by assumption) (by walk_at "chg")
  | exact Chg.tp (by assumption) (by walk_at "chg")
  | exact Chg.gr (by assumption) (by walk_at "chg")
  | exact Chg.wr (by assumption) (by walk_at "chg") (by walk_at "in")
  | exact Chg.ch (by assumption) (by walk_at "chg") (by walk_at "sub")
  | fail)
local macro_rules | `(tactic| walk_at "sq") => `(tactic| first
  | assumption
  | exact SqL.of (by walk_at "lk")
  | exact Chg.seqL (by assumption) (by walk_at "sq") (by walk_at "nin")
  | exact SqL.nw (by assumption) (by walk_at "sq")
  | exact SqL.tp (by assumption) (by walk_at "sq")
  | exact SqL.mkd (by assumption) (by walk_at "sq")
  | exact SqL.wr (by assumption) (by walk_at "sq") (by walk_at "ne")
  | fail)
local macro_rules | `(tactic| walk_at "sqt") => `(tactic| first
  | assumption
  | exact SqT.of (by walk_at "lk")
  | exact Tp.sq (by assumption)
  | exact SqT.nw (by assumption) (by walk_at "sqt")
  | exact SqT.tp (by assumption) (by walk_at "sqt")
  | exact SqT.mkd (by assumption) (by walk_at "sqt")
  | exact SqT.chg (by assumption) (by walk_at "sqt") (by walk_at "nin")
  | fail)
local macro_rules | `(tactic| walk_at "seq") => `(tactic| first
  | assumption
  | exact .inl (by walk_at "sq")
  | exact .inr (by walk_at "sqt")
  | exact SqA.keepN (T := Env.tabs (by assumption)) (by assumption) (by walk_at "chg")
  | fail)
local macro_rules | `(tactic| walk_at "go") => `(tactic| repeat first
  | refine ⟨_, rfl, ?_⟩
  | refine ⟨_, _, _, _, rfl, And.intro (by walk_at "lk") (And.intro rfl ?_)⟩
  | refine ⟨_, _, _, rfl, And.intro (by walk_at "lk") (And.intro (by walk_at "side") ?_)⟩
  | refine ⟨_, _, And.intro rfl (And.intro rfl ?_)⟩
  | refine ⟨_, _, And.intro rfl (And.intro (by walk_at "lk") ?_)⟩
  | refine ⟨_, _, _, And.intro rfl (And.intro (by walk_at "lk") ?_)⟩
  | refine ⟨_, And.intro (by walk_at "lk") (And.intro (by walk_at "side") ?_)⟩
  | refine ⟨_, _, And.intro (by walk_at "lk") (And.intro (by walk_at "side") ?_)⟩
  | refine ⟨_, _, And.intro (by walk_at "seq") (And.intro rfl ?_)⟩
  | refine ⟨_, _, And.intro (by walk_at "seq") (And.intro (by assumption) ?_)⟩
  | refine ⟨_, And.intro (by walk_at "seq") ?_⟩
  | refine ⟨_, And.intro (by walk_at "lk") (And.intro (by walk_at "side") (And.intro (by walk_at "side") (And.intro (by walk_at "side") ?_)))⟩
  | refine .inl ⟨_, _, And.intro (by walk_at "lk") (And.intro (by walk_at "lk") (And.intro (by walk_at "side") ?_))⟩
  | refine .inr ⟨_, _, And.intro (by walk_at "sqt") (And.intro (by walk_at "sqt") (And.intro (by walk_at "side") ?_))⟩
  | refine .inl ⟨_, And.intro (by walk_at "sq") ?_⟩
  | refine .inr ⟨_, And.intro (by walk_at "sqt") ?_⟩
  | refine ⟨_, _, _, _, rfl, rfl, And.intro (by walk_at "lk") (And.intro rfl ?_)⟩
  | refine ⟨_, _, _, _, rfl, rfl, And.intro (by walk_at "lk") (And.intro (by walk_at "key") ?_)⟩
  | refine ⟨_, _, _, rfl, rfl, And.intro (by walk_at "lk") (And.intro (by walk_at "side") ?_)⟩
  | refine fun H' (n : Wr _ _ _ H') => ?_
  | refine fun p H' (n : Nw _ p _ H') => ?_
  | refine fun r H' (n : Tp _ _ r _ H') => ?_
  | refine fun x dx H' (n : Mkd _ _ x dx H') => ?_
  | refine .inl ⟨_, _, rfl, And.intro (by walk_at "sq") (fun p H' (n : Nw _ p _ H') => ?_)⟩
  | refine .inr ⟨_, _, rfl, And.intro (by walk_at "sqt") (fun r H' (n : Tp _ _ r _ H') => ?_)⟩
  | refine ⟨_, _, rfl, And.intro (by walk_at "sq") (fun p H' (n : Nw _ p _ H') => ?_)⟩
  | refine .inl (And.intro ⟨_, by walk_at "sq"⟩ ?_)
  | refine .inr (And.intro ⟨_, by walk_at "sqt"⟩ ?_)
  | refine ⟨_, _, rfl, And.intro (by walk_at "sqt") (And.intro rfl ?_)⟩
  | refine ⟨_, _, And.intro rfl ?_⟩
  | refine ⟨_, _, _, And.intro rfl ?_⟩
  | refine And.intro rfl ?_
  | (refine ite_t ?_ ?_; exact rfl)
  | (refine ite_f ?_ ?_; exact rfl)
  | refine And.intro (by walk_at "side") ?_)
local macro_rules | `(tactic| walk_at "side") => `(tactic| first
  | exact (rfl : _ = _)
  | decide
  | exact lt1000 rfl
  | with_reducible assumption
  | exact ⟨by omega, by omega⟩
  | exact .inl ⟨by omega, by omega⟩
  | exact .inr ⟨by omega, by omega⟩
  | omega
  | (apply le_line; omega)
  | (apply lt_line; omega)
  | (apply le_line; simp <;> omega)
  | (apply lt_line; simp <;> omega)
  | fail)
local macro_rules | `(tactic| walk_at "if") => `(tactic| first
  | refine ite_nd ?_ ?_
  | refine ite_d ?_ ?_
  | refine ite_eqt ?_ ?_
  | fail)
local macro_rules | `(tactic| walk_at "roll") => `(tactic| first
  | (refine And.intro (show Dice _ _ from ⟨_, _, _, by walk_at "lk"⟩) (And.intro (by walk_at "side") (And.intro (by walk_at "side") (fun r H' r0 r1 ro => ?_))); obtain ⟨a', b', c', w⟩ := ro)
  | fail)
local macro_rules | `(tactic| walk_at "run") => `(tactic| (walk_at "go"; repeat (walk_at "roll"; walk_at "go")))
local macro_rules | `(tactic| walk_at "dp") => `(tactic| first
  | exact Dp.non
  | exact Dp.int _
  | exact Dp.str _
  | exact Dp.bl _
  | exact DpAll.nil
  | exact DpAll.cons (by walk_at "dp") (by walk_at "dp")
  | exact Dp.tup (by walk_at "sqt") (by walk_at "dp")
  | exact Dp.lst (by walk_at "sq") (by walk_at "dp")
  | fail)
local macro_rules | `(tactic| walk_at "key") => `(tactic| first
  | assumption
  | fail)

section
variable {w : World} {K : PySem.W.Frag} {mg : Str → Option Value} {base : Heap}
def sp_Segments_reach_from (T : Env w K mg base) : Sp := fun vs H Q E => match vs with
  | [.ref t, .int s, .int v] => ∃ dn xs, SegAt T H t dn xs ∧ Tabs T.tabs H ∧ (¬ (0 ≤ s ∧ s < (xs.length : Int)) → E (.ref T.C_SegmentError) none H) ∧ (0 ≤ s → s < (xs.length : Int) → v < 1 → E (.ref T.C_SegmentError) none H) ∧
    (0 ≤ s → s < (xs.length : Int) → 1 ≤ v → ∀ H', Chg T.tabs (Y.In [dn]) H H' → SegAt T H' t dn xs → ((∃ y ∈ sub xs s xs.length, y < 0) → E (.ref T.C_SegmentError) none H') ∧ ((∀ y ∈ sub xs s xs.length, 0 ≤ y) →
      ((sub xs s xs.length).sum < v → Q .non H') ∧ ∀ k, s ≤ k → k < xs.length → (sub xs s k).sum < v → v ≤ (sub xs s (k + 1)).sum → Q (.int k) H'))
  | _ => False
theorem ok_Segments_reach_from (T : Env w K mg base) : FnOk prg w K mg base (L2.CX prg w) 88 T.f_Segments_reach_from T.fd_Segments_reach_from ["self", "start", "goal"] (sp_Segments_reach_from T) := by
  refine T.F_Segments_reach_from.ok sc_Segments_reach_from (fun vs H Q E h => by unfold sp_Segments_reach_from at h; split at h <;> first | rfl | exact h.elim) fun A outer s H vs Q E hr h => ?_
  refine ⟨_, (pss_cons (ps_expr (pe_meth (pv 0) T.cl_Segments T.me_Segments_check_part (ok_Segments_check_part T) (hr.mono (by decide)) T.b_Segments_check_part .nil (Y.passD rfl rfl rfl rfl) (pa_cons (pv 1) (pa_cons (Y.pe_f T.cl_Segments T.na_Segments_many (pv 0)) pa_nil))))
  (pss_cons (ps_if (PW.pt (pw_or (pt_cmpR Y.op_lt (pv 2) pe_int (nomark _)) (pw_or1 (pt_cmpR Y.op_lt (pe_ix (Y.ixK (K := K) rfl) (pe_meth (pv 0) T.cl_Segments T.me_Segments_told_in (ok_Segments_told_in T) (hr.mono (by decide)) T.b_Segments_told_in .nil (Y.passD rfl rfl rfl rfl) (pa_cons (pv 1) (pa_cons (Y.pe_f T.cl_Segments T.na_Segments_many (pv 0)) pa_nil))) pe_int (fun _ _ => rfl)) pe_int (nomark _))))) (pss_one (ps_raise rfl (takes_of rfl rfl rfl rfl) (pmk_own PySem.F.excBase_ValueError T.x_SegmentError T.mg_SegmentError T.k_SegmentError (raises_own T.bb_SegmentError T.tt_SegmentError) rfl))) pss_nil)
  (pss_cons (ps_if (pt_cmpR Y.op_lt (pe_ix (Y.ixK (K := K) rfl) (pe_meth (pv 0) T.cl_Segments T.me_Segments_told_in (ok_Segments_told_in T) (hr.mono (by decide)) T.b_Segments_told_in .nil (Y.passD rfl rfl rfl rfl) (pa_cons (pv 1) (pa_cons (Y.pe_f T.cl_Segments T.na_Segments_many (pv 0)) pa_nil))) pe_int (fun _ _ => rfl)) (pv 2) (nomark _)) (pss_one (ps_ret pe_non)) pss_nil)
  (pss_cons (ps_par (i := 3) (j := 4) (by rfl) sc_Segments_reach_from.nd rfl rfl (by decide) rfl rfl (pa_cons (pv 1) (pa_cons (pe_op Y.op_sub (Y.pe_f T.cl_Segments T.na_Segments_many (pv 0)) pe_int) pa_nil)) (by rfl))
  (pss_cons (ps_while (passes_of rfl) (pt_cmpR Y.op_lt (pv 3) (pv 4) (nomark _)) (pss_cons (ps_set (i := 5) sc_Segments_reach_from.nd rfl (Or.inl rfl) (pe_op Y.op_fdiv (pe_op (Y.op_addK (K := K) rfl) (pv 3) (pv 4)) pe_int))
  (pss_cons (ps_set (i := 6) sc_Segments_reach_from.nd rfl (Or.inl rfl) (pe_cmpR Y.op_ge (pe_ix (Y.ixK (K := K) rfl) (pe_meth (pv 0) T.cl_Segments T.me_Segments_told_in (ok_Segments_told_in T) (hr.mono (by decide)) T.b_Segments_told_in .nil (Y.passD rfl rfl rfl rfl) (pa_cons (pv 1) (pa_cons (pe_op (Y.op_addK (K := K) rfl) (pv 5) pe_int) pa_nil))) pe_int (fun _ _ => rfl)) (pv 2) (nomark _)))
  (pss_cons (ps_set (i := 4) sc_Segments_reach_from.nd rfl (Or.inl rfl) (pe_ifExp (pt_truth (pv 6) (by intro _; rfl)) (pv 5) (pv 4)))
  (pss_one (ps_set (i := 3) sc_Segments_reach_from.nd rfl (Or.inl rfl) (pe_ifExp (pt_truth (pv 6) (by intro _; rfl)) (pv 3) (pe_op (Y.op_addK (K := K) rfl) (pv 5) pe_int))))))))
  (pss_one (ps_ret (pv 3)))))))), ?_⟩
  unfold sp_Segments_reach_from at h
  split at h
  next t s v =>
    obtain ⟨dn, xs, sa, tb, hE, hE2, h⟩ := h
    have sa' := sa
    obtain ⟨N, L, ⟨dx, ht⟩, ⟨kvs, hd, hL, hN⟩, hz, sg, l9⟩ := sa'
    have nt : t ≠ dn := by walk_at "ne"
    walk_at "go"
    refine ⟨dn, _, ⟨dx, ht⟩, fun z => hE (by omega), fun f0 f1 f2 => ?_⟩
    walk_at "go"
    walk_at "if"
    · intro cc
      walk_at "go"
      exact hE2 f0 f1 cc
    · intro cc
      have h := h f0 f1 (by omega)
      walk_at "go"
      refine fun _ _ _ p H1 s1 mn mx c1 sa1 ft fp hp => ?_
      walk_at "go"
      walk_at "if"
      · intro cm
        walk_at "go"
        exact (h _ c1 sa1).1 ⟨mn, ft.2.1.1, cm⟩
      · intro cm
        walk_at "go"
        have pos : ∀ y ∈ sub xs s xs.length, 0 ≤ y := fun y hy => by have := ft.2.1.2 y hy; omega
        refine ⟨dn, xs, sa1, c1.tabs tb, fun z => absurd ⟨f0, f1, f2⟩ z, fun _ _ _ p2 G2 s2 mn2 mx2 c3 sa3 ft2 fp2 hp2 => ?_⟩
        walk_at "go"
        walk_at "if"
        · intro ca
          walk_at "go"
          exact ((h _ (by walk_at "chg") sa3).2 pos).1 (by rw [← ft2.1]; exact ca)
        · intro ca
          walk_at "go"
          dsimp only
          have top : v ≤ (sub xs s ((xs.length : Int) - 1 + 1)).sum := by rw [Int.sub_add_cancel, ← ft2.1]; omega
          have bot : (sub xs s s).sum < v := by simp [sub]; omega
          have c4 : Chg T.tabs (Y.In [dn]) H G2 := by walk_at "chg"
          refine join2 (fun σ G => ∃ k x5 x6, σ = [some (.ref t), some (.int s), some (.int v), some (.int k), some (.int k), x5, x6] ∧ Chg T.tabs (Y.In [dn]) H G ∧ SegAt T G t dn xs ∧ s ≤ k ∧ k < xs.length ∧ (sub xs s k).sum < v ∧ v ≤ (sub xs s (k + 1)).sum) ?_ ?_
          · rintro σ G ⟨k, x5, x6, rfl, c2, sa2, k0, k1, k2, k3⟩
            walk_at "go"
            exact ((h _ c2 sa2).2 pos).2 k k0 k1 k2 k3
          · intro N0 hN0
            refine while_n (fun σ G => ∃ lo hi x5 x6, σ = [some (.ref t), some (.int s), some (.int v), some (.int lo), some (.int hi), x5, x6] ∧ Chg T.tabs (Y.In [dn]) H G ∧ SegAt T G t dn xs ∧ s ≤ lo ∧ lo ≤ hi ∧ hi < xs.length ∧ (sub xs s lo).sum < v ∧ v ≤ (sub xs s (hi + 1)).sum)
              (fun σ _ => match σ with | [_, _, _, some (.int lo), some (.int hi), _, _] => (hi - lo).toNat | _ => 0) ⟨s, xs.length - 1, none, none, rfl, c4, sa3, by omega, by omega, by omega, bot, top⟩ ?_
            rintro σ G ⟨lo, hi, x5, x6, rfl, c2, sa2, k0, k1, k2, k3, k4⟩
            walk_at "go"
            walk_at "if"
            · intro cc
              refine wh_step ?_
              walk_at "go"
              refine ⟨dn, xs, sa2, c2.tabs tb, fun z => absurd ⟨f0, by omega, by omega⟩ z, fun _ _ _ p2 G2 s2 mn2 mx2 c3 sa3 ft2 fp2 hp2 => ?_⟩
              walk_at "go"
              walk_at "if"
              · intro cd
                have cd' : v ≤ s2 := by simpa using cd
                walk_at "go"
                walk_at "if"
                · intro ce
                  walk_at "go"
                  exact ⟨⟨lo, (lo + hi) / 2, _, _, rfl, by walk_at "chg", sa3, by omega, by omega, by omega, k3, by rw [← ft2.1]; exact cd'⟩, by show ((lo + hi) / 2 - lo).toNat < (hi - lo).toNat; omega⟩
                · intro ce
                  exact absurd cd ce
              · intro cd
                have cd' : s2 < v := by simpa using cd
                walk_at "go"
                walk_at "if"
                · intro ce
                  exact absurd ce cd
                · intro ce
                  walk_at "go"
                  exact ⟨⟨(lo + hi) / 2 + 1, hi, _, _, rfl, by walk_at "chg", sa3, by omega, by omega, by omega, by rw [← ft2.1]; exact cd', k4⟩, by show (hi - ((lo + hi) / 2 + 1)).toNat < (hi - lo).toNat; omega⟩
            · intro cc
              have : lo = hi := by omega
              subst this
              exact hN0 _ _ ⟨lo, x5, x6, rfl, c2, sa2, k0, k2, k3, k4⟩
  next => exact h.elim
/-- the places of m, counted from k -/
def plc (m : Int) : Int → List Int → List Int
  | _, [] => []
  | k, y :: r => if y = m then k :: plc m (k + 1) r else plc m (k + 1) r
theorem plc_snoc {m y : Int} : ∀ (xs : List Int) (k : Int), plc m k (xs ++ [y]) = plc m k xs ++ if y = m then [k + xs.length] else []
  | [], k => by simp [plc]
  | x :: r, k => by
    have e : k + 1 + (r.length : Int) = k + ((x :: r).length : Int) := by simp; omega
    simp only [List.cons_append, plc, plc_snoc r, e]
    by_cases z : x = m <;> simp [z]
theorem plc_len {m : Int} : ∀ (xs : List Int) (k : Int), (plc m k xs).length ≤ xs.length
  | [], k => by simp [plc]
  | x :: r, k => by
    have := plc_len (m := m) r (k + 1)
    simp only [plc]
    split <;> simp <;> omega
theorem sub_get {xs : List Int} {f b : Int} {i : Nat} (h : 0 ≤ f) (h2 : f + i < b) (h3 : b ≤ xs.length) : (sub xs f b)[i]? = xs[f.toNat + i]? := by
  unfold sub
  rw [List.getElem?_take, List.getElem?_drop, if_pos (by omega)]
def sp_Segments_places_of (T : Env w K mg base) : Sp := fun vs H Q E => match vs with
  | [.ref t, .int f, .int b, .bl l] => ∃ dn xs, SegAt T H t dn xs ∧ Tabs T.tabs H ∧ (¬ (0 ≤ f ∧ f < b ∧ b ≤ (xs.length : Int)) → E (.ref T.C_SegmentError) none H) ∧
    (0 ≤ f → f < b → b ≤ (xs.length : Int) → ∀ p H' m, Chg T.tabs (Y.In [dn]) H H' → SegAt T H' t dn xs → (l = true → IsMin m (sub xs f b)) → (l = false → IsMax m (sub xs f b)) → H p = none → H' p = some (.tup ((plc m f (sub xs f b)).map V.int)) → Q (.ref p) H')
  | _ => False
theorem ok_Segments_places_of (T : Env w K mg base) : FnOk prg w K mg base (L2.CX prg w) 88 T.f_Segments_places_of T.fd_Segments_places_of ["self", "first", "behind", "is_least"] (sp_Segments_places_of T) := by
  refine T.F_Segments_places_of.ok sc_Segments_places_of (fun vs H Q E h => by unfold sp_Segments_places_of at h; split at h <;> first | rfl | exact h.elim) fun A outer s H vs Q E hr h => ?_
  refine ⟨_, (pss_cons (ps_set (i := 4) sc_Segments_places_of.nd rfl (Or.inl rfl) (pe_meth (pv 0) T.cl_Segments T.me_Segments_told_in (ok_Segments_told_in T) (hr.mono (by decide)) T.b_Segments_told_in .nil (Y.passD rfl rfl rfl rfl) (pa_cons (pv 1) (pa_cons (pv 2) pa_nil))))
  (pss_cons (ps_set (i := 5) sc_Segments_places_of.nd rfl (Or.inr rfl) (pe_ifExp (pt_truth (pv 3) (by intro _; rfl)) (pe_ix (Y.ixK (K := K) rfl) (pv 4) pe_int (fun _ _ => rfl)) (pe_ix (Y.ixK (K := K) rfl) (pv 4) pe_int (fun _ _ => rfl))))
  (pss_one (ps_ret (Y.pe_tupG (Y.pgen_gx (k := 80) (own := [("place", 6)]) (hr.mono (by decide)) T.tb_Segments_places_of rfl T.tm_Segments_places_of T.tu_Segments_places_of sc_Segments_places_of.nd (pi_range2 rfl T.no_range (pa_cons (pv 1) (pa_cons (pv 2) pa_nil))) (blkOk_by (own := [("place", 6)]) (N := N_Segments_places_of) (sc := defScope s_Segments_places_of) (by decide +kernel)) (Y.gxOk_by (by decide +kernel)) (fun _ _ _ _ _ _ hr => (pg_name (i := 6) sc_Segments_places_of.nd rfl (Or.inl rfl))) (fun _ _ _ _ _ _ hr => (pts_one (pt_cmpR (Y.op_eqK (K := K) rfl hr.units) (pe_ix (Y.ixK (K := K) rfl) (pe_meth (pv 0) T.cl_Segments T.me_Segments_told_in (ok_Segments_told_in T) (hr.mono (by decide)) T.b_Segments_told_in .nil Y.passN (pa_cons (pv 6) (pa_cons (pe_op (Y.op_addK (K := K) rfl) (pv 6) pe_int) pa_nil))) pe_int (fun _ _ => rfl)) (pv 5) (nomark _)))) (fun _ _ _ _ _ _ hr => (pv 6))) (hr.mono (by decide)) rfl T.no_tuple))))), ?_⟩
  unfold sp_Segments_places_of at h
  split at h
  next t f b l =>
    obtain ⟨dn, xs, sa, tb, hE, h⟩ := h
    have sa' := sa
    obtain ⟨N, L, ⟨dx, ht⟩, ⟨kvs, hd, hL, hN⟩, hz, sg, l9⟩ := sa'
    have nt : t ≠ dn := by walk_at "ne"
    walk_at "go"
    refine fun f0 f1 f2 p H1 s1 mn mx c1 sa1 ft fp hp => ?_
    have h := h f0 f1 f2
    have gen : ∀ (m : Int) (hm : (l = true → IsMin m (sub xs f b)) ∧ (l = false → IsMax m (sub xs f b))) (G : Hp), Chg T.tabs nil H1 G → tGx (iRng2 (tCons (tVar 1) (tCons (tVar 2) tNil))) (gName 6) (tTest (tOp (vEq K id) (tOp (uIx K) (tMeth T.C_Segments "told_in" (sp_Segments_told_in T) [] Y.E0 (tVar 0) (tCons (tVar 6) (tCons (tOp (uAdd K) (tVar 6) (tC (V.int 1))) tNil))) (tC (V.int 0))) (tVar 5))) (tVar 6) [6] (Itr f (b - f).toNat) G
        [some (.ref t), some (.int f), some (.int b), some (.bl l), some (.ref p), some (.int m), none] fun out H2 => ∀ (p : Addr), H2 p = none → Q (V.ref p) (upd H2 p (HO.tup out)) := by
      intro m hm G cG
      have sl := sub_len (xs := xs) f0 (by omega) f2
      refine gxr (fun i ys H' => Chg T.tabs (Y.In [dn]) G H' ∧ SegAt T H' t dn xs ∧ ys = (plc m f ((sub xs f b).take i)).map V.int) ⟨.refl _, sa1.keep cG id id fun _ _ _ z => z, rfl⟩ ?_ ?_
      · rintro ys H' ⟨c, sa2, rfl⟩
        refine nw_all fun r H3 n => ?_
        rw [← sl, List.take_length] at n
        exact h r H3 m (by walk_at "chg") (sa2.keep n.chg (T := T) (S := nil) id id fun _ _ _ z => z) hm.1 hm.2 (by walk_at "fr") (by walk_at "lk")
      · rintro i ys H' hi ⟨c, sa2, rfl⟩ Nx Sk hN hS
        have ht' := sa2
        obtain ⟨-, -, ⟨dx2, ht2⟩, -⟩ := ht'
        have hx : (f + (i : Int)).toNat < xs.length := by omega
        have sg1 : (sub xs f b)[i]? = some (xs[(f + (i : Int)).toNat]) := by
          rw [sub_get f0 (by omega) f2]
          have e : f.toNat + i = (f + (i : Int)).toNat := by omega
          rw [e]; exact List.getElem?_eq_getElem hx
        walk_at "go"
        refine ⟨dn, xs, sa2, c.tabs (cG.tabs (c1.tabs tb)), fun z => absurd ⟨by omega, by omega, by omega⟩ z, fun g0 g1 g2 p2 H3 s2 mn2 mx2 c3 sa3 ft2 fp2 hp2 => ?_⟩
        have es : s2 = xs[(f + (i : Int)).toNat] := by
          rw [sub_one (x := xs[(f + (i : Int)).toNat]) (by omega) (List.getElem?_eq_getElem hx)] at ft2
          simpa using ft2.1
        have tk : (sub xs f b).take (i + 1) = (sub xs f b).take i ++ [s2] := by rw [List.take_add_one, sg1, es]; rfl
        have li : ((sub xs f b).take i).length = i := by rw [List.length_take]; omega
        walk_at "go"
        walk_at "if"
        · intro cm
          walk_at "go"
          refine hN _ _ ?_ ⟨by walk_at "chg", sa3, ?_⟩
          · have := plc_len (m := m) ((sub xs f b).take i) f
            have l9' : xs.length ≤ 32 := by obtain ⟨_, _, _, _, _, _, z⟩ := sa3; exact z
            rw [List.length_map]
            exact lt_line (by omega)
          · have e9 : s2 = m := cm
            rw [tk, plc_snoc, if_pos e9, List.map_append, li]; rfl
        · intro cm
          refine hS _ ⟨by walk_at "chg", sa3, ?_⟩
          have e9 : ¬ s2 = m := cm
          rw [tk, plc_snoc, if_neg e9, List.append_nil]
    walk_at "go"
    walk_at "if"
    · intro cl
      walk_at "go"
      refine ⟨c1.tabs tb, fun G g => ?_⟩
      exact gen mn ⟨fun _ => ft.2.1, fun z => by rw [show l = true from cl] at z; cases z⟩ G (.ofGrows g)
    · intro cl
      walk_at "go"
      refine ⟨c1.tabs tb, fun G g => ?_⟩
      exact gen mx ⟨fun z => (by have cl' : l = false := cl; rw [z] at cl'; cases cl'), fun _ => ft.2.2⟩ G (.ofGrows g)
  next => exact h.elim
/-- the nodes that cover a part -/
def nodesL (f b : Int) : Nat → Int → Int → List (Int × Int)
  | 0, _, _ => []
  | d + 1, h, e => if f ≤ h ∧ e ≤ b then [(h, e)] else if e ≤ f ∨ b ≤ h then [] else nodesL f b d h ((h + e) / 2) ++ nodesL f b d ((h + e) / 2) e
theorem nodesL_more {f b : Int} (fb : f < b) : ∀ (d : Nat) (h e : Int), h < e → e - h ≤ lim d → nodesL f b (d + 1) h e = nodesL f b d h e
  | 0, h, e, he, hd => by have : lim 0 = 0 := rfl; omega
  | d + 1, h, e, he, hd => by
    have step : ∀ d, nodesL f b (d + 1) h e = if f ≤ h ∧ e ≤ b then [(h, e)] else if e ≤ f ∨ b ≤ h then [] else nodesL f b d h ((h + e) / 2) ++ nodesL f b d ((h + e) / 2) e := fun _ => rfl
    rw [step, step]
    by_cases c1 : f ≤ h ∧ e ≤ b
    · rw [if_pos c1, if_pos c1]
    · rw [if_neg c1, if_neg c1]
      by_cases c2 : e ≤ f ∨ b ≤ h
      · rw [if_pos c2, if_pos c2]
      · rw [if_neg c2, if_neg c2]
        have := lim_half (d := d) (n := e - h) (by omega) hd
        rw [nodesL_more fb d h _ (by omega) (by omega), nodesL_more fb d _ e (by omega) (by omega)]
end
end Z


set_option Elab.async false
set_option linter.all false
set_option maxRecDepth 100000
set_option maxHeartbeats 4000000
set_option pp.maxSteps 1500
namespace Z
open PySem PySem.Spec L2 LamX Y
local macro_rules | `(tactic| walk_at "lk") => `(tactic| first
  | assumption
  | exact Nw.at (by assumption)
  | exact Wr.at (by assumption)
  | exact Mkd.at (by assumption)
  | exact Nw.look (by assumption) (by walk_at "lk")
  | exact Mkd.look (by assumption) (by walk_at "lk")
  | exact Wr.look (by assumption) (by walk_at "lk") (by walk_at "ne")
  | exact Chg.look (by assumption) (by walk_at "lk") (by walk_at "nin") rfl
  | exact Tp.same (by assumption) _ _ (by walk_at "lk")
  | exact Grows.look (by assumption) (by walk_at "lk") rfl
  | fail)
local macro_rules | `(tactic| walk_at "ne") => `(tactic| first
  | assumption
  | exact Ne.symm (by assumption)
  | exact Nw.ne (by assumption) (by walk_at "lk")
  | exact Ne.symm (Nw.ne (by assumption) (by walk_at "lk"))
  | exact ne_fr (by assumption) (by walk_at "lk")
  | exact Ne.symm (ne_fr (by assumption) (by walk_at "lk"))
  | exact ne_fr (Mkd.nx (by assumption)) (by walk_at "lk")
  | exact Ne.symm (ne_fr (Mkd.nx (by assumption)) (by walk_at "lk"))
  | exact ne_kdn (by assumption) (by walk_at "lk") rfl
  | exact Ne.symm (ne_kdn (by assumption) (by walk_at "lk") rfl)
  | fail)
local macro_rules | `(tactic| walk_at "nin") => `(tactic| first
  | exact nin_nil
  | exact id
  | exact nin_cons (by walk_at "ne") (by walk_at "nin")
  | fail)
local macro_rules | `(tactic| walk_at "fr") => `(tactic| first
  | assumption
  | exact Nw.new (by assumption)
  | exact Mkd.nx (by assumption)
  | exact Nw.dom (by assumption) (by walk_at "fr")
  | exact Wr.dom (by assumption) (by walk_at "fr")
  | exact Mkd.dom (by assumption) (by walk_at "fr")
  | exact Chg.dom (by assumption) _ (by walk_at "fr")
  | exact Tp.dom (by assumption) _ (by walk_at "fr")
  | exact Grows.dom (by assumption) _ (by walk_at "fr")
  | fail)
local macro_rules | `(tactic| walk_at "mem") => `(tactic| first
  | assumption
  | exact List.mem_cons_self
  | (apply List.mem_cons_of_mem; walk_at "mem")
  | fail)
local macro_rules | `(tactic| walk_at "in") => `(tactic| first
  | assumption
  | (apply Or.inl; walk_at "mem")
  | (apply Or.inr; walk_at "fr")
  | fail)
local macro_rules | `(tactic| walk_at "sub") => `(tactic| first
  | exact sub_nil0
  | exact sub_nil
  | exact sub_cons (by walk_at "in") (by walk_at "sub")
  | fail)
local macro_rules | `(tactic| walk_at "chg") => `(tactic| first
  | assumption
  | exact Chg.refl _
  | exact Chg.nw (by assumption) (by walk_at "chg")
  | exact Chg.mkd (by assumption) (by walk_at "chg")
  | exact Chg.tp (by assumption) (by walk_at "chg")
  | exact Chg.gr (by assumption) (by walk_at "chg")
  | exact Chg.wr (by assumption) (by walk_at "chg") (by walk_at "in")
  | exact Chg.ch (by assumption) (by walk_at "chg") (by walk_at "sub")
  | fail)
local macro_rules | `(tactic| walk_at "sq") => `(tactic| first
  | assumption
  | exact SqL.of (by walk_at "lk")
  | exact Chg.seqL (by assumption) (by walk_at "sq") (by walk_at "nin")
  | exact SqL.nw (by assumption) (by walk_at "sq")
  | exact SqL.tp (by assumption) (by walk_at "sq")
  | exact SqL.mkd (by assumption) (by walk_at "sq")
  | exact SqL.wr (by assumption) (by walk_at "sq") (by walk_at "ne")
  | fail)
local macro_rules | `(tactic| walk_at "sqt") => `(tactic| first
  | assumption
  | exact SqT.of (by walk_at "lk")
  | exact Tp.sq (by assumption)
  | exact SqT.nw (by assumption) (by walk_at "sqt")
  | exact SqT.tp (by assumption) (by walk_at "sqt")
  | exact SqT.mkd (by assumption) (by walk_at "sqt")
  | exact SqT.chg (by assumption) (by walk_at "sqt") (by walk_at "nin")
  | fail)
local macro_rules | `(tactic| walk_at "seq") => `(tactic| first
  | assumption
  | exact .inl (by walk_at "sq")
  | exact .inr (by walk_at "sqt")
  | exact SqA.keepN (T := Env.tabs (by assumption)) (by assumption) (by walk_at "chg")
  | fail)
local macro_rules | `(tactic| walk_at "go") => `(tactic| repeat first
  | refine ⟨_, rfl, ?_⟩
  | refine ⟨_, _, _, _, rfl, And.intro (by walk_at "lk") (And.intro rfl ?_)⟩
  | refine ⟨_, _, _, rfl, And.intro (by walk_at "lk") (And.intro (by walk_at "side") ?_)⟩
  | refine ⟨_, _, And.intro rfl (And.intro rfl ?_)⟩
  | refine ⟨_, _, And.intro rfl (And.intro (by walk_at "lk") ?_)⟩
  | refine ⟨_, _, _, And.intro rfl (And.intro (by walk_at "lk") ?_)⟩
  | refine ⟨_, And.intro (by walk_at "lk") (And.intro (by walk_at "side") ?_)⟩
  | refine ⟨_, _, And.intro (by walk_at "lk") (And.intro (by walk_at "side") ?_)⟩
  | refine ⟨_, _, And.intro (by walk_at "seq") (And.intro rfl ?_)⟩
  | refine ⟨_, _, And.intro (by walk_at "seq") (And.intro (by assumption) ?_)⟩
  | refine ⟨_, And.intro (by walk_at "seq") ?_⟩
  | refine ⟨_, And.intro (by walk_at "lk") (And.intro (by walk_at "side") (And.intro (by walk_at "side") (And.intro (by walk_at "side") ?_)))⟩
  | refine .inl ⟨_, _, And.intro (by walk_at "lk") (And.intro (by walk_at "lk") (And.intro (by walk_at "side") ?_))⟩
  | refine .inr ⟨_, _, And.intro (by walk_at "sqt") (And.intro (by walk_at "sqt") (And.intro (by walk_at "side") ?_))⟩
  | refine .inl ⟨_, And.intro (by walk_at "sq") ?_⟩
  | refine .inr ⟨_, And.intro (by walk_at "sqt") ?_⟩
  | refine ⟨_, _, _, _, rfl, rfl, And.intro (by walk_at "lk") (And.intro rfl ?_)⟩
  | refine ⟨_, _, _, _, rfl, rfl, And.intro (by walk_at "lk") (And.intro (by walk_at "key") ?_)⟩
  | refine ⟨_, _, _, rfl, rfl, And.intro (by walk_at "lk") (And.intro (by walk_at "side") ?_)⟩
  | refine fun H' (n : Wr _ _ _ H') => ?_
  | refine fun p H' (n : Nw _ p _ H') => ?_
  | refine fun r H' (n : Tp _ _ r _ H') => ?_
  | refine fun x dx H' (n : Mkd _ _ x dx H') => ?_
  | refine .inl ⟨_, _, rfl, And.intro (by walk_at "sq") (fun p H' (n : Nw _ p _ H') => ?_)⟩
  | refine .inr ⟨_, _, rfl, And.intro (by walk_at "sqt") (fun r H' (n : Tp _ _ r _ H') => ?_)⟩
  | refine ⟨_, _, rfl, And.intro (by walk_at "sq") (fun p H' (n : Nw _ p _ H') => ?_)⟩
  | refine .inl (And.intro ⟨_, by walk_at "sq"⟩ ?_)
  | refine .inr (And.intro ⟨_, by walk_at "sqt"⟩ ?_)
  | refine ⟨_, _, rfl, And.intro (by walk_at "sqt") (And.intro rfl ?_)⟩
  | refine ⟨_, _, And.intro rfl ?_⟩
  | refine ⟨_, _, _, And.intro rfl ?_⟩
  | refine And.intro rfl ?_
  | (refine ite_t ?_ ?_; exact rfl)
  | (refine ite_f ?_ ?_; exact rfl)
  | refine And.intro (by walk_at "side") ?_)
local macro_rules | `(tactic| walk_at "side") => `(tactic| first
  | exact (rfl : _ = _)
  | decide
  | exact lt1000 rfl
  | with_reducible assumption
  | exact ⟨by omega, by omega⟩
  | exact .inl ⟨by omega, by omega⟩
  | exact .inr ⟨by omega, by omega⟩
  | omega
  | (apply le_line; omega)
  | (apply lt_line; omega)
  | (apply le_line; simp <;> omega)
  | (apply lt_line; simp <;> omega)
  | fail)
local macro_rules | `(tactic| walk_at "if") => `(tactic| first
  | refine ite_nd ?_ ?_
  | refine ite_d ?_ ?_
  | refine ite_eqt ?_ ?_
  | fail)
local macro_rules | `(tactic| walk_at "roll") => `(tactic| first
  | (refine And.intro (show Dice _ _ from ⟨_, _, _, by walk_at "lk"⟩) (And.intro (by walk_at "side") (And.intro (by walk_at "side") (fun r H' r0 r1 ro => ?_))); obtain ⟨a', b', c', w⟩ := ro)
  | fail)
local macro_rules | `(tactic| walk_at "run") => `(tactic| (walk_at "go"; repeat (walk_at "roll"; walk_at "go")))
local macro_rules | `(tactic| walk_at "dp") => `(tactic| first
  | exact Dp.non
  | exact Dp.int _
  | exact Dp.str _
  | exact Dp.bl _
  | exact DpAll.nil
  | exact DpAll.cons (by walk_at "dp") (by walk_at "dp")
  | exact Dp.tup (by walk_at "sqt") (by walk_at "dp")
  | exact Dp.lst (by walk_at "sq") (by walk_at "dp")
  | fail)
local macro_rules | `(tactic| walk_at "key") => `(tactic| first
  | assumption
  | fail)

section
variable {w : World} {K : PySem.W.Frag} {mg : Str → Option Value} {base : Heap}
abbrev prV (q : Int × Int) : List V := [.int q.1, .int q.2]
theorem prV_flat (ps : List (Int × Int)) : ∀ r ∈ ps.map prV, FlatR r := fun r hr => by
  obtain ⟨q, _, rfl⟩ := List.mem_map.mp hr
  intro x hx
  simp at hx
  rcases hx with rfl | rfl <;> rfl
theorem prV_inj : ∀ {ps qs : List (Int × Int)}, ps.map prV = qs.map prV ↔ ps = qs := by
  intro ps qs
  exact List.map_inj_right fun a b h => by cases a; cases b; simp [prV] at h; simp [h]
def wgt (l : List (Int × Int)) : Nat := (l.map fun q => (2 * (q.2 - q.1) - 1).toNat).sum
theorem wgt_len {l : List (Int × Int)} (h : ∀ q ∈ l, q.1 < q.2) : l.length ≤ wgt l := by
  induction l with
  | nil => simp [wgt]
  | cons q r ih =>
    have := ih fun q hq => h q (List.mem_cons_of_mem _ hq)
    have := h q List.mem_cons_self
    simp only [wgt, List.map_cons, List.sum_cons, List.length_cons] at *
    omega
theorem wgt_app {l m : List (Int × Int)} : wgt (l ++ m) = wgt l + wgt m := by simp [wgt]
def sp_Segments_nodes_for (T : Env w K mg base) : Sp := fun vs H Q E => match vs with
  | [.ref t, .int f, .int b] => ∃ dn xs, SegAt T H t dn xs ∧ (¬ (0 ≤ f ∧ f < b ∧ b ≤ (xs.length : Int)) → E (.ref T.C_SegmentError) none H) ∧
    (0 ≤ f → f < b → b ≤ (xs.length : Int) → ∀ p H' rs, Chg T.tabs nil H H' → H p = none → H' p = some (.tup rs) → RowsV H' rs ((nodesL f b 6 0 xs.length).map prV) → Q (.ref p) H')
  | _ => False
theorem ok_Segments_nodes_for (T : Env w K mg base) : FnOk prg w K mg base (L2.CX prg w) 16 T.f_Segments_nodes_for T.fd_Segments_nodes_for ["self", "first", "behind"] (sp_Segments_nodes_for T) := by
  refine T.F_Segments_nodes_for.ok sc_Segments_nodes_for (fun vs H Q E h => by unfold sp_Segments_nodes_for at h; split at h <;> first | rfl | exact h.elim) fun A outer s H vs Q E hr h => ?_
  refine ⟨_, (pss_cons (ps_expr (pe_meth (pv 0) T.cl_Segments T.me_Segments_check_part (ok_Segments_check_part T) (hr.mono (by decide)) T.b_Segments_check_part .nil (Y.passD rfl rfl rfl rfl) (pa_cons (pv 1) (pa_cons (pv 2) pa_nil))))
  (pss_cons (ps_par (i := 3) (j := 4) (by rfl) sc_Segments_nodes_for.nd rfl rfl (by decide) rfl rfl (pa_cons (Y.pe_ls pa_nil) (pa_cons (Y.pe_ls (pa_cons (Y.pe_tu (pa_cons pe_int (pa_cons (Y.pe_f T.cl_Segments T.na_Segments_many (pv 0)) pa_nil))) pa_nil)) pa_nil)) (by rfl))
  (pss_cons (ps_while (passes_of rfl) (pt_cmpR (Y.op_neK (K := K) rfl hr.units) (pv 4) (Y.pe_ls pa_nil) (nomark _)) (pss_cons (ps_asg (peI (pe_bm0 PySem.F.plainAttrs_list PySem.F.slot_list_pop PySem.F.type_list_pop mt_pop (peU (pv 4))) Y.pop_i) (Y.pg_tupK (K := K) (n := 2) rfl rfl (pgs_cons (pg_name (i := 5) sc_Segments_nodes_for.nd rfl (Or.inl rfl)) (pgs_cons (pg_name (i := 6) sc_Segments_nodes_for.nd rfl (Or.inl rfl)) pgs_nil))))
  (pss_cons (ps_set (i := 7) sc_Segments_nodes_for.nd rfl (Or.inl rfl) (pe_op Y.op_fdiv (pe_op (Y.op_addK (K := K) rfl) (pv 5) (pv 6)) pe_int))
  (pss_one (ps_if (PW.pt (pw_and (pt_cmpR Y.op_le (pv 1) (pv 5) (nomark _)) (pw_and1 (pt_cmpR Y.op_le (pv 6) (pv 2) (nomark _))))) (pss_one (ps_expr (peI (pe_bm PySem.F.plainAttrs_list PySem.F.slot_list_append PySem.F.type_list_append mt_append (peU (pv 3)) (pa_cons (peU (Y.pe_tu (pa_cons (pv 5) (pa_cons (pv 6) pa_nil)))) pa_nil)) Y.app_i))) (pss_one (ps_if (PW.pt (pw_and (pt_cmpR Y.op_lt (pv 5) (pv 2) (nomark _)) (pw_and1 (pt_cmpR Y.op_lt (pv 1) (pv 6) (nomark _))))) (pss_one (ps_aug (i := 4) sc_Segments_nodes_for.nd rfl (Or.inl rfl) (Y.pe_ls (pa_cons (Y.pe_tu (pa_cons (pv 7) (pa_cons (pv 6) pa_nil))) (pa_cons (Y.pe_tu (pa_cons (pv 5) (pa_cons (pv 7) pa_nil))) pa_nil))) Y.ip_add)) pss_nil)))))))
  (pss_one (ps_ret (pe_callTy (Y.tupleK (K := K) rfl) (by rfl) T.no_tuple (by decide +kernel) (pa_cons (pv 3) pa_nil))))))), ?_⟩
  unfold sp_Segments_nodes_for at h
  split at h
  next t f b =>
    obtain ⟨dn, xs, sa, hE, h⟩ := h
    obtain ⟨N, L, ⟨dx, ht⟩, ⟨kvs, hd, hL, hN⟩, hz, sg, l9⟩ := sa
    have l1 := List.length_pos_iff.mpr sg.ne
    have nt : t ≠ dn := by walk_at "ne"
    walk_at "go"
    refine ⟨dn, _, ⟨dx, ht⟩, hE, fun f0 f1 f2 => ?_⟩
    have h := h f0 f1 f2
    walk_at "go"
    dsimp only
    rename_i fo G1 n1 p0 G2 n2 lf G3 n3
    refine join2 (fun σ G => ∃ x5 x6 x7 rs, σ = [some (.ref t), some (.int f), some (.int b), some (.ref fo), some (.ref lf), x5, x6, x7] ∧ Chg T.tabs nil H G ∧ H fo = none ∧ G fo = some (.lst rs) ∧ rs.length ≤ 63 ∧ RowsV G rs ((nodesL f b 6 0 xs.length).map prV)) ?_ ?_
    · rintro σ G ⟨x5, x6, x7, rs, rfl, c, ff, gf, rl, ra⟩
      have z9 : rs.length ≤ sizeLine := le_line (by omega)
      walk_at "go"
      rename_i p G9 n9
      exact h p G9 rs (by walk_at "chg") (by walk_at "fr") n9.at (ra.keepN (T := T.tabs) (by walk_at "chg"))
    · intro N0 hN0
      have fne : fo ≠ lf := by walk_at "ne"
      refine while_m (fun m σ G => ∃ x5 x6 x7 rs ls fq lq, σ = [some (.ref t), some (.int f), some (.int b), some (.ref fo), some (.ref lf), x5, x6, x7] ∧ Chg T.tabs nil H G ∧ G fo = some (.lst rs) ∧ G lf = some (.lst ls) ∧ RowsV G rs (fq.map prV) ∧ RowsV G ls (lq.map prV) ∧
          fq ++ (lq.reverse.map fun q => nodesL f b 6 q.1 q.2).flatten = nodesL f b 6 0 xs.length ∧ fq.length + m ≤ 63 ∧ m = wgt lq ∧ ∀ q ∈ lq, 0 ≤ q.1 ∧ q.1 < q.2 ∧ q.2 ≤ (xs.length : Int)) (2 * xs.length - 1) ?_ ?_
      · refine ⟨none, none, none, [], [.ref p0], [], [(0, xs.length)], rfl, by walk_at "chg", by walk_at "lk", n3.at, .nil, .cons ⟨p0, rfl, by walk_at "lk"⟩ .nil, by simp, by simp; omega, by simp [wgt]; omega, fun q hq => ?_⟩
        rw [List.mem_singleton.mp hq]
        exact ⟨Int.le_refl _, by show (0 : Int) < _; omega, Int.le_refl _⟩
      · rintro m σ G ⟨x5, x6, x7, rs, ls, fq, lq, rfl, c, gf, gl, ra, rb, tot, wl, rfl, ok⟩
        walk_at "go"
        rename_i pe Ge ne
        refine veq_rows (p := lq = []) (.of (by walk_at "lk")) (.of ne.at) (rb.keepN (T := T.tabs) ne.chg) .nil (prV_flat lq) (fun r hr => by cases hr) (by simp) ?_
        walk_at "go"
        walk_at "if"
        · intro cc
          refine whm_step fun N1 hN1 => ?_
          rcases List.eq_nil_or_concat lq with e1 | ⟨l0, q, e1⟩
          · exact absurd e1 cc
          · rw [List.concat_eq_append] at e1
            subst e1
            rw [List.map_append] at rb
            obtain ⟨l1', l2', rfl, rb1, rb2⟩ := rb.unapp
            cases rb2 with
            | cons a2 z2 =>
              cases z2
              obtain ⟨pq, rfl, hq⟩ := a2
              obtain ⟨q0, q1, q2⟩ := ok q (by simp)
              have stp : nodesL f b 6 q.1 q.2 = if f ≤ q.1 ∧ q.2 ≤ b then [(q.1, q.2)] else if q.2 ≤ f ∨ b ≤ q.1 then [] else nodesL f b 5 q.1 ((q.1 + q.2) / 2) ++ nodesL f b 5 ((q.1 + q.2) / 2) q.2 := rfl
              have tot' : fq ++ (nodesL f b 6 q.1 q.2 ++ (l0.reverse.map fun q => nodesL f b 6 q.1 q.2).flatten) = nodesL f b 6 0 xs.length := by
                rw [← tot, List.reverse_append]; simp
              have wq : wgt (l0 ++ [q]) = wgt l0 + (2 * (q.2 - q.1) - 1).toNat := by rw [wgt_app]; simp [wgt]
              have wl' := wl
              rw [wq] at wl'
              have lenr : rs.length = fq.length := by have := ra.len; rwa [List.length_map] at this
              have lenl : l1'.length ≤ 63 := by
                have := rb1.len
                rw [List.length_map] at this
                have := wgt_len (l := l0) fun q hq => (ok q (by simp [hq])).2.1
                omega
              have ok0 : ∀ q ∈ l0, 0 ≤ q.1 ∧ q.1 < q.2 ∧ q.2 ≤ (xs.length : Int) := fun q hq => ok q (by simp [hq])
              have rsl : rs.length < sizeLine := lt_line (by omega)
              refine join2 (fun σ G' => σ = [some (.ref t), some (.int f), some (.int b), some (.ref fo), some (.ref lf), some (.int q.1), some (.int q.2), x7] ∧ ∃ Ga, Chg T.tabs nil G Ga ∧ Wr Ga lf (.lst l1') G') ?_ ?_
              · rintro σ G1 ⟨rfl, Ga, ca, w1⟩
                refine join2 (fun σ G' => σ = [some (.ref t), some (.int f), some (.int b), some (.ref fo), some (.ref lf), some (.int q.1), some (.int q.2), some (.int ((q.1 + q.2) / 2))] ∧ G' = G1) ?_ ?_
                · rintro σ G' ⟨rfl, eG⟩
                  subst eG
                  have gfo1 : G' fo = some (.lst rs) := by walk_at "lk"
                  have c1 : Chg T.tabs (Y.In [lf]) G G' := by walk_at "chg"
                  have ntu : ∀ (S : List Addr) (G : Hp) x ts, G x = some (.tup ts) → (∀ y ∈ S, ∃ zs, G y = some (.lst zs)) → ¬ Y.In S x := fun S G x ts e hy z => by
                    obtain ⟨zs, e2⟩ := hy x z
                    rw [e2] at e; cases e
                  have ra1 : RowsV G' rs (fq.map prV) := ra.keep c1 fun x ts e => ntu _ _ x ts e (by simp [gl])
                  have rb1' : RowsV G' l1' (l0.map prV) := All2.imp rb1 fun _ _ z => z.keep c1 fun x ts e => ntu _ _ x ts e (by simp [gl])
                  have g1l : G' lf = some (.lst l1') := w1.at
                  have cH : Chg T.tabs nil H G' := by walk_at "chg"
                  have skip : ¬ (f ≤ q.1 ∧ q.2 ≤ b) → (q.2 ≤ f ∨ b ≤ q.1) → N1 [some (.ref t), some (.int f), some (.int b), some (.ref fo), some (.ref lf), some (.int q.1), some (.int q.2), some (.int ((q.1 + q.2) / 2))] G' := by
                    intro h1 h2
                    refine hN1 (wgt l0) _ _ (by rw [wq]; omega) ⟨_, _, _, rs, l1', fq, l0, rfl, cH, gfo1, g1l, ra1, rb1', ?_, by omega, rfl, ok0⟩
                    rw [stp, if_neg h1, if_pos h2] at tot'
                    exact tot'
                  refine tIf_rest (¬ (f ≤ q.1 ∧ q.2 ≤ b)) (fun cn => ?_) (fun U hU => ?_)
                  · refine tIf_rest (q.2 ≤ f ∨ b ≤ q.1) (fun cm => ?_) (fun U hU => ?_)
                    · walk_at "go"
                      exact skip cn cm
                    · walk_at "go"
                      walk_at "if"
                      · intro c1'
                        walk_at "go"
                        walk_at "if"
                        · intro c2'
                          have le2 : l1'.length + 2 ≤ sizeLine := le_line (by omega)
                          walk_at "go"
                          rename_i pa Ha na pb Hb nb pc Hc nc
                          refine ⟨l1', [.ref pa, .ref pb], by walk_at "lk", nc.at, le2, fun Hd wd => ?_⟩
                          have cA : Chg T.tabs (Y.In [lf]) G' Hd := by walk_at "chg"
                          have q9 : q.1 + 2 ≤ q.2 := by omega
                          have l5 : lim 5 = 16 := rfl
                          have m1 := nodesL_more (f := f) (b := b) f1 5 q.1 ((q.1 + q.2) / 2) (by omega) (by omega)
                          have m2 := nodesL_more (f := f) (b := b) f1 5 ((q.1 + q.2) / 2) q.2 (by omega) (by omega)
                          have wnew : wgt (l0 ++ [((q.1 + q.2) / 2, q.2), (q.1, (q.1 + q.2) / 2)]) + 1 ≤ wgt (l0 ++ [q]) := by
                            rw [wq, wgt_app]; simp only [wgt, List.map_cons, List.map_nil, List.sum_cons, List.sum_nil]; omega
                          refine hN1 _ _ _ (by omega) ⟨_, _, _, rs, l1' ++ [.ref pa, .ref pb], fq, l0 ++ [((q.1 + q.2) / 2, q.2), (q.1, (q.1 + q.2) / 2)], rfl, by walk_at "chg", by walk_at "lk", wd.at, ra1.keep cA fun x ts e => ntu _ _ x ts e (by simp [g1l]), ?_, ?_, by omega, rfl, ?_⟩
                          · rw [List.map_append]
                            exact (rb1'.keep cA fun x ts e => ntu _ _ x ts e (by simp [g1l])).app (.cons ⟨pa, rfl, by walk_at "lk"⟩ (.cons ⟨pb, rfl, by walk_at "lk"⟩ .nil))
                          · rw [stp, if_neg (by omega), if_neg (by omega)] at tot'
                            rw [← tot', List.reverse_append]
                            simp [m1, m2]
                          · intro u hu
                            rcases List.mem_append.mp hu with z | z
                            · exact ok0 u z
                            · simp at z
                              rcases z with rfl | rfl
                              · exact ⟨by show 0 ≤ (q.1 + q.2) / 2; omega, by show (q.1 + q.2) / 2 < q.2; omega, q2⟩
                              · exact ⟨q0, by show q.1 < (q.1 + q.2) / 2; omega, by show (q.1 + q.2) / 2 ≤ _; omega⟩
                        · intro c2'
                          exact hU (by omega)
                      · intro c1'
                        exact hU (by omega)
                  · walk_at "go"
                    walk_at "if"
                    · intro c1'
                      walk_at "go"
                      walk_at "if"
                      · intro c2'
                        walk_at "go"
                        rename_i pa Ha na Hb wb
                        have cA : Chg T.tabs (Y.In [fo]) G' Hb := by walk_at "chg"
                        have nfa : pa ≠ fo := by walk_at "ne"
                        refine hN1 (wgt l0) _ _ (by rw [wq]; omega) ⟨_, _, _, rs ++ [.ref pa], l1', fq ++ [q], l0, rfl, by walk_at "chg", wb.at, by walk_at "lk", ?_, rb1'.keep cA fun x ts e => ntu _ _ x ts e (by simp [gfo1]), ?_, by simp; omega, rfl, ok0⟩
                        · rw [List.map_append]
                          exact (ra1.keep cA fun x ts e => ntu _ _ x ts e (by simp [gfo1])).snoc ⟨pa, rfl, by walk_at "lk"⟩
                        · rw [stp, if_pos ⟨c1', c2'⟩] at tot'
                          rw [← tot']; simp
                      · intro c2'
                        exact hU (by omega)
                    · intro c1'
                      exact hU (by omega)
                · intro N3 hN3
                  walk_at "go"
                  exact hN3 _ _ ⟨rfl, rfl⟩
              · intro N3 hN3
                walk_at "go"
                rename_i G1 w1
                exact hN3 _ _ ⟨rfl, _, ne.chg, w1⟩
        · intro cc
          have cc' : lq = [] := by simpa using cc
          subst cc'
          refine hN0 _ _ ⟨x5, x6, x7, rs, rfl, by walk_at "chg", by walk_at "fr", by walk_at "lk", ?_, ?_⟩
          · have := ra.len; rw [List.length_map] at this; omega
          · simp at tot
            rw [← tot]
            exact ra.keepN (T := T.tabs) ne.chg
  next => exact h.elim
end
end Z


set_option Elab.async false
set_option linter.all false
set_option maxRecDepth 100000
set_option maxHeartbeats 4000000
set_option pp.maxSteps 1500
namespace Z
open PySem PySem.Spec L2 LamX Y
local macro_rules | `(tactic| walk_at "lk") => `(tactic| first
  | assumption
  | exact Nw.at (by assumption)
  | exact Wr.at (by assumption)
  | exact Mkd.at (by assumption)
  | exact Nw.look (by assumption) (by walk_at "lk")
  | exact Mkd.look (by assumption) (by walk_at "lk")
  | exact Wr.look (by assumption) (by walk_at "lk") (by walk_at "ne")
  | exact Chg.look (by assumption) (by walk_at "lk") (by walk_at "nin") rfl
  | exact Tp.same (by assumption) _ _ (by walk_at "lk")
  | exact Grows.look (by assumption) (by walk_at "lk") rfl
  | fail)
local macro_rules | `(tactic| walk_at "ne") => `(tactic| first
  | assumption
  | exact Ne.symm (by assumption)
  | exact Nw.ne (by assumption) (by walk_at "lk")
  | exact Ne.symm (Nw.ne (by assumption) (by walk_at "lk"))
  | exact ne_fr (by assumption) (by walk_at "lk")
  | exact Ne.symm (ne_fr (by assumption) (by walk_at "lk"))
  | exact ne_fr (Mkd.nx (by assumption)) (by walk_at "lk")
  | exact Ne.symm (ne_fr (Mkd.nx (by assumption)) (by walk_at "lk"))
  | exact ne_kdn (by assumption) (by walk_at "lk") rfl
  | exact Ne.symm (ne_kdn (by assumption) (by walk_at "lk") rfl)
  | fail)
local macro_rules | `(tactic| walk_at "nin") => `(tactic| first
  | exact nin_nil
  | exact id
  | exact nin_cons (by walk_at "ne") (by walk_at "nin")
  | fail)
local macro_rules | `(tactic| walk_at "fr") => `(tactic| first
  | assumption
  | exact Nw.new (by assumption)
  | exact Mkd.nx (by assumption)
  | exact Nw.dom (by assumption) (by walk_at "fr")
  | exact Wr.dom (by assumption) (by walk_at "fr")
  | exact Mkd.dom (by assumption) (by walk_at "fr")
  | exact Chg.dom (by assumption) _ (by walk_at "fr")
  | exact Tp.dom (by assumption) _ (by walk_at "fr")
  | exact Grows.dom (by assumption) _ (by walk_at "fr")
  | fail)
local macro_rules | `(tactic| walk_at "mem") => `(tactic| first
  | assumption
  | exact List.mem_cons_self
  | (apply List.mem_cons_of_mem; walk_at "mem")
  | fail)
local macro_rules | `(tactic| walk_at "in") => `(tactic| first
  | assumption
  | (apply Or.inl; walk_at "mem")
  | (apply Or.inr; walk_at "fr")
  | fail)
local macro_rules | `(tactic| walk_at "sub") => `(tactic| first
  | exact sub_nil0
  | exact sub_nil
  | exact sub_cons (by walk_at "in") (by walk_at "sub")
  | fail)
local macro_rules | `(tactic| walk_at "chg") => `(tactic| first
  | assumption
  | exact Chg.refl _
  | exact Chg.nw (by assumption) (by walk_at "chg")
  | exact Chg.mkd (by assumption) (by walk_at "chg")
  | exact Chg.tp (by assumption) (by walk_at "chg")
  | exact Chg.gr (by assumption) (by walk_at "chg")
  | exact Chg.wr (by assumption) (by walk_at "chg") (by walk_at "in")
  | exact Chg.ch (by assumption) (by walk_at "chg") (by walk_at "sub")
  | fail)
local macro_rules | `(tactic| walk_at "sq") => `(tactic| first
  | assumption
  | exact SqL.of (by walk_at "lk")
  | exact Chg.seqL (by assumption) (by walk_at "sq") (by walk_at "nin")
  | exact SqL.nw (by assumption) (by walk_at "sq")
  | exact SqL.tp (by assumption) (by walk_at "sq")
  | exact SqL.mkd (by assumption) (by walk_at "sq")
  | exact SqL.wr (by assumption) (by walk_at "sq") (by walk_at "ne")
  | fail)
local macro_rules | `(tactic| walk_at "sqt") => `(tactic| first
  | assumption
  | exact SqT.of (by walk_at "lk")
  | exact Tp.sq (by assumption)
  | exact SqT.nw (by assumption) (by walk_at "sqt")
  | exact SqT.tp (by assumption) (by walk_at "sqt")
  | exact SqT.mkd (by assumption) (by walk_at "sqt")
  | exact SqT.chg (by assumption) (by walk_at "sqt") (by walk_at "nin")
  | fail)
local macro_rules | `(tactic| walk_at "seq") => `(tactic| first
  | assumption
  | exact .inl (by walk_at "sq")
  | exact .inr (by walk_at "sqt")
  | exact SqA.keepN (T := Env.tabs (by assumption)) (by assumption) (by walk_at "chg")
  | fail)
local macro_rules | `(tactic| walk_at "go") => `(tactic| repeat first
  | refine ⟨_, rfl, ?_⟩
  | refine ⟨_, _, _, _, rfl, And.intro (by walk_at "lk") (And.intro rfl ?_)⟩
  | refine ⟨_, _, _, rfl, And.intro (by walk_at "lk") (And.intro (by walk_at "side") ?_)⟩
  | refine ⟨_, _, And.intro rfl (And.intro rfl ?_)⟩
  | refine ⟨_, _, And.intro rfl (And.intro (by walk_at "lk") ?_)⟩
  | refine ⟨_, _, _, And.intro rfl (And.intro (by walk_at "lk") ?_)⟩
  | refine ⟨_, And.intro (by walk_at "lk") (And.intro (by walk_at "side") ?_)⟩
  | refine ⟨_, _, And.intro (by walk_at "lk") (And.intro (by walk_at "side") ?_)⟩
  | refine ⟨_, _, And.intro (by walk_at "seq") (And.intro rfl ?_)⟩
  | refine ⟨_, _, And.intro (by walk_at "seq") (And.intro (by assumption) ?_)⟩
  | refine ⟨_, And.intro (by walk_at "seq") ?_⟩
  | refine ⟨_, And.intro (by walk_at "lk") (And.intro (by walk_at "side") (And.intro (by walk_at "side") (And.intro (by walk_at "side") ?_)))⟩
  | refine .inl ⟨_, _, And.intro (by walk_at "lk") (And.intro (by walk_at "lk") (And.intro (by walk_at "side") ?_))⟩
  | refine .inr ⟨_, _, And.intro (by walk_at "sqt") (And.intro (by walk_at "sqt") (And.intro (by walk_at "side") ?_))⟩
  | refine .inl ⟨_, And.intro (by walk_at "sq") ?_⟩
  | refine .inr ⟨_, And.intro (by walk_at "sqt") ?_⟩
  | refine ⟨_, _, _, _, rfl, rfl, And.intro (by walk_at "lk") (And.intro rfl ?_)⟩
  | refine ⟨_, _, _, _, rfl, rfl, And.intro (by walk_at "lk") (And.intro (by walk_at "key") ?_)⟩
  | refine ⟨_, _, _, rfl, rfl, And.intro (by walk_at "lk") (And.intro (by walk_at "side") ?_)⟩
  | refine fun H' (n : Wr _ _ _ H') => ?_
  | refine fun p H' (n : Nw _ p _ H') => ?_
  | refine fun r H' (n : Tp _ _ r _ H') => ?_
  | refine fun x dx H' (n : Mkd _ _ x dx H') => ?_
  | refine .inl ⟨_, _, rfl, And.intro (by walk_at "sq") (fun p H' (n : Nw _ p _ H') => ?_)⟩
  | refine .inr ⟨_, _, rfl, And.intro (by walk_at "sqt") (fun r H' (n : Tp _ _ r _ H') => ?_)⟩
  | refine ⟨_, _, rfl, And.intro (by walk_at "sq") (fun p H' (n : Nw _ p _ H') => ?_)⟩
  | refine .inl (And.intro ⟨_, by walk_at "sq"⟩ ?_)
  | refine .inr (And.intro ⟨_, by walk_at "sqt"⟩ ?_)
  | refine ⟨_, _, rfl, And.intro (by walk_at "sqt") (And.intro rfl ?_)⟩
  | refine ⟨_, _, And.intro rfl ?_⟩
  | refine ⟨_, _, _, And.intro rfl ?_⟩
  | refine And.intro rfl ?_
  | (refine ite_t ?_ ?_; exact rfl)
  | (refine ite_f ?_ ?_; exact rfl)
  | refine And.intro (by walk_at "side") ?_)
local macro_rules | `(tactic| walk_at "side") => `(tactic| first
  | exact (rfl : _ = _)
  | decide
  | exact lt1000 rfl
  | with_reducible assumption
  | exact ⟨by omega, by omega⟩
  | exact .inl ⟨by omega, by omega⟩
  | exact .inr ⟨by omega, by omega⟩
  | omega
  | (apply le_line; omega)
  | (apply lt_line; omega)
  | (apply le_line; simp <;> omega)
  | (apply lt_line; simp <;> omega)
  | fail)
local macro_rules | `(tactic| walk_at "if") => `(tactic| first
  | refine ite_nd ?_ ?_
  | refine ite_d ?_ ?_
  | refine ite_eqt ?_ ?_
  | fail)
local macro_rules | `(tactic| walk_at "roll") => `(tactic| first
  | (refine And.intro (show Dice _ _ from ⟨_, _, _, by walk_at "lk"⟩) (And.intro (by walk_at "side") (And.intro (by walk_at "side") (fun r H' r0 r1 ro => ?_))); obtain ⟨a', b', c', w⟩ := ro)
  | fail)
local macro_rules | `(tactic| walk_at "run") => `(tactic| (walk_at "go"; repeat (walk_at "roll"; walk_at "go")))
local macro_rules | `(tactic| walk_at "dp") => `(tactic| first
  | exact Dp.non
  | exact Dp.int _
  | exact Dp.str _
  | exact Dp.bl _
  | exact DpAll.nil
  | exact DpAll.cons (by walk_at "dp") (by walk_at "dp")
  | exact Dp.tup (by walk_at "sqt") (by walk_at "dp")
  | exact Dp.lst (by walk_at "sq") (by walk_at "dp")
  | fail)
local macro_rules | `(tactic| walk_at "key") => `(tactic| first
  | assumption
  | fail)

section
variable {w : World} {K : PySem.W.Frag} {mg : Str → Option Value} {base : Heap}
def sp_windows_least (T : Env w K mg base) : Sp := fun vs H Q E => match vs with
  | [.ref v, .int long] => ∃ xs : List Int, (SqL K H v (xs.map V.int) ∨ SqT K H v (xs.map V.int)) ∧ Tabs T.tabs H ∧ xs.length < 1000 ∧ (¬ (1 ≤ xs.length ∧ xs.length ≤ 500) → ∀ H', Chg T.tabs nil H H' → E (.ref T.C_SegmentError) none H') ∧
    (1 ≤ xs.length → xs.length ≤ 500 → xs.length ≤ 32 ∧ (¬ (1 ≤ long ∧ long ≤ (xs.length : Int)) → ∀ H', Chg T.tabs nil H H' → E (.ref T.C_SegmentError) none H') ∧
      (1 ≤ long → long ≤ (xs.length : Int) → ∀ p H' (ms : List Int), Chg T.tabs nil H H' → H p = none → H' p = some (.tup (ms.map V.int)) → (ms.length : Int) = xs.length - long + 1 → (∀ (i : Nat) m, ms[i]? = some m → IsMin m (sub xs i (i + long))) → Q (.ref p) H'))
  | _ => False
theorem ok_windows_least (T : Env w K mg base) : FnOk prg w K mg base (L2.CX prg w) 88 T.f_windows_least T.fd_windows_least ["values", "long"] (sp_windows_least T) := by
  refine T.F_windows_least.ok sc_windows_least (fun vs H Q E h => by unfold sp_windows_least at h; split at h <;> first | rfl | exact h.elim) fun A outer s H vs Q E hr h => ?_
  refine ⟨_, (pss_cons (ps_set (i := 2) sc_windows_least.nd rfl (Or.inr rfl) (Y.pe_mk T.mk_Segments (ok_Segments___init__ T) (hr.mono (by decide)) rfl T.mg_Segments T.b_Segments___init__ .nil (Y.passD rfl rfl rfl rfl) (pa_cons (pv 0) pa_nil)))
  (pss_cons (ps_if (pt_not (pt_chain Y.op_le Y.op_le pe_int (pv 1) (pe_callB (Y.lenK (K := K) rfl) (by rfl) T.no_len (by decide +kernel) (pa_cons (pv 0) pa_nil)))) (pss_one (ps_raise rfl (takes_of rfl rfl rfl rfl) (pmk_own PySem.F.excBase_ValueError T.x_SegmentError T.mg_SegmentError T.k_SegmentError (raises_own T.bb_SegmentError T.tt_SegmentError) rfl))) pss_nil)
  (pss_one (ps_ret (Y.pe_tupG (Y.pgen_gx (k := 80) (own := [("place", 3)]) (hr.mono (by decide)) T.tb_windows_least rfl T.tm_windows_least T.tu_windows_least sc_windows_least.nd (pi_range1 rfl T.no_range (pa_cons (pe_op (Y.op_addK (K := K) rfl) (pe_op Y.op_sub (pe_callB (Y.lenK (K := K) rfl) (by rfl) T.no_len (by decide +kernel) (pa_cons (pv 0) pa_nil)) (pv 1)) pe_int) pa_nil)) (blkOk_by (own := [("place", 3)]) (N := N_windows_least) (sc := defScope s_windows_least) (by decide +kernel)) (Y.gxOk_by (by decide +kernel)) (fun _ _ _ _ _ _ hr => (pg_name (i := 3) sc_windows_least.nd rfl (Or.inl rfl))) (fun _ _ _ _ _ _ hr => pts_nil) (fun _ _ _ _ _ _ hr => (pe_ix (Y.ixK (K := K) rfl) (pe_meth (pv 2) T.cl_Segments T.me_Segments_told_in (ok_Segments_told_in T) (hr.mono (by decide)) T.b_Segments_told_in .nil Y.passN (pa_cons (pv 3) (pa_cons (pe_op (Y.op_addK (K := K) rfl) (pv 3) (pv 1)) pa_nil))) pe_int (fun _ _ => rfl)))) (hr.mono (by decide)) rfl T.no_tuple))))), ?_⟩
  unfold sp_windows_least at h
  split at h
  next v long =>
    obtain ⟨xs, hv, tb, hz, hE, h⟩ := h
    have z3 : xs.length ≤ 32 ∨ ¬ (1 ≤ xs.length ∧ xs.length ≤ 500) := by
      by_cases z : 1 ≤ xs.length ∧ xs.length ≤ 500
      · exact .inl (h z.1 z.2).1
      · exact .inr z
    walk_at "go"
    rename_i t dx H1 mk
    have hv1 : SqL K H1 v (xs.map V.int) ∨ SqT K H1 v (xs.map V.int) := SqA.keepN (T := T.tabs) hv (by walk_at "chg")
    refine ⟨⟨dx, mk.at⟩, xs, hv1, hz, fun z => hE z _ (by walk_at "chg"), fun l1 l2 => ?_⟩
    obtain ⟨l9, hE2, h⟩ := h l1 l2
    refine ⟨l9, fun dn H2 c2 fd sa => ?_⟩
    have ft : H t = none := by walk_at "fr"
    have cH : Chg T.tabs nil H H2 := by walk_at "chg"
    have hv2 : SqL K H2 v (xs.map V.int) ∨ SqT K H2 v (xs.map V.int) := SqA.keepN (T := T.tabs) hv cH
    have lm : (xs.map V.int).length ≤ sizeLine := le_line (by simp; omega)
    walk_at "go"
    walk_at "if"
    · intro c1
      walk_at "go"
      walk_at "if"
      · intro c2'
        walk_at "go"
        exact hE2 (by simp at c2'; omega) _ cH
      · intro c2'
        have g2 : long ≤ (xs.length : Int) := by simpa using c2'
        have h := h c1 g2
        have l62 : (((xs.map V.int).length : Nat) : Int) - long + 1 < 2 ^ 62 := by rw [List.length_map]; omega
        walk_at "go"
        refine ⟨cH.tabs tb, fun G g => ?_⟩
        have cG : Chg T.tabs nil H2 G := .ofGrows g
        have e1 : ((((xs.map V.int).length : Nat) : Int) - long + 1).toNat = (xs.length - long + 1).toNat := by rw [List.length_map]
        rw [e1]
        refine gxr (fun i ys H' => Chg T.tabs (Y.In [dn]) G H' ∧ SegAt T H' t dn xs ∧ ∃ ms : List Int, ys = ms.map V.int ∧ ms.length = i ∧ ∀ (i : Nat) m, ms[i]? = some m → IsMin m (sub xs i (i + long))) ⟨.refl _, sa.keep cG id id fun _ _ _ z => z, [], rfl, rfl, fun i m e => nomatch e⟩ ?_ ?_
        · rintro ys H' ⟨c, sa2, ms, rfl, ml, hm⟩
          refine nw_all fun r H3 n => ?_
          have fdn : H dn = none := mk.chg (T := T.tabs) (S := nil) |>.dom _ fd
          exact h r H3 ms (by walk_at "chg") (by walk_at "fr") n.at (by omega) hm
        · rintro i ys H' hi ⟨c, sa2, ms, rfl, ml, hm⟩ Nx Sk hN hS
          have sa2' := sa2
          obtain ⟨-, -, ⟨dx2, ht2⟩, -⟩ := sa2'
          walk_at "go"
          first
          | refine ⟨dn, xs, sa2, c.tabs (cG.tabs (cH.tabs tb)), fun z => absurd ⟨by omega, by omega, by omega⟩ z, fun g0 g1 g2 p2 H3 s2 mn2 mx2 c3 sa3 ft2 fp2 hp2 => ?_⟩
          | refine fun g0 g1 g2 p2 H3 s2 mn2 mx2 c3 sa3 ft2 fp2 hp2 => ?_
          walk_at "go"
          refine hN _ _ ?_ ⟨by walk_at "chg", sa3, ms ++ [mn2], by simp, by simp [ml], fun j m e => ?_⟩
          · rw [List.length_map]; exact lt_line (by omega)
          · rcases Nat.lt_or_ge j ms.length with z | z
            · rw [List.getElem?_append_left z] at e; exact hm j m e
            · have : j = ms.length := by
                have := (List.getElem?_eq_some_iff.mp e).1
                simp at this; omega
              subst this
              rw [List.getElem?_append_right (Nat.le_refl _)] at e
              simp at e
              subst e
              rw [ml]
              have := ft2.2.1
              rwa [Int.zero_add] at this
    · intro c1
      walk_at "go"
      exact hE2 (by omega) _ cH
  next => exact h.elim
def L3 (a b c x y z : Int) : Prop := a < x ∨ a = x ∧ (b < y ∨ b = y ∧ c < z)
theorem lex3 {a b c x y z : Int} : HT.lexLt [a, b, c] [x, y, z] = true ↔ L3 a b c x y z := by
  unfold L3
  simp only [HT.lexLt_cons, HT.lexLt_nil_nil]
  by_cases h1 : a = x
  · rw [if_pos h1]
    by_cases h2 : b = y
    · rw [if_pos h2]
      by_cases h3 : c = z
      · rw [if_pos h3]; simp; omega
      · rw [if_neg h3]; simp; omega
    · rw [if_neg h2]; simp; omega
  · rw [if_neg h1]; simp; omega
/-- the best part that ends at i -/
def Here (xs : List Int) (i : Int) (hs hp : Int) : Prop := 0 ≤ hp ∧ hp < i ∧ hs = (sub xs hp i).sum ∧ ∀ a, 0 ≤ a → a < i → ¬ (hs < (sub xs a i).sum ∨ hs = (sub xs a i).sum ∧ a < hp)
def Best (xs : List Int) (i : Int) (nb a b : Int) : Prop := 0 ≤ a ∧ a < b ∧ b ≤ i ∧ nb = -(sub xs a b).sum ∧ ∀ a' b', 0 ≤ a' → a' < b' → b' ≤ i → ¬ L3 (-(sub xs a' b').sum) a' b' nb a b
theorem sub_self {xs : List Int} {i : Int} : sub xs i i = [] := by simp [sub]
theorem sum_sub {xs : List Int} {i : Nat} {x a : Int} (h : xs[i]? = some x) (h0 : 0 ≤ a) (h1 : a ≤ i) : (sub xs a (i + 1)).sum = (sub xs a i).sum + x := by
  rw [sub_app (m := (i : Int)) h0 h1 (by omega), sub_one (x := x) (by omega) (by simpa using h), List.sum_append]; simp
theorem here_new {xs : List Int} {i : Nat} {x : Int} (h : xs[i]? = some x) (k : i = 0 ∨ ∃ hs hp, Here xs i hs hp ∧ hs < 0) : Here xs (i + 1) x i := by
  refine ⟨by omega, by omega, by rw [sum_sub h (by omega) (Int.le_refl _), sub_self]; simp, fun a a0 a1 => ?_⟩
  rw [sum_sub h a0 (by omega)]
  rcases k with rfl | ⟨hs, hp, ⟨_, _, e, q⟩, n⟩
  · have : a = 0 := by omega
    subst this
    rw [show ((0 : Nat) : Int) = 0 from rfl, sub_self]; simp
  · by_cases z : a = i
    · subst z; rw [sub_self]; simp
    · have := q a a0 (by omega)
      omega
theorem here_more {xs : List Int} {i : Nat} {x hs hp : Int} (h : xs[i]? = some x) (k : Here xs i hs hp) (n : 0 ≤ hs) : Here xs (i + 1) (hs + x) hp := by
  obtain ⟨p0, p1, e, q⟩ := k
  refine ⟨p0, by omega, by rw [sum_sub h p0 (by omega), e], fun a a0 a1 => ?_⟩
  rw [sum_sub h a0 (by omega)]
  by_cases z : a = i
  · subst z; rw [sub_self]; simp; omega
  · have := q a a0 (by omega)
    omega
theorem best_new {xs : List Int} {i : Int} {hs hp : Int} (k : Here xs (i + 1) hs hp) (b : i = 0 ∨ ∃ nb a b, Best xs i nb a b ∧ L3 (0 - hs) hp (i + 1) nb a b) : Best xs (i + 1) (0 - hs) hp (i + 1) := by
  obtain ⟨p0, p1, e, q⟩ := k
  refine ⟨p0, p1, Int.le_refl _, by omega, fun a' b' a0 ab bi => ?_⟩
  by_cases z : b' = i + 1
  · subst z
    have := q a' a0 ab
    unfold L3
    omega
  · rcases b with rfl | ⟨nb, a, b, ⟨_, _, _, _, r⟩, l⟩
    · omega
    · have := r a' b' a0 ab (by omega)
      unfold L3 at *
      omega
theorem best_old {xs : List Int} {i : Int} {hs hp nb a b : Int} (k : Here xs (i + 1) hs hp) (r : Best xs i nb a b) (l : ¬ L3 (0 - hs) hp (i + 1) nb a b) : Best xs (i + 1) nb a b := by
  obtain ⟨p0, p1, e, q⟩ := k
  obtain ⟨r0, r1, r2, r3, r4⟩ := r
  refine ⟨r0, r1, by omega, r3, fun a' b' a0 ab bi => ?_⟩
  by_cases z : b' = i + 1
  · subst z
    have := q a' a0 ab
    unfold L3 at *
    omega
  · exact r4 a' b' a0 ab (by omega)
def sp_best_part (T : Env w K mg base) : Sp := fun vs H Q E => match vs with
  | [.ref v] => ∃ xs : List Int, SqA K H v (xs.map V.int) ∧ xs.length < 1000 ∧ (¬ (1 ≤ xs.length ∧ xs.length ≤ 500) → E (.ref T.C_SegmentError) none H) ∧
    (1 ≤ xs.length → xs.length ≤ 500 → ∀ p H' s a b, Chg T.tabs nil H H' → H p = none → H' p = some (.tup [.int s, .int a, .int b]) → 0 ≤ a → a < b → b ≤ (xs.length : Int) → s = (sub xs a b).sum → (∀ a' b', 0 ≤ a' → a' < b' → b' ≤ (xs.length : Int) → ¬ L3 (-(sub xs a' b').sum) a' b' (-s) a b) → Q (.ref p) H')
  | _ => False
theorem ok_best_part (T : Env w K mg base) : FnOk prg w K mg base (L2.CX prg w) 8 T.f_best_part T.fd_best_part ["values"] (sp_best_part T) := by
  refine T.F_best_part.ok sc_best_part (fun vs H Q E h => by unfold sp_best_part at h; split at h <;> first | rfl | exact h.elim) fun A outer s H vs Q E hr h => ?_
  refine ⟨_, (pss_cons (ps_if (pt_not (pt_chain Y.op_le Y.op_le pe_int (pe_callB (Y.lenK (K := K) rfl) (by rfl) T.no_len (by decide +kernel) (pa_cons (pv 0) pa_nil)) (pe_glob rfl T.mg_MOST_LONG T.rv_MOST_LONG))) (pss_one (ps_raise rfl (takes_of rfl rfl rfl rfl) (pmk_own PySem.F.excBase_ValueError T.x_SegmentError T.mg_SegmentError T.k_SegmentError (raises_own T.bb_SegmentError T.tt_SegmentError) rfl))) pss_nil)
  (pss_cons (ps_asg (Y.pe_tu (pa_cons pe_non (pa_cons pe_non pa_nil))) (Y.pg_tupK (K := K) (n := 2) rfl rfl (pgs_cons (pg_name (i := 1) sc_best_part.nd rfl (Or.inl rfl)) (pgs_cons (pg_name (i := 2) sc_best_part.nd rfl (Or.inl rfl)) pgs_nil))))
  (pss_cons (ps_for (passes_of rfl) rfl (Y.pi_enumK (K := K) rfl (by rfl) T.no_enumerate (pa_cons (pv 0) pa_nil)) (Y.pg_tupK (K := K) (n := 2) rfl rfl (pgs_cons (pg_name (i := 3) sc_best_part.nd rfl (Or.inl rfl)) (pgs_cons (pg_name (i := 4) sc_best_part.nd rfl (Or.inl rfl)) pgs_nil))) (pss_cons (ps_set (i := 2) sc_best_part.nd rfl (Or.inl rfl) (pe_ifExp (PW.pt (pw_or (pt_cmpR Y.op_isN (pv 2) pe_non (nomark _)) (pw_or1 (pt_cmpR Y.op_lt (pe_ix (Y.ixK (K := K) rfl) (pv 2) pe_int (fun _ _ => rfl)) pe_int (nomark _))))) (Y.pe_tu (pa_cons (pv 4) (pa_cons (pv 3) pa_nil))) (Y.pe_tu (pa_cons (pe_op (Y.op_addK (K := K) rfl) (pe_ix (Y.ixK (K := K) rfl) (pv 2) pe_int (fun _ _ => rfl)) (pv 4)) (pa_cons (pe_ix (Y.ixK (K := K) rfl) (pv 2) pe_int (fun _ _ => rfl)) pa_nil)))))
  (pss_cons (ps_set (i := 5) sc_best_part.nd rfl (Or.inl rfl) (Y.pe_tu (pa_cons (pe_op Y.op_sub pe_int (pe_ix (Y.ixK (K := K) rfl) (pv 2) pe_int (fun _ _ => rfl))) (pa_cons (pe_ix (Y.ixK (K := K) rfl) (pv 2) pe_int (fun _ _ => rfl)) (pa_cons (pe_op (Y.op_addK (K := K) rfl) (pv 3) pe_int) pa_nil)))))
  (pss_one (ps_set (i := 1) sc_best_part.nd rfl (Or.inl rfl) (pe_ifExp (PW.pt (pw_or (pt_cmpR Y.op_isN (pv 1) pe_non (nomark _)) (pw_or1 (pt_cmpR (op_ltT hr.units0) (pv 5) (pv 1) (nomark _))))) (pv 5) (pv 1)))))))
  (pss_one (ps_ret (Y.pe_tu (pa_cons (pe_op Y.op_sub pe_int (pe_ix (Y.ixK (K := K) rfl) (pv 1) pe_int (fun _ _ => rfl))) (pa_cons (pe_ix (Y.ixK (K := K) rfl) (pv 1) pe_int (fun _ _ => rfl)) (pa_cons (pe_ix (Y.ixK (K := K) rfl) (pv 1) pe_int (fun _ _ => rfl)) pa_nil))))))))), ?_⟩
  unfold sp_best_part at h
  split at h
  next v =>
    obtain ⟨xs, hv, hz, hE, h⟩ := h
    have hv' : SqL K H v (xs.map V.int) ∨ SqT K H v (xs.map V.int) := hv
    have lm : (xs.map V.int).length ≤ sizeLine := le_line (by simp; omega)
    walk_at "go"
    walk_at "if"
    · intro c1
      walk_at "go"
      walk_at "if"
      · intro c2
        walk_at "go"
        exact hE (by simp at c1 c2; omega)
      · intro c2
        have h := h (by simp at c1; omega) (by simp at c2; omega)
        walk_at "go"
        rename_i p0 G0 n0
        refine for_enumA (T := T.tabs) hv n0.chg (fun i σ G => Chg T.tabs nil H G ∧ ((i = 0 ∧ ∃ x3 x4 x5, σ = [some (.ref v), some .non, some .non, x3, x4, x5]) ∨ ∃ pb ph nb a b hs hp x3 x4 x5, σ = [some (.ref v), some (.ref pb), some (.ref ph), x3, x4, x5] ∧
          G pb = some (.tup [.int nb, .int a, .int b]) ∧ G ph = some (.tup [.int hs, .int hp]) ∧ H pb = none ∧ Best xs i nb a b ∧ Here xs i hs hp)) ⟨n0.chg, .inl ⟨rfl, none, none, none, rfl⟩⟩ (fun i σ G z => z.1) ?_ ?_
        · rintro i x σ G hx ⟨c, z⟩ p1 G1 n1
          have hi : i < xs.length := by
            have := (List.getElem?_eq_some_iff.mp hx).1
            simpa using this
          obtain ⟨y, hy, rfl⟩ : ∃ y, xs[i]? = some y ∧ x = .int y := by
            rw [List.getElem?_map, List.getElem?_eq_getElem hi] at hx
            exact ⟨_, List.getElem?_eq_getElem hi, by cases hx; rfl⟩
          rcases z with ⟨rfl, x3, x4, x5, rfl⟩ | ⟨pb, ph, nb, a, b, hs, hp, x3, x4, x5, rfl, gb, gh, fb, kb, kh⟩
          · walk_at "go"
            rename_i p2 G2 n2 p3 G3 n3
            have k : Here xs (((0 : Nat) : Int) + 1) y ((0 : Nat) : Int) := here_new hy (.inl rfl)
            refine ⟨by walk_at "chg", .inr ⟨p3, p2, 0 - y, 0, 1, y, 0, _, _, _, rfl, n3.at, by walk_at "lk", by walk_at "fr", best_new k (.inl rfl), k⟩⟩
          · walk_at "go"
            walk_at "if"
            · intro cn
              walk_at "go"
              rename_i p2 G2 n2 p3 G3 n3
              refine ⟨_, _, [0 - y, i, i + 1], [nb, a, b], rfl, rfl, SqT.of (by walk_at "lk"), SqT.of (by walk_at "lk"), ?_⟩
              have k : Here xs ((i : Int) + 1) y i := here_new hy (.inr ⟨hs, hp, kh, cn⟩)
              refine ⟨_, rfl, ?_⟩
              dsimp only
              cases el : HT.lexLt [0 - y, (i : Int), (i : Int) + 1] [nb, a, b] with
              | true =>
                walk_at "go"
                refine ⟨by walk_at "chg", .inr ⟨p3, p2, 0 - y, i, i + 1, y, i, _, _, _, rfl, n3.at, by walk_at "lk", by walk_at "fr", best_new k (.inr ⟨nb, a, b, kb, lex3.mp el⟩), k⟩⟩
              | false =>
                walk_at "go"
                refine ⟨by walk_at "chg", .inr ⟨pb, p2, nb, a, b, y, i, _, _, _, rfl, by walk_at "lk", by walk_at "lk", fb, best_old k kb (fun z => by rw [lex3.mpr z] at el; cases el), k⟩⟩
            · intro cn
              walk_at "go"
              rename_i p2 G2 n2 p3 G3 n3
              refine ⟨_, _, [0 - (hs + y), hp, i + 1], [nb, a, b], rfl, rfl, SqT.of (by walk_at "lk"), SqT.of (by walk_at "lk"), ?_⟩
              have k : Here xs ((i : Int) + 1) (hs + y) hp := here_more hy kh (by omega)
              refine ⟨_, rfl, ?_⟩
              dsimp only
              cases el : HT.lexLt [0 - (hs + y), hp, (i : Int) + 1] [nb, a, b] with
              | true =>
                walk_at "go"
                refine ⟨by walk_at "chg", .inr ⟨p3, p2, 0 - (hs + y), hp, i + 1, hs + y, hp, _, _, _, rfl, n3.at, by walk_at "lk", by walk_at "fr", best_new k (.inr ⟨nb, a, b, kb, lex3.mp el⟩), k⟩⟩
              | false =>
                walk_at "go"
                refine ⟨by walk_at "chg", .inr ⟨pb, p2, nb, a, b, hs + y, hp, _, _, _, rfl, by walk_at "lk", by walk_at "lk", fb, best_old k kb (fun z => by rw [lex3.mpr z] at el; cases el), k⟩⟩
        · rintro σ G ⟨c, z⟩
          rw [List.length_map] at z
          rcases z with ⟨z, -⟩ | ⟨pb, ph, nb, a, b, hs, hp, x3, x4, x5, rfl, gb, gh, fb, kb, kh⟩
          · simp at c1; omega
          · walk_at "go"
            rename_i pz Gz nz
            obtain ⟨r0, r1, r2, r3, r4⟩ := kb
            exact h pz _ (0 - nb) a b (by walk_at "chg") (by walk_at "fr") nz.at r0 r1 r2 (by omega) (by
              have e : -(0 - nb) = nb := by omega
              rw [e]; exact r4)
    · intro c1
      walk_at "go"
      exact hE (by simp at c1; omega)
  next => exact h.elim
end
end Z


set_option Elab.async false
set_option linter.all false
set_option maxRecDepth 100000
set_option maxHeartbeats 4000000
set_option pp.maxSteps 1500
namespace Z
open PySem PySem.Spec L2 LamX Y
local macro_rules | `(tactic| walk_at "lk") => `(tactic| first
  | assumption
  | exact Nw.at (by assumption)
  | exact Wr.at (by assumption)
  | exact Mkd.at (by assumption)
  | exact Nw.look (by assumption) (by walk_at "lk")
  | exact Mkd.look (by assumption) (by walk_at "lk")
  | exact Wr.look (by assumption) (by walk_at "lk") (by walk_at "ne")
  | exact Chg.look (by assumption) (by walk_at "lk") (by walk_at "nin") rfl
  | exact Tp.same (by assumption) _ _ (by walk_at "lk")
  | exact Grows.look (by assumption) (by walk_at "lk") rfl
  | fail)
local macro_rules | `(tactic| walk_at "ne") => `(tactic| first
  | assumption
  | exact Ne.symm (by assumption)
  | exact Nw.ne (by assumption) (by walk_at "lk")
  | exact Ne.symm (Nw.ne (by assumption) (by walk_at "lk"))
  | exact ne_fr (by assumption) (by walk_at "lk")
  | exact Ne.symm (ne_fr (by assumption) (by walk_at "lk"))
  | exact ne_fr (Mkd.nx (by assumption)) (by walk_at "lk")
  | exact Ne.symm (ne_fr (Mkd.nx (by assumption)) (by walk_at "lk"))
  | exact ne_kdn (by assumption) (by walk_at "lk") rfl
  | exact Ne.symm (ne_kdn (by assumption) (by walk_at "lk") rfl)
  | fail)
local macro_rules | `(tactic| walk_at "nin") => `(tactic| first
  | exact nin_nil
  | exact id
  | exact nin_cons (by walk_at "ne") (by walk_at "nin")
  | fail)
local macro_rules | `(tactic| walk_at "fr") => `(tactic| first
  | assumption
  | exact Nw.new (by assumption)
  | exact Mkd.nx (by assumption)
  | exact Nw.dom (by assumption) (by walk_at "fr")
  | exact Wr.dom (by assumption) (by walk_at "fr")
  | exact Mkd.dom (by assumption) (by walk_at "fr")
  | exact Chg.dom (by assumption) _ (by walk_at "fr")
  | exact Tp.dom (by assumption) _ (by walk_at "fr")
  | exact Grows.dom (by assumption) _ (by walk_at "fr")
  | fail)
local macro_rules | `(tactic| walk_at "mem") => `(tactic| first
  | assumption
  | exact List.mem_cons_self
  | (apply List.mem_cons_of_mem; walk_at "mem")
  | fail)
local macro_rules | `(tactic| walk_at "in") => `(tactic| first
  | assumption
  | (apply Or.inl; walk_at "mem")
  | (apply Or.inr; walk_at "fr")
  | fail)
local macro_rules | `(tactic| walk_at "sub") => `(tactic| first
  | exact sub_nil0
  | exact sub_nil
  | exact sub_cons (by walk_at "in") (by walk_at "sub")
  | fail)
local macro_rules | `(tactic| walk_at "chg") => `(tactic| first
  | assumption
  | exact Chg.refl _
  | exact Chg.nw (by assumption) (by walk_at "chg")
  | exact Chg.mkd (by assumption) (by walk_at "chg")
  | exact Chg.tp (by assumption) (by walk_at "chg")
  | exact Chg.gr (by assumption) (by walk_at "chg")
  | exact Chg.wr (by assumption) (by walk_at "chg") (by walk_at "in")
  | exact Chg.ch (by assumption) (by walk_at "chg") (by walk_at "sub")
  | fail)
local macro_rules | `(tactic| walk_at "sq") => `(tactic| first
  | assumption
  | exact SqL.of (by walk_at "lk")
  | exact Chg.seqL (by assumption) (by walk_at "sq") (by walk_at "nin")
  | exact SqL.nw (by assumption) (by walk_at "sq")
  | exact SqL.tp (by assumption) (by walk_at "sq")
  | exact SqL.mkd (by assumption) (by walk_at "sq")
  | exact SqL.wr (by assumption) (by walk_at "sq") (by walk_at "ne")
  | fail)
local macro_rules | `(tactic| walk_at "sqt") => `(tactic| first
  | assumption
  | exact SqT.of (by walk_at "lk")
  | exact Tp.sq (by assumption)
  | exact SqT.nw (by assumption) (by walk_at "sqt")
  | exact SqT.tp (by assumption) (by walk_at "sqt")
  | exact SqT.mkd (by assumption) (by walk_at "sqt")
  | exact SqT.chg (by assumption) (by walk_at "sqt") (by walk_at "nin")
  | fail)
local macro_rules | `(tactic| walk_at "seq") => `(tactic| first
  | assumption
  | exact .inl (by walk_at "sq")
  | exact .inr (by walk_at "sqt")
  | exact SqA.keepN (T := Env.tabs (by assumption)) (by assumption) (by walk_at "chg")
  | fail)
local macro_rules | `(tactic| walk_at "go") => `(tactic| repeat first
  | refine ⟨_, rfl, ?_⟩
  | refine ⟨_, _, _, _, rfl, And.intro (by walk_at "lk") (And.intro rfl ?_)⟩
  | refine ⟨_, _, _, rfl, And.intro (by walk_at "lk") (And.intro (by walk_at "side") ?_)⟩
  | refine ⟨_, _, And.intro rfl (And.intro rfl ?_)⟩
  | refine ⟨_, _, And.intro rfl (And.intro (by walk_at "lk") ?_)⟩
  | refine ⟨_, _, _, And.intro rfl (And.intro (by walk_at "lk") ?_)⟩
  | refine ⟨_, And.intro (by walk_at "lk") (And.intro (by walk_at "side") ?_)⟩
  | refine ⟨_, _, And.intro (by walk_at "lk") (And.intro (by walk_at "side") ?_)⟩
  | refine ⟨_, _, And.intro (by walk_at "seq") (And.intro rfl ?_)⟩
  | refine ⟨_, _, And.intro (by walk_at "seq") (And.intro (by assumption) ?_)⟩
  | refine ⟨_, And.intro (by walk_at "seq") ?_⟩
  | refine ⟨_, And.intro (by walk_at "lk") (And.intro (by walk_at "side") (And.intro (by walk_at "side") (And.intro (by walk_at "side") ?_)))⟩
  | refine .inl ⟨_, _, And.intro (by walk_at "lk") (And.intro (by walk_at "lk") (And.intro (by walk_at "side") ?_))⟩
  | refine .inr ⟨_, _, And.intro (by walk_at "sqt") (And.intro (by walk_at "sqt") (And.intro (by walk_at "side") ?_))⟩
  | refine .inl ⟨_, And.intro (by walk_at "sq") ?_⟩
  | refine .inr ⟨_, And.intro (by walk_at "sqt") ?_⟩
  | refine ⟨_, _, _, _, rfl, rfl, And.intro (by walk_at "lk") (And.intro rfl ?_)⟩
  | refine ⟨_, _, _, _, rfl, rfl, And.intro (by walk_at "lk") (And.intro (by walk_at "key") ?_)⟩
  | refine ⟨_, _, _, rfl, rfl, And.intro (by walk_at "lk") (And.intro (by walk_at "side") ?_)⟩
  | refine fun H' (n : Wr _ _ _ H') => ?_
  | refine fun p H' (n : Nw _ p _ H') => ?_
  | refine fun r H' (n : Tp _ _ r _ H') => ?_
  | refine fun x dx H' (n : Mkd _ _ x dx H') => ?_
  | refine .inl ⟨_, _, rfl, And.intro (by walk_at "sq") (fun p H' (n : Nw _ p _ H') => ?_)⟩
  | refine .inr ⟨_, _, rfl, And.intro (by walk_at "sqt") (fun r H' (n : Tp _ _ r _ H') => ?_)⟩
  | refine ⟨_, _, rfl, And.intro (by walk_at "sq") (fun p H' (n : Nw _ p _ H') => ?_)⟩
  | refine .inl (And.intro ⟨_, by walk_at "sq"⟩ ?_)
  | refine .inr (And.intro ⟨_, by walk_at "sqt"⟩ ?_)
  | refine ⟨_, _, rfl, And.intro (by walk_at "sqt") (And.intro rfl ?_)⟩
  | refine ⟨_, _, And.intro rfl ?_⟩
  | refine ⟨_, _, _, And.intro rfl ?_⟩
  | refine And.intro rfl ?_
  | (refine ite_t ?_ ?_; exact rfl)
  | (refine ite_f ?_ ?_; exact rfl)
  | refine And.intro (by walk_at "side") ?_)
local macro_rules | `(tactic| walk_at "side") => `(tactic| first
  | exact (rfl : _ = _)
  | decide
  | exact lt1000 rfl
  | with_reducible assumption
  | exact ⟨by omega, by omega⟩
  | exact .inl ⟨by omega, by omega⟩
  | exact .inr ⟨by omega, by omega⟩
  | omega
  | (apply le_line; omega)
  | (apply lt_line; omega)
  | (apply le_line; simp <;> omega)
  | (apply lt_line; simp <;> omega)
  | fail)
local macro_rules | `(tactic| walk_at "if") => `(tactic| first
  | refine ite_nd ?_ ?_
  | refine ite_d ?_ ?_
  | refine ite_eqt ?_ ?_
  | fail)
local macro_rules | `(tactic| walk_at "roll") => `(tactic| first
  | (refine And.intro (show Dice _ _ from ⟨_, _, _, by walk_at "lk"⟩) (And.intro (by walk_at "side") (And.intro (by walk_at "side") (fun r H' r0 r1 ro => ?_))); obtain ⟨a', b', c', w⟩ := ro)
  | fail)
local macro_rules | `(tactic| walk_at "run") => `(tactic| (walk_at "go"; repeat (walk_at "roll"; walk_at "go")))
local macro_rules | `(tactic| walk_at "dp") => `(tactic| first
  | exact Dp.non
  | exact Dp.int _
  | exact Dp.str _
  | exact Dp.bl _
  | exact DpAll.nil
  | exact DpAll.cons (by walk_at "dp") (by walk_at "dp")
  | exact Dp.tup (by walk_at "sqt") (by walk_at "dp")
  | exact Dp.lst (by walk_at "sq") (by walk_at "dp")
  | fail)
local macro_rules | `(tactic| walk_at "key") => `(tactic| first
  | assumption
  | fail)

section
variable {w : World} {K : PySem.W.Frag} {mg : Str → Option Value} {base : Heap}
theorem nodesL_len {f b : Int} (fb : f < b) : ∀ (d : Nat) (h e : Int), h < e → e - h ≤ lim d → ((nodesL f b d h e).length : Int) ≤ e - h
  | 0, h, e, he, hd => by have : lim 0 = 0 := rfl; omega
  | d + 1, h, e, he, hd => by
    have step : nodesL f b (d + 1) h e = if f ≤ h ∧ e ≤ b then [(h, e)] else if e ≤ f ∨ b ≤ h then [] else nodesL f b d h ((h + e) / 2) ++ nodesL f b d ((h + e) / 2) e := rfl
    rw [step]
    by_cases c1 : f ≤ h ∧ e ≤ b
    · rw [if_pos c1]; simp; omega
    · rw [if_neg c1]
      by_cases c2 : e ≤ f ∨ b ≤ h
      · rw [if_pos c2]; simp; omega
      · rw [if_neg c2]
        have := lim_half (d := d) (n := e - h) (by omega) hd
        have i1 := nodesL_len fb d h ((h + e) / 2) (by omega) (by omega)
        have i2 := nodesL_len fb d ((h + e) / 2) e (by omega) (by omega)
        rw [List.length_append]; omega
def sp__law_nodes (T : Env w K mg base) (d : Nat) : Sp := fun vs H Q _ => match vs with
  | [.int h, .int e, .int f, .int b] => f < b ∧ h < e ∧ e - h ≤ lim d ∧ e - h ≤ 1000 ∧ ∀ l H' rs, Chg T.tabs nil H H' → H l = none → H' l = some (.lst rs) → RowsV H' rs ((nodesL f b d h e).map prV) → Q (.ref l) H'
  | _ => False
theorem ok__law_nodes (T : Env w K mg base) : ∀ d, FnOk prg w K mg base (L2.CX prg w) (8 * d + 8) T.f__law_nodes T.fd__law_nodes ["here", "end", "first", "behind"] (sp__law_nodes T d) := by
  intro d
  induction d with
  | zero =>
    refine FnOk.imp Y.okNo fun vs H Q E h => ?_
    unfold sp__law_nodes at h
    split at h
    · obtain ⟨fb, he, hd, -⟩ := h
      have : lim 0 = 0 := rfl
      omega
    · exact h
  | succ d ih =>
  refine T.F__law_nodes.ok sc__law_nodes (fun vs H Q E h => by unfold sp__law_nodes at h; split at h <;> first | rfl | exact h.elim) fun A outer s H vs Q E hr h => ?_
  refine ⟨_, (pss_cons (ps_if (PW.pt (pw_and (pt_cmpR Y.op_le (pv 2) (pv 0) (nomark _)) (pw_and1 (pt_cmpR Y.op_le (pv 1) (pv 3) (nomark _))))) (pss_one (ps_ret (Y.pe_ls (pa_cons (Y.pe_tu (pa_cons (pv 0) (pa_cons (pv 1) pa_nil))) pa_nil)))) pss_nil)
  (pss_cons (ps_if (PW.pt (pw_or (pt_cmpR Y.op_le (pv 1) (pv 2) (nomark _)) (pw_or1 (pt_cmpR Y.op_le (pv 3) (pv 0) (nomark _))))) (pss_one (ps_ret (Y.pe_ls pa_nil))) pss_nil)
  (pss_cons (ps_set (i := 4) sc__law_nodes.nd rfl (Or.inl rfl) (pe_op Y.op_fdiv (pe_op (Y.op_addK (K := K) rfl) (pv 0) (pv 1)) pe_int))
  (pss_one (ps_ret (pe_op (Y.op_addK (K := K) rfl) (pe_call ih (hr.mono (by omega)) rfl T.mg__law_nodes T.F__law_nodes.kp T.b__law_nodes .nil (Y.passD rfl rfl rfl rfl) (pa_cons (pv 0) (pa_cons (pv 4) (pa_cons (pv 2) (pa_cons (pv 3) pa_nil))))) (pe_call ih (hr.mono (by omega)) rfl T.mg__law_nodes T.F__law_nodes.kp T.b__law_nodes .nil (Y.passD rfl rfl rfl rfl) (pa_cons (pv 4) (pa_cons (pv 1) (pa_cons (pv 2) (pa_cons (pv 3) pa_nil))))))))))), ?_⟩
  unfold sp__law_nodes at h
  split at h
  next hh e f b =>
    obtain ⟨fb, he, hd, hz, h⟩ := h
    have step : nodesL f b (d + 1) hh e = if f ≤ hh ∧ e ≤ b then [(hh, e)] else if e ≤ f ∨ b ≤ hh then [] else nodesL f b d hh ((hh + e) / 2) ++ nodesL f b d ((hh + e) / 2) e := rfl
    rw [step] at h
    refine join2 (fun σ G => ¬ (f ≤ hh ∧ e ≤ b) ∧ G = H ∧ σ = L2.start N__law_nodes [V.int hh, V.int e, V.int f, V.int b]) ?_ ?_
    · rintro σ G ⟨cn, rfl, rfl⟩
      rw [if_neg cn] at h
      refine join2 (fun σ G' => ¬ (e ≤ f ∨ b ≤ hh) ∧ G' = G ∧ σ = L2.start N__law_nodes [V.int hh, V.int e, V.int f, V.int b]) ?_ ?_
      · rintro σ G ⟨cm, rfl, rfl⟩
        rw [if_neg cm] at h
        have lh := lim_half (d := d) (n := e - hh) (by omega) hd
        have i1 := nodesL_len fb d hh ((hh + e) / 2) (by omega) (by omega)
        have i2 := nodesL_len fb d ((hh + e) / 2) e (by omega) (by omega)
        walk_at "go"
        intro l1 H1 rs1 c1 f1 g1 r1
        have z1 : rs1.length = (nodesL f b d hh ((hh + e) / 2)).length := by have := r1.len; rwa [List.length_map] at this
        walk_at "go"
        intro l2 H2 rs2 c2 f2 g2 r2
        have z2 : rs2.length = (nodesL f b d ((hh + e) / 2) e).length := by have := r2.len; rwa [List.length_map] at this
        have zz : rs1.length + rs2.length ≤ sizeLine := le_line (by omega)
        walk_at "go"
        rename_i l3 H3 n3
        refine h l3 H3 (rs1 ++ rs2) (by walk_at "chg") (by walk_at "fr") n3.at ?_
        rw [List.map_append]
        exact (r1.keepN (T := T.tabs) (by walk_at "chg")).app (r2.keepN (T := T.tabs) (by walk_at "chg"))
      · intro N0 hN0
        walk_at "go"
        walk_at "if"
        · intro c1
          rw [if_pos (.inl c1)] at h
          walk_at "go"
          rename_i l H1 n1
          exact h l H1 [] (by walk_at "chg") n1.new n1.at .nil
        · intro c1
          walk_at "go"
          walk_at "if"
          · intro c2
            rw [if_pos (.inr c2)] at h
            walk_at "go"
            rename_i l H1 n1
            exact h l H1 [] (by walk_at "chg") n1.new n1.at .nil
          · intro c2
            exact hN0 _ _ ⟨by omega, rfl, rfl⟩
    · intro N0 hN0
      walk_at "go"
      walk_at "if"
      · intro c1
        walk_at "go"
        walk_at "if"
        · intro c2
          rw [if_pos ⟨c1, c2⟩] at h
          walk_at "go"
          rename_i p H1 n1 l H2 n2
          exact h l H2 [.ref p] (by walk_at "chg") (by walk_at "fr") n2.at (.cons ⟨p, rfl, by walk_at "lk"⟩ .nil)
        · intro c2
          walk_at "go"
          exact hN0 _ _ ⟨by omega, rfl, rfl⟩
      · intro c1
        walk_at "go"
        exact hN0 _ _ ⟨by omega, rfl, rfl⟩
  next => exact h.elim
end
end Z


set_option Elab.async false
set_option linter.all false
set_option maxRecDepth 100000
set_option maxHeartbeats 4000000
set_option pp.maxSteps 1500
namespace Z
open PySem PySem.Spec L2 LamX Y
local macro_rules | `(tactic| walk_at "lk") => `(tactic| first
  | assumption
  | exact Nw.at (by assumption)
  | exact Wr.at (by assumption)
  | exact Mkd.at (by assumption)
  | exact Nw.look (by assumption) (by walk_at "lk")
  | exact Mkd.look (by assumption) (by walk_at "lk")
  | exact Wr.look (by assumption) (by walk_at "lk") (by walk_at "ne")
  | exact Chg.look (by assumption) (by walk_at "lk") (by walk_at "nin") rfl
  | exact Tp.same (by assumption) _ _ (by walk_at "lk")
  | exact Grows.look (by assumption) (by walk_at "lk") rfl
  | fail)
local macro_rules | `(tactic| walk_at "ne") => `(tactic| first
  | assumption
  | exact Ne.symm (by assumption)
  | exact Nw.ne (by assumption) (by walk_at "lk")
  | exact Ne.symm (Nw.ne (by assumption) (by walk_at "lk"))
  | exact ne_fr (by assumption) (by walk_at "lk")
  | exact Ne.symm (ne_fr (by assumption) (by walk_at "lk"))
  | exact ne_fr (Mkd.nx (by assumption)) (by walk_at "lk")
  | exact Ne.symm (ne_fr (Mkd.nx (by assumption)) (by walk_at "lk"))
  | exact ne_kdn (by assumption) (by walk_at "lk") rfl
  | exact Ne.symm (ne_kdn (by assumption) (by walk_at "lk") rfl)
  | fail)
local macro_rules | `(tactic| walk_at "nin") => `(tactic| first
  | exact nin_nil
  | exact id
  | exact nin_cons (by walk_at "ne") (by walk_at "nin")
  | fail)
local macro_rules | `(tactic| walk_at "fr") => `(tactic| first
  | assumption
  | exact Nw.new (by assumption)
  | exact Mkd.nx (by assumption)
  | exact Nw.dom (by assumption) (by walk_at "fr")
  | exact Wr.dom (by assumption) (by walk_at "fr")
  | exact Mkd.dom (by assumption) (by walk_at "fr")
  | exact Chg.dom (by assumption) _ (by walk_at "fr")
  | exact Tp.dom (by assumption) _ (by walk_at "fr")
  | exact Grows.dom (by assumption) _ (by walk_at "fr")
  | fail)
local macro_rules | `(tactic| walk_at "mem") => `(tactic| first
  | assumption
  | exact List.mem_cons_self
  | (apply List.mem_cons_of_mem; walk_at "mem")
  | fail)
local macro_rules | `(tactic| walk_at "in") => `(tactic| first
  | assumption
  | (apply Or.inl; walk_at "mem")
  | (apply Or.inr; walk_at "fr")
  | fail)
local macro_rules | `(tactic| walk_at "sub") => `(tactic| first
  | exact sub_nil0
  | exact sub_nil
  | exact sub_cons (by walk_at "in") (by walk_at "sub")
  | fail)
local macro_rules | `(tactic| walk_at "chg") => `(tactic| first
  | assumption
  | exact Chg.refl _
  | exact Chg.nw (by assumption) (by walk_at "chg")
  | exact Chg.mkd (by assumption) (by walk_at "chg")
  | exact Chg.tp (by assumption) (by walk_at "chg")
  | exact Chg.gr (by assumption) (by walk_at "chg")
  | exact Chg.wr (by assumption) (by walk_at "chg") (by walk_at "in")
  | exact Chg.ch (by assumption) (by walk_at "chg") (by walk_at "sub")
  | fail)
local macro_rules | `(tactic| walk_at "sq") => `(tactic| first
  | assumption
  | exact SqL.of (by walk_at "lk")
  | exact Chg.seqL (by assumption) (by walk_at "sq") (by walk_at "nin")
  | exact SqL.nw (by assumption) (by walk_at "sq")
  | exact SqL.tp (by assumption) (by walk_at "sq")
  | exact SqL.mkd (by assumption) (by walk_at "sq")
  | exact SqL.wr (by assumption) (by walk_at "sq") (by walk_at "ne")
  | fail)
local macro_rules | `(tactic| walk_at "sqt") => `(tactic| first
  | assumption
  | exact SqT.of (by walk_at "lk")
  | exact Tp.sq (by assumption)
  | exact SqT.nw (by assumption) (by walk_at "sqt")
  | exact SqT.tp (by assumption) (by walk_at "sqt")
  | exact SqT.mkd (by assumption) (by walk_at "sqt")
  | exact SqT.chg (by assumption) (by walk_at "sqt") (by walk_at "nin")
  | fail)
local macro_rules | `(tactic| walk_at "seq") => `(tactic| first
  | assumption
  | exact .inl (by walk_at "sq")
  | exact .inr (by walk_at "sqt")
  | exact SqA.keepN (T := Env.tabs (by assumption)) (by assumption) (by walk_at "chg")
  | fail)
local macro_rules | `(tactic| walk_at "go") => `(tactic| repeat first
  | refine ⟨_, rfl, ?_⟩
  | refine ⟨_, _, _, _, rfl, And.intro (by walk_at "lk") (And.intro rfl ?_)⟩
  | refine ⟨_, _, _, rfl, And.intro (by walk_at "lk") (And.intro (by walk_at "side") ?_)⟩
  | refine ⟨_, _, And.intro rfl (And.intro rfl ?_)⟩
  | refine ⟨_, _, And.intro rfl (And.intro (by walk_at "lk") ?_)⟩
  | refine ⟨_, _, _, And.intro rfl (And.intro (by walk_at "lk") ?_)⟩
  | refine ⟨_, And.intro (by walk_at "lk") (And.intro (by walk_at "side") ?_)⟩
  | refine ⟨_, _, And.intro (by walk_at "lk") (And.intro (by walk_at "side") ?_)⟩
  | refine ⟨_, _, And.intro (by walk_at "seq") (And.intro rfl ?_)⟩
  | refine ⟨_, _, And.intro (by walk_at "seq") (And.intro (by assumption) ?_)⟩
  | refine ⟨_, And.intro (by walk_at "seq") ?_⟩
  | refine ⟨_, And.intro (by walk_at "lk") (And.intro (by walk_at "side") (And.intro (by walk_at "side") (And.intro (by walk_at "side") ?_)))⟩
  | refine .inl ⟨_, _, And.intro (by walk_at "lk") (And.intro (by walk_at "lk") (And.intro (by walk_at "side") ?_))⟩
  | refine .inr ⟨_, _, And.intro (by walk_at "sqt") (And.intro (by walk_at "sqt") (And.intro (by walk_at "side") ?_))⟩
  | refine .inl ⟨_, And.intro (by walk_at "sq") ?_⟩
  | refine .inr ⟨_, And.intro (by walk_at "sqt") ?_⟩
  | refine ⟨_, _, _, _, rfl, rfl, And.intro (by walk_at "lk") (And.intro rfl ?_)⟩
  | refine ⟨_, _, _, _, rfl, rfl, And.intro (by walk_at "lk") (And.intro (by walk_at "key") ?_)⟩
  | refine ⟨_, _, _, rfl, rfl, And.intro (by walk_at "lk") (And.intro (by walk_at "side") ?_)⟩
  | refine fun H' (n : Wr _ _ _ H') => ?_
  | refine fun p H' (n : Nw _ p _ H') => ?_
  | refine fun r H' (n : Tp _ _ r _ H') => ?_
  | refine fun x dx H' (n : Mkd _ _ x dx H') => ?_
  | refine .inl ⟨_, _, rfl, And.intro (by walk_at "sq") (fun p H' (n : Nw _ p _ H') => ?_)⟩
  | refine .inr ⟨_, _, rfl, And.intro (by walk_at "sqt") (fun r H' (n : Tp _ _ r _ H') => ?_)⟩
  | refine ⟨_, _, rfl, And.intro (by walk_at "sq") (fun p H' (n : Nw _ p _ H') => ?_)⟩
  | refine .inl (And.intro ⟨_, by walk_at "sq"⟩ ?_)
  | refine .inr (And.intro ⟨_, by walk_at "sqt"⟩ ?_)
  | refine ⟨_, _, rfl, And.intro (by walk_at "sqt") (And.intro rfl ?_)⟩
  | refine ⟨_, _, And.intro rfl ?_⟩
  | refine ⟨_, _, _, And.intro rfl ?_⟩
  | refine And.intro rfl ?_
  | (refine ite_t ?_ ?_; exact rfl)
  | (refine ite_f ?_ ?_; exact rfl)
  | refine And.intro (by walk_at "side") ?_)
local macro_rules | `(tactic| walk_at "side") => `(tactic| first
  | exact (rfl : _ = _)
  | decide
  | exact lt1000 rfl
  | with_reducible assumption
  | exact ⟨by omega, by omega⟩
  | exact .inl ⟨by omega, by omega⟩
  | exact .inr ⟨by omega, by omega⟩
  | omega
  | (apply le_line; omega)
  | (apply lt_line; omega)
  | (apply le_line; simp <;> omega)
  | (apply lt_line; simp <;> omega)
  | fail)
local macro_rules | `(tactic| walk_at "if") => `(tactic| first
  | refine ite_nd ?_ ?_
  | refine ite_d ?_ ?_
  | refine ite_eqt ?_ ?_
  | fail)
local macro_rules | `(tactic| walk_at "roll") => `(tactic| first
  | (refine And.intro (show Dice _ _ from ⟨_, _, _, by walk_at "lk"⟩) (And.intro (by walk_at "side") (And.intro (by walk_at "side") (fun r H' r0 r1 ro => ?_))); obtain ⟨a', b', c', w⟩ := ro)
  | fail)
local macro_rules | `(tactic| walk_at "run") => `(tactic| (walk_at "go"; repeat (walk_at "roll"; walk_at "go")))
local macro_rules | `(tactic| walk_at "dp") => `(tactic| first
  | exact Dp.non
  | exact Dp.int _
  | exact Dp.str _
  | exact Dp.bl _
  | exact DpAll.nil
  | exact DpAll.cons (by walk_at "dp") (by walk_at "dp")
  | exact Dp.tup (by walk_at "sqt") (by walk_at "dp")
  | exact Dp.lst (by walk_at "sq") (by walk_at "dp")
  | fail)
local macro_rules | `(tactic| walk_at "key") => `(tactic| first
  | assumption
  | fail)

section
variable {w : World} {K : PySem.W.Frag} {mg : Str → Option Value} {base : Heap}
theorem SegAt.other {T : Env w K mg base} {H H' : Hp} {t dn t2 d2 : Addr} {xs ys : List Int} (h : SegAt T H t dn xs) (a : SegAt T H t2 d2 ys) (ne : dn ≠ d2) (c : Chg T.tabs (Y.In [d2]) H H') : SegAt T H' t dn xs := by
  obtain ⟨N2, L2, -, ⟨kv2, g2, -⟩, -⟩ := a
  have h0 := h
  obtain ⟨N, L, ⟨dx, ht⟩, -⟩ := h0
  refine h.keep c (fun z => ?_) (fun z => ?_) fun x r e z => ?_
  · obtain rfl : t = d2 := by simpa [Y.In] using z
    rw [g2] at ht; cases ht
  · exact ne (by simpa [Y.In] using z)
  · obtain rfl : x = d2 := by simpa [Y.In] using z
    rw [g2] at e; cases e
def plainHO : HO → Bool
  | .lst _ => true
  | .tup _ => true
  | .ext _ => true
  | _ => false
/-- two trees, and what else stands -/
structure Wp (T : Env w K mg base) (H G : Hp) (p1 d1 : Addr) (xs : List Int) (p2 d2 : Addr) (ys : List Int) (L : List (Addr × HO)) : Prop where
  a : SegAt T G p1 d1 xs
  b : SegAt T G p2 d2 ys
  ne : d1 ≠ d2
  f1 : H d1 = none
  f2 : H d2 = none
  c : Chg T.tabs nil H G
  tb : Tabs T.tabs G
  all : ∀ q ∈ L, G q.1 = some q.2 ∧ plainHO q.2 = true
section
variable {T : Env w K mg base} {H G G' : Hp} {p1 d1 p2 d2 x : Addr} {xs ys zs : List Int} {L : List (Addr × HO)} {o : HO}
theorem SegAt.dk (h : SegAt T G p1 d1 xs) : ∃ kvs, G d1 = some (.dK kvs) := by obtain ⟨_, _, -, ⟨k, e, -⟩, -⟩ := h; exact ⟨k, e⟩
theorem SegAt.ob (h : SegAt T G p1 d1 xs) : ∃ dx, G p1 = some (.ins T.C_Segments dx (fsS xs.length d1)) := by obtain ⟨_, _, h, -⟩ := h; exact h
theorem plain_tbl (h : plainHO o = true) : isTbl o = false := by cases o <;> first | rfl | simp [plainHO] at h
theorem Wp.keepO (h : SegAt T G p1 d1 xs) (c : Chg T.tabs (Y.In [d1]) G G') (e : G x = some o) (k : plainHO o = true) : G' x = some o := by
  obtain ⟨kv, g⟩ := h.dk
  refine c.look e (fun z => ?_) (plain_tbl k)
  obtain rfl : x = d1 := by simpa [Y.In] using z
  rw [g] at e; cases e; simp [plainHO] at k
theorem Wp.idle (h : Wp T H G p1 d1 xs p2 d2 ys L) (c : Chg T.tabs nil G G') : Wp T H G' p1 d1 xs p2 d2 ys L :=
  ⟨h.a.keep c id id fun _ _ _ z => z, h.b.keep c id id fun _ _ _ z => z, h.ne, h.f1, h.f2, h.c.trans c fun _ z => z.elim, c.tabs h.tb, fun q hq => ⟨c.look (h.all q hq).1 id (plain_tbl (h.all q hq).2), (h.all q hq).2⟩⟩
theorem Wp.op1 (h : Wp T H G p1 d1 xs p2 d2 ys L) (c : Chg T.tabs (Y.In [d1]) G G') (s : SegAt T G' p1 d1 zs) : Wp T H G' p1 d1 zs p2 d2 ys L :=
  ⟨s, h.b.other h.a h.ne.symm c, h.ne, h.f1, h.f2, h.c.trans c fun b z => by
    obtain rfl : b = d1 := by simpa [Y.In] using z
    exact .inr h.f1, c.tabs h.tb, fun q hq => ⟨Wp.keepO h.a c (h.all q hq).1 (h.all q hq).2, (h.all q hq).2⟩⟩
theorem Wp.op2 (h : Wp T H G p1 d1 xs p2 d2 ys L) (c : Chg T.tabs (Y.In [d2]) G G') (s : SegAt T G' p2 d2 zs) : Wp T H G' p1 d1 xs p2 d2 zs L :=
  ⟨h.a.other h.b h.ne c, s, h.ne, h.f1, h.f2, h.c.trans c fun b z => by
    obtain rfl : b = d2 := by simpa [Y.In] using z
    exact .inr h.f2, c.tabs h.tb, fun q hq => ⟨Wp.keepO h.b c (h.all q hq).1 (h.all q hq).2, (h.all q hq).2⟩⟩
theorem Wp.add (h : Wp T H G p1 d1 xs p2 d2 ys L) (e : G x = some o) (k : plainHO o = true) : Wp T H G p1 d1 xs p2 d2 ys ((x, o) :: L) :=
  ⟨h.a, h.b, h.ne, h.f1, h.f2, h.c, h.tb, fun q hq => by
    rcases List.mem_cons.mp hq with rfl | z
    · exact ⟨e, k⟩
    · exact h.all q z⟩
theorem Wp.get (h : Wp T H G p1 d1 xs p2 d2 ys L) (m : (x, o) ∈ L) : G x = some o := (h.all _ m).1
theorem Wp.sub {L' : List (Addr × HO)} (h : Wp T H G p1 d1 xs p2 d2 ys L) (s : ∀ q ∈ L', q ∈ L) : Wp T H G p1 d1 xs p2 d2 ys L' :=
  ⟨h.a, h.b, h.ne, h.f1, h.f2, h.c, h.tb, fun q hq => h.all q (s q hq)⟩
end
theorem fits3 {s mn mx s' mn' mx' : Int} {xs : List Int} (f : Fits s mn mx xs) (g : Fits s' mn' mx' xs) : s = s' ∧ mn = mn' ∧ mx = mx' :=
  ⟨f.1.trans g.1.symm, Int.le_antisymm (f.2.1.2 _ g.2.1.1) (g.2.1.2 _ f.2.1.1), Int.le_antisymm (g.2.2.2 _ f.2.2.1) (f.2.2.2 _ g.2.2.1)⟩
def preA (T : Env w K mg base) (H : Hp) (D : Ends) (G : Hp) : Prop := Tabs T.tabs H ∧ ∀ H', Chg T.tabs nil H H' → D.rt (.bl true) H'
def pre__law_plain_1 (T : Env w K mg base) (H : Hp) (D : Ends) (σ : L2.St) (G : Hp) : Prop := preA T H D G ∧ ∃ p1 d1 p2 d2, σ = [some (.ref p1), some (.ref p2), none, none, none] ∧ Wp T H G p1 d1 [3, 1, 4, 1, 5] p2 d2 [1, -1] []
def tp (l : List Int) : HO := .tup (l.map V.int)
def pre__law_plain_2 (T : Env w K mg base) (H : Hp) (D : Ends) (σ : L2.St) (G : Hp) : Prop := preA T H D G ∧ ∃ p1 d1 p2 d2 o t1 t2 t3, σ = [some (.ref p1), some (.ref p2), some (.ref o), none, none] ∧
  Wp T H G p1 d1 [5, 3, 7, 7, 5] p2 d2 [1, -1] [(o, .lst [.ref t1, .non, .non, .ref t2, .int 2, .ref t3]), (t1, .tup [.int 6, .int 1, .int 4]), (t2, .tup [.int 5, .int 3, .int 7, .int 7, .int 5]), (t3, .tup [.int 1])]
def LT3 (o t1 t2 t3 t4 q1 q2 q3 t5 t6 : Addr) : List (Addr × HO) := [(o, .lst [.ref t1, .non, .non, .ref t2, .int 2, .ref t3, .int 2, .ref t4, .ref t5, .ref t6, .non]), (t1, .tup [.int 6, .int 1, .int 4]), (t2, .tup [.int 5, .int 3, .int 7, .int 7, .int 5]), (t3, .tup [.int 1]),
  (t4, .tup [.ref q1, .ref q2, .ref q3]), (q1, .tup [.int 1, .int 2]), (q2, .tup [.int 2, .int 3]), (q3, .tup [.int 3, .int 4]), (t5, .tup [.int 7, .int 2, .int 4]), (t6, .tup [.int 1, .int 1])]
def pre__law_plain_3 (T : Env w K mg base) (H : Hp) (D : Ends) (σ : L2.St) (G : Hp) : Prop := preA T H D G ∧ ∃ p1 d1 p2 d2 o t1 t2 t3 t4 q1 q2 q3 t5 t6, σ = [some (.ref p1), some (.ref p2), some (.ref o), none, none] ∧
  Wp T H G p1 d1 [5, 3, 7, 7, 5] p2 d2 [1, -1] (LT3 o t1 t2 t3 t4 q1 q2 q3 t5 t6)
def LT4 (o t1 t2 t3 t4 q1 q2 q3 t5 t6 t7 t8 t9 : Addr) : List (Addr × HO) := [(o, .lst [.ref t1, .non, .non, .ref t2, .int 2, .ref t3, .int 2, .ref t4, .ref t5, .ref t6, .non, .ref t7, .ref t8, .ref t9, .non, .non]), (t1, .tup [.int 6, .int 1, .int 4]), (t2, .tup [.int 5, .int 3, .int 7, .int 7, .int 5]), (t3, .tup [.int 1]),
  (t4, .tup [.ref q1, .ref q2, .ref q3]), (q1, .tup [.int 1, .int 2]), (q2, .tup [.int 2, .int 3]), (q3, .tup [.int 3, .int 4]), (t5, .tup [.int 7, .int 2, .int 4]), (t6, .tup [.int 1, .int 1]), (t7, .tup [.int 27, .int 3, .int 7]), (t8, .tup [.int (-1), .int 0, .int 1]), (t9, .tup [.int 5])]
def pre__law_plain_4 (T : Env w K mg base) (H : Hp) (D : Ends) (σ : L2.St) (G : Hp) : Prop := preA T H D G ∧ ∃ p1 d1 p2 d2 o t1 t2 t3 t4 q1 q2 q3 t5 t6 t7 t8 t9, σ = [some (.ref p1), some (.ref p2), some (.ref o), none, none] ∧
  Wp T H G p1 d1 [5, 3, 7, 7, 5] p2 d2 [1, -1] (LT4 o t1 t2 t3 t4 q1 q2 q3 t5 t6 t7 t8 t9)
/-- v is a lambda that raises SegmentError, and changes nothing but how low's nodes are laid -/
def Bad (X : Cx) (T : Env w K mg base) (p1 d1 p2 d2 : Addr) (G : Hp) (v : V) : Prop := ∃ f t, v = .ref f ∧ IsLam X 88 G f t ∧ ∀ G', (SegAt T G' p1 d1 [5, 3, 7, 7, 5] ∧ SegAt T G' p2 d2 [1, -1] ∧ d1 ≠ d2 ∧ Tabs T.tabs G') → ∀ Q0 : VK,
  (∀ G'', Chg T.tabs (Y.In [d2]) G' G'' → SegAt T G'' p2 d2 [1, -1] → Q0 (.str "SegmentError") G'') → ∀ y2 y3 y4, t (ErrTo X T.C_SegmentError "SegmentError" Q0) [some (.ref p1), some (.ref p2), y2, y3, y4] G' Q0
def BadL (X : Cx) (T : Env w K mg base) (p1 d1 p2 d2 : Addr) (bs : List V) (G : Hp) : Prop := ∀ v ∈ bs, Bad X T p1 d1 p2 d2 G v
section
variable {X : Cx} {T : Env w K mg base} {p1 d1 p2 d2 : Addr} {bs : List V} {G G' : Hp} {v : V}
theorem Bad.mono (b : Bad X T p1 d1 p2 d2 G v) (c : Chg T.tabs nil G G') : Bad X T p1 d1 p2 d2 G' v :=
  let ⟨f, t, e, L, h⟩ := b; ⟨f, t, e, L.chg c (fun _ z => z.elim), h⟩
theorem Bad.mono2 (b : Bad X T p1 d1 p2 d2 G v) (c : Chg T.tabs (Y.In [d2]) G G') (s : SegAt T G p2 d2 [1, -1]) : Bad X T p1 d1 p2 d2 G' v :=
  let ⟨f, t, e, L, h⟩ := b; ⟨f, t, e, L.chg c (fun x z o q => by
    obtain ⟨kv, g⟩ := s.dk
    obtain rfl : x = d2 := by simpa [Y.In] using z
    rw [g] at q; cases q; rfl), h⟩
theorem BadL.mono (b : BadL X T p1 d1 p2 d2 bs G) (c : Chg T.tabs nil G G') : BadL X T p1 d1 p2 d2 bs G' := fun v h => (b v h).mono c
theorem BadL.snoc (b : BadL X T p1 d1 p2 d2 bs G) (h : Bad X T p1 d1 p2 d2 G v) : BadL X T p1 d1 p2 d2 (bs ++ [v]) G := fun u hu => by
  rcases List.mem_append.mp hu with z | z
  · exact b u z
  · simp at z; subst z; exact h
end
def pre__law_plain_9 (X : Cx) (T : Env w K mg base) (H : Hp) (D : Ends) (σ : L2.St) (G : Hp) : Prop := preA T H D G ∧ ∃ p1 d1 p2 d2 o t1 t2 t3 t4 q1 q2 q3 t5 t6 t7 t8 t9 bd bs, σ = [some (.ref p1), some (.ref p2), some (.ref o), some (.ref bd), none] ∧ BadL X T p1 d1 p2 d2 bs G ∧
  Wp T H G p1 d1 [5, 3, 7, 7, 5] p2 d2 [1, -1] ((bd, .lst bs) :: LT4 o t1 t2 t3 t4 q1 q2 q3 t5 t6 t7 t8 t9)
theorem rep_ints (n : Nat) (x : Int) : (List.replicate n [V.int x]).flatten = (List.replicate n x).map V.int := by
  induction n with
  | zero => rfl
  | succ n ih => rw [List.replicate_succ, List.flatten_cons, ih, List.replicate_succ]; rfl
end
end Z


set_option Elab.async false
set_option linter.all false
set_option maxRecDepth 100000
set_option maxHeartbeats 4000000
set_option pp.maxSteps 1500
namespace Z
open PySem PySem.Spec L2 LamX Y
local macro_rules | `(tactic| walk_at "lk") => `(tactic| first
  | assumption
  | exact Nw.at (by assumption)
  | exact Wr.at (by assumption)
  | exact Mkd.at (by assumption)
  | exact Nw.look (by assumption) (by walk_at "lk")
  | exact Mkd.look (by assumption) (by walk_at "lk")
  | exact Wr.look (by assumption) (by walk_at "lk") (by walk_at "ne")
  | exact Chg.look (by assumption) (by walk_at "lk") (by walk_at "nin") rfl
  | exact Tp.same (by assumption) _ _ (by walk_at "lk")
  | exact Grows.look (by assumption) (by walk_at "lk") rfl
  | fail)
local macro_rules | `(tactic| walk_at "ne") => `(tactic| first
  | assumption
  | exact Ne.symm (by assumption)
  | exact Nw.ne (by assumption) (by walk_at "lk")
  | exact Ne.symm (Nw.ne (by assumption) (by walk_at "lk"))
  | exact ne_fr (by assumption) (by walk_at "lk")
  | exact Ne.symm (ne_fr (by assumption) (by walk_at "lk"))
  | exact ne_fr (Mkd.nx (by assumption)) (by walk_at "lk")
  | exact Ne.symm (ne_fr (Mkd.nx (by assumption)) (by walk_at "lk"))
  | exact ne_kdn (by assumption) (by walk_at "lk") rfl
  | exact Ne.symm (ne_kdn (by assumption) (by walk_at "lk") rfl)
  | fail)
local macro_rules | `(tactic| walk_at "nin") => `(tactic| first
  | exact nin_nil
  | exact id
  | exact nin_cons (by walk_at "ne") (by walk_at "nin")
  | fail)
local macro_rules | `(tactic| walk_at "fr") => `(tactic| first
  | assumption
  | exact Nw.new (by assumption)
  | exact Mkd.nx (by assumption)
  | exact Nw.dom (by assumption) (by walk_at "fr")
  | exact Wr.dom (by assumption) (by walk_at "fr")
  | exact Mkd.dom (by assumption) (by walk_at "fr")
  | exact Chg.dom (by assumption) _ (by walk_at "fr")
  | exact Tp.dom (by assumption) _ (by walk_at "fr")
  | exact Grows.dom (by assumption) _ (by walk_at "fr")
  | fail)
local macro_rules | `(tactic| walk_at "mem") => `(tactic| first
  | assumption
  | exact List.mem_cons_self
  | (apply List.mem_cons_of_mem; walk_at "mem")
  | fail)
local macro_rules | `(tactic| walk_at "in") => `(tactic| first
  | assumption
  | (apply Or.inl; walk_at "mem")
  | (apply Or.inr; walk_at "fr")
  | fail)
local macro_rules | `(tactic| walk_at "sub") => `(tactic| first
  | exact sub_nil0
  | exact sub_nil
  | exact sub_cons (by walk_at "in") (by walk_at "sub")
  | fail)
local macro_rules | `(tactic| walk_at "chg") => `(tactic| first
  | assumption
  | exact Chg.refl _
  | exact Chg.nw (by assumption) (by walk_at "chg")
  | exact Chg.mkd (by assumption) (by walk_at "chg")
  | exact Chg.tp (by assumption) (by walk_at "chg")
  | exact Chg.gr (by assumption) (by walk_at "chg")
  | exact Chg.wr (by assumption) (by walk_at "chg") (by walk_at "in")
  | exact Chg.ch (by assumption) (by walk_at "chg") (by walk_at "sub")
  | fail)
local macro_rules | `(tactic| walk_at "sq") => `(tactic| first
  | assumption
  | exact SqL.of (by walk_at "lk")
  | exact Chg.seqL (by assumption) (by walk_at "sq") (by walk_at "nin")
  | exact SqL.nw (by assumption) (by walk_at "sq")
  | exact SqL.tp (by assumption) (by walk_at "sq")
  | exact SqL.mkd (by assumption) (by walk_at "sq")
  | exact SqL.wr (by assumption) (by walk_at "sq") (by walk_at "ne")
  | fail)
local macro_rules | `(tactic| walk_at "sqt") => `(tactic| first
  | assumption
  | exact SqT.of (by walk_at "lk")
  | exact Tp.sq (by assumption)
  | exact SqT.nw (by assumption) (by walk_at "sqt")
  | exact SqT.tp (by assumption) (by walk_at "sqt")
  | exact SqT.mkd (by assumption) (by walk_at "sqt")
  | exact SqT.chg (by assumption) (by walk_at "sqt") (by walk_at "nin")
  | fail)
local macro_rules | `(tactic| walk_at "seq") => `(tactic| first
  | assumption
  | exact .inl (by walk_at "sq")
  | exact .inr (by walk_at "sqt")
  | exact SqA.keepN (T := Env.tabs (by assumption)) (by assumption) (by walk_at "chg")
  | fail)
local macro_rules | `(tactic| walk_at "go") => `(tactic| repeat first
  | refine ⟨_, rfl, ?_⟩
  | refine ⟨_, _, _, _, rfl, And.intro (by walk_at "lk") (And.intro rfl ?_)⟩
  | refine ⟨_, _, _, rfl, And.intro (by walk_at "lk") (And.intro (by walk_at "side") ?_)⟩
  | refine ⟨_, _, And.intro rfl (And.intro rfl ?_)⟩
  | refine ⟨_, _, And.intro rfl (And.intro (by walk_at "lk") ?_)⟩
  | refine ⟨_, _, _, And.intro rfl (And.intro (by walk_at "lk") ?_)⟩
  | refine ⟨_, And.intro (by walk_at "lk") (And.intro (by walk_at "side") ?_)⟩
  | refine ⟨_, _, And.intro (by walk_at "lk") (And.intro (by walk_at "side") ?_)⟩
  | refine ⟨_, _, And.intro (by walk_at "seq") (And.intro rfl ?_)⟩
  | refine ⟨_, _, And.intro (by walk_at "seq") (And.intro (by assumption) ?_)⟩
  | refine ⟨_, And.intro (by walk_at "seq") ?_⟩
  | refine ⟨_, And.intro (by walk_at "lk") (And.intro (by walk_at "side") (And.intro (by walk_at "side") (And.intro (by walk_at "side") ?_)))⟩
  | refine .inl ⟨_, _, And.intro (by walk_at "lk") (And.intro (by walk_at "lk") (And.intro (by walk_at "side") ?_))⟩
  | refine .inr ⟨_, _, And.intro (by walk_at "sqt") (And.intro (by walk_at "sqt") (And.intro (by walk_at "side") ?_))⟩
  | refine .inl ⟨_, And.intro (by walk_at "sq") ?_⟩
  | refine .inr ⟨_, And.intro (by walk_at "sqt") ?_⟩
  | refine ⟨_, _, _, _, rfl, rfl, And.intro (by walk_at "lk") (And.intro rfl ?_)⟩
  | refine ⟨_, _, _, _, rfl, rfl, And.intro (by walk_at "lk") (And.intro (by walk_at "key") ?_)⟩
  | refine ⟨_, _, _, rfl, rfl, And.intro (by walk_at "lk") (And.intro (by walk_at "side") ?_)⟩
  | refine fun H' (n : Wr _ _ _ H') => ?_
  | refine fun p H' (n : Nw _ p _ H') => ?_
  | refine fun r H' (n : Tp _ _ r _ H') => ?_
  | refine fun x dx H' (n : Mkd _ _ x dx H') => ?_
  | refine .inl ⟨_, _, rfl, And.intro (by walk_at "sq") (fun p H' (n : Nw _ p _ H') => ?_)⟩
  | refine .inr ⟨_, _, rfl, And.intro (by walk_at "sqt") (fun r H' (n : Tp _ _ r _ H') => ?_)⟩
  | refine ⟨_, _, rfl, And.intro (by walk_at "sq") (fun p H' (n : Nw _ p _ H') => ?_)⟩
  | refine .inl (And.intro ⟨_, by walk_at "sq"⟩ ?_)
  | refine .inr (And.intro ⟨_, by walk_at "sqt"⟩ ?_)
  | refine ⟨_, _, rfl, And.intro (by walk_at "sqt") (And.intro rfl ?_)⟩
  | refine ⟨_, _, And.intro rfl ?_⟩
  | refine ⟨_, _, _, And.intro rfl ?_⟩
  | refine And.intro rfl ?_
  | (refine ite_t ?_ ?_; exact rfl)
  | (refine ite_f ?_ ?_; exact rfl)
  | refine And.intro (by walk_at "side") ?_)
local macro_rules | `(tactic| walk_at "side") => `(tactic| first
  | exact (rfl : _ = _)
  | decide
  | exact lt1000 rfl
  | with_reducible assumption
  | exact ⟨by omega, by omega⟩
  | exact .inl ⟨by omega, by omega⟩
  | exact .inr ⟨by omega, by omega⟩
  | omega
  | (apply le_line; omega)
  | (apply lt_line; omega)
  | (apply le_line; simp <;> omega)
  | (apply lt_line; simp <;> omega)
  | fail)
local macro_rules | `(tactic| walk_at "if") => `(tactic| first
  | refine ite_nd ?_ ?_
  | refine ite_d ?_ ?_
  | refine ite_eqt ?_ ?_
  | fail)
local macro_rules | `(tactic| walk_at "roll") => `(tactic| first
  | (refine And.intro (show Dice _ _ from ⟨_, _, _, by walk_at "lk"⟩) (And.intro (by walk_at "side") (And.intro (by walk_at "side") (fun r H' r0 r1 ro => ?_))); obtain ⟨a', b', c', w⟩ := ro)
  | fail)
local macro_rules | `(tactic| walk_at "run") => `(tactic| (walk_at "go"; repeat (walk_at "roll"; walk_at "go")))
local macro_rules | `(tactic| walk_at "dp") => `(tactic| first
  | exact Dp.non
  | exact Dp.int _
  | exact Dp.str _
  | exact Dp.bl _
  | exact DpAll.nil
  | exact DpAll.cons (by walk_at "dp") (by walk_at "dp")
  | exact Dp.tup (by walk_at "sqt") (by walk_at "dp")
  | exact Dp.lst (by walk_at "sq") (by walk_at "dp")
  | fail)
local macro_rules | `(tactic| walk_at "key") => `(tactic| first
  | assumption
  | fail)

section
variable {w : World} {K : PySem.W.Frag} {mg : Str → Option Value} {base : Heap}
theorem tl__law_plain_9 (T : Env w K mg base) {A : Around} {outer : List PySem.Env} {s : Shared} {H : Hp} {E : XK} (hr : Room 95 (A.deeper (PyProof.Rows.envOfC "_law_plain" (defScope s__law_plain) s.heap.objs.size T.f__law_plain (.ref T.c__law_plain)))) : ∃ t, PSs (cxOf (L2.CX prg w) prg w K mg base N__law_plain "_law_plain" (defScope s__law_plain) T.f__law_plain (.ref T.c__law_plain) A outer s H E) ((defBody s__law_plain).drop 9) t ∧ ∀ (D : Ends) (σ : L2.St) (G : Hp), pre__law_plain_9 (cxOf (L2.CX prg w) prg w K mg base N__law_plain "_law_plain" (defScope s__law_plain) T.f__law_plain (.ref T.c__law_plain) A outer s H E) T H D σ G → t D σ G := by
  refine ⟨_, (pss_cons (ps_if (PW.pt (pw_or (pt_cmpR (Y.op_neK (K := K) rfl hr.units) (Y.pe_lcX (own := [("f", 4)]) rfl sc__law_plain.nd (Y.pi_seqK (K := K) rfl (pv 3)) (blkOk_by (own := [("f", 4)]) (N := N__law_plain) (sc := defScope s__law_plain) (by decide +kernel)) (fun σ s H C cl fp bk => (pg_name (i := 4) sc__law_plain.nd rfl (Or.inl rfl))) (fun σ s H C cl fp bk => (pts_one (pt_cmpR (Y.op_neK (K := K) rfl hr.units) (Y.pe_toB (k := 88) bk T.F__law_told T.mg__law_told T.b__law_told sc__law_told T.mg_SegmentError (hr.mono (by decide)) (pv 4) rfl rfl (Or.inl rfl) rfl (fun _ => rfl) rfl) pe_str (nomark _)))) (fun σ s H C cl fp bk => pe_int)) (Y.pe_ls pa_nil) (nomark _)) (pw_or1 (pt_cmpR (Y.op_neK (K := K) rfl hr.units) (pe_glob rfl T.mg_MOST_LONG T.rv_MOST_LONG) pe_int (nomark _))))) (pss_one (ps_ret pe_bl)) pss_nil)
  (pss_one (ps_ret (pe_cmpR (Y.op_eqK (K := K) rfl hr.units) (pv 2) (Y.pe_ls (pa_cons (Y.pe_tu (pa_cons pe_int (pa_cons pe_int (pa_cons pe_int pa_nil)))) (pa_cons pe_non (pa_cons pe_non (pa_cons (Y.pe_tu (pa_cons pe_int (pa_cons pe_int (pa_cons pe_int (pa_cons pe_int (pa_cons pe_int pa_nil)))))) (pa_cons pe_int (pa_cons (Y.pe_tu (pa_cons pe_int pa_nil)) (pa_cons pe_int (pa_cons (Y.pe_tu (pa_cons (Y.pe_tu (pa_cons pe_int (pa_cons pe_int pa_nil))) (pa_cons (Y.pe_tu (pa_cons pe_int (pa_cons pe_int pa_nil))) (pa_cons (Y.pe_tu (pa_cons pe_int (pa_cons pe_int pa_nil))) pa_nil)))) (pa_cons (Y.pe_tu (pa_cons pe_int (pa_cons pe_int (pa_cons pe_int pa_nil)))) (pa_cons (Y.pe_tu (pa_cons pe_int (pa_cons pe_int pa_nil))) (pa_cons pe_non (pa_cons (Y.pe_tu (pa_cons pe_int (pa_cons pe_int (pa_cons pe_int pa_nil)))) (pa_cons (Y.pe_tu (pa_cons (pe_un un_neg pe_int) (pa_cons pe_int (pa_cons pe_int pa_nil)))) (pa_cons (Y.pe_tu (pa_cons pe_int pa_nil)) (pa_cons pe_non (pa_cons pe_non pa_nil))))))))))))))))) (nomark _))))), ?_⟩
  intro D σ G h
  unfold pre__law_plain_9 at h
  obtain ⟨⟨ht, hQ⟩, p1, d1, p2, d2, o, t1, t2, t3, t4, q1, q2, q3, t5, t6, t7, t8, t9, bd, bs, rfl, bl, wp⟩ := h
  have hbd := wp.get (x := bd) (o := .lst bs) List.mem_cons_self
  walk_at "go"
  intro D0 hD
  have d0 : d1 ≠ D0 := fun z => by
    obtain ⟨kv, e⟩ := wp.a.dk
    rw [z, hD] at e; cases e
  refine lcl (xs := bs) (fun i H' => Wp T H H' p1 d1 [5, 3, 7, 7, 5] p2 d2 [1, -1] ((D0, .lst []) :: (bd, .lst bs) :: LT4 o t1 t2 t3 t4 q1 q2 q3 t5 t6 t7 t8 t9) ∧ BadL (cxOf (L2.CX prg w) prg w K mg base N__law_plain "_law_plain" (defScope s__law_plain) T.f__law_plain (.ref T.c__law_plain) A outer s H E) T p1 d1 p2 d2 bs H') hD ?_ ?_ ?_ ?_
  · intro H' n
    exact ⟨(wp.idle n.chg).add n.at rfl, bl.mono n.chg⟩
  · rintro i H' hi ⟨wp, bl⟩
    exact .of (wp.get (x := bd) (o := .lst bs) (by simp))
  · rintro H' ⟨wp, bl⟩
    have hd0 := wp.get (x := D0) (o := .lst []) (by simp)
    have ho := wp.get (x := o) (o := .lst [.ref t1, .non, .non, .ref t2, .int 2, .ref t3, .int 2, .ref t4, .ref t5, .ref t6, .non, .ref t7, .ref t8, .ref t9, .non, .non]) (by simp [LT4])
    have e1 := wp.get (x := t1) (o := .tup [.int 6, .int 1, .int 4]) (by simp [LT4])
    have e2 := wp.get (x := t2) (o := .tup [.int 5, .int 3, .int 7, .int 7, .int 5]) (by simp [LT4])
    have e3 := wp.get (x := t3) (o := .tup [.int 1]) (by simp [LT4])
    have e4 := wp.get (x := t4) (o := .tup [.ref q1, .ref q2, .ref q3]) (by simp [LT4])
    have k1 := wp.get (x := q1) (o := .tup [.int 1, .int 2]) (by simp [LT4])
    have k2 := wp.get (x := q2) (o := .tup [.int 2, .int 3]) (by simp [LT4])
    have k3 := wp.get (x := q3) (o := .tup [.int 3, .int 4]) (by simp [LT4])
    have e5 := wp.get (x := t5) (o := .tup [.int 7, .int 2, .int 4]) (by simp [LT4])
    have e6 := wp.get (x := t6) (o := .tup [.int 1, .int 1]) (by simp [LT4])
    have e7 := wp.get (x := t7) (o := .tup [.int 27, .int 3, .int 7]) (by simp [LT4])
    have e8 := wp.get (x := t8) (o := .tup [.int (-1), .int 0, .int 1]) (by simp [LT4])
    have e9 := wp.get (x := t9) (o := .tup [.int 5]) (by simp [LT4])
    have cH := wp.c
    clear wp bl hbd
    walk_at "go"
    rename_i q9 H1 n1
    refine veq_ll (by walk_at "sq") (by walk_at "sq") (by simp) (by simp) (p := True) (by simp) ?_
    walk_at "go"
    rename_i s1 H2 n2 s2 H3 n3 s3 H4 n4 s4 H5 n5 s5 H6 n6 s6 H7 n7 s7 H8 n8 s8 H9 n9 s9 H10 n10 s10 H11 n11 s11 H12 n12 s12 H13 n13 s13 H14 n14
    have ut1 : SqT K H14 t1 [.int 6, .int 1, .int 4] := .of (by walk_at "lk")
    have ut2 : SqT K H14 t2 [.int 5, .int 3, .int 7, .int 7, .int 5] := .of (by walk_at "lk")
    have ut3 : SqT K H14 t3 [.int 1] := .of (by walk_at "lk")
    have ut5 : SqT K H14 t5 [.int 7, .int 2, .int 4] := .of (by walk_at "lk")
    have ut6 : SqT K H14 t6 [.int 1, .int 1] := .of (by walk_at "lk")
    have ut7 : SqT K H14 t7 [.int 27, .int 3, .int 7] := .of (by walk_at "lk")
    have ut8 : SqT K H14 t8 [.int (-1), .int 0, .int 1] := .of (by walk_at "lk")
    have ut9 : SqT K H14 t9 [.int 5] := .of (by walk_at "lk")
    have uq1 : SqT K H14 q1 [.int 1, .int 2] := .of (by walk_at "lk")
    have uq2 : SqT K H14 q2 [.int 2, .int 3] := .of (by walk_at "lk")
    have uq3 : SqT K H14 q3 [.int 3, .int 4] := .of (by walk_at "lk")
    have ut4 : SqT K H14 t4 [.ref q1, .ref q2, .ref q3] := .of (by walk_at "lk")
    have us1 : SqT K H14 s1 [.int 6, .int 1, .int 4] := .of (by walk_at "lk")
    have us2 : SqT K H14 s2 [.int 5, .int 3, .int 7, .int 7, .int 5] := .of (by walk_at "lk")
    have us3 : SqT K H14 s3 [.int 1] := .of (by walk_at "lk")
    have us4 : SqT K H14 s4 [.int 1, .int 2] := .of (by walk_at "lk")
    have us5 : SqT K H14 s5 [.int 2, .int 3] := .of (by walk_at "lk")
    have us6 : SqT K H14 s6 [.int 3, .int 4] := .of (by walk_at "lk")
    have us8 : SqT K H14 s8 [.int 7, .int 2, .int 4] := .of (by walk_at "lk")
    have us9 : SqT K H14 s9 [.int 1, .int 1] := .of (by walk_at "lk")
    have us10 : SqT K H14 s10 [.int 27, .int 3, .int 7] := .of (by walk_at "lk")
    have us11 : SqT K H14 s11 [.int (-1), .int 0, .int 1] := .of (by walk_at "lk")
    have us12 : SqT K H14 s12 [.int 5] := .of (by walk_at "lk")
    have us7 : SqT K H14 s7 [.ref s4, .ref s5, .ref s6] := .of (by walk_at "lk")
    have uo : SqL K H14 o [.ref t1, .non, .non, .ref t2, .int 2, .ref t3, .int 2, .ref t4, .ref t5, .ref t6, .non, .ref t7, .ref t8, .ref t9, .non, .non] := .of (by walk_at "lk")
    have us : SqL K H14 s13 [.ref s1, .non, .non, .ref s2, .int 2, .ref s3, .int 2, .ref s7, .ref s8, .ref s9, .non, .ref s10, .ref s11, .ref s12, .non, .non] := .of (by walk_at "lk")
    have dl : Dp K H14 (.ref o) (.list [.tuple [.int 6, .int 1, .int 4], .none, .none, .tuple [.int 5, .int 3, .int 7, .int 7, .int 5], .int 2, .tuple [.int 1], .int 2, .tuple [.tuple [.int 1, .int 2], .tuple [.int 2, .int 3], .tuple [.int 3, .int 4]], .tuple [.int 7, .int 2, .int 4], .tuple [.int 1, .int 1], .none, .tuple [.int 27, .int 3, .int 7], .tuple [.int (-1), .int 0, .int 1], .tuple [.int 5], .none, .none]) := .lst uo (.cons (.tup ut1 (.cons (.int _) (.cons (.int _) (.cons (.int _) .nil)))) (.cons .non (.cons .non (.cons (.tup ut2 (.cons (.int _) (.cons (.int _) (.cons (.int _) (.cons (.int _) (.cons (.int _) .nil)))))) (.cons (.int _) (.cons (.tup ut3 (.cons (.int _) .nil)) (.cons (.int _) (.cons (.tup ut4 (.cons (.tup uq1 (.cons (.int _) (.cons (.int _) .nil))) (.cons (.tup uq2 (.cons (.int _) (.cons (.int _) .nil))) (.cons (.tup uq3 (.cons (.int _) (.cons (.int _) .nil))) .nil)))) (.cons (.tup ut5 (.cons (.int _) (.cons (.int _) (.cons (.int _) .nil)))) (.cons (.tup ut6 (.cons (.int _) (.cons (.int _) .nil))) (.cons .non (.cons (.tup ut7 (.cons (.int _) (.cons (.int _) (.cons (.int _) .nil)))) (.cons (.tup ut8 (.cons (.int _) (.cons (.int _) (.cons (.int _) .nil)))) (.cons (.tup ut9 (.cons (.int _) .nil)) (.cons .non (.cons .non .nil))))))))))))))))
    have dr : Dp K H14 (.ref s13) (.list [.tuple [.int 6, .int 1, .int 4], .none, .none, .tuple [.int 5, .int 3, .int 7, .int 7, .int 5], .int 2, .tuple [.int 1], .int 2, .tuple [.tuple [.int 1, .int 2], .tuple [.int 2, .int 3], .tuple [.int 3, .int 4]], .tuple [.int 7, .int 2, .int 4], .tuple [.int 1, .int 1], .none, .tuple [.int 27, .int 3, .int 7], .tuple [.int (-1), .int 0, .int 1], .tuple [.int 5], .none, .none]) := .lst us (.cons (.tup us1 (.cons (.int _) (.cons (.int _) (.cons (.int _) .nil)))) (.cons .non (.cons .non (.cons (.tup us2 (.cons (.int _) (.cons (.int _) (.cons (.int _) (.cons (.int _) (.cons (.int _) .nil)))))) (.cons (.int _) (.cons (.tup us3 (.cons (.int _) .nil)) (.cons (.int _) (.cons (.tup us7 (.cons (.tup us4 (.cons (.int _) (.cons (.int _) .nil))) (.cons (.tup us5 (.cons (.int _) (.cons (.int _) .nil))) (.cons (.tup us6 (.cons (.int _) (.cons (.int _) .nil))) .nil)))) (.cons (.tup us8 (.cons (.int _) (.cons (.int _) (.cons (.int _) .nil)))) (.cons (.tup us9 (.cons (.int _) (.cons (.int _) .nil))) (.cons .non (.cons (.tup us10 (.cons (.int _) (.cons (.int _) (.cons (.int _) .nil)))) (.cons (.tup us11 (.cons (.int _) (.cons (.int _) (.cons (.int _) .nil)))) (.cons (.tup us12 (.cons (.int _) .nil)) (.cons .non (.cons .non .nil))))))))))))))))
    have sh : SeqAt.shaped (.list [.tuple [.int 6, .int 1, .int 4], .none, .none, .tuple [.int 5, .int 3, .int 7, .int 7, .int 5], .int 2, .tuple [.int 1], .int 2, .tuple [.tuple [.int 1, .int 2], .tuple [.int 2, .int 3], .tuple [.int 3, .int 4]], .tuple [.int 7, .int 2, .int 4], .tuple [.int 1, .int 1], .none, .tuple [.int 27, .int 3, .int 7], .tuple [.int (-1), .int 0, .int 1], .tuple [.int 5], .none, .none]) = true := by decide +kernel
    have ev : PyData.eqv (.list [.tuple [.int 6, .int 1, .int 4], .none, .none, .tuple [.int 5, .int 3, .int 7, .int 7, .int 5], .int 2, .tuple [.int 1], .int 2, .tuple [.tuple [.int 1, .int 2], .tuple [.int 2, .int 3], .tuple [.int 3, .int 4]], .tuple [.int 7, .int 2, .int 4], .tuple [.int 1, .int 1], .none, .tuple [.int 27, .int 3, .int 7], .tuple [.int (-1), .int 0, .int 1], .tuple [.int 5], .none, .none]) (.list [.tuple [.int 6, .int 1, .int 4], .none, .none, .tuple [.int 5, .int 3, .int 7, .int 7, .int 5], .int 2, .tuple [.int 1], .int 2, .tuple [.tuple [.int 1, .int 2], .tuple [.int 2, .int 3], .tuple [.int 3, .int 4]], .tuple [.int 7, .int 2, .int 4], .tuple [.int 1, .int 1], .none, .tuple [.int 27, .int 3, .int 7], .tuple [.int (-1), .int 0, .int 1], .tuple [.int 5], .none, .none]) = true := by decide +kernel
    have cE : Chg T.tabs nil H H14 := by walk_at "chg"
    exact veq_d rfl dl dr sh sh ev (hQ _ cE)
  · rintro i x H' hx ⟨wp, bl⟩ Nx Sk hN hS
    obtain ⟨f, t, rfl, L, hf⟩ := bl x (List.mem_of_getElem? hx)
    walk_at "go"
    refine hf H' ⟨wp.a, wp.b, wp.ne, wp.tb⟩ _ (fun H2 c2 s2 => ?_) _ _ _
    walk_at "go"
    exact hS _ ⟨wp.op2 c2 s2, fun v hv => (bl v hv).mono2 c2 wp.b⟩
end
end Z


set_option Elab.async false
set_option linter.all false
set_option maxRecDepth 100000
set_option maxHeartbeats 4000000
set_option pp.maxSteps 1500
namespace Z
open PySem PySem.Spec L2 LamX Y
local macro_rules | `(tactic| walk_at "lk") => `(tactic| first
  | assumption
  | exact Nw.at (by assumption)
  | exact Wr.at (by assumption)
  | exact Mkd.at (by assumption)
  | exact Nw.look (by assumption) (by walk_at "lk")
  | exact Mkd.look (by assumption) (by walk_at "lk")
  | exact Wr.look (by assumption) (by walk_at "lk") (by walk_at "ne")
  | exact Chg.look (by assumption) (by walk_at "lk") (by walk_at "nin") rfl
  | exact Tp.same (by assumption) _ _ (by walk_at "lk")
  | exact Grows.look (by assumption) (by walk_at "lk") rfl
  | fail)
local macro_rules | `(tactic| walk_at "ne") => `(tactic| first
  | assumption
  | exact Ne.symm (by assumption)
  | exact Nw.ne (by assumption) (by walk_at "lk")
  | exact Ne.symm (Nw.ne (by assumption) (by walk_at "lk"))
  | exact ne_fr (by assumption) (by walk_at "lk")
  | exact Ne.symm (ne_fr (by assumption) (by walk_at "lk"))
  | exact ne_fr (Mkd.nx (by assumption)) (by walk_at "lk")
  | exact Ne.symm (ne_fr (Mkd.nx (by assumption)) (by walk_at "lk"))
  | exact ne_kdn (by assumption) (by walk_at "lk") rfl
  | exact Ne.symm (ne_kdn (by assumption) (by walk_at "lk") rfl)
  | fail)
local macro_rules | `(tactic| walk_at "nin") => `(tactic| first
  | exact nin_nil
  | exact id
  | exact nin_cons (by walk_at "ne") (by walk_at "nin")
  | fail)
local macro_rules | `(tactic| walk_at "fr") => `(tactic| first
  | assumption
  | exact Nw.new (by assumption)
  | exact Mkd.nx (by assumption)
  | exact Nw.dom (by assumption) (by walk_at "fr")
  | exact Wr.dom (by assumption) (by walk_at "fr")
  | exact Mkd.dom (by assumption) (by walk_at "fr")
  | exact Chg.dom (by assumption) _ (by walk_at "fr")
  | exact Tp.dom (by assumption) _ (by walk_at "fr")
  | exact Grows.dom (by assumption) _ (by walk_at "fr")
  | fail)
local macro_rules | `(tactic| walk_at "mem") => `(tactic| first
  | assumption
  | exact List.mem_cons_self
  | (apply List.mem_cons_of_mem; walk_at "mem")
  | fail)
local macro_rules | `(tactic| walk_at "in") => `(tactic| first
  | assumption
  | (apply Or.inl; walk_at "mem")
  | (apply Or.inr; walk_at "fr")
  | fail)
local macro_rules | `(tactic| walk_at "sub") => `(tactic| first
  | exact sub_nil0
  | exact sub_nil
  | exact sub_cons (by walk_at "in") (by walk_at "sub")
  | fail)
local macro_rules | `(tactic| walk_at "chg") => `(tactic| first
  | assumption
  | exact Chg.refl _
  | exact Chg.nw (by assumption) (by walk_at "chg")
  | exact Chg.mkd (by assumption) (by walk_at "chg")
  | exact Chg.tp (by assumption) (by walk_at "chg")
  | exact Chg.gr (by assumption) (by walk_at "chg")
  | exact Chg.wr (by assumption) (by walk_at "chg") (by walk_at "in")
  | exact Chg.ch (by assumption) (by walk_at "chg") (by walk_at "sub")
  | fail)
local macro_rules | `(tactic| walk_at "sq") => `(tactic| first
  | assumption
  | exact SqL.of (by walk_at "lk")
  | exact Chg.seqL (by assumption) (by walk_at "sq") (by walk_at "nin")
  | exact SqL.nw (by assumption) (by walk_at "sq")
  | exact SqL.tp (by assumption) (by walk_at "sq")
  | exact SqL.mkd (by assumption) (by walk_at "sq")
  | exact SqL.wr (by assumption) (by walk_at "sq") (by walk_at "ne")
  | fail)
local macro_rules | `(tactic| walk_at "sqt") => `(tactic| first
  | assumption
  | exact SqT.of (by walk_at "lk")
  | exact Tp.sq (by assumption)
  | exact SqT.nw (by assumption) (by walk_at "sqt")
  | exact SqT.tp (by assumption) (by walk_at "sqt")
  | exact SqT.mkd (by assumption) (by walk_at "sqt")
  | exact SqT.chg (by assumption) (by walk_at "sqt") (by walk_at "nin")
  | fail)
local macro_rules | `(tactic| walk_at "seq") => `(tactic| first
  | assumption
  | exact .inl (by walk_at "sq")
  | exact .inr (by walk_at "sqt")
  | exact SqA.keepN (T := Env.tabs (by assumption)) (by assumption) (by walk_at "chg")
  | fail)
local macro_rules | `(tactic| walk_at "go") => `(tactic| repeat first
  | refine ⟨_, rfl, ?_⟩
  | refine ⟨_, _, _, _, rfl, And.intro (by walk_at "lk") (And.intro rfl ?_)⟩
  | refine ⟨_, _, _, rfl, And.intro (by walk_at "lk") (And.intro (by walk_at "side") ?_)⟩
  | refine ⟨_, _, And.intro rfl (And.intro rfl ?_)⟩
  | refine ⟨_, _, And.intro rfl (And.intro (by walk_at "lk") ?_)⟩
  | refine ⟨_, _, _, And.intro rfl (And.intro (by walk_at "lk") ?_)⟩
  | refine ⟨_, And.intro (by walk_at "lk") (And.intro (by walk_at "side") ?_)⟩
  | refine ⟨_, _, And.intro (by walk_at "lk") (And.intro (by walk_at "side") ?_)⟩
  | refine ⟨_, _, And.intro (by walk_at "seq") (And.intro rfl ?_)⟩
  | refine ⟨_, _, And.intro (by walk_at "seq") (And.intro (by assumption) ?_)⟩
  | refine ⟨_, And.intro (by walk_at "seq") ?_⟩
  | refine ⟨_, And.intro (by walk_at "lk") (And.intro (by walk_at "side") (And.intro (by walk_at "side") (And.intro (by walk_at "side") ?_)))⟩
  | refine .inl ⟨_, _, And.intro (by walk_at "lk") (And.intro (by walk_at "lk") (And.intro (by walk_at "side") ?_))⟩
  | refine .inr ⟨_, _, And.intro (by walk_at "sqt") (And.intro (by walk_at "sqt") (And.intro (by walk_at "side") ?_))⟩
  | refine .inl ⟨_, And.intro (by walk_at "sq") ?_⟩
  | refine .inr ⟨_, And.intro (by walk_at "sqt") ?_⟩
  | refine ⟨_, _, _, _, rfl, rfl, And.intro (by walk_at "lk") (And.intro rfl ?_)⟩
  | refine ⟨_, _, _, _, rfl, rfl, And.intro (by walk_at "lk") (And.intro (by walk_at "key") ?_)⟩
  | refine ⟨_, _, _, rfl, rfl, And.intro (by walk_at "lk") (And.intro (by walk_at "side") ?_)⟩
  | refine fun H' (n : Wr _ _ _ H') => ?_
  | refine fun p H' (n : Nw _ p _ H') => ?_
  | refine fun r H' (n : Tp _ _ r _ H') => ?_
  | refine fun x dx H' (n : Mkd _ _ x dx H') => ?_
  | refine .inl ⟨_, _, rfl, And.intro (by walk_at "sq") (fun p H' (n : Nw _ p _ H') => ?_)⟩
  | refine .inr ⟨_, _, rfl, And.intro (by walk_at "sqt") (fun r H' (n : Tp _ _ r _ H') => ?_)⟩
  | refine ⟨_, _, rfl, And.intro (by walk_at "sq") (fun p H' (n : Nw _ p _ H') => ?_)⟩
  | refine .inl (And.intro ⟨_, by walk_at "sq"⟩ ?_)
  | refine .inr (And.intro ⟨_, by walk_at "sqt"⟩ ?_)
  | refine ⟨_, _, rfl, And.intro (by walk_at "sqt") (And.intro rfl ?_)⟩
  | refine ⟨_, _, And.intro rfl ?_⟩
  | refine ⟨_, _, _, And.intro rfl ?_⟩
  | refine And.intro rfl ?_
  | (refine ite_t ?_ ?_; exact rfl)
  | (refine ite_f ?_ ?_; exact rfl)
  | refine And.intro (by walk_at "side") ?_)
local macro_rules | `(tactic| walk_at "side") => `(tactic| first
  | exact (rfl : _ = _)
  | decide
  | exact lt1000 rfl
  | with_reducible assumption
  | exact ⟨by omega, by omega⟩
  | exact .inl ⟨by omega, by omega⟩
  | exact .inr ⟨by omega, by omega⟩
  | omega
  | (apply le_line; omega)
  | (apply lt_line; omega)
  | (apply le_line; simp <;> omega)
  | (apply lt_line; simp <;> omega)
  | fail)
local macro_rules | `(tactic| walk_at "if") => `(tactic| first
  | refine ite_nd ?_ ?_
  | refine ite_d ?_ ?_
  | refine ite_eqt ?_ ?_
  | fail)
local macro_rules | `(tactic| walk_at "roll") => `(tactic| first
  | (refine And.intro (show Dice _ _ from ⟨_, _, _, by walk_at "lk"⟩) (And.intro (by walk_at "side") (And.intro (by walk_at "side") (fun r H' r0 r1 ro => ?_))); obtain ⟨a', b', c', w⟩ := ro)
  | fail)
local macro_rules | `(tactic| walk_at "run") => `(tactic| (walk_at "go"; repeat (walk_at "roll"; walk_at "go")))
local macro_rules | `(tactic| walk_at "dp") => `(tactic| first
  | exact Dp.non
  | exact Dp.int _
  | exact Dp.str _
  | exact Dp.bl _
  | exact DpAll.nil
  | exact DpAll.cons (by walk_at "dp") (by walk_at "dp")
  | exact Dp.tup (by walk_at "sqt") (by walk_at "dp")
  | exact Dp.lst (by walk_at "sq") (by walk_at "dp")
  | fail)
local macro_rules | `(tactic| walk_at "key") => `(tactic| first
  | assumption
  | fail)

section
variable {w : World} {K : PySem.W.Frag} {mg : Str → Option Value} {base : Heap}
theorem tl__law_plain_4 (T : Env w K mg base) {A : Around} {outer : List PySem.Env} {s : Shared} {H : Hp} {E : XK} (hr : Room 95 (A.deeper (PyProof.Rows.envOfC "_law_plain" (defScope s__law_plain) s.heap.objs.size T.f__law_plain (.ref T.c__law_plain)))) : ∃ t, PSs (cxOf (L2.CX prg w) prg w K mg base N__law_plain "_law_plain" (defScope s__law_plain) T.f__law_plain (.ref T.c__law_plain) A outer s H E) ((defBody s__law_plain).drop 4) t ∧ ∀ (D : Ends) (σ : L2.St) (G : Hp), pre__law_plain_4 T H D σ G → t D σ G := by
  obtain ⟨t9, P9, R9⟩ := tl__law_plain_9 T (outer := outer) (s := s) (H := H) (E := E) hr
  refine ⟨_, (pss_cons (ps_set (i := 3) sc__law_plain.nd rfl (Or.inl rfl) (Y.pe_ls (pa_cons (Y.pe_lamG (k := 88) T.tb__law_plain rfl T.tm__law_plain T.tu__law_plain rfl ⟨lamS_by (show lamSB (defScope s__law_plain) _ = true by decide +kernel), fun _ _ _ _ _ => rfl, fun A outer s H E f c' hr => (Y.pe_mk T.mk_Segments (ok_Segments___init__ T) (hr.mono (by decide)) rfl T.mg_Segments T.b_Segments___init__ .nil (Y.passD rfl rfl rfl rfl) (pa_cons (Y.pe_tu pa_nil) pa_nil))⟩) (pa_cons (Y.pe_lamG (k := 88) T.tb__law_plain rfl T.tm__law_plain T.tu__law_plain rfl ⟨lamS_by (show lamSB (defScope s__law_plain) _ = true by decide +kernel), fun _ _ _ _ _ => rfl, fun A outer s H E f c' hr => (Y.pe_mk T.mk_Segments (ok_Segments___init__ T) (hr.mono (by decide)) rfl T.mg_Segments T.b_Segments___init__ .nil (Y.passD rfl rfl rfl rfl) (pa_cons (pe_op (Y.op_repK (K := K) rfl) (Y.pe_tu (pa_cons pe_int pa_nil)) pe_int) pa_nil))⟩) (pa_cons (Y.pe_lamG (k := 88) T.tb__law_plain rfl T.tm__law_plain T.tu__law_plain rfl ⟨lamS_by (show lamSB (defScope s__law_plain) _ = true by decide +kernel), fun _ _ _ _ _ => rfl, fun A outer s H E f c' hr => (pe_meth (pv 0) T.cl_Segments T.me_Segments_check_part (ok_Segments_check_part T) (hr.mono (by decide)) T.b_Segments_check_part .nil (Y.passD rfl rfl rfl rfl) (pa_cons pe_int (pa_cons pe_int pa_nil)))⟩) (pa_cons (Y.pe_lamG (k := 88) T.tb__law_plain rfl T.tm__law_plain T.tu__law_plain rfl ⟨lamS_by (show lamSB (defScope s__law_plain) _ = true by decide +kernel), fun _ _ _ _ _ => rfl, fun A outer s H E f c' hr => (pe_meth (pv 0) T.cl_Segments T.me_Segments_check_part (ok_Segments_check_part T) (hr.mono (by decide)) T.b_Segments_check_part .nil (Y.passD rfl rfl rfl rfl) (pa_cons (pe_un un_neg pe_int) (pa_cons pe_int pa_nil)))⟩) pa_nil))))))
  (pss_cons (ps_set (i := 3) sc__law_plain.nd rfl (Or.inl rfl) (pe_op (Y.op_addK (K := K) rfl) (pv 3) (Y.pe_ls (pa_cons (Y.pe_lamG (k := 88) T.tb__law_plain rfl T.tm__law_plain T.tu__law_plain rfl ⟨lamS_by (show lamSB (defScope s__law_plain) _ = true by decide +kernel), fun _ _ _ _ _ => rfl, fun A outer s H E f c' hr => (pe_meth (pv 0) T.cl_Segments T.me_Segments_check_part (ok_Segments_check_part T) (hr.mono (by decide)) T.b_Segments_check_part .nil (Y.passD rfl rfl rfl rfl) (pa_cons pe_int (pa_cons pe_int pa_nil)))⟩) (pa_cons (Y.pe_lamG (k := 88) T.tb__law_plain rfl T.tm__law_plain T.tu__law_plain rfl ⟨lamS_by (show lamSB (defScope s__law_plain) _ = true by decide +kernel), fun _ _ _ _ _ => rfl, fun A outer s H E f c' hr => (pe_meth (pv 0) T.cl_Segments T.me_Segments_add_to (ok_Segments_add_to T) (hr.mono (by decide)) T.b_Segments_add_to .nil (Y.passD rfl rfl rfl rfl) (pa_cons pe_int (pa_cons pe_int (pa_cons pe_int pa_nil))))⟩) (pa_cons (Y.pe_lamG (k := 88) T.tb__law_plain rfl T.tm__law_plain T.tu__law_plain rfl ⟨lamS_by (show lamSB (defScope s__law_plain) _ = true by decide +kernel), fun _ _ _ _ _ => rfl, fun A outer s H E f c' hr => (pe_meth (pv 0) T.cl_Segments T.me_Segments_set_to (ok_Segments_set_to T) (hr.mono (by decide)) T.b_Segments_set_to .nil (Y.passD rfl rfl rfl rfl) (pa_cons pe_int (pa_cons pe_int (pa_cons pe_int pa_nil))))⟩) (pa_cons (Y.pe_lamG (k := 88) T.tb__law_plain rfl T.tm__law_plain T.tu__law_plain rfl ⟨lamS_by (show lamSB (defScope s__law_plain) _ = true by decide +kernel), fun _ _ _ _ _ => rfl, fun A outer s H E f c' hr => (pe_meth (pv 0) T.cl_Segments T.me_Segments_told_in (ok_Segments_told_in T) (hr.mono (by decide)) T.b_Segments_told_in .nil (Y.passD rfl rfl rfl rfl) (pa_cons pe_int (pa_cons pe_int pa_nil)))⟩) pa_nil)))))))
  (pss_cons (ps_set (i := 3) sc__law_plain.nd rfl (Or.inl rfl) (pe_op (Y.op_addK (K := K) rfl) (pv 3) (Y.pe_ls (pa_cons (Y.pe_lamG (k := 88) T.tb__law_plain rfl T.tm__law_plain T.tu__law_plain rfl ⟨lamS_by (show lamSB (defScope s__law_plain) _ = true by decide +kernel), fun _ _ _ _ _ => rfl, fun A outer s H E f c' hr => (pe_meth (pv 0) T.cl_Segments T.me_Segments_first_above (ok_Segments_first_above T) (hr.mono (by decide)) T.b_Segments_first_above .nil (Y.passD rfl rfl rfl rfl) (pa_cons pe_int (pa_cons pe_int pa_nil)))⟩) (pa_cons (Y.pe_lamG (k := 88) T.tb__law_plain rfl T.tm__law_plain T.tu__law_plain rfl ⟨lamS_by (show lamSB (defScope s__law_plain) _ = true by decide +kernel), fun _ _ _ _ _ => rfl, fun A outer s H E f c' hr => (pe_meth (pv 0) T.cl_Segments T.me_Segments_places_of (ok_Segments_places_of T) (hr.mono (by decide)) T.b_Segments_places_of .nil (Y.passD rfl rfl rfl rfl) (pa_cons pe_int (pa_cons pe_int (pa_cons pe_bl pa_nil))))⟩) (pa_cons (Y.pe_lamG (k := 88) T.tb__law_plain rfl T.tm__law_plain T.tu__law_plain rfl ⟨lamS_by (show lamSB (defScope s__law_plain) _ = true by decide +kernel), fun _ _ _ _ _ => rfl, fun A outer s H E f c' hr => (pe_meth (pv 0) T.cl_Segments T.me_Segments_reach_from (ok_Segments_reach_from T) (hr.mono (by decide)) T.b_Segments_reach_from .nil (Y.passD rfl rfl rfl rfl) (pa_cons pe_int (pa_cons pe_int pa_nil)))⟩) (pa_cons (Y.pe_lamG (k := 88) T.tb__law_plain rfl T.tm__law_plain T.tu__law_plain rfl ⟨lamS_by (show lamSB (defScope s__law_plain) _ = true by decide +kernel), fun _ _ _ _ _ => rfl, fun A outer s H E f c' hr => (pe_meth (pv 0) T.cl_Segments T.me_Segments_reach_from (ok_Segments_reach_from T) (hr.mono (by decide)) T.b_Segments_reach_from .nil (Y.passD rfl rfl rfl rfl) (pa_cons pe_int (pa_cons pe_int pa_nil)))⟩) pa_nil)))))))
  (pss_cons (ps_set (i := 3) sc__law_plain.nd rfl (Or.inl rfl) (pe_op (Y.op_addK (K := K) rfl) (pv 3) (Y.pe_ls (pa_cons (Y.pe_lamG (k := 88) T.tb__law_plain rfl T.tm__law_plain T.tu__law_plain rfl ⟨lamS_by (show lamSB (defScope s__law_plain) _ = true by decide +kernel), fun _ _ _ _ _ => rfl, fun A outer s H E f c' hr => (pe_meth (pv 1) T.cl_Segments T.me_Segments_reach_from (ok_Segments_reach_from T) (hr.mono (by decide)) T.b_Segments_reach_from .nil (Y.passD rfl rfl rfl rfl) (pa_cons pe_int (pa_cons pe_int pa_nil)))⟩) (pa_cons (Y.pe_lamG (k := 88) T.tb__law_plain rfl T.tm__law_plain T.tu__law_plain rfl ⟨lamS_by (show lamSB (defScope s__law_plain) _ = true by decide +kernel), fun _ _ _ _ _ => rfl, fun A outer s H E f c' hr => (pe_meth (pv 0) T.cl_Segments T.me_Segments_nodes_for (ok_Segments_nodes_for T) (hr.mono (by decide)) T.b_Segments_nodes_for .nil (Y.passD rfl rfl rfl rfl) (pa_cons pe_int (pa_cons pe_int pa_nil)))⟩) (pa_cons (Y.pe_lamG (k := 88) T.tb__law_plain rfl T.tm__law_plain T.tu__law_plain rfl ⟨lamS_by (show lamSB (defScope s__law_plain) _ = true by decide +kernel), fun _ _ _ _ _ => rfl, fun A outer s H E f c' hr => (pe_call (ok_best_part T) (hr.mono (by decide)) rfl T.mg_best_part T.F_best_part.kp T.b_best_part .nil (Y.passD rfl rfl rfl rfl) (pa_cons (Y.pe_tu pa_nil) pa_nil))⟩) (pa_cons (Y.pe_lamG (k := 88) T.tb__law_plain rfl T.tm__law_plain T.tu__law_plain rfl ⟨lamS_by (show lamSB (defScope s__law_plain) _ = true by decide +kernel), fun _ _ _ _ _ => rfl, fun A outer s H E f c' hr => (pe_call (ok_windows_least T) (hr.mono (by decide)) rfl T.mg_windows_least T.F_windows_least.kp T.b_windows_least .nil (Y.passD rfl rfl rfl rfl) (pa_cons (Y.pe_tu (pa_cons pe_int pa_nil)) (pa_cons pe_int pa_nil)))⟩) pa_nil)))))))
  (pss_cons (ps_set (i := 3) sc__law_plain.nd rfl (Or.inl rfl) (pe_op (Y.op_addK (K := K) rfl) (pv 3) (Y.pe_ls (pa_cons (Y.pe_lamG (k := 88) T.tb__law_plain rfl T.tm__law_plain T.tu__law_plain rfl ⟨lamS_by (show lamSB (defScope s__law_plain) _ = true by decide +kernel), fun _ _ _ _ _ => rfl, fun A outer s H E f c' hr => (pe_call (ok_windows_least T) (hr.mono (by decide)) rfl T.mg_windows_least T.F_windows_least.kp T.b_windows_least .nil (Y.passD rfl rfl rfl rfl) (pa_cons (Y.pe_tu (pa_cons pe_int pa_nil)) (pa_cons pe_int pa_nil)))⟩) (pa_cons (Y.pe_lamG (k := 88) T.tb__law_plain rfl T.tm__law_plain T.tu__law_plain rfl ⟨lamS_by (show lamSB (defScope s__law_plain) _ = true by decide +kernel), fun _ _ _ _ _ => rfl, fun A outer s H E f c' hr => (pe_call (ok_windows_least T) (hr.mono (by decide)) rfl T.mg_windows_least T.F_windows_least.kp T.b_windows_least .nil (Y.passD rfl rfl rfl rfl) (pa_cons (Y.pe_tu pa_nil) (pa_cons pe_int pa_nil)))⟩) pa_nil)))))
  P9))))), ?_⟩
  intro D σ G h
  unfold pre__law_plain_4 at h
  obtain ⟨hA, p1, d1, p2, d2, o, t1, t2, t3, t4, q1, q2, q3, t5, t6, t7, t8, t9', rfl, wp⟩ := h
  have bl : BadL (cxOf (L2.CX prg w) prg w K mg base N__law_plain "_law_plain" (defScope s__law_plain) T.f__law_plain (.ref T.c__law_plain) A outer s H E) T p1 d1 p2 d2 [] G := fun v h => nomatch h
  show tSeq _ _ _ _ _
  refine ⟨wp.tb, fun f1 Gx1 gr nf L => ?_⟩
  replace wp := wp.idle (Chg.ofGrows gr)
  replace bl := bl.mono (Chg.ofGrows gr)
  replace bl := bl.snoc (v := .ref f1) (by
    refine ⟨_, _, rfl, L, fun G9 w4 Q0 q0 y2 y3 y4 => ?_⟩
    obtain ⟨sa, sb, ne, tb⟩ := w4
    obtain ⟨dxa, oa⟩ := sa.ob
    obtain ⟨dxb, ob⟩ := sb.ob
    have er : ∀ (G'' : Hp) (d : Option Addr), Chg T.tabs nil G9 G'' → ErrTo (cxOf (L2.CX prg w) prg w K mg base N__law_plain "_law_plain" (defScope s__law_plain) T.f__law_plain (.ref T.c__law_plain) A outer s H E) T.C_SegmentError "SegmentError" Q0 (.ref T.C_SegmentError) d G'' := fun G'' d c => err_to T.ex_SegmentError (q0 _ c.any (sb.keep c id id fun _ _ _ z => z))
    clear wp bl
    walk_at "go"
    rename_i v9 Ga na p9 dx9 Gb mk9
    exact ⟨⟨dx9, mk9.at⟩, [], .inr (.of (by walk_at "lk")), by decide, fun _ => er _ _ (by walk_at "chg"), fun z => absurd z (by decide)⟩)
  clear gr nf L
  walk_at "go"
  refine ⟨wp.tb, fun f2 Gx2 gr nf L => ?_⟩
  replace wp := wp.idle (Chg.ofGrows gr)
  replace bl := bl.mono (Chg.ofGrows gr)
  replace bl := bl.snoc (v := .ref f2) (by
    refine ⟨_, _, rfl, L, fun G9 w4 Q0 q0 y2 y3 y4 => ?_⟩
    obtain ⟨sa, sb, ne, tb⟩ := w4
    obtain ⟨dxa, oa⟩ := sa.ob
    obtain ⟨dxb, ob⟩ := sb.ob
    have er : ∀ (G'' : Hp) (d : Option Addr), Chg T.tabs nil G9 G'' → ErrTo (cxOf (L2.CX prg w) prg w K mg base N__law_plain "_law_plain" (defScope s__law_plain) T.f__law_plain (.ref T.c__law_plain) A outer s H E) T.C_SegmentError "SegmentError" Q0 (.ref T.C_SegmentError) d G'' := fun G'' d c => err_to T.ex_SegmentError (q0 _ c.any (sb.keep c id id fun _ _ _ z => z))
    clear wp bl
    walk_at "go"
    rename_i v9 Ga na
    refine ⟨_, 501, [.int 1], rfl, rfl, .of na.at, by simp, by decide, by decide, by decide, fun v8 Gc nc => ?_⟩
    rw [rep_ints] at nc
    walk_at "go"
    rename_i p9 dx9 Gb mk9
    exact ⟨⟨dx9, mk9.at⟩, List.replicate 501 1, .inr (.of (by walk_at "lk")), by rw [List.length_replicate]; decide, fun _ => er _ _ (by walk_at "chg"), fun _ z => absurd z (by rw [List.length_replicate]; decide)⟩)
  clear gr nf L
  walk_at "go"
  refine ⟨wp.tb, fun f3 Gx3 gr nf L => ?_⟩
  replace wp := wp.idle (Chg.ofGrows gr)
  replace bl := bl.mono (Chg.ofGrows gr)
  replace bl := bl.snoc (v := .ref f3) (by
    refine ⟨_, _, rfl, L, fun G9 w4 Q0 q0 y2 y3 y4 => ?_⟩
    obtain ⟨sa, sb, ne, tb⟩ := w4
    obtain ⟨dxa, oa⟩ := sa.ob
    obtain ⟨dxb, ob⟩ := sb.ob
    have er : ∀ (G'' : Hp) (d : Option Addr), Chg T.tabs nil G9 G'' → ErrTo (cxOf (L2.CX prg w) prg w K mg base N__law_plain "_law_plain" (defScope s__law_plain) T.f__law_plain (.ref T.c__law_plain) A outer s H E) T.C_SegmentError "SegmentError" Q0 (.ref T.C_SegmentError) d G'' := fun G'' d c => err_to T.ex_SegmentError (q0 _ c.any (sb.keep c id id fun _ _ _ z => z))
    clear wp bl
    walk_at "go"
    exact ⟨d1, _, ⟨dxa, oa⟩, fun _ => er _ _ (.refl _), fun a b c => absurd (show _ ∧ _ ∧ _ from ⟨a, b, c⟩) (by decide)⟩)
  clear gr nf L
  walk_at "go"
  refine ⟨wp.tb, fun f4 Gx4 gr nf L => ?_⟩
  replace wp := wp.idle (Chg.ofGrows gr)
  replace bl := bl.mono (Chg.ofGrows gr)
  replace bl := bl.snoc (v := .ref f4) (by
    refine ⟨_, _, rfl, L, fun G9 w4 Q0 q0 y2 y3 y4 => ?_⟩
    obtain ⟨sa, sb, ne, tb⟩ := w4
    obtain ⟨dxa, oa⟩ := sa.ob
    obtain ⟨dxb, ob⟩ := sb.ob
    have er : ∀ (G'' : Hp) (d : Option Addr), Chg T.tabs nil G9 G'' → ErrTo (cxOf (L2.CX prg w) prg w K mg base N__law_plain "_law_plain" (defScope s__law_plain) T.f__law_plain (.ref T.c__law_plain) A outer s H E) T.C_SegmentError "SegmentError" Q0 (.ref T.C_SegmentError) d G'' := fun G'' d c => err_to T.ex_SegmentError (q0 _ c.any (sb.keep c id id fun _ _ _ z => z))
    clear wp bl
    walk_at "go"
    exact ⟨d1, _, ⟨dxa, oa⟩, fun _ => er _ _ (.refl _), fun a b c => absurd (show _ ∧ _ ∧ _ from ⟨a, b, c⟩) (by decide)⟩)
  clear gr nf L
  walk_at "go"
  rename_i bd0 Gl0 nl0
  replace wp := (wp.idle nl0.chg).add nl0.at rfl
  replace bl := bl.mono nl0.chg
  clear nl0
  walk_at "go"
  refine ⟨wp.tb, fun f5 Gx5 gr nf L => ?_⟩
  replace wp := wp.idle (Chg.ofGrows gr)
  replace bl := bl.mono (Chg.ofGrows gr)
  replace bl := bl.snoc (v := .ref f5) (by
    refine ⟨_, _, rfl, L, fun G9 w4 Q0 q0 y2 y3 y4 => ?_⟩
    obtain ⟨sa, sb, ne, tb⟩ := w4
    obtain ⟨dxa, oa⟩ := sa.ob
    obtain ⟨dxb, ob⟩ := sb.ob
    have er : ∀ (G'' : Hp) (d : Option Addr), Chg T.tabs nil G9 G'' → ErrTo (cxOf (L2.CX prg w) prg w K mg base N__law_plain "_law_plain" (defScope s__law_plain) T.f__law_plain (.ref T.c__law_plain) A outer s H E) T.C_SegmentError "SegmentError" Q0 (.ref T.C_SegmentError) d G'' := fun G'' d c => err_to T.ex_SegmentError (q0 _ c.any (sb.keep c id id fun _ _ _ z => z))
    clear wp bl
    walk_at "go"
    exact ⟨d1, _, ⟨dxa, oa⟩, fun _ => er _ _ (.refl _), fun a b c => absurd (show _ ∧ _ ∧ _ from ⟨a, b, c⟩) (by decide)⟩)
  clear gr nf L
  walk_at "go"
  refine ⟨wp.tb, fun f6 Gx6 gr nf L => ?_⟩
  replace wp := wp.idle (Chg.ofGrows gr)
  replace bl := bl.mono (Chg.ofGrows gr)
  replace bl := bl.snoc (v := .ref f6) (by
    refine ⟨_, _, rfl, L, fun G9 w4 Q0 q0 y2 y3 y4 => ?_⟩
    obtain ⟨sa, sb, ne, tb⟩ := w4
    obtain ⟨dxa, oa⟩ := sa.ob
    obtain ⟨dxb, ob⟩ := sb.ob
    have er : ∀ (G'' : Hp) (d : Option Addr), Chg T.tabs nil G9 G'' → ErrTo (cxOf (L2.CX prg w) prg w K mg base N__law_plain "_law_plain" (defScope s__law_plain) T.f__law_plain (.ref T.c__law_plain) A outer s H E) T.C_SegmentError "SegmentError" Q0 (.ref T.C_SegmentError) d G'' := fun G'' d c => err_to T.ex_SegmentError (q0 _ c.any (sb.keep c id id fun _ _ _ z => z))
    clear wp bl
    walk_at "go"
    exact ⟨d1, _, sa, fun _ => er _ _ (.refl _), fun a b c => absurd (show _ ∧ _ ∧ _ from ⟨a, b, c⟩) (by decide)⟩)
  clear gr nf L
  walk_at "go"
  refine ⟨wp.tb, fun f7 Gx7 gr nf L => ?_⟩
  replace wp := wp.idle (Chg.ofGrows gr)
  replace bl := bl.mono (Chg.ofGrows gr)
  replace bl := bl.snoc (v := .ref f7) (by
    refine ⟨_, _, rfl, L, fun G9 w4 Q0 q0 y2 y3 y4 => ?_⟩
    obtain ⟨sa, sb, ne, tb⟩ := w4
    obtain ⟨dxa, oa⟩ := sa.ob
    obtain ⟨dxb, ob⟩ := sb.ob
    have er : ∀ (G'' : Hp) (d : Option Addr), Chg T.tabs nil G9 G'' → ErrTo (cxOf (L2.CX prg w) prg w K mg base N__law_plain "_law_plain" (defScope s__law_plain) T.f__law_plain (.ref T.c__law_plain) A outer s H E) T.C_SegmentError "SegmentError" Q0 (.ref T.C_SegmentError) d G'' := fun G'' d c => err_to T.ex_SegmentError (q0 _ c.any (sb.keep c id id fun _ _ _ z => z))
    clear wp bl
    walk_at "go"
    exact ⟨d1, _, sa, fun _ => er _ _ (.refl _), fun a b c => absurd (show _ ∧ _ ∧ _ from ⟨a, b, c⟩) (by decide)⟩)
  clear gr nf L
  walk_at "go"
  refine ⟨wp.tb, fun f8 Gx8 gr nf L => ?_⟩
  replace wp := wp.idle (Chg.ofGrows gr)
  replace bl := bl.mono (Chg.ofGrows gr)
  replace bl := bl.snoc (v := .ref f8) (by
    refine ⟨_, _, rfl, L, fun G9 w4 Q0 q0 y2 y3 y4 => ?_⟩
    obtain ⟨sa, sb, ne, tb⟩ := w4
    obtain ⟨dxa, oa⟩ := sa.ob
    obtain ⟨dxb, ob⟩ := sb.ob
    have er : ∀ (G'' : Hp) (d : Option Addr), Chg T.tabs nil G9 G'' → ErrTo (cxOf (L2.CX prg w) prg w K mg base N__law_plain "_law_plain" (defScope s__law_plain) T.f__law_plain (.ref T.c__law_plain) A outer s H E) T.C_SegmentError "SegmentError" Q0 (.ref T.C_SegmentError) d G'' := fun G'' d c => err_to T.ex_SegmentError (q0 _ c.any (sb.keep c id id fun _ _ _ z => z))
    clear wp bl
    walk_at "go"
    first
    | exact ⟨d1, _, sa, tb, fun _ => er _ _ (.refl _), fun a b c => absurd (show _ ∧ _ ∧ _ from ⟨a, b, c⟩) (by decide)⟩
    | exact ⟨fun _ => er _ _ (.refl _), fun a b c => absurd (show _ ∧ _ ∧ _ from ⟨a, b, c⟩) (by decide)⟩
    | exact ⟨fun a b c => absurd (show _ ∧ _ ∧ _ from ⟨a, b, c⟩) (by decide)⟩)
  clear gr nf L
  have hbd := wp.get (x := bd0) (o := .lst _) List.mem_cons_self
  walk_at "go"
  rename_i la1 Ga1 na1 bd1 Gl1 nl1
  replace wp := ((wp.idle na1.chg).idle nl1.chg).add nl1.at rfl
  replace bl := (bl.mono na1.chg).mono nl1.chg
  clear na1 nl1 hbd
  walk_at "go"
  refine ⟨wp.tb, fun f9 Gx9 gr nf L => ?_⟩
  replace wp := wp.idle (Chg.ofGrows gr)
  replace bl := bl.mono (Chg.ofGrows gr)
  replace bl := bl.snoc (v := .ref f9) (by
    refine ⟨_, _, rfl, L, fun G9 w4 Q0 q0 y2 y3 y4 => ?_⟩
    obtain ⟨sa, sb, ne, tb⟩ := w4
    obtain ⟨dxa, oa⟩ := sa.ob
    obtain ⟨dxb, ob⟩ := sb.ob
    have er : ∀ (G'' : Hp) (d : Option Addr), Chg T.tabs nil G9 G'' → ErrTo (cxOf (L2.CX prg w) prg w K mg base N__law_plain "_law_plain" (defScope s__law_plain) T.f__law_plain (.ref T.c__law_plain) A outer s H E) T.C_SegmentError "SegmentError" Q0 (.ref T.C_SegmentError) d G'' := fun G'' d c => err_to T.ex_SegmentError (q0 _ c.any (sb.keep c id id fun _ _ _ z => z))
    clear wp bl
    walk_at "go"
    first
    | exact ⟨d1, _, sa, tb, fun _ => er _ _ (.refl _), fun a b => absurd (show _ ∧ _ from ⟨a, b⟩) (by decide)⟩
    | exact ⟨fun _ => er _ _ (.refl _), fun a b => absurd (show _ ∧ _ from ⟨a, b⟩) (by decide)⟩
    | exact ⟨fun a b => absurd (show _ ∧ _ from ⟨a, b⟩) (by decide)⟩)
  clear gr nf L
  walk_at "go"
  refine ⟨wp.tb, fun f10 Gx10 gr nf L => ?_⟩
  replace wp := wp.idle (Chg.ofGrows gr)
  replace bl := bl.mono (Chg.ofGrows gr)
  replace bl := bl.snoc (v := .ref f10) (by
    refine ⟨_, _, rfl, L, fun G9 w4 Q0 q0 y2 y3 y4 => ?_⟩
    obtain ⟨sa, sb, ne, tb⟩ := w4
    obtain ⟨dxa, oa⟩ := sa.ob
    obtain ⟨dxb, ob⟩ := sb.ob
    have er : ∀ (G'' : Hp) (d : Option Addr), Chg T.tabs nil G9 G'' → ErrTo (cxOf (L2.CX prg w) prg w K mg base N__law_plain "_law_plain" (defScope s__law_plain) T.f__law_plain (.ref T.c__law_plain) A outer s H E) T.C_SegmentError "SegmentError" Q0 (.ref T.C_SegmentError) d G'' := fun G'' d c => err_to T.ex_SegmentError (q0 _ c.any (sb.keep c id id fun _ _ _ z => z))
    clear wp bl
    walk_at "go"
    first
    | exact ⟨d1, _, sa, tb, fun _ => er _ _ (.refl _), fun a b c => absurd (show _ ∧ _ ∧ _ from ⟨a, b, c⟩) (by decide)⟩
    | exact ⟨fun _ => er _ _ (.refl _), fun a b c => absurd (show _ ∧ _ ∧ _ from ⟨a, b, c⟩) (by decide)⟩
    | exact ⟨fun a b c => absurd (show _ ∧ _ ∧ _ from ⟨a, b, c⟩) (by decide)⟩)
  clear gr nf L
  walk_at "go"
  refine ⟨wp.tb, fun f11 Gx11 gr nf L => ?_⟩
  replace wp := wp.idle (Chg.ofGrows gr)
  replace bl := bl.mono (Chg.ofGrows gr)
  replace bl := bl.snoc (v := .ref f11) (by
    refine ⟨_, _, rfl, L, fun G9 w4 Q0 q0 y2 y3 y4 => ?_⟩
    obtain ⟨sa, sb, ne, tb⟩ := w4
    obtain ⟨dxa, oa⟩ := sa.ob
    obtain ⟨dxb, ob⟩ := sb.ob
    have er : ∀ (G'' : Hp) (d : Option Addr), Chg T.tabs nil G9 G'' → ErrTo (cxOf (L2.CX prg w) prg w K mg base N__law_plain "_law_plain" (defScope s__law_plain) T.f__law_plain (.ref T.c__law_plain) A outer s H E) T.C_SegmentError "SegmentError" Q0 (.ref T.C_SegmentError) d G'' := fun G'' d c => err_to T.ex_SegmentError (q0 _ c.any (sb.keep c id id fun _ _ _ z => z))
    clear wp bl
    walk_at "go"
    first
    | exact ⟨d1, _, sa, tb, fun _ => er _ _ (.refl _), fun a b => absurd (show _ ∧ _ from ⟨a, b⟩) (by decide), fun a b => absurd (show _ ∧ _ from ⟨a, b⟩) (by decide)⟩
    | exact ⟨fun _ => er _ _ (.refl _), fun a b => absurd (show _ ∧ _ from ⟨a, b⟩) (by decide), fun a b => absurd (show _ ∧ _ from ⟨a, b⟩) (by decide)⟩
    | exact ⟨fun a b => absurd (show _ ∧ _ from ⟨a, b⟩) (by decide), fun a b => absurd (show _ ∧ _ from ⟨a, b⟩) (by decide)⟩)
  clear gr nf L
  walk_at "go"
  refine ⟨wp.tb, fun f12 Gx12 gr nf L => ?_⟩
  replace wp := wp.idle (Chg.ofGrows gr)
  replace bl := bl.mono (Chg.ofGrows gr)
  replace bl := bl.snoc (v := .ref f12) (by
    refine ⟨_, _, rfl, L, fun G9 w4 Q0 q0 y2 y3 y4 => ?_⟩
    obtain ⟨sa, sb, ne, tb⟩ := w4
    obtain ⟨dxa, oa⟩ := sa.ob
    obtain ⟨dxb, ob⟩ := sb.ob
    have er : ∀ (G'' : Hp) (d : Option Addr), Chg T.tabs nil G9 G'' → ErrTo (cxOf (L2.CX prg w) prg w K mg base N__law_plain "_law_plain" (defScope s__law_plain) T.f__law_plain (.ref T.c__law_plain) A outer s H E) T.C_SegmentError "SegmentError" Q0 (.ref T.C_SegmentError) d G'' := fun G'' d c => err_to T.ex_SegmentError (q0 _ c.any (sb.keep c id id fun _ _ _ z => z))
    clear wp bl
    walk_at "go"
    first
    | exact ⟨d1, _, sa, tb, fun z => absurd ⟨by decide, by decide⟩ z, fun _ _ _ => er _ _ (.refl _), fun _ _ c => absurd c (by decide)⟩
    | exact ⟨fun z => absurd ⟨by decide, by decide⟩ z, fun _ _ _ => er _ _ (.refl _), fun _ _ c => absurd c (by decide)⟩)
  clear gr nf L
  have hbd := wp.get (x := bd1) (o := .lst _) List.mem_cons_self
  walk_at "go"
  rename_i la2 Ga2 na2 bd2 Gl2 nl2
  replace wp := ((wp.idle na2.chg).idle nl2.chg).add nl2.at rfl
  replace bl := (bl.mono na2.chg).mono nl2.chg
  clear na2 nl2 hbd
  walk_at "go"
  refine ⟨wp.tb, fun f13 Gx13 gr nf L => ?_⟩
  replace wp := wp.idle (Chg.ofGrows gr)
  replace bl := bl.mono (Chg.ofGrows gr)
  replace bl := bl.snoc (v := .ref f13) (by
    refine ⟨_, _, rfl, L, fun G9 w4 Q0 q0 y2 y3 y4 => ?_⟩
    obtain ⟨sa, sb, ne, tb⟩ := w4
    obtain ⟨dxa, oa⟩ := sa.ob
    obtain ⟨dxb, ob⟩ := sb.ob
    have er : ∀ (G'' : Hp) (d : Option Addr), Chg T.tabs nil G9 G'' → ErrTo (cxOf (L2.CX prg w) prg w K mg base N__law_plain "_law_plain" (defScope s__law_plain) T.f__law_plain (.ref T.c__law_plain) A outer s H E) T.C_SegmentError "SegmentError" Q0 (.ref T.C_SegmentError) d G'' := fun G'' d c => err_to T.ex_SegmentError (q0 _ c.any (sb.keep c id id fun _ _ _ z => z))
    clear wp bl
    walk_at "go"
    first
    | exact ⟨d2, _, sb, tb, fun z => absurd ⟨by decide, by decide⟩ z, fun _ _ z => absurd z (by decide), fun _ _ _ G2 c s2 => ⟨fun _ => err_to T.ex_SegmentError (q0 _ c s2), fun pos => absurd (pos (-1) (by decide)) (by decide)⟩⟩
    | exact ⟨fun z => absurd ⟨by decide, by decide⟩ z, fun _ _ z => absurd z (by decide), fun _ _ _ G2 c s2 => ⟨fun _ => err_to T.ex_SegmentError (q0 _ c s2), fun pos => absurd (pos (-1) (by decide)) (by decide)⟩⟩)
  clear gr nf L
  walk_at "go"
  refine ⟨wp.tb, fun f14 Gx14 gr nf L => ?_⟩
  replace wp := wp.idle (Chg.ofGrows gr)
  replace bl := bl.mono (Chg.ofGrows gr)
  replace bl := bl.snoc (v := .ref f14) (by
    refine ⟨_, _, rfl, L, fun G9 w4 Q0 q0 y2 y3 y4 => ?_⟩
    obtain ⟨sa, sb, ne, tb⟩ := w4
    obtain ⟨dxa, oa⟩ := sa.ob
    obtain ⟨dxb, ob⟩ := sb.ob
    have er : ∀ (G'' : Hp) (d : Option Addr), Chg T.tabs nil G9 G'' → ErrTo (cxOf (L2.CX prg w) prg w K mg base N__law_plain "_law_plain" (defScope s__law_plain) T.f__law_plain (.ref T.c__law_plain) A outer s H E) T.C_SegmentError "SegmentError" Q0 (.ref T.C_SegmentError) d G'' := fun G'' d c => err_to T.ex_SegmentError (q0 _ c.any (sb.keep c id id fun _ _ _ z => z))
    clear wp bl
    walk_at "go"
    exact ⟨d1, _, sa, fun _ => er _ _ (.refl _), fun a b c => absurd (show _ ∧ _ ∧ _ from ⟨a, b, c⟩) (by decide)⟩)
  clear gr nf L
  walk_at "go"
  refine ⟨wp.tb, fun f15 Gx15 gr nf L => ?_⟩
  replace wp := wp.idle (Chg.ofGrows gr)
  replace bl := bl.mono (Chg.ofGrows gr)
  replace bl := bl.snoc (v := .ref f15) (by
    refine ⟨_, _, rfl, L, fun G9 w4 Q0 q0 y2 y3 y4 => ?_⟩
    obtain ⟨sa, sb, ne, tb⟩ := w4
    obtain ⟨dxa, oa⟩ := sa.ob
    obtain ⟨dxb, ob⟩ := sb.ob
    have er : ∀ (G'' : Hp) (d : Option Addr), Chg T.tabs nil G9 G'' → ErrTo (cxOf (L2.CX prg w) prg w K mg base N__law_plain "_law_plain" (defScope s__law_plain) T.f__law_plain (.ref T.c__law_plain) A outer s H E) T.C_SegmentError "SegmentError" Q0 (.ref T.C_SegmentError) d G'' := fun G'' d c => err_to T.ex_SegmentError (q0 _ c.any (sb.keep c id id fun _ _ _ z => z))
    clear wp bl
    walk_at "go"
    rename_i v9 Ga na
    exact ⟨[], .inr (.of na.at), by decide, fun _ => er _ _ (by walk_at "chg"), fun z => absurd z (by decide)⟩)
  clear gr nf L
  walk_at "go"
  refine ⟨wp.tb, fun f16 Gx16 gr nf L => ?_⟩
  replace wp := wp.idle (Chg.ofGrows gr)
  replace bl := bl.mono (Chg.ofGrows gr)
  replace bl := bl.snoc (v := .ref f16) (by
    refine ⟨_, _, rfl, L, fun G9 w4 Q0 q0 y2 y3 y4 => ?_⟩
    obtain ⟨sa, sb, ne, tb⟩ := w4
    obtain ⟨dxa, oa⟩ := sa.ob
    obtain ⟨dxb, ob⟩ := sb.ob
    have er : ∀ (G'' : Hp) (d : Option Addr), Chg T.tabs nil G9 G'' → ErrTo (cxOf (L2.CX prg w) prg w K mg base N__law_plain "_law_plain" (defScope s__law_plain) T.f__law_plain (.ref T.c__law_plain) A outer s H E) T.C_SegmentError "SegmentError" Q0 (.ref T.C_SegmentError) d G'' := fun G'' d c => err_to T.ex_SegmentError (q0 _ c.any (sb.keep c id id fun _ _ _ z => z))
    clear wp bl
    walk_at "go"
    rename_i v9 Ga na
    exact ⟨[1], .inr (.of na.at), (na.chg (S := nil)).tabs tb, by decide, fun z => absurd ⟨by decide, by decide⟩ z, fun _ _ => ⟨by decide, fun _ Gc c => er _ _ (by walk_at "chg"), fun z => absurd z (by decide)⟩⟩)
  clear gr nf L
  have hbd := wp.get (x := bd2) (o := .lst _) List.mem_cons_self
  walk_at "go"
  rename_i la3 Ga3 na3 bd3 Gl3 nl3
  replace wp := ((wp.idle na3.chg).idle nl3.chg).add nl3.at rfl
  replace bl := (bl.mono na3.chg).mono nl3.chg
  clear na3 nl3 hbd
  walk_at "go"
  refine ⟨wp.tb, fun f17 Gx17 gr nf L => ?_⟩
  replace wp := wp.idle (Chg.ofGrows gr)
  replace bl := bl.mono (Chg.ofGrows gr)
  replace bl := bl.snoc (v := .ref f17) (by
    refine ⟨_, _, rfl, L, fun G9 w4 Q0 q0 y2 y3 y4 => ?_⟩
    obtain ⟨sa, sb, ne, tb⟩ := w4
    obtain ⟨dxa, oa⟩ := sa.ob
    obtain ⟨dxb, ob⟩ := sb.ob
    have er : ∀ (G'' : Hp) (d : Option Addr), Chg T.tabs nil G9 G'' → ErrTo (cxOf (L2.CX prg w) prg w K mg base N__law_plain "_law_plain" (defScope s__law_plain) T.f__law_plain (.ref T.c__law_plain) A outer s H E) T.C_SegmentError "SegmentError" Q0 (.ref T.C_SegmentError) d G'' := fun G'' d c => err_to T.ex_SegmentError (q0 _ c.any (sb.keep c id id fun _ _ _ z => z))
    clear wp bl
    walk_at "go"
    rename_i v9 Ga na
    exact ⟨[1], .inr (.of na.at), (na.chg (S := nil)).tabs tb, by decide, fun z => absurd ⟨by decide, by decide⟩ z, fun _ _ => ⟨by decide, fun _ Gc c => er _ _ (by walk_at "chg"), fun _ z => absurd z (by decide)⟩⟩)
  clear gr nf L
  walk_at "go"
  refine ⟨wp.tb, fun f18 Gx18 gr nf L => ?_⟩
  replace wp := wp.idle (Chg.ofGrows gr)
  replace bl := bl.mono (Chg.ofGrows gr)
  replace bl := bl.snoc (v := .ref f18) (by
    refine ⟨_, _, rfl, L, fun G9 w4 Q0 q0 y2 y3 y4 => ?_⟩
    obtain ⟨sa, sb, ne, tb⟩ := w4
    obtain ⟨dxa, oa⟩ := sa.ob
    obtain ⟨dxb, ob⟩ := sb.ob
    have er : ∀ (G'' : Hp) (d : Option Addr), Chg T.tabs nil G9 G'' → ErrTo (cxOf (L2.CX prg w) prg w K mg base N__law_plain "_law_plain" (defScope s__law_plain) T.f__law_plain (.ref T.c__law_plain) A outer s H E) T.C_SegmentError "SegmentError" Q0 (.ref T.C_SegmentError) d G'' := fun G'' d c => err_to T.ex_SegmentError (q0 _ c.any (sb.keep c id id fun _ _ _ z => z))
    clear wp bl
    walk_at "go"
    rename_i v9 Ga na
    exact ⟨[], .inr (.of na.at), (na.chg (S := nil)).tabs tb, by decide, fun _ Gc c => er _ _ (by walk_at "chg"), fun z => absurd z (by decide)⟩)
  clear gr nf L
  have hbd := wp.get (x := bd3) (o := .lst _) List.mem_cons_self
  walk_at "go"
  rename_i la4 Ga4 na4 bd4 Gl4 nl4
  replace wp := ((wp.idle na4.chg).idle nl4.chg).add nl4.at rfl
  replace bl := (bl.mono na4.chg).mono nl4.chg
  clear na4 nl4 hbd
  exact R9 _ _ _ ⟨hA, p1, d1, p2, d2, o, t1, t2, t3, t4, q1, q2, q3, t5, t6, t7, t8, t9', bd4, _, rfl, bl, wp.sub (by simp [LT4])⟩
end
end Z


set_option Elab.async false
set_option linter.all false
set_option maxRecDepth 100000
set_option maxHeartbeats 4000000
set_option pp.maxSteps 1500
namespace Z
open PySem PySem.Spec L2 LamX Y
local macro_rules | `(tactic| walk_at "lk") => `(tactic| first
  | assumption
  | exact Nw.at (by assumption)
  | exact Wr.at (by assumption)
  | exact Mkd.at (by assumption)
  | exact Nw.look (by assumption) (by walk_at "lk")
  | exact Mkd.look (by assumption) (by walk_at "lk")
  | exact Wr.look (by assumption) (by walk_at "lk") (by walk_at "ne")
  | exact Chg.look (by assumption) (by walk_at "lk") (by walk_at "nin") rfl
  | exact Tp.same (by assumption) _ _ (by walk_at "lk")
  | exact Grows.look (by assumption) (by walk_at "lk") rfl
  | fail)
local macro_rules | `(tactic| walk_at "ne") => `(tactic| first
  | assumption
  | exact Ne.symm (by assumption)
  | exact Nw.ne (by assumption) (by walk_at "lk")
  | exact Ne.symm (Nw.ne (by assumption) (by walk_at "lk"))
  | exact ne_fr (by assumption) (by walk_at "lk")
  | exact Ne.symm (ne_fr (by assumption) (by walk_at "lk"))
  | exact ne_fr (Mkd.nx (by assumption)) (by walk_at "lk")
  | exact Ne.symm (ne_fr (Mkd.nx (by assumption)) (by walk_at "lk"))
  | exact ne_kdn (by assumption) (by walk_at "lk") rfl
  | exact Ne.symm (ne_kdn (by assumption) (by walk_at "lk") rfl)
  | fail)
local macro_rules | `(tactic| walk_at "nin") => `(tactic| first
  | exact nin_nil
  | exact id
  | exact nin_cons (by walk_at "ne") (by walk_at "nin")
  | fail)
local macro_rules | `(tactic| walk_at "fr") => `(tactic| first
  | assumption
  | exact Nw.new (by assumption)
  | exact Mkd.nx (by assumption)
  | exact Nw.dom (by assumption) (by walk_at "fr")
  | exact Wr.dom (by assumption) (by walk_at "fr")
  | exact Mkd.dom (by assumption) (by walk_at "fr")
  | exact Chg.dom (by assumption) _ (by walk_at "fr")
  | exact Tp.dom (by assumption) _ (by walk_at "fr")
  | exact Grows.dom (by assumption) _ (by walk_at "fr")
  | fail)
local macro_rules | `(tactic| walk_at "mem") => `(tactic| first
  | assumption
  | exact List.mem_cons_self
  | (apply List.mem_cons_of_mem; walk_at "mem")
  | fail)
local macro_rules | `(tactic| walk_at "in") => `(tactic| first
  | assumption
  | (apply Or.inl; walk_at "mem")
  | (apply Or.inr; walk_at "fr")
  | fail)
local macro_rules | `(tactic| walk_at "sub") => `(tactic| first
  | exact sub_nil0
  | exact sub_nil
  | exact sub_cons (by walk_at "in") (by walk_at "sub")
  | fail)
local macro_rules | `(tactic| walk_at "chg") => `(tactic| first
  | assumption
  | exact Chg.refl _
  | exact Chg.nw (by assumption) (by walk_at "chg")
  | exact Chg.mkd (by assumption) (by walk_at "chg")
  | exact Chg.tp (by assumption) (by walk_at "chg")
  | exact Chg.gr (by assumption) (by walk_at "chg")
  | exact Chg.wr (by assumption) (by walk_at "chg") (by walk_at "in")
  | exact Chg.ch (by assumption) (by walk_at "chg") (by walk_at "sub")
  | fail)
local macro_rules | `(tactic| walk_at "sq") => `(tactic| first
  | assumption
  | exact SqL.of (by walk_at "lk")
  | exact Chg.seqL (by assumption) (by walk_at "sq") (by walk_at "nin")
  | exact SqL.nw (by assumption) (by walk_at "sq")
  | exact SqL.tp (by assumption) (by walk_at "sq")
  | exact SqL.mkd (by assumption) (by walk_at "sq")
  | exact SqL.wr (by assumption) (by walk_at "sq") (by walk_at "ne")
  | fail)
local macro_rules | `(tactic| walk_at "sqt") => `(tactic| first
  | assumption
  | exact SqT.of (by walk_at "lk")
  | exact Tp.sq (by assumption)
  | exact SqT.nw (by assumption) (by walk_at "sqt")
  | exact SqT.tp (by assumption) (by walk_at "sqt")
  | exact SqT.mkd (by assumption) (by walk_at "sqt")
  | exact SqT.chg (by assumption) (by walk_at "sqt") (by walk_at "nin")
  | fail)
local macro_rules | `(tactic| walk_at "seq") => `(tactic| first
  | assumption
  | exact .inl (by walk_at "sq")
  | exact .inr (by walk_at "sqt")
  | exact SqA.keepN (T := Env.tabs (by assumption)) (by assumption) (by walk_at "chg")
  | fail)
local macro_rules | `(tactic| walk_at "go") => `(tactic| repeat first
  | refine ⟨_, rfl, ?_⟩
  | refine ⟨_, _, _, _, rfl, And.intro (by walk_at "lk") (And.intro rfl ?_)⟩
  | refine ⟨_, _, _, rfl, And.intro (by walk_at "lk") (And.intro (by walk_at "side") ?_)⟩
  | refine ⟨_, _, And.intro rfl (And.intro rfl ?_)⟩
  | refine ⟨_, _, And.intro rfl (And.intro (by walk_at "lk") ?_)⟩
  | refine ⟨_, _, _, And.intro rfl (And.intro (by walk_at "lk") ?_)⟩
  | refine ⟨_, And.intro (by walk_at "lk") (And.intro (by walk_at "side") ?_)⟩
  | refine ⟨_, _, And.intro (by walk_at "lk") (And.intro (by walk_at "side") ?_)⟩
  | refine ⟨_, _, And.intro (by walk_at "seq") (And.intro rfl ?_)⟩
  | refine ⟨_, _, And.intro (by walk_at "seq") (And.intro (by assumption) ?_)⟩
  | refine ⟨_, And.intro (by walk_at "seq") ?_⟩
  | refine ⟨_, And.intro (by walk_at "lk") (And.intro (by walk_at "side") (And.intro (by walk_at "side") (And.intro (by walk_at "side") ?_)))⟩
  | refine .inl ⟨_, _, And.intro (by walk_at "lk") (And.intro (by walk_at "lk") (And.intro (by walk_at "side") ?_))⟩
  | refine .inr ⟨_, _, And.intro (by walk_at "sqt") (And.intro (by walk_at "sqt") (And.intro (by walk_at "side") ?_))⟩
  | refine .inl ⟨_, And.intro (by walk_at "sq") ?_⟩
  | refine .inr ⟨_, And.intro (by walk_at "sqt") ?_⟩
  | refine ⟨_, _, _, _, rfl, rfl, And.intro (by walk_at "lk") (And.intro rfl ?_)⟩
  | refine ⟨_, _, _, _, rfl, rfl, And.intro (by walk_at "lk") (And.intro (by walk_at "key") ?_)⟩
  | refine ⟨_, _, _, rfl, rfl, And.intro (by walk_at "lk") (And.intro (by walk_at "side") ?_)⟩
  | refine fun H' (n : Wr _ _ _ H') => ?_
  | refine fun p H' (n : Nw _ p _ H') => ?_
  | refine fun r H' (n : Tp _ _ r _ H') => ?_
  | refine fun x dx H' (n : Mkd _ _ x dx H') => ?_
  | refine .inl ⟨_, _, rfl, And.intro (by walk_at "sq") (fun p H' (n : Nw _ p _ H') => ?_)⟩
  | refine .inr ⟨_, _, rfl, And.intro (by walk_at "sqt") (fun r H' (n : Tp _ _ r _ H') => ?_)⟩
  | refine ⟨_, _, rfl, And.intro (by walk_at "sq") (fun p H' (n : Nw _ p _ H') => ?_)⟩
  | refine .inl (And.intro ⟨_, by walk_at "sq"⟩ ?_)
  | refine .inr (And.intro ⟨_, by walk_at "sqt"⟩ ?_)
  | refine ⟨_, _, rfl, And.intro (by walk_at "sqt") (And.intro rfl ?_)⟩
  | refine ⟨_, _, And.intro rfl ?_⟩
  | refine ⟨_, _, _, And.intro rfl ?_⟩
  | refine And.intro rfl ?_
  | (refine ite_t ?_ ?_; exact rfl)
  | (refine ite_f ?_ ?_; exact rfl)
  | refine And.intro (by walk_at "side") ?_)
local macro_rules | `(tactic| walk_at "side") => `(tactic| first
  | exact (rfl : _ = _)
  | decide
  | exact lt1000 rfl
  | with_reducible assumption
  | exact ⟨by omega, by omega⟩
  | exact .inl ⟨by omega, by omega⟩
  | exact .inr ⟨by omega, by omega⟩
  | omega
  | (apply le_line; omega)
  | (apply lt_line; omega)
  | (apply le_line; simp <;> omega)
  | (apply lt_line; simp <;> omega)
  | fail)
local macro_rules | `(tactic| walk_at "if") => `(tactic| first
  | refine ite_nd ?_ ?_
  | refine ite_d ?_ ?_
  | refine ite_eqt ?_ ?_
  | fail)
local macro_rules | `(tactic| walk_at "roll") => `(tactic| first
  | (refine And.intro (show Dice _ _ from ⟨_, _, _, by walk_at "lk"⟩) (And.intro (by walk_at "side") (And.intro (by walk_at "side") (fun r H' r0 r1 ro => ?_))); obtain ⟨a', b', c', w⟩ := ro)
  | fail)
local macro_rules | `(tactic| walk_at "run") => `(tactic| (walk_at "go"; repeat (walk_at "roll"; walk_at "go")))
local macro_rules | `(tactic| walk_at "dp") => `(tactic| first
  | exact Dp.non
  | exact Dp.int _
  | exact Dp.str _
  | exact Dp.bl _
  | exact DpAll.nil
  | exact DpAll.cons (by walk_at "dp") (by walk_at "dp")
  | exact Dp.tup (by walk_at "sqt") (by walk_at "dp")
  | exact Dp.lst (by walk_at "sq") (by walk_at "dp")
  | fail)
local macro_rules | `(tactic| walk_at "key") => `(tactic| first
  | assumption
  | fail)

section
variable {w : World} {K : PySem.W.Frag} {mg : Str → Option Value} {base : Heap}
theorem tl__law_plain_3 (T : Env w K mg base) {A : Around} {outer : List PySem.Env} {s : Shared} {H : Hp} {E : XK} (hr : Room 95 (A.deeper (PyProof.Rows.envOfC "_law_plain" (defScope s__law_plain) s.heap.objs.size T.f__law_plain (.ref T.c__law_plain)))) : ∃ t, PSs (cxOf (L2.CX prg w) prg w K mg base N__law_plain "_law_plain" (defScope s__law_plain) T.f__law_plain (.ref T.c__law_plain) A outer s H E) ((defBody s__law_plain).drop 3) t ∧ ∀ (D : Ends) (σ : L2.St) (G : Hp), pre__law_plain_3 T H D σ G → t D σ G := by
  obtain ⟨t9, P9, R9⟩ := tl__law_plain_4 T (outer := outer) (s := s) (H := H) (E := E) hr
  refine ⟨_, (pss_cons (ps_set (i := 2) sc__law_plain.nd rfl (Or.inl rfl) (pe_op (Y.op_addK (K := K) rfl) (pv 2) (Y.pe_ls (pa_cons (pe_meth (pv 0) T.cl_Segments T.me_Segments_told_under (ok_Segments_told_under T 6) (hr.mono (by decide)) T.b_Segments_told_under .nil (Y.passD rfl rfl rfl rfl) (pa_cons pe_int (pa_cons pe_int (pa_cons pe_int (pa_cons pe_int (pa_cons pe_int pa_nil)))))) (pa_cons (pe_call (ok_best_part T) (hr.mono (by decide)) rfl T.mg_best_part T.F_best_part.kp T.b_best_part .nil (Y.passD rfl rfl rfl rfl) (pa_cons (Y.pe_tu (pa_cons (pe_un un_neg pe_int) (pa_cons (pe_un un_neg pe_int) pa_nil))) pa_nil)) (pa_cons (pe_meth0 (Y.pe_mk T.mk_Segments (ok_Segments___init__ T) (hr.mono (by decide)) rfl T.mg_Segments T.b_Segments___init__ .nil (Y.passD rfl rfl rfl rfl) (pa_cons (Y.pe_tu (pa_cons pe_int pa_nil)) pa_nil)) T.cl_Segments T.me_Segments_all_values (ok_Segments_all_values T) (hr.mono (by decide)) T.b_Segments_all_values .nil (Y.passD rfl rfl rfl rfl)) (pa_cons (pe_meth (pv 0) T.cl_Segments T.me_Segments_first_above (ok_Segments_first_above T) (hr.mono (by decide)) T.b_Segments_first_above .nil (Y.passD rfl rfl rfl rfl) (pa_cons pe_int (pa_cons pe_int pa_nil))) (pa_cons (pe_meth (pv 0) T.cl_Segments T.me_Segments_reach_from (ok_Segments_reach_from T) (hr.mono (by decide)) T.b_Segments_reach_from .nil (Y.passD rfl rfl rfl rfl) (pa_cons pe_int (pa_cons pe_int pa_nil))) pa_nil))))))))
  P9), ?_⟩
  intro D σ G h
  unfold pre__law_plain_3 at h
  obtain ⟨hA, p1, d1, p2, d2, o, t1, t2, t3, t4, q1, q2, q3, t5, t6, rfl, wp⟩ := h
  have w1 := wp.a
  obtain ⟨N, L, ⟨dx1, o1⟩, rp, hz, sg, l9⟩ := w1
  have n1 : p1 ≠ d1 := by
    obtain ⟨kv, e⟩ := wp.a.dk
    walk_at "ne"
  walk_at "go"
  refine ⟨d1, 5, N, L, _, ⟨dx1, o1⟩, rp, hz, by decide, sg, wp.tb, by decide, rfl, by decide, by decide, by decide, by decide, by decide, fun t7 G1 N1 s mn mx c1 rp1 sg1 _ ft _ ht7 => ?_⟩
  have sa1 : SegAt T G1 p1 d1 [5, 3, 7, 7, 5] := ⟨N1, L, ⟨dx1, by walk_at "lk"⟩, rp1, hz, sg1, l9⟩
  rw [prt_all _ _ (by decide) (by decide)] at ft
  obtain ⟨rfl, rfl, rfl⟩ := fits3 ft (show Fits 27 3 7 [5, 3, 7, 7, 5] from ⟨by decide, ⟨by decide, by decide⟩, by decide, by decide⟩)
  have wp := (wp.op1 c1 sa1).add ht7 rfl
  clear c1 rp1 sg1 ft ht7 sa1 o1 sg rp
  walk_at "go"
  rename_i v2 G2 m2
  have wp := wp.idle m2.chg
  refine ⟨[-1, -2], .inr (.of m2.at), by decide, fun z => absurd ⟨by decide, by decide⟩ z, fun _ _ t8 G3 s a b c3 _ ht8 a0 ab bl es mx => ?_⟩
  obtain ⟨rfl, rfl, rfl⟩ : s = -1 ∧ a = 0 ∧ b = 1 := by
    have m1 := mx 0 1 (by decide) (by decide) (by decide)
    rw [show (Z.sub [-1, -2] 0 1).sum = -1 by decide] at m1
    have bl : b ≤ 2 := bl
    have ac : a = 0 ∨ a = 1 := by omega
    have bc : b = 1 ∨ b = 2 := by omega
    unfold L3 at m1
    rcases ac with rfl | rfl <;> rcases bc with rfl | rfl <;> first | omega | (simp [Z.sub] at es; omega)
  have wp := (wp.idle c3).add ht8 rfl
  clear c3 ht8 m2 mx
  walk_at "go"
  rename_i v4 G4 m4 p3 dx3 G5 mk5
  have wp5 := (wp.idle m4.chg).idle mk5.chg
  refine ⟨⟨dx3, mk5.at⟩, [5], .inr (.of (by walk_at "lk")), by decide, fun z => absurd ⟨by decide, by decide⟩ z, fun _ _ => ⟨by decide, fun d3 G6 c6 fd sa6 => ?_⟩⟩
  have f3 : G3 p3 = none := by walk_at "fr"
  have g3 : G3 d3 = none := by walk_at "fr"
  have c36 : Chg T.tabs nil G3 G6 := by walk_at "chg"
  have wp6 := wp.idle c36
  obtain ⟨dx6, o6⟩ := sa6.ob
  walk_at "go"
  refine ⟨d3, _, sa6, wp6.tb, fun t9 G7 c7 sa7 _ ht9 => ?_⟩
  have c37 : Chg T.tabs nil G3 G7 := by walk_at "chg"
  have wp := (wp.idle c37).add ht9 rfl
  clear c37 c36 c6 c7 sa7 sa6 wp5 wp6 ht9 m4 mk5 o6 fd f3 g3
  obtain ⟨dx7, o7⟩ := wp.a.ob
  walk_at "go"
  refine ⟨d1, _, wp.a, wp.tb, fun z => absurd ⟨by decide, by decide⟩ z, fun _ _ G8 c8 sa8 => ⟨fun _ => ?_, fun k _ _ _ ⟨y, hy, h6⟩ => ?_⟩⟩
  rotate_left
  · have hy' : y ∈ ([5, 3, 7, 7, 5] : List Int) := List.mem_of_mem_drop (List.mem_of_mem_take hy)
    have : ∀ y ∈ ([5, 3, 7, 7, 5] : List Int), y ≤ 99 := by decide
    have := this y hy'
    omega
  have wp := wp.op1 c8 sa8
  clear c8 sa8 o7
  obtain ⟨dx9, o9⟩ := wp.a.ob
  walk_at "go"
  refine ⟨d1, _, wp.a, wp.tb, fun z => absurd ⟨by decide, by decide⟩ z, fun _ _ z => absurd z (by decide), fun _ _ _ G9 c9 sa9 => ⟨fun ⟨y, hy, h0⟩ => ?_, fun _ => ⟨fun _ => ?_, fun k k0 k1 k2 k3 => ?_⟩⟩⟩
  · have : ∀ y ∈ Z.sub [5, 3, 7, 7, 5] 0 (([5, 3, 7, 7, 5] : List Int).length : Int), 0 ≤ y := by decide
    have := this y hy
    omega
  rotate_left
  · have kc : k = 0 ∨ k = 1 ∨ k = 2 ∨ k = 3 ∨ k = 4 := by have : ((([5, 3, 7, 7, 5] : List Int).length : Nat) : Int) = 5 := rfl; omega
    rcases kc with rfl | rfl | rfl | rfl | rfl <;> exact absurd k3 (by decide)
  have wp := wp.op1 c9 sa9
  clear c9 sa9 o9
  have ho := wp.get (x := o) (o := .lst [.ref t1, .non, .non, .ref t2, .int 2, .ref t3, .int 2, .ref t4, .ref t5, .ref t6, .non]) (by simp [LT3])
  walk_at "go"
  rename_i l7 G10 n10 l8 G11 n11
  have wp := ((wp.idle n10.chg).idle n11.chg).add n11.at rfl
  exact R9 _ _ _ ⟨hA, p1, d1, p2, d2, l8, t1, t2, t3, t4, q1, q2, q3, t5, t6, t7, t8, t9, rfl, wp.sub (by simp [LT3, LT4])⟩
end
end Z


set_option Elab.async false
set_option linter.all false
set_option maxRecDepth 100000
set_option maxHeartbeats 4000000
set_option pp.maxSteps 1500
namespace Z
open PySem PySem.Spec L2 LamX Y
local macro_rules | `(tactic| walk_at "lk") => `(tactic| first
  | assumption
  | exact Nw.at (by assumption)
  | exact Wr.at (by assumption)
  | exact Mkd.at (by assumption)
  | exact Nw.look (by assumption) (by walk_at "lk")
  | exact Mkd.look (by assumption) (by walk_at "lk")
  | exact Wr.look (by assumption) (by walk_at "lk") (by walk_at "ne")
  | exact Chg.look (by assumption) (by walk_at "lk") (by walk_at "nin") rfl
  | exact Tp.same (by assumption) _ _ (by walk_at "lk")
  | exact Grows.look (by assumption) (by walk_at "lk") rfl
  | fail)
local macro_rules | `(tactic| walk_at "ne") => `(tactic| first
  | assumption
  | exact Ne.symm (by assumption)
  | exact Nw.ne (by assumption) (by walk_at "lk")
  | exact Ne.symm (Nw.ne (by assumption) (by walk_at "lk"))
  | exact ne_fr (by assumption) (by walk_at "lk")
  | exact Ne.symm (ne_fr (by assumption) (by walk_at "lk"))
  | exact ne_fr (Mkd.nx (by assumption)) (by walk_at "lk")
  | exact Ne.symm (ne_fr (Mkd.nx (by assumption)) (by walk_at "lk"))
  | exact ne_kdn (by assumption) (by walk_at "lk") rfl
  | exact Ne.symm (ne_kdn (by assumption) (by walk_at "lk") rfl)
  | fail)
local macro_rules | `(tactic| walk_at "nin") => `(tactic| first
  | exact nin_nil
  | exact id
  | exact nin_cons (by walk_at "ne") (by walk_at "nin")
  | fail)
local macro_rules | `(tactic| walk_at "fr") => `(tactic| first
  | assumption
  | exact Nw.new (by assumption)
  | exact Mkd.nx (by assumption)
  | exact Nw.dom (by assumption) (by walk_at "fr")
  | exact Wr.dom (by assumption) (by walk_at "fr")
  | exact Mkd.dom (by assumption) (by walk_at "fr")
  | exact Chg.dom (by assumption) _ (by walk_at "fr")
  | exact Tp.dom (by assumption) _ (by walk_at "fr")
  | exact Grows.dom (by assumption) _ (by walk_at "fr")
  | fail)
local macro_rules | `(tactic| walk_at "mem") => `(tactic| first
  | assumption
  | exact List.mem_cons_self
  | (apply List.mem_cons_of_mem; walk_at "mem")
  | fail)
local macro_rules | `(tactic| walk_at "in") => `(tactic| first
  | assumption
  | (apply Or.inl; walk_at "mem")
  | (apply Or.inr; walk_at "fr")
  | fail)
local macro_rules | `(tactic| walk_at "sub") => `(tactic| first
  | exact sub_nil0
  | exact sub_nil
  | exact sub_cons (by walk_at "in") (by walk_at "sub")
  | fail)
local macro_rules | `(tactic| walk_at "chg") => `(tactic| first
  | assumption
  | exact Chg.refl _
  | exact Chg.nw (by assumption) (by walk_at "chg")
  | exact Chg.mkd (by assumption) (by walk_at "chg")
  | exact Chg.tp (by assumption) (by walk_at "chg")
  | exact Chg.gr (by assumption) (by walk_at "chg")
  | exact Chg.wr (by assumption) (by walk_at "chg") (by walk_at "in")
  | exact Chg.ch (by assumption) (by walk_at "chg") (by walk_at "sub")
  | fail)
local macro_rules | `(tactic| walk_at "sq") => `(tactic| first
  | assumption
  | exact SqL.of (by walk_at "lk")
  | exact Chg.seqL (by assumption) (by walk_at "sq") (by walk_at "nin")
  | exact SqL.nw (by assumption) (by walk_at "sq")
  | exact SqL.tp (by assumption) (by walk_at "sq")
  | exact SqL.mkd (by assumption) (by walk_at "sq")
  | exact SqL.wr (by assumption) (by walk_at "sq") (by walk_at "ne")
  | fail)
local macro_rules | `(tactic| walk_at "sqt") => `(tactic| first
  | assumption
  | exact SqT.of (by walk_at "lk")
  | exact Tp.sq (by assumption)
  | exact SqT.nw (by assumption) (by walk_at "sqt")
  | exact SqT.tp (by assumption) (by walk_at "sqt")
  | exact SqT.mkd (by assumption) (by walk_at "sqt")
  | exact SqT.chg (by assumption) (by walk_at "sqt") (by walk_at "nin")
  | fail)
local macro_rules | `(tactic| walk_at "seq") => `(tactic| first
  | assumption
  | exact .inl (by walk_at "sq")
  | exact .inr (by walk_at "sqt")
  | exact SqA.keepN (T := Env.tabs (by assumption)) (by assumption) (by walk_at "chg")
  | fail)
local macro_rules | `(tactic| walk_at "go") => `(tactic| repeat first
  | refine ⟨_, rfl, ?_⟩
  | refine ⟨_, _, _, _, rfl, And.intro (by walk_at "lk") (And.intro rfl ?_)⟩
  | refine ⟨_, _, _, rfl, And.intro (by walk_at "lk") (And.intro (by walk_at "side") ?_)⟩
  | refine ⟨_, _, And.intro rfl (And.intro rfl ?_)⟩
  | refine ⟨_, _, And.intro rfl (And.intro (by walk_at "lk") ?_)⟩
  | refine ⟨_, _, _, And.intro rfl (And.intro (by walk_at "lk") ?_)⟩
  | refine ⟨_, And.intro (by walk_at "lk") (And.intro (by walk_at "side") ?_)⟩
  | refine ⟨_, _, And.intro (by walk_at "lk") (And.intro (by walk_at "side") ?_)⟩
  | refine ⟨_, _, And.intro (by walk_at "seq") (And.intro rfl ?_)⟩
  | refine ⟨_, _, And.intro (by walk_at "seq") (And.intro (by assumption) ?_)⟩
  | refine ⟨_, And.intro (by walk_at "seq") ?_⟩
  | refine ⟨_, And.intro (by walk_at "lk") (And.intro (by walk_at "side") (And.intro (by walk_at "side") (And.intro (by walk_at "side") ?_)))⟩
  | refine .inl ⟨_, _, And.intro (by walk_at "lk") (And.intro (by walk_at "lk") (And.intro (by walk_at "side") ?_))⟩
  | refine .inr ⟨_, _, And.intro (by walk_at "sqt") (And.intro (by walk_at "sqt") (And.intro (by walk_at "side") ?_))⟩
  | refine .inl ⟨_, And.intro (by walk_at "sq") ?_⟩
  | refine .inr ⟨_, And.intro (by walk_at "sqt") ?_⟩
  | refine ⟨_, _, _, _, rfl, rfl, And.intro (by walk_at "lk") (And.intro rfl ?_)⟩
  | refine ⟨_, _, _, _, rfl, rfl, And.intro (by walk_at "lk") (And.intro (by walk_at "key") ?_)⟩
  | refine ⟨_, _, _, rfl, rfl, And.intro (by walk_at "lk") (And.intro (by walk_at "side") ?_)⟩
  | refine fun H' (n : Wr _ _ _ H') => ?_
  | refine fun p H' (n : Nw _ p _ H') => ?_
  | refine fun r H' (n : Tp _ _ r _ H') => ?_
  | refine fun x dx H' (n : Mkd _ _ x dx H') => ?_
  | refine .inl ⟨_, _, rfl, And.intro (by walk_at "sq") (fun p H' (n : Nw _ p _ H') => ?_)⟩
  | refine .inr ⟨_, _, rfl, And.intro (by walk_at "sqt") (fun r H' (n : Tp _ _ r _ H') => ?_)⟩
  | refine ⟨_, _, rfl, And.intro (by walk_at "sq") (fun p H' (n : Nw _ p _ H') => ?_)⟩
  | refine .inl (And.intro ⟨_, by walk_at "sq"⟩ ?_)
  | refine .inr (And.intro ⟨_, by walk_at "sqt"⟩ ?_)
  | refine ⟨_, _, rfl, And.intro (by walk_at "sqt") (And.intro rfl ?_)⟩
  | refine ⟨_, _, And.intro rfl ?_⟩
  | refine ⟨_, _, _, And.intro rfl ?_⟩
  | refine And.intro rfl ?_
  | (refine ite_t ?_ ?_; exact rfl)
  | (refine ite_f ?_ ?_; exact rfl)
  | refine And.intro (by walk_at "side") ?_)
local macro_rules | `(tactic| walk_at "side") => `(tactic| first
  | exact (rfl : _ = _)
  | decide
  | exact lt1000 rfl
  | with_reducible assumption
  | exact ⟨by omega, by omega⟩
  | exact .inl ⟨by omega, by omega⟩
  | exact .inr ⟨by omega, by omega⟩
  | omega
  | (apply le_line; omega)
  | (apply lt_line; omega)
  | (apply le_line; simp <;> omega)
  | (apply lt_line; simp <;> omega)
  | fail)
local macro_rules | `(tactic| walk_at "if") => `(tactic| first
  | refine ite_nd ?_ ?_
  | refine ite_d ?_ ?_
  | refine ite_eqt ?_ ?_
  | fail)
local macro_rules | `(tactic| walk_at "roll") => `(tactic| first
  | (refine And.intro (show Dice _ _ from ⟨_, _, _, by walk_at "lk"⟩) (And.intro (by walk_at "side") (And.intro (by walk_at "side") (fun r H' r0 r1 ro => ?_))); obtain ⟨a', b', c', w⟩ := ro)
  | fail)
local macro_rules | `(tactic| walk_at "run") => `(tactic| (walk_at "go"; repeat (walk_at "roll"; walk_at "go")))
local macro_rules | `(tactic| walk_at "dp") => `(tactic| first
  | exact Dp.non
  | exact Dp.int _
  | exact Dp.str _
  | exact Dp.bl _
  | exact DpAll.nil
  | exact DpAll.cons (by walk_at "dp") (by walk_at "dp")
  | exact Dp.tup (by walk_at "sqt") (by walk_at "dp")
  | exact Dp.lst (by walk_at "sq") (by walk_at "dp")
  | fail)
local macro_rules | `(tactic| walk_at "key") => `(tactic| first
  | assumption
  | fail)

section
variable {w : World} {K : PySem.W.Frag} {mg : Str → Option Value} {base : Heap}
theorem tl__law_plain_2 (T : Env w K mg base) {A : Around} {outer : List PySem.Env} {s : Shared} {H : Hp} {E : XK} (hr : Room 95 (A.deeper (PyProof.Rows.envOfC "_law_plain" (defScope s__law_plain) s.heap.objs.size T.f__law_plain (.ref T.c__law_plain)))) : ∃ t, PSs (cxOf (L2.CX prg w) prg w K mg base N__law_plain "_law_plain" (defScope s__law_plain) T.f__law_plain (.ref T.c__law_plain) A outer s H E) ((defBody s__law_plain).drop 2) t ∧ ∀ (D : Ends) (σ : L2.St) (G : Hp), pre__law_plain_2 T H D σ G → t D σ G := by
  obtain ⟨t9, P9, R9⟩ := tl__law_plain_3 T (outer := outer) (s := s) (H := H) (E := E) hr
  refine ⟨_, (pss_cons (ps_set (i := 2) sc__law_plain.nd rfl (Or.inl rfl) (pe_op (Y.op_addK (K := K) rfl) (pv 2) (Y.pe_ls (pa_cons (pe_meth (pv 0) T.cl_Segments T.me_Segments_reach_from (ok_Segments_reach_from T) (hr.mono (by decide)) T.b_Segments_reach_from .nil (Y.passD rfl rfl rfl rfl) (pa_cons pe_int (pa_cons pe_int pa_nil))) (pa_cons (pe_meth (pv 0) T.cl_Segments T.me_Segments_nodes_for (ok_Segments_nodes_for T) (hr.mono (by decide)) T.b_Segments_nodes_for .nil (Y.passD rfl rfl rfl rfl) (pa_cons pe_int (pa_cons pe_int pa_nil))) (pa_cons (pe_call (ok_best_part T) (hr.mono (by decide)) rfl T.mg_best_part T.F_best_part.kp T.b_best_part .nil (Y.passD rfl rfl rfl rfl) (pa_cons (Y.pe_tu (pa_cons pe_int (pa_cons (pe_un un_neg pe_int) (pa_cons pe_int (pa_cons pe_int (pa_cons (pe_un un_neg pe_int) pa_nil)))))) pa_nil)) (pa_cons (pe_call (ok_windows_least T) (hr.mono (by decide)) rfl T.mg_windows_least T.F_windows_least.kp T.b_windows_least .nil (Y.passD rfl rfl rfl rfl) (pa_cons (Y.pe_tu (pa_cons pe_int (pa_cons pe_int (pa_cons pe_int pa_nil)))) (pa_cons pe_int pa_nil))) (pa_cons (pe_meth (pv 0) T.cl_Segments T.me_Segments_check_part (ok_Segments_check_part T) (hr.mono (by decide)) T.b_Segments_check_part .nil (Y.passD rfl rfl rfl rfl) (pa_cons pe_int (pa_cons pe_int pa_nil))) pa_nil))))))))
  P9), ?_⟩
  intro D σ G h
  unfold pre__law_plain_2 at h
  obtain ⟨hA, p1, d1, p2, d2, o, t1, t2, t3, rfl, wp⟩ := h
  obtain ⟨dx1, o1⟩ := wp.a.ob
  walk_at "go"
  refine ⟨d1, _, wp.a, wp.tb, fun z => absurd ⟨by decide, by decide⟩ z, fun _ _ z => absurd z (by decide), fun _ _ _ G1 c1 sa1 => ⟨fun ⟨y, hy, h0⟩ => ?_, fun _ => ⟨fun z => absurd z (by decide), fun k k0 k1 k2 k3 => ?_⟩⟩⟩
  · have : ∀ y ∈ Z.sub [5, 3, 7, 7, 5] 1 (([5, 3, 7, 7, 5] : List Int).length : Int), 0 ≤ y := by decide
    have := this y hy
    omega
  obtain rfl : k = 2 := by
    have kc : k = 1 ∨ k = 2 ∨ k = 3 ∨ k = 4 := by have : ((([5, 3, 7, 7, 5] : List Int).length : Nat) : Int) = 5 := rfl; omega
    rcases kc with rfl | rfl | rfl | rfl
    · exact absurd k3 (by decide)
    · rfl
    · exact absurd k2 (by decide)
    · exact absurd k2 (by decide)
  have wp := wp.op1 c1 sa1
  clear c1 sa1 o1 k0 k1 k2 k3
  obtain ⟨dx2, o2⟩ := wp.a.ob
  walk_at "go"
  refine ⟨d1, _, wp.a, fun z => absurd ⟨by decide, by decide, by decide⟩ z, fun _ _ _ t4 G2 rs c2 _ ht4 ra => ?_⟩
  rw [show (nodesL 1 4 6 0 (([5, 3, 7, 7, 5] : List Int).length : Int)).map prV = [[V.int 1, V.int 2], [V.int 2, V.int 3], [V.int 3, V.int 4]] by decide] at ra
  cases ra with
  | cons a1 ra => cases ra with
    | cons a2 ra => cases ra with
      | cons a3 ra =>
        cases ra
        obtain ⟨q1, rfl, hq1⟩ := a1
        obtain ⟨q2, rfl, hq2⟩ := a2
        obtain ⟨q3, rfl, hq3⟩ := a3
        have wp := ((((wp.idle c2).add hq3 rfl).add hq2 rfl).add hq1 rfl).add ht4 rfl
        clear c2 ht4 hq1 hq2 hq3 o2
        walk_at "go"
        rename_i v5 G3 n3
        have wp := wp.idle n3.chg
        refine ⟨[1, -2, 3, 4, -1], .inr (.of n3.at), by decide, fun z => absurd ⟨by decide, by decide⟩ z, fun _ _ t5 G4 s a b c4 _ ht5 a0 ab bl es mx => ?_⟩
        obtain ⟨rfl, rfl, rfl⟩ : s = 7 ∧ a = 2 ∧ b = 4 := by
          have m1 := mx 2 4 (by decide) (by decide) (by decide)
          rw [show (Z.sub [1, -2, 3, 4, -1] 2 4).sum = 7 by decide] at m1
          have bl : b ≤ 5 := bl
          have ac : a = 0 ∨ a = 1 ∨ a = 2 ∨ a = 3 ∨ a = 4 := by omega
          have bc : b = 1 ∨ b = 2 ∨ b = 3 ∨ b = 4 ∨ b = 5 := by omega
          unfold L3 at m1
          rcases ac with rfl | rfl | rfl | rfl | rfl <;> rcases bc with rfl | rfl | rfl | rfl | rfl <;> first | omega | (simp [Z.sub] at es; omega)
        have wp := (wp.idle c4).add ht5 rfl
        clear c4 ht5 n3 mx
        walk_at "go"
        rename_i v6 G5 n5
        have wp := wp.idle n5.chg
        refine ⟨[3, 1, 2], .inr (.of n5.at), wp.tb, by decide, fun z => absurd ⟨by decide, by decide⟩ z, fun _ _ => ⟨by decide, fun z => absurd ⟨by decide, by decide⟩ z, fun _ _ t6 G6 ms c6 _ ht6 ml mm => ?_⟩⟩
        obtain rfl : ms = [1, 1] := by
          have m0 := mm 0
          have m1 := mm 1
          have ml : ms.length = 2 := by have e : ((([3, 1, 2] : List Int).length : Nat) : Int) = 3 := rfl; omega
          match ms, ml with
          | [u, v], _ =>
            have a := m0 u rfl
            have b := m1 v rfl
            have a' : IsMin 1 (Z.sub [3, 1, 2] ((0 : Nat) : Int) (((0 : Nat) : Int) + 2)) := ⟨by decide, by decide⟩
            have b' : IsMin 1 (Z.sub [3, 1, 2] ((1 : Nat) : Int) (((1 : Nat) : Int) + 2)) := ⟨by decide, by decide⟩
            rw [Int.le_antisymm (a.2 _ a'.1) (a'.2 _ a.1), Int.le_antisymm (b.2 _ b'.1) (b'.2 _ b.1)]
        have wp := (wp.idle c6).add ht6 rfl
        clear c6 ht6 n5 mm
        obtain ⟨dx3, o3⟩ := wp.a.ob
        walk_at "go"
        refine ⟨d1, _, ⟨dx3, o3⟩, fun z => absurd ⟨by decide, by decide, by decide⟩ z, fun _ _ _ => ?_⟩
        have ho := wp.get (x := o) (o := .lst [.ref t1, .non, .non, .ref t2, .int 2, .ref t3]) (by simp)
        walk_at "go"
        rename_i l7 G7 n7 l8 G8 n8
        have wp := ((wp.idle n7.chg).idle n8.chg).add n8.at rfl
        exact R9 _ _ _ ⟨hA, p1, d1, p2, d2, l8, t1, t2, t3, t4, q1, q2, q3, t5, t6, rfl, wp.sub (by simp [LT3])⟩
end
end Z


set_option Elab.async false
set_option linter.all false
set_option maxRecDepth 100000
set_option maxHeartbeats 4000000
set_option pp.maxSteps 1500
namespace Z
open PySem PySem.Spec L2 LamX Y
local macro_rules | `(tactic| walk_at "lk") => `(tactic| first
  | assumption
  | exact Nw.at (by assumption)
  | exact Wr.at (by assumption)
  | exact Mkd.at (by assumption)
  | exact Nw.look (by assumption) (by walk_at "lk")
  | exact Mkd.look (by assumption) (by walk_at "lk")
  | exact Wr.look (by assumption) (by walk_at "lk") (by walk_at "ne")
  | exact Chg.look (by assumption) (by walk_at "lk") (by walk_at "nin") rfl
  | exact Tp.same (by assumption) _ _ (by walk_at "lk")
  | exact Grows.look (by assumption) (by walk_at "lk") rfl
  | fail)
local macro_rules | `(tactic| walk_at "ne") => `(tactic| first
  | assumption
  | exact Ne.symm (by assumption)
  | exact Nw.ne (by assumption) (by walk_at "lk")
  | exact Ne.symm (Nw.ne (by assumption) (by walk_at "lk"))
  | exact ne_fr (by assumption) (by walk_at "lk")
  | exact Ne.symm (ne_fr (by assumption) (by walk_at "lk"))
  | exact ne_fr (Mkd.nx (by assumption)) (by walk_at "lk")
  | exact Ne.symm (ne_fr (Mkd.nx (by assumption)) (by walk_at "lk"))
  | exact ne_kdn (by assumption) (by walk_at "lk") rfl
  | exact Ne.symm (ne_kdn (by assumption) (by walk_at "lk") rfl)
  | fail)
local macro_rules | `(tactic| walk_at "nin") => `(tactic| first
  | exact nin_nil
  | exact id
  | exact nin_cons (by walk_at "ne") (by walk_at "nin")
  | fail)
local macro_rules | `(tactic| walk_at "fr") => `(tactic| first
  | assumption
  | exact Nw.new (by assumption)
  | exact Mkd.nx (by assumption)
  | exact Nw.dom (by assumption) (by walk_at "fr")
  | exact Wr.dom (by assumption) (by walk_at "fr")
  | exact Mkd.dom (by assumption) (by walk_at "fr")
  | exact Chg.dom (by assumption) _ (by walk_at "fr")
  | exact Tp.dom (by assumption) _ (by walk_at "fr")
  | exact Grows.dom (by assumption) _ (by walk_at "fr")
  | fail)
local macro_rules | `(tactic| walk_at "mem") => `(tactic| first
  | assumption
  | exact List.mem_cons_self
  | (apply List.mem_cons_of_mem; walk_at "mem")
  | fail)
local macro_rules | `(tactic| walk_at "in") => `(tactic| first
  | assumption
  | (apply Or.inl; walk_at "mem")
  | (apply Or.inr; walk_at "fr")
  | fail)
local macro_rules | `(tactic| walk_at "sub") => `(tactic| first
  | exact sub_nil0
  | exact sub_nil
  | exact sub_cons (by walk_at "in") (by walk_at "sub")
  | fail)
local macro_rules | `(tactic| walk_at "chg") => `(tactic| first
  | assumption
  | exact Chg.refl _
  | exact Chg.nw (by assumption) (by walk_at "chg")
  | exact Chg.mkd (by assumption) (by walk_at "chg")
  | exact Chg.tp (by assumption) (by walk_at "chg")
  | exact Chg.gr (by assumption) (by walk_at "chg")
  | exact Chg.wr (by assumption) (by walk_at "chg") (by walk_at "in")
  | exact Chg.ch (by assumption) (by walk_at "chg") (by walk_at "sub")
  | fail)
local macro_rules | `(tactic| walk_at "sq") => `(tactic| first
  | assumption
  | exact SqL.of (by walk_at "lk")
  | exact Chg.seqL (by assumption) (by walk_at "sq") (by walk_at "nin")
  | exact SqL.nw (by assumption) (by walk_at "sq")
  | exact SqL.tp (by assumption) (by walk_at "sq")
  | exact SqL.mkd (by assumption) (by walk_at "sq")
  | exact SqL.wr (by assumption) (by walk_at "sq") (by walk_at "ne")
  | fail)
local macro_rules | `(tactic| walk_at "sqt") => `(tactic| first
  | assumption
  | exact SqT.of (by walk_at "lk")
  | exact Tp.sq (by assumption)
  | exact SqT.nw (by assumption) (by walk_at "sqt")
  | exact SqT.tp (by assumption) (by walk_at "sqt")
  | exact SqT.mkd (by assumption) (by walk_at "sqt")
  | exact SqT.chg (by assumption) (by walk_at "sqt") (by walk_at "nin")
  | fail)
local macro_rules | `(tactic| walk_at "seq") => `(tactic| first
  | assumption
  | exact .inl (by walk_at "sq")
  | exact .inr (by walk_at "sqt")
  | exact SqA.keepN (T := Env.tabs (by assumption)) (by assumption) (by walk_at "chg")
  | fail)
local macro_rules | `(tactic| walk_at "go") => `(tactic| repeat first
  | refine ⟨_, rfl, ?_⟩
  | refine ⟨_, _, _, _, rfl, And.intro (by walk_at "lk") (And.intro rfl ?_)⟩
  | refine ⟨_, _, _, rfl, And.intro (by walk_at "lk") (And.intro (by walk_at "side") ?_)⟩
  | refine ⟨_, _, And.intro rfl (And.intro rfl ?_)⟩
  | refine ⟨_, _, And.intro rfl (And.intro (by walk_at "lk") ?_)⟩
  | refine ⟨_, _, _, And.intro rfl (And.intro (by walk_at "lk") ?_)⟩
  | refine ⟨_, And.intro (by walk_at "lk") (And.intro (by walk_at "side") ?_)⟩
  | refine ⟨_, _, And.intro (by walk_at "lk") (And.intro (by walk_at "side") ?_)⟩
  | refine ⟨_, _, And.intro (by walk_at "seq") (And.intro rfl ?_)⟩
  | refine ⟨_, _, And.intro (by walk_at "seq") (And.intro (by assumption) ?_)⟩
  | refine ⟨_, And.intro (by walk_at "seq") ?_⟩
  | refine ⟨_, And.intro (by walk_at "lk") (And.intro (by walk_at "side") (And.intro (by walk_at "side") (And.intro (by walk_at "side") ?_)))⟩
  | refine .inl ⟨_, _, And.intro (by walk_at "lk") (And.intro (by walk_at "lk") (And.intro (by walk_at "side") ?_))⟩
  | refine .inr ⟨_, _, And.intro (by walk_at "sqt") (And.intro (by walk_at "sqt") (And.intro (by walk_at "side") ?_))⟩
  | refine .inl ⟨_, And.intro (by walk_at "sq") ?_⟩
  | refine .inr ⟨_, And.intro (by walk_at "sqt") ?_⟩
  | refine ⟨_, _, _, _, rfl, rfl, And.intro (by walk_at "lk") (And.intro rfl ?_)⟩
  | refine ⟨_, _, _, _, rfl, rfl, And.intro (by walk_at "lk") (And.intro (by walk_at "key") ?_)⟩
  | refine ⟨_, _, _, rfl, rfl, And.intro (by walk_at "lk") (And.intro (by walk_at "side") ?_)⟩
  | refine fun H' (n : Wr _ _ _ H') => ?_
  | refine fun p H' (n : Nw _ p _ H') => ?_
  | refine fun r H' (n : Tp _ _ r _ H') => ?_
  | refine fun x dx H' (n : Mkd _ _ x dx H') => ?_
  | refine .inl ⟨_, _, rfl, And.intro (by walk_at "sq") (fun p H' (n : Nw _ p _ H') => ?_)⟩
  | refine .inr ⟨_, _, rfl, And.intro (by walk_at "sqt") (fun r H' (n : Tp _ _ r _ H') => ?_)⟩
  | refine ⟨_, _, rfl, And.intro (by walk_at "sq") (fun p H' (n : Nw _ p _ H') => ?_)⟩
  | refine .inl (And.intro ⟨_, by walk_at "sq"⟩ ?_)
  | refine .inr (And.intro ⟨_, by walk_at "sqt"⟩ ?_)
  | refine ⟨_, _, rfl, And.intro (by walk_at "sqt") (And.intro rfl ?_)⟩
  | refine ⟨_, _, And.intro rfl ?_⟩
  | refine ⟨_, _, _, And.intro rfl ?_⟩
  | refine And.intro rfl ?_
  | (refine ite_t ?_ ?_; exact rfl)
  | (refine ite_f ?_ ?_; exact rfl)
  | refine And.intro (by walk_at "side") ?_)
local macro_rules | `(tactic| walk_at "side") => `(tactic| first
  | exact (rfl : _ = _)
  | decide
  | exact lt1000 rfl
  | with_reducible assumption
  | exact ⟨by omega, by omega⟩
  | exact .inl ⟨by omega, by omega⟩
  | exact .inr ⟨by omega, by omega⟩
  | omega
  | (apply le_line; omega)
  | (apply lt_line; omega)
  | (apply le_line; simp <;> omega)
  | (apply lt_line; simp <;> omega)
  | fail)
local macro_rules | `(tactic| walk_at "if") => `(tactic| first
  | refine ite_nd ?_ ?_
  | refine ite_d ?_ ?_
  | refine ite_eqt ?_ ?_
  | fail)
local macro_rules | `(tactic| walk_at "roll") => `(tactic| first
  | (refine And.intro (show Dice _ _ from ⟨_, _, _, by walk_at "lk"⟩) (And.intro (by walk_at "side") (And.intro (by walk_at "side") (fun r H' r0 r1 ro => ?_))); obtain ⟨a', b', c', w⟩ := ro)
  | fail)
local macro_rules | `(tactic| walk_at "run") => `(tactic| (walk_at "go"; repeat (walk_at "roll"; walk_at "go")))
local macro_rules | `(tactic| walk_at "dp") => `(tactic| first
  | exact Dp.non
  | exact Dp.int _
  | exact Dp.str _
  | exact Dp.bl _
  | exact DpAll.nil
  | exact DpAll.cons (by walk_at "dp") (by walk_at "dp")
  | exact Dp.tup (by walk_at "sqt") (by walk_at "dp")
  | exact Dp.lst (by walk_at "sq") (by walk_at "dp")
  | fail)
local macro_rules | `(tactic| walk_at "key") => `(tactic| first
  | assumption
  | fail)

section
variable {w : World} {K : PySem.W.Frag} {mg : Str → Option Value} {base : Heap}
theorem tl__law_plain_1 (T : Env w K mg base) {A : Around} {outer : List PySem.Env} {s : Shared} {H : Hp} {E : XK} (hr : Room 95 (A.deeper (PyProof.Rows.envOfC "_law_plain" (defScope s__law_plain) s.heap.objs.size T.f__law_plain (.ref T.c__law_plain)))) : ∃ t, PSs (cxOf (L2.CX prg w) prg w K mg base N__law_plain "_law_plain" (defScope s__law_plain) T.f__law_plain (.ref T.c__law_plain) A outer s H E) ((defBody s__law_plain).drop 1) t ∧ ∀ (D : Ends) (σ : L2.St) (G : Hp), pre__law_plain_1 T H D σ G → t D σ G := by
  obtain ⟨t9, P9, R9⟩ := tl__law_plain_2 T (outer := outer) (s := s) (H := H) (E := E) hr
  refine ⟨_, (pss_cons (ps_set (i := 2) sc__law_plain.nd rfl (Or.inl rfl) (Y.pe_ls (pa_cons (pe_meth (pv 0) T.cl_Segments T.me_Segments_told_in (ok_Segments_told_in T) (hr.mono (by decide)) T.b_Segments_told_in .nil (Y.passD rfl rfl rfl rfl) (pa_cons pe_int (pa_cons pe_int pa_nil))) (pa_cons (pe_meth (pv 0) T.cl_Segments T.me_Segments_add_to (ok_Segments_add_to T) (hr.mono (by decide)) T.b_Segments_add_to .nil (Y.passD rfl rfl rfl rfl) (pa_cons pe_int (pa_cons pe_int (pa_cons pe_int pa_nil)))) (pa_cons (pe_meth (pv 0) T.cl_Segments T.me_Segments_set_to (ok_Segments_set_to T) (hr.mono (by decide)) T.b_Segments_set_to .nil (Y.passD rfl rfl rfl rfl) (pa_cons pe_int (pa_cons pe_int (pa_cons pe_int pa_nil)))) (pa_cons (pe_meth0 (pv 0) T.cl_Segments T.me_Segments_all_values (ok_Segments_all_values T) (hr.mono (by decide)) T.b_Segments_all_values .nil (Y.passD rfl rfl rfl rfl)) (pa_cons (pe_meth (pv 0) T.cl_Segments T.me_Segments_first_above (ok_Segments_first_above T) (hr.mono (by decide)) T.b_Segments_first_above .nil (Y.passD rfl rfl rfl rfl) (pa_cons pe_int (pa_cons pe_int pa_nil))) (pa_cons (pe_meth (pv 0) T.cl_Segments T.me_Segments_places_of (ok_Segments_places_of T) (hr.mono (by decide)) T.b_Segments_places_of .nil (Y.passD rfl rfl rfl rfl) (pa_cons pe_int (pa_cons pe_int (pa_cons pe_bl pa_nil)))) pa_nil))))))))
  P9), ?_⟩
  intro D σ G h
  unfold pre__law_plain_1 at h
  obtain ⟨hA, p1, d1, p2, d2, rfl, wp⟩ := h
  obtain ⟨dx1, o1⟩ := wp.a.ob
  walk_at "go"
  refine ⟨d1, _, wp.a, wp.tb, fun z => absurd ⟨by decide, by decide, by decide⟩ z, fun _ _ _ t1 G1 s mn mx c1 sa1 ft fp1 ht1 => ?_⟩
  obtain ⟨rfl, rfl, rfl⟩ := fits3 ft (show Fits 6 1 4 (Z.sub [3, 1, 4, 1, 5] 1 4) from ⟨by decide, ⟨by decide, by decide⟩, by decide, by decide⟩)
  have wp := (wp.op1 c1 sa1).add ht1 rfl
  clear c1 sa1 ft fp1 ht1 o1
  obtain ⟨dx2, o2⟩ := wp.a.ob
  walk_at "go"
  refine ⟨d1, _, wp.a, fun z => absurd ⟨by decide, by decide, by decide⟩ z, fun _ _ _ G2 c2 sa2 => ?_⟩
  rw [show chgL 0 3 (opV false 2) 0 [3, 1, 4, 1, 5] = [5, 3, 6, 1, 5] by decide] at sa2
  have wp := wp.op1 c2 sa2
  clear c2 sa2 o2
  obtain ⟨dx3, o3⟩ := wp.a.ob
  walk_at "go"
  refine ⟨d1, _, wp.a, fun z => absurd ⟨by decide, by decide, by decide⟩ z, fun _ _ _ G3 c3 sa3 => ?_⟩
  rw [show chgL 2 4 (opV true 7) 0 [5, 3, 6, 1, 5] = [5, 3, 7, 7, 5] by decide] at sa3
  have wp := wp.op1 c3 sa3
  clear c3 sa3 o3
  obtain ⟨dx4, o4⟩ := wp.a.ob
  walk_at "go"
  refine ⟨d1, _, wp.a, wp.tb, fun t2 G4 c4 sa4 _ ht2 => ?_⟩
  have wp := (wp.op1 c4 sa4).add ht2 rfl
  clear c4 sa4 o4 ht2
  obtain ⟨dx5, o5⟩ := wp.a.ob
  walk_at "go"
  refine ⟨d1, _, wp.a, wp.tb, fun z => absurd ⟨by decide, by decide⟩ z, fun _ _ G5 c5 sa5 => ⟨fun z => absurd (z 7 (by decide)) (by decide), fun k k0 k1 k2 k3 => ?_⟩⟩
  obtain rfl : k = 2 := by
    have kc : k = 1 ∨ k = 2 ∨ k = 3 ∨ k = 4 := by have : ((([5, 3, 7, 7, 5] : List Int).length : Nat) : Int) = 5 := rfl; omega
    rcases kc with rfl | rfl | rfl | rfl
    · obtain ⟨y, hy, h6⟩ := k3
      have : ∀ y ∈ Z.sub [5, 3, 7, 7, 5] 1 (1 + 1), y ≤ 6 := by decide
      have := this y hy
      omega
    · rfl
    · exact absurd (k2 7 (by decide)) (by decide)
    · exact absurd (k2 7 (by decide)) (by decide)
  have wp := wp.op1 c5 sa5
  clear c5 sa5 o5 k0 k1 k2 k3
  obtain ⟨dx6, o6⟩ := wp.a.ob
  walk_at "go"
  refine ⟨d1, _, wp.a, wp.tb, fun z => absurd ⟨by decide, by decide, by decide⟩ z, fun _ _ _ t3 G6 m c6 sa6 hm _ _ ht3 => ?_⟩
  obtain rfl : m = 3 := by
    have a := hm rfl
    have b : IsMin 3 (Z.sub [5, 3, 7, 7, 5] 0 5) := ⟨by decide, by decide⟩
    exact Int.le_antisymm (a.2 _ b.1) (b.2 _ a.1)
  rw [show (plc 3 0 (Z.sub [5, 3, 7, 7, 5] 0 5)).map V.int = [V.int 1] by decide] at ht3
  have wp := (wp.op1 c6 sa6).add ht3 rfl
  clear c6 sa6 hm ht3 o6
  walk_at "go"
  rename_i o G7 n7
  have wp := (wp.idle n7.chg).add n7.at rfl
  exact R9 _ _ _ ⟨hA, p1, d1, p2, d2, o, t1, t2, t3, rfl, wp.sub (by simp)⟩
end
end Z


set_option Elab.async false
set_option linter.all false
set_option maxRecDepth 100000
set_option maxHeartbeats 4000000
set_option pp.maxSteps 1500
namespace Z
open PySem PySem.Spec L2 LamX Y
local macro_rules | `(tactic| walk_at "lk") => `(tactic| first
  | assumption
  | exact Nw.at (by assumption)
  | exact Wr.at (by assumption)
  | exact Mkd.at (by assumption)
  | exact Nw.look (by assumption) (by walk_at "lk")
  | exact Mkd.look (by assumption) (by walk_at "lk")
  | exact Wr.look (by assumption) (by walk_at "lk") (by walk_at "ne")
  | exact Chg.look (by assumption) (by walk_at "lk") (by walk_at "nin") rfl
  | exact Tp.same (by assumption) _ _ (by walk_at "lk")
  | exact Grows.look (by assumption) (by walk_at "lk") rfl
  | fail)
local macro_rules | `(tactic| walk_at "ne") => `(tactic| first
  | assumption
  | exact Ne.symm (by assumption)
  | exact Nw.ne (by assumption) (by walk_at "lk")
  | exact Ne.symm (Nw.ne (by assumption) (by walk_at "lk"))
  | exact ne_fr (by assumption) (by walk_at "lk")
  | exact Ne.symm (ne_fr (by assumption) (by walk_at "lk"))
  | exact ne_fr (Mkd.nx (by assumption)) (by walk_at "lk")
  | exact Ne.symm (ne_fr (Mkd.nx (by assumption)) (by walk_at "lk"))
  | exact ne_kdn (by assumption) (by walk_at "lk") rfl
  | exact Ne.symm (ne_kdn (by assumption) (by walk_at "lk") rfl)
  | fail)
local macro_rules | `(tactic| walk_at "nin") => `(tactic| first
  | exact nin_nil
  | exact id
  | exact nin_cons (by walk_at "ne") (by walk_at "nin")
  | fail)
local macro_rules | `(tactic| walk_at "fr") => `(tactic| first
  | assumption
  | exact Nw.new (by assumption)
  | exact Mkd.nx (by assumption)
  | exact Nw.dom (by assumption) (by walk_at "fr")
  | exact Wr.dom (by assumption) (by walk_at "fr")
  | exact Mkd.dom (by assumption) (by walk_at "fr")
  | exact Chg.dom (by assumption) _ (by walk_at "fr")
  | exact Tp.dom (by assumption) _ (by walk_at "fr")
  | exact Grows.dom (by assumption) _ (by walk_at "fr")
  | fail)
local macro_rules | `(tactic| walk_at "mem") => `(tactic| first
  | assumption
  | exact List.mem_cons_self
  | (apply List.mem_cons_of_mem; walk_at "mem")
  | fail)
local macro_rules | `(tactic| walk_at "in") => `(tactic| first
  | assumption
  | (apply Or.inl; walk_at "mem")
  | (apply Or.inr; walk_at "fr")
  | fail)
local macro_rules | `(tactic| walk_at "sub") => `(tactic| first
  | exact sub_nil0
  | exact sub_nil
  | exact sub_cons (by walk_at "in") (by walk_at "sub")
  | fail)
local macro_rules | `(tactic| walk_at "chg") => `(tactic| first
  | assumption
  | exact Chg.refl _
  | exact Chg.nw (by assumption) (by walk_at "chg")
  | exact Chg.mkd (by assumption) (by walk_at "chg")
  | exact Chg.tp (by assumption) (by walk_at "chg")
  | exact Chg.gr (by assumption) (by walk_at "chg")
  | exact Chg.wr (by assumption) (by walk_at "chg") (by walk_at "in")
  | exact Chg.ch (by assumption) (by walk_at "chg") (by walk_at "sub")
  | fail)
local macro_rules | `(tactic| walk_at "sq") => `(tactic| first
  | assumption
  | exact SqL.of (by walk_at "lk")
  | exact Chg.seqL (by assumption) (by walk_at "sq") (by walk_at "nin")
  | exact SqL.nw (by assumption) (by walk_at "sq")
  | exact SqL.tp (by assumption) (by walk_at "sq")
  | exact SqL.mkd (by assumption) (by walk_at "sq")
  | exact SqL.wr (by assumption) (by walk_at "sq") (by walk_at "ne")
  | fail)
local macro_rules | `(tactic| walk_at "sqt") => `(tactic| first
  | assumption
  | exact SqT.of (by walk_at "lk")
  | exact Tp.sq (by assumption)
  | exact SqT.nw (by assumption) (by walk_at "sqt")
  | exact SqT.tp (by assumption) (by walk_at "sqt")
  | exact SqT.mkd (by assumption) (by walk_at "sqt")
  | exact SqT.chg (by assumption) (by walk_at "sqt") (by walk_at "nin")
  | fail)
local macro_rules | `(tactic| walk_at "seq") => `(tactic| first
  | assumption
  | exact .inl (by walk_at "sq")
  | exact .inr (by walk_at "sqt")
  | exact SqA.keepN (T := Env.tabs (by assumption)) (by assumption) (by walk_at "chg")
  | fail)
local macro_rules | `(tactic| walk_at "go") => `(tactic| repeat first
  | refine ⟨_, rfl, ?_⟩
  | refine ⟨_, _, _, _, rfl, And.intro (by walk_at "lk") (And.intro rfl ?_)⟩
  | refine ⟨_, _, _, rfl, And.intro (by walk_at "lk") (And.intro (by walk_at "side") ?_)⟩
  | refine ⟨_, _, And.intro rfl (And.intro rfl ?_)⟩
  | refine ⟨_, _, And.intro rfl (And.intro (by walk_at "lk") ?_)⟩
  | refine ⟨_, _, _, And.intro rfl (And.intro (by walk_at "lk") ?_)⟩
  | refine ⟨_, And.intro (by walk_at "lk") (And.intro (by walk_at "side") ?_)⟩
  | refine ⟨_, _, And.intro (by walk_at "lk") (And.intro (by walk_at "side") ?_)⟩
  | refine ⟨_, _, And.intro (by walk_at "seq") (And.intro rfl ?_)⟩
  | refine ⟨_, _, And.intro (by walk_at "seq") (And.intro (by assumption) ?_)⟩
  | refine ⟨_, And.intro (by walk_at "seq") ?_⟩
  | refine ⟨_, And.intro (by walk_at "lk") (And.intro (by walk_at "side") (And.intro (by walk_at "side") (And.intro (by walk_at "side") ?_)))⟩
  | refine .inl ⟨_, _, And.intro (by walk_at "lk") (And.intro (by walk_at "lk") (And.intro (by walk_at "side") ?_))⟩
  | refine .inr ⟨_, _, And.intro (by walk_at "sqt") (And.intro (by walk_at "sqt") (And.intro (by walk_at "side") ?_))⟩
  | refine .inl ⟨_, And.intro (by walk_at "sq") ?_⟩
  | refine .inr ⟨_, And.intro (by walk_at "sqt") ?_⟩
  | refine ⟨_, _, _, _, rfl, rfl, And.intro (by walk_at "lk") (And.intro rfl ?_)⟩
  | refine ⟨_, _, _, _, rfl, rfl, And.intro (by walk_at "lk") (And.intro (by walk_at "key") ?_)⟩
  | refine ⟨_, _, _, rfl, rfl, And.intro (by walk_at "lk") (And.intro (by walk_at "side") ?_)⟩
  | refine fun H' (n : Wr _ _ _ H') => ?_
  | refine fun p H' (n : Nw _ p _ H') => ?_
  | refine fun r H' (n : Tp _ _ r _ H') => ?_
  | refine fun x dx H' (n : Mkd _ _ x dx H') => ?_
  | refine .inl ⟨_, _, rfl, And.intro (by walk_at "sq") (fun p H' (n : Nw _ p _ H') => ?_)⟩
  | refine .inr ⟨_, _, rfl, And.intro (by walk_at "sqt") (fun r H' (n : Tp _ _ r _ H') => ?_)⟩
  | refine ⟨_, _, rfl, And.intro (by walk_at "sq") (fun p H' (n : Nw _ p _ H') => ?_)⟩
  | refine .inl (And.intro ⟨_, by walk_at "sq"⟩ ?_)
  | refine .inr (And.intro ⟨_, by walk_at "sqt"⟩ ?_)
  | refine ⟨_, _, rfl, And.intro (by walk_at "sqt") (And.intro rfl ?_)⟩
  | refine ⟨_, _, And.intro rfl ?_⟩
  | refine ⟨_, _, _, And.intro rfl ?_⟩
  | refine And.intro rfl ?_
  | (refine ite_t ?_ ?_; exact rfl)
  | (refine ite_f ?_ ?_; exact rfl)
  | refine And.intro (by walk_at "side") ?_)
local macro_rules | `(tactic| walk_at "side") => `(tactic| first
  | exact (rfl : _ = _)
  | decide
  | exact lt1000 rfl
  | with_reducible assumption
  | exact ⟨by omega, by omega⟩
  | exact .inl ⟨by omega, by omega⟩
  | exact .inr ⟨by omega, by omega⟩
  | omega
  | (apply le_line; omega)
  | (apply lt_line; omega)
  | (apply le_line; simp <;> omega)
  | (apply lt_line; simp <;> omega)
  | fail)
local macro_rules | `(tactic| walk_at "if") => `(tactic| first
  | refine ite_nd ?_ ?_
  | refine ite_d ?_ ?_
  | refine ite_eqt ?_ ?_
  | fail)
local macro_rules | `(tactic| walk_at "roll") => `(tactic| first
  | (refine And.intro (show Dice _ _ from ⟨_, _, _, by walk_at "lk"⟩) (And.intro (by walk_at "side") (And.intro (by walk_at "side") (fun r H' r0 r1 ro => ?_))); obtain ⟨a', b', c', w⟩ := ro)
  | fail)
local macro_rules | `(tactic| walk_at "run") => `(tactic| (walk_at "go"; repeat (walk_at "roll"; walk_at "go")))
local macro_rules | `(tactic| walk_at "dp") => `(tactic| first
  | exact Dp.non
  | exact Dp.int _
  | exact Dp.str _
  | exact Dp.bl _
  | exact DpAll.nil
  | exact DpAll.cons (by walk_at "dp") (by walk_at "dp")
  | exact Dp.tup (by walk_at "sqt") (by walk_at "dp")
  | exact Dp.lst (by walk_at "sq") (by walk_at "dp")
  | fail)
local macro_rules | `(tactic| walk_at "key") => `(tactic| first
  | assumption
  | fail)

section
variable {w : World} {K : PySem.W.Frag} {mg : Str → Option Value} {base : Heap}
def sp__law_plain (T : Env w K mg base) : Sp := fun vs H Q _ => match vs with
  | [] => Tabs T.tabs H ∧ ∀ H', Chg T.tabs nil H H' → Q (.bl true) H'
  | _ => False
theorem ok__law_plain (T : Env w K mg base) : FnOk prg w K mg base (L2.CX prg w) 96 T.f__law_plain T.fd__law_plain [] (sp__law_plain T) := by
  refine T.F__law_plain.ok sc__law_plain (fun vs H Q E h => by unfold sp__law_plain at h; split at h <;> first | rfl | exact h.elim) fun A outer s H vs Q E hr h => ?_
  obtain ⟨t9, P9, R9⟩ := tl__law_plain_1 T (outer := outer) (s := s) (H := H) (E := E) hr
  refine ⟨_, (pss_cons (ps_asg (Y.pe_tu (pa_cons (Y.pe_mk T.mk_Segments (ok_Segments___init__ T) (hr.mono (by decide)) rfl T.mg_Segments T.b_Segments___init__ .nil (Y.passD rfl rfl rfl rfl) (pa_cons (Y.pe_tu (pa_cons pe_int (pa_cons pe_int (pa_cons pe_int (pa_cons pe_int (pa_cons pe_int pa_nil)))))) pa_nil)) (pa_cons (Y.pe_mk T.mk_Segments (ok_Segments___init__ T) (hr.mono (by decide)) rfl T.mg_Segments T.b_Segments___init__ .nil (Y.passD rfl rfl rfl rfl) (pa_cons (Y.pe_tu (pa_cons pe_int (pa_cons (pe_un un_neg pe_int) pa_nil))) pa_nil)) pa_nil))) (Y.pg_tupK (K := K) (n := 2) rfl rfl (pgs_cons (pg_name (i := 0) sc__law_plain.nd rfl (Or.inr rfl)) (pgs_cons (pg_name (i := 1) sc__law_plain.nd rfl (Or.inr rfl)) pgs_nil))))
  P9), ?_⟩
  unfold sp__law_plain at h
  split at h
  next =>
    obtain ⟨ht, hQ⟩ := h
    walk_at "go"
    rename_i v1 G1 n1 p1 dx1 G2 n2
    refine ⟨⟨dx1, n2.at⟩, [3, 1, 4, 1, 5], .inr (.of (by walk_at "lk")), by decide, fun z => absurd ⟨by decide, by decide⟩ z, fun _ _ => ⟨by decide, fun d1 G3 c3 fd1 sa => ?_⟩⟩
    refine ⟨rfl, ?_⟩
    have f1 : H p1 = none := by walk_at "fr"
    have g1 : H d1 = none := by walk_at "fr"
    have cA : Chg T.tabs nil H G3 := by walk_at "chg"
    walk_at "go"
    rename_i v4 G4 n4 p2 dx2 G5 n5
    refine ⟨⟨dx2, n5.at⟩, [1, -1], .inr (.of (by walk_at "lk")), by decide, fun z => absurd ⟨by decide, by decide⟩ z, fun _ _ => ⟨by decide, fun d2 G6 c6 fd2 sb => ?_⟩⟩
    refine ⟨rfl, ?_⟩
    have f2 : G3 p2 = none := by walk_at "fr"
    have g2 : G3 d2 = none := by walk_at "fr"
    have cB : Chg T.tabs nil G3 G6 := by walk_at "chg"
    have sa6 := sa.keep cB id id fun _ _ _ z => z
    have ne : d1 ≠ d2 := fun z => by
      obtain ⟨kv, e⟩ := sa.dk
      rw [z, g2] at e; cases e
    have cH : Chg T.tabs nil H G6 := by walk_at "chg"
    have wp : Wp T H G6 p1 d1 [3, 1, 4, 1, 5] p2 d2 [1, -1] [] := ⟨sa6, sb, ne, g1, by walk_at "fr", cH, cH.tabs ht, fun q hq => nomatch hq⟩
    walk_at "go"
    rename_i p9 G7 n7
    exact R9 _ _ _ ⟨⟨ht, hQ⟩, p1, d1, p2, d2, rfl, wp.idle n7.chg⟩
  next => exact h.elim
end
end Z


set_option Elab.async false
set_option linter.all false
set_option maxRecDepth 100000
set_option maxHeartbeats 4000000
set_option pp.maxSteps 1500
namespace Z
open PySem PySem.Spec L2 LamX Y
local macro_rules | `(tactic| walk_at "lk") => `(tactic| first
  | assumption
  | exact Nw.at (by assumption)
  | exact Wr.at (by assumption)
  | exact Mkd.at (by assumption)
  | exact Nw.look (by assumption) (by walk_at "lk")
  | exact Mkd.look (by assumption) (by walk_at "lk")
  | exact Wr.look (by assumption) (by walk_at "lk") (by walk_at "ne")
  | exact Chg.look (by assumption) (by walk_at "lk") (by walk_at "nin") rfl
  | exact Tp.same (by assumption) _ _ (by walk_at "lk")
  | exact Grows.look (by assumption) (by walk_at "lk") rfl
  | fail)
local macro_rules | `(tactic| walk_at "ne") => `(tactic| first
  | assumption
  | exact Ne.symm (by assumption)
  | exact Nw.ne (by assumption) (by walk_at "lk")
  | exact Ne.symm (Nw.ne (by assumption) (by walk_at "lk"))
  | exact ne_fr (by assumption) (by walk_at "lk")
  | exact Ne.symm (ne_fr (by assumption) (by walk_at "lk"))
  | exact ne_fr (Mkd.nx (by assumption)) (by walk_at "lk")
  | exact Ne.symm (ne_fr (Mkd.nx (by assumption)) (by walk_at "lk"))
  | exact ne_kdn (by assumption) (by walk_at "lk") rfl
  | exact Ne.symm (ne_kdn (by assumption) (by walk_at "lk") rfl)
  | fail)
local macro_rules | `(tactic| walk_at "nin") => `(tactic| first
  | exact nin_nil
  | exact id
  | exact nin_cons (by walk_at "ne") (by walk_at "nin")
  | fail)
local macro_rules | `(tactic| walk_at "fr") => `(tactic| first
  | assumption
  | exact Nw.new (by assumption)
  | exact Mkd.nx (by assumption)
  | exact Nw.dom (by assumption) (by walk_at "fr")
  | exact Wr.dom (by assumption) (by walk_at "fr")
  | exact Mkd.dom (by assumption) (by walk_at "fr")
  | exact Chg.dom (by assumption) _ (by walk_at "fr")
  | exact Tp.dom (by assumption) _ (by walk_at "fr")
  | exact Grows.dom (by assumption) _ (by walk_at "fr")
  | fail)
local macro_rules | `(tactic| walk_at "mem") => `(tactic| first
  | assumption
  | exact List.mem_cons_self
  | (apply List.mem_cons_of_mem; walk_at "mem")
  | fail)
local macro_rules | `(tactic| walk_at "in") => `(tactic| first
  | assumption
  | (apply Or.inl; walk_at "mem")
  | (apply Or.inr; walk_at "fr")
  | fail)
local macro_rules | `(tactic| walk_at "sub") => `(tactic| first
  | exact sub_nil0
  | exact sub_nil
  | exact sub_cons (by walk_at "in") (by walk_at "sub")
  | fail)
local macro_rules | `(tactic| walk_at "chg") => `(tactic| first
  | assumption
  | exact Chg.refl _
  | exact Chg.nw (by assumption) (by walk_at "chg")
  | exact Chg.mkd (by assumption) (by walk_at "chg")
  | exact Chg.tp (by assumption) (by walk_at "chg")
  | exact Chg.gr (by assumption) (by walk_at "chg")
  | exact Chg.wr (by assumption) (by walk_at "chg") (by walk_at "in")
  | exact Chg.ch (by assumption) (by walk_at "chg") (by walk_at "sub")
  | fail)
local macro_rules | `(tactic| walk_at "sq") => `(tactic| first
  | assumption
  | exact SqL.of (by walk_at "lk")
  | exact Chg.seqL (by assumption) (by walk_at "sq") (by walk_at "nin")
  | exact SqL.nw (by assumption) (by walk_at "sq")
  | exact SqL.tp (by assumption) (by walk_at "sq")
  | exact SqL.mkd (by assumption) (by walk_at "sq")
  | exact SqL.wr (by assumption) (by walk_at "sq") (by walk_at "ne")
  | fail)
local macro_rules | `(tactic| walk_at "sqt") => `(tactic| first
  | assumption
  | exact SqT.of (by walk_at "lk")
  | exact Tp.sq (by assumption)
  | exact SqT.nw (by assumption) (by walk_at "sqt")
  | exact SqT.tp (by assumption) (by walk_at "sqt")
  | exact SqT.mkd (by assumption) (by walk_at "sqt")
  | exact SqT.chg (by assumption) (by walk_at "sqt") (by walk_at "nin")
  | fail)
local macro_rules | `(tactic| walk_at "seq") => `(tactic| first
  | assumption
  | exact .inl (by walk_at "sq")
  | exact .inr (by walk_at "sqt")
  | exact SqA.keepN (T := Env.tabs (by assumption)) (by assumption) (by walk_at "chg")
  | fail)
local macro_rules | `(tactic| walk_at "go") => `(tactic| repeat first
  | refine ⟨_, rfl, ?_⟩
  | refine ⟨_, _, _, _, rfl, And.intro (by walk_at "lk") (And.intro rfl ?_)⟩
  | refine ⟨_, _, _, rfl, And.intro (by walk_at "lk") (And.intro (by walk_at "side") ?_)⟩
  | refine ⟨_, _, And.intro rfl (And.intro rfl ?_)⟩
  | refine ⟨_, _, And.intro rfl (And.intro (by walk_at "lk") ?_)⟩
  | refine ⟨_, _, _, And.intro rfl (And.intro (by walk_at "lk") ?_)⟩
  | refine ⟨_, And.intro (by walk_at "lk") (And.intro (by walk_at "side") ?_)⟩
  | refine ⟨_, _, And.intro (by walk_at "lk") (And.intro (by walk_at "side") ?_)⟩
  | refine ⟨_, _, And.intro (by walk_at "seq") (And.intro rfl ?_)⟩
  | refine ⟨_, _, And.intro (by walk_at "seq") (And.intro (by assumption) ?_)⟩
  | refine ⟨_, And.intro (by walk_at "seq") ?_⟩
  | refine ⟨_, And.intro (by walk_at "lk") (And.intro (by walk_at "side") (And.intro (by walk_at "side") (And.intro (by walk_at "side") ?_)))⟩
  | refine .inl ⟨_, _, And.intro (by walk_at "lk") (And.intro (by walk_at "lk") (And.intro (by walk_at "side") ?_))⟩
  | refine .inr ⟨_, _, And.intro (by walk_at "sqt") (And.intro (by walk_at "sqt") (And.intro (by walk_at "side") ?_))⟩
  | refine .inl ⟨_, And.intro (by walk_at "sq") ?_⟩
  | refine .inr ⟨_, And.intro (by walk_at "sqt") ?_⟩
  | refine ⟨_, _, _, _, rfl, rfl, And.intro (by walk_at "lk") (And.intro rfl ?_)⟩
  | refine ⟨_, _, _, _, rfl, rfl, And.intro (by walk_at "lk") (And.intro (by walk_at "key") ?_)⟩
  | refine ⟨_, _, _, rfl, rfl, And.intro (by walk_at "lk") (And.intro (by walk_at "side") ?_)⟩
  | refine fun H' (n : Wr _ _ _ H') => ?_
  | refine fun p H' (n : Nw _ p _ H') => ?_
  | refine fun r H' (n : Tp _ _ r _ H') => ?_
  | refine fun x dx H' (n : Mkd _ _ x dx H') => ?_
  | refine .inl ⟨_, _, rfl, And.intro (by walk_at "sq") (fun p H' (n : Nw _ p _ H') => ?_)⟩
  | refine .inr ⟨_, _, rfl, And.intro (by walk_at "sqt") (fun r H' (n : Tp _ _ r _ H') => ?_)⟩
  | refine ⟨_, _, rfl, And.intro (by walk_at "sq") (fun p H' (n : Nw _ p _ H') => ?_)⟩
  | refine .inl (And.intro ⟨_, by walk_at "sq"⟩ ?_)
  | refine .inr (And.intro ⟨_, by walk_at "sqt"⟩ ?_)
  | refine ⟨_, _, rfl, And.intro (by walk_at "sqt") (And.intro rfl ?_)⟩
  | refine ⟨_, _, And.intro rfl ?_⟩
  | refine ⟨_, _, _, And.intro rfl ?_⟩
  | refine And.intro rfl ?_
  | (refine ite_t ?_ ?_; exact rfl)
  | (refine ite_f ?_ ?_; exact rfl)
  | refine And.intro (by walk_at "side") ?_)
local macro_rules | `(tactic| walk_at "side") => `(tactic| first
  | exact (rfl : _ = _)
  | decide
  | exact lt1000 rfl
  | with_reducible assumption
  | exact ⟨by omega, by omega⟩
  | exact .inl ⟨by omega, by omega⟩
  | exact .inr ⟨by omega, by omega⟩
  | omega
  | (apply le_line; omega)
  | (apply lt_line; omega)
  | (apply le_line; simp <;> omega)
  | (apply lt_line; simp <;> omega)
  | fail)
local macro_rules | `(tactic| walk_at "if") => `(tactic| first
  | refine ite_nd ?_ ?_
  | refine ite_d ?_ ?_
  | refine ite_eqt ?_ ?_
  | fail)
local macro_rules | `(tactic| walk_at "roll") => `(tactic| first
  | (refine And.intro (show Dice _ _ from ⟨_, _, _, by walk_at "lk"⟩) (And.intro (by walk_at "side") (And.intro (by walk_at "side") (fun r H' r0 r1 ro => ?_))); obtain ⟨a', b', c', w⟩ := ro)
  | fail)
local macro_rules | `(tactic| walk_at "run") => `(tactic| (walk_at "go"; repeat (walk_at "roll"; walk_at "go")))
local macro_rules | `(tactic| walk_at "dp") => `(tactic| first
  | exact Dp.non
  | exact Dp.int _
  | exact Dp.str _
  | exact Dp.bl _
  | exact DpAll.nil
  | exact DpAll.cons (by walk_at "dp") (by walk_at "dp")
  | exact Dp.tup (by walk_at "sqt") (by walk_at "dp")
  | exact Dp.lst (by walk_at "sq") (by walk_at "dp")
  | fail)
local macro_rules | `(tactic| walk_at "key") => `(tactic| first
  | assumption
  | fail)

section
variable {w : World} {K : PySem.W.Frag} {mg : Str → Option Value} {base : Heap}
/-- the dice at d, the tree at t over xs, the list own at ol; B the heap they are new in -/
structure SL (T : Env w K mg base) (B G : Hp) (d t dn ol : Addr) (own xs : List Int) : Prop where
  dice : Dice G d
  bd : B d = none
  c : Chg T.tabs nil B G
  tb : Tabs T.tabs B
  ow : G ol = some (.lst (own.map V.int))
  bo : B ol = none
  sa : SegAt T G t dn xs
  bn : B dn = none
  nd : ol ≠ d
  l1 : 1 ≤ xs.length
  l2 : xs.length ≤ 20
section
variable {T : Env w K mg base} {B G G' : Hp} {d t dn ol ol' : Addr} {own own' xs xs' : List Int} {a b c : Int}
theorem SL.idle (h : SL T B G d t dn ol own xs) (c : Chg T.tabs nil G G') : SL T B G' d t dn ol own xs :=
  ⟨let ⟨a, b, e, z⟩ := h.dice; ⟨a, b, e, c.look z id rfl⟩, h.bd, h.c.trans c fun _ z => z.elim, h.tb, c.look h.ow id rfl, h.bo, h.sa.keep c id id fun _ _ _ z => z, h.bn, h.nd, h.l1, h.l2⟩
theorem SL.roll (h : SL T B G d t dn ol own xs) (w : Wr G d (.lst [.int a, .int b, .int c]) G') : SL T B G' d t dn ol own xs := by
  have cc : Chg T.tabs (Y.In [d]) G G' := w.chg (by simp)
  obtain ⟨a', b', c', hd⟩ := h.dice
  refine ⟨⟨a, b, c, w.at⟩, h.bd, h.c.trans cc fun x z => ?_, h.tb, w.look h.ow h.nd, h.bo, h.sa.keep cc (fun z => ?_) (fun z => ?_) fun x r e z => ?_, h.bn, h.nd, h.l1, h.l2⟩
  · obtain rfl : x = d := by simpa [Y.In] using z
    exact .inr h.bd
  · obtain rfl : t = d := by simpa [Y.In] using z
    obtain ⟨dx, e⟩ := h.sa.ob
    rw [hd] at e; cases e
  · obtain rfl : dn = d := by simpa [Y.In] using z
    obtain ⟨dx, e⟩ := h.sa.dk
    rw [hd] at e; cases e
  · obtain rfl : x = d := by simpa [Y.In] using z
    rw [hd] at e; simp at e
theorem SL.seg (h : SL T B G d t dn ol own xs) (c : Chg T.tabs (Y.In [dn]) G G') (s : SegAt T G' t dn xs') (l : xs'.length = xs.length) : SL T B G' d t dn ol own xs' := by
  have k : ∀ x o, G x = some o → plainHO o = true → G' x = some o := fun x o e p => Wp.keepO h.sa c e p
  obtain ⟨a', b', c', hd⟩ := h.dice
  refine ⟨⟨a', b', c', k _ _ hd rfl⟩, h.bd, h.c.trans c fun x z => ?_, h.tb, k _ _ h.ow rfl, h.bo, s, h.bn, h.nd, by rw [l]; exact h.l1, by rw [l]; exact h.l2⟩
  obtain rfl : x = dn := by simpa [Y.In] using z
  exact .inr h.bn
theorem SL.set (h : SL T B G d t dn ol own xs) (e : G ol' = some (.lst (own'.map V.int))) (b : B ol' = none) (n : ol' ≠ d) : SL T B G d t dn ol' own' xs :=
  ⟨h.dice, h.bd, h.c, h.tb, e, b, h.sa, h.bn, n, h.l1, h.l2⟩
theorem SL.fr (h : SL T B G d t dn ol own xs) {x : Addr} (e : G x = none) : B x = none := h.c.dom _ e
theorem SL.tabs (h : SL T B G d t dn ol own xs) : Tabs T.tabs G := h.c.tabs h.tb
end
def Shp (d : Addr) (σ : L2.St) : Prop := ∃ x0 x2 x4 x5 x6 x7 x8 x9 x10 x11 x13 x14 x15 x16 x17 x18 x19 x20 x22 x23, σ = [x0, some (.ref d), x2, none, x4, x5, x6, x7, x8, x9, x10, x11, none, x13, x14, x15, x16, x17, x18, x19, x20, none, x22, x23]
def Sh2 (d ol t : Addr) (n : Nat) (σ : L2.St) : Prop := ∃ x0 x6 x7 x8 x9 x10 x11 x13 x14 x15 x16 x17 x18 x19 x20 x22 x23, σ = [x0, some (.ref d), some (.ref ol), none, some (.ref t), some (.int n), x6, x7, x8, x9, x10, x11, none, x13, x14, x15, x16, x17, x18, x19, x20, none, x22, x23]
def PreS (T : Env w K mg base) (H : Hp) (D : Ends) (σ : L2.St) (G : Hp) : Prop := ∃ B d t dn ol own, Sh2 d ol t own.length σ ∧ SL T B G d t dn ol own own ∧ ∀ σ' G', Shp d σ' → Dice G' d → Chg T.tabs nil B G' → D.nx σ' G'
def pre_law_0_2 (T : Env w K mg base) := PreS T
def pre_law_0_3 (T : Env w K mg base) := PreS T
theorem chgL_get {f b : Int} {g : Int → Int} : ∀ (xs : List Int) (k : Int) (i : Nat), (chgL f b g k xs)[i]? = xs[i]?.map fun x => if f ≤ k + i ∧ k + i < b then g x else x
  | [], k, i => by simp [chgL]
  | x :: r, k, 0 => by simp [chgL]
  | x :: r, k, i + 1 => by
    have e : k + 1 + (i : Int) = k + ((i + 1 : Nat) : Int) := by omega
    simp only [chgL, List.getElem?_cons_succ, chgL_get r, e]
/-- what own becomes -/
def nwl (good : Bool) (f b : Int) (g : Int → Int) (own : List Int) : List Int := if good = true then chgL f b g 0 own else own
theorem nwl_len {good : Bool} {f b : Int} {g : Int → Int} {own : List Int} : (nwl good f b g own).length = own.length := by unfold nwl; split <;> simp [chgL_len]
theorem nwl_get {good : Bool} {f b : Int} {g : Int → Int} {own : List Int} {i : Nat} {x : Int} (h : own[i]? = some x) : (nwl good f b g own)[i]? = some (if good = true ∧ f ≤ i ∧ (i : Int) < b then g x else x) := by
  unfold nwl
  cases good with
  | false => simp [h]
  | true => simp [chgL_get, h]
theorem take_next {xs : List Int} {i : Nat} {x : Int} (h : xs[i]? = some x) : (xs.take (i + 1)).map V.int = (xs.take i).map V.int ++ [V.int x] := by
  rw [List.take_add_one, h, List.map_append]; rfl
theorem cut_sub {own : List Int} {f b : Int} (h : 0 ≤ f) (h2 : 0 ≤ b) : cutV (own.map V.int) (some f) (some b) = (sub own f b).map V.int := by
  rw [cut_both h h2, ← List.map_take, ← List.map_drop, List.drop_take]
  unfold sub
  congr 3
  omega
/-- the places, counted from k, at which p holds -/
def hitL (p : Int → Bool) : Int → List Int → List Int
  | _, [] => []
  | k, y :: r => if p y = true then k :: hitL p (k + 1) r else hitL p (k + 1) r
theorem hitL_app {p : Int → Bool} {ys : List Int} : ∀ (xs : List Int) (k : Int), hitL p k (xs ++ ys) = hitL p k xs ++ hitL p (k + xs.length) ys
  | [], k => by simp [hitL]
  | x :: r, k => by
    have e : k + 1 + (r.length : Int) = k + ((x :: r).length : Int) := by simp; omega
    simp only [List.cons_append, hitL, hitL_app r, e]
    split <;> simp
theorem hitL_len {p : Int → Bool} : ∀ (xs : List Int) (k : Int), (hitL p k xs).length ≤ xs.length
  | [], k => by simp [hitL]
  | x :: r, k => by
    have := hitL_len (p := p) r (k + 1)
    simp only [hitL]
    split <;> simp <;> omega
theorem hitL_nil {p : Int → Bool} : ∀ (xs : List Int) (k : Int), (∀ y ∈ xs, p y = false) → hitL p k xs = []
  | [], _, _ => rfl
  | x :: r, k, h => by
    simp only [hitL, h x List.mem_cons_self, Bool.false_eq_true, if_false]
    exact hitL_nil r (k + 1) fun y hy => h y (List.mem_cons_of_mem _ hy)
theorem plc_hit {m : Int} : ∀ (xs : List Int) (k : Int), plc m k xs = hitL (fun y => decide (y = m)) k xs
  | [], _ => rfl
  | x :: r, k => by simp only [plc, hitL, plc_hit r, decide_eq_true_eq]
theorem hitL_first {p : Int → Bool} {own : List Int} {s k : Int} (h0 : 0 ≤ s) (h1 : s ≤ k) (h2 : k < own.length) (a : ∀ y ∈ sub own s k, p y = false) (b : ∃ y ∈ sub own s (k + 1), p y = true) : ∃ r, hitL p s (sub own s own.length) = k :: r := by
  have hk : k.toNat < own.length := by omega
  have e1 : sub own s (k + 1) = sub own s k ++ [own[k.toNat]] := by rw [sub_app (m := k) h0 h1 (by omega), sub_one (x := own[k.toNat]) (by omega) (List.getElem?_eq_getElem hk)]
  have hp : p own[k.toNat] = true := by
    obtain ⟨y, hy, py⟩ := b
    rw [e1] at hy
    rcases List.mem_append.mp hy with z | z
    · rw [a y z] at py; cases py
    · rwa [List.mem_singleton.mp z] at py
  rw [sub_app (m := k + 1) h0 (by omega) (by omega), e1, List.append_assoc, hitL_app, hitL_nil _ _ a, sub_len h0 h1 (by omega)]
  have e2 : s + (((k - s).toNat : Nat) : Int) = k := by omega
  rw [e2]
  exact ⟨_, by simp only [List.nil_append, List.cons_append, hitL, hp, if_true]; rfl⟩
def ShT (d ol t : Addr) (n : Nat) (s f b v g : Int) (x14 x17 x18 x19 : Option V) (σ : L2.St) : Prop := ∃ x0 x6 x10 x11 x13 x20 x22 x23, σ = [x0, some (.ref d), some (.ref ol), none, some (.ref t), some (.int n), x6, some (.int f), some (.int b), some (.int v), x10, x11, none, x13, x14, some (.int s), some (.int g), x17, x18, x19, x20, none, x22, x23]
def PreU (T : Env w K mg base) (H : Hp) (D : Ends) (σ : L2.St) (G : Hp) (B : Hp) (d t dn ol : Addr) (own : List Int) (s f b v g : Int) (x14 x17 x18 x19 : Option V) : Prop := ShT d ol t own.length s f b v g x14 x17 x18 x19 σ ∧ SL T B G d t dn ol own own ∧ 0 ≤ s ∧ s < own.length ∧ 0 ≤ f ∧ f < b ∧ b ≤ (own.length : Int) ∧ 1 ≤ g ∧
  ∀ σ' G', Shp d σ' → Dice G' d → Chg T.tabs nil B G' → D.nx σ' G'
def aboveL (own : List Int) (s v : Int) : List Int := hitL (fun y => decide (v < y)) s (sub own s own.length)
def pre_law_0_7 (T : Env w K mg base) (H : Hp) (D : Ends) (σ : L2.St) (G : Hp) : Prop := ∃ B d t dn ol own s f b v g pl al x18 x19, PreU T H D σ G B d t dn ol own s f b v g (some (.ref pl)) (some (.ref al)) x18 x19 ∧ G pl = some (.lst ((sub own f b).map V.int)) ∧ G al = some (.lst ((aboveL own s v).map V.int))
def pre_law_0_8 (T : Env w K mg base) (H : Hp) (D : Ends) (σ : L2.St) (G : Hp) : Prop := ∃ B d t dn ol own s f b v g x14 x17 x18 x19, PreU T H D σ G B d t dn ol own s f b v g x14 x17 x18 x19
theorem tIf_restH {c : TT} {t u : TS} {D : Ends} {σ : L2.St} {H : Hp} (P : Hp → Prop) (hu : ∀ H', P H' → u D σ H') (hw : ∀ N : Bool → Hp → Prop, (∀ H', P H' → N false H') → c σ H N) : tIfS c t u D σ H := hw _ fun H' p => by
  show if false = true then _ else _
  rw [if_neg (by decide)]; exact hu H' p
theorem tOr_f {t u : TT} {σ : L2.St} {H : Hp} {Q : Bool → Hp → Prop} (P : Hp → Prop) (hu : ∀ H', P H' → u σ H' Q) (ht : ∀ N : Bool → Hp → Prop, (∀ H', P H' → N false H') → t σ H N) : tOr t u σ H Q := ht _ fun H' p => by
  show if false = true then _ else _
  rw [if_neg (by decide)]; exact hu H' p
/-- the places from k on at which the sum from s reaches g -/
def reachL (own : List Int) (s g : Int) (n : Nat) : List Int := ((List.range n).filter fun i => decide (g ≤ (sub own s (s + (i : Nat) + 1)).sum)).map fun i => s + (i : Nat)
theorem reachL_snoc {own : List Int} {s g : Int} {n : Nat} : reachL own s g (n + 1) = reachL own s g n ++ if g ≤ (sub own s (s + (n : Int) + 1)).sum then [s + (n : Int)] else [] := by
  unfold reachL
  rw [List.range_succ, List.filter_append, List.map_append]
  by_cases h : g ≤ (sub own s (s + (n : Int) + 1)).sum
  · rw [if_pos h]; simp [List.filter, h]
  · rw [if_neg h]; simp [List.filter, h]
theorem reachL_len {own : List Int} {s g : Int} {n : Nat} : (reachL own s g n).length ≤ n := by
  unfold reachL
  rw [List.length_map]
  exact Nat.le_trans (List.length_filter_le _ _) (by simp)
theorem sum_nonneg : ∀ {xs : List Int}, (∀ y ∈ xs, 0 ≤ y) → 0 ≤ xs.sum
  | [], _ => by simp
  | x :: r, h => by
    have := sum_nonneg (xs := r) fun y hy => h y (List.mem_cons_of_mem _ hy)
    have := h x List.mem_cons_self
    rw [List.sum_cons]; omega
theorem sum_mono {own : List Int} {s a b : Int} (h0 : 0 ≤ s) (h1 : s ≤ a) (h2 : a ≤ b) (hb : b ≤ own.length) (pos : ∀ y ∈ sub own s own.length, 0 ≤ y) : (sub own s a).sum ≤ (sub own s b).sum := by
  rw [sub_app (m := a) h0 h1 h2, List.sum_append]
  have : 0 ≤ (sub own a b).sum := sum_nonneg fun y hy => pos y (by
    rw [sub_app (m := a) h0 h1 (by omega), sub_app (m := b) (by omega) h2 hb]
    exact List.mem_append_right _ (List.mem_append_left _ hy))
  omega
theorem reach_nil {own : List Int} {s g : Int} (h0 : 0 ≤ s) (h1 : s ≤ own.length) (pos : ∀ y ∈ sub own s own.length, 0 ≤ y) (h : (sub own s own.length).sum < g) : reachL own s g (own.length - s).toNat = [] := by
  unfold reachL
  rw [List.map_eq_nil_iff, List.filter_eq_nil_iff]
  intro i hi
  have hi := List.mem_range.mp hi
  have := sum_mono (own := own) (a := s + (i : Int) + 1) (b := own.length) h0 (by omega) (by omega) (Int.le_refl _) pos
  simp only [decide_eq_true_eq]
  omega
theorem reach_first {own : List Int} {s g k : Int} (h0 : 0 ≤ s) (h1 : s ≤ k) (h2 : k < own.length) (pos : ∀ y ∈ sub own s own.length, 0 ≤ y) (a : (sub own s k).sum < g) (b : g ≤ (sub own s (k + 1)).sum) : ∃ r, reachL own s g (own.length - s).toNat = k :: r := by
  obtain ⟨j, rfl⟩ : ∃ j : Nat, k = s + j := ⟨(k - s).toNat, by omega⟩
  have low : ∀ m : Nat, m ≤ j → reachL own s g m = [] := by
    intro m hm
    unfold reachL
    rw [List.map_eq_nil_iff, List.filter_eq_nil_iff]
    intro i hi
    have hi := List.mem_range.mp hi
    have := sum_mono (own := own) (a := s + (i : Int) + 1) (b := s + (j : Int)) h0 (by omega) (by omega) (by omega) pos
    simp only [decide_eq_true_eq]
    omega
  have up : ∀ m : Nat, ∃ r, reachL own s g (j + 1 + m) = (s + (j : Int)) :: r := by
    intro m
    induction m with
    | zero => exact ⟨[], by rw [Nat.add_zero, reachL_snoc, low j (Nat.le_refl _), if_pos b]; rfl⟩
    | succ m ih =>
      obtain ⟨r, e⟩ := ih
      exact ⟨_, by rw [show j + 1 + (m + 1) = (j + 1 + m) + 1 by omega, reachL_snoc, e, List.cons_append]⟩
  obtain ⟨r, e⟩ := up ((own.length - s).toNat - (j + 1))
  exact ⟨r, by rw [← e]; congr 1; omega⟩
def pre_law_0_10 (T : Env w K mg base) (H : Hp) (D : Ends) (σ : L2.St) (G : Hp) : Prop := ∃ B d t dn ol own s f b v g x14 x17 x18 x19, PreU T H D σ G B d t dn ol own s f b v g x14 x17 x18 x19
theorem cut_sub2 {own : List Int} {s : Int} (h : 0 ≤ s) : cutV (own.map V.int) (some s) none = (sub own s own.length).map V.int := by
  rw [cut_from h, ← List.map_drop]
  unfold sub
  rw [List.take_of_length_le (by rw [List.length_drop]; omega)]
def trow (own : List Int) (a b : Int) : List Int := [-(sub own a b).sum, a, b]
def rowL (own : List Int) (a : Int) (m : Nat) : List (List Int) := (List.range m).map fun j => trow own a (a + 1 + (j : Nat))
theorem rowL_snoc {own : List Int} {a : Int} {m : Nat} : rowL own a (m + 1) = rowL own a m ++ [trow own a (a + 1 + (m : Int))] := by
  unfold rowL; rw [List.range_succ, List.map_append]; rfl
theorem rowL_len {own : List Int} {a : Int} {m : Nat} : (rowL own a m).length = m := by simp [rowL]
def partsL (own : List Int) : Nat → List (List Int)
  | 0 => []
  | a + 1 => partsL own a ++ rowL own a (own.length - a)
theorem partsL_mem {own : List Int} : ∀ {n : Nat}, n ≤ own.length → ∀ r, r ∈ partsL own n ↔ ∃ a b : Int, 0 ≤ a ∧ a < n ∧ a < b ∧ b ≤ own.length ∧ r = trow own a b
  | 0, _, r => by
    simp only [partsL, List.not_mem_nil, false_iff]
    rintro ⟨a, b, h0, h1, -⟩
    omega
  | n + 1, hn, r => by
    rw [partsL, List.mem_append, partsL_mem (by omega)]
    constructor
    · rintro (⟨a, b, h0, h1, h2, h3, e⟩ | h)
      · exact ⟨a, b, h0, by omega, h2, h3, e⟩
      · unfold rowL at h
        obtain ⟨j, hj, e⟩ := List.mem_map.mp h
        have := List.mem_range.mp hj
        exact ⟨n, (n : Int) + 1 + (j : Nat), by omega, by omega, by omega, by omega, e.symm⟩
    · rintro ⟨a, b, h0, h1, h2, h3, e⟩
      by_cases z : a < n
      · exact .inl ⟨a, b, h0, z, h2, h3, e⟩
      · obtain rfl : a = (n : Int) := by omega
        refine .inr (List.mem_map.mpr ⟨(b - n - 1).toNat, List.mem_range.mpr (by omega), ?_⟩)
        rw [e]
        congr 1
        omega
theorem partsL_len {own : List Int} : ∀ n : Nat, (partsL own n).length ≤ n * own.length
  | 0 => by simp [partsL]
  | n + 1 => by
    have := partsL_len (own := own) n
    rw [partsL, List.length_append, rowL_len, Nat.succ_mul]
    omega
def iV (r : List Int) : List V := r.map V.int
theorem lt3 {a b c x y z : Int} : [a, b, c] < [x, y, z] ↔ L3 a b c x y z := by
  unfold L3
  simp [List.cons_lt_cons_iff]
def pre_law_0_12 (T : Env w K mg base) (H : Hp) (D : Ends) (σ : L2.St) (G : Hp) : Prop := ∃ B d t dn ol own s f b v g x14 x17 x18 pa ts, PreU T H D σ G B d t dn ol own s f b v g x14 x17 x18 (some (.ref pa)) ∧ G pa = some (.lst ts) ∧ RowsV G ts ((partsL own own.length).map iV)
def pre_law_0_14 (T : Env w K mg base) (H : Hp) (D : Ends) (σ : L2.St) (G : Hp) : Prop := ∃ B d t dn ol own lg x0 x6 x7 x8 x9 x10 x11 x13 x14 x15 x16 x17 x18 x19 x20 x22, σ = [x0, some (.ref d), some (.ref ol), none, some (.ref t), some (.int own.length), x6, x7, x8, x9, x10, x11, none, x13, x14, x15, x16, x17, x18, x19, x20, none, x22, some (.int lg)] ∧
  SL T B G d t dn ol own own ∧ 1 ≤ lg ∧ lg ≤ (own.length : Int) ∧ ∀ σ' G', Shp d σ' → Dice G' d → Chg T.tabs nil B G' → D.nx σ' G'
end
end Z


set_option Elab.async false
set_option linter.all false
set_option maxRecDepth 100000
set_option maxHeartbeats 4000000
set_option pp.maxSteps 1500
namespace Z
open PySem PySem.Spec L2 LamX Y
local macro_rules | `(tactic| walk_at "lk") => `(tactic| first
  | assumption
  | exact Nw.at (by assumption)
  | exact Wr.at (by assumption)
  | exact Mkd.at (by assumption)
  | exact Nw.look (by assumption) (by walk_at "lk")
  | exact Mkd.look (by assumption) (by walk_at "lk")
  | exact Wr.look (by assumption) (by walk_at "lk") (by walk_at "ne")
  | exact Chg.look (by assumption) (by walk_at "lk") (by walk_at "nin") rfl
  | exact Tp.same (by assumption) _ _ (by walk_at "lk")
  | exact Grows.look (by assumption) (by walk_at "lk") rfl
  | fail)
local macro_rules | `(tactic| walk_at "ne") => `(tactic| first
  | assumption
  | exact Ne.symm (by assumption)
  | exact Nw.ne (by assumption) (by walk_at "lk")
  | exact Ne.symm (Nw.ne (by assumption) (by walk_at "lk"))
  | exact ne_fr (by assumption) (by walk_at "lk")
  | exact Ne.symm (ne_fr (by assumption) (by walk_at "lk"))
  | exact ne_fr (Mkd.nx (by assumption)) (by walk_at "lk")
  | exact Ne.symm (ne_fr (Mkd.nx (by assumption)) (by walk_at "lk"))
  | exact ne_kdn (by assumption) (by walk_at "lk") rfl
  | exact Ne.symm (ne_kdn (by assumption) (by walk_at "lk") rfl)
  | fail)
local macro_rules | `(tactic| walk_at "nin") => `(tactic| first
  | exact nin_nil
  | exact id
  | exact nin_cons (by walk_at "ne") (by walk_at "nin")
  | fail)
local macro_rules | `(tactic| walk_at "fr") => `(tactic| first
  | assumption
  | exact Nw.new (by assumption)
  | exact Mkd.nx (by assumption)
  | exact Nw.dom (by assumption) (by walk_at "fr")
  | exact Wr.dom (by assumption) (by walk_at "fr")
  | exact Mkd.dom (by assumption) (by walk_at "fr")
  | exact Chg.dom (by assumption) _ (by walk_at "fr")
  | exact Tp.dom (by assumption) _ (by walk_at "fr")
  | exact Grows.dom (by assumption) _ (by walk_at "fr")
  | fail)
local macro_rules | `(tactic| walk_at "mem") => `(tactic| first
  | assumption
  | exact List.mem_cons_self
  | (apply List.mem_cons_of_mem; walk_at "mem")
  | fail)
local macro_rules | `(tactic| walk_at "in") => `(tactic| first
  | assumption
  | (apply Or.inl; walk_at "mem")
  | (apply Or.inr; walk_at "fr")
  | fail)
local macro_rules | `(tactic| walk_at "sub") => `(tactic| first
  | exact sub_nil0
  | exact sub_nil
  | exact sub_cons (by walk_at "in") (by walk_at "sub")
  | fail)
local macro_rules | `(tactic| walk_at "chg") => `(tactic| first
  | assumption
  | exact Chg.refl _
  | exact Chg.nw (by assumption) (by walk_at "chg")
  | exact Chg.mkd (by assumption) (by walk_at "chg")
  | exact Chg.tp (by assumption) (by walk_at "chg")
  | exact Chg.gr (by assumption) (by walk_at "chg")
  | exact Chg.wr (by assumption) (by walk_at "chg") (by walk_at "in")
  | exact Chg.ch (by assumption) (by walk_at "chg") (by walk_at "sub")
  | fail)
local macro_rules | `(tactic| walk_at "sq") => `(tactic| first
  | assumption
  | exact SqL.of (by walk_at "lk")
  | exact Chg.seqL (by assumption) (by walk_at "sq") (by walk_at "nin")
  | exact SqL.nw (by assumption) (by walk_at "sq")
  | exact SqL.tp (by assumption) (by walk_at "sq")
  | exact SqL.mkd (by assumption) (by walk_at "sq")
  | exact SqL.wr (by assumption) (by walk_at "sq") (by walk_at "ne")
  | fail)
local macro_rules | `(tactic| walk_at "sqt") => `(tactic| first
  | assumption
  | exact SqT.of (by walk_at "lk")
  | exact Tp.sq (by assumption)
  | exact SqT.nw (by assumption) (by walk_at "sqt")
  | exact SqT.tp (by assumption) (by walk_at "sqt")
  | exact SqT.mkd (by assumption) (by walk_at "sqt")
  | exact SqT.chg (by assumption) (by walk_at "sqt") (by walk_at "nin")
  | fail)
local macro_rules | `(tactic| walk_at "seq") => `(tactic| first
  | assumption
  | exact .inl (by walk_at "sq")
  | exact .inr (by walk_at "sqt")
  | exact SqA.keepN (T := Env.tabs (by assumption)) (by assumption) (by walk_at "chg")
  | fail)
local macro_rules | `(tactic| walk_at "go") => `(tactic| repeat first
  | refine ⟨_, rfl, ?_⟩
  | refine ⟨_, _, _, _, rfl, And.intro (by walk_at "lk") (And.intro rfl ?_)⟩
  | refine ⟨_, _, _, rfl, And.intro (by walk_at "lk") (And.intro (by walk_at "side") ?_)⟩
  | refine ⟨_, _, And.intro rfl (And.intro rfl ?_)⟩
  | refine ⟨_, _, And.intro rfl (And.intro (by walk_at "lk") ?_)⟩
  | refine ⟨_, _, _, And.intro rfl (And.intro (by walk_at "lk") ?_)⟩
  | refine ⟨_, And.intro (by walk_at "lk") (And.intro (by walk_at "side") ?_)⟩
  | refine ⟨_, _, And.intro (by walk_at "lk") (And.intro (by walk_at "side") ?_)⟩
  | refine ⟨_, _, And.intro (by walk_at "seq") (And.intro rfl ?_)⟩
  | refine ⟨_, _, And.intro (by walk_at "seq") (And.intro (by assumption) ?_)⟩
  | refine ⟨_, And.intro (by walk_at "seq") ?_⟩
  | refine ⟨_, And.intro (by walk_at "lk") (And.intro (by walk_at "side") (And.intro (by walk_at "side") (And.intro (by walk_at "side") ?_)))⟩
  | refine .inl ⟨_, _, And.intro (by walk_at "lk") (And.intro (by walk_at "lk") (And.intro (by walk_at "side") ?_))⟩
  | refine .inr ⟨_, _, And.intro (by walk_at "sqt") (And.intro (by walk_at "sqt") (And.intro (by walk_at "side") ?_))⟩
  | refine .inl ⟨_, And.intro (by walk_at "sq") ?_⟩
  | refine .inr ⟨_, And.intro (by walk_at "sqt") ?_⟩
  | refine ⟨_, _, _, _, rfl, rfl, And.intro (by walk_at "lk") (And.intro rfl ?_)⟩
  | refine ⟨_, _, _, _, rfl, rfl, And.intro (by walk_at "lk") (And.intro (by walk_at "key") ?_)⟩
  | refine ⟨_, _, _, rfl, rfl, And.intro (by walk_at "lk") (And.intro (by walk_at "side") ?_)⟩
  | refine fun H' (n : Wr _ _ _ H') => ?_
  | refine fun p H' (n : Nw _ p _ H') => ?_
  | refine fun r H' (n : Tp _ _ r _ H') => ?_
  | refine fun x dx H' (n : Mkd _ _ x dx H') => ?_
  | refine .inl ⟨_, _, rfl, And.intro (by walk_at "sq") (fun p H' (n : Nw _ p _ H') => ?_)⟩
  | refine .inr ⟨_, _, rfl, And.intro (by walk_at "sqt") (fun r H' (n : Tp _ _ r _ H') => ?_)⟩
  | refine ⟨_, _, rfl, And.intro (by walk_at "sq") (fun p H' (n : Nw _ p _ H') => ?_)⟩
  | refine .inl (And.intro ⟨_, by walk_at "sq"⟩ ?_)
  | refine .inr (And.intro ⟨_, by walk_at "sqt"⟩ ?_)
  | refine ⟨_, _, rfl, And.intro (by walk_at "sqt") (And.intro rfl ?_)⟩
  | refine ⟨_, _, And.intro rfl ?_⟩
  | refine ⟨_, _, _, And.intro rfl ?_⟩
  | refine And.intro rfl ?_
  | (refine ite_t ?_ ?_; exact rfl)
  | (refine ite_f ?_ ?_; exact rfl)
  | refine And.intro (by walk_at "side") ?_)
local macro_rules | `(tactic| walk_at "side") => `(tactic| first
  | exact (rfl : _ = _)
  | decide
  | exact lt1000 rfl
  | with_reducible assumption
  | exact ⟨by omega, by omega⟩
  | exact .inl ⟨by omega, by omega⟩
  | exact .inr ⟨by omega, by omega⟩
  | omega
  | (apply le_line; omega)
  | (apply lt_line; omega)
  | (apply le_line; simp <;> omega)
  | (apply lt_line; simp <;> omega)
  | fail)
local macro_rules | `(tactic| walk_at "if") => `(tactic| first
  | refine ite_nd ?_ ?_
  | refine ite_d ?_ ?_
  | refine ite_eqt ?_ ?_
  | fail)
local macro_rules | `(tactic| walk_at "roll") => `(tactic| first
  | (refine And.intro (show Dice _ _ from ⟨_, _, _, by walk_at "lk"⟩) (And.intro (by walk_at "side") (And.intro (by walk_at "side") (fun r H' r0 r1 ro => ?_))); obtain ⟨a', b', c', w⟩ := ro)
  | fail)
local macro_rules | `(tactic| walk_at "run") => `(tactic| (walk_at "go"; repeat (walk_at "roll"; walk_at "go")))
local macro_rules | `(tactic| walk_at "dp") => `(tactic| first
  | exact Dp.non
  | exact Dp.int _
  | exact Dp.str _
  | exact Dp.bl _
  | exact DpAll.nil
  | exact DpAll.cons (by walk_at "dp") (by walk_at "dp")
  | exact Dp.tup (by walk_at "sqt") (by walk_at "dp")
  | exact Dp.lst (by walk_at "sq") (by walk_at "dp")
  | fail)
local macro_rules | `(tactic| walk_at "key") => `(tactic| first
  | assumption
  | fail)

section
variable {w : World} {K : PySem.W.Frag} {mg : Str → Option Value} {base : Heap}
theorem tl_law_0_14 (T : Env w K mg base) {A : Around} {outer : List PySem.Env} {s : Shared} {H : Hp} {E : XK} (hr : Room 103 (A.deeper (PyProof.Rows.envOfC "law" (defScope s_law) s.heap.objs.size T.f_law (.ref T.c_law)))) : ∃ t, PSs (cxOf (L2.CX prg w) prg w K mg base N_law "law" (defScope s_law) T.f_law (.ref T.c_law) A outer s H E) ((forBody ((defBody s_law).getD 0 (.Pass ⟨0, 0, 0, 0⟩))).drop 14) t ∧ ∀ (D : Ends) (σ : L2.St) (G : Hp), pre_law_0_14 T H D σ G → t D σ G := by
  refine ⟨_, (pss_one (ps_if (pt_cmpR (Y.op_neK (K := K) rfl hr.units) (pe_callTy (Y.listK (K := K) rfl) (by rfl) T.no_list (by decide +kernel) (pa_cons (pe_call (ok_windows_least T) (hr.mono (by decide)) rfl T.mg_windows_least T.F_windows_least.kp T.b_windows_least .nil (Y.passD rfl rfl rfl rfl) (pa_cons (pv 2) (pa_cons (pv 23) pa_nil))) pa_nil)) (pe_lc (own := [("k", 3)]) rfl sc_law.nd (pi_range1 rfl T.no_range (pa_cons (pe_op (Y.op_addK (K := K) rfl) (pe_op Y.op_sub (pv 5) (pv 23)) pe_int) pa_nil)) (blkOk_by (own := [("k", 3)]) (N := N_law) (sc := defScope s_law) (by decide +kernel)) (fun _ _ _ _ _ => (pg_name (i := 3) sc_law.nd rfl (Or.inl rfl))) (fun _ _ _ _ _ => pts_nil) (fun _ _ _ _ _ => (pe_callB (Y.cr_minK (K := K) rfl rfl) (by rfl) T.no_min (by decide +kernel) (pa_cons (pe_slice (Y.slK (K := K) rfl) (pv 2) (po_some (pv 3)) (po_some (pe_op (Y.op_addK (K := K) rfl) (pv 3) (pv 23)))) pa_nil)))) (nomark _)) (pss_one (ps_ret pe_bl)) pss_nil)), ?_⟩
  intro D σ G h
  unfold pre_law_0_14 at h
  obtain ⟨B, d, t, dn, ol, own, lg, x0, x6, x7, x8, x9, x10, x11, x13, x14, x15, x16, x17, x18, x19, x20, x22, rfl, sl, g0, g1, hD⟩ := h
  have l1 := sl.l1
  have l2 := sl.l2
  have ow := sl.ow
  refine tIf_restH (fun G' => SL T B G' d t dn ol own own) (fun G' sl1 => ?_) (fun N hN => ?_)
  · walk_at "go"
    exact hD _ _ ⟨_, _, _, _, _, _, _, _, _, _, _, _, _, _, _, _, _, _, _, _, rfl⟩ sl1.dice sl1.c
  obtain ⟨nn, hnn⟩ : ∃ nn : Int, nn = own.length := ⟨_, rfl⟩
  rw [← hnn]
  walk_at "go"
  refine ⟨sl.tabs, by omega, fun z => absurd ⟨by omega, by omega⟩ z, fun _ _ => ⟨by omega, fun z => absurd ⟨g0, g1⟩ z, fun _ _ p G1 ms c1 fp hp ml mm => ?_⟩⟩
  have sl1 := sl.idle c1
  have ow1 := sl1.ow
  have zz : (ms.map V.int).length ≤ sizeLine := le_line (by rw [List.length_map]; omega)
  walk_at "go"
  rename_i l3 G3 n3
  intro D0 hD0
  refine lcr (fun i H' => Chg T.tabs nil G3 H' ∧ H' D0 = some (.lst ((ms.take i).map V.int))) hD0 (fun H' n => ⟨n.chg, n.at⟩) ?_ ?_
  · rintro H' ⟨c, hd0⟩
    have en : (nn - lg + 1).toNat = ms.length := by omega
    rw [en, List.take_length] at hd0
    walk_at "go"
    refine veq_ll (.of (by walk_at "lk")) (.of hd0) ints_flat ints_flat (p := True) (by simp) ?_
    walk_at "go"
    exact hN _ ((sl1.idle n3.chg).idle c)
  · rintro k H' hk ⟨c, hd0⟩ Nx Sk hNx hSk
    have km : k < ms.length := by omega
    have sl4 := (sl1.idle n3.chg).idle c
    have ow4 := sl4.ow
    have mk := mm k ms[k] (List.getElem?_eq_getElem km)
    have sp : 0 < (Z.sub own (0 + (k : Int)) (0 + (k : Int) + lg)).length := by rw [sub_len (by omega) (by omega) (by omega)]; omega
    walk_at "go"
    rename_i l5 G5 n5
    rw [cut_sub (by omega) (by omega)] at n5
    refine ⟨l5, Z.sub own (0 + (k : Int)) (0 + (k : Int) + lg), rfl, .of n5.at, sp, fun m ma mb => ?_⟩
    have e0 : (0 : Int) + (k : Int) = k := by omega
    rw [e0] at ma mb
    obtain rfl : m = ms[k] := Int.le_antisymm (mb _ mk.1) (mk.2 _ ma)
    walk_at "go"
    refine hNx _ _ _ (by walk_at "lk") (lt_line (by rw [List.length_map, List.length_take]; omega)) fun H3 w3 => ⟨by walk_at "chg", ?_⟩
    rw [w3.at, take_next (List.getElem?_eq_getElem km)]
end
end Z


set_option Elab.async false
set_option linter.all false
set_option maxRecDepth 100000
set_option maxHeartbeats 4000000
set_option pp.maxSteps 1500
namespace Z
open PySem PySem.Spec L2 LamX Y
local macro_rules | `(tactic| walk_at "lk") => `(tactic| first
  | assumption
  | exact Nw.at (by assumption)
  | exact Wr.at (by assumption)
  | exact Mkd.at (by assumption)
  | exact Nw.look (by assumption) (by walk_at "lk")
  | exact Mkd.look (by assumption) (by walk_at "lk")
  | exact Wr.look (by assumption) (by walk_at "lk") (by walk_at "ne")
  | exact Chg.look (by assumption) (by walk_at "lk") (by walk_at "nin") rfl
  | exact Tp.same (by assumption) _ _ (by walk_at "lk")
  | exact Grows.look (by assumption) (by walk_at "lk") rfl
  | fail)
local macro_rules | `(tactic| walk_at "ne") => `(tactic| first
  | assumption
  | exact Ne.symm (by assumption)
  | exact Nw.ne (by assumption) (by walk_at "lk")
  | exact Ne.symm (Nw.ne (by assumption) (by walk_at "lk"))
  | exact ne_fr (by assumption) (by walk_at "lk")
  | exact Ne.symm (ne_fr (by assumption) (by walk_at "lk"))
  | exact ne_fr (Mkd.nx (by assumption)) (by walk_at "lk")
  | exact Ne.symm (ne_fr (Mkd.nx (by assumption)) (by walk_at "lk"))
  | exact ne_kdn (by assumption) (by walk_at "lk") rfl
  | exact Ne.symm (ne_kdn (by assumption) (by walk_at "lk") rfl)
  | fail)
local macro_rules | `(tactic| walk_at "nin") => `(tactic| first
  | exact nin_nil
  | exact id
  | exact nin_cons (by walk_at "ne") (by walk_at "nin")
  | fail)
local macro_rules | `(tactic| walk_at "fr") => `(tactic| first
  | assumption
  | exact Nw.new (by assumption)
  | exact Mkd.nx (by assumption)
  | exact Nw.dom (by assumption) (by walk_at "fr")
  | exact Wr.dom (by assumption) (by walk_at "fr")
  | exact Mkd.dom (by assumption) (by walk_at "fr")
  | exact Chg.dom (by assumption) _ (by walk_at "fr")
  | exact Tp.dom (by assumption) _ (by walk_at "fr")
  | exact Grows.dom (by assumption) _ (by walk_at "fr")
  | fail)
local macro_rules | `(tactic| walk_at "mem") => `(tactic| first
  | assumption
  | exact List.mem_cons_self
  | (apply List.mem_cons_of_mem; walk_at "mem")
  | fail)
local macro_rules | `(tactic| walk_at "in") => `(tactic| first
  | assumption
  | (apply Or.inl; walk_at "mem")
  | (apply Or.inr; walk_at "fr")
  | fail)
local macro_rules | `(tactic| walk_at "sub") => `(tactic| first
  | exact sub_nil0
  | exact sub_nil
  | exact sub_cons (by walk_at "in") (by walk_at "sub")
  | fail)
local macro_rules | `(tactic| walk_at "chg") => `(tactic| first
  | assumption
  | exact Chg.refl _
  | exact Chg.nw (by assumption) (by walk_at "chg")
  | exact Chg.mkd (by assumption) (by walk_at "chg")
  | exact Chg.tp (by assumption) (by walk_at "chg")
  | exact Chg.gr (by assumption) (by walk_at "chg")
  | exact Chg.wr (by assumption) (by walk_at "chg") (by walk_at "in")
  | exact Chg.ch (by assumption) (by walk_at "chg") (by walk_at "sub")
  | fail)
local macro_rules | `(tactic| walk_at "sq") => `(tactic| first
  | assumption
  | exact SqL.of (by walk_at "lk")
  | exact Chg.seqL (by assumption) (by walk_at "sq") (by walk_at "nin")
  | exact SqL.nw (by assumption) (by walk_at "sq")
  | exact SqL.tp (by assumption) (by walk_at "sq")
  | exact SqL.mkd (by assumption) (by walk_at "sq")
  | exact SqL.wr (by assumption) (by walk_at "sq") (by walk_at "ne")
  | fail)
local macro_rules | `(tactic| walk_at "sqt") => `(tactic| first
  | assumption
  | exact SqT.of (by walk_at "lk")
  | exact Tp.sq (by assumption)
  | exact SqT.nw (by assumption) (by walk_at "sqt")
  | exact SqT.tp (by assumption) (by walk_at "sqt")
  | exact SqT.mkd (by assumption) (by walk_at "sqt")
  | exact SqT.chg (by assumption) (by walk_at "sqt") (by walk_at "nin")
  | fail)
local macro_rules | `(tactic| walk_at "seq") => `(tactic| first
  | assumption
  | exact .inl (by walk_at "sq")
  | exact .inr (by walk_at "sqt")
  | exact SqA.keepN (T := Env.tabs (by assumption)) (by assumption) (by walk_at "chg")
  | fail)
local macro_rules | `(tactic| walk_at "go") => `(tactic| repeat first
  | refine ⟨_, rfl, ?_⟩
  | refine ⟨_, _, _, _, rfl, And.intro (by walk_at "lk") (And.intro rfl ?_)⟩
  | refine ⟨_, _, _, rfl, And.intro (by walk_at "lk") (And.intro (by walk_at "side") ?_)⟩
  | refine ⟨_, _, And.intro rfl (And.intro rfl ?_)⟩
  | refine ⟨_, _, And.intro rfl (And.intro (by walk_at "lk") ?_)⟩
  | refine ⟨_, _, _, And.intro rfl (And.intro (by walk_at "lk") ?_)⟩
  | refine ⟨_, And.intro (by walk_at "lk") (And.intro (by walk_at "side") ?_)⟩
  | refine ⟨_, _, And.intro (by walk_at "lk") (And.intro (by walk_at "side") ?_)⟩
  | refine ⟨_, _, And.intro (by walk_at "seq") (And.intro rfl ?_)⟩
  | refine ⟨_, _, And.intro (by walk_at "seq") (And.intro (by assumption) ?_)⟩
  | refine ⟨_, And.intro (by walk_at "seq") ?_⟩
  | refine ⟨_, And.intro (by walk_at "lk") (And.intro (by walk_at "side") (And.intro (by walk_at "side") (And.intro (by walk_at "side") ?_)))⟩
  | refine .inl ⟨_, _, And.intro (by walk_at "lk") (And.intro (by walk_at "lk") (And.intro (by walk_at "side") ?_))⟩
  | refine .inr ⟨_, _, And.intro (by walk_at "sqt") (And.intro (by walk_at "sqt") (And.intro (by walk_at "side") ?_))⟩
  | refine .inl ⟨_, And.intro (by walk_at "sq") ?_⟩
  | refine .inr ⟨_, And.intro (by walk_at "sqt") ?_⟩
  | refine ⟨_, _, _, _, rfl, rfl, And.intro (by walk_at "lk") (And.intro rfl ?_)⟩
  | refine ⟨_, _, _, _, rfl, rfl, And.intro (by walk_at "lk") (And.intro (by walk_at "key") ?_)⟩
  | refine ⟨_, _, _, rfl, rfl, And.intro (by walk_at "lk") (And.intro (by walk_at "side") ?_)⟩
  | refine fun H' (n : Wr _ _ _ H') => ?_
  | refine fun p H' (n : Nw _ p _ H') => ?_
  | refine fun r H' (n : Tp _ _ r _ H') => ?_
  | refine fun x dx H' (n : Mkd _ _ x dx H') => ?_
  | refine .inl ⟨_, _, rfl, And.intro (by walk_at "sq") (fun p H' (n : Nw _ p _ H') => ?_)⟩
  | refine .inr ⟨_, _, rfl, And.intro (by walk_at "sqt") (fun r H' (n : Tp _ _ r _ H') => ?_)⟩
  | refine ⟨_, _, rfl, And.intro (by walk_at "sq") (fun p H' (n : Nw _ p _ H') => ?_)⟩
  | refine .inl (And.intro ⟨_, by walk_at "sq"⟩ ?_)
  | refine .inr (And.intro ⟨_, by walk_at "sqt"⟩ ?_)
  | refine ⟨_, _, rfl, And.intro (by walk_at "sqt") (And.intro rfl ?_)⟩
  | refine ⟨_, _, And.intro rfl ?_⟩
  | refine ⟨_, _, _, And.intro rfl ?_⟩
  | refine And.intro rfl ?_
  | (refine ite_t ?_ ?_; exact rfl)
  | (refine ite_f ?_ ?_; exact rfl)
  | refine And.intro (by walk_at "side") ?_)
local macro_rules | `(tactic| walk_at "side") => `(tactic| first
  | exact (rfl : _ = _)
  | decide
  | exact lt1000 rfl
  | with_reducible assumption
  | exact ⟨by omega, by omega⟩
  | exact .inl ⟨by omega, by omega⟩
  | exact .inr ⟨by omega, by omega⟩
  | omega
  | (apply le_line; omega)
  | (apply lt_line; omega)
  | (apply le_line; simp <;> omega)
  | (apply lt_line; simp <;> omega)
  | fail)
local macro_rules | `(tactic| walk_at "if") => `(tactic| first
  | refine ite_nd ?_ ?_
  | refine ite_d ?_ ?_
  | refine ite_eqt ?_ ?_
  | fail)
local macro_rules | `(tactic| walk_at "roll") => `(tactic| first
  | (refine And.intro (show Dice _ _ from ⟨_, _, _, by walk_at "lk"⟩) (And.intro (by walk_at "side") (And.intro (by walk_at "side") (fun r H' r0 r1 ro => ?_))); obtain ⟨a', b', c', w⟩ := ro)
  | fail)
local macro_rules | `(tactic| walk_at "run") => `(tactic| (walk_at "go"; repeat (walk_at "roll"; walk_at "go")))
local macro_rules | `(tactic| walk_at "dp") => `(tactic| first
  | exact Dp.non
  | exact Dp.int _
  | exact Dp.str _
  | exact Dp.bl _
  | exact DpAll.nil
  | exact DpAll.cons (by walk_at "dp") (by walk_at "dp")
  | exact Dp.tup (by walk_at "sqt") (by walk_at "dp")
  | exact Dp.lst (by walk_at "sq") (by walk_at "dp")
  | fail)
local macro_rules | `(tactic| walk_at "key") => `(tactic| first
  | assumption
  | fail)

section
variable {w : World} {K : PySem.W.Frag} {mg : Str → Option Value} {base : Heap}
theorem paired_of {α β : Type} {R S : α → β → Prop} (i : ∀ a b, R a b → S a b) : ∀ {as : List α} {bs : List β}, All2 R as bs → Paired S as bs
  | _, _, .nil => .nil
  | _, _, .cons a b => .cons (i _ _ a) (paired_of i b)
theorem rows_pair {G : Hp} {ts : List V} : ∀ {rs : List (List Int)}, RowsV G ts (rs.map iV) → All2 (fun x r => RowV G x (iV r)) ts rs := by
  intro rs h
  induction rs generalizing ts with
  | nil => cases h; exact .nil
  | cons r rs ih =>
    cases h with
    | cons a b => exact .cons a (ih b)
theorem dp_row {G : Hp} {x : V} {r : List Int} (h : RowV G x (iV r)) : Dp K G x (rowD r) := by
  obtain ⟨p, rfl, e⟩ := h
  have := dps_flat (K := K) (H := G) (xs := iV r) ints_flat
  have e2 : (iV r).map sd = r.map PyData.int := by simp [iV, sd]
  rw [e2] at this
  exact .tup (.of e) this
theorem tl_law_0_12 (T : Env w K mg base) {A : Around} {outer : List PySem.Env} {s : Shared} {H : Hp} {E : XK} (hr : Room 103 (A.deeper (PyProof.Rows.envOfC "law" (defScope s_law) s.heap.objs.size T.f_law (.ref T.c_law)))) : ∃ t, PSs (cxOf (L2.CX prg w) prg w K mg base N_law "law" (defScope s_law) T.f_law (.ref T.c_law) A outer s H E) ((forBody ((defBody s_law).getD 0 (.Pass ⟨0, 0, 0, 0⟩))).drop 12) t ∧ ∀ (D : Ends) (σ : L2.St) (G : Hp), pre_law_0_12 T H D σ G → t D σ G := by
  obtain ⟨t9, P9, R9⟩ := tl_law_0_14 T (outer := outer) (s := s) (H := H) (E := E) hr
  refine ⟨_, (pss_cons (ps_asg (Y.pe_tu (pa_cons (pe_callB (Y.cr_minR rfl hr.units) (by rfl) T.no_min (by decide +kernel) (pa_cons (pv 19) pa_nil)) (pa_cons (pe_op (Y.op_addK (K := K) rfl) pe_int (pe_call (ok__law_roll T) (hr.mono (by decide)) rfl T.mg__law_roll T.F__law_roll.kp T.b__law_roll .nil (Y.passD rfl rfl rfl rfl) (pa_cons (pv 1) (pa_cons (pv 5) pa_nil)))) pa_nil))) (Y.pg_tupK (K := K) (n := 2) rfl rfl (pgs_cons (pg_name (i := 22) sc_law.nd rfl (Or.inl rfl)) (pgs_cons (pg_name (i := 23) sc_law.nd rfl (Or.inr rfl)) pgs_nil))))
  (pss_cons (ps_if (pt_cmpR (Y.op_neK (K := K) rfl hr.units) (pe_call (ok_best_part T) (hr.mono (by decide)) rfl T.mg_best_part T.F_best_part.kp T.b_best_part .nil (Y.passD rfl rfl rfl rfl) (pa_cons (pv 2) pa_nil)) (Y.pe_tu (pa_cons (pe_un un_neg (pe_ix (Y.ixK (K := K) rfl) (pv 22) pe_int (fun _ _ => rfl))) (pa_cons (pe_ix (Y.ixK (K := K) rfl) (pv 22) pe_int (fun _ _ => rfl)) (pa_cons (pe_ix (Y.ixK (K := K) rfl) (pv 22) pe_int (fun _ _ => rfl)) pa_nil)))) (nomark _)) (pss_one (ps_ret pe_bl)) pss_nil)
  P9)), ?_⟩
  intro D σ G h
  unfold pre_law_0_12 at h
  obtain ⟨B, d, t, dn, ol, own, s, f, b, v, g, y14, y17, y18, pa, ts, ⟨⟨x0, x6, x10, x11, x13, x20, x22, x23, rfl⟩, sl, s0, s1, f0, fb, bn, g1, hD⟩, hp, ra⟩ := h
  have l1 := sl.l1
  have l2 := sl.l2
  obtain ⟨a0, a1, a2, hd⟩ := sl.dice
  have ow := sl.ow
  have rp := rows_pair ra
  have tl : ts.length ≤ 400 := by
    have e := rp.len
    have := partsL_len (own := own) own.length
    have : own.length * own.length ≤ 20 * 20 := Nat.mul_le_mul (by omega) l2
    omega
  have pne : partsL own own.length ≠ [] := fun z => by
    have : trow own 0 1 ∈ partsL own own.length := (partsL_mem (Nat.le_refl _) _).mpr ⟨0, 1, by omega, by omega, by omega, by omega, rfl⟩
    rw [z] at this; cases this
  have p3 : ∀ r ∈ partsL own own.length, r.length = 3 := fun r hr => by
    obtain ⟨_, _, _, _, _, _, rfl⟩ := (partsL_mem (Nat.le_refl _) _).mp hr
    rfl
  walk_at "go"
  refine ⟨pa, ts, partsL own own.length, 3, rfl, .of hp, paired_of (fun _ _ z => dp_row z) rp, pne, p3, fun i bv m ei em mn => ?_⟩
  obtain ⟨a, bb, h0, h1, h2, h3, rfl⟩ := (partsL_mem (Nat.le_refl _) _).mp (List.mem_of_getElem? em)
  obtain ⟨pb, rfl, hb⟩ : ∃ pb, bv = .ref pb ∧ G pb = some (.tup (iV (trow own a bb))) := by
    obtain ⟨r, hr, p, e, z⟩ := rp.getL ei
    rw [em] at hr; cases hr
    exact ⟨p, e, z⟩
  have hb' : G pb = some (.tup [.int (-(Z.sub own a bb).sum), .int a, .int bb]) := hb
  have pd : pb ≠ d := by walk_at "ne"
  walk_at "run"
  rename_i r G1 r0 r1 u0 u1 u2 w1 p2 G2 n2
  have sl2 := (sl.roll w1).idle n2.chg
  have hb2 : G2 pb = some (.tup [.int (-(Z.sub own a bb).sum), .int a, .int bb]) := by walk_at "lk"
  refine ⟨own, .inl (.of sl2.ow), by omega, fun z => absurd ⟨by omega, by omega⟩ z, fun _ _ p3 G3 s' a' b' c3 fp ht a0' ab bl es mx => ?_⟩
  obtain ⟨rfl, rfl, rfl⟩ : s' = (Z.sub own a bb).sum ∧ a' = a ∧ b' = bb := by
    have A := mn (trow own a' b') ((partsL_mem (Nat.le_refl _) _).mpr ⟨a', b', a0', by omega, ab, bl, rfl⟩)
    have Bq := mx a bb h0 h2 h3
    unfold trow at A
    rw [lt3] at A
    unfold L3 at A Bq
    omega
  have sl3 := sl2.idle c3
  have hb3 : G3 pb = some (.tup [.int (-(Z.sub own a' b').sum), .int a', .int b']) := by walk_at "lk"
  walk_at "go"
  rename_i p4 G4 n4
  refine veq_tt (.of (by walk_at "lk")) (.of n4.at) (by simp; exact ⟨rfl, rfl, rfl⟩) (by simp; exact ⟨rfl, rfl, rfl⟩) (p := True) (by simp) ?_
  walk_at "go"
  exact R9 _ _ _ ⟨B, d, t, dn, ol, own, 1 + r, _, _, _, _, _, _, _, _, _, _, _, _, _, _, _, _, rfl, sl3.idle n4.chg, by omega, by omega, hD⟩
end
end Z


set_option Elab.async false
set_option linter.all false
set_option maxRecDepth 100000
set_option maxHeartbeats 4000000
set_option pp.maxSteps 1500
namespace Z
open PySem PySem.Spec L2 LamX Y
local macro_rules | `(tactic| walk_at "lk") => `(tactic| first
  | assumption
  | exact Nw.at (by assumption)
  | exact Wr.at (by assumption)
  | exact Mkd.at (by assumption)
  | exact Nw.look (by assumption) (by walk_at "lk")
  | exact Mkd.look (by assumption) (by walk_at "lk")
  | exact Wr.look (by assumption) (by walk_at "lk") (by walk_at "ne")
  | exact Chg.look (by assumption) (by walk_at "lk") (by walk_at "nin") rfl
  | exact Tp.same (by assumption) _ _ (by walk_at "lk")
  | exact Grows.look (by assumption) (by walk_at "lk") rfl
  | fail)
local macro_rules | `(tactic| walk_at "ne") => `(tactic| first
  | assumption
  | exact Ne.symm (by assumption)
  | exact Nw.ne (by assumption) (by walk_at "lk")
  | exact Ne.symm (Nw.ne (by assumption) (by walk_at "lk"))
  | exact ne_fr (by assumption) (by walk_at "lk")
  | exact Ne.symm (ne_fr (by assumption) (by walk_at "lk"))
  | exact ne_fr (Mkd.nx (by assumption)) (by walk_at "lk")
  | exact Ne.symm (ne_fr (Mkd.nx (by assumption)) (by walk_at "lk"))
  | exact ne_kdn (by assumption) (by walk_at "lk") rfl
  | exact Ne.symm (ne_kdn (by assumption) (by walk_at "lk") rfl)
  | fail)
local macro_rules | `(tactic| walk_at "nin") => `(tactic| first
  | exact nin_nil
  | exact id
  | exact nin_cons (by walk_at "ne") (by walk_at "nin")
  | fail)
local macro_rules | `(tactic| walk_at "fr") => `(tactic| first
  | assumption
  | exact Nw.new (by assumption)
  | exact Mkd.nx (by assumption)
  | exact Nw.dom (by assumption) (by walk_at "fr")
  | exact Wr.dom (by assumption) (by walk_at "fr")
  | exact Mkd.dom (by assumption) (by walk_at "fr")
  | exact Chg.dom (by assumption) _ (by walk_at "fr")
  | exact Tp.dom (by assumption) _ (by walk_at "fr")
  | exact Grows.dom (by assumption) _ (by walk_at "fr")
  | fail)
local macro_rules | `(tactic| walk_at "mem") => `(tactic| first
  | assumption
  | exact List.mem_cons_self
  | (apply List.mem_cons_of_mem; walk_at "mem")
  | fail)
local macro_rules | `(tactic| walk_at "in") => `(tactic| first
  | assumption
  | (apply Or.inl; walk_at "mem")
  | (apply Or.inr; walk_at "fr")
  | fail)
local macro_rules | `(tactic| walk_at "sub") => `(tactic| first
  | exact sub_nil0
  | exact sub_nil
  | exact sub_cons (by walk_at "in") (by walk_at "sub")
  | fail)
local macro_rules | `(tactic| walk_at "chg") => `(tactic| first
  | assumption
  | exact Chg.refl _
  | exact Chg.nw (by assumption) (by walk_at "chg")
  | exact Chg.mkd (by assumption) (by walk_at "chg")
  | exact Chg.tp (by assumption) (by walk_at "chg")
  | exact Chg.gr (by assumption) (by walk_at "chg")
  | exact Chg.wr (by assumption) (by walk_at "chg") (by walk_at "in")
  | exact Chg.ch (by assumption) (by walk_at "chg") (by walk_at "sub")
  | fail)
local macro_rules | `(tactic| walk_at "sq") => `(tactic| first
  | assumption
  | exact SqL.of (by walk_at "lk")
  | exact Chg.seqL (by assumption) (by walk_at "sq") (by walk_at "nin")
  | exact SqL.nw (by assumption) (by walk_at "sq")
  | exact SqL.tp (by assumption) (by walk_at "sq")
  | exact SqL.mkd (by assumption) (by walk_at "sq")
  | exact SqL.wr (by assumption) (by walk_at "sq") (by walk_at "ne")
  | fail)
local macro_rules | `(tactic| walk_at "sqt") => `(tactic| first
  | assumption
  | exact SqT.of (by walk_at "lk")
  | exact Tp.sq (by assumption)
  | exact SqT.nw (by assumption) (by walk_at "sqt")
  | exact SqT.tp (by assumption) (by walk_at "sqt")
  | exact SqT.mkd (by assumption) (by walk_at "sqt")
  | exact SqT.chg (by assumption) (by walk_at "sqt") (by walk_at "nin")
  | fail)
local macro_rules | `(tactic| walk_at "seq") => `(tactic| first
  | assumption
  | exact .inl (by walk_at "sq")
  | exact .inr (by walk_at "sqt")
  | exact SqA.keepN (T := Env.tabs (by assumption)) (by assumption) (by walk_at "chg")
  | fail)
local macro_rules | `(tactic| walk_at "go") => `(tactic| repeat first
  | refine ⟨_, rfl, ?_⟩
  | refine ⟨_, _, _, _, rfl, And.intro (by walk_at "lk") (And.intro rfl ?_)⟩
  | refine ⟨_, _, _, rfl, And.intro (by walk_at "lk") (And.intro (by walk_at "side") ?_)⟩
  | refine ⟨_, _, And.intro rfl (And.intro rfl ?_)⟩
  | refine ⟨_, _, And.intro rfl (And.intro (by walk_at "lk") ?_)⟩
  | refine ⟨_, _, _, And.intro rfl (And.intro (by walk_at "lk") ?_)⟩
  | refine ⟨_, And.intro (by walk_at "lk") (And.intro (by walk_at "side") ?_)⟩
  | refine ⟨_, _, And.intro (by walk_at "lk") (And.intro (by walk_at "side") ?_)⟩
  | refine ⟨_, _, And.intro (by walk_at "seq") (And.intro rfl ?_)⟩
  | refine ⟨_, _, And.intro (by walk_at "seq") (And.intro (by assumption) ?_)⟩
  | refine ⟨_, And.intro (by walk_at "seq") ?_⟩
  | refine ⟨_, And.intro (by walk_at "lk") (And.intro (by walk_at "side") (And.intro (by walk_at "side") (And.intro (by walk_at "side") ?_)))⟩
  | refine .inl ⟨_, _, And.intro (by walk_at "lk") (And.intro (by walk_at "lk") (And.intro (by walk_at "side") ?_))⟩
  | refine .inr ⟨_, _, And.intro (by walk_at "sqt") (And.intro (by walk_at "sqt") (And.intro (by walk_at "side") ?_))⟩
  | refine .inl ⟨_, And.intro (by walk_at "sq") ?_⟩
  | refine .inr ⟨_, And.intro (by walk_at "sqt") ?_⟩
  | refine ⟨_, _, _, _, rfl, rfl, And.intro (by walk_at "lk") (And.intro rfl ?_)⟩
  | refine ⟨_, _, _, _, rfl, rfl, And.intro (by walk_at "lk") (And.intro (by walk_at "key") ?_)⟩
  | refine ⟨_, _, _, rfl, rfl, And.intro (by walk_at "lk") (And.intro (by walk_at "side") ?_)⟩
  | refine fun H' (n : Wr _ _ _ H') => ?_
  | refine fun p H' (n : Nw _ p _ H') => ?_
  | refine fun r H' (n : Tp _ _ r _ H') => ?_
  | refine fun x dx H' (n : Mkd _ _ x dx H') => ?_
  | refine .inl ⟨_, _, rfl, And.intro (by walk_at "sq") (fun p H' (n : Nw _ p _ H') => ?_)⟩
  | refine .inr ⟨_, _, rfl, And.intro (by walk_at "sqt") (fun r H' (n : Tp _ _ r _ H') => ?_)⟩
  | refine ⟨_, _, rfl, And.intro (by walk_at "sq") (fun p H' (n : Nw _ p _ H') => ?_)⟩
  | refine .inl (And.intro ⟨_, by walk_at "sq"⟩ ?_)
  | refine .inr (And.intro ⟨_, by walk_at "sqt"⟩ ?_)
  | refine ⟨_, _, rfl, And.intro (by walk_at "sqt") (And.intro rfl ?_)⟩
  | refine ⟨_, _, And.intro rfl ?_⟩
  | refine ⟨_, _, _, And.intro rfl ?_⟩
  | refine And.intro rfl ?_
  | (refine ite_t ?_ ?_; exact rfl)
  | (refine ite_f ?_ ?_; exact rfl)
  | refine And.intro (by walk_at "side") ?_)
local macro_rules | `(tactic| walk_at "side") => `(tactic| first
  | exact (rfl : _ = _)
  | decide
  | exact lt1000 rfl
  | with_reducible assumption
  | exact ⟨by omega, by omega⟩
  | exact .inl ⟨by omega, by omega⟩
  | exact .inr ⟨by omega, by omega⟩
  | omega
  | (apply le_line; omega)
  | (apply lt_line; omega)
  | (apply le_line; simp <;> omega)
  | (apply lt_line; simp <;> omega)
  | fail)
local macro_rules | `(tactic| walk_at "if") => `(tactic| first
  | refine ite_nd ?_ ?_
  | refine ite_d ?_ ?_
  | refine ite_eqt ?_ ?_
  | fail)
local macro_rules | `(tactic| walk_at "roll") => `(tactic| first
  | (refine And.intro (show Dice _ _ from ⟨_, _, _, by walk_at "lk"⟩) (And.intro (by walk_at "side") (And.intro (by walk_at "side") (fun r H' r0 r1 ro => ?_))); obtain ⟨a', b', c', w⟩ := ro)
  | fail)
local macro_rules | `(tactic| walk_at "run") => `(tactic| (walk_at "go"; repeat (walk_at "roll"; walk_at "go")))
local macro_rules | `(tactic| walk_at "dp") => `(tactic| first
  | exact Dp.non
  | exact Dp.int _
  | exact Dp.str _
  | exact Dp.bl _
  | exact DpAll.nil
  | exact DpAll.cons (by walk_at "dp") (by walk_at "dp")
  | exact Dp.tup (by walk_at "sqt") (by walk_at "dp")
  | exact Dp.lst (by walk_at "sq") (by walk_at "dp")
  | fail)
local macro_rules | `(tactic| walk_at "key") => `(tactic| first
  | assumption
  | fail)

section
variable {w : World} {K : PySem.W.Frag} {mg : Str → Option Value} {base : Heap}
theorem tl_law_0_10 (T : Env w K mg base) {A : Around} {outer : List PySem.Env} {s : Shared} {H : Hp} {E : XK} (hr : Room 103 (A.deeper (PyProof.Rows.envOfC "law" (defScope s_law) s.heap.objs.size T.f_law (.ref T.c_law)))) : ∃ t, PSs (cxOf (L2.CX prg w) prg w K mg base N_law "law" (defScope s_law) T.f_law (.ref T.c_law) A outer s H E) ((forBody ((defBody s_law).getD 0 (.Pass ⟨0, 0, 0, 0⟩))).drop 10) t ∧ ∀ (D : Ends) (σ : L2.St) (G : Hp), pre_law_0_10 T H D σ G → t D σ G := by
  obtain ⟨t9, P9, R9⟩ := tl_law_0_12 T (outer := outer) (s := s) (H := H) (E := E) hr
  refine ⟨_, (pss_cons (ps_set (i := 19) sc_law.nd rfl (Or.inl rfl) (Y.pe_ls pa_nil))
  (pss_cons (ps_for (passes_of rfl) rfl (pi_range1 rfl T.no_range (pa_cons (pv 5) pa_nil)) (pg_name (i := 20) sc_law.nd rfl (Or.inr rfl)) (pss_one (ps_set (i := 19) sc_law.nd rfl (Or.inl rfl) (pe_op (Y.op_addK (K := K) rfl) (pv 19) (pe_lc (own := [("b", 21)]) rfl sc_law.nd (pi_range2 rfl T.no_range (pa_cons (pe_op (Y.op_addK (K := K) rfl) (pv 20) pe_int) (pa_cons (pe_op (Y.op_addK (K := K) rfl) (pv 5) pe_int) pa_nil))) (blkOk_by (own := [("b", 21)]) (N := N_law) (sc := defScope s_law) (by decide +kernel)) (fun _ _ _ _ _ => (pg_name (i := 21) sc_law.nd rfl (Or.inl rfl))) (fun _ _ _ _ _ => pts_nil) (fun _ _ _ _ _ => (Y.pe_tu (pa_cons (pe_un un_neg (pe_callB (Y.cr_sumK (K := K) rfl rfl) (by rfl) T.no_sum (by decide +kernel) (pa_cons (pe_slice (Y.slK (K := K) rfl) (pv 2) (po_some (pv 20)) (po_some (pv 21))) pa_nil))) (pa_cons (pv 20) (pa_cons (pv 21) pa_nil))))))))))
  P9)), ?_⟩
  intro D σ G h
  unfold pre_law_0_10 at h
  obtain ⟨B, d, t, dn, ol, own, s, f, b, v, g, y14, y17, y18, y19, ⟨x0, x6, x10, x11, x13, x20, x22, x23, rfl⟩, sl, s0, s1, f0, fb, bn, g1, hD⟩ := h
  have l2 := sl.l2
  have hx : ∀ nn : Int, nn = own.length → ∃ z : Int, z = nn := fun nn _ => ⟨nn, rfl⟩
  obtain ⟨nn, hnn⟩ := hx _ rfl
  rw [← hnn]
  walk_at "go"
  rename_i p0 G0 n0
  refine for_range (fun i σ G' => ∃ pa ts z20, σ = [x0, some (.ref d), some (.ref ol), none, some (.ref t), some (.int nn), x6, some (.int f), some (.int b), some (.int v), x10, x11, none, x13, y14, some (.int s), some (.int g), y17, y18, some (.ref pa), z20, none, x22, x23] ∧ SL T B G' d t dn ol own own ∧ G' pa = some (.lst ts) ∧ RowsV G' ts ((partsL own i).map iV)) ⟨p0, [], _, rfl, sl.idle n0.chg, n0.at, .nil⟩ ?_ ?_
  · rintro i σ G1 hi ⟨pa, ts, z20, rfl, sl1, hp, ra⟩
    have tl : ts.length ≤ 400 := by
      have e := ra.len
      rw [List.length_map] at e
      have := partsL_len (own := own) i
      have : i * own.length ≤ 20 * 20 := Nat.mul_le_mul (by omega) l2
      omega
    have hil : i < own.length := by omega
    walk_at "go"
    intro D0 hD0
    refine lcr (fun j H' => Chg T.tabs nil G1 H' ∧ ∃ us, H' D0 = some (.lst us) ∧ RowsV H' us ((rowL own i j).map iV)) hD0 (fun H' n => ⟨n.chg, [], n.at, .nil⟩) ?_ ?_
    · rintro H' ⟨c, us, hu, ru⟩
      have en : (nn + 1 - (0 + (i : Int) + 1)).toNat = own.length - i := by omega
      rw [en] at ru
      have ul : us.length = own.length - i := by have := ru.len; rw [List.length_map, rowL_len] at this; exact this
      have zz : ts.length + us.length ≤ sizeLine := le_line (by omega)
      walk_at "go"
      rename_i pb Gb nb
      refine ⟨pb, ts ++ us, _, rfl, (sl1.idle c).idle nb.chg, nb.at, ?_⟩
      rw [partsL, List.map_append]
      exact (ra.keepN (T := T.tabs) (by walk_at "chg")).app (ru.keepN (T := T.tabs) (by walk_at "chg"))
    · rintro k H' hk ⟨c, us, hu, ru⟩ Nx Sk hN hS
      have ow3 := (sl1.idle c).ow
      have ul : us.length = k := by have := ru.len; rw [List.length_map, rowL_len] at this; exact this
      walk_at "go"
      rename_i l5 G5 n5
      rw [cut_sub (by omega) (by omega)] at n5
      refine ⟨l5, Z.sub own (0 + (i : Int)) (0 + (i : Int) + 1 + (k : Int)), rfl, .of n5.at, ?_⟩
      walk_at "go"
      rename_i p6 G6 n6
      refine hN _ _ us (by walk_at "lk") (lt_line (by omega)) fun H3 w3 => ⟨by walk_at "chg", us ++ [.ref p6], w3.at, ?_⟩
      have cc : Chg T.tabs (Y.In [D0]) H' H3 := by walk_at "chg"
      have nt : ∀ a ts, H' a = some (.tup ts) → ¬ Y.In [D0] a := fun a ts e z => by
        obtain rfl : a = D0 := by simpa [Y.In] using z
        rw [hu] at e; cases e
      have pd : p6 ≠ D0 := by walk_at "ne"
      rw [rowL_snoc, List.map_append]
      refine (ru.keep cc nt).snoc ⟨p6, rfl, ?_⟩
      have e0 : (0 : Int) + (i : Int) = i := by omega
      have h6 := w3.look n6.at pd
      rw [e0] at h6
      exact h6
  · rintro σ G1 ⟨pa, ts, z20, rfl, sl1, hp, ra⟩
    have e1 : nn.toNat = own.length := by omega
    rw [e1] at ra
    subst hnn
    exact R9 _ _ _ ⟨B, d, t, dn, ol, own, s, f, b, v, g, _, _, _, pa, ts, ⟨⟨_, _, _, _, _, _, _, _, rfl⟩, sl1, s0, s1, f0, fb, bn, g1, hD⟩, hp, ra⟩
end
end Z


set_option Elab.async false
set_option linter.all false
set_option maxRecDepth 100000
set_option maxHeartbeats 4000000
set_option pp.maxSteps 1500
namespace Z
open PySem PySem.Spec L2 LamX Y
local macro_rules | `(tactic| walk_at "lk") => `(tactic| first
  | assumption
  | exact Nw.at (by assumption)
  | exact Wr.at (by assumption)
  | exact Mkd.at (by assumption)
  | exact Nw.look (by assumption) (by walk_at "lk")
  | exact Mkd.look (by assumption) (by walk_at "lk")
  | exact Wr.look (by assumption) (by walk_at "lk") (by walk_at "ne")
  | exact Chg.look (by assumption) (by walk_at "lk") (by walk_at "nin") rfl
  | exact Tp.same (by assumption) _ _ (by walk_at "lk")
  | exact Grows.look (by assumption) (by walk_at "lk") rfl
  | fail)
local macro_rules | `(tactic| walk_at "ne") => `(tactic| first
  | assumption
  | exact Ne.symm (by assumption)
  | exact Nw.ne (by assumption) (by walk_at "lk")
  | exact Ne.symm (Nw.ne (by assumption) (by walk_at "lk"))
  | exact ne_fr (by assumption) (by walk_at "lk")
  | exact Ne.symm (ne_fr (by assumption) (by walk_at "lk"))
  | exact ne_fr (Mkd.nx (by assumption)) (by walk_at "lk")
  | exact Ne.symm (ne_fr (Mkd.nx (by assumption)) (by walk_at "lk"))
  | exact ne_kdn (by assumption) (by walk_at "lk") rfl
  | exact Ne.symm (ne_kdn (by assumption) (by walk_at "lk") rfl)
  | fail)
local macro_rules | `(tactic| walk_at "nin") => `(tactic| first
  | exact nin_nil
  | exact id
  | exact nin_cons (by walk_at "ne") (by walk_at "nin")
  | fail)
local macro_rules | `(tactic| walk_at "fr") => `(tactic| first
  | assumption
  | exact Nw.new (by assumption)
  | exact Mkd.nx (by assumption)
  | exact Nw.dom (by assumption) (by walk_at "fr")
  | exact Wr.dom (by assumption) (by walk_at "fr")
  | exact Mkd.dom (by assumption) (by walk_at "fr")
  | exact Chg.dom (by assumption) _ (by walk_at "fr")
  | exact Tp.dom (by assumption) _ (by walk_at "fr")
  | exact Grows.dom (by assumption) _ (by walk_at "fr")
  | fail)
local macro_rules | `(tactic| walk_at "mem") => `(tactic| first
  | assumption
  | exact List.mem_cons_self
  | (apply List.mem_cons_of_mem; walk_at "mem")
  | fail)
local macro_rules | `(tactic| walk_at "in") => `(tactic| first
  | assumption
  | (apply Or.inl; walk_at "mem")
  | (apply Or.inr; walk_at "fr")
  | fail)
local macro_rules | `(tactic| walk_at "sub") => `(tactic| first
  | exact sub_nil0
  | exact sub_nil
  | exact sub_cons (by walk_at "in") (by walk_at "sub")
  | fail)
local macro_rules | `(tactic| walk_at "chg") => `(tactic| first
  | assumption
  | exact Chg.refl _
  | exact Chg.nw (by assumption) (by walk_at "chg")
  | exact Chg.mkd (by assumption) (by walk_at "chg")
  | exact Chg.tp (by assumption) (by walk_at "chg")
  | exact Chg.gr (by assumption) (by walk_at "chg")
  | exact Chg.wr (by assumption) (by walk_at "chg") (by walk_at "in")
  | exact Chg.ch (by assumption) (by walk_at "chg") (by walk_at "sub")
  | fail)
local macro_rules | `(tactic| walk_at "sq") => `(tactic| first
  | assumption
  | exact SqL.of (by walk_at "lk")
  | exact Chg.seqL (by assumption) (by walk_at "sq") (by walk_at "nin")
  | exact SqL.nw (by assumption) (by walk_at "sq")
  | exact SqL.tp (by assumption) (by walk_at "sq")
  | exact SqL.mkd (by assumption) (by walk_at "sq")
  | exact SqL.wr (by assumption) (by walk_at "sq") (by walk_at "ne")
  | fail)
local macro_rules | `(tactic| walk_at "sqt") => `(tactic| first
  | assumption
  | exact SqT.of (by walk_at "lk")
  | exact Tp.sq (by assumption)
  | exact SqT.nw (by assumption) (by walk_at "sqt")
  | exact SqT.tp (by assumption) (by walk_at "sqt")
  | exact SqT.mkd (by assumption) (by walk_at "sqt")
  | exact SqT.chg (by assumption) (by walk_at "sqt") (by walk_at "nin")
  | fail)
local macro_rules | `(tactic| walk_at "seq") => `(tactic| first
  | assumption
  | exact .inl (by walk_at "sq")
  | exact .inr (by walk_at "sqt")
  | exact SqA.keepN (T := Env.tabs (by assumption)) (by assumption) (by walk_at "chg")
  | fail)
local macro_rules | `(tactic| walk_at "go") => `(tactic| repeat first
  | refine ⟨_, rfl, ?_⟩
  | refine ⟨_, _, _, _, rfl, And.intro (by walk_at "lk") (And.intro rfl ?_)⟩
  | refine ⟨_, _, _, rfl, And.intro (by walk_at "lk") (And.intro (by walk_at "side") ?_)⟩
  | refine ⟨_, _, And.intro rfl (And.intro rfl ?_)⟩
  | refine ⟨_, _, And.intro rfl (And.intro (by walk_at "lk") ?_)⟩
  | refine ⟨_, _, _, And.intro rfl (And.intro (by walk_at "lk") ?_)⟩
  | refine ⟨_, And.intro (by walk_at "lk") (And.intro (by walk_at "side") ?_)⟩
  | refine ⟨_, _, And.intro (by walk_at "lk") (And.intro (by walk_at "side") ?_)⟩
  | refine ⟨_, _, And.intro (by walk_at "seq") (And.intro rfl ?_)⟩
  | refine ⟨_, _, And.intro (by walk_at "seq") (And.intro (by assumption) ?_)⟩
  | refine ⟨_, And.intro (by walk_at "seq") ?_⟩
  | refine ⟨_, And.intro (by walk_at "lk") (And.intro (by walk_at "side") (And.intro (by walk_at "side") (And.intro (by walk_at "side") ?_)))⟩
  | refine .inl ⟨_, _, And.intro (by walk_at "lk") (And.intro (by walk_at "lk") (And.intro (by walk_at "side") ?_))⟩
  | refine .inr ⟨_, _, And.intro (by walk_at "sqt") (And.intro (by walk_at "sqt") (And.intro (by walk_at "side") ?_))⟩
  | refine .inl ⟨_, And.intro (by walk_at "sq") ?_⟩
  | refine .inr ⟨_, And.intro (by walk_at "sqt") ?_⟩
  | refine ⟨_, _, _, _, rfl, rfl, And.intro (by walk_at "lk") (And.intro rfl ?_)⟩
  | refine ⟨_, _, _, _, rfl, rfl, And.intro (by walk_at "lk") (And.intro (by walk_at "key") ?_)⟩
  | refine ⟨_, _, _, rfl, rfl, And.intro (by walk_at "lk") (And.intro (by walk_at "side") ?_)⟩
  | refine fun H' (n : Wr _ _ _ H') => ?_
  | refine fun p H' (n : Nw _ p _ H') => ?_
  | refine fun r H' (n : Tp _ _ r _ H') => ?_
  | refine fun x dx H' (n : Mkd _ _ x dx H') => ?_
  | refine .inl ⟨_, _, rfl, And.intro (by walk_at "sq") (fun p H' (n : Nw _ p _ H') => ?_)⟩
  | refine .inr ⟨_, _, rfl, And.intro (by walk_at "sqt") (fun r H' (n : Tp _ _ r _ H') => ?_)⟩
  | refine ⟨_, _, rfl, And.intro (by walk_at "sq") (fun p H' (n : Nw _ p _ H') => ?_)⟩
  | refine .inl (And.intro ⟨_, by walk_at "sq"⟩ ?_)
  | refine .inr (And.intro ⟨_, by walk_at "sqt"⟩ ?_)
  | refine ⟨_, _, rfl, And.intro (by walk_at "sqt") (And.intro rfl ?_)⟩
  | refine ⟨_, _, And.intro rfl ?_⟩
  | refine ⟨_, _, _, And.intro rfl ?_⟩
  | refine And.intro rfl ?_
  | (refine ite_t ?_ ?_; exact rfl)
  | (refine ite_f ?_ ?_; exact rfl)
  | refine And.intro (by walk_at "side") ?_)
local macro_rules | `(tactic| walk_at "side") => `(tactic| first
  | exact (rfl : _ = _)
  | decide
  | exact lt1000 rfl
  | with_reducible assumption
  | exact ⟨by omega, by omega⟩
  | exact .inl ⟨by omega, by omega⟩
  | exact .inr ⟨by omega, by omega⟩
  | omega
  | (apply le_line; omega)
  | (apply lt_line; omega)
  | (apply le_line; simp <;> omega)
  | (apply lt_line; simp <;> omega)
  | fail)
local macro_rules | `(tactic| walk_at "if") => `(tactic| first
  | refine ite_nd ?_ ?_
  | refine ite_d ?_ ?_
  | refine ite_eqt ?_ ?_
  | fail)
local macro_rules | `(tactic| walk_at "roll") => `(tactic| first
  | (refine And.intro (show Dice _ _ from ⟨_, _, _, by walk_at "lk"⟩) (And.intro (by walk_at "side") (And.intro (by walk_at "side") (fun r H' r0 r1 ro => ?_))); obtain ⟨a', b', c', w⟩ := ro)
  | fail)
local macro_rules | `(tactic| walk_at "run") => `(tactic| (walk_at "go"; repeat (walk_at "roll"; walk_at "go")))
local macro_rules | `(tactic| walk_at "dp") => `(tactic| first
  | exact Dp.non
  | exact Dp.int _
  | exact Dp.str _
  | exact Dp.bl _
  | exact DpAll.nil
  | exact DpAll.cons (by walk_at "dp") (by walk_at "dp")
  | exact Dp.tup (by walk_at "sqt") (by walk_at "dp")
  | exact Dp.lst (by walk_at "sq") (by walk_at "dp")
  | fail)
local macro_rules | `(tactic| walk_at "key") => `(tactic| first
  | assumption
  | fail)

section
variable {w : World} {K : PySem.W.Frag} {mg : Str → Option Value} {base : Heap}
theorem tl_law_0_8 (T : Env w K mg base) {A : Around} {outer : List PySem.Env} {s : Shared} {H : Hp} {E : XK} (hr : Room 103 (A.deeper (PyProof.Rows.envOfC "law" (defScope s_law) s.heap.objs.size T.f_law (.ref T.c_law)))) : ∃ t, PSs (cxOf (L2.CX prg w) prg w K mg base N_law "law" (defScope s_law) T.f_law (.ref T.c_law) A outer s H E) ((forBody ((defBody s_law).getD 0 (.Pass ⟨0, 0, 0, 0⟩))).drop 8) t ∧ ∀ (D : Ends) (σ : L2.St) (G : Hp), pre_law_0_8 T H D σ G → t D σ G := by
  obtain ⟨t9, P9, R9⟩ := tl_law_0_10 T (outer := outer) (s := s) (H := H) (E := E) hr
  refine ⟨_, (pss_cons (ps_setLc (i := 18) (own := [("k", 3)]) rfl sc_law.nd rfl rfl (sw_true rfl rfl rfl (by decide +kernel)) (pi_range2 rfl T.no_range (pa_cons (pv 15) (pa_cons (pv 5) pa_nil))) (blkOk_by (own := [("k", 3)]) (N := N_law) (sc := defScope s_law) (by decide +kernel)) (fun _ _ _ _ _ => (pg_name (i := 3) sc_law.nd rfl (Or.inl rfl))) (fun _ _ _ _ _ => (pts_one (pt_cmpR Y.op_ge (pe_callB (Y.cr_sumK (K := K) rfl rfl) (by rfl) T.no_sum (by decide +kernel) (pa_cons (pe_slice (Y.slK (K := K) rfl) (pv 2) (po_some (pv 15)) (po_some (pe_op (Y.op_addK (K := K) rfl) (pv 3) pe_int))) pa_nil)) (pv 16) (nomark _)))) (fun _ _ _ _ _ => (pv 3)))
  (pss_cons (ps_if (PW.pt (pw_or (pt_cmpR (Y.op_neK (K := K) rfl hr.units) (Y.pe_toD (k := 96) T.F__law_told T.mg__law_told T.b__law_told sc__law_told T.mg_SegmentError (hr.mono (by decide)) (Y.pe_lamG (k := 96) T.tb_law rfl T.tm_law T.tu_law rfl ⟨lamS_by (show lamSB (defScope s_law) _ = true by decide +kernel), fun _ _ _ _ _ => rfl, fun A outer s H E f c' hr => (pe_meth (pv 4) T.cl_Segments T.me_Segments_reach_from (ok_Segments_reach_from T) (hr.mono (by decide)) T.b_Segments_reach_from .nil (Y.passD rfl rfl rfl rfl) (pa_cons (pv 15) (pa_cons (pv 16) pa_nil)))⟩) rfl rfl (Or.inl rfl) rfl (fun _ => rfl) rfl) (pe_ifExp (pt_cmpR Y.op_lt (pe_callB (Y.cr_minK (K := K) rfl rfl) (by rfl) T.no_min (by decide +kernel) (pa_cons (pe_slice (Y.slK (K := K) rfl) (pv 2) (po_some (pv 15)) po_none) pa_nil)) pe_int (nomark _)) pe_str (pe_ifExp (pt_cmpR (Y.op_neK (K := K) rfl hr.units) (pv 18) (Y.pe_ls pa_nil) (nomark _)) (pe_ix (Y.ixK (K := K) rfl) (pv 18) pe_int (fun _ _ => rfl)) pe_non)) (nomark _)) (pw_or1 (pt_cmpR (Y.op_neK (K := K) rfl hr.units) (pe_callTy (Y.listK (K := K) rfl) (by rfl) T.no_list (by decide +kernel) (pa_cons (pe_meth (pv 4) T.cl_Segments T.me_Segments_nodes_for (ok_Segments_nodes_for T) (hr.mono (by decide)) T.b_Segments_nodes_for .nil (Y.passD rfl rfl rfl rfl) (pa_cons (pv 7) (pa_cons (pv 8) pa_nil))) pa_nil)) (pe_call (ok__law_nodes T 6) (hr.mono (by decide)) rfl T.mg__law_nodes T.F__law_nodes.kp T.b__law_nodes .nil (Y.passD rfl rfl rfl rfl) (pa_cons pe_int (pa_cons (pv 5) (pa_cons (pv 7) (pa_cons (pv 8) pa_nil))))) (nomark _))))) (pss_one (ps_ret pe_bl)) pss_nil)
  P9)), ?_⟩
  intro D σ G h
  unfold pre_law_0_8 at h
  obtain ⟨B, d, t, dn, ol, own, s, f, b, v, g, y14, y17, y18, y19, ⟨x0, x6, x10, x11, x13, x20, x22, x23, rfl⟩, sl, s0, s1, f0, fb, bn, g1, hD⟩ := h
  have l2 := sl.l2
  have ow := sl.ow
  refine join2 (fun σ G' => ∃ rl, σ = [x0, some (.ref d), some (.ref ol), none, some (.ref t), some (.int own.length), x6, some (.int f), some (.int b), some (.int v), x10, x11, none, x13, y14, some (.int s), some (.int g), y17, some (.ref rl), y19, x20, none, x22, x23] ∧ SL T B G' d t dn ol own own ∧ G' rl = some (.lst ((reachL own s g (own.length - s).toNat).map V.int))) ?_ ?_
  · rintro σ G1 ⟨rl, rfl, sl, hr⟩
    refine tIf_restH (fun G' => SL T B G' d t dn ol own own) (fun G' sl1 => ?_) (fun N hN => ?_)
    · walk_at "go"
      exact R9 _ _ _ ⟨B, d, t, dn, ol, own, s, f, b, v, g, _, _, _, _, ⟨_, _, _, _, _, _, _, _, rfl⟩, sl1, s0, s1, f0, fb, bn, g1, hD⟩
    show tOr _ _ _ _ _
    refine tOr_f (fun G' => SL T B G' d t dn ol own own) (fun G1 sl1 => ?_) (fun N1 hN => ?_)
    · obtain ⟨dxt, ot⟩ := sl1.sa.ob
      walk_at "go"
      first
      | refine ⟨dn, _, sl1.sa, fun z => absurd ⟨f0, fb, bn⟩ z, fun _ _ _ p G2 rs c2 fp hp ra => ?_⟩
      | refine fun _ _ _ p G2 rs c2 fp hp ra => ?_
      have l6 : (own.length : Int) - 0 ≤ lim 6 := by have : lim 6 = 32 := rfl; omega
      have nl := nodesL_len fb 6 0 own.length (by omega) (by have : lim 6 = 32 := rfl; omega)
      have rl9 : rs.length ≤ 32 := by have := ra.len; rw [List.length_map] at this; omega
      have zz : rs.length ≤ sizeLine := le_line (by omega)
      have sl2 := sl1.idle c2
      walk_at "go"
      rename_i l1 G3 n3
      first
      | refine fun l2 G4 rs2 c4 f4 h4 ra2 => ?_
      | refine ⟨l6, fun l2 G4 rs2 c4 f4 h4 ra2 => ?_⟩
      | refine ⟨l6, by omega, fun l2 G4 rs2 c4 f4 h4 ra2 => ?_⟩
      walk_at "go"
      refine veq_rows (.of (by walk_at "lk")) (.of h4) (ra.keepN (T := T.tabs) (by walk_at "chg")) ra2 (prV_flat _) (prV_flat _) (p := True) (by simp) ?_
      walk_at "go"
      exact hN _ (sl2.idle (by walk_at "chg"))
    · obtain ⟨dxt, ot⟩ := sl.sa.ob
      have ow := sl.ow
      walk_at "go"
      refine ⟨sl.tabs, fun fl G3 g3 nf L => ?_⟩
      have sl3 := sl.idle (.ofGrows g3)
      have hr3 : G3 rl = some (.lst ((reachL own s g (own.length - s).toNat).map V.int)) := by walk_at "lk"
      obtain ⟨dxu, ou⟩ := sl3.sa.ob
      refine ⟨fl, _, rfl, L, ?_⟩
      have sp : 0 < (Z.sub own s own.length).length := by rw [sub_len s0 (by omega) (Int.le_refl _)]; omega
      walk_at "go"
      refine ⟨dn, _, sl3.sa, sl3.tabs, fun z => absurd ⟨s0, s1⟩ z, fun _ _ z => absurd z (by omega), fun _ _ _ G4 c4 sa4 => ⟨fun hneg => err_to T.ex_SegmentError ?_, fun pos => ⟨fun hs => ?_, fun k k0 k1 k2 k3 => ?_⟩⟩⟩
      · have sl4 := sl3.seg c4 sa4 rfl
        have ow4 := sl4.ow
        walk_at "go"
        rename_i l5 G5 n5
        rw [cut_sub2 s0] at n5
        refine ⟨l5, Z.sub own s own.length, rfl, .of n5.at, sp, fun m ma mb => ?_⟩
        walk_at "go"
        walk_at "if"
        · intro cm
          walk_at "go"
          exact hN _ (sl4.idle n5.chg)
        · intro cm
          obtain ⟨y, hy, yn⟩ := hneg
          have := mb y hy
          exact absurd (show m < 0 by omega) cm
      · have sl4 := sl3.seg c4 sa4 rfl
        have ow4 := sl4.ow
        have hr4 : G4 rl = some (.lst ((reachL own s g (own.length - s).toNat).map V.int)) := Wp.keepO sl3.sa c4 hr3 rfl
        have en := reach_nil s0 (Int.le_of_lt s1) pos hs
        walk_at "go"
        rename_i l5 G5 n5
        rw [cut_sub2 s0] at n5
        refine ⟨l5, Z.sub own s own.length, rfl, .of n5.at, sp, fun m ma mb => ?_⟩
        walk_at "go"
        walk_at "if"
        · intro cm
          have cm' : m < 0 := cm
          have := pos m ma
          omega
        · intro cm
          walk_at "go"
          rename_i l6 G6 n6
          refine veq_ll (.of (by walk_at "lk")) (.of n6.at) ints_flat (by simp) (p := True) (by rw [en]; simp) ?_
          walk_at "go"
          exact hN _ ((sl4.idle n5.chg).idle n6.chg)
      · have sl4 := sl3.seg c4 sa4 rfl
        have ow4 := sl4.ow
        have hr4 : G4 rl = some (.lst ((reachL own s g (own.length - s).toNat).map V.int)) := Wp.keepO sl3.sa c4 hr3 rfl
        obtain ⟨r, en⟩ := reach_first s0 k0 k1 pos k2 k3
        have hat : atI ((reachL own s g (own.length - s).toNat).map V.int) 0 = some (.int k) := by rw [en, List.map_cons]; exact atI_0
        walk_at "go"
        rename_i l5 G5 n5
        rw [cut_sub2 s0] at n5
        refine ⟨l5, Z.sub own s own.length, rfl, .of n5.at, sp, fun m ma mb => ?_⟩
        walk_at "go"
        walk_at "if"
        · intro cm
          have cm' : m < 0 := cm
          have := pos m ma
          omega
        · intro cm
          walk_at "go"
          rename_i l6 G6 n6
          refine veq_ll (.of (by walk_at "lk")) (.of n6.at) ints_flat (by simp) (p := False) (by rw [en]; simp) ?_
          walk_at "go"
          have e9 := hN _ ((sl4.idle n5.chg).idle n6.chg)
          simpa using e9
  · intro N1 hN1
    walk_at "go"
    intro D0 hD0
    refine lcr (fun i H' => Chg T.tabs nil G H' ∧ H' D0 = some (.lst ((reachL own s g i).map V.int))) hD0 (fun H' n => ⟨n.chg, n.at⟩) ?_ ?_
    · rintro H' ⟨c, hd0⟩
      exact hN1 _ _ ⟨D0, rfl, sl.idle c, hd0⟩
    · rintro k H' hk ⟨c, hd0⟩ Nx Sk hN hS
      have ow3 := (sl.idle c).ow
      have rl9 := reachL_len (own := own) (s := s) (g := g) (n := k)
      walk_at "go"
      rename_i l5 G5 n5
      rw [cut_sub s0 (by omega)] at n5
      refine ⟨l5, Z.sub own s (s + (k : Int) + 1), rfl, .of n5.at, ?_⟩
      walk_at "go"
      walk_at "if"
      · intro cv
        walk_at "go"
        refine hN _ _ _ (by walk_at "lk") (lt_line (by rw [List.length_map]; omega)) fun H3 w3 => ⟨by walk_at "chg", ?_⟩
        rw [w3.at, reachL_snoc, if_pos cv, List.map_append]; rfl
      · intro cv
        refine hS _ ⟨by walk_at "chg", ?_⟩
        rw [reachL_snoc, if_neg cv, List.append_nil]
        walk_at "lk"
end
end Z


set_option Elab.async false
set_option linter.all false
set_option maxRecDepth 100000
set_option maxHeartbeats 4000000
set_option pp.maxSteps 1500
namespace Z
open PySem PySem.Spec L2 LamX Y
local macro_rules | `(tactic| walk_at "lk") => `(tactic| first
  | assumption
  | exact Nw.at (by assumption)
  | exact Wr.at (by assumption)
  | exact Mkd.at (by assumption)
  | exact Nw.look (by assumption) (by walk_at "lk")
  | exact Mkd.look (by assumption) (by walk_at "lk")
  | exact Wr.look (by assumption) (by walk_at "lk") (by walk_at "ne")
  | exact Chg.look (by assumption) (by walk_at "lk") (by walk_at "nin") rfl
  | exact Tp.same (by assumption) _ _ (by walk_at "lk")
  | exact Grows.look (by assumption) (by walk_at "lk") rfl
  | fail)
local macro_rules | `(tactic| walk_at "ne") => `(tactic| first
  | assumption
  | exact Ne.symm (by assumption)
  | exact Nw.ne (by assumption) (by walk_at "lk")
  | exact Ne.symm (Nw.ne (by assumption) (by walk_at "lk"))
  | exact ne_fr (by assumption) (by walk_at "lk")
  | exact Ne.symm (ne_fr (by assumption) (by walk_at "lk"))
  | exact ne_fr (Mkd.nx (by assumption)) (by walk_at "lk")
  | exact Ne.symm (ne_fr (Mkd.nx (by assumption)) (by walk_at "lk"))
  | exact ne_kdn (by assumption) (by walk_at "lk") rfl
  | exact Ne.symm (ne_kdn (by assumption) (by walk_at "lk") rfl)
  | fail)
local macro_rules | `(tactic| walk_at "nin") => `(tactic| first
  | exact nin_nil
  | exact id
  | exact nin_cons (by walk_at "ne") (by walk_at "nin")
  | fail)
local macro_rules | `(tactic| walk_at "fr") => `(tactic| first
  | assumption
  | exact Nw.new (by assumption)
  | exact Mkd.nx (by assumption)
  | exact Nw.dom (by assumption) (by walk_at "fr")
  | exact Wr.dom (by assumption) (by walk_at "fr")
  | exact Mkd.dom (by assumption) (by walk_at "fr")
  | exact Chg.dom (by assumption) _ (by walk_at "fr")
  | exact Tp.dom (by assumption) _ (by walk_at "fr")
  | exact Grows.dom (by assumption) _ (by walk_at "fr")
  | fail)
local macro_rules | `(tactic| walk_at "mem") => `(tactic| first
  | assumption
  | exact List.mem_cons_self
  | (apply List.mem_cons_of_mem; walk_at "mem")
  | fail)
local macro_rules | `(tactic| walk_at "in") => `(tactic| first
  | assumption
  | (apply Or.inl; walk_at "mem")
  | (apply Or.inr; walk_at "fr")
  | fail)
local macro_rules | `(tactic| walk_at "sub") => `(tactic| first
  | exact sub_nil0
  | exact sub_nil
  | exact sub_cons (by walk_at "in") (by walk_at "sub")
  | fail)
local macro_rules | `(tactic| walk_at "chg") => `(tactic| first
  | assumption
  | exact Chg.refl _
  | exact Chg.nw (by assumption) (by walk_at "chg")
  | exact Chg.mkd (by assumption) (by walk_at "chg")
  | exact Chg.tp (by assumption) (by walk_at "chg")
  | exact Chg.gr (by assumption) (by walk_at "chg")
  | exact Chg.wr (by assumption) (by walk_at "chg") (by walk_at "in")
  | exact Chg.ch (by assumption) (by walk_at "chg") (by walk_at "sub")
  | fail)
local macro_rules | `(tactic| walk_at "sq") => `(tactic| first
  | assumption
  | exact SqL.of (by walk_at "lk")
  | exact Chg.seqL (by assumption) (by walk_at "sq") (by walk_at "nin")
  | exact SqL.nw (by assumption) (by walk_at "sq")
  | exact SqL.tp (by assumption) (by walk_at "sq")
  | exact SqL.mkd (by assumption) (by walk_at "sq")
  | exact SqL.wr (by assumption) (by walk_at "sq") (by walk_at "ne")
  | fail)
local macro_rules | `(tactic| walk_at "sqt") => `(tactic| first
  | assumption
  | exact SqT.of (by walk_at "lk")
  | exact Tp.sq (by assumption)
  | exact SqT.nw (by assumption) (by walk_at "sqt")
  | exact SqT.tp (by assumption) (by walk_at "sqt")
  | exact SqT.mkd (by assumption) (by walk_at "sqt")
  | exact SqT.chg (by assumption) (by walk_at "sqt") (by walk_at "nin")
  | fail)
local macro_rules | `(tactic| walk_at "seq") => `(tactic| first
  | assumption
  | exact .inl (by walk_at "sq")
  | exact .inr (by walk_at "sqt")
  | exact SqA.keepN (T := Env.tabs (by assumption)) (by assumption) (by walk_at "chg")
  | fail)
local macro_rules | `(tactic| walk_at "go") => `(tactic| repeat first
  | refine ⟨_, rfl, ?_⟩
  | refine ⟨_, _, _, _, rfl, And.intro (by walk_at "lk") (And.intro rfl ?_)⟩
  | refine ⟨_, _, _, rfl, And.intro (by walk_at "lk") (And.intro (by walk_at "side") ?_)⟩
  | refine ⟨_, _, And.intro rfl (And.intro rfl ?_)⟩
  | refine ⟨_, _, And.intro rfl (And.intro (by walk_at "lk") ?_)⟩
  | refine ⟨_, _, _, And.intro rfl (And.intro (by walk_at "lk") ?_)⟩
  | refine ⟨_, And.intro (by walk_at "lk") (And.intro (by walk_at "side") ?_)⟩
  | refine ⟨_, _, And.intro (by walk_at "lk") (And.intro (by walk_at "side") ?_)⟩
  | refine ⟨_, _, And.intro (by walk_at "seq") (And.intro rfl ?_)⟩
  | refine ⟨_, _, And.intro (by walk_at "seq") (And.intro (by assumption) ?_)⟩
  | refine ⟨_, And.intro (by walk_at "seq") ?_⟩
  | refine ⟨_, And.intro (by walk_at "lk") (And.intro (by walk_at "side") (And.intro (by walk_at "side") (And.intro (by walk_at "side") ?_)))⟩
  | refine .inl ⟨_, _, And.intro (by walk_at "lk") (And.intro (by walk_at "lk") (And.intro (by walk_at "side") ?_))⟩
  | refine .inr ⟨_, _, And.intro (by walk_at "sqt") (And.intro (by walk_at "sqt") (And.intro (by walk_at "side") ?_))⟩
  | refine .inl ⟨_, And.intro (by walk_at "sq") ?_⟩
  | refine .inr ⟨_, And.intro (by walk_at "sqt") ?_⟩
  | refine ⟨_, _, _, _, rfl, rfl, And.intro (by walk_at "lk") (And.intro rfl ?_)⟩
  | refine ⟨_, _, _, _, rfl, rfl, And.intro (by walk_at "lk") (And.intro (by walk_at "key") ?_)⟩
  | refine ⟨_, _, _, rfl, rfl, And.intro (by walk_at "lk") (And.intro (by walk_at "side") ?_)⟩
  | refine fun H' (n : Wr _ _ _ H') => ?_
  | refine fun p H' (n : Nw _ p _ H') => ?_
  | refine fun r H' (n : Tp _ _ r _ H') => ?_
  | refine fun x dx H' (n : Mkd _ _ x dx H') => ?_
  | refine .inl ⟨_, _, rfl, And.intro (by walk_at "sq") (fun p H' (n : Nw _ p _ H') => ?_)⟩
  | refine .inr ⟨_, _, rfl, And.intro (by walk_at "sqt") (fun r H' (n : Tp _ _ r _ H') => ?_)⟩
  | refine ⟨_, _, rfl, And.intro (by walk_at "sq") (fun p H' (n : Nw _ p _ H') => ?_)⟩
  | refine .inl (And.intro ⟨_, by walk_at "sq"⟩ ?_)
  | refine .inr (And.intro ⟨_, by walk_at "sqt"⟩ ?_)
  | refine ⟨_, _, rfl, And.intro (by walk_at "sqt") (And.intro rfl ?_)⟩
  | refine ⟨_, _, And.intro rfl ?_⟩
  | refine ⟨_, _, _, And.intro rfl ?_⟩
  | refine And.intro rfl ?_
  | (refine ite_t ?_ ?_; exact rfl)
  | (refine ite_f ?_ ?_; exact rfl)
  | refine And.intro (by walk_at "side") ?_)
local macro_rules | `(tactic| walk_at "side") => `(tactic| first
  | exact (rfl : _ = _)
  | decide
  | exact lt1000 rfl
  | with_reducible assumption
  | exact ⟨by omega, by omega⟩
  | exact .inl ⟨by omega, by omega⟩
  | exact .inr ⟨by omega, by omega⟩
  | omega
  | (apply le_line; omega)
  | (apply lt_line; omega)
  | (apply le_line; simp <;> omega)
  | (apply lt_line; simp <;> omega)
  | fail)
local macro_rules | `(tactic| walk_at "if") => `(tactic| first
  | refine ite_nd ?_ ?_
  | refine ite_d ?_ ?_
  | refine ite_eqt ?_ ?_
  | fail)
local macro_rules | `(tactic| walk_at "roll") => `(tactic| first
  | (refine And.intro (show Dice _ _ from ⟨_, _, _, by walk_at "lk"⟩) (And.intro (by walk_at "side") (And.intro (by walk_at "side") (fun r H' r0 r1 ro => ?_))); obtain ⟨a', b', c', w⟩ := ro)
  | fail)
local macro_rules | `(tactic| walk_at "run") => `(tactic| (walk_at "go"; repeat (walk_at "roll"; walk_at "go")))
local macro_rules | `(tactic| walk_at "dp") => `(tactic| first
  | exact Dp.non
  | exact Dp.int _
  | exact Dp.str _
  | exact Dp.bl _
  | exact DpAll.nil
  | exact DpAll.cons (by walk_at "dp") (by walk_at "dp")
  | exact Dp.tup (by walk_at "sqt") (by walk_at "dp")
  | exact Dp.lst (by walk_at "sq") (by walk_at "dp")
  | fail)
local macro_rules | `(tactic| walk_at "key") => `(tactic| first
  | assumption
  | fail)

section
variable {w : World} {K : PySem.W.Frag} {mg : Str → Option Value} {base : Heap}
theorem tl_law_0_7 (T : Env w K mg base) {A : Around} {outer : List PySem.Env} {s : Shared} {H : Hp} {E : XK} (hr : Room 103 (A.deeper (PyProof.Rows.envOfC "law" (defScope s_law) s.heap.objs.size T.f_law (.ref T.c_law)))) : ∃ t, PSs (cxOf (L2.CX prg w) prg w K mg base N_law "law" (defScope s_law) T.f_law (.ref T.c_law) A outer s H E) ((forBody ((defBody s_law).getD 0 (.Pass ⟨0, 0, 0, 0⟩))).drop 7) t ∧ ∀ (D : Ends) (σ : L2.St) (G : Hp), pre_law_0_7 T H D σ G → t D σ G := by
  obtain ⟨t9, P9, R9⟩ := tl_law_0_8 T (outer := outer) (s := s) (H := H) (E := E) hr
  refine ⟨_, (pss_cons (ps_if (PW.pt (pw_or (pt_cmpR (Y.op_neK (K := K) rfl hr.units) (pe_meth (pv 4) T.cl_Segments T.me_Segments_first_above (ok_Segments_first_above T) (hr.mono (by decide)) T.b_Segments_first_above .nil (Y.passD rfl rfl rfl rfl) (pa_cons (pv 15) (pa_cons (pv 9) pa_nil))) (pe_ifExp (pt_cmpR (Y.op_neK (K := K) rfl hr.units) (pv 17) (Y.pe_ls pa_nil) (nomark _)) (pe_ix (Y.ixK (K := K) rfl) (pv 17) pe_int (fun _ _ => rfl)) pe_non) (nomark _)) (pw_or (pt_cmpR (Y.op_neK (K := K) rfl hr.units) (pe_callTy (Y.listK (K := K) rfl) (by rfl) T.no_list (by decide +kernel) (pa_cons (pe_meth (pv 4) T.cl_Segments T.me_Segments_places_of (ok_Segments_places_of T) (hr.mono (by decide)) T.b_Segments_places_of .nil (Y.passD rfl rfl rfl rfl) (pa_cons (pv 7) (pa_cons (pv 8) (pa_cons pe_bl pa_nil)))) pa_nil)) (pe_lc (own := [("k", 3)]) rfl sc_law.nd (pi_range2 rfl T.no_range (pa_cons (pv 7) (pa_cons (pv 8) pa_nil))) (blkOk_by (own := [("k", 3)]) (N := N_law) (sc := defScope s_law) (by decide +kernel)) (fun _ _ _ _ _ => (pg_name (i := 3) sc_law.nd rfl (Or.inl rfl))) (fun _ _ _ _ _ => (pts_one (pt_cmpR (Y.op_eqK (K := K) rfl hr.units) (pe_ix (Y.ixK (K := K) rfl) (pv 2) (pv 3) (fun _ _ => rfl)) (pe_callB (Y.cr_minK (K := K) rfl rfl) (by rfl) T.no_min (by decide +kernel) (pa_cons (pv 14) pa_nil)) (nomark _)))) (fun _ _ _ _ _ => (pv 3))) (nomark _)) (pw_or1 (pt_cmpR (Y.op_neK (K := K) rfl hr.units) (pe_callTy (Y.listK (K := K) rfl) (by rfl) T.no_list (by decide +kernel) (pa_cons (pe_meth (pv 4) T.cl_Segments T.me_Segments_places_of (ok_Segments_places_of T) (hr.mono (by decide)) T.b_Segments_places_of .nil (Y.passD rfl rfl rfl rfl) (pa_cons (pv 7) (pa_cons (pv 8) (pa_cons pe_bl pa_nil)))) pa_nil)) (pe_lc (own := [("k", 3)]) rfl sc_law.nd (pi_range2 rfl T.no_range (pa_cons (pv 7) (pa_cons (pv 8) pa_nil))) (blkOk_by (own := [("k", 3)]) (N := N_law) (sc := defScope s_law) (by decide +kernel)) (fun _ _ _ _ _ => (pg_name (i := 3) sc_law.nd rfl (Or.inl rfl))) (fun _ _ _ _ _ => (pts_one (pt_cmpR (Y.op_eqK (K := K) rfl hr.units) (pe_ix (Y.ixK (K := K) rfl) (pv 2) (pv 3) (fun _ _ => rfl)) (pe_callB (Y.cr_maxK (K := K) rfl rfl) (by rfl) T.no_max (by decide +kernel) (pa_cons (pv 14) pa_nil)) (nomark _)))) (fun _ _ _ _ _ => (pv 3))) (nomark _)))))) (pss_one (ps_ret pe_bl)) pss_nil)
  P9), ?_⟩
  intro D σ G h
  unfold pre_law_0_7 at h
  obtain ⟨B, d, t, dn, ol, own, s, f, b, v, g, pl, al, y18, y19, ⟨⟨x0, x6, x10, x11, x13, x20, x22, x23, rfl⟩, sl, s0, s1, f0, fb, bn, g1, hD⟩, hp, ha⟩ := h
  have l2 := sl.l2
  obtain ⟨dxt, ot⟩ := sl.sa.ob
  have la : (aboveL own s v).length ≤ 32 := by
    have := hitL_len (p := fun y => decide (v < y)) (Z.sub own s own.length) s
    rw [sub_len s0 (by omega) (Int.le_refl _)] at this
    unfold aboveL; omega
  refine tIf_restH (fun G' => SL T B G' d t dn ol own own ∧ G' pl = some (.lst ((Z.sub own f b).map V.int)) ∧ G' al = some (.lst ((aboveL own s v).map V.int))) (fun G' hq => ?_) (fun N hN => ?_)
  · obtain ⟨sl1, -⟩ := hq
    walk_at "go"
    exact R9 _ _ _ ⟨B, d, t, dn, ol, own, s, f, b, v, g, _, _, _, _, ⟨_, _, _, _, _, _, _, _, rfl⟩, sl1, s0, s1, f0, fb, bn, g1, hD⟩
  show tOr _ _ _ _ _
  refine tOr_f (fun G' => SL T B G' d t dn ol own own ∧ G' pl = some (.lst ((Z.sub own f b).map V.int)) ∧ G' al = some (.lst ((aboveL own s v).map V.int))) (fun G1 hq => ?_) (fun N1 hN => ?_)
  · obtain ⟨sl1, hp1, ha1⟩ := hq
    obtain ⟨dxt, ot⟩ := sl1.sa.ob
    refine tOr_f (fun G' => SL T B G' d t dn ol own own ∧ G' pl = some (.lst ((Z.sub own f b).map V.int)) ∧ G' al = some (.lst ((aboveL own s v).map V.int))) (fun G1 hq => ?_) (fun N1 hN => ?_)
    · clear hp1 ha1 ot dxt sl1
      obtain ⟨sl1, hp1, ha1⟩ := hq
      obtain ⟨dxt, ot⟩ := sl1.sa.ob
      walk_at "go"
      have ow := sl1.ow
      first
      | refine ⟨dn, _, sl1.sa, sl1.tabs, fun z => absurd ⟨f0, fb, bn⟩ z, fun _ _ _ p G2 m c2 sa2 hm hx fp hp' => ?_⟩
      | refine fun _ _ _ p G2 m c2 sa2 hm hx fp hp' => ?_
      have sl2 := sl1.seg c2 sa2 rfl
      have hp2 : G2 pl = some (.lst ((Z.sub own f b).map V.int)) := Wp.keepO sl1.sa c2 hp1 rfl
      have ha2 : G2 al = some (.lst ((aboveL own s v).map V.int)) := Wp.keepO sl1.sa c2 ha1 rfl
      have lp := plc_len (m := m) (Z.sub own f b) f
      have sl9 := sub_len (xs := own) f0 (Int.le_of_lt fb) bn
      have zz : ((plc m f (Z.sub own f b)).map V.int).length ≤ sizeLine := le_line (by rw [List.length_map]; omega)
      have sp : 0 < (Z.sub own f b).length := by omega
      have mm : IsMax m (Z.sub own f b) := hx rfl
      walk_at "go"
      rename_i l1 G3 n3
      intro D0 hD0
      refine lcr (fun i H' => Chg T.tabs nil G3 H' ∧ H' D0 = some (.lst ((plc m f ((Z.sub own f b).take i)).map V.int))) hD0 (fun H' n => ⟨n.chg, n.at⟩) ?_ ?_
      · rintro H' ⟨c, hd0⟩
        have sl3 := (sl2.idle n3.chg).idle c
        rw [← sl9, List.take_length] at hd0
        walk_at "go"
        refine veq_ll (.of (by walk_at "lk")) (.of hd0) ints_flat ints_flat (p := True) (by simp) ?_
        walk_at "go"
        exact hN _ ⟨sl3, by walk_at "lk", by walk_at "lk"⟩
      · rintro k H' hk ⟨c, hd0⟩ Nx Sk hNx hSk
        have hk' : (f + (k : Int)).toNat < own.length := by omega
        have hat : atI (own.map V.int) (f + (k : Int)) = some (.int own[(f + (k : Int)).toNat]) := by
          rw [atI_nat (by omega) (by rw [List.length_map]; omega), List.getElem?_map, List.getElem?_eq_getElem hk']; rfl
        have gk : (Z.sub own f b)[k]? = some own[(f + (k : Int)).toNat] := by
          rw [sub_get f0 (by omega) bn]
          have e : f.toNat + k = (f + (k : Int)).toNat := by omega
          rw [e]; exact List.getElem?_eq_getElem hk'
        have tk : (Z.sub own f b).take (k + 1) = (Z.sub own f b).take k ++ [own[(f + (k : Int)).toNat]] := by rw [List.take_add_one, gk]; rfl
        have lk : ((Z.sub own f b).take k).length = k := by rw [List.length_take]; omega
        have ow3 := ((sl2.idle n3.chg).idle c).ow
        have pl3 : H' pl = some (.lst ((Z.sub own f b).map V.int)) := by walk_at "lk"
        walk_at "go"
        refine ⟨pl, Z.sub own f b, rfl, .of pl3, sp, fun m' ma mb => ?_⟩
        obtain rfl : m = m' := Int.le_antisymm (mb _ mm.1) (mm.2 _ ma)
        walk_at "go"
        walk_at "if"
        · intro cv
          walk_at "go"
          refine hNx _ _ _ hd0 ?_ fun H3 w3 => ⟨by walk_at "chg", ?_⟩
          · have := plc_len (m := m) ((Z.sub own f b).take k) f
            exact lt_line (by rw [List.length_map]; omega)
          · have e9 : own[(f + (k : Int)).toNat] = m := cv
            rw [w3.at, tk, plc_snoc, if_pos e9, lk, List.map_append]
            rfl
        · intro cv
          refine hSk _ ⟨c, ?_⟩
          have e9 : ¬ own[(f + (k : Int)).toNat] = m := cv
          rw [tk, plc_snoc, if_neg e9, List.append_nil]
          exact hd0
    · skip
      walk_at "go"
      have ow := sl1.ow
      first
      | refine ⟨dn, _, sl1.sa, sl1.tabs, fun z => absurd ⟨f0, fb, bn⟩ z, fun _ _ _ p G2 m c2 sa2 hm hx fp hp' => ?_⟩
      | refine fun _ _ _ p G2 m c2 sa2 hm hx fp hp' => ?_
      have sl2 := sl1.seg c2 sa2 rfl
      have hp2 : G2 pl = some (.lst ((Z.sub own f b).map V.int)) := Wp.keepO sl1.sa c2 hp1 rfl
      have ha2 : G2 al = some (.lst ((aboveL own s v).map V.int)) := Wp.keepO sl1.sa c2 ha1 rfl
      have lp := plc_len (m := m) (Z.sub own f b) f
      have sl9 := sub_len (xs := own) f0 (Int.le_of_lt fb) bn
      have zz : ((plc m f (Z.sub own f b)).map V.int).length ≤ sizeLine := le_line (by rw [List.length_map]; omega)
      have sp : 0 < (Z.sub own f b).length := by omega
      have mm : IsMin m (Z.sub own f b) := hm rfl
      walk_at "go"
      rename_i l1 G3 n3
      intro D0 hD0
      refine lcr (fun i H' => Chg T.tabs nil G3 H' ∧ H' D0 = some (.lst ((plc m f ((Z.sub own f b).take i)).map V.int))) hD0 (fun H' n => ⟨n.chg, n.at⟩) ?_ ?_
      · rintro H' ⟨c, hd0⟩
        have sl3 := (sl2.idle n3.chg).idle c
        rw [← sl9, List.take_length] at hd0
        walk_at "go"
        refine veq_ll (.of (by walk_at "lk")) (.of hd0) ints_flat ints_flat (p := True) (by simp) ?_
        walk_at "go"
        exact hN _ ⟨sl3, by walk_at "lk", by walk_at "lk"⟩
      · rintro k H' hk ⟨c, hd0⟩ Nx Sk hNx hSk
        have hk' : (f + (k : Int)).toNat < own.length := by omega
        have hat : atI (own.map V.int) (f + (k : Int)) = some (.int own[(f + (k : Int)).toNat]) := by
          rw [atI_nat (by omega) (by rw [List.length_map]; omega), List.getElem?_map, List.getElem?_eq_getElem hk']; rfl
        have gk : (Z.sub own f b)[k]? = some own[(f + (k : Int)).toNat] := by
          rw [sub_get f0 (by omega) bn]
          have e : f.toNat + k = (f + (k : Int)).toNat := by omega
          rw [e]; exact List.getElem?_eq_getElem hk'
        have tk : (Z.sub own f b).take (k + 1) = (Z.sub own f b).take k ++ [own[(f + (k : Int)).toNat]] := by rw [List.take_add_one, gk]; rfl
        have lk : ((Z.sub own f b).take k).length = k := by rw [List.length_take]; omega
        have ow3 := ((sl2.idle n3.chg).idle c).ow
        have pl3 : H' pl = some (.lst ((Z.sub own f b).map V.int)) := by walk_at "lk"
        walk_at "go"
        refine ⟨pl, Z.sub own f b, rfl, .of pl3, sp, fun m' ma mb => ?_⟩
        obtain rfl : m = m' := Int.le_antisymm (mm.2 _ ma) (mb _ mm.1)
        walk_at "go"
        walk_at "if"
        · intro cv
          walk_at "go"
          refine hNx _ _ _ hd0 ?_ fun H3 w3 => ⟨by walk_at "chg", ?_⟩
          · have := plc_len (m := m) ((Z.sub own f b).take k) f
            exact lt_line (by rw [List.length_map]; omega)
          · have e9 : own[(f + (k : Int)).toNat] = m := cv
            rw [w3.at, tk, plc_snoc, if_pos e9, lk, List.map_append]
            rfl
        · intro cv
          refine hSk _ ⟨c, ?_⟩
          have e9 : ¬ own[(f + (k : Int)).toNat] = m := cv
          rw [tk, plc_snoc, if_neg e9, List.append_nil]
          exact hd0
  · walk_at "go"
    refine ⟨dn, _, sl.sa, sl.tabs, fun z => absurd ⟨s0, s1⟩ z, fun _ _ G1 c1 sa1 => ⟨fun hall => ?_, fun k k0 k1 k2 k3 => ?_⟩⟩
    · have sl1 := sl.seg c1 sa1 rfl
      have hp1 : G1 pl = some (.lst ((Z.sub own f b).map V.int)) := Wp.keepO sl.sa c1 hp rfl
      have ha1 : G1 al = some (.lst ((aboveL own s v).map V.int)) := Wp.keepO sl.sa c1 ha rfl
      have en : aboveL own s v = [] := hitL_nil _ _ fun y hy => decide_eq_false (by have := hall y hy; omega)
      walk_at "go"
      rename_i l1 G3 n3
      refine veq_ll (.of (by walk_at "lk")) (.of n3.at) ints_flat (by simp) (p := True) (by rw [en]; simp) ?_
      walk_at "go"
      exact hN _ ⟨sl1.idle n3.chg, by walk_at "lk", by walk_at "lk"⟩
    · have sl1 := sl.seg c1 sa1 rfl
      have hp1 : G1 pl = some (.lst ((Z.sub own f b).map V.int)) := Wp.keepO sl.sa c1 hp rfl
      have ha1 : G1 al = some (.lst ((aboveL own s v).map V.int)) := Wp.keepO sl.sa c1 ha rfl
      obtain ⟨r, ek⟩ := hitL_first (p := fun y => decide (v < y)) s0 k0 k1 (fun y hy => decide_eq_false (by have := k2 y hy; omega)) (let ⟨y, hy, z⟩ := k3; ⟨y, hy, decide_eq_true z⟩)
      have ek' : aboveL own s v = k :: r := ek
      have hat : atI ((aboveL own s v).map V.int) 0 = some (.int k) := by rw [ek', List.map_cons]; exact atI_0
      walk_at "go"
      rename_i l1 G3 n3
      refine veq_ll (.of (by walk_at "lk")) (.of n3.at) ints_flat (by simp) (p := False) (by rw [ek']; simp) ?_
      walk_at "go"
      have e9 := hN _ ⟨sl1.idle n3.chg, by walk_at "lk", by walk_at "lk"⟩
      simpa using e9
end
end Z


set_option Elab.async false
set_option linter.all false
set_option maxRecDepth 100000
set_option maxHeartbeats 4000000
set_option pp.maxSteps 1500
namespace Z
open PySem PySem.Spec L2 LamX Y
local macro_rules | `(tactic| walk_at "lk") => `(tactic| first
  | assumption
  | exact Nw.at (by assumption)
  | exact Wr.at (by assumption)
  | exact Mkd.at (by assumption)
  | exact Nw.look (by assumption) (by walk_at "lk")
  | exact Mkd.look (by assumption) (by walk_at "lk")
  | exact Wr.look (by assumption) (by walk_at "lk") (by walk_at "ne")
  | exact Chg.look (by assumption) (by walk_at "lk") (by walk_at "nin") rfl
  | exact Tp.same (by assumption) _ _ (by walk_at "lk")
  | exact Grows.look (by assumption) (by walk_at "lk") rfl
  | fail)
local macro_rules | `(tactic| walk_at "ne") => `(tactic| first
  | assumption
  | exact Ne.symm (by assumption)
  | exact Nw.ne (by assumption) (by walk_at "lk")
  | exact Ne.symm (Nw.ne (by assumption) (by walk_at "lk"))
  | exact ne_fr (by assumption) (by walk_at "lk")
  | exact Ne.symm (ne_fr (by assumption) (by walk_at "lk"))
  | exact ne_fr (Mkd.nx (by assumption)) (by walk_at "lk")
  | exact Ne.symm (ne_fr (Mkd.nx (by assumption)) (by walk_at "lk"))
  | exact ne_kdn (by assumption) (by walk_at "lk") rfl
  | exact Ne.symm (ne_kdn (by assumption) (by walk_at "lk") rfl)
  | fail)
local macro_rules | `(tactic| walk_at "nin") => `(tactic| first
  | exact nin_nil
  | exact id
  | exact nin_cons (by walk_at "ne") (by walk_at "nin")
  | fail)
local macro_rules | `(tactic| walk_at "fr") => `(tactic| first
  | assumption
  | exact Nw.new (by assumption)
  | exact Mkd.nx (by assumption)
  | exact Nw.dom (by assumption) (by walk_at "fr")
  | exact Wr.dom (by assumption) (by walk_at "fr")
  | exact Mkd.dom (by assumption) (by walk_at "fr")
  | exact Chg.dom (by assumption) _ (by walk_at "fr")
  | exact Tp.dom (by assumption) _ (by walk_at "fr")
  | exact Grows.dom (by assumption) _ (by walk_at "fr")
  | fail)
local macro_rules | `(tactic| walk_at "mem") => `(tactic| first
  | assumption
  | exact List.mem_cons_self
  | (apply List.mem_cons_of_mem; walk_at "mem")
  | fail)
local macro_rules | `(tactic| walk_at "in") => `(tactic| first
  | assumption
  | (apply Or.inl; walk_at "mem")
  | (apply Or.inr; walk_at "fr")
  | fail)
local macro_rules | `(tactic| walk_at "sub") => `(tactic| first
  | exact sub_nil0
  | exact sub_nil
  | exact sub_cons (by walk_at "in") (by walk_at "sub")
  | fail)
local macro_rules | `(tactic| walk_at "chg") => `(tactic| first
  | assumption
  | exact Chg.refl _
  | exact Chg.nw (by assumption) (by walk_at "chg")
  | exact Chg.mkd (by assumption) (by walk_at "chg")
  | exact Chg.tp (by assumption) (by walk_at "chg")
  | exact Chg.gr (by assumption) (by walk_at "chg")
  | exact Chg.wr (by assumption) (by walk_at "chg") (by walk_at "in")
  | exact Chg.ch (by assumption) (by walk_at "chg") (by walk_at "sub")
  | fail)
local macro_rules | `(tactic| walk_at "sq") => `(tactic| first
  | assumption
  | exact SqL.of (by walk_at "lk")
  | exact Chg.seqL (by assumption) (by walk_at "sq") (by walk_at "nin")
  | exact SqL.nw (by assumption) (by walk_at "sq")
  | exact SqL.tp (by assumption) (by walk_at "sq")
  | exact SqL.mkd (by assumption) (by walk_at "sq")
  | exact SqL.wr (by assumption) (by walk_at "sq") (by walk_at "ne")
  | fail)
local macro_rules | `(tactic| walk_at "sqt") => `(tactic| first
  | assumption
  | exact SqT.of (by walk_at "lk")
  | exact Tp.sq (by assumption)
  | exact SqT.nw (by assumption) (by walk_at "sqt")
  | exact SqT.tp (by assumption) (by walk_at "sqt")
  | exact SqT.mkd (by assumption) (by walk_at "sqt")
  | exact SqT.chg (by assumption) (by walk_at "sqt") (by walk_at "nin")
  | fail)
local macro_rules | `(tactic| walk_at "seq") => `(tactic| first
  | assumption
  | exact .inl (by walk_at "sq")
  | exact .inr (by walk_at "sqt")
  | exact SqA.keepN (T := Env.tabs (by assumption)) (by assumption) (by walk_at "chg")
  | fail)
local macro_rules | `(tactic| walk_at "go") => `(tactic| repeat first
  | refine ⟨_, rfl, ?_⟩
  | refine ⟨_, _, _, _, rfl, And.intro (by walk_at "lk") (And.intro rfl ?_)⟩
  | refine ⟨_, _, _, rfl, And.intro (by walk_at "lk") (And.intro (by walk_at "side") ?_)⟩
  | refine ⟨_, _, And.intro rfl (And.intro rfl ?_)⟩
  | refine ⟨_, _, And.intro rfl (And.intro (by walk_at "lk") ?_)⟩
  | refine ⟨_, _, _, And.intro rfl (And.intro (by walk_at "lk") ?_)⟩
  | refine ⟨_, And.intro (by walk_at "lk") (And.intro (by walk_at "side") ?_)⟩
  | refine ⟨_, _, And.intro (by walk_at "lk") (And.intro (by walk_at "side") ?_)⟩
  | refine ⟨_, _, And.intro (by walk_at "seq") (And.intro rfl ?_)⟩
  | refine ⟨_, _, And.intro (by walk_at "seq") (And.intro (by assumption) ?_)⟩
  | refine ⟨_, And.intro (by walk_at "seq") ?_⟩
  | refine ⟨_, And.intro (by walk_at "lk") (And.intro (by walk_at "side") (And.intro (by walk_at "side") (And.intro (by walk_at "side") ?_)))⟩
  | refine .inl ⟨_, _, And.intro (by walk_at "lk") (And.intro (by walk_at "lk") (And.intro (by walk_at "side") ?_))⟩
  | refine .inr ⟨_, _, And.intro (by walk_at "sqt") (And.intro (by walk_at "sqt") (And.intro (by walk_at "side") ?_))⟩
  | refine .inl ⟨_, And.intro (by walk_at "sq") ?_⟩
  | refine .inr ⟨_, And.intro (by walk_at "sqt") ?_⟩
  | refine ⟨_, _, _, _, rfl, rfl, And.intro (by walk_at "lk") (And.intro rfl ?_)⟩
  | refine ⟨_, _, _, _, rfl, rfl, And.intro (by walk_at "lk") (And.intro (by walk_at "key") ?_)⟩
  | refine ⟨_, _, _, rfl, rfl, And.intro (by walk_at "lk") (And.intro (by walk_at "side") ?_)⟩
  | refine fun H' (n : Wr _ _ _ H') => ?_
  | refine fun p H' (n : Nw _ p _ H') => ?_
  | refine fun r H' (n : Tp _ _ r _ H') => ?_
  | refine fun x dx H' (n : Mkd _ _ x dx H') => ?_
  | refine .inl ⟨_, _, rfl, And.intro (by walk_at "sq") (fun p H' (n : Nw _ p _ H') => ?_)⟩
  | refine .inr ⟨_, _, rfl, And.intro (by walk_at "sqt") (fun r H' (n : Tp _ _ r _ H') => ?_)⟩
  | refine ⟨_, _, rfl, And.intro (by walk_at "sq") (fun p H' (n : Nw _ p _ H') => ?_)⟩
  | refine .inl (And.intro ⟨_, by walk_at "sq"⟩ ?_)
  | refine .inr (And.intro ⟨_, by walk_at "sqt"⟩ ?_)
  | refine ⟨_, _, rfl, And.intro (by walk_at "sqt") (And.intro rfl ?_)⟩
  | refine ⟨_, _, And.intro rfl ?_⟩
  | refine ⟨_, _, _, And.intro rfl ?_⟩
  | refine And.intro rfl ?_
  | (refine ite_t ?_ ?_; exact rfl)
  | (refine ite_f ?_ ?_; exact rfl)
  | refine And.intro (by walk_at "side") ?_)
local macro_rules | `(tactic| walk_at "side") => `(tactic| first
  | exact (rfl : _ = _)
  | decide
  | exact lt1000 rfl
  | with_reducible assumption
  | exact ⟨by omega, by omega⟩
  | exact .inl ⟨by omega, by omega⟩
  | exact .inr ⟨by omega, by omega⟩
  | omega
  | (apply le_line; omega)
  | (apply lt_line; omega)
  | (apply le_line; simp <;> omega)
  | (apply lt_line; simp <;> omega)
  | fail)
local macro_rules | `(tactic| walk_at "if") => `(tactic| first
  | refine ite_nd ?_ ?_
  | refine ite_d ?_ ?_
  | refine ite_eqt ?_ ?_
  | fail)
local macro_rules | `(tactic| walk_at "roll") => `(tactic| first
  | (refine And.intro (show Dice _ _ from ⟨_, _, _, by walk_at "lk"⟩) (And.intro (by walk_at "side") (And.intro (by walk_at "side") (fun r H' r0 r1 ro => ?_))); obtain ⟨a', b', c', w⟩ := ro)
  | fail)
local macro_rules | `(tactic| walk_at "run") => `(tactic| (walk_at "go"; repeat (walk_at "roll"; walk_at "go")))
local macro_rules | `(tactic| walk_at "dp") => `(tactic| first
  | exact Dp.non
  | exact Dp.int _
  | exact Dp.str _
  | exact Dp.bl _
  | exact DpAll.nil
  | exact DpAll.cons (by walk_at "dp") (by walk_at "dp")
  | exact Dp.tup (by walk_at "sqt") (by walk_at "dp")
  | exact Dp.lst (by walk_at "sq") (by walk_at "dp")
  | fail)
local macro_rules | `(tactic| walk_at "key") => `(tactic| first
  | assumption
  | fail)

section
variable {w : World} {K : PySem.W.Frag} {mg : Str → Option Value} {base : Heap}
theorem tl_law_0_3 (T : Env w K mg base) {A : Around} {outer : List PySem.Env} {s : Shared} {H : Hp} {E : XK} (hr : Room 103 (A.deeper (PyProof.Rows.envOfC "law" (defScope s_law) s.heap.objs.size T.f_law (.ref T.c_law)))) : ∃ t, PSs (cxOf (L2.CX prg w) prg w K mg base N_law "law" (defScope s_law) T.f_law (.ref T.c_law) A outer s H E) ((forBody ((defBody s_law).getD 0 (.Pass ⟨0, 0, 0, 0⟩))).drop 3) t ∧ ∀ (D : Ends) (σ : L2.St) (G : Hp), pre_law_0_3 T H D σ G → t D σ G := by
  obtain ⟨t9, P9, R9⟩ := tl_law_0_7 T (outer := outer) (s := s) (H := H) (E := E) hr
  refine ⟨_, (pss_cons (ps_asg (Y.pe_tu (pa_cons (pe_call (ok__law_roll T) (hr.mono (by decide)) rfl T.mg__law_roll T.F__law_roll.kp T.b__law_roll .nil (Y.passD rfl rfl rfl rfl) (pa_cons (pv 1) (pa_cons (pv 5) pa_nil))) (pa_cons (pe_op Y.op_sub (pe_call (ok__law_roll T) (hr.mono (by decide)) rfl T.mg__law_roll T.F__law_roll.kp T.b__law_roll .nil (Y.passD rfl rfl rfl rfl) (pa_cons (pv 1) (pa_cons pe_int pa_nil))) pe_int) (pa_cons (pe_call (ok__law_roll T) (hr.mono (by decide)) rfl T.mg__law_roll T.F__law_roll.kp T.b__law_roll .nil (Y.passD rfl rfl rfl rfl) (pa_cons (pv 1) (pa_cons (pv 5) pa_nil))) pa_nil)))) (Y.pg_tupK (K := K) (n := 3) rfl rfl (pgs_cons (pg_name (i := 15) sc_law.nd rfl (Or.inr rfl)) (pgs_cons (pg_name (i := 9) sc_law.nd rfl (Or.inr rfl)) (pgs_cons (pg_name (i := 7) sc_law.nd rfl (Or.inr rfl)) pgs_nil)))))
  (pss_cons (ps_asg (Y.pe_tu (pa_cons (pe_op (Y.op_addK (K := K) rfl) (pe_op (Y.op_addK (K := K) rfl) (pv 7) pe_int) (pe_call (ok__law_roll T) (hr.mono (by decide)) rfl T.mg__law_roll T.F__law_roll.kp T.b__law_roll .nil (Y.passD rfl rfl rfl rfl) (pa_cons (pv 1) (pa_cons (pe_op Y.op_sub (pv 5) (pv 7)) pa_nil)))) (pa_cons (pe_op (Y.op_addK (K := K) rfl) pe_int (pe_call (ok__law_roll T) (hr.mono (by decide)) rfl T.mg__law_roll T.F__law_roll.kp T.b__law_roll .nil (Y.passD rfl rfl rfl rfl) (pa_cons (pv 1) (pa_cons pe_int pa_nil)))) pa_nil))) (Y.pg_tupK (K := K) (n := 2) rfl rfl (pgs_cons (pg_name (i := 8) sc_law.nd rfl (Or.inr rfl)) (pgs_cons (pg_name (i := 16) sc_law.nd rfl (Or.inr rfl)) pgs_nil))))
  (pss_cons (ps_setLc (i := 17) (own := [("k", 3)]) rfl sc_law.nd rfl rfl (sw_true rfl rfl rfl (by decide +kernel)) (pi_range2 rfl T.no_range (pa_cons (pv 15) (pa_cons (pv 5) pa_nil))) (blkOk_by (own := [("k", 3)]) (N := N_law) (sc := defScope s_law) (by decide +kernel)) (fun _ _ _ _ _ => (pg_name (i := 3) sc_law.nd rfl (Or.inl rfl))) (fun _ _ _ _ _ => (pts_one (pt_cmpR Y.op_gt (pe_ix (Y.ixK (K := K) rfl) (pv 2) (pv 3) (fun _ _ => rfl)) (pv 9) (nomark _)))) (fun _ _ _ _ _ => (pv 3)))
  (pss_cons (ps_set (i := 14) sc_law.nd rfl (Or.inr rfl) (pe_slice (Y.slK (K := K) rfl) (pv 2) (po_some (pv 7)) (po_some (pv 8))))
  P9)))), ?_⟩
  intro D σ G h
  unfold pre_law_0_3 at h
  obtain ⟨B, d, t, dn, ol, own, ⟨x0, x6, x7, x8, x9, x10, x11, x13, x14, x15, x16, x17, x18, x19, x20, x22, x23, rfl⟩, sl, hD⟩ := h
  have l1 := sl.l1
  have l2 := sl.l2
  have ln : (own.map V.int).length = own.length := List.length_map ..
  obtain ⟨a0, a1, a2, hd⟩ := sl.dice
  refine join2 (fun σ G' => ∃ s v f : Int, σ = [x0, some (.ref d), some (.ref ol), none, some (.ref t), some (.int own.length), x6, some (.int f), x8, some (.int v), x10, x11, none, x13, x14, some (.int s), x16, x17, x18, x19, x20, none, x22, x23] ∧ 0 ≤ s ∧ s < own.length ∧ 0 ≤ f ∧ f < own.length ∧ SL T B G' d t dn ol own own) ?_ ?_
  · rintro σ G1 ⟨s, v, f, rfl, s0, s1, f0, f1, sl1⟩
    obtain ⟨c0, c1, c2, hd1⟩ := sl1.dice
    refine join2 (fun σ G' => ∃ b g : Int, σ = [x0, some (.ref d), some (.ref ol), none, some (.ref t), some (.int own.length), x6, some (.int f), some (.int b), some (.int v), x10, x11, none, x13, x14, some (.int s), some (.int g), x17, x18, x19, x20, none, x22, x23] ∧ f < b ∧ b ≤ own.length ∧ 1 ≤ g ∧ SL T B G' d t dn ol own own) ?_ ?_
    · rintro σ G2 ⟨b, g, rfl, b0, b1, g1, sl2⟩
      have ow2 := sl2.ow
      walk_at "go"
      intro D0 hD0
      have sl0 := sub_len (xs := own) s0 (Int.le_of_lt s1) (Int.le_refl _)
      refine lcr (fun i H' => Chg T.tabs nil G2 H' ∧ H' D0 = some (.lst ((hitL (fun y => decide (v < y)) s ((Z.sub own s own.length).take i)).map V.int))) hD0 (fun H' n => ⟨n.chg, n.at⟩) ?_ ?_
      · rintro H' ⟨c, hd0⟩
        have hd0' : H' D0 = some (.lst ((aboveL own s v).map V.int)) := by
          rw [hd0, ← sl0, List.take_length]; rfl
        have sl3 := sl2.idle c
        have ow3 := sl3.ow
        walk_at "go"
        rename_i pl G4 n4
        rw [cut_sub f0 (by omega)] at n4
        exact R9 _ _ _ ⟨B, d, t, dn, ol, own, s, f, b, v, g, pl, D0, _, _, ⟨⟨_, _, _, _, _, _, _, _, rfl⟩, sl3.idle n4.chg, s0, s1, f0, b0, b1, g1, hD⟩, n4.at, by walk_at "lk"⟩
      · rintro k H' hk ⟨c, hd0⟩ Nx Sk hN hS
        have hk' : (s + (k : Int)).toNat < own.length := by omega
        have hat : atI (own.map V.int) (s + (k : Int)) = some (.int own[(s + (k : Int)).toNat]) := by
          rw [atI_nat (by omega) (by rw [List.length_map]; omega), List.getElem?_map, List.getElem?_eq_getElem hk']; rfl
        have gk : (Z.sub own s own.length)[k]? = some own[(s + (k : Int)).toNat] := by
          rw [sub_get s0 (by omega) (Int.le_refl _)]
          have e : s.toNat + k = (s + (k : Int)).toNat := by omega
          rw [e]; exact List.getElem?_eq_getElem hk'
        have tk : (Z.sub own s own.length).take (k + 1) = (Z.sub own s own.length).take k ++ [own[(s + (k : Int)).toNat]] := by rw [List.take_add_one, gk]; rfl
        have lk : ((Z.sub own s own.length).take k).length = k := by rw [List.length_take]; omega
        have ow3 := (sl2.idle c).ow
        walk_at "go"
        walk_at "if"
        · intro cv
          walk_at "go"
          refine hN _ _ _ hd0 ?_ fun H3 w3 => ⟨by walk_at "chg", ?_⟩
          · have := hitL_len (p := fun y => decide (v < y)) ((Z.sub own s own.length).take k) s
            exact lt_line (by rw [List.length_map]; omega)
          · rw [w3.at, tk, hitL_app, lk, List.map_append]
            have : decide (v < own[(s + (k : Int)).toNat]) = true := decide_eq_true cv
            simp only [hitL, this, if_true]
            rfl
        · intro cv
          refine hS _ ⟨c, ?_⟩
          have : decide (v < own[(s + (k : Int)).toNat]) = false := decide_eq_false cv
          rw [tk, hitL_app, lk]
          simp only [hitL, this, Bool.false_eq_true, if_false, List.append_nil]
          exact hd0
    · intro N1 hN1
      have e1 : 1 ≤ (own.length : Int) - f := by omega
      walk_at "run"
      rename_i r1 G2 a0' a1' u0 u1 u2 w1 r2 G3 a2' a3' u3 u4 u5 w2 p G4 n4
      exact hN1 _ _ ⟨f + 1 + r1, 1 + r2, rfl, by omega, by omega, by omega, ((sl1.roll w1).roll w2).idle n4.chg⟩
  · intro N1 hN1
    walk_at "run"
    rename_i s G1 s0 s1 u0 u1 u2 w1 v G2 v0 v1 u3 u4 u5 w2 f G3 f0 f1 u6 u7 u8 w3 p G4 n4
    exact hN1 _ _ ⟨s, v - 10, f, rfl, s0, s1, f0, f1, (((sl.roll w1).roll w2).roll w3).idle n4.chg⟩
end
end Z


set_option Elab.async false
set_option linter.all false
set_option maxRecDepth 100000
set_option maxHeartbeats 4000000
set_option pp.maxSteps 1500
namespace Z
open PySem PySem.Spec L2 LamX Y
local macro_rules | `(tactic| walk_at "lk") => `(tactic| first
  | assumption
  | exact Nw.at (by assumption)
  | exact Wr.at (by assumption)
  | exact Mkd.at (by assumption)
  | exact Nw.look (by assumption) (by walk_at "lk")
  | exact Mkd.look (by assumption) (by walk_at "lk")
  | exact Wr.look (by assumption) (by walk_at "lk") (by walk_at "ne")
  | exact Chg.look (by assumption) (by walk_at "lk") (by walk_at "nin") rfl
  | exact Tp.same (by assumption) _ _ (by walk_at "lk")
  | exact Grows.look (by assumption) (by walk_at "lk") rfl
  | fail)
local macro_rules | `(tactic| walk_at "ne") => `(tactic| first
  | assumption
  | exact Ne.symm (by assumption)
  | exact Nw.ne (by assumption) (by walk_at "lk")
  | exact Ne.symm (Nw.ne (by assumption) (by walk_at "lk"))
  | exact ne_fr (by assumption) (by walk_at "lk")
  | exact Ne.symm (ne_fr (by assumption) (by walk_at "lk"))
  | exact ne_fr (Mkd.nx (by assumption)) (by walk_at "lk")
  | exact Ne.symm (ne_fr (Mkd.nx (by assumption)) (by walk_at "lk"))
  | exact ne_kdn (by assumption) (by walk_at "lk") rfl
  | exact Ne.symm (ne_kdn (by assumption) (by walk_at "lk") rfl)
  | fail)
local macro_rules | `(tactic| walk_at "nin") => `(tactic| first
  | exact nin_nil
  | exact id
  | exact nin_cons (by walk_at "ne") (by walk_at "nin")
  | fail)
local macro_rules | `(tactic| walk_at "fr") => `(tactic| first
  | assumption
  | exact Nw.new (by assumption)
  | exact Mkd.nx (by assumption)
  | exact Nw.dom (by assumption) (by walk_at "fr")
  | exact Wr.dom (by assumption) (by walk_at "fr")
  | exact Mkd.dom (by assumption) (by walk_at "fr")
  | exact Chg.dom (by assumption) _ (by walk_at "fr")
  | exact Tp.dom (by assumption) _ (by walk_at "fr")
  | exact Grows.dom (by assumption) _ (by walk_at "fr")
  | fail)
local macro_rules | `(tactic| walk_at "mem") => `(tactic| first
  | assumption
  | exact List.mem_cons_self
  | (apply List.mem_cons_of_mem; walk_at "mem")
  | fail)
local macro_rules | `(tactic| walk_at "in") => `(tactic| first
  | assumption
  | (apply Or.inl; walk_at "mem")
  | (apply Or.inr; walk_at "fr")
  | fail)
local macro_rules | `(tactic| walk_at "sub") => `(tactic| first
  | exact sub_nil0
  | exact sub_nil
  | exact sub_cons (by walk_at "in") (by walk_at "sub")
  | fail)
local macro_rules | `(tactic| walk_at "chg") => `(tactic| first
  | assumption
  | exact Chg.refl _
  | exact Chg.nw (by assumption) (by walk_at "chg")
  | exact Chg.mkd (by assumption) (by walk_at "chg")
  | exact Chg.tp (by assumption) (by walk_at "chg")
  | exact Chg.gr (by assumption) (by walk_at "chg")
  | exact Chg.wr (by assumption) (by walk_at "chg") (by walk_at "in")
  | exact Chg.ch (by assumption) (by walk_at "chg") (by walk_at "sub")
  | fail)
local macro_rules | `(tactic| walk_at "sq") => `(tactic| first
  | assumption
  | exact SqL.of (by walk_at "lk")
  | exact Chg.seqL (by assumption) (by walk_at "sq") (by walk_at "nin")
  | exact SqL.nw (by assumption) (by walk_at "sq")
  | exact SqL.tp (by assumption) (by walk_at "sq")
  | exact SqL.mkd (by assumption) (by walk_at "sq")
  | exact SqL.wr (by assumption) (by walk_at "sq") (by walk_at "ne")
  | fail)
local macro_rules | `(tactic| walk_at "sqt") => `(tactic| first
  | assumption
  | exact SqT.of (by walk_at "lk")
  | exact Tp.sq (by assumption)
  | exact SqT.nw (by assumption) (by walk_at "sqt")
  | exact SqT.tp (by assumption) (by walk_at "sqt")
  | exact SqT.mkd (by assumption) (by walk_at "sqt")
  | exact SqT.chg (by assumption) (by walk_at "sqt") (by walk_at "nin")
  | fail)
local macro_rules | `(tactic| walk_at "seq") => `(tactic| first
  | assumption
  | exact .inl (by walk_at "sq")
  | exact .inr (by walk_at "sqt")
  | exact SqA.keepN (T := Env.tabs (by assumption)) (by assumption) (by walk_at "chg")
  | fail)
local macro_rules | `(tactic| walk_at "go") => `(tactic| repeat first
  | refine ⟨_, rfl, ?_⟩
  | refine ⟨_, _, _, _, rfl, And.intro (by walk_at "lk") (And.intro rfl ?_)⟩
  | refine ⟨_, _, _, rfl, And.intro (by walk_at "lk") (And.intro (by walk_at "side") ?_)⟩
  | refine ⟨_, _, And.intro rfl (And.intro rfl ?_)⟩
  | refine ⟨_, _, And.intro rfl (And.intro (by walk_at "lk") ?_)⟩
  | refine ⟨_, _, _, And.intro rfl (And.intro (by walk_at "lk") ?_)⟩
  | refine ⟨_, And.intro (by walk_at "lk") (And.intro (by walk_at "side") ?_)⟩
  | refine ⟨_, _, And.intro (by walk_at "lk") (And.intro (by walk_at "side") ?_)⟩
  | refine ⟨_, _, And.intro (by walk_at "seq") (And.intro rfl ?_)⟩
  | refine ⟨_, _, And.intro (by walk_at "seq") (And.intro (by assumption) ?_)⟩
  | refine ⟨_, And.intro (by walk_at "seq") ?_⟩
  | refine ⟨_, And.intro (by walk_at "lk") (And.intro (by walk_at "side") (And.intro (by walk_at "side") (And.intro (by walk_at "side") ?_)))⟩
  | refine .inl ⟨_, _, And.intro (by walk_at "lk") (And.intro (by walk_at "lk") (And.intro (by walk_at "side") ?_))⟩
  | refine .inr ⟨_, _, And.intro (by walk_at "sqt") (And.intro (by walk_at "sqt") (And.intro (by walk_at "side") ?_))⟩
  | refine .inl ⟨_, And.intro (by walk_at "sq") ?_⟩
  | refine .inr ⟨_, And.intro (by walk_at "sqt") ?_⟩
  | refine ⟨_, _, _, _, rfl, rfl, And.intro (by walk_at "lk") (And.intro rfl ?_)⟩
  | refine ⟨_, _, _, _, rfl, rfl, And.intro (by walk_at "lk") (And.intro (by walk_at "key") ?_)⟩
  | refine ⟨_, _, _, rfl, rfl, And.intro (by walk_at "lk") (And.intro (by walk_at "side") ?_)⟩
  | refine fun H' (n : Wr _ _ _ H') => ?_
  | refine fun p H' (n : Nw _ p _ H') => ?_
  | refine fun r H' (n : Tp _ _ r _ H') => ?_
  | refine fun x dx H' (n : Mkd _ _ x dx H') => ?_
  | refine .inl ⟨_, _, rfl, And.intro (by walk_at "sq") (fun p H' (n : Nw _ p _ H') => ?_)⟩
  | refine .inr ⟨_, _, rfl, And.intro (by walk_at "sqt") (fun r H' (n : Tp _ _ r _ H') => ?_)⟩
  | refine ⟨_, _, rfl, And.intro (by walk_at "sq") (fun p H' (n : Nw _ p _ H') => ?_)⟩
  | refine .inl (And.intro ⟨_, by walk_at "sq"⟩ ?_)
  | refine .inr (And.intro ⟨_, by walk_at "sqt"⟩ ?_)
  | refine ⟨_, _, rfl, And.intro (by walk_at "sqt") (And.intro rfl ?_)⟩
  | refine ⟨_, _, And.intro rfl ?_⟩
  | refine ⟨_, _, _, And.intro rfl ?_⟩
  | refine And.intro rfl ?_
  | (refine ite_t ?_ ?_; exact rfl)
  | (refine ite_f ?_ ?_; exact rfl)
  | refine And.intro (by walk_at "side") ?_)
local macro_rules | `(tactic| walk_at "side") => `(tactic| first
  | exact (rfl : _ = _)
  | decide
  | exact lt1000 rfl
  | with_reducible assumption
  | exact ⟨by omega, by omega⟩
  | exact .inl ⟨by omega, by omega⟩
  | exact .inr ⟨by omega, by omega⟩
  | omega
  | (apply le_line; omega)
  | (apply lt_line; omega)
  | (apply le_line; simp <;> omega)
  | (apply lt_line; simp <;> omega)
  | fail)
local macro_rules | `(tactic| walk_at "if") => `(tactic| first
  | refine ite_nd ?_ ?_
  | refine ite_d ?_ ?_
  | refine ite_eqt ?_ ?_
  | fail)
local macro_rules | `(tactic| walk_at "roll") => `(tactic| first
  | (refine And.intro (show Dice _ _ from ⟨_, _, _, by walk_at "lk"⟩) (And.intro (by walk_at "side") (And.intro (by walk_at "side") (fun r H' r0 r1 ro => ?_))); obtain ⟨a', b', c', w⟩ := ro)
  | fail)
local macro_rules | `(tactic| walk_at "run") => `(tactic| (walk_at "go"; repeat (walk_at "roll"; walk_at "go")))
local macro_rules | `(tactic| walk_at "dp") => `(tactic| first
  | exact Dp.non
  | exact Dp.int _
  | exact Dp.str _
  | exact Dp.bl _
  | exact DpAll.nil
  | exact DpAll.cons (by walk_at "dp") (by walk_at "dp")
  | exact Dp.tup (by walk_at "sqt") (by walk_at "dp")
  | exact Dp.lst (by walk_at "sq") (by walk_at "dp")
  | fail)
local macro_rules | `(tactic| walk_at "key") => `(tactic| first
  | assumption
  | fail)

section
variable {w : World} {K : PySem.W.Frag} {mg : Str → Option Value} {base : Heap}
theorem tl_law_0_2 (T : Env w K mg base) {A : Around} {outer : List PySem.Env} {s : Shared} {H : Hp} {E : XK} (hr : Room 103 (A.deeper (PyProof.Rows.envOfC "law" (defScope s_law) s.heap.objs.size T.f_law (.ref T.c_law)))) : ∃ t, PSs (cxOf (L2.CX prg w) prg w K mg base N_law "law" (defScope s_law) T.f_law (.ref T.c_law) A outer s H E) ((forBody ((defBody s_law).getD 0 (.Pass ⟨0, 0, 0, 0⟩))).drop 2) t ∧ ∀ (D : Ends) (σ : L2.St) (G : Hp), pre_law_0_2 T H D σ G → t D σ G := by
  obtain ⟨t9, P9, R9⟩ := tl_law_0_3 T (outer := outer) (s := s) (H := H) (E := E) hr
  refine ⟨_, (pss_cons (ps_for (passes_of rfl) rfl (pi_range1 rfl T.no_range (pa_cons (pe_call (ok__law_roll T) (hr.mono (by decide)) rfl T.mg__law_roll T.F__law_roll.kp T.b__law_roll .nil (Y.passD rfl rfl rfl rfl) (pa_cons (pv 1) (pa_cons pe_int pa_nil))) pa_nil)) (pg_name (i := 6) sc_law.nd rfl (Or.inl rfl)) (pss_cons (ps_asg (Y.pe_tu (pa_cons (pe_call (ok__law_roll T) (hr.mono (by decide)) rfl T.mg__law_roll T.F__law_roll.kp T.b__law_roll .nil (Y.passD rfl rfl rfl rfl) (pa_cons (pv 1) (pa_cons (pe_op (Y.op_addK (K := K) rfl) (pv 5) pe_int) pa_nil))) (pa_cons (pe_call (ok__law_roll T) (hr.mono (by decide)) rfl T.mg__law_roll T.F__law_roll.kp T.b__law_roll .nil (Y.passD rfl rfl rfl rfl) (pa_cons (pv 1) (pa_cons (pe_op (Y.op_addK (K := K) rfl) (pv 5) pe_int) pa_nil))) (pa_cons (pe_op Y.op_sub (pe_call (ok__law_roll T) (hr.mono (by decide)) rfl T.mg__law_roll T.F__law_roll.kp T.b__law_roll .nil (Y.passD rfl rfl rfl rfl) (pa_cons (pv 1) (pa_cons pe_int pa_nil))) pe_int) (pa_cons (pe_call (ok__law_roll T) (hr.mono (by decide)) rfl T.mg__law_roll T.F__law_roll.kp T.b__law_roll .nil (Y.passD rfl rfl rfl rfl) (pa_cons (pv 1) (pa_cons pe_int pa_nil))) pa_nil))))) (Y.pg_tupK (K := K) (n := 4) rfl rfl (pgs_cons (pg_name (i := 7) sc_law.nd rfl (Or.inr rfl)) (pgs_cons (pg_name (i := 8) sc_law.nd rfl (Or.inr rfl)) (pgs_cons (pg_name (i := 9) sc_law.nd rfl (Or.inr rfl)) (pgs_cons (pg_name (i := 10) sc_law.nd rfl (Or.inl rfl)) pgs_nil))))))
  (pss_cons (ps_set (i := 11) sc_law.nd rfl (Or.inr rfl) (pe_chain Y.op_lt Y.op_le (pv 7) (pv 8) (pv 5)))
  (pss_cons (ps_if (pt_cmpR (Y.op_eqK (K := K) rfl hr.units) (pv 10) pe_int (nomark _)) (pss_cons (ps_set (i := 2) sc_law.nd rfl (Or.inr rfl) (pe_lc (own := [("k", 3), ("mine", 12)]) rfl sc_law.nd (Y.pi_enumK (K := K) rfl (by rfl) T.no_enumerate (pa_cons (pv 2) pa_nil)) (blkOk_by (own := [("k", 3), ("mine", 12)]) (N := N_law) (sc := defScope s_law) (by decide +kernel)) (fun _ _ _ _ _ => (Y.pg_tupK (K := K) (n := 2) rfl rfl (pgs_cons (pg_name (i := 3) sc_law.nd rfl (Or.inl rfl)) (pgs_cons (pg_name (i := 12) sc_law.nd rfl (Or.inl rfl)) pgs_nil)))) (fun _ _ _ _ _ => pts_nil) (fun _ _ _ _ _ => (pe_ifExp (PW.pt (pw_and (pt_val (pv 11)) (pw_and1 (pt_chain Y.op_le Y.op_lt (pv 7) (pv 3) (pv 8))))) (pe_op (Y.op_addK (K := K) rfl) (pv 12) (pv 9)) (pv 12)))))
  (pss_one (ps_set (i := 13) sc_law.nd rfl (Or.inl rfl) (pe_cmpR (Y.op_eqK (K := K) rfl hr.units) (pe_cmpR Y.op_isN (Y.pe_toD (k := 96) T.F__law_told T.mg__law_told T.b__law_told sc__law_told T.mg_SegmentError (hr.mono (by decide)) (Y.pe_lamG (k := 96) T.tb_law rfl T.tm_law T.tu_law rfl ⟨lamS_by (show lamSB (defScope s_law) _ = true by decide +kernel), fun _ _ _ _ _ => rfl, fun A outer s H E f c' hr => (pe_meth (pv 4) T.cl_Segments T.me_Segments_add_to (ok_Segments_add_to T) (hr.mono (by decide)) T.b_Segments_add_to .nil (Y.passD rfl rfl rfl rfl) (pa_cons (pv 7) (pa_cons (pv 8) (pa_cons (pv 9) pa_nil))))⟩) rfl rfl (Or.inl rfl) rfl (fun _ => rfl) rfl) pe_non (nomark _)) (pv 11) (nomark _))))) (pss_one (ps_if (pt_cmpR (Y.op_eqK (K := K) rfl hr.units) (pv 10) pe_int (nomark _)) (pss_cons (ps_set (i := 2) sc_law.nd rfl (Or.inr rfl) (pe_lc (own := [("k", 3), ("mine", 12)]) rfl sc_law.nd (Y.pi_enumK (K := K) rfl (by rfl) T.no_enumerate (pa_cons (pv 2) pa_nil)) (blkOk_by (own := [("k", 3), ("mine", 12)]) (N := N_law) (sc := defScope s_law) (by decide +kernel)) (fun _ _ _ _ _ => (Y.pg_tupK (K := K) (n := 2) rfl rfl (pgs_cons (pg_name (i := 3) sc_law.nd rfl (Or.inl rfl)) (pgs_cons (pg_name (i := 12) sc_law.nd rfl (Or.inl rfl)) pgs_nil)))) (fun _ _ _ _ _ => pts_nil) (fun _ _ _ _ _ => (pe_ifExp (PW.pt (pw_and (pt_val (pv 11)) (pw_and1 (pt_chain Y.op_le Y.op_lt (pv 7) (pv 3) (pv 8))))) (pv 9) (pv 12)))))
  (pss_one (ps_set (i := 13) sc_law.nd rfl (Or.inl rfl) (pe_cmpR (Y.op_eqK (K := K) rfl hr.units) (pe_cmpR Y.op_isN (Y.pe_toD (k := 96) T.F__law_told T.mg__law_told T.b__law_told sc__law_told T.mg_SegmentError (hr.mono (by decide)) (Y.pe_lamG (k := 96) T.tb_law rfl T.tm_law T.tu_law rfl ⟨lamS_by (show lamSB (defScope s_law) _ = true by decide +kernel), fun _ _ _ _ _ => rfl, fun A outer s H E f c' hr => (pe_meth (pv 4) T.cl_Segments T.me_Segments_set_to (ok_Segments_set_to T) (hr.mono (by decide)) T.b_Segments_set_to .nil (Y.passD rfl rfl rfl rfl) (pa_cons (pv 7) (pa_cons (pv 8) (pa_cons (pv 9) pa_nil))))⟩) rfl rfl (Or.inl rfl) rfl (fun _ => rfl) rfl) pe_non (nomark _)) (pv 11) (nomark _))))) (pss_cons (ps_set (i := 14) sc_law.nd rfl (Or.inr rfl) (pe_slice (Y.slK (K := K) rfl) (pv 2) (po_some (pv 7)) (po_some (pv 8))))
  (pss_one (ps_set (i := 13) sc_law.nd rfl (Or.inl rfl) (pe_cmpR (Y.op_eqK (K := K) rfl hr.units) (Y.pe_toD (k := 96) T.F__law_told T.mg__law_told T.b__law_told sc__law_told T.mg_SegmentError (hr.mono (by decide)) (Y.pe_lamG (k := 96) T.tb_law rfl T.tm_law T.tu_law rfl ⟨lamS_by (show lamSB (defScope s_law) _ = true by decide +kernel), fun _ _ _ _ _ => rfl, fun A outer s H E f c' hr => (pe_meth (pv 4) T.cl_Segments T.me_Segments_told_in (ok_Segments_told_in T) (hr.mono (by decide)) T.b_Segments_told_in .nil (Y.passD rfl rfl rfl rfl) (pa_cons (pv 7) (pa_cons (pv 8) pa_nil)))⟩) rfl rfl (Or.inl rfl) rfl (fun _ => rfl) rfl) (pe_ifExp (pt_val (pv 11)) (Y.pe_tu (pa_cons (pe_callB (Y.cr_sumK (K := K) rfl rfl) (by rfl) T.no_sum (by decide +kernel) (pa_cons (pv 14) pa_nil)) (pa_cons (pe_callB (Y.cr_minK (K := K) rfl rfl) (by rfl) T.no_min (by decide +kernel) (pa_cons (pv 14) pa_nil)) (pa_cons (pe_callB (Y.cr_maxK (K := K) rfl rfl) (by rfl) T.no_max (by decide +kernel) (pa_cons (pv 14) pa_nil)) pa_nil)))) pe_str) (nomark _))))))))
  (pss_one (ps_if (PW.pt (pw_or (pt_not (pt_val (pv 13))) (pw_or1 (pt_cmpR (Y.op_neK (K := K) rfl hr.units) (pe_callTy (Y.listK (K := K) rfl) (by rfl) T.no_list (by decide +kernel) (pa_cons (pe_meth0 (pv 4) T.cl_Segments T.me_Segments_all_values (ok_Segments_all_values T) (hr.mono (by decide)) T.b_Segments_all_values .nil (Y.passD rfl rfl rfl rfl)) pa_nil)) (pv 2) (nomark _))))) (pss_one (ps_ret pe_bl)) pss_nil))))))
  P9), ?_⟩
  intro D σ G h
  unfold pre_law_0_2 at h
  obtain ⟨B, d, t, dn, ol, own, ⟨x0, x6, x7, x8, x9, x10, x11, x13, x14, x15, x16, x17, x18, x19, x20, x22, x23, rfl⟩, sl, hD⟩ := h
  obtain ⟨a0, a1, a2, hd⟩ := sl.dice
  walk_at "run"
  rename_i m G1 m0 m1 b0 b1 b2 w1
  have sl := sl.roll w1
  refine for_range (fun i σ G => ∃ ol own, Sh2 d ol t own.length σ ∧ SL T B G d t dn ol own own) ⟨ol, own, ⟨_, _, _, _, _, _, _, _, _, _, _, _, _, _, _, _, _, rfl⟩, sl⟩ ?_ ?_
  · clear w1 hd sl
    rintro i σ G hi ⟨ol, own, ⟨x0, x6, x7, x8, x9, x10, x11, x13, x14, x15, x16, x17, x18, x19, x20, x22, x23, rfl⟩, sl⟩
    have l1 := sl.l1
    have l2 := sl.l2
    have ln : (own.map V.int).length = own.length := List.length_map ..
    refine join2 (fun σ G' => ∃ f b v so : Int, σ = [x0, some (.ref d), some (.ref ol), none, some (.ref t), some (.int own.length), some (.int (0 + (i : Nat))), some (.int f), some (.int b), some (.int v), some (.int so), x11, none, x13, x14, x15, x16, x17, x18, x19, x20, none, x22, x23] ∧ 0 ≤ f ∧ 0 ≤ b ∧ 0 ≤ so ∧ so < 3 ∧ SL T B G' d t dn ol own own) ?_ ?_
    · rintro σ G1 ⟨f, b, v, so, rfl, f0, b0, s0, s3, sl1⟩
      refine join2 (fun σ G' => σ = [x0, some (.ref d), some (.ref ol), none, some (.ref t), some (.int own.length), some (.int (0 + (i : Nat))), some (.int f), some (.int b), some (.int v), some (.int so), some (.bl (decide (f < b ∧ b ≤ (own.length : Int)))), none, x13, x14, x15, x16, x17, x18, x19, x20, none, x22, x23] ∧ G' = G1) ?_ ?_
      · rintro σ G' ⟨rfl, eG⟩
        subst eG
        refine join2 (fun σ G' => ∃ ol' own' p14, σ = [x0, some (.ref d), some (.ref ol'), none, some (.ref t), some (.int own.length), some (.int (0 + (i : Nat))), some (.int f), some (.int b), some (.int v), some (.int so), some (.bl (decide (f < b ∧ b ≤ (own.length : Int)))), none, some (.bl true), p14, x15, x16, x17, x18, x19, x20, none, x22, x23] ∧ own'.length = own.length ∧ SL T B G' d t dn ol' own' own') ?_ ?_
        · rintro σ G2 ⟨ol', own', p14, rfl, le, sl2⟩
          obtain ⟨dxt, ot⟩ := sl2.sa.ob
          have z9 : (own'.map V.int).length ≤ sizeLine := le_line (by rw [List.length_map]; omega)
          walk_at "go"
          refine ⟨dn, _, sl2.sa, sl2.tabs, fun p G3 c3 sa3 fp hp => ?_⟩
          have sl3 := sl2.seg c3 sa3 rfl
          have ow3 := sl3.ow
          walk_at "go"
          refine veq_ll (.of (by walk_at "lk")) (.of (by walk_at "lk")) ints_flat ints_flat (p := True) (by simp) ?_
          walk_at "go"
          rename_i p9 G9 n9
          exact ⟨ol', own', by rw [le]; exact ⟨_, _, _, _, _, _, _, _, _, _, _, _, _, _, _, _, _, rfl⟩, sl3.idle n9.chg⟩
        · intro N1 hN1
          generalize hgd : decide (f < b ∧ b ≤ (own.length : Int)) = gd
          rw [hgd] at hN1
          walk_at "go"
          walk_at "if"
          · intro cs
            walk_at "go"
            refine .inl ⟨⟨_, .of sl1.ow⟩, fun D0 hD0 => ?_⟩
            have nl := nwl_len (good := gd) (f := f) (b := b) (g := opV false v) (own := own)
            refine lce (xs := own.map V.int) (fun i H' => Chg T.tabs nil G' H' ∧ H' D0 = some (.lst (((nwl gd f b (opV false v) own).take i).map V.int))) hD0 (fun H' n => ⟨n.chg, n.at⟩) ?_ ?_ ?_
            · rintro i H' - ⟨c, -⟩
              exact .of (c.look sl1.ow id rfl)
            · rintro H' ⟨c, hd0⟩
              rw [ln, ← nl, List.take_length] at hd0
              have nd0 : D0 ≠ d := fun z => by
                obtain ⟨a, b, e, hd⟩ := sl1.dice
                rw [z, hd] at hD0; cases hD0
              have sl2 := (sl1.idle c).set hd0 (sl1.fr hD0) nd0
              have ob := sl2.sa.ob
              obtain ⟨dxt, ot⟩ := ob
              walk_at "go"
              refine ⟨sl2.tabs, fun fl G3 g3 nf L => ?_⟩
              have sl3 := sl2.idle (.ofGrows g3)
              obtain ⟨dxu, ou⟩ := sl3.sa.ob
              refine ⟨fl, _, rfl, L, ?_⟩
              walk_at "go"
              refine ⟨dn, _, sl3.sa, fun z => err_to T.ex_SegmentError ?_, fun z0 z1 z2 G4 c4 sa4 => ?_⟩
              · have gf : gd = false := by rw [← hgd]; exact decide_eq_false (fun q => z ⟨f0, q.1, q.2⟩)
                walk_at "go"
                have e9 : nwl gd f b (opV false v) own = own := by rw [gf]; rfl
                rw [e9] at sl3
                exact hN1 _ _ ⟨D0, own, x14, by simp [gf], rfl, sl3⟩
              · have gt : gd = true := by rw [← hgd]; exact decide_eq_true ⟨z1, z2⟩
                have sl4 := sl3.seg c4 sa4 (by rw [chgL_len])
                walk_at "go"
                have e9 : nwl gd f b (opV false v) own = chgL f b (opV false v) 0 own := by rw [gt]; rfl
                rw [e9] at sl4
                exact hN1 _ _ ⟨D0, _, x14, by simp [gt], by rw [chgL_len], sl4⟩
            · rintro k x H' hx ⟨c, hd0⟩ tt H'' ntt
              obtain ⟨y, hy, rfl⟩ : ∃ y, own[k]? = some y ∧ x = .int y := by
                rw [List.getElem?_map] at hx
                cases e : own[k]? with
                | none => rw [e] at hx; cases hx
                | some y => rw [e] at hx; cases hx; exact ⟨y, rfl, rfl⟩
              have kl : k < own.length := (List.getElem?_eq_some_iff.mp hy).1
              have gx := nwl_get (good := gd) (f := f) (b := b) (g := opV false v) hy
              have ltk : (((nwl gd f b (opV false v) own).take k).map V.int).length < sizeLine := lt_line (by rw [List.length_map, List.length_take]; omega)
              have fin : ∀ z : Int, z = (if gd = true ∧ f ≤ k ∧ (k : Int) < b then opV false v y else y) → ∀ H3, Wr H'' D0 (.lst (((nwl gd f b (opV false v) own).take k).map V.int ++ [.int z])) H3 → Chg T.tabs nil G' H3 ∧ H3 D0 = some (.lst (((nwl gd f b (opV false v) own).take (k + 1)).map V.int)) := by
                intro z hz H3 w3
                refine ⟨by walk_at "chg", ?_⟩
                rw [take_next gx, ← hz]
                exact w3.at
              intro Nx Sk hN hS
              walk_at "go"
              walk_at "if"
              · intro cg
                have gt : gd = true := cg
                walk_at "go"
                walk_at "if"
                · intro c1
                  walk_at "go"
                  walk_at "if"
                  · intro c2
                    walk_at "go"
                    exact hN _ _ _ (by walk_at "lk") ltk (fin _ (by rw [if_pos ⟨gt, c1, c2⟩]; rfl))
                  · intro c2
                    walk_at "go"
                    exact hN _ _ _ (by walk_at "lk") ltk (fin _ (by rw [if_neg (fun q => c2 q.2.2)]))
                · intro c1
                  walk_at "go"
                  exact hN _ _ _ (by walk_at "lk") ltk (fin _ (by rw [if_neg (fun q => c1 q.2.1)]))
              · intro cg
                have gf : gd = false := by simpa using cg
                walk_at "go"
                exact hN _ _ _ (by walk_at "lk") ltk (fin _ (by rw [if_neg (fun q => by rw [gf] at q; cases q.1)]))
          · intro cs
            walk_at "go"
            walk_at "if"
            · intro cs2
              walk_at "go"
              refine .inl ⟨⟨_, .of sl1.ow⟩, fun D0 hD0 => ?_⟩
              have nl := nwl_len (good := gd) (f := f) (b := b) (g := opV true v) (own := own)
              refine lce (xs := own.map V.int) (fun i H' => Chg T.tabs nil G' H' ∧ H' D0 = some (.lst (((nwl gd f b (opV true v) own).take i).map V.int))) hD0 (fun H' n => ⟨n.chg, n.at⟩) ?_ ?_ ?_
              · rintro i H' - ⟨c, -⟩
                exact .of (c.look sl1.ow id rfl)
              · rintro H' ⟨c, hd0⟩
                rw [ln, ← nl, List.take_length] at hd0
                have nd0 : D0 ≠ d := fun z => by
                  obtain ⟨a, b, e, hd⟩ := sl1.dice
                  rw [z, hd] at hD0; cases hD0
                have sl2 := (sl1.idle c).set hd0 (sl1.fr hD0) nd0
                have ob := sl2.sa.ob
                obtain ⟨dxt, ot⟩ := ob
                walk_at "go"
                refine ⟨sl2.tabs, fun fl G3 g3 nf L => ?_⟩
                have sl3 := sl2.idle (.ofGrows g3)
                obtain ⟨dxu, ou⟩ := sl3.sa.ob
                refine ⟨fl, _, rfl, L, ?_⟩
                walk_at "go"
                refine ⟨dn, _, sl3.sa, fun z => err_to T.ex_SegmentError ?_, fun z0 z1 z2 G4 c4 sa4 => ?_⟩
                · have gf : gd = false := by rw [← hgd]; exact decide_eq_false (fun q => z ⟨f0, q.1, q.2⟩)
                  walk_at "go"
                  have e9 : nwl gd f b (opV true v) own = own := by rw [gf]; rfl
                  rw [e9] at sl3
                  exact hN1 _ _ ⟨D0, own, x14, by simp [gf], rfl, sl3⟩
                · have gt : gd = true := by rw [← hgd]; exact decide_eq_true ⟨z1, z2⟩
                  have sl4 := sl3.seg c4 sa4 (by rw [chgL_len])
                  walk_at "go"
                  have e9 : nwl gd f b (opV true v) own = chgL f b (opV true v) 0 own := by rw [gt]; rfl
                  rw [e9] at sl4
                  exact hN1 _ _ ⟨D0, _, x14, by simp [gt], by rw [chgL_len], sl4⟩
              · rintro k x H' hx ⟨c, hd0⟩ tt H'' ntt
                obtain ⟨y, hy, rfl⟩ : ∃ y, own[k]? = some y ∧ x = .int y := by
                  rw [List.getElem?_map] at hx
                  cases e : own[k]? with
                  | none => rw [e] at hx; cases hx
                  | some y => rw [e] at hx; cases hx; exact ⟨y, rfl, rfl⟩
                have kl : k < own.length := (List.getElem?_eq_some_iff.mp hy).1
                have gx := nwl_get (good := gd) (f := f) (b := b) (g := opV true v) hy
                have ltk : (((nwl gd f b (opV true v) own).take k).map V.int).length < sizeLine := lt_line (by rw [List.length_map, List.length_take]; omega)
                have fin : ∀ z : Int, z = (if gd = true ∧ f ≤ k ∧ (k : Int) < b then opV true v y else y) → ∀ H3, Wr H'' D0 (.lst (((nwl gd f b (opV true v) own).take k).map V.int ++ [.int z])) H3 → Chg T.tabs nil G' H3 ∧ H3 D0 = some (.lst (((nwl gd f b (opV true v) own).take (k + 1)).map V.int)) := by
                  intro z hz H3 w3
                  refine ⟨by walk_at "chg", ?_⟩
                  rw [take_next gx, ← hz]
                  exact w3.at
                intro Nx Sk hN hS
                walk_at "go"
                walk_at "if"
                · intro cg
                  have gt : gd = true := cg
                  walk_at "go"
                  walk_at "if"
                  · intro c1
                    walk_at "go"
                    walk_at "if"
                    · intro c2
                      walk_at "go"
                      exact hN _ _ _ (by walk_at "lk") ltk (fin _ (by rw [if_pos ⟨gt, c1, c2⟩]; rfl))
                    · intro c2
                      walk_at "go"
                      exact hN _ _ _ (by walk_at "lk") ltk (fin _ (by rw [if_neg (fun q => c2 q.2.2)]))
                  · intro c1
                    walk_at "go"
                    exact hN _ _ _ (by walk_at "lk") ltk (fin _ (by rw [if_neg (fun q => c1 q.2.1)]))
                · intro cg
                  have gf : gd = false := by simpa using cg
                  walk_at "go"
                  exact hN _ _ _ (by walk_at "lk") ltk (fin _ (by rw [if_neg (fun q => by rw [gf] at q; cases q.1)]))
            · intro cs2
              have ow1 := sl1.ow
              walk_at "go"
              rename_i pl G2 n2
              rw [cut_sub f0 b0] at n2
              have sl2 := sl1.idle n2.chg
              have pl2 := n2.at
              refine ⟨sl2.tabs, fun fl G3 g3 nf L => ?_⟩
              have sl3 := sl2.idle (.ofGrows g3)
              have pl3 : G3 pl = some (.lst ((Z.sub own f b).map V.int)) := by walk_at "lk"
              obtain ⟨dxu, ou⟩ := sl3.sa.ob
              refine ⟨fl, _, rfl, L, ?_⟩
              walk_at "go"
              first
              | refine ⟨dn, _, sl3.sa, sl3.tabs, fun z => err_to T.ex_SegmentError ?_, fun z0 z1 z2 p G4 sm mn mx c4 sa4 ft fp hp => ?_⟩
              | refine ⟨fun z => err_to T.ex_SegmentError ?_, fun z0 z1 z2 p G4 sm mn mx c4 sa4 ft fp hp => ?_⟩
              · have gf : gd = false := by rw [← hgd]; exact decide_eq_false (fun q => z ⟨f0, q.1, q.2⟩)
                walk_at "go"
                walk_at "if"
                · intro cg
                  have : gd = true := cg
                  rw [gf] at this; cases this
                · intro cg
                  walk_at "go"
                  exact hN1 _ _ ⟨ol, own, _, rfl, rfl, sl3⟩
              · have gt : gd = true := by rw [← hgd]; exact decide_eq_true ⟨z1, z2⟩
                have sl4 := sl3.seg c4 sa4 rfl
                have pl4 : G4 pl = some (.lst ((Z.sub own f b).map V.int)) := Wp.keepO sl3.sa c4 pl3 rfl
                have sp : 0 < (Z.sub own f b).length := by rw [sub_len z0 (by omega) z2]; omega
                walk_at "go"
                walk_at "if"
                · intro cg
                  walk_at "go"
                  refine ⟨pl, Z.sub own f b, rfl, .of pl4, ?_⟩
                  walk_at "go"
                  refine ⟨pl, Z.sub own f b, rfl, .of pl4, sp, fun m1 m1a m1b => ?_⟩
                  walk_at "go"
                  refine ⟨pl, Z.sub own f b, rfl, .of pl4, sp, fun m2 m2a m2b => ?_⟩
                  walk_at "go"
                  rename_i q9 G9 n9
                  obtain ⟨e1, e2, e3⟩ := fits3 ft (show Fits (Z.sub own f b).sum m1 m2 (Z.sub own f b) from ⟨rfl, ⟨m1a, m1b⟩, m2a, m2b⟩)
                  subst e1 e2 e3
                  refine veq_tt (.of (by walk_at "lk")) (.of n9.at) (by simp; exact ⟨rfl, rfl, rfl⟩) (by simp; exact ⟨rfl, rfl, rfl⟩) (p := True) (by simp) ?_
                  walk_at "go"
                  exact hN1 _ _ ⟨ol, own, _, rfl, rfl, sl4.idle n9.chg⟩
                · intro cg
                  have : gd = false := cg
                  rw [gt] at this; cases this
      · intro N1 hN1
        walk_at "go"
        walk_at "if"
        · intro c1
          walk_at "go"
          refine hN1 _ _ ⟨?_, rfl⟩
          simp [c1]
        · intro c1
          walk_at "go"
          refine hN1 _ _ ⟨?_, rfl⟩
          simp [c1]
    · intro N1 hN1
      obtain ⟨a0, a1, a2, hd⟩ := sl.dice
      walk_at "run"
      rename_i f G1 f0 f1 u0 u1 u2 w1 b G2 b0 b1 u3 u4 u5 w2 v G3 v0 v1 u6 u7 u8 w3 so G4 s0 s1 u9 ua ub w4 p G5 n5
      exact hN1 _ _ ⟨f, b, v - 10, so, rfl, f0, b0, s0, s1, ((((sl.roll w1).roll w2).roll w3).roll w4).idle n5.chg⟩
  · rintro σ G ⟨ol, own, sh, sl⟩
    exact R9 _ _ _ ⟨B, d, t, dn, ol, own, sh, sl, hD⟩
end
end Z


set_option Elab.async false
set_option linter.all false
set_option maxRecDepth 100000
set_option maxHeartbeats 4000000
set_option pp.maxSteps 1500
namespace Z
open PySem PySem.Spec L2 LamX Y
local macro_rules | `(tactic| walk_at "lk") => `(tactic| first
  | assumption
  | exact Nw.at (by assumption)
  | exact Wr.at (by assumption)
  | exact Mkd.at (by assumption)
  | exact Nw.look (by assumption) (by walk_at "lk")
  | exact Mkd.look (by assumption) (by walk_at "lk")
  | exact Wr.look (by assumption) (by walk_at "lk") (by walk_at "ne")
  | exact Chg.look (by assumption) (by walk_at "lk") (by walk_at "nin") rfl
  | exact Tp.same (by assumption) _ _ (by walk_at "lk")
  | exact Grows.look (by assumption) (by walk_at "lk") rfl
  | fail)
local macro_rules | `(tactic| walk_at "ne") => `(tactic| first
  | assumption
  | exact Ne.symm (by assumption)
  | exact Nw.ne (by assumption) (by walk_at "lk")
  | exact Ne.symm (Nw.ne (by assumption) (by walk_at "lk"))
  | exact ne_fr (by assumption) (by walk_at "lk")
  | exact Ne.symm (ne_fr (by assumption) (by walk_at "lk"))
  | exact ne_fr (Mkd.nx (by assumption)) (by walk_at "lk")
  | exact Ne.symm (ne_fr (Mkd.nx (by assumption)) (by walk_at "lk"))
  | exact ne_kdn (by assumption) (by walk_at "lk") rfl
  | exact Ne.symm (ne_kdn (by assumption) (by walk_at "lk") rfl)
  | fail)
local macro_rules | `(tactic| walk_at "nin") => `(tactic| first
  | exact nin_nil
  | exact id
  | exact nin_cons (by walk_at "ne") (by walk_at "nin")
  | fail)
local macro_rules | `(tactic| walk_at "fr") => `(tactic| first
  | assumption
  | exact Nw.new (by assumption)
  | exact Mkd.nx (by assumption)
  | exact Nw.dom (by assumption) (by walk_at "fr")
  | exact Wr.dom (by assumption) (by walk_at "fr")
  | exact Mkd.dom (by assumption) (by walk_at "fr")
  | exact Chg.dom (by assumption) _ (by walk_at "fr")
  | exact Tp.dom (by assumption) _ (by walk_at "fr")
  | exact Grows.dom (by assumption) _ (by walk_at "fr")
  | fail)
local macro_rules | `(tactic| walk_at "mem") => `(tactic| first
  | assumption
  | exact List.mem_cons_self
  | (apply List.mem_cons_of_mem; walk_at "mem")
  | fail)
local macro_rules | `(tactic| walk_at "in") => `(tactic| first
  | assumption
  | (apply Or.inl; walk_at "mem")
  | (apply Or.inr; walk_at "fr")
  | fail)
local macro_rules | `(tactic| walk_at "sub") => `(tactic| first
  | exact sub_nil0
  | exact sub_nil
  | exact sub_cons (by walk_at "in") (by walk_at "sub")
  | fail)
local macro_rules | `(tactic| walk_at "chg") => `(tactic| first
  | assumption
  | exact Chg.refl _
  | exact Chg.nw (by assumption) (by walk_at "chg")
  | exact Chg.mkd (by assumption) (by walk_at "chg")
  | exact Chg.tp (by assumption) (by walk_at "chg")
  | exact Chg.gr (by assumption) (by walk_at "chg")
  | exact Chg.wr (by assumption) (by walk_at "chg") (by walk_at "in")
  | exact Chg.ch (by assumption) (by walk_at "chg") (by walk_at "sub")
  | fail)
local macro_rules | `(tactic| walk_at "sq") => `(tactic| first
  | assumption
  | exact SqL.of (by walk_at "lk")
  | exact Chg.seqL (by assumption) (by walk_at "sq") (by walk_at "nin")
  | exact SqL.nw (by assumption) (by walk_at "sq")
  | exact SqL.tp (by assumption) (by walk_at "sq")
  | exact SqL.mkd (by assumption) (by walk_at "sq")
  | exact SqL.wr (by assumption) (by walk_at "sq") (by walk_at "ne")
  | fail)
local macro_rules | `(tactic| walk_at "sqt") => `(tactic| first
  | assumption
  | exact SqT.of (by walk_at "lk")
  | exact Tp.sq (by assumption)
  | exact SqT.nw (by assumption) (by walk_at "sqt")
  | exact SqT.tp (by assumption) (by walk_at "sqt")
  | exact SqT.mkd (by assumption) (by walk_at "sqt")
  | exact SqT.chg (by assumption) (by walk_at "sqt") (by walk_at "nin")
  | fail)
local macro_rules | `(tactic| walk_at "seq") => `(tactic| first
  | assumption
  | exact .inl (by walk_at "sq")
  | exact .inr (by walk_at "sqt")
  | exact SqA.keepN (T := Env.tabs (by assumption)) (by assumption) (by walk_at "chg")
  | fail)
local macro_rules | `(tactic| walk_at "go") => `(tactic| repeat first
  | refine ⟨_, rfl, ?_⟩
  | refine ⟨_, _, _, _, rfl, And.intro (by walk_at "lk") (And.intro rfl ?_)⟩
  | refine ⟨_, _, _, rfl, And.intro (by walk_at "lk") (And.intro (by walk_at "side") ?_)⟩
  | refine ⟨_, _, And.intro rfl (And.intro rfl ?_)⟩
  | refine ⟨_, _, And.intro rfl (And.intro (by walk_at "lk") ?_)⟩
  | refine ⟨_, _, _, And.intro rfl (And.intro (by walk_at "lk") ?_)⟩
  | refine ⟨_, And.intro (by walk_at "lk") (And.intro (by walk_at "side") ?_)⟩
  | refine ⟨_, _, And.intro (by walk_at "lk") (And.intro (by walk_at "side") ?_)⟩
  | refine ⟨_, _, And.intro (by walk_at "seq") (And.intro rfl ?_)⟩
  | refine ⟨_, _, And.intro (by walk_at "seq") (And.intro (by assumption) ?_)⟩
  | refine ⟨_, And.intro (by walk_at "seq") ?_⟩
  | refine ⟨_, And.intro (by walk_at "lk") (And.intro (by walk_at "side") (And.intro (by walk_at "side") (And.intro (by walk_at "side") ?_)))⟩
  | refine .inl ⟨_, _, And.intro (by walk_at "lk") (And.intro (by walk_at "lk") (And.intro (by walk_at "side") ?_))⟩
  | refine .inr ⟨_, _, And.intro (by walk_at "sqt") (And.intro (by walk_at "sqt") (And.intro (by walk_at "side") ?_))⟩
  | refine .inl ⟨_, And.intro (by walk_at "sq") ?_⟩
  | refine .inr ⟨_, And.intro (by walk_at "sqt") ?_⟩
  | refine ⟨_, _, _, _, rfl, rfl, And.intro (by walk_at "lk") (And.intro rfl ?_)⟩
  | refine ⟨_, _, _, _, rfl, rfl, And.intro (by walk_at "lk") (And.intro (by walk_at "key") ?_)⟩
  | refine ⟨_, _, _, rfl, rfl, And.intro (by walk_at "lk") (And.intro (by walk_at "side") ?_)⟩
  | refine fun H' (n : Wr _ _ _ H') => ?_
  | refine fun p H' (n : Nw _ p _ H') => ?_
  | refine fun r H' (n : Tp _ _ r _ H') => ?_
  | refine fun x dx H' (n : Mkd _ _ x dx H') => ?_
  | refine .inl ⟨_, _, rfl, And.intro (by walk_at "sq") (fun p H' (n : Nw _ p _ H') => ?_)⟩
  | refine .inr ⟨_, _, rfl, And.intro (by walk_at "sqt") (fun r H' (n : Tp _ _ r _ H') => ?_)⟩
  | refine ⟨_, _, rfl, And.intro (by walk_at "sq") (fun p H' (n : Nw _ p _ H') => ?_)⟩
  | refine .inl (And.intro ⟨_, by walk_at "sq"⟩ ?_)
  | refine .inr (And.intro ⟨_, by walk_at "sqt"⟩ ?_)
  | refine ⟨_, _, rfl, And.intro (by walk_at "sqt") (And.intro rfl ?_)⟩
  | refine ⟨_, _, And.intro rfl ?_⟩
  | refine ⟨_, _, _, And.intro rfl ?_⟩
  | refine And.intro rfl ?_
  | (refine ite_t ?_ ?_; exact rfl)
  | (refine ite_f ?_ ?_; exact rfl)
  | refine And.intro (by walk_at "side") ?_)
local macro_rules | `(tactic| walk_at "side") => `(tactic| first
  | exact (rfl : _ = _)
  | decide
  | exact lt1000 rfl
  | with_reducible assumption
  | exact ⟨by omega, by omega⟩
  | exact .inl ⟨by omega, by omega⟩
  | exact .inr ⟨by omega, by omega⟩
  | omega
  | (apply le_line; omega)
  | (apply lt_line; omega)
  | (apply le_line; simp <;> omega)
  | (apply lt_line; simp <;> omega)
  | fail)
local macro_rules | `(tactic| walk_at "if") => `(tactic| first
  | refine ite_nd ?_ ?_
  | refine ite_d ?_ ?_
  | refine ite_eqt ?_ ?_
  | fail)
local macro_rules | `(tactic| walk_at "roll") => `(tactic| first
  | (refine And.intro (show Dice _ _ from ⟨_, _, _, by walk_at "lk"⟩) (And.intro (by walk_at "side") (And.intro (by walk_at "side") (fun r H' r0 r1 ro => ?_))); obtain ⟨a', b', c', w⟩ := ro)
  | fail)
local macro_rules | `(tactic| walk_at "run") => `(tactic| (walk_at "go"; repeat (walk_at "roll"; walk_at "go")))
local macro_rules | `(tactic| walk_at "dp") => `(tactic| first
  | exact Dp.non
  | exact Dp.int _
  | exact Dp.str _
  | exact Dp.bl _
  | exact DpAll.nil
  | exact DpAll.cons (by walk_at "dp") (by walk_at "dp")
  | exact Dp.tup (by walk_at "sqt") (by walk_at "dp")
  | exact Dp.lst (by walk_at "sq") (by walk_at "dp")
  | fail)
local macro_rules | `(tactic| walk_at "key") => `(tactic| first
  | assumption
  | fail)

section
variable {w : World} {K : PySem.W.Frag} {mg : Str → Option Value} {base : Heap}
def isLst : HO → Bool
  | .lst _ => true
  | _ => false
theorem tabs_without {tb : List (Addr × Str)} {G : Hp} {d : Addr} {xs : List V} (hd : G d = some (.lst xs)) (t : Tabs tb G) : Tabs tb (fun b => if b = d then none else G b) := by
  intro p hp
  obtain ⟨ps, h1, h2, h3⟩ := t p hp
  have ne : ∀ b o, G b = some o → isLst o = false → b ≠ d := fun b o e l z => by
    rw [z, hd] at e
    cases e
    cases l
  refine ⟨ps, by simp only [if_neg (ne _ _ h1 rfl)]; exact h1, h2, fun pos cv hc => ?_⟩
  obtain ⟨c, e1, e2⟩ := h3 pos cv hc
  exact ⟨c, e1, by simp only [if_neg (ne _ _ e2 rfl)]; exact e2⟩
theorem chg_without {tb : List (Addr × Str)} {G G' : Hp} {d : Addr} (c : Chg tb (Y.In [d]) G G') (t : Tabs tb G') : Chg tb nil (fun b => if b = d then none else G b) G' :=
  ⟨fun b o e _ nt => by
    by_cases z : b = d
    · simp only [if_pos z] at e; cases e
    · simp only [if_neg z] at e
      exact c.keep b o e (fun y => z (by simpa [Y.In] using y)) nt, fun b e => by
    have := c.dom b e
    simp only [this]; split <;> rfl, fun _ => t⟩
def sp_law (T : Env w K mg base) : Sp := fun vs H Q _ => match vs with
  | [.ref a] => (∃ ns : List Int, SqL K H a (ns.map V.int)) ∧ Tabs T.tabs H ∧ ∀ H', Q (.bl true) H'
  | _ => False
theorem ok_law (T : Env w K mg base) : FnOk prg w K mg base (L2.CX prg w) 104 T.f_law T.fd_law ["script"] (sp_law T) := by
  refine T.F_law.ok sc_law (fun vs H Q E h => by unfold sp_law at h; split at h <;> first | rfl | exact h.elim) fun A outer s H vs Q E hr h => ?_
  obtain ⟨t9, P9, R9⟩ := tl_law_0_2 T (outer := outer) (s := s) (H := H) (E := E) hr
  refine ⟨_, (pss_cons (ps_for (passes_of rfl) rfl (Y.pi_seqK (K := K) rfl (pe_call (ok__law_rounds T) (hr.mono (by decide)) rfl T.mg__law_rounds T.F__law_rounds.kp T.b__law_rounds .nil (Y.passD rfl rfl rfl rfl) (pa_cons (pv 0) (pa_cons pe_int pa_nil)))) (pg_name (i := 1) sc_law.nd rfl (Or.inr rfl)) (pss_cons (ps_set (i := 2) sc_law.nd rfl (Or.inr rfl) (pe_lc (own := [("k", 3)]) rfl sc_law.nd (pi_range1 rfl T.no_range (pa_cons (pe_op (Y.op_addK (K := K) rfl) pe_int (pe_call (ok__law_roll T) (hr.mono (by decide)) rfl T.mg__law_roll T.F__law_roll.kp T.b__law_roll .nil (Y.passD rfl rfl rfl rfl) (pa_cons (pv 1) (pa_cons pe_int pa_nil)))) pa_nil)) (blkOk_by (own := [("k", 3)]) (N := N_law) (sc := defScope s_law) (by decide +kernel)) (fun _ _ _ _ _ => (pg_name (i := 3) sc_law.nd rfl (Or.inl rfl))) (fun _ _ _ _ _ => pts_nil) (fun _ _ _ _ _ => (pe_op Y.op_sub (pe_call (ok__law_roll T) (hr.mono (by decide)) rfl T.mg__law_roll T.F__law_roll.kp T.b__law_roll .nil Y.passN (pa_cons (pv 1) (pa_cons pe_int pa_nil))) pe_int))))
  (pss_cons (ps_asg (Y.pe_tu (pa_cons (Y.pe_mk T.mk_Segments (ok_Segments___init__ T) (hr.mono (by decide)) rfl T.mg_Segments T.b_Segments___init__ .nil (Y.passD rfl rfl rfl rfl) (pa_cons (pv 2) pa_nil)) (pa_cons (pe_callB (Y.lenK (K := K) rfl) (by rfl) T.no_len (by decide +kernel) (pa_cons (pv 2) pa_nil)) pa_nil))) (Y.pg_tupK (K := K) (n := 2) rfl rfl (pgs_cons (pg_name (i := 4) sc_law.nd rfl (Or.inr rfl)) (pgs_cons (pg_name (i := 5) sc_law.nd rfl (Or.inl rfl)) pgs_nil))))
  P9)))
  (pss_one (ps_ret (pe_call0 (ok__law_plain T) (hr.mono (by decide)) rfl T.mg__law_plain T.F__law_plain.kp T.b__law_plain .nil (Y.passD rfl rfl rfl rfl))))), ?_⟩
  unfold sp_law at h
  split at h
  next a =>
    obtain ⟨hs, ht, hQ⟩ := h
    walk_at "go"
    intro l d G c1 fl fd nld hl hd
    walk_at "go"
    refine for_list (xs := [.ref d]) (fun i σ G' => (∃ x0 x1 x2 x4 x5 x6 x7 x8 x9 x10 x11 x13 x14 x15 x16 x17 x18 x19 x20 x22 x23, σ = [x0, x1, x2, none, x4, x5, x6, x7, x8, x9, x10, x11, none, x13, x14, x15, x16, x17, x18, x19, x20, none, x22, x23]) ∧ Chg T.tabs nil H G' ∧ G' l = some (.lst [.ref d]) ∧ Dice G' d) ⟨⟨_, _, _, _, _, _, _, _, _, _, _, _, _, _, _, _, _, _, _, _, _, rfl⟩, c1, hl, hd⟩ ?_ ?_ ?_
    · rintro i σ G' - ⟨-, -, hl, -⟩
      exact .of hl
    · rintro i x σ G1 hx ⟨⟨x0, x1, x2, x4, x5, x6, x7, x8, x9, x10, x11, x13, x14, x15, x16, x17, x18, x19, x20, x22, x23, rfl⟩, c, hl, hd⟩
      have hi : i = 0 := by
        have := (List.getElem?_eq_some_iff.mp hx).1
        simp at this
        exact this
      subst hi
      cases hx
      obtain ⟨a0, a1, a2, hd⟩ := hd
      walk_at "run"
      rename_i m G2 m0 m1 b0 b1 b2 w2
      intro D0 hD0
      have nd0 : D0 ≠ d := fun z => by
        have := w2.at
        rw [z, this] at hD0; cases hD0
      refine lcr (fun i H' => Chg T.tabs (Y.In [d]) G2 H' ∧ Dice H' d ∧ ∃ own : List Int, own.length = i ∧ H' D0 = some (.lst (own.map V.int))) hD0 (fun H' n => ⟨n.chg, ⟨_, _, _, n.look w2.at⟩, [], rfl, n.at⟩) ?_ ?_
      · rintro H3 ⟨c3, hd3, own, ol, ho⟩
        have oz : own.length ≤ 20 := by omega
        have o1 : 1 ≤ own.length := by omega
        have ln : (own.map V.int).length = own.length := List.length_map ..
        have z9 : (own.map V.int).length ≤ sizeLine := le_line (by omega)
        have cA : Chg T.tabs (Y.In [d]) G1 H3 := by walk_at "chg"
        walk_at "go"
        rename_i t dxt G5 mk
        refine ⟨⟨dxt, mk.at⟩, own, .inl (.of (by walk_at "lk")), by omega, fun z => absurd ⟨by omega, by omega⟩ z, fun _ _ => ⟨by omega, fun dn G6 c6 fdn sa => ?_⟩⟩
        refine ⟨rfl, ?_⟩
        have ft : H3 t = none := by walk_at "fr"
        have fn : H3 dn = none := by walk_at "fr"
        have cN : Chg T.tabs nil H3 G6 := by walk_at "chg"
        have ho6 : G6 D0 = some (.lst (own.map V.int)) := cN.look ho id rfl
        obtain ⟨e0, e1, e2, hd3⟩ := hd3
        have hd6 : G6 d = some (.lst [.int e0, .int e1, .int e2]) := cN.look hd3 id rfl
        walk_at "go"
        rename_i p7 G7 n7
        have cM : Chg T.tabs (Y.In [d]) G1 G7 := by walk_at "chg"
        have hl2 : G7 l = some (.lst [.ref d]) := cM.look hl (by simpa [Y.In] using nld) rfl
        have cH2 : Chg T.tabs nil H G7 := c.trans cM fun b z => by
          obtain rfl : b = d := by simpa [Y.In] using z
          exact .inr fd
        have f1D : G1 D0 = none := w2.dom hD0
        have f1n : G1 dn = none := by walk_at "fr"
        have sl : SL T (fun b => if b = d then none else G1 b) G7 d t dn D0 own own :=
          ⟨⟨e0, e1, e2, by walk_at "lk"⟩, by simp, chg_without cM (cH2.tabs ht), tabs_without hd (c.tabs ht), by walk_at "lk", by simp only [f1D]; split <;> rfl, sa.keep n7.chg (T := T) (S := nil) id id fun _ _ _ z => z, by simp only [f1n]; split <;> rfl, nd0, o1, oz⟩
        refine R9 _ _ _ ⟨_, d, t, dn, D0, own, ?_, sl, fun σ' G3 hsh hd3 c3' => ?_⟩
        · rw [← ln]; exact ⟨_, _, _, _, _, _, _, _, _, _, _, _, _, _, _, _, _, rfl⟩
        · obtain ⟨x0, x2, x4, x5, x6, x7, x8, x9, x10, x11, x13, x14, x15, x16, x17, x18, x19, x20, x22, x23, rfl⟩ := hsh
          refine ⟨⟨_, _, _, _, _, _, _, _, _, _, _, _, _, _, _, _, _, _, _, _, _, rfl⟩, ⟨fun b o e _ nt => c3'.keep b o ?_ id nt, fun b e => ?_, fun _ => c3'.tabs ?_⟩, c3'.look (by simp only [if_neg nld]; exact hl) id rfl, hd3⟩
          · have nb : b ≠ d := fun z => by rw [z, fd] at e; cases e
            simp only [if_neg nb]
            exact c.keep b o e id nt
          · have e2 := c3'.dom b e
            by_cases z : b = d
            · rw [z]; exact fd
            · simp only [if_neg z] at e2
              exact c.dom b e2
          · exact tabs_without hd (c.tabs (by assumption))
      · rintro k H3 hk ⟨c3, ⟨e0, e1, e2, hd3⟩, own, ol, ho⟩ Nx Sk hN hS
        walk_at "run"
        rename_i r G4 r0 r1 b3 b4 b5 w4
        exact hN _ _ (own.map V.int) (by walk_at "lk") (lt_line (by rw [List.length_map]; omega)) fun H5 w5 => ⟨by walk_at "chg", ⟨_, _, _, w5.look w4.at (Ne.symm nd0)⟩, own ++ [r - 10], by simp [ol], by rw [w5.at]; simp⟩
    · rintro σ G' ⟨⟨x0, x1, x2, x4, x5, x6, x7, x8, x9, x10, x11, x13, x14, x15, x16, x17, x18, x19, x20, x22, x23, rfl⟩, c, -, -⟩
      walk_at "go"
      exact ⟨c.tabs ht, fun H' _ => hQ H'⟩
  next => exact h.elim
end
end Z


set_option Elab.async false
set_option linter.all false
set_option maxRecDepth 100000
set_option maxHeartbeats 4000000
namespace Y
open PySem PySem.Spec L2 LamX
theorem exm_self {K : PySem.W.Frag} {S : Addr} (b : PySem.W.subIn K (.ref S) (.type "BaseException") = some true) (i : PySem.W.isClsIn K S = true) (t : PySem.W.typeIn K (.ref S) = some (.type "type")) (s : PySem.W.subIn K (.ref S) (.ref S) = some true) : PySem.W.exmOne K (.ref S) (.ref S) = some true := by
  unfold PySem.W.isClsIn at i
  unfold PySem.W.exmOne
  simp [b, i, t, s, PySem.W.kitCls]
end Y
namespace Z
open PySem PySem.Spec L2 LamX
theorem law_at {w : World} {mg : Str → Option Value} {fa : Addr} {h : Heap} {K : PySem.W.Frag}
    {C_SegmentError C_Segments f_Segments___init__ c_Segments___init__ f_Segments_build_node c_Segments_build_node f_Segments_gather_two c_Segments_gather_two f_Segments_lay_on c_Segments_lay_on f_Segments_push_down c_Segments_push_down f_Segments_check_part c_Segments_check_part f_Segments_change_under c_Segments_change_under f_Segments_add_to c_Segments_add_to f_Segments_set_to c_Segments_set_to f_Segments_told_in c_Segments_told_in f_Segments_told_under c_Segments_told_under P_Segments_told_under f_Segments_all_values c_Segments_all_values P_Segments_all_values f_Segments_first_above c_Segments_first_above f_Segments_places_of c_Segments_places_of P_Segments_places_of f_Segments_reach_from c_Segments_reach_from f_Segments_nodes_for c_Segments_nodes_for f_best_part c_best_part f_windows_least c_windows_least P_windows_least f__law_dice c__law_dice f__law_roll c__law_roll f__law_rounds c__law_rounds f__law_told c__law_told f__law_nodes c__law_nodes f__law_plain c__law_plain P__law_plain f_law c_law P_law : Addr}
    {oc_Segments___init__ kV_Segments___init__ dc_Segments___init__ pm_Segments___init__ ct_Segments___init__ oc_Segments_build_node kV_Segments_build_node dc_Segments_build_node pm_Segments_build_node ct_Segments_build_node oc_Segments_gather_two kV_Segments_gather_two dc_Segments_gather_two pm_Segments_gather_two ct_Segments_gather_two oc_Segments_lay_on kV_Segments_lay_on dc_Segments_lay_on pm_Segments_lay_on ct_Segments_lay_on oc_Segments_push_down kV_Segments_push_down dc_Segments_push_down pm_Segments_push_down ct_Segments_push_down oc_Segments_check_part kV_Segments_check_part dc_Segments_check_part pm_Segments_check_part ct_Segments_check_part oc_Segments_change_under kV_Segments_change_under dc_Segments_change_under pm_Segments_change_under ct_Segments_change_under oc_Segments_add_to kV_Segments_add_to dc_Segments_add_to pm_Segments_add_to ct_Segments_add_to oc_Segments_set_to kV_Segments_set_to dc_Segments_set_to pm_Segments_set_to ct_Segments_set_to oc_Segments_told_in kV_Segments_told_in dc_Segments_told_in pm_Segments_told_in ct_Segments_told_in oc_Segments_told_under kV_Segments_told_under dc_Segments_told_under pm_Segments_told_under ct_Segments_told_under oc_Segments_all_values kV_Segments_all_values dc_Segments_all_values pm_Segments_all_values ct_Segments_all_values oc_Segments_first_above kV_Segments_first_above dc_Segments_first_above pm_Segments_first_above ct_Segments_first_above oc_Segments_places_of kV_Segments_places_of dc_Segments_places_of pm_Segments_places_of ct_Segments_places_of oc_Segments_reach_from kV_Segments_reach_from dc_Segments_reach_from pm_Segments_reach_from ct_Segments_reach_from oc_Segments_nodes_for kV_Segments_nodes_for dc_Segments_nodes_for pm_Segments_nodes_for ct_Segments_nodes_for oc_best_part kV_best_part dc_best_part pm_best_part ct_best_part oc_windows_least kV_windows_least dc_windows_least pm_windows_least ct_windows_least oc__law_dice kV__law_dice dc__law_dice pm__law_dice ct__law_dice oc__law_roll kV__law_roll dc__law_roll pm__law_roll ct__law_roll oc__law_rounds kV__law_rounds dc__law_rounds pm__law_rounds ct__law_rounds oc__law_told kV__law_told dc__law_told pm__law_told ct__law_told oc__law_nodes kV__law_nodes dc__law_nodes pm__law_nodes ct__law_nodes oc__law_plain kV__law_plain dc__law_plain pm__law_plain ct__law_plain oc_law kV_law dc_law pm_law ct_law u_MOST_LONG : Value}
    {od_Segments___init__ an_Segments___init__ od_Segments_build_node an_Segments_build_node od_Segments_gather_two an_Segments_gather_two od_Segments_lay_on an_Segments_lay_on od_Segments_push_down an_Segments_push_down od_Segments_check_part an_Segments_check_part od_Segments_change_under an_Segments_change_under od_Segments_add_to an_Segments_add_to od_Segments_set_to an_Segments_set_to od_Segments_told_in an_Segments_told_in od_Segments_told_under an_Segments_told_under od_Segments_all_values an_Segments_all_values od_Segments_first_above an_Segments_first_above od_Segments_places_of an_Segments_places_of od_Segments_reach_from an_Segments_reach_from od_Segments_nodes_for an_Segments_nodes_for od_best_part an_best_part od_windows_least an_windows_least od__law_dice an__law_dice od__law_roll an__law_roll od__law_rounds an__law_rounds od__law_told an__law_told od__law_nodes an__law_nodes od__law_plain an__law_plain od_law an_law : Option Addr}
    {sl_Segments___init__ sl_Segments_build_node sl_Segments_gather_two sl_Segments_lay_on sl_Segments_push_down sl_Segments_check_part sl_Segments_change_under sl_Segments_add_to sl_Segments_set_to sl_Segments_told_in sl_Segments_told_under sl_Segments_all_values sl_Segments_first_above sl_Segments_places_of sl_Segments_reach_from sl_Segments_nodes_for sl_best_part sl_windows_least sl__law_dice sl__law_roll sl__law_rounds sl__law_told sl__law_nodes sl__law_plain sl_law : Array (Option Value)}
    {oC_Segments_told_under : Value} {oD_Segments_told_under : Option Addr} {vC_Segments_told_under : Array Value} {sC_Segments_told_under : Array (Option Value)}
    {oC_Segments_all_values : Value} {oD_Segments_all_values : Option Addr} {vC_Segments_all_values : Array Value} {sC_Segments_all_values : Array (Option Value)}
    {oC_Segments_places_of : Value} {oD_Segments_places_of : Option Addr} {vC_Segments_places_of : Array Value} {sC_Segments_places_of : Array (Option Value)}
    {oC_windows_least : Value} {oD_windows_least : Option Addr} {vC_windows_least : Array Value} {sC_windows_least : Array (Option Value)}
    {oC__law_plain : Value} {oD__law_plain : Option Addr} {vC__law_plain : Array Value} {sC__law_plain : Array (Option Value)}
    {oC_law : Value} {oD_law : Option Addr} {vC_law : Array Value} {sC_law : Array (Option Value)}
    (X : K.In h) (G : h.Ns mainGlobals mg) (hmg : mg "law" = some (.ref fa))
    (a_SegmentError : PySem.W.nsIn K mainGlobals "SegmentError" = some (some (.ref C_SegmentError)))
    (x_SegmentError : PySem.W.excIn K C_SegmentError [.type "ValueError", .type "Exception", .type "BaseException", .type "object"] "ValueError.__new__" = true)
    (k_SegmentError : PySem.W.keepIn K (.ref C_SegmentError) = true)
    (bb_SegmentError : PySem.W.subIn K (.ref C_SegmentError) (.type "BaseException") = some true)
    (tt_SegmentError : PySem.W.typeIn K (.ref C_SegmentError) = some (.type "type"))
    (i_SegmentError : PySem.W.isClsIn K C_SegmentError = true)
    (su_SegmentError : PySem.W.subIn K (.ref C_SegmentError) (.ref C_SegmentError) = some true)
    (a_Segments : PySem.W.nsIn K mainGlobals "Segments" = some (some (.ref C_Segments)))
    (pg_Segments : PySem.W.plainGet K C_Segments Str.empty = true)
    (hd_Segments : PySem.W.hasDictIn K C_Segments = true)
    (po_Segments : PySem.W.plainOver K C_Segments = true)
    (sa_Segments : PySem.W.findIn K (.ref C_Segments) "__setattr__" = some (some (.builtin "object.__setattr__")))
    (na_Segments_many : PySem.W.findIn K (.ref C_Segments) "many" = some none)
    (na_Segments_nodes : PySem.W.findIn K (.ref C_Segments) "nodes" = some none)
    (a_Segments___init__ : PySem.W.findIn K (.ref C_Segments) "__init__" = some (some (.ref f_Segments___init__)))
    (if_Segments___init__ : PySem.W.isFn K (.ref f_Segments___init__) = true)
    (l_Segments___init__ : K.lookup f_Segments___init__ = some ⟨oc_Segments___init__, od_Segments___init__, .func (PySem.W.fnOf "__init__" "Segments.__init__" (defArgs s_Segments___init__) (defBody s_Segments___init__) (defScope s_Segments___init__) .none kV_Segments___init__ dc_Segments___init__ pm_Segments___init__ an_Segments___init__ (.ref c_Segments___init__) ct_Segments___init__), sl_Segments___init__⟩)
    (h_Segments___init__ : PySem.W.codeIn K (.ref c_Segments___init__) "Segments.__init__" = true)
    (k_Segments___init__ : PySem.W.keepIn K (.ref f_Segments___init__) = true)
    (mk_Segments : PySem.W.makesIn K C_Segments = true)
    (kc_Segments : PySem.W.keepIn K (.ref C_Segments) = true)
    (a_Segments_build_node : PySem.W.findIn K (.ref C_Segments) "build_node" = some (some (.ref f_Segments_build_node)))
    (if_Segments_build_node : PySem.W.isFn K (.ref f_Segments_build_node) = true)
    (l_Segments_build_node : K.lookup f_Segments_build_node = some ⟨oc_Segments_build_node, od_Segments_build_node, .func (PySem.W.fnOf "build_node" "Segments.build_node" (defArgs s_Segments_build_node) (defBody s_Segments_build_node) (defScope s_Segments_build_node) .none kV_Segments_build_node dc_Segments_build_node pm_Segments_build_node an_Segments_build_node (.ref c_Segments_build_node) ct_Segments_build_node), sl_Segments_build_node⟩)
    (h_Segments_build_node : PySem.W.codeIn K (.ref c_Segments_build_node) "Segments.build_node" = true)
    (k_Segments_build_node : PySem.W.keepIn K (.ref f_Segments_build_node) = true)
    (a_Segments_gather_two : PySem.W.findIn K (.ref C_Segments) "gather_two" = some (some (.ref f_Segments_gather_two)))
    (if_Segments_gather_two : PySem.W.isFn K (.ref f_Segments_gather_two) = true)
    (l_Segments_gather_two : K.lookup f_Segments_gather_two = some ⟨oc_Segments_gather_two, od_Segments_gather_two, .func (PySem.W.fnOf "gather_two" "Segments.gather_two" (defArgs s_Segments_gather_two) (defBody s_Segments_gather_two) (defScope s_Segments_gather_two) .none kV_Segments_gather_two dc_Segments_gather_two pm_Segments_gather_two an_Segments_gather_two (.ref c_Segments_gather_two) ct_Segments_gather_two), sl_Segments_gather_two⟩)
    (h_Segments_gather_two : PySem.W.codeIn K (.ref c_Segments_gather_two) "Segments.gather_two" = true)
    (k_Segments_gather_two : PySem.W.keepIn K (.ref f_Segments_gather_two) = true)
    (a_Segments_lay_on : PySem.W.findIn K (.ref C_Segments) "lay_on" = some (some (.ref f_Segments_lay_on)))
    (if_Segments_lay_on : PySem.W.isFn K (.ref f_Segments_lay_on) = true)
    (l_Segments_lay_on : K.lookup f_Segments_lay_on = some ⟨oc_Segments_lay_on, od_Segments_lay_on, .func (PySem.W.fnOf "lay_on" "Segments.lay_on" (defArgs s_Segments_lay_on) (defBody s_Segments_lay_on) (defScope s_Segments_lay_on) .none kV_Segments_lay_on dc_Segments_lay_on pm_Segments_lay_on an_Segments_lay_on (.ref c_Segments_lay_on) ct_Segments_lay_on), sl_Segments_lay_on⟩)
    (h_Segments_lay_on : PySem.W.codeIn K (.ref c_Segments_lay_on) "Segments.lay_on" = true)
    (k_Segments_lay_on : PySem.W.keepIn K (.ref f_Segments_lay_on) = true)
    (a_Segments_push_down : PySem.W.findIn K (.ref C_Segments) "push_down" = some (some (.ref f_Segments_push_down)))
    (if_Segments_push_down : PySem.W.isFn K (.ref f_Segments_push_down) = true)
    (l_Segments_push_down : K.lookup f_Segments_push_down = some ⟨oc_Segments_push_down, od_Segments_push_down, .func (PySem.W.fnOf "push_down" "Segments.push_down" (defArgs s_Segments_push_down) (defBody s_Segments_push_down) (defScope s_Segments_push_down) .none kV_Segments_push_down dc_Segments_push_down pm_Segments_push_down an_Segments_push_down (.ref c_Segments_push_down) ct_Segments_push_down), sl_Segments_push_down⟩)
    (h_Segments_push_down : PySem.W.codeIn K (.ref c_Segments_push_down) "Segments.push_down" = true)
    (k_Segments_push_down : PySem.W.keepIn K (.ref f_Segments_push_down) = true)
    (a_Segments_check_part : PySem.W.findIn K (.ref C_Segments) "check_part" = some (some (.ref f_Segments_check_part)))
    (if_Segments_check_part : PySem.W.isFn K (.ref f_Segments_check_part) = true)
    (l_Segments_check_part : K.lookup f_Segments_check_part = some ⟨oc_Segments_check_part, od_Segments_check_part, .func (PySem.W.fnOf "check_part" "Segments.check_part" (defArgs s_Segments_check_part) (defBody s_Segments_check_part) (defScope s_Segments_check_part) .none kV_Segments_check_part dc_Segments_check_part pm_Segments_check_part an_Segments_check_part (.ref c_Segments_check_part) ct_Segments_check_part), sl_Segments_check_part⟩)
    (h_Segments_check_part : PySem.W.codeIn K (.ref c_Segments_check_part) "Segments.check_part" = true)
    (k_Segments_check_part : PySem.W.keepIn K (.ref f_Segments_check_part) = true)
    (a_Segments_change_under : PySem.W.findIn K (.ref C_Segments) "change_under" = some (some (.ref f_Segments_change_under)))
    (if_Segments_change_under : PySem.W.isFn K (.ref f_Segments_change_under) = true)
    (l_Segments_change_under : K.lookup f_Segments_change_under = some ⟨oc_Segments_change_under, od_Segments_change_under, .func (PySem.W.fnOf "change_under" "Segments.change_under" (defArgs s_Segments_change_under) (defBody s_Segments_change_under) (defScope s_Segments_change_under) .none kV_Segments_change_under dc_Segments_change_under pm_Segments_change_under an_Segments_change_under (.ref c_Segments_change_under) ct_Segments_change_under), sl_Segments_change_under⟩)
    (h_Segments_change_under : PySem.W.codeIn K (.ref c_Segments_change_under) "Segments.change_under" = true)
    (k_Segments_change_under : PySem.W.keepIn K (.ref f_Segments_change_under) = true)
    (a_Segments_add_to : PySem.W.findIn K (.ref C_Segments) "add_to" = some (some (.ref f_Segments_add_to)))
    (if_Segments_add_to : PySem.W.isFn K (.ref f_Segments_add_to) = true)
    (l_Segments_add_to : K.lookup f_Segments_add_to = some ⟨oc_Segments_add_to, od_Segments_add_to, .func (PySem.W.fnOf "add_to" "Segments.add_to" (defArgs s_Segments_add_to) (defBody s_Segments_add_to) (defScope s_Segments_add_to) .none kV_Segments_add_to dc_Segments_add_to pm_Segments_add_to an_Segments_add_to (.ref c_Segments_add_to) ct_Segments_add_to), sl_Segments_add_to⟩)
    (h_Segments_add_to : PySem.W.codeIn K (.ref c_Segments_add_to) "Segments.add_to" = true)
    (k_Segments_add_to : PySem.W.keepIn K (.ref f_Segments_add_to) = true)
    (a_Segments_set_to : PySem.W.findIn K (.ref C_Segments) "set_to" = some (some (.ref f_Segments_set_to)))
    (if_Segments_set_to : PySem.W.isFn K (.ref f_Segments_set_to) = true)
    (l_Segments_set_to : K.lookup f_Segments_set_to = some ⟨oc_Segments_set_to, od_Segments_set_to, .func (PySem.W.fnOf "set_to" "Segments.set_to" (defArgs s_Segments_set_to) (defBody s_Segments_set_to) (defScope s_Segments_set_to) .none kV_Segments_set_to dc_Segments_set_to pm_Segments_set_to an_Segments_set_to (.ref c_Segments_set_to) ct_Segments_set_to), sl_Segments_set_to⟩)
    (h_Segments_set_to : PySem.W.codeIn K (.ref c_Segments_set_to) "Segments.set_to" = true)
    (k_Segments_set_to : PySem.W.keepIn K (.ref f_Segments_set_to) = true)
    (a_Segments_told_in : PySem.W.findIn K (.ref C_Segments) "told_in" = some (some (.ref f_Segments_told_in)))
    (if_Segments_told_in : PySem.W.isFn K (.ref f_Segments_told_in) = true)
    (l_Segments_told_in : K.lookup f_Segments_told_in = some ⟨oc_Segments_told_in, od_Segments_told_in, .func (PySem.W.fnOf "told_in" "Segments.told_in" (defArgs s_Segments_told_in) (defBody s_Segments_told_in) (defScope s_Segments_told_in) .none kV_Segments_told_in dc_Segments_told_in pm_Segments_told_in an_Segments_told_in (.ref c_Segments_told_in) ct_Segments_told_in), sl_Segments_told_in⟩)
    (h_Segments_told_in : PySem.W.codeIn K (.ref c_Segments_told_in) "Segments.told_in" = true)
    (k_Segments_told_in : PySem.W.keepIn K (.ref f_Segments_told_in) = true)
    (a_Segments_told_under : PySem.W.findIn K (.ref C_Segments) "told_under" = some (some (.ref f_Segments_told_under)))
    (if_Segments_told_under : PySem.W.isFn K (.ref f_Segments_told_under) = true)
    (l_Segments_told_under : K.lookup f_Segments_told_under = some ⟨oc_Segments_told_under, od_Segments_told_under, .func (PySem.W.fnOf "told_under" "Segments.told_under" (defArgs s_Segments_told_under) (defBody s_Segments_told_under) (defScope s_Segments_told_under) .none kV_Segments_told_under dc_Segments_told_under pm_Segments_told_under an_Segments_told_under (.ref c_Segments_told_under) ct_Segments_told_under), sl_Segments_told_under⟩)
    (h_Segments_told_under : PySem.W.codeIn K (.ref c_Segments_told_under) "Segments.told_under" = true)
    (k_Segments_told_under : PySem.W.keepIn K (.ref f_Segments_told_under) = true)
    (lk_Segments_told_under : K.lookup c_Segments_told_under = some ⟨oC_Segments_told_under, oD_Segments_told_under, .fields vC_Segments_told_under, sC_Segments_told_under⟩)
    (v11_Segments_told_under : vC_Segments_told_under[11]? = some (.ref P_Segments_told_under))
    (ch_Segments_told_under : PySem.W.codeHdIn K c_Segments_told_under P_Segments_told_under = true)
    (nP_Segments_told_under : K.lookup P_Segments_told_under = none)
    (a_Segments_all_values : PySem.W.findIn K (.ref C_Segments) "all_values" = some (some (.ref f_Segments_all_values)))
    (if_Segments_all_values : PySem.W.isFn K (.ref f_Segments_all_values) = true)
    (l_Segments_all_values : K.lookup f_Segments_all_values = some ⟨oc_Segments_all_values, od_Segments_all_values, .func (PySem.W.fnOf "all_values" "Segments.all_values" (defArgs s_Segments_all_values) (defBody s_Segments_all_values) (defScope s_Segments_all_values) .none kV_Segments_all_values dc_Segments_all_values pm_Segments_all_values an_Segments_all_values (.ref c_Segments_all_values) ct_Segments_all_values), sl_Segments_all_values⟩)
    (h_Segments_all_values : PySem.W.codeIn K (.ref c_Segments_all_values) "Segments.all_values" = true)
    (k_Segments_all_values : PySem.W.keepIn K (.ref f_Segments_all_values) = true)
    (lk_Segments_all_values : K.lookup c_Segments_all_values = some ⟨oC_Segments_all_values, oD_Segments_all_values, .fields vC_Segments_all_values, sC_Segments_all_values⟩)
    (v11_Segments_all_values : vC_Segments_all_values[11]? = some (.ref P_Segments_all_values))
    (ch_Segments_all_values : PySem.W.codeHdIn K c_Segments_all_values P_Segments_all_values = true)
    (nP_Segments_all_values : K.lookup P_Segments_all_values = none)
    (a_Segments_first_above : PySem.W.findIn K (.ref C_Segments) "first_above" = some (some (.ref f_Segments_first_above)))
    (if_Segments_first_above : PySem.W.isFn K (.ref f_Segments_first_above) = true)
    (l_Segments_first_above : K.lookup f_Segments_first_above = some ⟨oc_Segments_first_above, od_Segments_first_above, .func (PySem.W.fnOf "first_above" "Segments.first_above" (defArgs s_Segments_first_above) (defBody s_Segments_first_above) (defScope s_Segments_first_above) .none kV_Segments_first_above dc_Segments_first_above pm_Segments_first_above an_Segments_first_above (.ref c_Segments_first_above) ct_Segments_first_above), sl_Segments_first_above⟩)
    (h_Segments_first_above : PySem.W.codeIn K (.ref c_Segments_first_above) "Segments.first_above" = true)
    (k_Segments_first_above : PySem.W.keepIn K (.ref f_Segments_first_above) = true)
    (a_Segments_places_of : PySem.W.findIn K (.ref C_Segments) "places_of" = some (some (.ref f_Segments_places_of)))
    (if_Segments_places_of : PySem.W.isFn K (.ref f_Segments_places_of) = true)
    (l_Segments_places_of : K.lookup f_Segments_places_of = some ⟨oc_Segments_places_of, od_Segments_places_of, .func (PySem.W.fnOf "places_of" "Segments.places_of" (defArgs s_Segments_places_of) (defBody s_Segments_places_of) (defScope s_Segments_places_of) .none kV_Segments_places_of dc_Segments_places_of pm_Segments_places_of an_Segments_places_of (.ref c_Segments_places_of) ct_Segments_places_of), sl_Segments_places_of⟩)
    (h_Segments_places_of : PySem.W.codeIn K (.ref c_Segments_places_of) "Segments.places_of" = true)
    (k_Segments_places_of : PySem.W.keepIn K (.ref f_Segments_places_of) = true)
    (lk_Segments_places_of : K.lookup c_Segments_places_of = some ⟨oC_Segments_places_of, oD_Segments_places_of, .fields vC_Segments_places_of, sC_Segments_places_of⟩)
    (v11_Segments_places_of : vC_Segments_places_of[11]? = some (.ref P_Segments_places_of))
    (ch_Segments_places_of : PySem.W.codeHdIn K c_Segments_places_of P_Segments_places_of = true)
    (nP_Segments_places_of : K.lookup P_Segments_places_of = none)
    (a_Segments_reach_from : PySem.W.findIn K (.ref C_Segments) "reach_from" = some (some (.ref f_Segments_reach_from)))
    (if_Segments_reach_from : PySem.W.isFn K (.ref f_Segments_reach_from) = true)
    (l_Segments_reach_from : K.lookup f_Segments_reach_from = some ⟨oc_Segments_reach_from, od_Segments_reach_from, .func (PySem.W.fnOf "reach_from" "Segments.reach_from" (defArgs s_Segments_reach_from) (defBody s_Segments_reach_from) (defScope s_Segments_reach_from) .none kV_Segments_reach_from dc_Segments_reach_from pm_Segments_reach_from an_Segments_reach_from (.ref c_Segments_reach_from) ct_Segments_reach_from), sl_Segments_reach_from⟩)
    (h_Segments_reach_from : PySem.W.codeIn K (.ref c_Segments_reach_from) "Segments.reach_from" = true)
    (k_Segments_reach_from : PySem.W.keepIn K (.ref f_Segments_reach_from) = true)
    (a_Segments_nodes_for : PySem.W.findIn K (.ref C_Segments) "nodes_for" = some (some (.ref f_Segments_nodes_for)))
    (if_Segments_nodes_for : PySem.W.isFn K (.ref f_Segments_nodes_for) = true)
    (l_Segments_nodes_for : K.lookup f_Segments_nodes_for = some ⟨oc_Segments_nodes_for, od_Segments_nodes_for, .func (PySem.W.fnOf "nodes_for" "Segments.nodes_for" (defArgs s_Segments_nodes_for) (defBody s_Segments_nodes_for) (defScope s_Segments_nodes_for) .none kV_Segments_nodes_for dc_Segments_nodes_for pm_Segments_nodes_for an_Segments_nodes_for (.ref c_Segments_nodes_for) ct_Segments_nodes_for), sl_Segments_nodes_for⟩)
    (h_Segments_nodes_for : PySem.W.codeIn K (.ref c_Segments_nodes_for) "Segments.nodes_for" = true)
    (k_Segments_nodes_for : PySem.W.keepIn K (.ref f_Segments_nodes_for) = true)
    (a_best_part : PySem.W.nsIn K mainGlobals "best_part" = some (some (.ref f_best_part)))
    (l_best_part : K.lookup f_best_part = some ⟨oc_best_part, od_best_part, .func (PySem.W.fnOf "best_part" "best_part" (defArgs s_best_part) (defBody s_best_part) (defScope s_best_part) .none kV_best_part dc_best_part pm_best_part an_best_part (.ref c_best_part) ct_best_part), sl_best_part⟩)
    (h_best_part : PySem.W.codeIn K (.ref c_best_part) "best_part" = true)
    (k_best_part : PySem.W.keepIn K (.ref f_best_part) = true)
    (a_windows_least : PySem.W.nsIn K mainGlobals "windows_least" = some (some (.ref f_windows_least)))
    (l_windows_least : K.lookup f_windows_least = some ⟨oc_windows_least, od_windows_least, .func (PySem.W.fnOf "windows_least" "windows_least" (defArgs s_windows_least) (defBody s_windows_least) (defScope s_windows_least) .none kV_windows_least dc_windows_least pm_windows_least an_windows_least (.ref c_windows_least) ct_windows_least), sl_windows_least⟩)
    (h_windows_least : PySem.W.codeIn K (.ref c_windows_least) "windows_least" = true)
    (k_windows_least : PySem.W.keepIn K (.ref f_windows_least) = true)
    (lk_windows_least : K.lookup c_windows_least = some ⟨oC_windows_least, oD_windows_least, .fields vC_windows_least, sC_windows_least⟩)
    (v11_windows_least : vC_windows_least[11]? = some (.ref P_windows_least))
    (ch_windows_least : PySem.W.codeHdIn K c_windows_least P_windows_least = true)
    (nP_windows_least : K.lookup P_windows_least = none)
    (a__law_dice : PySem.W.nsIn K mainGlobals "_law_dice" = some (some (.ref f__law_dice)))
    (l__law_dice : K.lookup f__law_dice = some ⟨oc__law_dice, od__law_dice, .func (PySem.W.fnOf "_law_dice" "_law_dice" (defArgs s__law_dice) (defBody s__law_dice) (defScope s__law_dice) .none kV__law_dice dc__law_dice pm__law_dice an__law_dice (.ref c__law_dice) ct__law_dice), sl__law_dice⟩)
    (h__law_dice : PySem.W.codeIn K (.ref c__law_dice) "_law_dice" = true)
    (k__law_dice : PySem.W.keepIn K (.ref f__law_dice) = true)
    (a__law_roll : PySem.W.nsIn K mainGlobals "_law_roll" = some (some (.ref f__law_roll)))
    (l__law_roll : K.lookup f__law_roll = some ⟨oc__law_roll, od__law_roll, .func (PySem.W.fnOf "_law_roll" "_law_roll" (defArgs s__law_roll) (defBody s__law_roll) (defScope s__law_roll) .none kV__law_roll dc__law_roll pm__law_roll an__law_roll (.ref c__law_roll) ct__law_roll), sl__law_roll⟩)
    (h__law_roll : PySem.W.codeIn K (.ref c__law_roll) "_law_roll" = true)
    (k__law_roll : PySem.W.keepIn K (.ref f__law_roll) = true)
    (a__law_rounds : PySem.W.nsIn K mainGlobals "_law_rounds" = some (some (.ref f__law_rounds)))
    (l__law_rounds : K.lookup f__law_rounds = some ⟨oc__law_rounds, od__law_rounds, .func (PySem.W.fnOf "_law_rounds" "_law_rounds" (defArgs s__law_rounds) (defBody s__law_rounds) (defScope s__law_rounds) .none kV__law_rounds dc__law_rounds pm__law_rounds an__law_rounds (.ref c__law_rounds) ct__law_rounds), sl__law_rounds⟩)
    (h__law_rounds : PySem.W.codeIn K (.ref c__law_rounds) "_law_rounds" = true)
    (k__law_rounds : PySem.W.keepIn K (.ref f__law_rounds) = true)
    (a__law_told : PySem.W.nsIn K mainGlobals "_law_told" = some (some (.ref f__law_told)))
    (l__law_told : K.lookup f__law_told = some ⟨oc__law_told, od__law_told, .func (PySem.W.fnOf "_law_told" "_law_told" (defArgs s__law_told) (defBody s__law_told) (defScope s__law_told) .none kV__law_told dc__law_told pm__law_told an__law_told (.ref c__law_told) ct__law_told), sl__law_told⟩)
    (h__law_told : PySem.W.codeIn K (.ref c__law_told) "_law_told" = true)
    (k__law_told : PySem.W.keepIn K (.ref f__law_told) = true)
    (a__law_nodes : PySem.W.nsIn K mainGlobals "_law_nodes" = some (some (.ref f__law_nodes)))
    (l__law_nodes : K.lookup f__law_nodes = some ⟨oc__law_nodes, od__law_nodes, .func (PySem.W.fnOf "_law_nodes" "_law_nodes" (defArgs s__law_nodes) (defBody s__law_nodes) (defScope s__law_nodes) .none kV__law_nodes dc__law_nodes pm__law_nodes an__law_nodes (.ref c__law_nodes) ct__law_nodes), sl__law_nodes⟩)
    (h__law_nodes : PySem.W.codeIn K (.ref c__law_nodes) "_law_nodes" = true)
    (k__law_nodes : PySem.W.keepIn K (.ref f__law_nodes) = true)
    (a__law_plain : PySem.W.nsIn K mainGlobals "_law_plain" = some (some (.ref f__law_plain)))
    (l__law_plain : K.lookup f__law_plain = some ⟨oc__law_plain, od__law_plain, .func (PySem.W.fnOf "_law_plain" "_law_plain" (defArgs s__law_plain) (defBody s__law_plain) (defScope s__law_plain) .none kV__law_plain dc__law_plain pm__law_plain an__law_plain (.ref c__law_plain) ct__law_plain), sl__law_plain⟩)
    (h__law_plain : PySem.W.codeIn K (.ref c__law_plain) "_law_plain" = true)
    (k__law_plain : PySem.W.keepIn K (.ref f__law_plain) = true)
    (lk__law_plain : K.lookup c__law_plain = some ⟨oC__law_plain, oD__law_plain, .fields vC__law_plain, sC__law_plain⟩)
    (v11__law_plain : vC__law_plain[11]? = some (.ref P__law_plain))
    (ch__law_plain : PySem.W.codeHdIn K c__law_plain P__law_plain = true)
    (nP__law_plain : K.lookup P__law_plain = none)
    (a_law : PySem.W.nsIn K mainGlobals "law" = some (some (.ref f_law)))
    (l_law : K.lookup f_law = some ⟨oc_law, od_law, .func (PySem.W.fnOf "law" "law" (defArgs s_law) (defBody s_law) (defScope s_law) .none kV_law dc_law pm_law an_law (.ref c_law) ct_law), sl_law⟩)
    (h_law : PySem.W.codeIn K (.ref c_law) "law" = true)
    (k_law : PySem.W.keepIn K (.ref f_law) = true)
    (lk_law : K.lookup c_law = some ⟨oC_law, oD_law, .fields vC_law, sC_law⟩)
    (v11_law : vC_law[11]? = some (.ref P_law))
    (ch_law : PySem.W.codeHdIn K c_law P_law = true)
    (nP_law : K.lookup P_law = none)
    (pnd : [P_Segments_told_under, P_Segments_all_values, P_Segments_places_of, P_windows_least, P__law_plain, P_law].Nodup)
    (a_MOST_LONG : PySem.W.nsIn K mainGlobals "MOST_LONG" = some (some u_MOST_LONG))
    (rv_MOST_LONG : RelV (.int 500) u_MOST_LONG)
    (nb_len : PySem.W.nsIn K mainGlobals "len" = some none)
    (nb_list : PySem.W.nsIn K mainGlobals "list" = some none)
    (nb_min : PySem.W.nsIn K mainGlobals "min" = some none)
    (nb_max : PySem.W.nsIn K mainGlobals "max" = some none)
    (nb_tuple : PySem.W.nsIn K mainGlobals "tuple" = some none)
    (nb_sum : PySem.W.nsIn K mainGlobals "sum" = some none)
    (nb_range : PySem.W.nsIn K mainGlobals "range" = some none)
    (nb_enumerate : PySem.W.nsIn K mainGlobals "enumerate" = some none)
    (nb_int : PySem.W.nsIn K mainGlobals "int" = some none)
    (nb_abs : PySem.W.nsIn K mainGlobals "abs" = some none)
    (ht_Segments_told_under : h.get? P_Segments_told_under = some { cls := .none, data := .fields #[] })
    (ht_Segments_all_values : h.get? P_Segments_all_values = some { cls := .none, data := .fields #[] })
    (ht_Segments_places_of : h.get? P_Segments_places_of = some { cls := .none, data := .fields #[] })
    (ht_windows_least : h.get? P_windows_least = some { cls := .none, data := .fields #[] })
    (ht__law_plain : h.get? P__law_plain = some { cls := .none, data := .fields #[] })
    (ht_law : h.get? P_law = some { cls := .none, data := .fields #[] })
    : LawAtS PySem.Challenge.rw_treestack_k11_parts_of_a_row w K (L2.CX prg w) 104 63 "script" mg fa h := by
  have F_Segments___init__ := Y.df_mk (st := s_Segments___init__) (dvs := []) l_Segments___init__ h_Segments___init__ k_Segments___init__ (.inl ⟨rfl, rfl⟩)
  have b_Segments___init__ := F_Segments___init__.fund.bindsN (ps := ["self", "values"]) fun _ _ _ _ _ _ us hl => match us, hl with | [_, _], _ => rfl
  have F_Segments_build_node := Y.df_mk (st := s_Segments_build_node) (dvs := []) l_Segments_build_node h_Segments_build_node k_Segments_build_node (.inl ⟨rfl, rfl⟩)
  have b_Segments_build_node := F_Segments_build_node.fund.bindsN (ps := ["self", "node", "first", "behind", "values"]) fun _ _ _ _ _ _ us hl => match us, hl with | [_, _, _, _, _], _ => rfl
  have F_Segments_gather_two := Y.df_mk (st := s_Segments_gather_two) (dvs := []) l_Segments_gather_two h_Segments_gather_two k_Segments_gather_two (.inl ⟨rfl, rfl⟩)
  have b_Segments_gather_two := F_Segments_gather_two.fund.bindsN (ps := ["self", "node"]) fun _ _ _ _ _ _ us hl => match us, hl with | [_, _], _ => rfl
  have F_Segments_lay_on := Y.df_mk (st := s_Segments_lay_on) (dvs := []) l_Segments_lay_on h_Segments_lay_on k_Segments_lay_on (.inl ⟨rfl, rfl⟩)
  have b_Segments_lay_on := F_Segments_lay_on.fund.bindsN (ps := ["self", "node", "long", "word", "value"]) fun _ _ _ _ _ _ us hl => match us, hl with | [_, _, _, _, _], _ => rfl
  have F_Segments_push_down := Y.df_mk (st := s_Segments_push_down) (dvs := []) l_Segments_push_down h_Segments_push_down k_Segments_push_down (.inl ⟨rfl, rfl⟩)
  have b_Segments_push_down := F_Segments_push_down.fund.bindsN (ps := ["self", "node", "first", "behind"]) fun _ _ _ _ _ _ us hl => match us, hl with | [_, _, _, _], _ => rfl
  have F_Segments_check_part := Y.df_mk (st := s_Segments_check_part) (dvs := []) l_Segments_check_part h_Segments_check_part k_Segments_check_part (.inl ⟨rfl, rfl⟩)
  have b_Segments_check_part := F_Segments_check_part.fund.bindsN (ps := ["self", "first", "behind"]) fun _ _ _ _ _ _ us hl => match us, hl with | [_, _, _], _ => rfl
  have F_Segments_change_under := Y.df_mk (st := s_Segments_change_under) (dvs := []) l_Segments_change_under h_Segments_change_under k_Segments_change_under (.inl ⟨rfl, rfl⟩)
  have b_Segments_change_under := F_Segments_change_under.fund.bindsN (ps := ["self", "node", "here", "end", "first", "behind", "word", "value"]) fun _ _ _ _ _ _ us hl => match us, hl with | [_, _, _, _, _, _, _, _], _ => rfl
  have F_Segments_add_to := Y.df_mk (st := s_Segments_add_to) (dvs := []) l_Segments_add_to h_Segments_add_to k_Segments_add_to (.inl ⟨rfl, rfl⟩)
  have b_Segments_add_to := F_Segments_add_to.fund.bindsN (ps := ["self", "first", "behind", "value"]) fun _ _ _ _ _ _ us hl => match us, hl with | [_, _, _, _], _ => rfl
  have F_Segments_set_to := Y.df_mk (st := s_Segments_set_to) (dvs := []) l_Segments_set_to h_Segments_set_to k_Segments_set_to (.inl ⟨rfl, rfl⟩)
  have b_Segments_set_to := F_Segments_set_to.fund.bindsN (ps := ["self", "first", "behind", "value"]) fun _ _ _ _ _ _ us hl => match us, hl with | [_, _, _, _], _ => rfl
  have F_Segments_told_in := Y.df_mk (st := s_Segments_told_in) (dvs := []) l_Segments_told_in h_Segments_told_in k_Segments_told_in (.inl ⟨rfl, rfl⟩)
  have b_Segments_told_in := F_Segments_told_in.fund.bindsN (ps := ["self", "first", "behind"]) fun _ _ _ _ _ _ us hl => match us, hl with | [_, _, _], _ => rfl
  have F_Segments_told_under := Y.df_mk (st := s_Segments_told_under) (dvs := []) l_Segments_told_under h_Segments_told_under k_Segments_told_under (.inl ⟨rfl, rfl⟩)
  have b_Segments_told_under := F_Segments_told_under.fund.bindsN (ps := ["self", "node", "here", "end", "first", "behind"]) fun _ _ _ _ _ _ us hl => match us, hl with | [_, _, _, _, _, _], _ => rfl
  have F_Segments_all_values := Y.df_mk (st := s_Segments_all_values) (dvs := []) l_Segments_all_values h_Segments_all_values k_Segments_all_values (.inl ⟨rfl, rfl⟩)
  have b_Segments_all_values := F_Segments_all_values.fund.bindsN (ps := ["self"]) fun _ _ _ _ _ _ us hl => match us, hl with | [_], _ => rfl
  have F_Segments_first_above := Y.df_mk (st := s_Segments_first_above) (dvs := []) l_Segments_first_above h_Segments_first_above k_Segments_first_above (.inl ⟨rfl, rfl⟩)
  have b_Segments_first_above := F_Segments_first_above.fund.bindsN (ps := ["self", "start", "value"]) fun _ _ _ _ _ _ us hl => match us, hl with | [_, _, _], _ => rfl
  have F_Segments_places_of := Y.df_mk (st := s_Segments_places_of) (dvs := []) l_Segments_places_of h_Segments_places_of k_Segments_places_of (.inl ⟨rfl, rfl⟩)
  have b_Segments_places_of := F_Segments_places_of.fund.bindsN (ps := ["self", "first", "behind", "is_least"]) fun _ _ _ _ _ _ us hl => match us, hl with | [_, _, _, _], _ => rfl
  have F_Segments_reach_from := Y.df_mk (st := s_Segments_reach_from) (dvs := []) l_Segments_reach_from h_Segments_reach_from k_Segments_reach_from (.inl ⟨rfl, rfl⟩)
  have b_Segments_reach_from := F_Segments_reach_from.fund.bindsN (ps := ["self", "start", "goal"]) fun _ _ _ _ _ _ us hl => match us, hl with | [_, _, _], _ => rfl
  have F_Segments_nodes_for := Y.df_mk (st := s_Segments_nodes_for) (dvs := []) l_Segments_nodes_for h_Segments_nodes_for k_Segments_nodes_for (.inl ⟨rfl, rfl⟩)
  have b_Segments_nodes_for := F_Segments_nodes_for.fund.bindsN (ps := ["self", "first", "behind"]) fun _ _ _ _ _ _ us hl => match us, hl with | [_, _, _], _ => rfl
  have F_best_part := Y.df_mk (st := s_best_part) (dvs := []) l_best_part h_best_part k_best_part (.inl ⟨rfl, rfl⟩)
  have b_best_part := F_best_part.fund.bindsN (ps := ["values"]) fun _ _ _ _ _ _ us hl => match us, hl with | [_], _ => rfl
  have F_windows_least := Y.df_mk (st := s_windows_least) (dvs := []) l_windows_least h_windows_least k_windows_least (.inl ⟨rfl, rfl⟩)
  have b_windows_least := F_windows_least.fund.bindsN (ps := ["values", "long"]) fun _ _ _ _ _ _ us hl => match us, hl with | [_, _], _ => rfl
  have F__law_dice := Y.df_mk (st := s__law_dice) (dvs := []) l__law_dice h__law_dice k__law_dice (.inl ⟨rfl, rfl⟩)
  have b__law_dice := F__law_dice.fund.bindsN (ps := ["cell"]) fun _ _ _ _ _ _ us hl => match us, hl with | [_], _ => rfl
  have F__law_roll := Y.df_mk (st := s__law_roll) (dvs := []) l__law_roll h__law_roll k__law_roll (.inl ⟨rfl, rfl⟩)
  have b__law_roll := F__law_roll.fund.bindsN (ps := ["dice", "many"]) fun _ _ _ _ _ _ us hl => match us, hl with | [_, _], _ => rfl
  have F__law_rounds := Y.df_mk (st := s__law_rounds) (dvs := []) l__law_rounds h__law_rounds k__law_rounds (.inl ⟨rfl, rfl⟩)
  have b__law_rounds := F__law_rounds.fund.bindsN (ps := ["script", "most"]) fun _ _ _ _ _ _ us hl => match us, hl with | [_, _], _ => rfl
  have F__law_told := Y.df_mk (st := s__law_told) (dvs := []) l__law_told h__law_told k__law_told (.inl ⟨rfl, rfl⟩)
  have b__law_told := F__law_told.fund.bindsN (ps := ["what"]) fun _ _ _ _ _ _ us hl => match us, hl with | [_], _ => rfl
  have F__law_nodes := Y.df_mk (st := s__law_nodes) (dvs := []) l__law_nodes h__law_nodes k__law_nodes (.inl ⟨rfl, rfl⟩)
  have b__law_nodes := F__law_nodes.fund.bindsN (ps := ["here", "end", "first", "behind"]) fun _ _ _ _ _ _ us hl => match us, hl with | [_, _, _, _], _ => rfl
  have F__law_plain := Y.df_mk (st := s__law_plain) (dvs := []) l__law_plain h__law_plain k__law_plain (.inl ⟨rfl, rfl⟩)
  have b__law_plain := F__law_plain.fund.bindsN (ps := []) fun _ _ _ _ _ _ us hl => match us, hl with | [], _ => rfl
  have F_law := Y.df_mk (st := s_law) (dvs := []) l_law h_law k_law (.inl ⟨rfl, rfl⟩)
  have b_law := F_law.fund.bindsN (ps := ["script"]) fun _ _ _ _ _ _ us hl => match us, hl with | [_], _ => rfl
  have efa : f_law = fa := by have z := PySem.W.mg_of X G a_law; rw [hmg] at z; cases z; rfl
  subst efa
  refine ⟨PySem.W.fnOf "law" "law" (defArgs s_law) (defBody s_law) (defScope s_law) .none kV_law dc_law pm_law an_law (.ref c_law) ct_law, [(c_Segments_told_under, P_Segments_told_under), (c_Segments_all_values, P_Segments_all_values), (c_Segments_places_of, P_Segments_places_of), (c_windows_least, P_windows_least), (c__law_plain, P__law_plain), (c_law, P_law)], (fun vs H Q _ => match vs with | [.ref a] => (∃ ns : List Int, SqL K H a (ns.map V.int)) ∧ (∀ p ∈ ([(c_Segments_told_under, P_Segments_told_under), (c_Segments_all_values, P_Segments_all_values), (c_Segments_places_of, P_Segments_places_of), (c_windows_least, P_windows_least), (c__law_plain, P__law_plain), (c_law, P_law)] : List (Addr × Addr)), H p.2 = some (.tbl #[])) ∧ ∀ H', Q (.bl true) H' | _ => False), ?_, ?_, ?_, ?_, ?_, ?_⟩
  · intro p hp
    rcases List.mem_cons.mp hp with rfl | hp
    · exact ht_Segments_told_under
    rcases List.mem_cons.mp hp with rfl | hp
    · exact ht_Segments_all_values
    rcases List.mem_cons.mp hp with rfl | hp
    · exact ht_Segments_places_of
    rcases List.mem_cons.mp hp with rfl | hp
    · exact ht_windows_least
    rcases List.mem_cons.mp hp with rfl | hp
    · exact ht__law_plain
    rcases List.mem_cons.mp hp with rfl | hp
    · exact ht_law
    exact nomatch hp
  · intro p hp
    rcases List.mem_cons.mp hp with rfl | hp
    · exact nP_Segments_told_under
    rcases List.mem_cons.mp hp with rfl | hp
    · exact nP_Segments_all_values
    rcases List.mem_cons.mp hp with rfl | hp
    · exact nP_Segments_places_of
    rcases List.mem_cons.mp hp with rfl | hp
    · exact nP_windows_least
    rcases List.mem_cons.mp hp with rfl | hp
    · exact nP__law_plain
    rcases List.mem_cons.mp hp with rfl | hp
    · exact nP_law
    exact nomatch hp
  · intro p hp
    rcases List.mem_cons.mp hp with rfl | hp
    · exact PySem.W.codeHd_of_K X ch_Segments_told_under
    rcases List.mem_cons.mp hp with rfl | hp
    · exact PySem.W.codeHd_of_K X ch_Segments_all_values
    rcases List.mem_cons.mp hp with rfl | hp
    · exact PySem.W.codeHd_of_K X ch_Segments_places_of
    rcases List.mem_cons.mp hp with rfl | hp
    · exact PySem.W.codeHd_of_K X ch_windows_least
    rcases List.mem_cons.mp hp with rfl | hp
    · exact PySem.W.codeHd_of_K X ch__law_plain
    rcases List.mem_cons.mp hp with rfl | hp
    · exact PySem.W.codeHd_of_K X ch_law
    exact nomatch hp
  · intro s u
    exact BindsTo.of_eq rfl
  · intro H a ns _ _ ht hs
    exact ⟨⟨ns, hs⟩, ht, fun _ => rfl⟩
  · intro base X G tb
    have tb_Segments_told_under := tb (c_Segments_told_under, P_Segments_told_under) (by simp)
    have tb_Segments_all_values := tb (c_Segments_all_values, P_Segments_all_values) (by simp)
    have tb_Segments_places_of := tb (c_Segments_places_of, P_Segments_places_of) (by simp)
    have tb_windows_least := tb (c_windows_least, P_windows_least) (by simp)
    have tb__law_plain := tb (c__law_plain, P__law_plain) (by simp)
    have tb_law := tb (c_law, P_law) (by simp)
    let T : Env w K mg base := { C_SegmentError := C_SegmentError, mg_SegmentError := PySem.W.mg_of X G a_SegmentError, x_SegmentError := x_SegmentError, k_SegmentError := k_SegmentError, bb_SegmentError := bb_SegmentError, tt_SegmentError := tt_SegmentError, ex_SegmentError := Y.exm_self bb_SegmentError i_SegmentError tt_SegmentError su_SegmentError, C_Segments := C_Segments, mg_Segments := PySem.W.mg_of X G a_Segments, cl_Segments := ⟨pg_Segments, hd_Segments, po_Segments, sa_Segments⟩, na_Segments_many := na_Segments_many, na_Segments_nodes := na_Segments_nodes, f_Segments___init__ := f_Segments___init__, c_Segments___init__ := c_Segments___init__, fd_Segments___init__ := _, F_Segments___init__ := F_Segments___init__, b_Segments___init__ := b_Segments___init__, mk_Segments := ⟨mk_Segments, a_Segments___init__, if_Segments___init__, kc_Segments⟩, f_Segments_build_node := f_Segments_build_node, c_Segments_build_node := c_Segments_build_node, fd_Segments_build_node := _, F_Segments_build_node := F_Segments_build_node, b_Segments_build_node := b_Segments_build_node, me_Segments_build_node := ⟨a_Segments_build_node, if_Segments_build_node, k_Segments_build_node⟩, f_Segments_gather_two := f_Segments_gather_two, c_Segments_gather_two := c_Segments_gather_two, fd_Segments_gather_two := _, F_Segments_gather_two := F_Segments_gather_two, b_Segments_gather_two := b_Segments_gather_two, me_Segments_gather_two := ⟨a_Segments_gather_two, if_Segments_gather_two, k_Segments_gather_two⟩, f_Segments_lay_on := f_Segments_lay_on, c_Segments_lay_on := c_Segments_lay_on, fd_Segments_lay_on := _, F_Segments_lay_on := F_Segments_lay_on, b_Segments_lay_on := b_Segments_lay_on, me_Segments_lay_on := ⟨a_Segments_lay_on, if_Segments_lay_on, k_Segments_lay_on⟩, f_Segments_push_down := f_Segments_push_down, c_Segments_push_down := c_Segments_push_down, fd_Segments_push_down := _, F_Segments_push_down := F_Segments_push_down, b_Segments_push_down := b_Segments_push_down, me_Segments_push_down := ⟨a_Segments_push_down, if_Segments_push_down, k_Segments_push_down⟩, f_Segments_check_part := f_Segments_check_part, c_Segments_check_part := c_Segments_check_part, fd_Segments_check_part := _, F_Segments_check_part := F_Segments_check_part, b_Segments_check_part := b_Segments_check_part, me_Segments_check_part := ⟨a_Segments_check_part, if_Segments_check_part, k_Segments_check_part⟩, f_Segments_change_under := f_Segments_change_under, c_Segments_change_under := c_Segments_change_under, fd_Segments_change_under := _, F_Segments_change_under := F_Segments_change_under, b_Segments_change_under := b_Segments_change_under, me_Segments_change_under := ⟨a_Segments_change_under, if_Segments_change_under, k_Segments_change_under⟩, f_Segments_add_to := f_Segments_add_to, c_Segments_add_to := c_Segments_add_to, fd_Segments_add_to := _, F_Segments_add_to := F_Segments_add_to, b_Segments_add_to := b_Segments_add_to, me_Segments_add_to := ⟨a_Segments_add_to, if_Segments_add_to, k_Segments_add_to⟩, f_Segments_set_to := f_Segments_set_to, c_Segments_set_to := c_Segments_set_to, fd_Segments_set_to := _, F_Segments_set_to := F_Segments_set_to, b_Segments_set_to := b_Segments_set_to, me_Segments_set_to := ⟨a_Segments_set_to, if_Segments_set_to, k_Segments_set_to⟩, f_Segments_told_in := f_Segments_told_in, c_Segments_told_in := c_Segments_told_in, fd_Segments_told_in := _, F_Segments_told_in := F_Segments_told_in, b_Segments_told_in := b_Segments_told_in, me_Segments_told_in := ⟨a_Segments_told_in, if_Segments_told_in, k_Segments_told_in⟩, f_Segments_told_under := f_Segments_told_under, c_Segments_told_under := c_Segments_told_under, fd_Segments_told_under := _, F_Segments_told_under := F_Segments_told_under, b_Segments_told_under := b_Segments_told_under, me_Segments_told_under := ⟨a_Segments_told_under, if_Segments_told_under, k_Segments_told_under⟩, P_Segments_told_under := P_Segments_told_under, tb_Segments_told_under := tb_Segments_told_under, f_Segments_all_values := f_Segments_all_values, c_Segments_all_values := c_Segments_all_values, fd_Segments_all_values := _, F_Segments_all_values := F_Segments_all_values, b_Segments_all_values := b_Segments_all_values, me_Segments_all_values := ⟨a_Segments_all_values, if_Segments_all_values, k_Segments_all_values⟩, P_Segments_all_values := P_Segments_all_values, tb_Segments_all_values := tb_Segments_all_values, f_Segments_first_above := f_Segments_first_above, c_Segments_first_above := c_Segments_first_above, fd_Segments_first_above := _, F_Segments_first_above := F_Segments_first_above, b_Segments_first_above := b_Segments_first_above, me_Segments_first_above := ⟨a_Segments_first_above, if_Segments_first_above, k_Segments_first_above⟩, f_Segments_places_of := f_Segments_places_of, c_Segments_places_of := c_Segments_places_of, fd_Segments_places_of := _, F_Segments_places_of := F_Segments_places_of, b_Segments_places_of := b_Segments_places_of, me_Segments_places_of := ⟨a_Segments_places_of, if_Segments_places_of, k_Segments_places_of⟩, P_Segments_places_of := P_Segments_places_of, tb_Segments_places_of := tb_Segments_places_of, f_Segments_reach_from := f_Segments_reach_from, c_Segments_reach_from := c_Segments_reach_from, fd_Segments_reach_from := _, F_Segments_reach_from := F_Segments_reach_from, b_Segments_reach_from := b_Segments_reach_from, me_Segments_reach_from := ⟨a_Segments_reach_from, if_Segments_reach_from, k_Segments_reach_from⟩, f_Segments_nodes_for := f_Segments_nodes_for, c_Segments_nodes_for := c_Segments_nodes_for, fd_Segments_nodes_for := _, F_Segments_nodes_for := F_Segments_nodes_for, b_Segments_nodes_for := b_Segments_nodes_for, me_Segments_nodes_for := ⟨a_Segments_nodes_for, if_Segments_nodes_for, k_Segments_nodes_for⟩, f_best_part := f_best_part, c_best_part := c_best_part, fd_best_part := _, F_best_part := F_best_part, b_best_part := b_best_part, mg_best_part := PySem.W.mg_of X G a_best_part, f_windows_least := f_windows_least, c_windows_least := c_windows_least, fd_windows_least := _, F_windows_least := F_windows_least, b_windows_least := b_windows_least, mg_windows_least := PySem.W.mg_of X G a_windows_least, P_windows_least := P_windows_least, tb_windows_least := tb_windows_least, f__law_dice := f__law_dice, c__law_dice := c__law_dice, fd__law_dice := _, F__law_dice := F__law_dice, b__law_dice := b__law_dice, mg__law_dice := PySem.W.mg_of X G a__law_dice, f__law_roll := f__law_roll, c__law_roll := c__law_roll, fd__law_roll := _, F__law_roll := F__law_roll, b__law_roll := b__law_roll, mg__law_roll := PySem.W.mg_of X G a__law_roll, f__law_rounds := f__law_rounds, c__law_rounds := c__law_rounds, fd__law_rounds := _, F__law_rounds := F__law_rounds, b__law_rounds := b__law_rounds, mg__law_rounds := PySem.W.mg_of X G a__law_rounds, f__law_told := f__law_told, c__law_told := c__law_told, fd__law_told := _, F__law_told := F__law_told, b__law_told := b__law_told, mg__law_told := PySem.W.mg_of X G a__law_told, f__law_nodes := f__law_nodes, c__law_nodes := c__law_nodes, fd__law_nodes := _, F__law_nodes := F__law_nodes, b__law_nodes := b__law_nodes, mg__law_nodes := PySem.W.mg_of X G a__law_nodes, f__law_plain := f__law_plain, c__law_plain := c__law_plain, fd__law_plain := _, F__law_plain := F__law_plain, b__law_plain := b__law_plain, mg__law_plain := PySem.W.mg_of X G a__law_plain, P__law_plain := P__law_plain, tb__law_plain := tb__law_plain, f_law := f_law, c_law := c_law, fd_law := _, F_law := F_law, b_law := b_law, mg_law := PySem.W.mg_of X G a_law, P_law := P_law, tb_law := tb_law, pnd := pnd, u_MOST_LONG := u_MOST_LONG, mg_MOST_LONG := PySem.W.mg_of X G a_MOST_LONG, rv_MOST_LONG := rv_MOST_LONG, no_len := PySem.W.mg_none_of X G nb_len, no_list := PySem.W.mg_none_of X G nb_list, no_min := PySem.W.mg_none_of X G nb_min, no_max := PySem.W.mg_none_of X G nb_max, no_tuple := PySem.W.mg_none_of X G nb_tuple, no_sum := PySem.W.mg_none_of X G nb_sum, no_range := PySem.W.mg_none_of X G nb_range, no_enumerate := PySem.W.mg_none_of X G nb_enumerate, no_int := PySem.W.mg_none_of X G nb_int, no_abs := PySem.W.mg_none_of X G nb_abs }
    refine FnOk.imp (ok_law T) fun vs H Q E hq => ?_
    unfold sp_law
    split at hq
    · obtain ⟨h1, h2, h3⟩ := hq
      refine ⟨h1, ?_, h3⟩
      intro p hp
      rcases List.mem_cons.mp hp with rfl | hp
      · exact TabS.nil (h2 (c_Segments_told_under, P_Segments_told_under) (by simp))
      rcases List.mem_cons.mp hp with rfl | hp
      · exact TabS.nil (h2 (c_Segments_all_values, P_Segments_all_values) (by simp))
      rcases List.mem_cons.mp hp with rfl | hp
      · exact TabS.nil (h2 (c_Segments_places_of, P_Segments_places_of) (by simp))
      rcases List.mem_cons.mp hp with rfl | hp
      · exact TabS.nil (h2 (c_windows_least, P_windows_least) (by simp))
      rcases List.mem_cons.mp hp with rfl | hp
      · exact TabS.nil (h2 (c__law_plain, P__law_plain) (by simp))
      rcases List.mem_cons.mp hp with rfl | hp
      · exact TabS.nil (h2 (c_law, P_law) (by simp))
      exact nomatch hp
    · exact hq.elim
end Z

set_option Elab.async false
set_option pp.maxSteps 300
set_option pp.deepTerms false
set_option maxRecDepth 100000
open PySem PySem.W PyProof.Rows L2
set_option maxHeartbeats 0
open_top hdr for PySem.Challenge.rw_treestack_k11_parts_of_a_row
set_option maxHeartbeats 200000
def asOf {q : Program} {loose : List Str} {XP : (Str → Option Value) → Heap → Prop} {K : Params → Frag} {as : List Addr} {e : ∀ P, as = (K P).map (·.1)} {ts : List Addr} {R : RowW} {d : DefRec} {us} {f} {G : Prop}
  (_ : WalkO q loose XP (kmHook K as e ts).says R d us f → G) : List Addr := as
set_option maxHeartbeats 0 in
theorem PySem.Challenge.cw_treestack_k11_parts_of_a_row_holds : PySem.Challenge.rw_treestack_k11_parts_of_a_row.Holds := by
  w_on; o_law
  o_head (kmHook hdr.heap_39 (asOf hdr) (fun _ => by kernel_rfl) [118, 125, 139, 174, 214, 219])
  (case hw => w_witness2)
  refine LamX.walk_ofTs (l := PySem.Challenge.rw_treestack_k11_parts_of_a_row) (n := 63) (k := 104) (x := "script") (CX := fun w => L2.CX Z.prg w) rfl (by decide) rfl ⟨rfl, by decide, by decide⟩ (fun w h Y => PySem.W.km_in_of Y) ?F ?H
  case H =>
    intro w H s e s' h
    obtain ⟨_, _, _, _, _, h⟩ := h
    simp at h
  case F =>
    intro w mg fa h Y KX G hmg
    have Ht := PySem.W.km_tabs_of Y
    clear Y
    refine' Z.law_at KX G hmg ?a_SegmentError ?x_SegmentError ?k_SegmentError ?bb_SegmentError ?tt_SegmentError ?i_SegmentError ?su_SegmentError ?a_Segments ?pg_Segments ?hd_Segments ?po_Segments ?sa_Segments ?na_Segments_many ?na_Segments_nodes ?a_Segments___init__ ?if_Segments___init__ ?l_Segments___init__ ?h_Segments___init__ ?k_Segments___init__ ?mk_Segments ?kc_Segments ?a_Segments_build_node ?if_Segments_build_node ?l_Segments_build_node ?h_Segments_build_node ?k_Segments_build_node ?a_Segments_gather_two ?if_Segments_gather_two ?l_Segments_gather_two ?h_Segments_gather_two ?k_Segments_gather_two ?a_Segments_lay_on ?if_Segments_lay_on ?l_Segments_lay_on ?h_Segments_lay_on ?k_Segments_lay_on ?a_Segments_push_down ?if_Segments_push_down ?l_Segments_push_down ?h_Segments_push_down ?k_Segments_push_down ?a_Segments_check_part ?if_Segments_check_part ?l_Segments_check_part ?h_Segments_check_part ?k_Segments_check_part ?a_Segments_change_under ?if_Segments_change_under ?l_Segments_change_under ?h_Segments_change_under ?k_Segments_change_under ?a_Segments_add_to ?if_Segments_add_to ?l_Segments_add_to ?h_Segments_add_to ?k_Segments_add_to ?a_Segments_set_to ?if_Segments_set_to ?l_Segments_set_to ?h_Segments_set_to ?k_Segments_set_to ?a_Segments_told_in ?if_Segments_told_in ?l_Segments_told_in ?h_Segments_told_in ?k_Segments_told_in ?a_Segments_told_under ?if_Segments_told_under ?l_Segments_told_under ?h_Segments_told_under ?k_Segments_told_under ?lk_Segments_told_under ?v11_Segments_told_under ?ch_Segments_told_under ?nP_Segments_told_under ?a_Segments_all_values ?if_Segments_all_values ?l_Segments_all_values ?h_Segments_all_values ?k_Segments_all_values ?lk_Segments_all_values ?v11_Segments_all_values ?ch_Segments_all_values ?nP_Segments_all_values ?a_Segments_first_above ?if_Segments_first_above ?l_Segments_first_above ?h_Segments_first_above ?k_Segments_first_above ?a_Segments_places_of ?if_Segments_places_of ?l_Segments_places_of ?h_Segments_places_of ?k_Segments_places_of ?lk_Segments_places_of ?v11_Segments_places_of ?ch_Segments_places_of ?nP_Segments_places_of ?a_Segments_reach_from ?if_Segments_reach_from ?l_Segments_reach_from ?h_Segments_reach_from ?k_Segments_reach_from ?a_Segments_nodes_for ?if_Segments_nodes_for ?l_Segments_nodes_for ?h_Segments_nodes_for ?k_Segments_nodes_for ?a_best_part ?l_best_part ?h_best_part ?k_best_part ?a_windows_least ?l_windows_least ?h_windows_least ?k_windows_least ?lk_windows_least ?v11_windows_least ?ch_windows_least ?nP_windows_least ?a__law_dice ?l__law_dice ?h__law_dice ?k__law_dice ?a__law_roll ?l__law_roll ?h__law_roll ?k__law_roll ?a__law_rounds ?l__law_rounds ?h__law_rounds ?k__law_rounds ?a__law_told ?l__law_told ?h__law_told ?k__law_told ?a__law_nodes ?l__law_nodes ?h__law_nodes ?k__law_nodes ?a__law_plain ?l__law_plain ?h__law_plain ?k__law_plain ?lk__law_plain ?v11__law_plain ?ch__law_plain ?nP__law_plain ?a_law ?l_law ?h_law ?k_law ?lk_law ?v11_law ?ch_law ?nP_law ?pnd ?a_MOST_LONG ?rv_MOST_LONG ?nb_len ?nb_list ?nb_min ?nb_max ?nb_tuple ?nb_sum ?nb_range ?nb_enumerate ?nb_int ?nb_abs ?ht_Segments_told_under ?ht_Segments_all_values ?ht_Segments_places_of ?ht_windows_least ?ht__law_plain ?ht_law
    (case a_SegmentError => k_is)
    (case x_SegmentError => k_exc)
    (case k_SegmentError => k_is)
    (case bb_SegmentError => k_is)
    (case tt_SegmentError => k_is)
    (case i_SegmentError => k_is)
    (case su_SegmentError => (first | rfl | k_is))
    (case a_Segments => k_is)
    (case pg_Segments => k_is)
    (case hd_Segments => k_is)
    (case po_Segments => k_is)
    (case sa_Segments => k_is)
    (case na_Segments_many => k_is)
    (case na_Segments_nodes => k_is)
    (case a_Segments___init__ => k_is)
    (case if_Segments___init__ => k_is)
    (case l_Segments___init__ => k_is)
    (case h_Segments___init__ => k_is)
    (case k_Segments___init__ => k_is)
    (case mk_Segments => k_is)
    (case kc_Segments => k_is)
    (case a_Segments_build_node => k_is)
    (case if_Segments_build_node => k_is)
    (case l_Segments_build_node => k_is)
    (case h_Segments_build_node => k_is)
    (case k_Segments_build_node => k_is)
    (case a_Segments_gather_two => k_is)
    (case if_Segments_gather_two => k_is)
    (case l_Segments_gather_two => k_is)
    (case h_Segments_gather_two => k_is)
    (case k_Segments_gather_two => k_is)
    (case a_Segments_lay_on => k_is)
    (case if_Segments_lay_on => k_is)
    (case l_Segments_lay_on => k_is)
    (case h_Segments_lay_on => k_is)
    (case k_Segments_lay_on => k_is)
    (case a_Segments_push_down => k_is)
    (case if_Segments_push_down => k_is)
    (case l_Segments_push_down => k_is)
    (case h_Segments_push_down => k_is)
    (case k_Segments_push_down => k_is)
    (case a_Segments_check_part => k_is)
    (case if_Segments_check_part => k_is)
    (case l_Segments_check_part => k_is)
    (case h_Segments_check_part => k_is)
    (case k_Segments_check_part => k_is)
    (case a_Segments_change_under => k_is)
    (case if_Segments_change_under => k_is)
    (case l_Segments_change_under => k_is)
    (case h_Segments_change_under => k_is)
    (case k_Segments_change_under => k_is)
    (case a_Segments_add_to => k_is)
    (case if_Segments_add_to => k_is)
    (case l_Segments_add_to => k_is)
    (case h_Segments_add_to => k_is)
    (case k_Segments_add_to => k_is)
    (case a_Segments_set_to => k_is)
    (case if_Segments_set_to => k_is)
    (case l_Segments_set_to => k_is)
    (case h_Segments_set_to => k_is)
    (case k_Segments_set_to => k_is)
    (case a_Segments_told_in => k_is)
    (case if_Segments_told_in => k_is)
    (case l_Segments_told_in => k_is)
    (case h_Segments_told_in => k_is)
    (case k_Segments_told_in => k_is)
    (case a_Segments_told_under => k_is)
    (case if_Segments_told_under => k_is)
    (case l_Segments_told_under => k_is)
    (case h_Segments_told_under => k_is)
    (case k_Segments_told_under => k_is)
    (case lk_Segments_told_under => k_is)
    (case v11_Segments_told_under => exact rfl)
    (case ch_Segments_told_under => kernel_rfl)
    (case nP_Segments_told_under => kernel_rfl)
    (case a_Segments_all_values => k_is)
    (case if_Segments_all_values => k_is)
    (case l_Segments_all_values => k_is)
    (case h_Segments_all_values => k_is)
    (case k_Segments_all_values => k_is)
    (case lk_Segments_all_values => k_is)
    (case v11_Segments_all_values => exact rfl)
    (case ch_Segments_all_values => kernel_rfl)
    (case nP_Segments_all_values => kernel_rfl)
    (case a_Segments_first_above => k_is)
    (case if_Segments_first_above => k_is)
    (case l_Segments_first_above => k_is)
    (case h_Segments_first_above => k_is)
    (case k_Segments_first_above => k_is)
    (case a_Segments_places_of => k_is)
    (case if_Segments_places_of => k_is)
    (case l_Segments_places_of => k_is)
    (case h_Segments_places_of => k_is)
    (case k_Segments_places_of => k_is)
    (case lk_Segments_places_of => k_is)
    (case v11_Segments_places_of => exact rfl)
    (case ch_Segments_places_of => kernel_rfl)
    (case nP_Segments_places_of => kernel_rfl)
    (case a_Segments_reach_from => k_is)
    (case if_Segments_reach_from => k_is)
    (case l_Segments_reach_from => k_is)
    (case h_Segments_reach_from => k_is)
    (case k_Segments_reach_from => k_is)
    (case a_Segments_nodes_for => k_is)
    (case if_Segments_nodes_for => k_is)
    (case l_Segments_nodes_for => k_is)
    (case h_Segments_nodes_for => k_is)
    (case k_Segments_nodes_for => k_is)
    (case a_best_part => k_is)
    (case l_best_part => k_is)
    (case h_best_part => k_is)
    (case k_best_part => k_is)
    (case a_windows_least => k_is)
    (case l_windows_least => k_is)
    (case h_windows_least => k_is)
    (case k_windows_least => k_is)
    (case lk_windows_least => k_is)
    (case v11_windows_least => exact rfl)
    (case ch_windows_least => kernel_rfl)
    (case nP_windows_least => kernel_rfl)
    (case a__law_dice => k_is)
    (case l__law_dice => k_is)
    (case h__law_dice => k_is)
    (case k__law_dice => k_is)
    (case a__law_roll => k_is)
    (case l__law_roll => k_is)
    (case h__law_roll => k_is)
    (case k__law_roll => k_is)
    (case a__law_rounds => k_is)
    (case l__law_rounds => k_is)
    (case h__law_rounds => k_is)
    (case k__law_rounds => k_is)
    (case a__law_told => k_is)
    (case l__law_told => k_is)
    (case h__law_told => k_is)
    (case k__law_told => k_is)
    (case a__law_nodes => k_is)
    (case l__law_nodes => k_is)
    (case h__law_nodes => k_is)
    (case k__law_nodes => k_is)
    (case a__law_plain => k_is)
    (case l__law_plain => k_is)
    (case h__law_plain => k_is)
    (case k__law_plain => k_is)
    (case lk__law_plain => k_is)
    (case v11__law_plain => exact rfl)
    (case ch__law_plain => kernel_rfl)
    (case nP__law_plain => kernel_rfl)
    (case a_law => k_is)
    (case l_law => k_is)
    (case h_law => k_is)
    (case k_law => k_is)
    (case lk_law => k_is)
    (case v11_law => exact rfl)
    (case ch_law => kernel_rfl)
    (case nP_law => kernel_rfl)
    (case pnd => (first | decide | simp))
    (case a_MOST_LONG => k_is)
    (case rv_MOST_LONG => (first | exact rfl | exact ⟨_, rfl⟩))
    (case nb_len => k_is)
    (case nb_list => k_is)
    (case nb_min => k_is)
    (case nb_max => k_is)
    (case nb_tuple => k_is)
    (case nb_sum => k_is)
    (case nb_range => k_is)
    (case nb_enumerate => k_is)
    (case nb_int => k_is)
    (case nb_abs => k_is)
    (case ht_Segments_told_under => exact Ht _ (by simp))
    (case ht_Segments_all_values => exact Ht _ (by simp))
    (case ht_Segments_places_of => exact Ht _ (by simp))
    (case ht_windows_least => exact Ht _ (by simp))
    (case ht__law_plain => exact Ht _ (by simp))
    (case ht_law => exact Ht _ (by simp))


